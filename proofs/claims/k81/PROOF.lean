import PyProof.Rows.All
import Wide.All
import OpenK.AllK
import Wide.FinOn
import KE.KExcSuper
import HandS.ForMost
import HandS.ForExc
import HandS.Nested
import HandS.ExcInit
import HandS.Defaults
import HandS.Head0
import HandS.Head1
import HandS.Head2
import HandS.HeadEnd
import HandS.HeadHook1
import HandS.HeadHook2
import KE.KExcIs
import HandS.IsInst
import HandS.ExcField
import HandS.TryMany
import HandS.Wide
import HandS.Style
import HandS.Deep
import HandS.SetKeys
import HandS.Comp
import HandS.OwnEq
import HandS.ExcOwn
import HandS.CallSlots
import KE.KStateDown
import Lean
import PySem.Challenge.RW_barclips_k81_errors_apart
set_option Elab.async false
set_option linter.all false
set_option maxRecDepth 100000
set_option maxHeartbeats 4000000
/-! BxSup: defs that say super(): a body read at its own code, the call of super().m(..). -/
namespace Bx
open PySem PySem.Spec PyProof.Rows L2 NdefX

/-! ### judgements at the code that runs -/
structure PEC (X : Cx) (c : Code) (e : Expr) (t : TE) : Prop where
  run : ∀ (pins : List (Addr × Obj)) (s : Shared) (σ : L2.St) (H : Hp) (Q : VK), Inv X pins σ H s → t σ H Q → PySem.wpAt (model X.prog X.w) X.A c (eval e X.env) (EP X pins σ Q) X.xe s
structure PSsC (X : Cx) (c : Code) (st : List Stmt) (t : TS) : Prop where
  run : ∀ (pins : List (Addr × Obj)) (s : Shared) (σ : L2.St) (H : Hp) (D : Ends), Inv X pins σ H s → t D σ H → PySem.wpAt (model X.prog X.w) X.A c (execs st X.env) (SP X pins D) X.xe s
section
variable {X : Cx} {c : Code} {e : Expr} {st : Stmt} {rest : List Stmt} {te : TE} {t u : TS} {pos : Pos}
theorem PEC.of (h : PE X e te) : PEC X c e te := ⟨fun pins s σ H Q I q => wpAt_of_wpAny (h.run pins s σ H Q I q)⟩
theorem PSsC.of {body : List Stmt} (h : PSs X body t) : PSsC X c body t := ⟨fun pins s σ H D I q => wpAt_of_wpAny (h.run pins s σ H D I q)⟩
/-- e; rest -/
theorem pssC_expr (he : PEC X c e te) (hr : PSs X rest u) (hs : swapsWith e none pos.line X.env = pure false := by rfl) : PSsC X c (.Expr e pos :: rest) (tSeq (tDrop te) u) := by
  refine ⟨fun pins s σ H D I h => ?_⟩
  refine ks_wpAt_execs_cons (ks_wpAt_Expr_any (ks_wpAt_mono (he.run pins s σ H _ I h) (fun v s1 hv => ?_) fun _ _ x => x) I.quiet hs)
  obtain ⟨x, H1, I1, r1, q1⟩ := hv
  exact wpAt_of_wpAny (hr.run pins s1 σ H1 D I1 q1)
/-- x = e; rest -/
theorem pssC_set {i : Nat} {x : Str} {pos' : Pos} (hN : X.N.Nodup) (hi : X.N[i]? = some x) (hx : Loc X.env.scope x) (he : PEC X c e te) (hr : PSs X rest u) (hf : X.fn x = true ∨ X.env.scope.names.lookup x = some .local := by first | exact .inl rfl | exact .inr rfl)
    (hs : swapsWith e (some (.Name x pos')) pos.line X.env = pure false := by rfl) : PSsC X c (.Assign [.Name x pos'] e pos :: rest) (tSeq (tAsg te (gName i)) u) := by
  refine ⟨fun pins s σ H D I h => ?_⟩
  refine ks_wpAt_execs_cons (ks_wpAt_Assign_Name (ks_wpAt_mono (he.run pins s σ H _ I h) (fun v s1 hv => ?_) fun _ _ x => x) hs)
  obtain ⟨x, H1, I1, r1, q1⟩ := hv
  exact store_ok I1 hN hi hx r1 (fun s2 I2 => wpAt_of_wpAny (hr.run pins s2 _ H1 D I2 q1)) hf
/-- return e -/
theorem pssC_ret (he : PEC X c e te) : PSsC X c (.Return (some e) pos :: rest) (tRet te) := by
  refine ⟨fun pins s σ H D I h => ?_⟩
  refine ks_wpAt_execs_cons (ks_wpAt_Return_some (ks_wpAt_mono (he.run pins s σ H _ I h) (fun v s1 hv => ?_) fun _ _ x => x))
  obtain ⟨x, H1, I1, r1, q1⟩ := hv
  exact ⟨x, σ, H1, I1, r1, q1⟩
end

/-! ### a def whose cell __class__ stands in the written part -/
section
variable {CX : CXT} {P : Program} {w : World} {K : PySem.W.Frag} {mg : Str → Option Value} {base : Heap} {k : Nat} {f cc cda D : Addr} {name qual : Str} {params : Arguments} {body : List Stmt} {scope : Scope} {dV kV doc pm ct oc : Value} {an od : Option Addr}
  {osl : Array (Option Value)} {N ps : List Str} {sp : Sp}
theorem fn_sup (lk : K.lookup f = some ⟨oc, od, .func (PySem.W.fnX name qual params body scope [("__class__", cc)] dV kV doc pm an (.ref cda) ct), osl⟩) (hcd : PySem.W.codeIn K (.ref cda) qual = true)
    (hcell : ∃ cl cld csl, K.lookup cc = some ⟨cl, cld, .cell (some (.ref D)), csl⟩) (S : NScope N ps ["__class__"] scope) (len : ∀ vs H Q E, sp vs H Q E → vs.length = ps.length)
    (hbody : ∀ (A : Around) (outer : List Env) (s : Shared) (H : Hp) (vs : List V) (Q : VK) (E : XK), Room k (A.deeper (envF ⟨name, qual, params, body, scope, [("__class__", cc)], cda⟩ f s.heap.objs.size)) → sp vs H Q E →
      ∃ t, PSsC (ncx CX P w K mg base N ⟨name, qual, params, body, scope, [("__class__", cc)], cda⟩ f A outer s H E) (.func body (envF ⟨name, qual, params, body, scope, [("__class__", cc)], cda⟩ f s.heap.objs.size)) body t ∧
        t { nx := fun _ H' => Q .non H', rt := Q } (startF N vs [some (.ref D)]) H) :
    FnOk P w K mg base CX (k + 1) f (PySem.W.fnX name qual params body scope [("__class__", cc)] dV kV doc pm an (.ref cda) ct) ps sp := by
  refine ⟨len, fun A outer s H args us vs Q E hr e0 hb r hsp => ?_⟩
  have hl := len _ _ _ _ hsp
  obtain ⟨cl, cld, csl, hcell⟩ := hcell
  have kb : ∀ b o, base.get? b = some o → s.heap.get? b = some o := fun b o e => (e0.bs b o e).1
  have KX : K.In s.heap := e0.mod.kin.keeps kb
  have lim : s.heap.NoLimit := e0.mod.nolimit.keeps kb
  have hcn : H cc = none := (e0.bs cc _ (e0.mod.kin _ _ hcell)).2
  have C : CellsAt [("__class__", cc)] ["__class__"] [some (V.ref D)] s.heap H := by
    refine ⟨rfl, fun y c e => ?_, fun x y c e1 e2 => ?_, fun i y hi => ?_⟩
    · have e' : c = cc := by
        simp only [List.lookup] at e
        split at e
        · exact (Option.some.inj e).symm
        · cases e
      rw [e']
      exact ⟨hcn, _, _, KX _ _ hcell, rfl⟩
    · simp only [List.lookup] at e1 e2
      split at e1
      · split at e2
        · rename_i h1 _ h2
          exact (beq_iff_eq.mp h1).trans (beq_iff_eq.mp h2).symm
        · cases e2
      · cases e1
    · match i, hi with
      | 0, hi =>
        have ey : "__class__" = y := Option.some.inj hi
        subst ey
        exact ⟨cc, rfl, fun v hv => ⟨.ref D, by cases hv; rfl, _, KX _ _ hcell, rfl⟩⟩
      | i + 1, hi => simp at hi
  refine codeAny_call_function hr.depth (KX _ _ lk) rfl S.co S.gen rfl (PySem.W.codeRec_of KX hcd) (hb _ _ _ _ ?_)
  refine wpAny_newFunctionEnv S.nocell (fun ⟨n, _⟩ hy => S.par n (List.of_mem_zip hy).1) (fun h₁ hns hsb => ⟨lim.fresh _ hsb, ?_⟩) S.kind
  show codeAny _ _ (.func body (envF ⟨name, qual, params, body, scope, [("__class__", cc)], cda⟩ f s.heap.objs.size)) _ _
  refine ks_codeAny_funcAt ?_
  have kp : ∀ b o, s.heap.get? b = some o → h₁.get? b = some o := fun b o e => hsb.extBut b o (Nat.ne_of_lt (Heap.lt_size e)) (Heap.get?_push_of_some _ e)
  obtain ⟨t, ht, hq⟩ := hbody A outer s H vs Q E (hr.deeper _) hsp
  have I : Inv (ncx CX P w K mg base N ⟨name, qual, params, body, scope, [("__class__", cc)], cda⟩ f A outer s H E) [] (startF N vs [some (.ref D)]) H { s with heap := h₁, toks := s.toks + (ps.zip us).length } := inv_startN S hr.hd e0 hl r C hns kp
  refine ks_wpAt_mono (ht.run [] _ (startF N vs [some (.ref D)]) H _ I hq) (fun fl s' hs => ?_) fun e s' hs => hs
  have fin : ∀ {σ' : L2.St} {H' : Hp} {v : V} {u : Value}, Inv (ncx CX P w K mg base N ⟨name, qual, params, body, scope, [("__class__", cc)], cda⟩ f A outer s H E) [] σ' H' s' → L2.RelV v u → Q v H' → CE outer P w H s Q u s' :=
    fun {σ' H' v u} J rv q => ⟨v, H', J.os, J.bare, J.base, J.hok, rv, q⟩
  cases fl with
  | ret u =>
    obtain ⟨v, σ', H', J, rv, q⟩ := hs
    exact fin J rv q
  | next =>
    obtain ⟨σ', H', J, q⟩ := hs
    exact fin (v := V.non) (u := Value.none) J rfl q
  | brk =>
    obtain ⟨_, _, _, q⟩ := hs
    exact False.elim q
  | cont =>
    obtain ⟨_, _, _, q⟩ := hs
    exact False.elim q
end

/-! ### super() -/
/-- what stands of a def that says super(): its function, its code, its cell -/
structure SupOk (X : Cx) (D cc : Addr) : Prop where
  ks : X.env.kindOf "super" = some .globalImplicit
  kc : X.env.kindOf "__class__" = some .free
  cell : X.env.cells.lookup ("__class__" : Str) = some cc
  kcell : ∃ cl cld csl, X.K.lookup cc = some ⟨cl, cld, .cell (some (.ref D)), csl⟩
  fn : ∃ f oc od fd osl, X.env.func = some f ∧ X.K.lookup f = some ⟨oc, od, .func fd, osl⟩ ∧ ∃ ar, (fd.params.posonlyargs ++ fd.params.args).head? = some ar ∧ X.N[0]? = some ar.arg ∧ X.env.scope.names.lookup ar.arg = some .local
  code : ∃ cda ccl cdd vs ccs file tf, X.env.code = .ref cda ∧ X.K.lookup cda = some ⟨ccl, cdd, .fields vs, ccs⟩ ∧ vs[2]? = some (.str file tf) ∧ ((X.prog.main.file : Str) == file) = true
  top : (X.prog.main.scope.names.lookup ("super" : Str)).isSome = false
  mg : X.mg "super" = none
  cls : ∃ cd, PySem.W.clsIn X.K D = some cd
  opq : PySem.W.nsIn X.K cStatics "thirdparty.any" = some none
section
variable {X : Cx} {c : Code} {pins : List (Addr × Obj)} {σ : L2.St} {H : Hp} {s : Shared} {D cc a C : Addr}
theorem sup_base {body : List Stmt} {p0 p1 : Pos} {attr : Str} {whole : Sem Value} {Q : Value → Shared → Prop} {E : Value → Shared → Prop} {ox : Obj} (S : SupOk X D cc) (I : Inv X pins σ H s) (hσ : σ[0]? = some (some (.ref a))) (hat : (attr == ("__class__" : Str)) = false)
    (hx : s.heap.get? a = some ox) (hc : ox.cls = .ref C) (hnc : ∀ d, ox.data ≠ .cls d) (hsub : PySem.W.mroIn X.K C (.ref D) = some true)
    (h : ∀ h', (∀ b o, s.heap.get? b = some o → h'.get? b = some o) → h'.get? s.heap.objs.size = some (PySem.W.ks_superObj D a C) → Q (.ref s.heap.objs.size) { s with heap := h' }) :
    PySem.wpAt (model X.prog X.w) X.A (.func body X.env) (attributeBase (.Call (.Name "super" p0) [] [] p1) attr X.env whole) Q E s := by
  obtain ⟨f, oc, od, fd, osl, hfu, hf, ar, hp, hN0, hka⟩ := S.fn
  obtain ⟨cda, ccl, cdd, vs, ccs, file, tf, hco, hcode, hvs, hfile⟩ := S.code
  obtain ⟨cl, cld, csl, hcell⟩ := S.kcell
  obtain ⟨cdD, hD⟩ := S.cls
  obtain ⟨mb, b1, b2⟩ := I.mod.blt
  obtain ⟨oD, hD1, hD2⟩ : ∃ oD, s.heap.get? D = some oD ∧ oD.data = .cls cdD := by
    unfold PySem.W.clsIn at hD
    split at hD
    · rename_i c d cd' sl ho
      cases hD
      exact ⟨_, I.kIn _ _ ho, rfl⟩
    · cases hD
  obtain ⟨m, hn, hl⟩ := id I.loc
  obtain ⟨u, ru, lu⟩ := hl 0 ar.arg (.ref a) hN0 hσ (.inl hka)
  have eu : u = Value.ref a := ru
  subst eu
  have hms : m ar.arg = some (.ref a) := by
    rcases lu with ⟨_, q⟩ | ⟨q, _⟩
    · exact q
    · have q0 : X.env.scope.names.lookup ar.arg = some .cell ∨ X.env.scope.names.lookup ar.arg = some .free := q
      rw [hka] at q0
      rcases q0 with q | q <;> cases q
  refine ks_wpAt_super_base S.ks S.kc hat hfu (I.kIn _ _ hf) rfl hp hco (I.kIn _ _ hcode) rfl hvs hfile S.top ?_
  refine PySem.W.ks_loadName_global I.ok.kind S.ks (Calls.loadGlobal_builtin (by rw [I.ok.glob]; exact I.mod.glob.keeps I.bk) S.mg (by rw [I.ok.blt]; exact b1.keeps I.bk) ((b2 "super" (by decide)).trans (by decide +kernel)) ⟨rfl, ?_⟩)
  refine wpAny_loadName_free I.ok.kind S.kc S.cell ⟨_, I.kIn _ _ hcell, rfl⟩ ?_
  refine wpAny_loadName_local I.ok.kind hka hn hms ?_
  refine ks_wpAny_isType_cls hD1 hD2 ⟨rfl, ?_⟩
  obtain ⟨hh, g, d, t, os⟩ := s
  exact ks_wpAny_call_super hD1 hD2 hx hc hnc (PySem.W.looks_mroIn I.kIn hsub) fun h' e k => h h' k e

/-- ValueError.__init__ bound to an exception that is being made, called: nothing of it is told -/
theorem call_mw {A : Around} {E : Value → Shared → Prop} {u : Addr} {us : List Value} {Q : Value → Shared → Prop} (T : OexC X.K C) (I : Inv X pins σ H s) (hu : s.heap.get? u = some (PySem.W.kxs_mw "ValueError.__init__" a)) (e : H a = some (exo a C none)) (hl : us.length ≤ sizeLine)
    (h : ∀ s', Inv X pins σ H s' → Q .none s') : wpAny (model X.prog X.w) A (call (.ref u) us) Q E s := by
  obtain ⟨nm, q, N, bs, bm, sn, sub, ab, col, dd, k0, k1, k2, k3, k5, hC, hbm⟩ := T.cls
  obtain ⟨t1, ho⟩ := exo_at I.hok e
  obtain ⟨hp, g, d, t, os⟩ := s
  refine wpAny_call (codeAny_of_tree ?_)
  show wpAny _ A.in1 (callAny (.ref u) ⟨us, []⟩) _ _ _
  simp only [callAny]
  refine wpAny_bind (wpAny_load hu ?_)
  simp only [PySem.W.kxs_mw, show (Value.type "method-wrapper" == Value.type "method" || Value.type "method-wrapper" == Value.type "builtin_function_or_method" || Value.type "method-wrapper" == Value.type "method-wrapper") = true by decide, if_true]
  refine PySem.W.KFB.if_so (by decide) ?_
  refine wpAny_bind (PySem.W.check_bound_init F.excBase_ValueError.toExcCallFacts (I.kIn _ _ hC) ho rfl ?_)
  refine wpAny_bind (wpAny_pure (wpAny_pure ?_))
  refine ⟨plainId_quiet F.excBase_ValueError.init.plain _, codeAny_builtin F.excBase_ValueError.initEntry ?_⟩
  refine PySem.W.exc_init_tree (cls := .ref C) (t0 := t1) (dv := none) (c2 := .none) (c3 := .none) (b4 := .bool false) ho hl fun h' k hx _ => ?_
  have J := I.write (t' := t) (x := a) (e := a) (o := exo a C none) (by rw [e]; exact True.intro) (.inl rfl) k ⟨_, hx⟩ (exo_ok hx)
  have eu : upd H a (exo a C none) = H := by
    funext b
    by_cases hb : b = a
    · rw [hb, upd_same, e]
    · rw [upd_ne hb]
  rw [eu] at J
  exact h _ J
/-- super().__init__(e, ..) in an own exception's __init__ -/
def tSupX (K : PySem.W.Frag) (D : Addr) (ta : TA) : TE := fun σ H Q => ∃ a C, σ[0]? = some (some (.ref a)) ∧ H a = some (exo a C none) ∧ OexC K C ∧ PySem.W.mroIn K C (.ref D) = some true ∧ PySem.W.ks_superIn K C D "__init__" = some (some (.builtin "ValueError.__init__")) ∧ PySem.W.subIn K (.ref C) (.type "ValueError") = some true ∧
  ta σ H fun vs H1 => vs.length ≤ 1000 ∧ H1 a = some (exo a C none) ∧ Q .non H1
theorem pec_supX {body : List Stmt} {e : Expr} {es : List Expr} {ta : TA} {p0 p1 p2 pos : Pos} {pl : Sem Bool} (S : SupOk X D cc) (ha : PA X (e :: es) ta)
    (hc : eval (.Call (.Attribute (.Call (.Name "super" p0) [] [] p1) "__init__" p2) (e :: es) [] pos) X.env = (do
      let ov ← attributeBase (.Call (.Name "super" p0) [] [] p1) "__init__" X.env (eval (.Call (.Name "super" p0) [] [] p1) X.env)
      standAt p2.atName
      let (f, first) ← holding [ov] (getMethod ov "__init__" pl)
      callWith pos f first (backTo pos (starEach (e :: es) X.env)) []) := by rfl)
    (he : starEach (e :: es) X.env = (false, eval e X.env) :: starEach es X.env := by rfl) (hpl : (backTo pos (starEach es X.env)).any (·.1) = false := by rfl) :
    PEC X (.func body X.env) (.Call (.Attribute (.Call (.Name "super" p0) [] [] p1) "__init__" p2) (e :: es) [] pos) (tSupX X.K D ta) := by
  refine ⟨fun pins s σ H Q I h => ?_⟩
  obtain ⟨a, C, hσ, ha0, T, hmro, hsi, hVE, h⟩ := h
  obtain ⟨t1, ho⟩ := exo_at I.hok ha0
  refine ks_wpAt_MethodCall (pl := pl) ?_ hc
  refine sup_base S I hσ (by decide) ho rfl (fun d z => by cases z) hmro fun h' k hso => ?_
  have I1 : Inv X pins σ H { s with heap := h' } := I.kept (t' := s.toks) k
  obtain ⟨hh, g, d, t, os⟩ := s
  obtain ⟨cd, hcd⟩ : ∃ cd, PySem.W.clsIn X.K C = some cd := by
    cases z : PySem.W.clsIn X.K C with
    | none =>
      unfold PySem.W.ks_superIn at hsi
      rw [z] at hsi
      cases hsi
    | some cd => exact ⟨cd, rfl⟩
  have hal : PySem.W.alongIn X.K "__init__" ((cd.mro.dropWhile (· != .ref D)).drop 1) = some (some (.builtin "ValueError.__init__")) := by
    unfold PySem.W.ks_superIn at hsi
    rw [hcd] at hsi
    exact hsi
  have J : PySem.W.InstAt h' a ({ cls := .ref C, dict := none, data := .fields #[.ref t1, .none, .none, .none, .bool false, .none] } : Obj) C none := ⟨k _ _ ho, rfl, rfl, trivial⟩
  refine PySem.W.kxs_getMethod PySem.W.kxs_ValueError hso (PySem.W.looks_opaque I1.kIn S.opq) (l₀ := cd.mro) (fun A Q E s k q => wpAny_bind ((PySem.W.looks_clsIn I1.kIn hcd) A _ E s k (wpAny_pure q))) rfl I1.kIn hal (J.type.andThen (PySem.W.looks_subIn I1.kIn hVE)) (PySem.W.ks_ne I1.kIn J hcd) (by decide) ?_
  have k2 : ∀ b o, h'.get? b = some o → (h'.push (PySem.W.kxs_mw "ValueError.__init__" a)).get? b = some o := fun b o e => Heap.get?_push_of_some _ e
  have I2 : Inv X pins σ H ⟨h'.push (PySem.W.kxs_mw "ValueError.__init__" a), g, d, t + 1, os⟩ := I1.kept (t' := t + 1) k2
  have hu : (h'.push (PySem.W.kxs_mw "ValueError.__init__" a)).get? h'.objs.size = some (PySem.W.kxs_mw "ValueError.__init__" a) := Heap.get?_push_at rfl rfl
  have hn : H h'.objs.size = none := I1.hok.fresh (Nat.le_refl _)
  have I3 : Inv X (pins ++ [(h'.objs.size, PySem.W.kxs_mw "ValueError.__init__" a)]) σ H ⟨h'.push (PySem.W.kxs_mw "ValueError.__init__" a), g, d, t + 1, os⟩ := I2.pins_of fun p hp => by
    rcases List.mem_append.mp hp with z | z
    · exact I2.pin p (List.mem_append_right _ z)
    · have ep : p = (h'.objs.size, PySem.W.kxs_mw "ValueError.__init__" a) := by simpa using z
      subst ep
      exact ⟨hu, hn, Nat.ne_of_gt I1.lt, I1.nofs (Nat.le_refl _), fun v z => by cases z⟩
  show wpAny (model X.prog X.w) X.A (callWith pos (.ref h'.objs.size) [] (backTo pos (starEach (e :: es) X.env)) []) _ _ _
  have h3 := thn (ha.run pos (pins ++ [(h'.objs.size, PySem.W.kxs_mw "ValueError.__init__" a)]) _ σ H _ I3 h) (Q' := fun us s4 => PySem.W.KxsAt "ValueError.__init__" h'.objs.size a s4.heap ∧ wpAny (model X.prog X.w) X.A (call (.ref h'.objs.size) us) (EP X pins σ Q) X.xe s4) fun us s4 ⟨vs, H1, I4, r1, hz, ea, q⟩ => by
    have hu4 : s4.heap.get? h'.objs.size = some (PySem.W.kxs_mw "ValueError.__init__" a) := (I4.pin (h'.objs.size, PySem.W.kxs_mw "ValueError.__init__" a) (List.mem_append_right _ (List.mem_append_right _ List.mem_cons_self))).1
    have I5 : Inv X pins σ H1 s4 := I4.unpinned
    exact ⟨hu4, call_mw T I5 hu4 ea (by rw [← Paired.length r1, sizeLine_eq]; omega) fun s5 J5 => ⟨.non, H1, J5, rfl, q⟩⟩
  rw [he] at h3 ⊢
  refine PySem.W.kxs_callWith (i := "ValueError.__init__") (x := a) (by show (false || (backTo pos (starEach es X.env)).any (·.1)) = false; rw [hpl]; rfl) ?_
  exact Calls.evalArgs_plain h3
/-- super().m(e, ..): the method of a class above, an own def -/
def tSupM (K : PySem.W.Frag) (D : Addr) (m : Str) (f2 : Addr) (sp : Sp) (E : XK) (ta : TA) : TE := fun σ H Q => ∃ a C dx fs, σ[0]? = some (some (.ref a)) ∧ H a = some (.ins C dx fs) ∧ PySem.W.mroIn K C (.ref D) = some true ∧ PySem.W.ks_superIn K C D m = some (some (.ref f2)) ∧
  ta σ H fun vs H1 => sp (.ref a :: vs) H1 Q E
theorem run_met {CX : CXT} {k : Nat} {f2 q : Addr} {fd : FuncData} {ps : List Str} {sp : Sp} {E : XK} {Q : VK} {us : List Value} {vs : List V} (F : FnOk X.prog X.w X.K X.mg X.base CX k f2 fd ps sp) (hr : Room k X.A) (hb : Binds X.K fd ps []) (hx : Passes CX X E)
    (I : Inv X pins σ H s) (hq : s.heap.get? q = some (PySem.W.methodObj (.ref f2) (.ref a))) (r : Vals vs us) (h : sp (.ref a :: vs) H Q E) : wpAny (model X.prog X.w) X.A (call (.ref q) us) (EP X pins σ Q) X.xe s := by
  have r2 : Vals (V.ref a :: vs) (Value.ref a :: us) := .cons rfl r
  have hl : (Value.ref a :: us).length = ps.length := by rw [← r2.length]; exact F.len _ _ _ _ h
  refine wpAny_call (ks_codeAny_call_bound (f := f2) (x := .ref a) hq (codeAny_mono (F.run X.A X.stack s H ⟨Value.ref a :: us, []⟩ (Value.ref a :: us) (V.ref a :: vs) Q E hr I.env0 (by have z := hb s (Value.ref a :: us) I.kIn (by rw [List.append_nil]; exact hl); rw [List.append_nil] at z; exact z) r2 h) fun r s' hq => ?_))
  cases r with
  | error e => exact hx pins σ H s e s' I hq
  | ok fl =>
    cases fl with
    | ret u => exact I.after hq
    | next => exact False.elim hq
    | brk => exact False.elim hq
    | cont => exact False.elim hq
theorem sup_meth {body : List Stmt} {m : Str} {f2 dx : Addr} {fs : List (Str × V)} {p0 p1 : Pos} {whole : Sem Value} {pl : Sem Bool} {E : Value → Shared → Prop} {Q : Value × List Value → Shared → Prop} (S : SupOk X D cc) (I : Inv X pins σ H s) (hσ : σ[0]? = some (some (.ref a))) (ea : H a = some (.ins C dx fs))
    (hat : (m == ("__class__" : Str)) = false) (hmro : PySem.W.mroIn X.K C (.ref D) = some true) (hsi : PySem.W.ks_superIn X.K C D m = some (some (.ref f2))) (ht : PySem.W.typeIn X.K (.ref f2) = some (.type "function"))
    (h : ∀ q s', Inv X (pins ++ [(q, PySem.W.methodObj (.ref f2) (.ref a))]) σ H s' → Q (.ref q, []) s') :
    PySem.wpAt (model X.prog X.w) X.A (.func body X.env) (attributeBase (.Call (.Name "super" p0) [] [] p1) m X.env whole) (fun ov s₁ => wpAny (model X.prog X.w) X.A (getMethod ov m pl) Q E s₁) E s := by
  obtain ⟨mA, O, _⟩ := ins_get I.hok ea
  obtain ⟨odx, J, _⟩ := O.look
  refine sup_base S I hσ hat J.at_ J.cls (fun d z => by have := J.no; unfold PySem.W.notCls at this; rw [z] at this; exact Bool.noConfusion this) hmro fun h' k hso => ?_
  have I1 : Inv X pins σ H { s with heap := h' } := I.kept (t' := s.toks) k
  obtain ⟨hh, g, d, t, os⟩ := s
  obtain ⟨cd, hcd⟩ : ∃ cd, PySem.W.clsIn X.K C = some cd := by
    cases z : PySem.W.clsIn X.K C with
    | none =>
      unfold PySem.W.ks_superIn at hsi
      rw [z] at hsi
      cases hsi
    | some cd => exact ⟨cd, rfl⟩
  have hal : PySem.W.alongIn X.K m ((cd.mro.dropWhile (· != .ref D)).drop 1) = some (some (.ref f2)) := by
    unfold PySem.W.ks_superIn at hsi
    rw [hcd] at hsi
    exact hsi
  obtain ⟨of, hof, hofc⟩ : ∃ of, h'.get? f2 = some of ∧ of.cls = .type "function" := by
    have ht' : (X.K.lookup f2).map (·.cls) = some (.type "function") := ht
    cases z : X.K.lookup f2 with
    | none => rw [z] at ht'; cases ht'
    | some of => rw [z] at ht'; exact ⟨of, I1.kIn _ _ z, Option.some.inj ht'⟩
  refine ks_wpAny_getMethod_super hso (PySem.W.looks_opaque I1.kIn S.opq) (l₀ := cd.mro) (fun A Q E s k q => wpAny_bind ((PySem.W.looks_clsIn I1.kIn hcd) A _ E s k (wpAny_pure q))) rfl I1.kIn hal hof hofc (PySem.W.ks_ne (I.kIn) J hcd) hat ?_
  have k2 : ∀ b o, h'.get? b = some o → (h'.push (PySem.W.methodObj (.ref f2) (.ref a))).get? b = some o := fun b o e => Heap.get?_push_of_some _ e
  have I2 : Inv X pins σ H ⟨h'.push (PySem.W.methodObj (.ref f2) (.ref a)), g, d, t + 1, os⟩ := I1.kept (t' := t + 1) k2
  have hn : H h'.objs.size = none := I1.hok.fresh (Nat.le_refl _)
  refine h h'.objs.size _ (I2.pins_of fun p hp => ?_)
  rcases List.mem_append.mp hp with z | z
  · exact I2.pin p (List.mem_append_right _ z)
  · have ep : p = (h'.objs.size, PySem.W.methodObj (.ref f2) (.ref a)) := by simpa using z
    subst ep
    exact ⟨Heap.get?_push_at rfl rfl, hn, Nat.ne_of_gt I1.lt, I1.nofs (Nat.le_refl _), fun v z => by cases z⟩
theorem pec_supM {CX : CXT} {k : Nat} {f2 : Addr} {fd : FuncData} {ps : List Str} {sp : Sp} {E : XK} {body : List Stmt} {e : Expr} {es : List Expr} {ta : TA} {m : Str} {p0 p1 p2 pos : Pos} {pl : Sem Bool} (S : SupOk X D cc) (F : FnOk X.prog X.w X.K X.mg X.base CX k f2 fd ps sp) (hr : Room k X.A) (hb : Binds X.K fd ps [])
    (hx : Passes CX X E) (ht : PySem.W.typeIn X.K (.ref f2) = some (.type "function")) (hf : PySem.W.fnIn X.K f2 = true) (ha : PA X (e :: es) ta) (hat : (m == ("__class__" : Str)) = false := by decide)
    (hc : eval (.Call (.Attribute (.Call (.Name "super" p0) [] [] p1) m p2) (e :: es) [] pos) X.env = (do
      let ov ← attributeBase (.Call (.Name "super" p0) [] [] p1) m X.env (eval (.Call (.Name "super" p0) [] [] p1) X.env)
      standAt p2.atName
      let (f, first) ← holding [ov] (getMethod ov m pl)
      callWith pos f first (backTo pos (starEach (e :: es) X.env)) []) := by rfl)
    (he : starEach (e :: es) X.env = (false, eval e X.env) :: starEach es X.env := by rfl) (hpl : (backTo pos (starEach es X.env)).any (·.1) = false := by rfl) :
    PEC X (.func body X.env) (.Call (.Attribute (.Call (.Name "super" p0) [] [] p1) m p2) (e :: es) [] pos) (tSupM X.K D m f2 sp E ta) := by
  refine ⟨fun pins s σ H Q I h => ?_⟩
  obtain ⟨a, C, dx, fs, hσ, ea, hmro, hsi, h⟩ := h
  refine ks_wpAt_MethodCall (pl := pl) (sup_meth S I hσ ea hat hmro hsi ht fun q s' I3 => ?_) hc
  show wpAny (model X.prog X.w) X.A (callWith pos (.ref q) [] (backTo pos (starEach (e :: es) X.env)) []) _ _ _
  have h3 := thn (ha.run pos _ _ σ H _ I3 h) (Q' := fun us s4 => PySem.W.MethP X.K q f2 (.ref a) s4.heap ∧ wpAny (model X.prog X.w) X.A (call (.ref q) ([] ++ us)) (EP X pins σ Q) X.xe s4) fun us s4 ⟨vs, H1, I4, r1, q1⟩ => by
    have hu4 : s4.heap.get? q = some (PySem.W.methodObj (.ref f2) (.ref a)) := (I4.pin (q, PySem.W.methodObj (.ref f2) (.ref a)) (List.mem_append_right _ (List.mem_append_right _ List.mem_cons_self))).1
    have I5 : Inv X pins σ H1 s4 := I4.unpinned
    exact ⟨⟨hu4, I5.kIn⟩, run_met F hr hb hx I5 hu4 r1 q1⟩
  rw [he] at h3 ⊢
  exact PySem.W.callWith_of (by show ((false || (backTo pos (starEach es X.env)).any (·.1)) || false) = false; rw [hpl]; rfl) (PySem.W.keeps_M hf) (Calls.evalArgs_plain h3)
theorem pec_supM0 {CX : CXT} {k : Nat} {f2 : Addr} {fd : FuncData} {ps : List Str} {sp : Sp} {E : XK} {body : List Stmt} {m : Str} {p0 p1 p2 pos : Pos} {pl : Sem Bool} (S : SupOk X D cc) (F : FnOk X.prog X.w X.K X.mg X.base CX k f2 fd ps sp) (hr : Room k X.A) (hb : Binds X.K fd ps [])
    (hx : Passes CX X E) (ht : PySem.W.typeIn X.K (.ref f2) = some (.type "function")) (hf : PySem.W.fnIn X.K f2 = true) (hat : (m == ("__class__" : Str)) = false := by decide)
    (hc : eval (.Call (.Attribute (.Call (.Name "super" p0) [] [] p1) m p2) [] [] pos) X.env = (do
      let ov ← attributeBase (.Call (.Name "super" p0) [] [] p1) m X.env (eval (.Call (.Name "super" p0) [] [] p1) X.env)
      standAt p2.atName
      let (f, first) ← holding [ov] (getMethod ov m pl)
      callWith pos f first (backTo pos (starEach [] X.env)) []) := by rfl) :
    PEC X (.func body X.env) (.Call (.Attribute (.Call (.Name "super" p0) [] [] p1) m p2) [] [] pos) (tSupM X.K D m f2 sp E tNil) := by
  refine ⟨fun pins s σ H Q I h => ?_⟩
  obtain ⟨a, C, dx, fs, hσ, ea, hmro, hsi, h⟩ := h
  refine ks_wpAt_MethodCall (pl := pl) (sup_meth S I hσ ea hat hmro hsi ht fun q s' I3 => ?_) hc
  have hu4 := (I3.pin (q, PySem.W.methodObj (.ref f2) (.ref a)) (List.mem_append_right _ (List.mem_append_right _ List.mem_cons_self))).1
  have I5 : Inv X pins σ H s' := I3.unpinned
  exact PySem.W.callWith_M0 ⟨hu4, I5.kIn⟩ hf (run_met F hr hb hx I5 hu4 .nil h)
end
end Bx
/-! BxHook: the head's facts by any Bool looks, defs with and without a cell __class__. -/
namespace Bx
open PySem PySem.Spec PyProof.Rows L2 NdefX He

/-! ### which objects are kept -/
def dictRefs (g : Addr → Option Obj) (a : Addr) : List Addr := match g a with
  | some ⟨_, _, .dict es _, _⟩ => es.toList.flatMap fun e => refV e.val
  | _ => []
def fnRefs (g : Addr → Option Obj) (a : Addr) : List Addr := match g a with
  | some ⟨_, _, .func fd, _⟩ => refV fd.code ++ (refV fd.defaults ++ (refV fd.kwdefaults ++ fd.closure.map (·.2)))
  | _ => []
def clsRefs (g : Addr → Option Obj) (a : Addr) : List Addr := match g a with
  | some ⟨_, _, .cls cd, _⟩ => [cd.ns]
  | _ => []
def recRefs (g : Addr → Option Obj) (a : Addr) : List Addr := match g a with
  | some ⟨.type "property", _, .fields vs, _⟩ => vs.toList.flatMap refV
  | some ⟨.type "classmethod", _, .fields vs, _⟩ => vs.toList.flatMap refV
  | some ⟨.type "staticmethod", _, .fields vs, _⟩ => vs.toList.flatMap refV
  | _ => []
def itemRefs (g : Addr → Option Obj) (a : Addr) : List Addr := match g a with
  | some ⟨.type "tuple", _, .seq its _, _⟩ => its.toList.flatMap refV
  | some ⟨_, _, .dict es _, _⟩ => es.toList.flatMap fun e => refV e.val
  | _ => []
def asX (g : Addr → Option Obj) : List Addr :=
  let l1 := dictRefs g mainGlobals
  let l2 := l1.flatMap fun a => clsRefs g a
  let l3 := l2.flatMap fun a => dictRefs g a
  let l4 := l3.flatMap fun a => recRefs g a
  let l5 := (l1 ++ (l3 ++ l4)).flatMap fun a => fnRefs g a
  let l6 := l5.flatMap fun a => itemRefs g a
  mainGlobals :: cStatics :: (l1 ++ (l2 ++ (l3 ++ (l4 ++ (l5 ++ l6)))))

/-! ### a def with a cell __class__ -/
structure FunS (K : PySem.W.Frag) (fl : Str) (x qual : Str) (params : Arguments) (body : List Stmt) (scope : Scope) (dvs : List V) (kws : List (Str × V)) (D f : Addr) (fd : FuncData) : Prop where
  ex : ∃ (oc : Value) (od : Option Addr) (dV kV doc pm : Value) (an : Option Addr) (cda cc : Addr) (ct : Value) (osl : Array (Option Value)),
    fd = PySem.W.fnX x qual params body scope [("__class__", cc)] dV kV doc pm an (.ref cda) ct ∧ K.lookup f = some ⟨oc, od, .func fd, osl⟩ ∧ PySem.W.codeIn K (.ref cda) qual = true ∧ (∃ cl cld csl, K.lookup cc = some ⟨cl, cld, .cell (some (.ref D)), csl⟩) ∧
      (∃ ccl cdd vs ccs tf, K.lookup cda = some ⟨ccl, cdd, .fields vs, ccs⟩ ∧ vs[2]? = some (.str fl tf)) ∧ DflV K dV dvs ∧ KwdV K kV kws
  kp : PySem.W.keepIn K (.ref f) = true
section
variable {P : Program} {w : World} {K : PySem.W.Frag} {mg : Str → Option Value} {base : Heap} {fl x qual : Str} {params : Arguments} {body : List Stmt} {scope : Scope} {dvs : List V} {kws : List (Str × V)} {D f : Addr} {fd : FuncData}
theorem FunS.ok {CX : CXT} {N ps : List Str} {k : Nat} {sp : Sp} {ar : Arg} (F : FunS K fl x qual params body scope dvs kws D f fd) (S : NScope N ps ["__class__"] scope) (len : ∀ vs H Q E, sp vs H Q E → vs.length = ps.length)
    (hfl : ((P.main.file : Str) == fl) = true) (top : (P.main.scope.names.lookup ("super" : Str)).isSome = false) (hm : mg "super" = none) (hcl : ∃ cd, PySem.W.clsIn K D = some cd) (opq : PySem.W.nsIn K cStatics "thirdparty.any" = some none)
    (hp : (params.posonlyargs ++ params.args).head? = some ar) (hN : N[0]? = some ar.arg) (hl : scope.names.lookup ar.arg = some .local) (hs : scope.names.lookup ("super" : Str) = some .globalImplicit)
    (hbody : ∀ (cda cc : Addr) (A : Around) (outer : List Env) (s : Shared) (H : Hp) (vs : List V) (Q : VK) (E : XK), Room k (A.deeper (envF ⟨x, qual, params, body, scope, [("__class__", cc)], cda⟩ f s.heap.objs.size)) →
      SupOk (ncx CX P w K mg base N ⟨x, qual, params, body, scope, [("__class__", cc)], cda⟩ f A outer s H E) D cc → sp vs H Q E →
      ∃ t, PSsC (ncx CX P w K mg base N ⟨x, qual, params, body, scope, [("__class__", cc)], cda⟩ f A outer s H E) (.func body (envF ⟨x, qual, params, body, scope, [("__class__", cc)], cda⟩ f s.heap.objs.size)) body t ∧
        t { nx := fun _ H' => Q .non H', rt := Q } (startF N vs [some (.ref D)]) H) : FnOk P w K mg base CX (k + 1) f fd ps sp := by
  obtain ⟨oc, od, dV, kV, doc, pm, an, cda, cc, ct, osl, rfl, lk, hcd, hcell, ⟨ccl, cdd, vs, ccs, tf, c1, c2⟩, _, _⟩ := F.ex
  refine fn_sup lk hcd hcell S len fun A outer s H vs' Q E hr hsp => hbody cda cc A outer s H vs' Q E hr ?_ hsp
  exact ⟨hs, S.frk "__class__" (List.mem_singleton.mpr rfl), rfl, hcell, ⟨f, oc, od, _, osl, rfl, lk, ar, hp, hN, hl⟩, ⟨cda, ccl, cdd, vs, ccs, fl, tf, rfl, c1, c2, hfl⟩, top, hm, hcl, opq⟩
/-- no defaults -/
theorem FunS.bindsN {ps : List Str} (F : FunS K fl x qual params body scope [] kws D f fd)
    (h : ∀ (kV doc pm : Value) (an : Option Addr) (cda cc : Addr) (ct : Value) (us : List Value), us.length = ps.length → bindArgs (PySem.W.fnX x qual params body scope [("__class__", cc)] .none kV doc pm an (.ref cda) ct) ⟨us, []⟩ = pure (ps.zip us)) : Binds K fd ps [] := by
  obtain ⟨oc, od, dV, kV, doc, pm, an, cda, cc, ct, osl, rfl, lk, hcd, hcell, hcode, hD, hK⟩ := F.ex
  rcases hD with ⟨_, rfl⟩ | ⟨e, _⟩
  · exact .all (h kV doc pm an cda cc ct)
  · exact absurd rfl e
end

/-! ### a def by names -/
structure DefS where
  at_ : Str × Option Str
  name : Str
  qual : Str
  params : Arguments
  body : List Stmt
  scope : Scope
  dfl : List Dv := []
  kwd : List (Str × Dv) := []
  sup : Option Str := none
abbrev FnZ : Type := Option (Str × Str × Arguments × FuncBody × Scope × Addr × List Str × Addr)
def fnZ (K : PySem.W.Frag) (p : Str × Option Str) : FnZ := match K.lookup (fAd K p) with
  | some ⟨_, _, .func fd, _⟩ => some (fd.name, fd.qualname, fd.params, fd.body, fd.scope, fd.globals, fd.closure.map (·.1), fd.builtins)
  | _ => none
def DefS.clo (d : DefS) : List Str := match d.sup with
  | none => []
  | some _ => ["__class__"]
def DefS.val (d : DefS) : FnZ := some (d.name, d.qual, d.params, .stmts d.body, d.scope, mainGlobals, d.clo, builtinsNs)
def DefS.dvs (K : PySem.W.Frag) (d : DefS) : List V := d.dfl.map (Dv.v K)
def DefS.kws (K : PySem.W.Frag) (d : DefS) : List (Str × V) := d.kwd.map fun q => (q.1, q.2.v K)
def cellB (K : PySem.W.Frag) (cc D : Addr) : Bool := match K.lookup cc with
  | some ⟨_, _, .cell (some (.ref D')), _⟩ => decide (D' = D)
  | _ => false
theorem cellB_ok {K : PySem.W.Frag} {cc D : Addr} (h : cellB K cc D = true) : ∃ cl cld csl, K.lookup cc = some ⟨cl, cld, .cell (some (.ref D)), csl⟩ := by
  unfold cellB at h
  split at h
  · rename_i cl cld D' csl e
    have e' : D' = D := of_decide_eq_true h
    rw [e'] at e
    exact ⟨_, _, _, e⟩
  · cases h
def fileB (K : PySem.W.Frag) (fl : Str) (cd : Value) : Bool := match cd with
  | .ref c => (match K.lookup c with
    | some ⟨_, _, .fields vs, _⟩ => (match vs.toList with
      | _ :: _ :: .str f _ :: _ => decide (f = fl)
      | _ => false)
    | _ => false)
  | _ => false
theorem fileB_ok {K : PySem.W.Frag} {fl : Str} {cd : Value} (h : fileB K fl cd = true) : ∃ c, cd = .ref c ∧ ∃ ccl cdd vs ccs tf, K.lookup c = some ⟨ccl, cdd, .fields vs, ccs⟩ ∧ vs[2]? = some (.str fl tf) := by
  unfold fileB at h
  split at h
  · rename_i c
    split at h
    · rename_i a b vs d e
      split at h
      · rename_i v0 v1 f t r e2
        have ef : f = fl := of_decide_eq_true h
        refine ⟨c, rfl, a, b, vs, d, t, e, ?_⟩
        rw [← Array.getElem?_toList, e2, ← ef]
        rfl
      · cases h
    · cases h
  · cases h
def DefS.ok (K : PySem.W.Frag) (fl : Str) (d : DefS) : Bool := PySem.W.keepIn K (.ref (fAd K d.at_)) && (match K.lookup (fAd K d.at_) with
  | some ⟨_, _, .func fd, _⟩ => PySem.W.codeIn K fd.code d.qual && (dflB K fd.defaults (d.dvs K) && (kwdB K fd.kwdefaults (d.kws K) && (match d.sup with
    | none => true
    | some D => (match fd.closure with
      | [(_, cc)] => cellB K cc (ga K D) && fileB K fl fd.code
      | _ => false))))
  | _ => false)
theorem DefS.funD {K : PySem.W.Frag} {fl : Str} {d : DefS} (hs : d.sup = none) (e : fnZ K d.at_ = d.val) (c : d.ok K fl = true) : ∃ fd, FunD K d.name d.qual d.params d.body d.scope (d.dvs K) (d.kws K) (fAd K d.at_) fd := by
  obtain ⟨kp, c2⟩ := ba c
  unfold fnZ at e
  cases q : K.lookup (fAd K d.at_) with
  | none =>
    rw [q] at c2
    cases c2
  | some o =>
    obtain ⟨oc, od, dt, osl⟩ := o
    rw [q] at c2 e
    cases dt with
    | func fd =>
      obtain ⟨n1, n2, n3, n4, n5, n6, n7, n8, n9, n10, n11, n12, n13, n14, n15⟩ := fd
      have e2 : (some (n1, n2, n3, n4, n5, n6, n7.map (·.1), n15) : FnZ) = some (d.name, d.qual, d.params, .stmts d.body, d.scope, mainGlobals, d.clo, builtinsNs) := e
      simp only [Option.some.injEq, Prod.mk.injEq] at e2
      obtain ⟨h1, h2, h3, h4, h5, h6, h7, h8⟩ := e2
      have h7' : n7 = [] := by
        have z : d.clo = [] := by unfold DefS.clo; rw [hs]
        rw [z] at h7
        exact List.map_eq_nil_iff.mp h7
      subst h1 h2 h3 h4 h5 h6 h7' h8
      have c3 : (PySem.W.codeIn K n13 d.qual && (dflB K n8 (d.dvs K) && (kwdB K n9 (d.kws K) && _))) = true := c2
      obtain ⟨k1, k2⟩ := ba c3
      obtain ⟨k3, k4⟩ := ba k2
      obtain ⟨k5, _⟩ := ba k4
      exact ⟨_, ⟨oc, od, n8, n9, n10, n11, n12, n13, n14, osl, rfl, q, k1, dflB_ok k3, kwdB_ok k5⟩, kp⟩
    | _ => cases c2
theorem DefS.funS {K : PySem.W.Frag} {fl D : Str} {d : DefS} (hs : d.sup = some D) (e : fnZ K d.at_ = d.val) (c : d.ok K fl = true) : ∃ fd, FunS K fl d.name d.qual d.params d.body d.scope (d.dvs K) (d.kws K) (ga K D) (fAd K d.at_) fd := by
  obtain ⟨kp, c2⟩ := ba c
  unfold fnZ at e
  cases q : K.lookup (fAd K d.at_) with
  | none =>
    rw [q] at c2
    cases c2
  | some o =>
    obtain ⟨oc, od, dt, osl⟩ := o
    rw [q] at c2 e
    cases dt with
    | func fd =>
      obtain ⟨n1, n2, n3, n4, n5, n6, n7, n8, n9, n10, n11, n12, n13, n14, n15⟩ := fd
      have e2 : (some (n1, n2, n3, n4, n5, n6, n7.map (·.1), n15) : FnZ) = some (d.name, d.qual, d.params, .stmts d.body, d.scope, mainGlobals, d.clo, builtinsNs) := e
      simp only [Option.some.injEq, Prod.mk.injEq] at e2
      obtain ⟨h1, h2, h3, h4, h5, h6, h7, h8⟩ := e2
      have z : d.clo = [("__class__" : Str)] := by unfold DefS.clo; rw [hs]
      rw [z] at h7
      obtain ⟨cc, h7'⟩ : ∃ cc : Addr, n7 = [(("__class__" : Str), cc)] := by
        match n7, h7 with
        | [(a, cc)], h7 =>
          have h8 : a = ("__class__" : Str) := by simpa using h7
          exact ⟨cc, by rw [h8]⟩
      subst h1 h2 h3 h4 h5 h6 h7' h8
      have c3 : (PySem.W.codeIn K n13 d.qual && (dflB K n8 (d.dvs K) && (kwdB K n9 (d.kws K) && (match d.sup with
        | none => true
        | some D => cellB K cc (ga K D) && fileB K fl n13)))) = true := c2
      obtain ⟨k1, k2⟩ := ba c3
      obtain ⟨k3, k4⟩ := ba k2
      obtain ⟨k5, k6⟩ := ba k4
      rw [hs] at k6
      obtain ⟨k7, k8⟩ := ba k6
      obtain ⟨cda, rfl, kf⟩ := fileB_ok k8
      exact ⟨_, ⟨oc, od, n8, n9, n10, n11, n12, cda, cc, n14, osl, rfl, q, k1, cellB_ok k7, kf, dflB_ok k3, kwdB_ok k5⟩, kp⟩
    | _ => cases c2

/-! ### the Hook -/
abbrev Look1 := PySem.W.Frag → Bool
abbrev AlX : Type := Bool × List FnZ
def obsX (fl : Str) (fa : List Look1) (fn : List DefS) (K : PySem.W.Frag) : AlX := ((fa.all fun f => f K) && fn.all fun d => d.ok K fl, fn.map fun d => fnZ K d.at_)
def valX (fn : List DefS) : AlX := (true, fn.map DefS.val)
def SaysX (fl : Str) (fa : List Look1) (fn : List DefS) (K : PySem.W.Frag) : Prop := obsX fl fa fn K = valX fn
def obsXG (fl : Str) (fa : List Look1) (fn : List DefS) (g : Addr → Option Obj) : AlX := obsX fl fa fn (frG g (asX g))
def hookX (fl : Str) (fa : List Look1) (fn : List DefS) : PySem.W.Hook where
  α := AlX
  obs := fun s => obsXG fl fa fn s.heap.get?
  val := fun _ => valX fn
  says := fun _ h => ∃ K : PySem.W.Frag, K.In h ∧ SaysX fl fa fn K
  of := fun _ _ e => ⟨_, frG_in, e⟩
  keeps := fun _ _ _ ⟨K, hK, c⟩ k => ⟨K, PySem.W.Frag.In.keeps hK k, c⟩
theorem obsXG_eq {fl : Str} {fa : List Look1} {fn : List DefS} {g : Addr → Option Obj} {s : Shared} (h : ∀ a, g a = s.heap.get? a) : obsXG fl fa fn g = (hookX fl fa fn).obs s := by
  have e : g = s.heap.get? := funext h
  rw [e] <;> rfl
section
variable {fl : Str} {fa : List Look1} {fn : List DefS} {K : PySem.W.Frag}
theorem SaysX.fact (c : SaysX fl fa fn K) (i : Nat) {f : Look1} (h : fa[i]? = some f := by rfl) : f K = true := by
  have c1 := (ba (show ((fa.all fun f => f K) && fn.all fun d => d.ok K fl) = true from congrArg (fun z : AlX => z.1) c)).1
  exact List.all_eq_true.mp c1 f (List.mem_of_getElem? h)
theorem SaysX.pair (c : SaysX fl fa fn K) (i : Nat) {d : DefS} (h : fn[i]? = some d) : fnZ K d.at_ = d.val ∧ d.ok K fl = true := by
  have c2 := (ba (show ((fa.all fun f => f K) && fn.all fun d => d.ok K fl) = true from congrArg (fun z : AlX => z.1) c)).2
  have e : fn.map (fun d => fnZ K d.at_) = fn.map DefS.val := congrArg (fun z : AlX => z.2) c
  have e2 : (fn.map fun d => fnZ K d.at_)[i]? = (fn.map DefS.val)[i]? := by rw [e]
  rw [List.getElem?_map, List.getElem?_map, h] at e2
  exact ⟨Option.some.inj e2, List.all_eq_true.mp c2 d (List.mem_of_getElem? h)⟩
theorem SaysX.def_ (c : SaysX fl fa fn K) (i : Nat) {d : DefS} (h : fn[i]? = some d := by rfl) (hs : d.sup = none := by rfl) : ∃ fd, FunD K d.name d.qual d.params d.body d.scope (d.dvs K) (d.kws K) (fAd K d.at_) fd :=
  DefS.funD hs (c.pair i h).1 (c.pair i h).2
theorem SaysX.sup (c : SaysX fl fa fn K) (i : Nat) {d : DefS} {D : Str} (h : fn[i]? = some d := by rfl) (hs : d.sup = some D := by rfl) : ∃ fd, FunS K fl d.name d.qual d.params d.body d.scope (d.dvs K) (d.kws K) (ga K D) (fAd K d.at_) fd :=
  DefS.funS hs (c.pair i h).1 (c.pair i h).2
end
end Bx
/-! BxExc: own exception classes under an own base, with __init__ by super(): facts, raised, held as values, asked. -/
namespace Bx
open PySem PySem.Spec PyProof.Rows L2 NdefX He

/-! ### what stands of the class at C -/
structure ExcK (K : PySem.W.Frag) (C : Addr) : Prop where
  oex : OexC K C
  hcl : (PySem.W.clsIn K C).isSome = true
  hga : PySem.W.findIn K (.ref C) "__getattribute__" = some (some (.builtin "BaseException.__getattribute__"))
  hgt : PySem.W.findIn K (.ref C) "__getattr__" = some none
  hba : PySem.W.subIn K (.ref C) (.type "BaseException") = some true
  hve : PySem.W.subIn K (.ref C) (.type "ValueError") = some true
  ha : PySem.W.findIn K (.ref C) "__class__" = some (some (.builtin "object.__class__"))
  hn : PySem.W.specialIn K (.builtin "object.__class__") "__get__" = some (some (.builtin "getset_descriptor.__get__"))
  ht : PySem.W.takesIn K (.builtin "object.__class__") = some true
  hm : PySem.W.mroIn K C (.type "object") = some true
  hs : PySem.W.mroIn K C (.ref C) = some true
  hd : PySem.W.hasDictIn K C = true
  su : PySem.W.ks_superIn K C C "__init__" = some (some (.builtin "ValueError.__init__"))
def eqV (a b : Option (Option Value)) : Bool := decide (a = b)
def eqB (a : Option Bool) (b : Bool) : Bool := decide (a = some b)
def oexB (K : PySem.W.Frag) (C : Addr) : Bool := match K.lookup C with
  | some ⟨.type "type", _, .cls ⟨_, _, mro, _, _, hasDict, _, _, _, _, hasDel⟩, ⟨[_, _, _, _, some (.builtin n), _]⟩⟩ => (match mro with
    | .ref C' :: bm => decide (C' = C) && (PySem.HandSPX.refsVE bm && (hasDict && (!hasDel && decide (n = "ValueError.__new__"))))
    | _ => false)
  | _ => false
def excB (K : PySem.W.Frag) (C : Addr) : Bool := oexB K C && (eqV (PySem.W.findIn K (.ref C) "__setattr__") (some (some (.builtin "object.__setattr__"))) && (decide (PySem.W.typeIn K (.ref C) = some (.type "type")) && (PySem.W.keepIn K (.ref C) &&
  ((PySem.W.clsIn K C).isSome && (eqV (PySem.W.findIn K (.ref C) "__getattribute__") (some (some (.builtin "BaseException.__getattribute__"))) && (eqV (PySem.W.findIn K (.ref C) "__getattr__") (some none) &&
  (eqB (PySem.W.subIn K (.ref C) (.type "BaseException")) true && (eqB (PySem.W.subIn K (.ref C) (.type "ValueError")) true && (eqV (PySem.W.findIn K (.ref C) "__class__") (some (some (.builtin "object.__class__"))) &&
  (eqV (PySem.W.specialIn K (.builtin "object.__class__") "__get__") (some (some (.builtin "getset_descriptor.__get__"))) && (eqB (PySem.W.takesIn K (.builtin "object.__class__")) true && (eqB (PySem.W.mroIn K C (.type "object")) true &&
  (eqB (PySem.W.mroIn K C (.ref C)) true && (PySem.W.hasDictIn K C && eqV (PySem.W.ks_superIn K C C "__init__") (some (some (.builtin "ValueError.__init__")))))))))))))))))
theorem oexB_ok {K : PySem.W.Frag} {C : Addr} (h : oexB K C = true) : ∃ nm q N bs bm sn sub ab col dd k0 k1 k2 k3 k5, K.lookup C = some (excClassObj nm q C N bs bm true sn sub ab col dd k0 k1 k2 k3 k5 "ValueError.__new__") ∧ PySem.HandSPX.refsVE bm = true := by
  unfold oexB at h
  split at h
  · rename_i dd nm bs mro ns qn hd sn sub ab col del k0 k1 k2 k3 n k5 e
    split at h
    · rename_i C' bm
      obtain ⟨h1, h⟩ := ba h
      obtain ⟨h2, h⟩ := ba h
      obtain ⟨h3, h⟩ := ba h
      obtain ⟨h4, h5⟩ := ba h
      have e1 : C' = C := of_decide_eq_true h1
      have e5 : n = "ValueError.__new__" := of_decide_eq_true h5
      have e4 : del = false := by simpa using h4
      subst e1 e5 e4 h3
      exact ⟨nm, qn, ns, bs, bm, sn, sub, ab, col, dd, k0, k1, k2, k3, k5, e, h2⟩
    · cases h
  · cases h
theorem excB_ok {K : PySem.W.Frag} {C : Addr} (h : excB K C = true) : ExcK K C := by
  obtain ⟨h1, h⟩ := ba h
  obtain ⟨h2, h⟩ := ba h
  obtain ⟨h3, h⟩ := ba h
  obtain ⟨h4, h⟩ := ba h
  obtain ⟨h5, h⟩ := ba h
  obtain ⟨h6, h⟩ := ba h
  obtain ⟨h7, h⟩ := ba h
  obtain ⟨h8, h⟩ := ba h
  obtain ⟨h9, h⟩ := ba h
  obtain ⟨h10, h⟩ := ba h
  obtain ⟨h11, h⟩ := ba h
  obtain ⟨h12, h⟩ := ba h
  obtain ⟨h13, h⟩ := ba h
  obtain ⟨h14, h⟩ := ba h
  obtain ⟨h15, h16⟩ := ba h
  exact ⟨⟨oexB_ok h1, of_decide_eq_true h2, of_decide_eq_true h8, of_decide_eq_true h3, h4⟩, h5, of_decide_eq_true h6, of_decide_eq_true h7, of_decide_eq_true h8, of_decide_eq_true h9, of_decide_eq_true h10, of_decide_eq_true h11, of_decide_eq_true h12, of_decide_eq_true h13, of_decide_eq_true h14, h15, of_decide_eq_true h16⟩

/-! ### an exception held as a value -/
section
variable {X : Cx} {pins : List (Addr × Obj)} {σ : L2.St} {H : Hp} {s : Shared} {a C dx : Addr} {fs : List (Str × V)}
theorem exo_inst (I : Inv X pins σ H s) (ea : H a = some (exo a C (some dx))) (ed : H dx = some (exd dx fs)) : ∃ ox od, PySem.W.InstAt s.heap a ox C (some od) ∧ ∃ mA : Str → Option Value, (∀ name, PySem.W.lookIn name od = some (mA name)) ∧ ∀ f, RelO (fs.lookup f) (mA f) := by
  obtain ⟨t1, ho⟩ := exo_at I.hok ea
  obtain ⟨mA, hns, hr⟩ := exd_at I.hok ed
  obtain ⟨od, hod, hl⟩ := lookIn_ns hns
  exact ⟨_, od, ⟨ho, rfl, rfl, hod⟩, mA, hl, hr⟩
/-- isinstance(x, c), x an exception held as a value -/
def rIsX (K : PySem.W.Frag) : List V → Hp → VK → Prop := fun xs H Q => ∃ (a C dx : Addr) (fs : List (Str × V)) (c : V) (u : Value) (b : Bool), xs = [.ref a, c] ∧ ClsV c u ∧ H a = some (exo a C (some dx)) ∧ H dx = some (exd dx fs) ∧ ExcK K C ∧ PySem.W.kitOne K (.ref C) u = some b ∧ Q (.bl b) H
theorem call_isX : CallR X (.builtin "isinstance") (rIsX X.K) := by
  intro pins s σ H xs us Q I r h
  obtain ⟨a, C, dx, fs, c, u, b, rfl, k, ea, ed, T, e, q⟩ := h
  obtain ⟨u1, u2, rfl, r1, r2⟩ := vals2 r
  have e2 := k.eq r2
  subst e2
  obtain rfl : u1 = Value.ref a := r1
  obtain ⟨ox, od, J, _⟩ := exo_inst I ea ed
  exact PySem.W.kia_one (PySem.W.kitx_exc T.hcl T.hga T.hgt T.hba T.ha T.hn T.ht T.hm) I.kIn J e (fun z => nomatch z) fun tk => ⟨.bl b, H, I.tok tk, rfl, q⟩
variable {e : Expr} {es : List Expr} {te : TE} {ta : TA} {f : Str} {p pos : Pos}
/-- e.f of such -/
def tXFld (K : PySem.W.Frag) (te : TE) (f : Str) : TE := fun σ H Q => te σ H fun x H1 => ∃ (a C dx : Addr) (fs : List (Str × V)) (v : V), x = .ref a ∧ H1 a = some (exo a C (some dx)) ∧ H1 dx = some (exd dx fs) ∧ ExcK K C ∧ PySem.W.findIn K (.ref C) f = some none ∧ fs.lookup f = some v ∧ Q v H1
theorem pe_xfld (he : PE X e te) (hb : attributeBase e f X.env (eval e X.env) = eval e X.env := by rfl) : PE X (.Attribute e f pos) (tXFld X.K te f) := by
  refine ⟨fun pins s σ H Q I h => ?_⟩
  refine attr_of hb (thn (he.run pins s σ H _ I h) fun u s1 hh => ?_)
  obtain ⟨x, H1, I1, rx, a, C, dx, fs, v, ex, ea, ed, T, hno, l, q⟩ := hh
  subst ex
  obtain rfl : u = Value.ref a := rx
  obtain ⟨ox, od, J, mA, hl, hr⟩ := exo_inst I1 ea ed
  obtain ⟨u, hu, ru⟩ := RelO.some_of (v := v) (o := mA f) (by rw [← l]; exact hr f)
  exact HandSPX.exc_get I1.kIn J T.hga T.hgt T.hba (PySem.W.findObj_own T.hd hno rfl (by rw [hl, hu])) (handed_of ru) ⟨v, H1, I1.tok _, ru, q⟩
/-- C(e, ..), the exception as a value -/
def tMkV (C : Addr) (sp : Sp) (dvs : List V) (ta : TA) : TE := fun σ H Q => ta σ H fun vs H1 => vs.length ≤ 1000 ∧ ∀ a, H1 a = none → sp (.ref a :: (vs ++ dvs)) (upd H1 a (exo a C none)) (fun v H2 => v = .non ∧ Q (.ref a) H2) (fun _ _ _ => False)
theorem pe_mkV {CX : CXT} {x : Str} {C fI : Addr} {k : Nat} {fd : FuncData} {ps : List Str} {sp : Sp} {ds : List Value} {dvs : List V} (T : OexC X.K C) (iC : PySem.W.findIn X.K (.ref C) "__init__" = some (some (.ref fI))) (tI : PySem.W.typeIn X.K (.ref fI) = some (.type "function"))
    (F1 : FnOk X.prog X.w X.K X.mg X.base CX k fI fd ps sp) (hr : Room (k + 1) X.A) (hb : Binds X.K fd ps ds) (hd : Vals dvs ds) (hx : Passes CX X (fun _ _ _ => False)) (hg : Gl X x) (hm : X.mg x = some (.ref C)) (ha : PA X (e :: es) ta)
    (hdb : (x == ("__debug__" : Str)) = false := by decide) (he : starEach (e :: es) X.env = (false, eval e X.env) :: starEach es X.env := by rfl) (hpl : (backTo pos (starEach es X.env)).any (·.1) = false := by rfl) :
    PE X (.Call (.Name x p) (e :: es) [] pos) (tMkV C sp dvs ta) := by
  refine ⟨fun pins s σ H Q I h => ?_⟩
  obtain ⟨nm, q, N, bs, bm, sn, sub, ab, col, dd, k0, k1, k2, k3, k5, hC, hbm⟩ := T.cls
  refine wpAny_Call_Name_kw (ld_glob I hg hm ?_ hdb)
  refine PySem.W.callWith_K (h₀ := X.base) I.ok.mod.kin T.kC (thn (ha.run pos pins s σ H _ I h) fun us s1 ⟨vs, H1, I1, r1, hz, q1⟩ => ⟨I1.kIn, ?_⟩) he hpl
  show wpAny _ _ (call (.ref C) us) _ _ _
  obtain ⟨hp, g, dr, tk, os⟩ := s1
  have hsz : hp.objs.size ≤ hp.objs.size + 1 := Nat.le_succ _
  have hn : H1 (hp.objs.size + 1) = none := I1.hok.fresh hsz
  have hq := q1 (hp.objs.size + 1) hn
  have kk : ∀ b o, hp.get? b = some o → ((hp.push (PySem.W.kdv_tup us)).push (PySem.HandSPX.excO C hp.objs.size)).get? b = some o := fun b o e => Heap.get?_push_of_some _ (Heap.get?_push_of_some _ e)
  have hget : ((hp.push (PySem.W.kdv_tup us)).push (PySem.HandSPX.excO C hp.objs.size)).get? (hp.objs.size + 1) = some (PySem.HandSPX.excO C hp.objs.size) := by heap_get
  have I2 : Inv X pins σ (upd H1 (hp.objs.size + 1) (exo (hp.objs.size + 1) C none)) ⟨(hp.push (PySem.W.kdv_tup us)).push (PySem.HandSPX.excO C hp.objs.size), g, dr, tk, os⟩ :=
    I1.laid (t' := tk) (a := hp.objs.size + 1) (o := exo (hp.objs.size + 1) C none) (h' := (hp.push (PySem.W.kdv_tup us)).push (PySem.HandSPX.excO C hp.objs.size)) kk hsz (exo_ok hget)
  have r2 : Vals (V.ref (hp.objs.size + 1) :: (vs ++ dvs)) (Value.ref (hp.objs.size + 1) :: (us ++ ds)) := .cons rfl (r1.append hd)
  have hl : (Value.ref (hp.objs.size + 1) :: us ++ ds).length = ps.length := by
    have e := r2.length
    rw [F1.len _ _ _ _ hq] at e
    exact e.symm
  have hus : us.length ≤ sizeLine := by
    rw [← Paired.length r1, sizeLine_eq]
    omega
  refine wpAny_call (PySem.HandSPX.call_own F.excBase_ValueError (fun Y => PySem.HandSPX.refsVE_contains Y bm hbm) (I1.kIn _ _ hC) (PySem.W.looks_findIn I1.kIn iC) (fun self => PySem.W.bind_fn I1.kIn self tI) hus
    (codeAny_mono (F1.run _ X.stack _ _ ⟨Value.ref (hp.objs.size + 1) :: us, []⟩ (Value.ref (hp.objs.size + 1) :: (us ++ ds)) _ _ (fun _ _ _ => False) (hr.make C us []) (I2.env0.make C us []) (hb _ (Value.ref (hp.objs.size + 1) :: us) I2.kIn hl) r2 hq) fun r s' hq' => ?_))
  cases r with
  | error er => exact hx pins σ _ _ er s' I2 hq'
  | ok fl =>
    cases fl with
    | ret u =>
      obtain ⟨v, H2, J, rv, ev, q2⟩ := I2.after hq'
      subst ev
      exact ⟨rv, .ref (hp.objs.size + 1), H2, J, rfl, q2⟩
    | next => exact False.elim hq'
    | brk => exact False.elim hq'
    | cont => exact False.elim hq'
end

/-! ### an exception caught, its dict told -/
section
variable {X : Cx} {a C : Addr} {oe : Obj} {cls : Value} {d : Option Addr} {pn : List (Addr × Obj)}
/-- isinstance(e, c), e the exception that the suite holds, with or without a dict -/
def rIsC (K : PySem.W.Frag) (cls : Value) (d : Option Addr) (a : Addr) : List V → Hp → VK → Prop := fun xs H Q => ∃ (c : V) (cv : Value) (C : Addr) (b : Bool), xs = [.ref a, c] ∧ ClsV c cv ∧ cls = .ref C ∧ ExcK K C ∧ (d = none ∨ ∃ dd fs, d = some dd ∧ H dd = some (.xd fs)) ∧ PySem.W.kitOne K (.ref C) cv = some b ∧ Q (.bl b) H
theorem call_isC (hz : Zc cls d oe) (hf : ∃ vs, oe.data = .fields vs) : CallR (X.suite a ((a, oe) :: pn)) (.builtin "isinstance") (rIsC X.K cls d a) := by
  intro pins s σ H xs us Q I r h
  obtain ⟨c, cv, C, b, rfl, k, ec, T, hd, e, q⟩ := h
  obtain ⟨u1, u2, rfl, r1, r2⟩ := vals2 r
  have e2 := k.eq r2
  subst e2
  obtain rfl : u1 = Value.ref a := r1
  obtain ⟨hget, _⟩ := I.pin (a, oe) (List.mem_append.mpr (.inl List.mem_cons_self))
  obtain ⟨vs, hv⟩ := hf
  obtain ⟨od, J⟩ : ∃ od, PySem.W.InstAt s.heap a oe C od := by
    have hno : PySem.W.notCls oe = true := by unfold PySem.W.notCls; rw [hv] <;> rfl
    have hcl : oe.cls = .ref C := hz.1.trans ec
    rcases hd with e0 | ⟨dd, fs, e0, ed⟩
    · exact ⟨none, hget, hcl, hno, by rw [hz.2, e0]; trivial⟩
    · obtain ⟨mA, hns, _⟩ := (show ObjOk X.prog X.w H s.heap dd (.xd fs) from I.hok dd _ ed)
      obtain ⟨od, hod, _⟩ := lookIn_ns hns
      exact ⟨some od, hget, hcl, hno, by rw [hz.2, e0]; exact hod⟩
  exact PySem.W.kia_one (PySem.W.kitx_exc T.hcl T.hga T.hgt T.hba T.ha T.hn T.ht T.hm) I.kIn J e (fun z => nomatch z) fun tk => ⟨.bl b, H, I.tok tk, rfl, q⟩
theorem ExcK.xf {K : PySem.W.Frag} {C : Addr} (T : ExcK K C) : XfC K C := ⟨T.hga, T.hgt, T.hba, T.hd⟩
end

/-! ### the promise of an __init__ of one field, of two -/
def spI1 (C : Addr) (f : Str) : Sp := fun vs H Q _ => ∃ a y, vs = [.ref a, y] ∧ H a = some (exo a C none) ∧ ∀ dx, H dx = none → dx ≠ a → Q .non (upd (upd H dx (exd dx [(f, y)])) a (exo a C (some dx)))
def spI2 (C : Addr) (f g : Str) (P : V → Prop) : Sp := fun vs H Q _ => ∃ a y z, vs = [.ref a, y, z] ∧ P y ∧ H a = some (exo a C none) ∧ ∀ dx, H dx = none → dx ≠ a → Q .non (upd (upd (upd H dx (exd dx [(f, y)])) a (exo a C (some dx))) dx (exd dx [(g, z), (f, y)]))
end Bx
/-! BxRd: the readings by small steps. -/
namespace Bx
open PySem PySem.Spec PyProof.Rows L2 He
section
variable {K : PySem.W.Frag} {σ : L2.St} {H : Hp} {D : Ends} {ta tb te tl : TE} {t u : TS} {c c' : TT} {v : V} {i : Nat} {Q : VK} {QB : Bool → Hp → Prop} {QA : List V → Hp → Prop} {ts : TA} {f : Str}
/-! ### statements -/
theorem r_seq (h : t ⟨u D, D.rt, D.bk, D.ct⟩ σ H) : tSeq t u D σ H := h
/-- the slot i holds x; then n -/
def nSet (n : L2.St → Hp → Prop) (σ : L2.St) (i : Nat) (x : Option V) (H : Hp) : Prop := n (σ.set i x) H
theorem r_asg {n : L2.St → Hp → Prop} {r : VK} {b ct : L2.St → Hp → Prop} (h : te σ H fun x H1 => nSet n σ i (some x) H1) : tAsg te (gName i) ⟨n, r, b, ct⟩ σ H := h
theorem a_nset {n : L2.St → Hp → Prop} {x : Option V} {σ' : L2.St} (e : σ.set i x = σ') (q : n σ' H) : nSet n σ i x H := by
  unfold nSet
  rw [e]
  exact q
theorem set_0 {a x : Option V} {l : L2.St} : (a :: l).set 0 x = x :: l := rfl
theorem set_s {a x : Option V} {l l' : L2.St} {n : Nat} (e : l.set n x = l') : (a :: l).set (n + 1) x = a :: l' := by rw [← e]; rfl
theorem set_in {x y : Option V} {j : Nat} {σ1 σ2 : L2.St} (e1 : σ.set i x = σ1) (e2 : σ1.set j y = σ2) : (σ.set i x).set j y = σ2 := by rw [e1, e2]
/-- the slots at the start -/
theorem st_0 : L2.start [] [] = [] := rfl
theorem st_n {x : Str} {N : List Str} {l : L2.St} (e : L2.start N [] = l) : L2.start (x :: N) [] = none :: l := by rw [← e]; rfl
theorem st_v {x : Str} {v : V} {N : List Str} {vs : List V} {l : L2.St} (e : L2.start N vs = l) : L2.start (x :: N) (v :: vs) = some v :: l := by
  rw [← e]
  unfold L2.start
  rw [List.length_cons, List.length_cons, Nat.add_sub_add_right]
  rfl
theorem r_start {t : TS} {N : List Str} {vs : List V} {σ' : L2.St} (e : L2.start N vs = σ') (q : t D σ' H) : t D (L2.start N vs) H := by rw [e]; exact q
theorem r_nset {t : TS} {x : Option V} {σ' : L2.St} (e : σ.set i x = σ') (q : t D σ' H) : t D (σ.set i x) H := by rw [e]; exact q
theorem r_nsetN {n : L2.St → Hp → Prop} {x : Option V} {σ' : L2.St} (e : σ.set i x = σ') (q : n σ' H) : n (σ.set i x) H := by rw [e]; exact q
theorem r_ret {n : L2.St → Hp → Prop} {r : VK} {b ct : L2.St → Hp → Prop} (h : te σ H r) : tRet te ⟨n, r, b, ct⟩ σ H := h
theorem r_retN {n : L2.St → Hp → Prop} {r : VK} {b ct : L2.St → Hp → Prop} (h : r .non H) : tRetN ⟨n, r, b, ct⟩ σ H := h
theorem r_next {n : L2.St → Hp → Prop} {r : VK} {b ct : L2.St → Hp → Prop} (h : n σ H) : tNext ⟨n, r, b, ct⟩ σ H := h
theorem r_brk {n : L2.St → Hp → Prop} {r : VK} {b ct : L2.St → Hp → Prop} (h : b σ H) : tBreak ⟨n, r, b, ct⟩ σ H := h
theorem r_cont {n : L2.St → Hp → Prop} {r : VK} {b ct : L2.St → Hp → Prop} (h : ct σ H) : tCont ⟨n, r, b, ct⟩ σ H := h
theorem r_drop {n : L2.St → Hp → Prop} {r : VK} {b ct : L2.St → Hp → Prop} (h : te σ H fun _ H1 => n σ H1) : tDrop te ⟨n, r, b, ct⟩ σ H := h
theorem r_ifS (h : c σ H fun b H1 => if b = true then t D σ H1 else u D σ H1) : tIfS c t u D σ H := h
theorem r_par {n : L2.St → Hp → Prop} {r : VK} {b ct : L2.St → Hp → Prop} {j : Nat} (h : ts σ H fun vs H1 => ∃ v w, vs = [v, w] ∧ nSet (fun σ' H2 => nSet n σ' j (some w) H2) σ i (some v) H1) : tPar i j ts ⟨n, r, b, ct⟩ σ H := h
/-! ### expressions -/
theorem r_var (h : σ[i]? = some (some v)) (q : Q v H) : tVar i σ H Q := ⟨v, h, q⟩
theorem r_c (q : Q v H) : tC v σ H Q := q
theorem r_op {r : R2} (h : ta σ H fun x H1 => tb σ H1 fun y H2 => r x y H2 Q) : tOp r ta tb σ H Q := h
theorem r_un {r : V → Hp → VK → Prop} (h : ta σ H fun x H1 => r x H1 Q) : tUn r ta σ H Q := h
theorem r_I0 {g : Int → Int → V} {i j : Int} (q : Q (g i j) H) : rI0 g (.int i) (.int j) H Q := ⟨i, j, rfl, rfl, q⟩
theorem r_I {C : Int → Int → Prop} {g : Int → Int → V} {i j : Int} (hc : C i j) (q : Q (g i j) H) : rI C g (.int i) (.int j) H Q := ⟨i, j, rfl, rfl, hc, q⟩
theorem r_U {g : Int → V} {i : Int} (q : Q (g i) H) : rU g (.int i) H Q := ⟨i, rfl, q⟩
theorem r_eq {x y : V} (hs : scal x y = true) (q : Q (.bl (decide (x = y))) H) : rEq x y H Q := ⟨hs, q⟩
theorem r_ne {x y : V} (hs : scal x y = true) (q : Q (.bl (!decide (x = y))) H) : rNe x y H Q := ⟨hs, q⟩
theorem r_isN {x : V} (q : Q (.bl (decide (x = .non))) H) : (fun (x y : V) (H : Hp) (Q : VK) => y = .non ∧ Q (.bl (decide (x = .non))) H) x .non H Q := ⟨rfl, q⟩
/-! ### tests -/
theorem r_test (h : te σ H fun x H1 => ∃ k, x = .bl k ∧ QB k H1) : tTest te σ H QB := h
theorem r_B (h : te σ H fun x H1 => ∃ k, x = .bl k ∧ QB k H1) : tB te σ H QB := h
theorem r_k {b : Bool} {P : Bool → Prop} (q : P b) : ∃ k, V.bl b = .bl k ∧ P k := ⟨b, rfl, q⟩
theorem r_and (h : c σ H fun b H1 => if b = true then c' σ H1 QB else QB false H1) : tAnd c c' σ H QB := h
theorem r_or (h : c σ H fun b H1 => if b = true then QB true H1 else c' σ H1 QB) : tOr c c' σ H QB := h
theorem r_not (h : c σ H fun b H1 => QB (!b) H1) : tNot c σ H QB := h
theorem r_if (h : c σ H fun b H1 => if b = true then ta σ H1 Q else tb σ H1 Q) : tIf c ta tb σ H Q := h
theorem r_notV (h : ta σ H fun x H1 => ∃ k, x = .bl k ∧ Q (.bl (!k)) H1) : tNotV ta σ H Q := h
theorem r_andV (h : ta σ H fun x H1 => ∃ k, x = .bl k ∧ if k = true then tb σ H1 Q else Q (.bl false) H1) : tAndV ta tb σ H Q := h
theorem r_orV (h : ta σ H fun x H1 => ∃ k, x = .bl k ∧ if k = true then Q (.bl true) H1 else tb σ H1 Q) : tOrV ta tb σ H Q := h
/-- a test's two ways -/
theorem br {p : Prop} [Decidable p] {A B : Prop} (h1 : p → A) (h2 : ¬ p → B) : if decide p = true then A else B := by
  by_cases h : p
  · rw [decide_eq_true h, if_pos rfl]; exact h1 h
  · rw [decide_eq_false h, if_neg Bool.false_ne_true]; exact h2 h
theorem brN {p : Prop} [Decidable p] {A B : Prop} (h1 : ¬ p → A) (h2 : p → B) : if (!decide p) = true then A else B := by
  by_cases h : p
  · rw [decide_eq_true h]; exact h2 h
  · rw [decide_eq_false h]; exact h1 h
theorem brB {b : Bool} {A B : Prop} (h1 : b = true → A) (h2 : b = false → B) : if b = true then A else B := by
  cases b with
  | true => exact h1 rfl
  | false => exact h2 rfl
theorem brT {b : Bool} {A B : Prop} (h : b = true) (q : A) : if b = true then A else B := by rw [if_pos h]; exact q
theorem brF {b : Bool} {A B : Prop} (h : b = false) (q : B) : if b = true then A else B := by rw [h, if_neg Bool.false_ne_true]; exact q
/-! ### arguments, displays, calls -/
theorem r_nil (q : QA [] H) : tNil σ H QA := q
theorem r_cons (h : ta σ H fun x H1 => ts σ H1 fun xs H2 => QA (x :: xs) H2) : tCons ta ts σ H QA := h
theorem r_tup (h : ts σ H fun xs H1 => xs.length ≤ sizeLine ∧ ∀ p, H1 p = none → Q (.ref p) (upd H1 p (.tup xs))) : tTup ts σ H Q := h
theorem r_lst (h : ts σ H fun xs H1 => xs.length ≤ sizeLine ∧ ∀ p, H1 p = none → Q (.ref p) (upd H1 p (.lst xs))) : tLst ts σ H Q := h
theorem r_new {xs : List V} {P : Addr → Prop} (hz : xs.length ≤ 1000) (q : ∀ p, H p = none → P p) : xs.length ≤ sizeLine ∧ ∀ p, H p = none → P p := ⟨Nat.le_trans hz (by decide), q⟩
theorem r_CB {r : List V → Hp → VK → Prop} (h : ts σ H fun vs H1 => r vs H1 Q) : tCB r ts σ H Q := h
theorem r_call {sp : Sp} {E : XK} (h : ts σ H fun vs H1 => sp (vs ++ []) H1 Q E) : tCall sp [] E ts σ H Q := h
theorem r_callD {sp : Sp} {E : XK} {dvs : List V} (h : ts σ H fun vs H1 => sp (vs ++ dvs) H1 Q E) : tCall sp dvs E ts σ H Q := h
theorem r_make {sp : Sp} {E : XK} {C : Addr} {dvs : List V} (h : ts σ H fun vs H1 => ∀ x dx, H1 x = none → H1 dx = none → dx ≠ x → sp (.ref x :: (vs ++ dvs)) (upd (upd H1 dx (.own x)) x (.ins C dx [])) (fun v H2 => v = .non ∧ Q (.ref x) H2) E) : tMake C sp dvs E ts σ H Q := h
/-! ### the heap -/
/-- all but b stays -/
def But (b : Addr) (H H' : Hp) : Prop := ∀ a o, H a = some o → a ≠ b → H' a = some o
theorem But.refl (b : Addr) (H : Hp) : But b H H := fun _ _ h _ => h
theorem But.trans {b : Addr} {H H1 H2 : Hp} (x : But b H H1) (y : But b H1 H2) : But b H H2 := fun a o h n => y a o (x a o h n) n
theorem But.of {b : Addr} {H H1 : Hp} (x : Same H H1) : But b H H1 := fun a o h _ => x a o h
theorem But.upd {b : Addr} {H : Hp} {o : HO} : But b H (upd H b o) := fun a u h n => by rw [upd_ne n]; exact h
theorem But.new {b p : Addr} {H H1 : Hp} {o : HO} (x : But b H H1) (hp : H1 p = none) : But b H (L2.upd H1 p o) := fun a u h n => by rw [upd_ne (ne_of_none (x a u h n) hp)]; exact x a u h n
theorem Same.new {H H1 : Hp} {p : Addr} {o : HO} (x : Same H H1) (hp : H1 p = none) : Same H (L2.upd H1 p o) := fun a u h => by rw [upd_ne (ne_of_none (x a u h) hp)]; exact x a u h
theorem up_old {H : Hp} {a p : Addr} {o u : HO} (h : H a = some u) (hp : H p = none) : L2.upd H p o a = some u := by rw [upd_ne (ne_of_none h hp)]; exact h
theorem up_ne {H : Hp} {a p : Addr} {o u : HO} (h : H a = some u) (n : a ≠ p) : L2.upd H p o a = some u := by rw [upd_ne n]; exact h
theorem up_none {H : Hp} {a p : Addr} {o : HO} (h : L2.upd H p o a = none) : H a = none ∧ a ≠ p := by
  by_cases e : a = p
  · subst e; rw [upd_same] at h; cases h
  · rw [upd_ne e] at h; exact ⟨h, e⟩
end
end Bx
namespace Bx
open PySem PySem.Spec PyProof.Rows L2 He
section
variable {K : PySem.W.Frag} {σ : L2.St} {H : Hp} {te ta tb : TE} {to tu : TO} {Q : VK} {QO : Option Int → Hp → Prop}
theorem r_sl {r : V → Option Int → Option Int → Hp → VK → Prop} (h : te σ H fun x H1 => to σ H1 fun l H2 => tu σ H2 fun u H3 => r x l u H3 Q) : tSl r te to tu σ H Q := h
theorem r_no (h : QO none H) : tNoPart σ H QO := h
theorem r_part (h : te σ H fun x H1 => ∃ i, x = .int i ∧ QO (some i) H1) : tPart te σ H QO := h
theorem r_pi {i : Int} {P : Int → Prop} (h : P i) : ∃ j, V.int i = .int j ∧ P j := ⟨i, rfl, h⟩
end
end Bx
namespace Bx
open PySem PySem.Spec PyProof.Rows L2 He
section
variable {X : Cx}
/-- a statement, then the rest, with a word between them -/
def tCutB (t u : TS) : TS := fun D σ H => ∃ Mid : L2.St → Hp → Prop, t ⟨Mid, D.rt, D.bk, D.ct⟩ σ H ∧ ∀ σ' H', Mid σ' H' → u D σ' H'
theorem pss_cut {st : Stmt} {rest : List Stmt} {t u : TS} (h1 : PS X st t) (h2 : PSs X rest u) : PSs X (st :: rest) (tCutB t u) := by
  refine ⟨fun pins s σ H D I h => ?_⟩
  obtain ⟨Mid, hm, hu⟩ := h
  refine wpAny_execs_cons (thn (h1.run pins s σ H ⟨Mid, D.rt, D.bk, D.ct⟩ I hm) fun f s1 q => ?_)
  cases f with
  | next =>
    obtain ⟨σ', H', I', q⟩ := q
    exact h2.run pins s1 σ' H' D I' (hu σ' H' q)
  | ret v => exact q
  | brk => exact q
  | cont => exact q
theorem r_cut {t u : TS} {D : Ends} {σ : L2.St} {H : Hp} (Mid : L2.St → Hp → Prop) (h : t ⟨Mid, D.rt, D.bk, D.ct⟩ σ H) (k : ∀ σ' H', Mid σ' H' → u D σ' H') : tCutB t u D σ H := ⟨Mid, h, k⟩
end
end Bx
namespace Bx
open PySem PySem.Spec PyProof.Rows L2 He
/-! ### loops -/
section
variable {K : PySem.W.Frag} {σ : L2.St} {H : Hp} {tl : TE} {ts : TA} {wi : TI} {g : TG} {tb : TS} {D : Ends} {R : It → Hp → Prop} {n b c : L2.St → Hp → Prop} {r : VK} {j : Nat}
/-- what a for asks behind its walk -/
def forK (g : TG) (tb : TS) (D : Ends) (J : It) (σ : L2.St) (H : Hp) : Prop := ∃ W : Nat → Nat → L2.St → Hp → Prop, (∃ m, W 0 m σ H) ∧ ∀ i m σ H, W i m σ H →
  (J.stop i H ∧ D.nx σ H) ∨ (J.go i H ∧ ∃ N : L2.St → Hp → Prop, (∀ σ' H', N σ' H' → ∃ m', m' < m ∧ W (i + 1) m' σ' H') ∧ ∀ x H', J.yld i H x H' → g x σ H' fun σ2 H2 => tb { D with nx := N, ct := N, bk := D.nx } σ2 H2)
theorem r_for (h : wi σ H fun J H1 => forK g tb D J σ H1) : tFor wi g tb D σ H := h
theorem r_iL (h : tl σ H fun x H1 => ∃ a, x = .ref a ∧ (∃ xs, SqL K H1 a xs) ∧ R (Itl K a) H1) : iList K tl σ H R := h
theorem r_iT (h : tl σ H fun x H1 => ∃ a, x = .ref a ∧ (∃ xs, SqT K H1 a xs) ∧ R (Itt K a) H1) : iTup K tl σ H R := h
theorem r_iR1 (h : ts σ H fun vs H1 => ∃ j : Int, vs = [.int j] ∧ -(2 ^ 62) ≤ j ∧ j < 2 ^ 62 ∧ R (Itr 0 j.toNat) H1) : iRng1 ts σ H R := h
theorem r_iR2 (h : ts σ H fun vs H1 => ∃ i j : Int, vs = [.int i, .int j] ∧ (-(2 ^ 62) ≤ i ∧ i < 2 ^ 62 ∧ -(2 ^ 62) ≤ j ∧ j < 2 ^ 62) ∧ R (Itr i (j - i).toNat) H1) : iRng2 ts σ H R := h
theorem a_iL {p : Addr} {xs : List V} {P : Addr → Prop} (h : SqL K H p xs) (q : P p) : ∃ a, V.ref p = .ref a ∧ (∃ xs, SqL K H a xs) ∧ P a := ⟨p, rfl, ⟨xs, h⟩, q⟩
theorem a_iT {p : Addr} {xs : List V} {P : Addr → Prop} (h : SqT K H p xs) (q : P p) : ∃ a, V.ref p = .ref a ∧ (∃ xs, SqT K H a xs) ∧ P a := ⟨p, rfl, ⟨xs, h⟩, q⟩
theorem a_iR1 {i : Int} {P : Int → Prop} (h1 : -(2 ^ 62) ≤ i) (h2 : i < 2 ^ 62) (q : P i) : ∃ j : Int, [V.int i] = [.int j] ∧ -(2 ^ 62) ≤ j ∧ j < 2 ^ 62 ∧ P j := ⟨i, rfl, h1, h2, q⟩
theorem a_iR2 {i k : Int} {P : Int → Int → Prop} (h : -(2 ^ 62) ≤ i ∧ i < 2 ^ 62 ∧ -(2 ^ 62) ≤ k ∧ k < 2 ^ 62) (q : P i k) : ∃ i' j : Int, [V.int i, V.int k] = [.int i', .int j] ∧ (-(2 ^ 62) ≤ i' ∧ i' < 2 ^ 62 ∧ -(2 ^ 62) ≤ j ∧ j < 2 ^ 62) ∧ P i' j := ⟨i, k, rfl, h, q⟩
theorem f_list {p : Addr} (xs : List V) (Pv : Nat → L2.St → Hp → Prop) (h0 : Pv 0 σ H) (hl : ∀ i σ H, i ≤ xs.length → Pv i σ H → SqL K H p xs)
    (hs : ∀ i x σ H, xs[i]? = some x → Pv i σ H → tb ⟨Pv (i + 1), r, n, Pv (i + 1)⟩ (σ.set j (some x)) H) (hd : ∀ σ H, Pv xs.length σ H → n σ H) : forK (gName j) tb ⟨n, r, b, c⟩ (Itl K p) σ H := for_list Pv h0 hl hs hd
theorem f_tup {p : Addr} (xs : List V) (Pv : Nat → L2.St → Hp → Prop) (h0 : Pv 0 σ H) (hl : ∀ i σ H, i ≤ xs.length → Pv i σ H → SqT K H p xs)
    (hs : ∀ i x σ H, xs[i]? = some x → Pv i σ H → tb ⟨Pv (i + 1), r, n, Pv (i + 1)⟩ (σ.set j (some x)) H) (hd : ∀ σ H, Pv xs.length σ H → n σ H) : forK (gName j) tb ⟨n, r, b, c⟩ (Itt K p) σ H := for_tup Pv h0 hl hs hd
theorem f_range {lo : Int} {k : Nat} (Pv : Nat → L2.St → Hp → Prop) (h0 : Pv 0 σ H) (hs : ∀ i σ H, i < k → Pv i σ H → tb ⟨Pv (i + 1), r, n, Pv (i + 1)⟩ (σ.set j (some (.int (lo + (i : Nat))))) H) (hd : ∀ σ H, Pv k σ H → n σ H) : forK (gName j) tb ⟨n, r, b, c⟩ (Itr lo k) σ H := for_range Pv h0 hs hd
end
end Bx
namespace Bx
open PySem PySem.Spec PyProof.Rows L2 He
section
variable {σ : L2.St} {H : Hp} {te to ti : TE} {n b c : L2.St → Hp → Prop} {r : VK} {ts : TSet} {g : TG}
theorem r_asgS (h : te σ H fun x H1 => to σ H1 fun o H2 => ti σ H2 fun i H3 => ts o i x H3 fun H4 => n σ H4) : tAsg te (gSub to ti ts) ⟨n, r, b, c⟩ σ H := h
theorem a_setL {l : Addr} {xs : List V} {i : Int} {j : Nat} {v : V} {Q : Hp → Prop} (h : H l = some (.lst xs)) (e : i = (j : Int)) (hj : j < xs.length) (q : Q (upd H l (.lst (xs.set j v)))) : rSetL (.ref l) (.int i) v H Q := by
  have e2 : ixN xs.length i = some j := by
    unfold ixN
    rw [if_pos (by omega), if_pos (by omega), e]
    simp
  exact ⟨l, xs, i, j, rfl, rfl, h, e2, q⟩
end
end Bx
/-! BxU: one rule an operator, whatever the kinds of its values; each kind's answer a lemma. -/
namespace Bx
open PySem PySem.Spec PyProof.Rows L2 He
section
variable {X : Cx} {K : PySem.W.Frag} {H : Hp} {Q : VK} {QB : Bool → Hp → Prop}
theorem z1000 {n : Nat} (h : n ≤ 100000) : n ≤ sizeLine := Nat.le_trans h (by decide)
theorem z1000l {n : Nat} (h : n ≤ 100000) : n < sizeLine := Nat.lt_of_le_of_lt h (by decide)
/-! ### + - * // % ** -/
def uAdd (K : PySem.W.Frag) : R2 := fun x y H Q => (∃ i j, x = .int i ∧ y = .int j ∧ Q (.int (i + j)) H) ∨ (∃ i j, x = .str i ∧ y = .str j ∧ i.length + j.length ≤ sizeLine ∧ Q (.str (i ++ j)) H) ∨ rCat x y H Q ∨ rCatT K x y H Q
theorem ou_add : OpR X (binaryOp .Add) (uAdd X.K) := op_add.or (op_add_str.or (op_cat.or op_catT))
theorem a_add {i j : Int} (q : Q (.int (i + j)) H) : uAdd K (.int i) (.int j) H Q := .inl ⟨i, j, rfl, rfl, q⟩
theorem a_addS {i j : Str} (hz : i.length + j.length ≤ 100000) (q : Q (.str (i ++ j)) H) : uAdd K (.str i) (.str j) H Q := .inr (.inl ⟨i, j, rfl, rfl, z1000 hz, q⟩)
theorem a_addL {l b : Addr} {xs zs : List V} (h1 : H l = some (.lst xs)) (h2 : H b = some (.lst zs)) (hz : xs.length + zs.length ≤ 100000) (q : ∀ p, H p = none → Q (.ref p) (upd H p (.lst (xs ++ zs)))) : uAdd K (.ref l) (.ref b) H Q := .inr (.inr (.inl ⟨l, b, xs, zs, rfl, rfl, h1, h2, z1000 hz, q⟩))
def uSub : R2 := rI0 fun i j => .int (i - j)
theorem ou_sub : OpR X (binaryOp .Sub) uSub := op_sub
theorem a_sub {i j : Int} (q : Q (.int (i - j)) H) : uSub (.int i) (.int j) H Q := ⟨i, j, rfl, rfl, q⟩
def uMul : R2 := fun x y H Q => rI CMul (fun i j => .int (i * j)) x y H Q ∨ rI CMulW (fun i j => .int (i * j)) x y H Q ∨ rRep x y H Q
theorem ou_mul : OpR X (binaryOp .Mult) uMul := op_mul.or (op_mulW.or op_rep)
/-- a factor that is small -/
theorem a_mulL {i j : Int} (h1 : -(2 ^ 64) < i) (h2 : i < 2 ^ 64) (q : Q (.int (i * j)) H) : uMul (.int i) (.int j) H Q := .inl ⟨i, j, rfl, rfl, .inl ⟨h1, h2⟩, q⟩
theorem a_mulR {i j : Int} (h1 : -(2 ^ 64) < j) (h2 : j < 2 ^ 64) (q : Q (.int (i * j)) H) : uMul (.int i) (.int j) H Q := .inl ⟨i, j, rfl, rfl, .inr ⟨h1, h2⟩, q⟩
theorem a_mulW {i j : Int} (h : CMulW i j) (q : Q (.int (i * j)) H) : uMul (.int i) (.int j) H Q := .inr (.inl ⟨i, j, rfl, rfl, h, q⟩)
theorem a_rep {l : Addr} {k : Nat} {xs : List V} (h : H l = some (.lst xs)) (hk : k ≤ 1000) (hz : xs.length ≤ 1000) (q : ∀ p, H p = none → Q (.ref p) (upd H p (.lst (List.replicate k xs).flatten))) : uMul (.ref l) (.int (k : Nat)) H Q := by
  have e : ((k : Int)).toNat = k := Int.toNat_natCast k
  have z1 : -(2 ^ 63 : Int) ≤ (k : Int) := by omega
  have z2 : (k : Int) < 2 ^ 63 := by omega
  refine .inr (.inr ⟨l, (k : Int), xs, rfl, rfl, h, z1, z2, ?_, ?_⟩)
  · rw [e]
    exact Nat.le_trans (Nat.mul_le_mul hz hk) (by decide)
  · rw [e]
    exact q
theorem a_rep1 {l : Addr} {k : Nat} {x : V} (h : H l = some (.lst [x])) (hk : k ≤ 1000) (q : ∀ p, H p = none → Q (.ref p) (upd H p (.lst (List.replicate k x)))) : uMul (.ref l) (.int (k : Nat)) H Q := by
  refine a_rep h hk (by simp) ?_
  rw [List.flatten_replicate_singleton]
  exact q
def uDiv : R2 := rI CDivW fun i j => .int (i / j)
theorem ou_div : OpR X (binaryOp .FloorDiv) uDiv := op_fdivW
theorem a_div {i j : Int} (h : 0 < j) (hb : j.natAbs.log2 < 9000) (q : Q (.int (i / j)) H) : uDiv (.int i) (.int j) H Q := ⟨i, j, rfl, rfl, ⟨h, hb⟩, q⟩
def uMod : R2 := rI (fun _ j => 0 < j) fun i j => .int (i % j)
theorem ou_mod : OpR X (binaryOp .Mod) uMod := op_mod
theorem a_mod {i j : Int} (h : 0 < j) (q : Q (.int (i % j)) H) : uMod (.int i) (.int j) H Q := ⟨i, j, rfl, rfl, h, q⟩
def uPow : R2 := rI CPow fun i j => .int (i ^ j.toNat)
theorem ou_pow : OpR X (binaryOp .Pow) uPow := op_pow
theorem a_pow {i j : Int} (h : CPow i j) (q : Q (.int (i ^ j.toNat)) H) : uPow (.int i) (.int j) H Q := ⟨i, j, rfl, rfl, h, q⟩
/-! ### comparisons -/
def uLt : R2 := rI0 fun i j => .bl (decide (i < j))
def uLe : R2 := rI0 fun i j => .bl (decide (i ≤ j))
def uGt : R2 := rI0 fun i j => .bl (decide (j < i))
def uGe : R2 := rI0 fun i j => .bl (decide (j ≤ i))
theorem ou_lt : OpR X (compareOp .Lt) uLt := op_lt
theorem ou_le : OpR X (compareOp .LtE) uLe := op_le
theorem ou_gt : OpR X (compareOp .Gt) uGt := op_gt
theorem ou_ge : OpR X (compareOp .GtE) uGe := op_ge
theorem a_lt {i j : Int} (q : Q (.bl (decide (i < j))) H) : uLt (.int i) (.int j) H Q := ⟨i, j, rfl, rfl, q⟩
theorem a_le {i j : Int} (q : Q (.bl (decide (i ≤ j))) H) : uLe (.int i) (.int j) H Q := ⟨i, j, rfl, rfl, q⟩
theorem a_gt {i j : Int} (q : Q (.bl (decide (j < i))) H) : uGt (.int i) (.int j) H Q := ⟨i, j, rfl, rfl, q⟩
theorem a_ge {i j : Int} (q : Q (.bl (decide (j ≤ i))) H) : uGe (.int i) (.int j) H Q := ⟨i, j, rfl, rfl, q⟩
def uEq (K : PySem.W.Frag) : R2 := fun x y H Q => rEq x y H Q ∨ rEqD K x y H Q
def uNe (K : PySem.W.Frag) : R2 := fun x y H Q => rNe x y H Q ∨ rNeD K x y H Q
theorem ou_eq (hu : X.A.units + 64 < cLine) : OpR X (compareOp .Eq) (uEq X.K) := op_eq.or (op_eqD hu)
theorem ou_ne (hu : X.A.units + 64 < cLine) : OpR X (compareOp .NotEq) (uNe X.K) := op_ne.or (op_neD hu)
theorem vint {i j : Int} : (V.int i = V.int j) = (i = j) := by simp
theorem vstr {i j : Str} : (V.str i = V.str j) = (i = j) := by simp
theorem vbl {i j : Bool} : (V.bl i = V.bl j) = (i = j) := by simp
theorem a_eq {i j : Int} (q : Q (.bl (decide (i = j))) H) : uEq K (.int i) (.int j) H Q := .inl ⟨rfl, by simpa only [vint] using q⟩
theorem a_eqS {i j : Str} (q : Q (.bl (decide (i = j))) H) : uEq K (.str i) (.str j) H Q := .inl ⟨rfl, by simpa only [vstr] using q⟩
theorem a_eqB {i j : Bool} (q : Q (.bl (decide (i = j))) H) : uEq K (.bl i) (.bl j) H Q := .inl ⟨rfl, by simpa only [vbl] using q⟩
theorem a_ne {i j : Int} (q : Q (.bl (!decide (i = j))) H) : uNe K (.int i) (.int j) H Q := .inl ⟨rfl, by simpa only [vint] using q⟩
theorem a_neS {i j : Str} (q : Q (.bl (!decide (i = j))) H) : uNe K (.str i) (.str j) H Q := .inl ⟨rfl, by simpa only [vstr] using q⟩
theorem a_neB {i j : Bool} (q : Q (.bl (!decide (i = j))) H) : uNe K (.bl i) (.bl j) H Q := .inl ⟨rfl, by simpa only [vbl] using q⟩
def uIs : R2 := fun x y H Q => (y = .non ∧ Q (.bl (decide (x = .non))) H) ∨ rIsB x y H Q
def uIsn : R2 := fun x y H Q => (y = .non ∧ Q (.bl (!decide (x = .non))) H) ∨ rNotB x y H Q
theorem ou_is : OpR X (compareOp .Is) uIs := op_isN.or op_isBl
theorem ou_isn : OpR X (compareOp .IsNot) uIsn := op_notN.or op_notBl
theorem a_is {x : V} (q : Q (.bl (decide (x = .non))) H) : uIs x .non H Q := .inl ⟨rfl, q⟩
theorem a_isn {x : V} (q : Q (.bl (!decide (x = .non))) H) : uIsn x .non H Q := .inl ⟨rfl, q⟩
def uIn (K : PySem.W.Frag) : R2 := fun x y H Q => (∃ (c : Nat) (z : Str), x = .str ⟨#[c]⟩ ∧ y = .str z ∧ Q (.bl (decide (c ∈ z.cps.toList))) H) ∨ rIn K false x y H Q
def uNin (K : PySem.W.Frag) : R2 := fun x y H Q => (∃ (c : Nat) (z : Str), x = .str ⟨#[c]⟩ ∧ y = .str z ∧ Q (.bl (!decide (c ∈ z.cps.toList))) H) ∨ rIn K true x y H Q
theorem ou_in : OpR X (compareOp .In) (uIn X.K) := op_in_sign.or op_in_seq
theorem ou_nin : OpR X (compareOp .NotIn) (uNin X.K) := op_notIn_sign.or op_notIn_seq
theorem a_inL {x : V} {p : Addr} {xs : List V} (h : SqL K H p xs) (fx : flatV x = true) (fs : xs.all flatV = true) (q : Q (.bl (inV x xs)) H) : uIn K x (.ref p) H Q := .inr ⟨p, xs, rfl, .inl h, fx, fs, q⟩
theorem a_inT {x : V} {p : Addr} {xs : List V} (h : SqT K H p xs) (fx : flatV x = true) (fs : xs.all flatV = true) (q : Q (.bl (inV x xs)) H) : uIn K x (.ref p) H Q := .inr ⟨p, xs, rfl, .inr h, fx, fs, q⟩
theorem a_ninL {x : V} {p : Addr} {xs : List V} (h : SqL K H p xs) (fx : flatV x = true) (fs : xs.all flatV = true) (q : Q (.bl (!inV x xs)) H) : uNin K x (.ref p) H Q := .inr ⟨p, xs, rfl, .inl h, fx, fs, q⟩
theorem a_ninT {x : V} {p : Addr} {xs : List V} (h : SqT K H p xs) (fx : flatV x = true) (fs : xs.all flatV = true) (q : Q (.bl (!inV x xs)) H) : uNin K x (.ref p) H Q := .inr ⟨p, xs, rfl, .inr h, fx, fs, q⟩
theorem a_inS {c : Nat} {z : Str} (q : Q (.bl (decide (c ∈ z.cps.toList))) H) : uIn K (.str ⟨#[c]⟩) (.str z) H Q := .inl ⟨c, z, rfl, rfl, q⟩
theorem a_ninS {c : Nat} {z : Str} (q : Q (.bl (!decide (c ∈ z.cps.toList))) H) : uNin K (.str ⟨#[c]⟩) (.str z) H Q := .inl ⟨c, z, rfl, rfl, q⟩
/-! ### items, slices -/
def uIx (K : PySem.W.Frag) : R2 := rIx K
theorem ou_ix : IxR X (uIx X.K) := ix_seq
theorem a_ixL {p : Addr} {xs : List V} {j : Nat} {i : Int} {v : V} (h : SqL K H p xs) (e : i = (j : Int)) (hv : xs[j]? = some v) (q : Q v H) : uIx K (.ref p) (.int i) H Q := .inl ⟨p, xs, i, v, rfl, rfl, h, by rw [e]; exact atI_nat hv, q⟩
theorem a_ixT {p : Addr} {xs : List V} {j : Nat} {i : Int} {v : V} (h : SqT K H p xs) (e : i = (j : Int)) (hv : xs[j]? = some v) (q : Q v H) : uIx K (.ref p) (.int i) H Q := .inr (.inl ⟨p, xs, i, v, rfl, rfl, h, by rw [e]; exact atI_nat hv, q⟩)
theorem a_ixS {z : Str} {j : Nat} {i : Int} {c : Nat} (hz : z.length ≤ 100000) (e : i = (j : Int)) (hv : z.cps.toList[j]? = some c) (q : Q (.str ⟨#[c]⟩) H) : uIx K (.str z) (.int i) H Q := .inr (.inr ⟨z, i, c, rfl, rfl, z1000 hz, by rw [e]; exact atI_nat hv, q⟩)
def uSl (K : PySem.W.Frag) : V → Option Int → Option Int → Hp → VK → Prop := fun x lo hi H Q => rSlL K x lo hi H Q ∨ rSlT K x lo hi H Q
theorem ou_sl : SlR X (uSl X.K) := sl_list.or sl_tup
theorem a_slL {p : Addr} {xs : List V} {lo hi : Option Int} (h : SqL K H p xs) (q : ∀ p, H p = none → Q (.ref p) (upd H p (.lst (cutV xs lo hi)))) : uSl K (.ref p) lo hi H Q := .inl ⟨p, xs, rfl, h, q⟩
/-! ### built-ins -/
def uLen (K : PySem.W.Frag) : List V → Hp → VK → Prop := fun xs H Q => ∃ x n, xs = [x] ∧ LenV K x H n ∧ Q (.int n) H
theorem cu_len : CallR X (.builtin "len") (uLen X.K) := call_len
theorem a_lenL {p : Addr} {xs : List V} (h : SqL K H p xs) (q : Q (.int xs.length) H) : uLen K [.ref p] H Q := ⟨_, _, rfl, .inl ⟨xs, h, rfl⟩, q⟩
theorem a_lenT {p : Addr} {xs : List V} (h : SqT K H p xs) (q : Q (.int xs.length) H) : uLen K [.ref p] H Q := ⟨_, _, rfl, .inr ⟨xs, h, rfl⟩, q⟩
theorem a_lenS {z : Str} (hz : z.length ≤ 100000) (q : Q (.int z.length) H) : uLen K [.str z] H Q := ⟨.str z, z.length, rfl, ⟨z1000 hz, rfl⟩, q⟩
def uAbs : List V → Hp → VK → Prop := fun xs H Q => ∃ i, xs = [.int i] ∧ Q (.int (if i < 0 then -i else i)) H
theorem cu_abs : CallR X (.builtin "abs") uAbs := call_abs
theorem a_abs {i : Int} (q : Q (.int (if i < 0 then -i else i)) H) : uAbs [.int i] H Q := ⟨i, rfl, q⟩
def uInt : List V → Hp → VK → Prop := fun xs H Q => (∃ i, xs = [.int i] ∧ Q (.int i) H) ∨ ∃ k, xs = [.bl k] ∧ Q (.int (if k then 1 else 0)) H
theorem cu_int : CallR X (.type "int") uInt := call_int1
theorem a_int {i : Int} (q : Q (.int i) H) : uInt [.int i] H Q := .inl ⟨i, rfl, q⟩
def uStr : List V → Hp → VK → Prop := fun xs H Q => ∃ i, xs = [.int i] ∧ i.natAbs.log2 < 1920 ∧ Q (.str (toString i)) H
theorem cu_str : CallR X (.type "str") uStr := call_str_int
theorem a_str {i : Int} (h : i.natAbs.log2 < 1920) (q : Q (.str (toString i)) H) : uStr [.int i] H Q := ⟨i, rfl, h, q⟩
def uIsi (K : PySem.W.Frag) : List V → Hp → VK → Prop := fun xs H Q => rIsi K xs H Q ∨ rIsX K xs H Q
theorem cu_isi : CallR X (.builtin "isinstance") (uIsi X.K) := call_isi.or call_isX
theorem a_isi {x c : V} {t u : Value} {b : Bool} (k : ClsV c u) (ty : TyX K H x t) (e : PySem.W.kitOne K t u = some b) (q : Q (.bl b) H) : uIsi K [x, c] H Q := .inl ⟨x, c, t, u, b, rfl, k, ty, e, q⟩
theorem a_isX {a C dx : Addr} {fs : List (Str × V)} {c : V} {u : Value} {b : Bool} (k : ClsV c u) (ea : H a = some (exo a C (some dx))) (ed : H dx = some (exd dx fs)) (T : ExcK K C) (e : PySem.W.kitOne K (.ref C) u = some b) (q : Q (.bl b) H) : uIsi K [.ref a, c] H Q :=
  .inr ⟨a, C, dx, fs, c, u, b, rfl, k, ea, ed, T, e, q⟩
/-! ### methods of lists -/
def uApp : V → List V → Hp → VK → Prop := rAppend
theorem mu_append : MtR X "list.append" uApp := mt_append
theorem a_app {l : Addr} {xs : List V} {y : V} (h : H l = some (.lst xs)) (hz : xs.length ≤ 100000) (q : Q .non (upd H l (.lst (xs ++ [y])))) : uApp (.ref l) [y] H Q := ⟨l, xs, y, rfl, rfl, h, z1000l hz, q⟩
end
end Bx
/-! BxCall: defs, methods, makers by what they keep, each a package by its name. -/
namespace Bx
open PySem PySem.Spec PyProof.Rows L2 He NdefX
section
variable (P : Program) (w : World) (K : PySem.W.Frag) (mg : Str → Option Value) (base : Heap)
/-- the def x keeps sp, by level k; it may let errors out -/
structure HasF (k : Nat) (x : Str) (ps : List Str) (sp : Sp) : Prop where
  fn : ∃ fd, FnOk P w K mg base (L2.CX P w) k (ga K x) fd ps sp ∧ Binds K fd ps []
  m : mg x = some (.ref (ga K x))
  kp : PySem.W.keepIn K (.ref (ga K x)) = true
/-- the method m of the class x -/
structure HasM (k : Nat) (x m : Str) (ps : List Str) (sp : Sp) : Prop where
  fn : ∃ fd, FnOk P w K mg base (L2.CX P w) k (ma K (ga K x) m) fd ps sp ∧ Binds K fd ps []
  c : Cls K (ga K x)
  m : Meth K (ga K x) m (ma K (ga K x) m)
/-- the class x, made by its __init__ -/
structure HasC (k : Nat) (x : Str) (ps : List Str) (sp : Sp) : Prop where
  fn : ∃ fd, FnOk P w K mg base (L2.CX P w) k (ma K (ga K x) "__init__") fd ps sp ∧ Binds K fd ps []
  mkr : Mk K (ga K x) (ma K (ga K x) "__init__")
  m : mg x = some (.ref (ga K x))
/-- the own exception class x -/
structure HasX (k : Nat) (x : Str) (ps : List Str) (sp : Sp) : Prop where
  fn : ∃ fd, FnOk P w K mg base (L2.CX P w) k (ma K (ga K x) "__init__") fd ps sp ∧ Binds K fd ps []
  ex : ExcK K (ga K x)
  i : PySem.W.findIn K (.ref (ga K x)) "__init__" = some (some (.ref (ma K (ga K x) "__init__")))
  t : PySem.W.typeIn K (.ref (ma K (ga K x) "__init__")) = some (.type "function")
  m : mg x = some (.ref (ga K x))
end
section
variable {X : Cx} {j k : Nat} {x m : Str} {ps : List Str} {sp : Sp} {E : XK} {e o : Expr} {es : List Expr} {t : TA} {ta : TE} {p pos apos : Pos}
theorem pe_fn (h : HasF X.prog X.w X.K X.mg X.base k x ps sp) (hr : Room j X.A) (hk : k ≤ j) (hx : Passes (L2.CX X.prog X.w) X E) (hg : Gl X x) (ha : PA X (e :: es) t) (hdb : (x == ("__debug__" : Str)) = false := by decide)
    (he : starEach (e :: es) X.env = (false, eval e X.env) :: starEach es X.env := by rfl) (hpl : (backTo pos (starEach es X.env)).any (·.1) = false := by rfl) : PE X (.Call (.Name x p) (e :: es) [] pos) (tCall sp [] E t) := by
  obtain ⟨fd, F, B⟩ := h.fn
  exact pe_call F (hr.mono hk) hg h.m h.kp B .nil hx ha hdb he hpl
theorem pe_fn0 (h : HasF X.prog X.w X.K X.mg X.base k x ps sp) (hr : Room j X.A) (hk : k ≤ j) (hx : Passes (L2.CX X.prog X.w) X E) (hg : Gl X x) (hdb : (x == ("__debug__" : Str)) = false := by decide) : PE X (.Call (.Name x p) [] [] pos) (tCall sp [] E tNil) := by
  obtain ⟨fd, F, B⟩ := h.fn
  exact pe_call0 F (hr.mono hk) hg h.m h.kp B .nil hx hdb
theorem pe_mt {pl : Sem Bool} (h : HasM X.prog X.w X.K X.mg X.base k x m ps sp) (hr : Room j X.A) (hk : k ≤ j) (hx : Passes (L2.CX X.prog X.w) X E) (he : PE X o ta) (ha : PA X (e :: es) t) (hst : starEach (e :: es) X.env = (false, eval e X.env) :: starEach es X.env := by rfl) (hpl : (backTo pos (starEach es X.env)).any (·.1) = false := by rfl)
    (ht : eval (.Call (.Attribute o m apos) (e :: es) [] pos) X.env = (do
      let ov ← eval o X.env
      standAt apos.atName
      let (f, first) ← holding [ov] (getMethod ov m pl)
      callWith pos f first (backTo pos (starEach (e :: es) X.env)) (backToKw pos (keywordEach [] X.env))) := by rfl) : PE X (.Call (.Attribute o m apos) (e :: es) [] pos) (tMeth (ga X.K x) m sp [] E ta t) := by
  obtain ⟨fd, F, B⟩ := h.fn
  exact pe_meth he h.c h.m F (hr.mono hk) B .nil hx ha hst hpl ht
theorem pe_mt0 {pl : Sem Bool} (h : HasM X.prog X.w X.K X.mg X.base k x m ps sp) (hr : Room j X.A) (hk : k ≤ j) (hx : Passes (L2.CX X.prog X.w) X E) (he : PE X o ta)
    (ht : eval (.Call (.Attribute o m apos) [] [] pos) X.env = (do
      let ov ← eval o X.env
      standAt apos.atName
      let (f, first) ← holding [ov] (getMethod ov m pl)
      callWith pos f first (backTo pos (starEach [] X.env)) (backToKw pos (keywordEach [] X.env))) := by rfl) : PE X (.Call (.Attribute o m apos) [] [] pos) (tMeth (ga X.K x) m sp [] E ta tNil) := by
  obtain ⟨fd, F, B⟩ := h.fn
  exact pe_meth0 he h.c h.m F (hr.mono hk) B .nil hx ht
theorem pe_mk (h : HasC X.prog X.w X.K X.mg X.base k x ps sp) (hr : Room j X.A) (hk : k + 1 ≤ j) (hx : Passes (L2.CX X.prog X.w) X E) (hg : Gl X x) (ha : PA X (e :: es) t) (hdb : (x == ("__debug__" : Str)) = false := by decide)
    (he : starEach (e :: es) X.env = (false, eval e X.env) :: starEach es X.env := by rfl) (hpl : (backTo pos (starEach es X.env)).any (·.1) = false := by rfl) : PE X (.Call (.Name x p) (e :: es) [] pos) (tMake (ga X.K x) sp [] E t) := by
  obtain ⟨fd, F, B⟩ := h.fn
  exact pe_make h.mkr F (hr.mono hk) hg h.m B .nil hx ha hdb he hpl
/-- an exception as a value -/
theorem pe_xv (h : HasX X.prog X.w X.K X.mg X.base k x ps sp) (hr : Room j X.A) (hk : k + 1 ≤ j) (hg : Gl X x) (ha : PA X (e :: es) t) (hdb : (x == ("__debug__" : Str)) = false := by decide)
    (he : starEach (e :: es) X.env = (false, eval e X.env) :: starEach es X.env := by rfl) (hpl : (backTo pos (starEach es X.env)).any (·.1) = false := by rfl) : PE X (.Call (.Name x p) (e :: es) [] pos) (tMkV (ga X.K x) sp [] t) := by
  obtain ⟨fd, F, B⟩ := h.fn
  exact pe_mkV h.ex.oex h.i h.t F (hr.mono hk) B .nil passL hg h.m ha hdb he hpl
/-- an exception raised -/
theorem ps_rz {W : WX} {rpos : Pos} (h : HasX X.prog X.w X.K X.mg X.base k x ps sp) (hr : Room j X.A) (hk : k + 1 ≤ j) (hc : X.calm = true) (tk : Takes X W) (hg : Gl X x) (ha : PA X (e :: es) t) (hdb : (x == ("__debug__" : Str)) = false := by decide)
    (he : starEach (e :: es) X.env = (false, eval e X.env) :: starEach es X.env := by rfl) (hpl : (backTo pos (starEach es X.env)).any (·.1) = false := by rfl) :
    PS X (.Raise (some (.Call (.Name x p) (e :: es) [] pos)) none rpos) (fun _ σ H => tMkO (ga X.K x) sp [] t σ H fun cls d H' => W cls d σ H') := by
  obtain ⟨fd, F, B⟩ := h.fn
  exact ps_raise hc tk (pmk_oex h.ex.oex h.i h.t F (hr.mono hk) B .nil passL hg h.m ha hdb he hpl)
end
section
variable {K : PySem.W.Frag} {σ : L2.St} {H : Hp} {Q : VK} {te : TE} {ts : TA} {sp : Sp} {C : Addr} {f : Str}
theorem r_mkV (h : ts σ H fun vs H1 => vs.length ≤ 1000 ∧ ∀ a, H1 a = none → sp (.ref a :: (vs ++ [])) (upd H1 a (exo a C none)) (fun v H2 => v = .non ∧ Q (.ref a) H2) (fun _ _ _ => False)) : tMkV C sp [] ts σ H Q := h
/-- C(y), f its one field -/
theorem r_mkV1 {y : V} (q : ∀ a dx, H a = none → H dx = none → dx ≠ a → Q (.ref a) (upd (upd (upd H a (exo a C none)) dx (exd dx [(f, y)])) a (exo a C (some dx)))) :
    [y].length ≤ 1000 ∧ ∀ a, H a = none → spI1 C f (.ref a :: ([y] ++ [])) (upd H a (exo a C none)) (fun v H2 => v = .non ∧ Q (.ref a) H2) (fun _ _ _ => False) :=
  ⟨by simp, fun a ha => ⟨a, y, rfl, upd_same, fun dx hdx hn => ⟨rfl, q a dx ha (up_none hdx).1 hn⟩⟩⟩
theorem r_xfld (h : te σ H fun x H1 => ∃ (a C dx : Addr) (fs : List (Str × V)) (v : V), x = .ref a ∧ H1 a = some (exo a C (some dx)) ∧ H1 dx = some (exd dx fs) ∧ ExcK K C ∧ PySem.W.findIn K (.ref C) f = some none ∧ fs.lookup f = some v ∧ Q v H1) : tXFld K te f σ H Q := h
end
end Bx
namespace Bx
open PySem PySem.Spec PyProof.Rows L2 He
section
variable {X : Cx} {x : Str} {pos : Pos}
theorem pe_cs {z : Str} (hg : Gl X x) (h : ∃ t, X.mg x = some (.str z t)) (hd : (x == ("__debug__" : Str)) = false := by decide) : PE X (.Name x pos) (tC (.str z)) := by
  obtain ⟨t, h⟩ := h
  exact pe_glob hg h ⟨t, rfl⟩ hd
theorem pe_ci {i : Int} (hg : Gl X x) (h : ∃ t, X.mg x = some (.int i t)) (hd : (x == ("__debug__" : Str)) = false := by decide) : PE X (.Name x pos) (tC (.int i)) := by
  obtain ⟨t, h⟩ := h
  exact pe_glob hg h ⟨t, rfl⟩ hd
end
end Bx
/-! BxKt: isinstance(x, T), T built-in. -/
namespace Bx
open PySem PySem.Spec PyProof.Rows L2 He
section
variable {K : PySem.W.Frag} {H : Hp} {Q : VK}
theorem is_NoneType_bool (q : Q (.bl false) H) : uIsi K [.non, .ty "bool"] H Q := a_isi (.ty "bool") (.base .non) (kit_ty (r := false) (by decide +kernel)) q
theorem is_NoneType_int (q : Q (.bl false) H) : uIsi K [.non, .ty "int"] H Q := a_isi (.ty "int") (.base .non) (kit_ty (r := false) (by decide +kernel)) q
theorem is_NoneType_str (q : Q (.bl false) H) : uIsi K [.non, .ty "str"] H Q := a_isi (.ty "str") (.base .non) (kit_ty (r := false) (by decide +kernel)) q
theorem is_NoneType_list (q : Q (.bl false) H) : uIsi K [.non, .ty "list"] H Q := a_isi (.ty "list") (.base .non) (kit_ty (r := false) (by decide +kernel)) q
theorem is_NoneType_tuple (q : Q (.bl false) H) : uIsi K [.non, .ty "tuple"] H Q := a_isi (.ty "tuple") (.base .non) (kit_ty (r := false) (by decide +kernel)) q
theorem is_bool_bool {k : Bool} (q : Q (.bl true) H) : uIsi K [(.bl k), .ty "bool"] H Q := a_isi (.ty "bool") (.base (.bl _)) (kit_ty (r := true) (by decide +kernel)) q
theorem is_bool_int {k : Bool} (q : Q (.bl true) H) : uIsi K [(.bl k), .ty "int"] H Q := a_isi (.ty "int") (.base (.bl _)) (kit_ty (r := true) (by decide +kernel)) q
theorem is_bool_str {k : Bool} (q : Q (.bl false) H) : uIsi K [(.bl k), .ty "str"] H Q := a_isi (.ty "str") (.base (.bl _)) (kit_ty (r := false) (by decide +kernel)) q
theorem is_bool_list {k : Bool} (q : Q (.bl false) H) : uIsi K [(.bl k), .ty "list"] H Q := a_isi (.ty "list") (.base (.bl _)) (kit_ty (r := false) (by decide +kernel)) q
theorem is_bool_tuple {k : Bool} (q : Q (.bl false) H) : uIsi K [(.bl k), .ty "tuple"] H Q := a_isi (.ty "tuple") (.base (.bl _)) (kit_ty (r := false) (by decide +kernel)) q
theorem is_int_bool {i : Int} (q : Q (.bl false) H) : uIsi K [(.int i), .ty "bool"] H Q := a_isi (.ty "bool") (.base (.int _)) (kit_ty (r := false) (by decide +kernel)) q
theorem is_int_int {i : Int} (q : Q (.bl true) H) : uIsi K [(.int i), .ty "int"] H Q := a_isi (.ty "int") (.base (.int _)) (kit_ty (r := true) (by decide +kernel)) q
theorem is_int_str {i : Int} (q : Q (.bl false) H) : uIsi K [(.int i), .ty "str"] H Q := a_isi (.ty "str") (.base (.int _)) (kit_ty (r := false) (by decide +kernel)) q
theorem is_int_list {i : Int} (q : Q (.bl false) H) : uIsi K [(.int i), .ty "list"] H Q := a_isi (.ty "list") (.base (.int _)) (kit_ty (r := false) (by decide +kernel)) q
theorem is_int_tuple {i : Int} (q : Q (.bl false) H) : uIsi K [(.int i), .ty "tuple"] H Q := a_isi (.ty "tuple") (.base (.int _)) (kit_ty (r := false) (by decide +kernel)) q
theorem is_str_bool {z : Str} (q : Q (.bl false) H) : uIsi K [(.str z), .ty "bool"] H Q := a_isi (.ty "bool") (.base (.str _)) (kit_ty (r := false) (by decide +kernel)) q
theorem is_str_int {z : Str} (q : Q (.bl false) H) : uIsi K [(.str z), .ty "int"] H Q := a_isi (.ty "int") (.base (.str _)) (kit_ty (r := false) (by decide +kernel)) q
theorem is_str_str {z : Str} (q : Q (.bl true) H) : uIsi K [(.str z), .ty "str"] H Q := a_isi (.ty "str") (.base (.str _)) (kit_ty (r := true) (by decide +kernel)) q
theorem is_str_list {z : Str} (q : Q (.bl false) H) : uIsi K [(.str z), .ty "list"] H Q := a_isi (.ty "list") (.base (.str _)) (kit_ty (r := false) (by decide +kernel)) q
theorem is_str_tuple {z : Str} (q : Q (.bl false) H) : uIsi K [(.str z), .ty "tuple"] H Q := a_isi (.ty "tuple") (.base (.str _)) (kit_ty (r := false) (by decide +kernel)) q
theorem is_list_bool {a : Addr} {xs : List V} (h : H a = some (.lst xs)) (q : Q (.bl false) H) : uIsi K [(.ref a), .ty "bool"] H Q := a_isi (.ty "bool") (.base (.lst h)) (kit_ty (r := false) (by decide +kernel)) q
theorem is_list_int {a : Addr} {xs : List V} (h : H a = some (.lst xs)) (q : Q (.bl false) H) : uIsi K [(.ref a), .ty "int"] H Q := a_isi (.ty "int") (.base (.lst h)) (kit_ty (r := false) (by decide +kernel)) q
theorem is_list_str {a : Addr} {xs : List V} (h : H a = some (.lst xs)) (q : Q (.bl false) H) : uIsi K [(.ref a), .ty "str"] H Q := a_isi (.ty "str") (.base (.lst h)) (kit_ty (r := false) (by decide +kernel)) q
theorem is_list_list {a : Addr} {xs : List V} (h : H a = some (.lst xs)) (q : Q (.bl true) H) : uIsi K [(.ref a), .ty "list"] H Q := a_isi (.ty "list") (.base (.lst h)) (kit_ty (r := true) (by decide +kernel)) q
theorem is_list_tuple {a : Addr} {xs : List V} (h : H a = some (.lst xs)) (q : Q (.bl false) H) : uIsi K [(.ref a), .ty "tuple"] H Q := a_isi (.ty "tuple") (.base (.lst h)) (kit_ty (r := false) (by decide +kernel)) q
theorem is_tuple_bool {a : Addr} {xs : List V} (h : H a = some (.tup xs)) (q : Q (.bl false) H) : uIsi K [(.ref a), .ty "bool"] H Q := a_isi (.ty "bool") (.base (.tup h)) (kit_ty (r := false) (by decide +kernel)) q
theorem is_tuple_int {a : Addr} {xs : List V} (h : H a = some (.tup xs)) (q : Q (.bl false) H) : uIsi K [(.ref a), .ty "int"] H Q := a_isi (.ty "int") (.base (.tup h)) (kit_ty (r := false) (by decide +kernel)) q
theorem is_tuple_str {a : Addr} {xs : List V} (h : H a = some (.tup xs)) (q : Q (.bl false) H) : uIsi K [(.ref a), .ty "str"] H Q := a_isi (.ty "str") (.base (.tup h)) (kit_ty (r := false) (by decide +kernel)) q
theorem is_tuple_list {a : Addr} {xs : List V} (h : H a = some (.tup xs)) (q : Q (.bl false) H) : uIsi K [(.ref a), .ty "list"] H Q := a_isi (.ty "list") (.base (.tup h)) (kit_ty (r := false) (by decide +kernel)) q
theorem is_tuple_tuple {a : Addr} {xs : List V} (h : H a = some (.tup xs)) (q : Q (.bl true) H) : uIsi K [(.ref a), .ty "tuple"] H Q := a_isi (.ty "tuple") (.base (.tup h)) (kit_ty (r := true) (by decide +kernel)) q
end
end Bx
/-! BxObj: instances, comprehensions, sums, tuples, sets by small steps. -/
namespace Bx
open PySem PySem.Spec PyProof.Rows L2 He
theorem _root_.L2.Same.get {H H' : Hp} {a : Addr} {o : HO} (s : Same H H') (h : H a = some o) : H' a = some o := s a o h
theorem Same.put {H H1 : Hp} {p : Addr} {o : HO} (x : Same H H1) (hp : H p = none) : Same H (L2.upd H1 p o) := fun a u h => by rw [upd_ne (ne_of_none h hp)]; exact x a u h
theorem ne_of_none' {H H1 : Hp} {a p : Addr} {o : HO} (h : H a = some o) (s : Same H H1) (hp : H1 p = none) : p ≠ a := fun e => by
  have := s a o h
  rw [← e, hp] at this
  cases this
theorem But.get {b a : Addr} {H H' : Hp} {o : HO} (s : But b H H') (n : a ≠ b) (h : H a = some o) : H' a = some o := s a o h n
/-! ### instances -/
section
variable {K : PySem.W.Frag} {σ : L2.St} {H : Hp} {ta tv te : TE} {f : Str} {Q : VK} {n b c : L2.St → Hp → Prop} {r : VK} {ts : TA}
def rFld (K : PySem.W.Frag) (f : Str) : V → Hp → VK → Prop := fun x H Q => ∃ a C dx fs v, x = .ref a ∧ H a = some (.ins C dx fs) ∧ Cls K C ∧ NoAttr K C f ∧ fs.lookup f = some v ∧ Q v H
theorem r_fld (h : ta σ H fun x H1 => rFld K f x H1 Q) : tFld K ta f σ H Q := h
theorem a_fld {a C dx : Addr} {fs : List (Str × V)} {v : V} (h : H a = some (.ins C dx fs)) (c : Cls K C) (n : NoAttr K C f) (e : fs.lookup f = some v) (q : Q v H) : rFld K f (.ref a) H Q := ⟨a, C, dx, fs, v, rfl, h, c, n, e, q⟩
def rCon (K : PySem.W.Frag) (f : Str) : V → Hp → VK → Prop := fun x H Q => ∃ a C dx fs v u, x = .ref a ∧ H a = some (.ins C dx fs) ∧ Cls K C ∧ Con K C f v u ∧ fs.lookup f = none ∧ Q v H
theorem r_con (h : ta σ H fun x H1 => rCon K f x H1 Q) : tCon K ta f σ H Q := h
theorem a_con {a C dx : Addr} {fs : List (Str × V)} {v : V} (h : H a = some (.ins C dx fs)) (c : Cls K C) (k : ∃ u, Con K C f v u) (e : fs.lookup f = none) (q : Q v H) : rCon K f (.ref a) H Q := by
  obtain ⟨u, k⟩ := k
  exact ⟨a, C, dx, fs, v, u, rfl, h, c, k, e, q⟩
def rPut (K : PySem.W.Frag) (f : Str) (y : V) : V → Hp → (Hp → Prop) → Prop := fun x H q => ∃ a C dx fs, x = .ref a ∧ H a = some (.ins C dx fs) ∧ Cls K C ∧ NoAttr K C f ∧ fs.length < 1000 ∧ q (upd H a (.ins C dx (putF f y fs)))
theorem r_put (h : tv σ H fun y H1 => ta σ H1 fun x H2 => rPut K f y x H2 fun H3 => n σ H3) : sFld K ta tv f ⟨n, r, b, c⟩ σ H := h
theorem a_put {a C dx : Addr} {fs : List (Str × V)} {y : V} {q : Hp → Prop} (h : H a = some (.ins C dx fs)) (c : Cls K C) (n : NoAttr K C f) (hl : fs.length ≤ 100) (k : q (upd H a (.ins C dx (putF f y fs)))) : rPut K f y (.ref a) H q := ⟨a, C, dx, fs, rfl, h, c, n, by omega, k⟩
/-- the maker is asked for an object with no attributes yet -/
def spMk (C : Addr) (dom : List V → Hp → Prop) (post : Addr → List V → Hp → Hp → Prop) : Sp := fun vs H Q _ => ∃ a dx us, vs = .ref a :: us ∧ H a = some (.ins C dx []) ∧ dom us H ∧ ∀ H', But a H H' → post a us H H' → Q .non H'
def rMk (C : Addr) (sp : Sp) (dvs : List V) (E : XK) : List V → Hp → VK → Prop := fun vs H Q => ∀ x dx, H x = none → H dx = none → dx ≠ x → sp (.ref x :: (vs ++ dvs)) (upd (upd H dx (.own x)) x (.ins C dx [])) (fun v H2 => v = .non ∧ Q (.ref x) H2) E
theorem r_mk {sp : Sp} {C : Addr} {dvs : List V} {E : XK} (h : ts σ H fun vs H1 => rMk C sp dvs E vs H1 Q) : tMake C sp dvs E ts σ H Q := h
/-- C(e, ..): what comes out -/
theorem a_mk {C : Addr} {dom : List V → Hp → Prop} {post : Addr → List V → Hp → Hp → Prop} {E : XK} {vs dvs : List V} (hd : ∀ H1, Same H H1 → dom (vs ++ dvs) H1) (q : ∀ p H1 H2, H p = none → Same H H1 → Same H H2 → post p (vs ++ dvs) H1 H2 → Q (.ref p) H2) :
    rMk C (spMk C dom post) dvs E vs H Q := by
  intro x dx hx hdx ne
  have S1 : Same H (upd (upd H dx (.own x)) x (.ins C dx [])) := Same.new (Same.new (Same.refl _) hdx) (by rw [upd_ne (Ne.symm ne)]; exact hx)
  exact ⟨x, dx, vs ++ dvs, rfl, upd_same, hd _ S1, fun H' bt ps => ⟨rfl, q x _ H' hx S1 (fun a o h => bt a o (S1 a o h) (ne_of_none h hx)) ps⟩⟩
/-- C(y, ..), an own exception as a value -/
def rXv (C : Addr) (sp : Sp) : List V → Hp → VK → Prop := fun vs H Q => vs.length ≤ 1000 ∧ ∀ a, H a = none → sp (.ref a :: (vs ++ [])) (upd H a (exo a C none)) (fun v H2 => v = .non ∧ Q (.ref a) H2) (fun _ _ _ => False)
theorem r_xv {sp : Sp} {C : Addr} (h : ts σ H fun vs H1 => rXv C sp vs H1 Q) : tMkV C sp [] ts σ H Q := h
/-- an own exception with its dict -/
def XcV (H : Hp) (C a : Addr) (fs : List (Str × V)) : Prop := ∃ dx, H a = some (exo a C (some dx)) ∧ H dx = some (exd dx fs)
theorem XcV.same {H H' : Hp} {C a : Addr} {fs : List (Str × V)} (h : XcV H C a fs) (e : Same H H') : XcV H' C a fs := let ⟨dx, h1, h2⟩ := h; ⟨dx, e _ _ h1, e _ _ h2⟩
theorem a_xv1 {C : Addr} {f : Str} {y : V} (q : ∀ a H', Same H H' → XcV H' C a [(f, y)] → Q (.ref a) H') : rXv C (spI1 C f) [y] H Q := by
  refine ⟨by simp, fun a ha => ⟨a, y, rfl, upd_same, fun dx hd ne => ⟨rfl, q a _ (fun b o hb => ?_) ⟨dx, upd_same, ?_⟩⟩⟩⟩
  · have n1 : b ≠ a := ne_of_none hb ha
    have n2 : b ≠ dx := fun e => by
      rw [e] at hb
      rw [upd_ne ne] at hd
      rw [hd] at hb
      cases hb
    rw [upd_ne n1, upd_ne n2, upd_ne n1]
    exact hb
  · rw [upd_ne ne]
    exact upd_same
theorem a_xv2 {C : Addr} {f g : Str} {P : V → Prop} {y z : V} (hP : P y) (q : ∀ a H', Same H H' → XcV H' C a [(g, z), (f, y)] → Q (.ref a) H') : rXv C (spI2 C f g P) [y, z] H Q := by
  refine ⟨by simp, fun a ha => ⟨a, y, z, rfl, hP, upd_same, fun dx hd ne => ⟨rfl, q a _ (fun b o hb => ?_) ⟨dx, ?_, upd_same⟩⟩⟩⟩
  · have n1 : b ≠ a := ne_of_none hb ha
    have n2 : b ≠ dx := fun e => by
      rw [e] at hb
      rw [upd_ne ne] at hd
      rw [hd] at hb
      cases hb
    rw [upd_ne n2, upd_ne n1, upd_ne n2, upd_ne n1]
    exact hb
  · rw [upd_ne (Ne.symm ne)]
    exact upd_same
/-- e.f of an exception held as a value -/
def rXf (K : PySem.W.Frag) (f : Str) : V → Hp → VK → Prop := fun x H Q => ∃ (a C dx : Addr) (fs : List (Str × V)) (v : V), x = .ref a ∧ H a = some (exo a C (some dx)) ∧ H dx = some (exd dx fs) ∧ ExcK K C ∧ PySem.W.findIn K (.ref C) f = some none ∧ fs.lookup f = some v ∧ Q v H
theorem r_xf (h : te σ H fun x H1 => rXf K f x H1 Q) : tXFld K te f σ H Q := h
theorem a_xf {a C : Addr} {fs : List (Str × V)} {v : V} (h : XcV H C a fs) (T : ExcK K C) (n : PySem.W.findIn K (.ref C) f = some none) (l : fs.lookup f = some v) (q : Q v H) : rXf K f (.ref a) H Q := let ⟨dx, h1, h2⟩ := h; ⟨a, C, dx, fs, v, rfl, h1, h2, T, n, l, q⟩
end
/-! ### comprehensions -/
section
variable {K : PySem.W.Frag} {σ : L2.St} {H : Hp} {Q : VK} {wi : TI} {g : TG} {tt : TT} {te : TE} {vs : List Nat} {j : Nat}
def lcK (g : TG) (tt : TT) (te : TE) (vs : List Nat) (σ : L2.St) (Q : VK) : It → Hp → Prop := fun J H1 => ∀ D, H1 D = none → ∃ W : Nat → Nat → Hp → Prop, (∃ m, W 0 m (upd H1 D (.lst []))) ∧ ∀ i m H, W i m H →
  (J.stop i H ∧ Q (.ref D) H) ∨ (J.go i H ∧ ∃ Nx : Hp → Prop, (∀ H', Nx H' → ∃ m', m' < m ∧ W (i + 1) m' H') ∧ ∀ x H', J.yld i H x H' → g x (wipe σ vs) H' fun σ2 H2 => wipe σ2 vs = wipe σ vs ∧ tt σ2 H2 fun b H3 =>
    if b = true then te σ2 H3 fun y H4 => ∃ acc, H4 D = some (.lst acc) ∧ acc.length < sizeLine ∧ Nx (upd H4 D (.lst (acc ++ [y]))) else Nx H3)
theorem r_lc (h : wi σ H (lcK g tt te vs σ Q)) : tLc wi g tt te vs σ H Q := h
/-- a list in the making -/
theorem take_snoc {ys : List V} {i : Nat} {y : V} (h : ys[i]? = some y) : ys.take i ++ [y] = ys.take (i + 1) := by
  have hi : i < ys.length := (List.getElem?_eq_some_iff.mp h).1
  rw [List.take_succ_eq_append_getElem hi]
  rw [List.getElem?_eq_getElem hi] at h
  rw [Option.some.inj h]
/-- [e for x in ..]: e tells y of x, no heap changes -/
theorem c_mapL {a : Addr} {xs : List V} (ys : List V) (hw : ∀ x, wipe ((wipe σ vs).set j (some x)) vs = wipe σ vs) (hx : SqL K H a xs) (hl : xs.length = ys.length) (hn : ys.length ≤ 100000)
    (hs : ∀ (i : Nat) x y H' (P : VK), xs[i]? = some x → ys[i]? = some y → Same H H' → P y H' → te ((wipe σ vs).set j (some x)) H' P) (q : ∀ D, H D = none → Q (.ref D) (upd H D (.lst ys))) : lcK (gName j) tYes te vs σ Q (Itl K a) H := by
  intro D hD
  refine lc_list (fun i H' => H' = upd H D (.lst (ys.take i))) rfl (fun i H' _ e => by rw [e]; exact (Same.new (Same.refl _) hD).seq hx) (fun i x H' HX e => ?_) (fun H' e => ?_)
  · subst e
    have hi : i < ys.length := by
      rw [← hl]
      exact (List.getElem?_eq_some_iff.mp HX).1
    have hy := List.getElem?_eq_getElem hi
    refine ⟨hw _, hs i _ _ _ _ HX hy (Same.new (Same.refl _) hD) ⟨_, upd_same, by rw [List.length_take]; exact Nat.lt_of_le_of_lt (Nat.le_trans (Nat.min_le_right _ _) hn) (by decide), ?_⟩⟩
    rw [upd_upd, take_snoc hy]
  · have e2 : ys.take xs.length = ys := by rw [hl]; exact List.take_length
    rw [e, e2]
    exact q D hD
theorem c_mapT {a : Addr} {xs : List V} (ys : List V) (hw : ∀ x, wipe ((wipe σ vs).set j (some x)) vs = wipe σ vs) (hx : SqT K H a xs) (hl : xs.length = ys.length) (hn : ys.length ≤ 100000)
    (hs : ∀ (i : Nat) x y H' (P : VK), xs[i]? = some x → ys[i]? = some y → Same H H' → P y H' → te ((wipe σ vs).set j (some x)) H' P) (q : ∀ D, H D = none → Q (.ref D) (upd H D (.lst ys))) : lcK (gName j) tYes te vs σ Q (Itt K a) H := by
  intro D hD
  refine lc_tup (fun i H' => H' = upd H D (.lst (ys.take i))) rfl (fun i H' _ e => by rw [e]; exact SqT.ext hx (Same.new (Same.refl _) hD)) (fun i x H' HX e => ?_) (fun H' e => ?_)
  · subst e
    have hi : i < ys.length := by
      rw [← hl]
      exact (List.getElem?_eq_some_iff.mp HX).1
    have hy := List.getElem?_eq_getElem hi
    refine ⟨hw _, hs i _ _ _ _ HX hy (Same.new (Same.refl _) hD) ⟨_, upd_same, by rw [List.length_take]; exact Nat.lt_of_le_of_lt (Nat.le_trans (Nat.min_le_right _ _) hn) (by decide), ?_⟩⟩
    rw [upd_upd, take_snoc hy]
  · have e2 : ys.take xs.length = ys := by rw [hl]; exact List.take_length
    rw [e, e2]
    exact q D hD
theorem c_mapR {lo : Int} {k : Nat} (ys : List V) (hw : ∀ x, wipe ((wipe σ vs).set j (some x)) vs = wipe σ vs) (hl : k = ys.length) (hn : ys.length ≤ 100000)
    (hs : ∀ (i : Nat) x y H' (P : VK), i < k ∧ x = .int (lo + (i : Nat)) → ys[i]? = some y → Same H H' → P y H' → te ((wipe σ vs).set j (some x)) H' P) (q : ∀ D, H D = none → Q (.ref D) (upd H D (.lst ys))) : lcK (gName j) tYes te vs σ Q (Itr lo k) H := by
  intro D hD
  refine lc_range (fun i H' => H' = upd H D (.lst (ys.take i))) rfl (fun i H' HI e => ?_) (fun H' e => ?_)
  · subst e
    have hi : i < ys.length := by
      omega
    have hy := List.getElem?_eq_getElem hi
    refine ⟨hw _, hs i _ _ _ _ ⟨HI, rfl⟩ hy (Same.new (Same.refl _) hD) ⟨_, upd_same, by rw [List.length_take]; exact Nat.lt_of_le_of_lt (Nat.le_trans (Nat.min_le_right _ _) hn) (by decide), ?_⟩⟩
    rw [upd_upd, take_snoc hy]
  · have e2 : ys.take k = ys := by rw [hl]; exact List.take_length
    rw [e, e2]
    exact q D hD
/-! ### built-ins -/
def uSum (K : PySem.W.Frag) : List V → Hp → VK → Prop := rSum K
theorem cu_sum {X : Cx} (hc : X.calm = true) : CallR X (.builtin "sum") (uSum X.K) := cr_sum hc
theorem a_sum {a : Addr} {ns : List Int} (h : SqL K H a (ns.map V.int)) (q : Q (.int ns.sum) H) : uSum K [.ref a] H Q := ⟨a, ns, rfl, h, q⟩
def uTup (K : PySem.W.Frag) : List V → Hp → VK → Prop := fun xs H Q => ∃ p ys, xs = [.ref p] ∧ ((SqL K H p ys ∧ ∀ l, H l = none → Q (.ref l) (upd H l (.tup ys))) ∨ (SqT K H p ys ∧ Q (.ref p) H))
theorem cu_tuple {X : Cx} : CallR X (.type "tuple") (uTup X.K) := call_tuple_of
theorem a_tupL {p : Addr} {ys : List V} (h : SqL K H p ys) (q : ∀ l, H l = none → Q (.ref l) (upd H l (.tup ys))) : uTup K [.ref p] H Q := ⟨p, ys, rfl, .inl ⟨h, q⟩⟩
theorem a_tupT {p : Addr} {ys : List V} (h : SqT K H p ys) (q : Q (.ref p) H) : uTup K [.ref p] H Q := ⟨p, ys, rfl, .inr ⟨h, q⟩⟩
def uExt : V → List V → Hp → VK → Prop := rExtend
theorem mu_extend {X : Cx} : MtR X "list.extend" uExt := mt_extend
theorem a_ext {l b : Addr} {xs zs : List V} (h : H l = some (.lst xs)) (h2 : H b = some (.lst zs)) (hz : xs.length + zs.length ≤ 100000) (q : Q .non (upd H l (.lst (xs ++ zs)))) : uExt (.ref l) [.ref b] H Q := ⟨l, b, xs, zs, rfl, rfl, h, h2, z1000 hz, q⟩
def uPop : V → List V → Hp → VK → Prop := rPop
theorem mu_pop {X : Cx} : MtR X "list.pop" uPop := mt_pop
def uSet0 (P : Program) (w : World) : List V → Hp → VK → Prop := rSet0K P w
theorem cu_set0 {X : Cx} : CallR X (.type "set") (uSet0 X.prog X.w) := cr_set0K
theorem a_set0 {P : Program} {w : World} (q : ∀ p, H p = none → Q (.ref p) (upd H p (SetK P w p (fun _ => false) 0))) : uSet0 P w [] H Q := ⟨rfl, q⟩
end
/-! ### loops in which objects are only made -/
section
variable {K : PySem.W.Frag} {σ : L2.St} {H : Hp} {n b c : L2.St → Hp → Prop} {r : VK} {tb : TS} {j : Nat}
/-- behind some turns: the loop's name has some value, objects were made -/
def Grown (σ : L2.St) (H : Hp) (j : Nat) : L2.St → Hp → Prop := fun σ' H' => (∃ o, σ' = σ.set j o) ∧ Same H H'
theorem Grown.mk' {o : Option V} {H' : Hp} (s : Same H H') : Grown σ H j (σ.set j o) H' := ⟨⟨o, rfl⟩, s⟩
theorem f_rangeG {lo : Int} {k : Nat} (h0 : ∃ o, σ = σ.set j o) (hs : ∀ (i : Nat) (H' : Hp), i < k → Same H H' → tb ⟨Grown σ H j, r, n, Grown σ H j⟩ (σ.set j (some (.int (lo + (i : Nat))))) H') (hd : ∀ o H', Same H H' → n (σ.set j o) H') : forK (gName j) tb ⟨n, r, b, c⟩ (Itr lo k) σ H := by
  refine f_range (fun _ => Grown σ H j) ⟨h0, Same.refl _⟩ (fun i σ' H' hi q => ?_) (fun σ' H' q => ?_)
  · obtain ⟨⟨o, rfl⟩, s⟩ := q
    rw [List.set_set]
    exact hs i H' hi s
  · obtain ⟨⟨o, rfl⟩, s⟩ := q
    exact hd o H' s
theorem f_listG {p : Addr} {xs : List V} (h0 : ∃ o, σ = σ.set j o) (hx : SqL K H p xs) (hs : ∀ (i : Nat) (v : V) (H' : Hp), xs[i]? = some v → Same H H' → tb ⟨Grown σ H j, r, n, Grown σ H j⟩ (σ.set j (some v)) H') (hd : ∀ o H', Same H H' → n (σ.set j o) H') : forK (gName j) tb ⟨n, r, b, c⟩ (Itl K p) σ H := by
  refine f_list xs (fun _ => Grown σ H j) ⟨h0, Same.refl _⟩ (fun i σ' H' _ q => q.2.seq hx) (fun i v σ' H' hi q => ?_) (fun σ' H' q => ?_)
  · obtain ⟨⟨o, rfl⟩, s⟩ := q
    rw [List.set_set]
    exact hs i v H' hi s
  · obtain ⟨⟨o, rfl⟩, s⟩ := q
    exact hd o H' s
theorem f_tupG {p : Addr} {xs : List V} (h0 : ∃ o, σ = σ.set j o) (hx : SqT K H p xs) (hs : ∀ (i : Nat) (v : V) (H' : Hp), xs[i]? = some v → Same H H' → tb ⟨Grown σ H j, r, n, Grown σ H j⟩ (σ.set j (some v)) H') (hd : ∀ o H', Same H H' → n (σ.set j o) H') : forK (gName j) tb ⟨n, r, b, c⟩ (Itt K p) σ H := by
  refine f_tup xs (fun _ => Grown σ H j) ⟨h0, Same.refl _⟩ (fun i σ' H' _ q => SqT.ext hx q.2) (fun i v σ' H' hi q => ?_) (fun σ' H' q => ?_)
  · obtain ⟨⟨o, rfl⟩, s⟩ := q
    rw [List.set_set]
    exact hs i v H' hi s
  · obtain ⟨⟨o, rfl⟩, s⟩ := q
    exact hd o H' s
end
/-! ### a built-in method of a list -/
def aT (K : PySem.W.Frag) (T : String) (x : V) (H : Hp) (P : Prop) : Prop := tyV K T x H ∧ P
theorem r_bm {K : PySem.W.Frag} {T : String} {r : V → List V → Hp → VK → Prop} {to : TE} {t : TA} {σ : L2.St} {H : Hp} {Q : VK} (h : to σ H fun x H1 => aT K T x H1 (t σ H1 fun xs H2 => r x xs H2 Q)) : tBM K T r to t σ H Q := h
theorem r_bm0 {K : PySem.W.Frag} {T : String} {r : V → List V → Hp → VK → Prop} {to : TE} {σ : L2.St} {H : Hp} {Q : VK} (h : to σ H fun x H1 => aT K T x H1 (r x [] H1 Q)) : tBM0 K T r to σ H Q := h
theorem a_TL {K : PySem.W.Frag} {a : Addr} {H : Hp} {xs : List V} {P : Prop} (h : H a = some (.lst xs)) (q : P) : aT K "list" (.ref a) H P := ⟨.inl ⟨rfl, xs, SqL.of h⟩, q⟩
theorem a_TS {K : PySem.W.Frag} {z : Str} {H : Hp} {P : Prop} (q : P) : aT K "str" (.str z) H P := ⟨rfl, q⟩
/-! ### code that is not reached -/
theorem pe_no {X : Cx} {e : Expr} : PE X e (fun _ _ _ => False) := ⟨fun _ _ _ _ _ _ q => q.elim⟩
theorem pi_no {X : Cx} {tg e : Expr} : PI X tg e (fun _ _ _ => False) := ⟨fun _ _ _ _ _ _ q => q.elim⟩
/-! ### a list or a tuple, as it comes -/
def uSeq (K : PySem.W.Frag) (t : TE) : TI := fun σ H R => iList K t σ H R ∨ iTup K t σ H R
theorem pi_seq {X : Cx} {tg e : Expr} {t : TE} (h : PE X e t) : PI X tg e (uSeq X.K t) := by
  refine ⟨?_⟩
  intros
  rename_i q
  rcases q with q | q
  · exact (pi_list h).run _ _ _ _ _ (by assumption) q
  · exact (pi_tup h).run _ _ _ _ _ (by assumption) q
theorem r_sqL {K : PySem.W.Frag} {t : TE} {σ : L2.St} {H : Hp} {R : It → Hp → Prop} (h : iList K t σ H R) : uSeq K t σ H R := .inl h
theorem r_sqT {K : PySem.W.Frag} {t : TE} {σ : L2.St} {H : Hp} {R : It → Hp → Prop} (h : iTup K t σ H R) : uSeq K t σ H R := .inr h
theorem But.put {b : Addr} {H H1 : Hp} {o : HO} (x : But b H H1) : But b H (L2.upd H1 b o) := fun a u h n => by rw [upd_ne n]; exact x a u h n
/-! ### looks of the head -/
def conB (K : PySem.W.Frag) (C : Addr) (f : Str) (i : Int) : Bool := match PySem.W.findIn K (.ref C) f with
  | some (some (.int j _)) => decide (j = i) && !PySem.W.copiedNames.contains f
  | _ => false
theorem conB_ok {K : PySem.W.Frag} {C : Addr} {f : Str} {i : Int} (h : conB K C f i = true) : ∃ u, Con K C f (.int i) u := by
  unfold conB at h
  split at h
  · rename_i j t e
    obtain ⟨h1, h2⟩ := ba h
    exact ⟨.int j t, e, ⟨t, by rw [of_decide_eq_true h1]⟩, rfl, by simpa using h2⟩
  · cases h
def tu0B (K : PySem.W.Frag) (a : Addr) : Bool := match K.lookup a with
  | some ⟨.type "tuple", _, .seq its _, _⟩ => decide (its.toList = [])
  | _ => false
theorem tu0B_ok {K : PySem.W.Frag} {a : Addr} (h : tu0B K a = true) (H : Hp) : SqT K H a [] := by
  unfold tu0B at h
  split at h
  · rename_i dd its n sl e
    have e2 := of_decide_eq_true h
    refine .inr ⟨_, its, n, e, rfl, rfl, ?_, ?_⟩
    · rw [← Array.length_toList, e2]
      exact Nat.zero_le _
    · rw [e2]
      exact .nil
  · cases h
end Bx
/-! BxS: calls that may let errors out, the wish about them told with the slots; own exceptions without __init__. -/
namespace Bx
open PySem PySem.Spec PyProof.Rows L2 He
/-- a def that keeps sp, its last parameters filled by dvs -/
def FnB (P : Program) (w : World) (K : PySem.W.Frag) (mg : Str → Option Value) (base : Heap) (k : Nat) (f : Addr) (ps : List Str) (sp : Sp) (dvs : List V) : Prop := ∃ fd ds, FnOk P w K mg base (L2.CX P w) k f fd ps sp ∧ Vals dvs ds ∧ Binds K fd ps ds
section
variable (P : Program) (w : World) (K : PySem.W.Frag) (mg : Str → Option Value) (base : Heap)
/-- the class x, made by its __init__, defaults dvs -/
structure HasCd (k : Nat) (x : Str) (ps : List Str) (sp : Sp) (dvs : List V) : Prop where
  fn : FnB P w K mg base k (ma K (ga K x) "__init__") ps sp dvs
  mkr : Mk K (ga K x) (ma K (ga K x) "__init__")
  m : mg x = some (.ref (ga K x))
/-- the method m of the class x, defaults dvs -/
structure HasMd (k : Nat) (x m : Str) (ps : List Str) (sp : Sp) (dvs : List V) : Prop where
  fn : FnB P w K mg base k (ma K (ga K x) m) ps sp dvs
  c : Cls K (ga K x)
  m : Meth K (ga K x) m (ma K (ga K x) m)
end
section
variable {P : Program} {w : World} {K : PySem.W.Frag} {mg : Str → Option Value} {base : Heap} {k : Nat} {x m : Str} {ps : List Str} {sp : Sp}
theorem HasF.b (h : HasF P w K mg base k x ps sp) : FnB P w K mg base k (ga K x) ps sp [] := let ⟨fd, F, B⟩ := h.fn; ⟨fd, [], F, .nil, B⟩
theorem HasC.d (h : HasC P w K mg base k x ps sp) : HasCd P w K mg base k x ps sp [] := ⟨let ⟨fd, F, B⟩ := h.fn; ⟨fd, [], F, .nil, B⟩, h.mkr, h.m⟩
theorem HasM.d (h : HasM P w K mg base k x m ps sp) : HasMd P w K mg base k x m ps sp [] := ⟨let ⟨fd, F, B⟩ := h.fn; ⟨fd, [], F, .nil, B⟩, h.c, h.m⟩
end
section
variable {X : Cx} {j k : Nat} {x m : Str} {ps : List Str} {sp : Sp} {W : WX} {e o : Expr} {es : List Expr} {t : TA} {ta : TE} {p pos apos : Pos} {C f : Addr} {dvs vs : List V} {us : List Value} {pins : List (Addr × Obj)} {σ : L2.St} {H : Hp} {s : Shared} {Q : VK}
abbrev Wh (W : WX) (σ : L2.St) : XK := fun c d H => W c d σ H
theorem run_wish (B : FnB X.prog X.w X.K X.mg X.base k f ps sp dvs) (hr : Room k X.A) (tk : Takes X W) (I : Inv X pins σ H s) (r : Vals vs us) (h : sp (vs ++ dvs) H Q (Wh W σ)) : wpAny (model X.prog X.w) X.A (call (.ref f) us) (EP X pins σ Q) X.xe s := by
  obtain ⟨fd, ds, F, hd, hb⟩ := B
  exact run_fnSD (E := fun σ => Wh W σ) F hr hb hd (passAt tk σ) I r h
theorem made_wish (B : FnB X.prog X.w X.K X.mg X.base k f ps sp dvs) (M : Mk X.K C f) (hr : Room (k + 1) X.A) (tk : Takes X W) (I : Inv X pins σ H s) (r : Vals vs us)
    (h : ∀ x dx, H x = none → H dx = none → dx ≠ x → sp (.ref x :: (vs ++ dvs)) (upd (upd H dx (.own x)) x (.ins C dx [])) (fun v H2 => v = .non ∧ Q (.ref x) H2) (Wh W σ)) : wpAny (model X.prog X.w) X.A (call (.ref C) us) (EP X pins σ Q) X.xe s := by
  obtain ⟨fd, ds, F, hd, hb⟩ := B
  have n0 := I.hok.fresh (Nat.le_refl s.heap.objs.size)
  have n1 := I.hok.fresh (Nat.le_succ s.heap.objs.size)
  have q := h _ _ n1 n0 (Nat.ne_of_lt (Nat.lt_succ_self _))
  have J := I.made (C := C)
  have rv : Vals (V.ref (s.heap.objs.size + 1) :: (vs ++ dvs)) (Value.ref (s.heap.objs.size + 1) :: (us ++ ds)) := .cons rfl (r.append hd)
  have bi := hb _ (Value.ref (s.heap.objs.size + 1) :: us) J.kIn (rv.length.symm.trans (F.len _ _ _ _ q))
  have ran := F.run _ X.stack _ _ ⟨Value.ref (s.heap.objs.size + 1) :: us, []⟩ _ _ _ (Wh W σ) (hr.make C us []) (J.env0.make C us []) bi rv q
  refine wpAny_call (make_map (f := f) I.kIn M.makes M.init (beq_iff_eq.mp M.fn) (codeAny_mono ran fun z s' hz => ?_))
  match z, hz with
  | .error e, hz => exact passAt tk σ pins _ _ e s' J hz
  | .ok (.ret u), hz =>
    obtain ⟨v, H2, J2, rw2, ev, q2⟩ := J.after hz
    cases ev
    exact ⟨rw2, V.ref _, H2, J2, rfl, q2⟩
  | .ok .next, hz => exact hz.elim
  | .ok .brk, hz => exact hz.elim
  | .ok .cont, hz => exact hz.elim
/-- what a call wishes, W its wish about errors -/
def tSC (sp : Sp) (dvs : List V) (W : WX) (t : TA) : TE := fun σ H Q => t σ H fun vs H1 => sp (vs ++ dvs) H1 Q (Wh W σ)
def tSM (C : Addr) (m : Str) (sp : Sp) (dvs : List V) (W : WX) (ta : TE) (t : TA) : TE := fun σ H Q => ta σ H fun x H1 => ∃ a dx fs, x = .ref a ∧ H1 a = some (.ins C dx fs) ∧ fs.lookup m = none ∧ t σ H1 fun vs H2 => sp ((.ref a :: vs) ++ dvs) H2 Q (Wh W σ)
def tSK (C : Addr) (sp : Sp) (dvs : List V) (W : WX) (t : TA) : TE := fun σ H Q => t σ H fun vs H1 => ∀ x dx, H1 x = none → H1 dx = none → dx ≠ x → sp (.ref x :: (vs ++ dvs)) (upd (upd H1 dx (.own x)) x (.ins C dx [])) (fun v H2 => v = .non ∧ Q (.ref x) H2) (Wh W σ)
theorem pe_fnS (h : HasF X.prog X.w X.K X.mg X.base k x ps sp) (hr : Room j X.A) (hk : k ≤ j) (tk : Takes X W) (hg : Gl X x) (ha : PA X (e :: es) t) (hdb : (x == ("__debug__" : Str)) = false := by decide)
    (he : starEach (e :: es) X.env = (false, eval e X.env) :: starEach es X.env := by rfl) (hpl : (backTo pos (starEach es X.env)).any (·.1) = false := by rfl) : PE X (.Call (.Name x p) (e :: es) [] pos) (tSC sp [] W t) :=
  ⟨fun pins s σ H Q I q => wpAny_Call_Name_kw (ld_glob I hg h.m (PySem.W.callWith_K (h₀ := X.base) I.ok.mod.kin h.kp (thn (ha.run pos pins s σ H _ I q) fun us s1 ⟨vs, H1, I1, r, z⟩ => ⟨I1.kIn, run_wish h.b (hr.mono hk) tk I1 r z⟩) he hpl) hdb)⟩
theorem pe_mkS (h : HasCd X.prog X.w X.K X.mg X.base k x ps sp dvs) (hr : Room j X.A) (hk : k + 1 ≤ j) (tk : Takes X W) (hg : Gl X x) (ha : PA X (e :: es) t) (hdb : (x == ("__debug__" : Str)) = false := by decide)
    (he : starEach (e :: es) X.env = (false, eval e X.env) :: starEach es X.env := by rfl) (hpl : (backTo pos (starEach es X.env)).any (·.1) = false := by rfl) : PE X (.Call (.Name x p) (e :: es) [] pos) (tSK (ga X.K x) sp dvs W t) :=
  ⟨fun pins s σ H Q I q => wpAny_Call_Name_kw (ld_glob I hg h.m (PySem.W.callWith_K (h₀ := X.base) I.ok.mod.kin h.mkr.kp (thn (ha.run pos pins s σ H _ I q) fun us s1 ⟨vs, H1, I1, r, z⟩ => ⟨I1.kIn, made_wish h.fn h.mkr (hr.mono hk) tk I1 r z⟩) he hpl) hdb)⟩
theorem pe_mtS {pl : Sem Bool} (h : HasMd X.prog X.w X.K X.mg X.base k x m ps sp dvs) (hr : Room j X.A) (hk : k ≤ j) (tk : Takes X W) (he : PE X o ta) (ha : PA X (e :: es) t) (hst : starEach (e :: es) X.env = (false, eval e X.env) :: starEach es X.env := by rfl) (hpl : (backTo pos (starEach es X.env)).any (·.1) = false := by rfl)
    (ht : eval (.Call (.Attribute o m apos) (e :: es) [] pos) X.env = (do
      let ov ← eval o X.env
      standAt apos.atName
      let (f, first) ← holding [ov] (getMethod ov m pl)
      callWith pos f first (backTo pos (starEach (e :: es) X.env)) (backToKw pos (keywordEach [] X.env))) := by rfl) : PE X (.Call (.Attribute o m apos) (e :: es) [] pos) (tSM (ga X.K x) m sp dvs W ta t) := by
  refine ⟨fun pins s σ H Q I q => PySem.W.methodCall_KW (pl := pl) (thn (he.run pins s σ H _ I q) fun u s1 ⟨y, H1, I1, ry, a, dx, fs, ey, ea, l, q1⟩ => ?_) ht⟩
  subst ey
  cases (show u = Value.ref a from ry)
  exact getmeth_ok I1 ea h.c h.m l (PySem.W.callWith_K (first := [.ref a]) (h₀ := X.base) I.ok.mod.kin h.m.kp (thn (ha.run pos pins s1 σ H1 _ I1 q1) fun us s2 ⟨vs, H2, I2, r, q2⟩ => ⟨I2.kIn, run_wish h.fn (hr.mono hk) tk (us := .ref a :: us) (vs := .ref a :: vs) I2 (.cons rfl r) q2⟩) hst hpl)
theorem pe_mt0S {pl : Sem Bool} (h : HasMd X.prog X.w X.K X.mg X.base k x m ps sp dvs) (hr : Room j X.A) (hk : k ≤ j) (tk : Takes X W) (he : PE X o ta)
    (ht : eval (.Call (.Attribute o m apos) [] [] pos) X.env = (do
      let ov ← eval o X.env
      standAt apos.atName
      let (f, first) ← holding [ov] (getMethod ov m pl)
      callWith pos f first (backTo pos (starEach [] X.env)) (backToKw pos (keywordEach [] X.env))) := by rfl) : PE X (.Call (.Attribute o m apos) [] [] pos) (tSM (ga X.K x) m sp dvs W ta tNil) := by
  refine ⟨fun pins s σ H Q I q => PySem.W.methodCall_KW (pl := pl) (thn (he.run pins s σ H _ I q) fun u s1 ⟨y, H1, I1, ry, a, dx, fs, ey, ea, l, q1⟩ => ?_) ht⟩
  subst ey
  cases (show u = Value.ref a from ry)
  exact getmeth_ok I1 ea h.c h.m l (PySem.W.callWith_K0 (first := [.ref a]) I1.kIn h.m.kp (run_wish h.fn (hr.mono hk) tk (us := [.ref a]) (vs := [.ref a]) I1 (.cons rfl .nil) q1))
end
/-- all parameters given, defaults or not -/
theorem _root_.L2.FunD.bindsAll {K : PySem.W.Frag} {x qual : Str} {params : Arguments} {body : List Stmt} {scope : Scope} {dv : List V} {kws : List (Str × V)} {f : Addr} {fd : FuncData} {ps : List Str} (F : FunD K x qual params body scope dv kws f fd)
    (h : ∀ (dV kV doc pm : Value) (an : Option Addr) (cdv ct : Value) (us : List Value), us.length = ps.length → bindArgs (PySem.W.fnOf x qual params body scope dV kV doc pm an cdv ct) ⟨us, []⟩ = pure (ps.zip us)) : Binds K fd ps [] := by
  obtain ⟨oc, od, dV, kV, doc, pm, an, cdv, ct, osl, rfl, _⟩ := F.ex
  exact .all fun us hl => h dV kV doc pm an cdv ct us hl
/-! ### readings -/
section
variable {K : PySem.W.Frag} {σ : L2.St} {H : Hp} {Q : VK} {te ta : TE} {ts : TA} {sp : Sp} {C : Addr} {m : Str} {W : WX} {dvs : List V}
theorem r_SC (h : ts σ H fun vs H1 => sp (vs ++ dvs) H1 Q (Wh W σ)) : tSC sp dvs W ts σ H Q := h
theorem r_SK (h : ts σ H fun vs H1 => rMk C sp dvs (Wh W σ) vs H1 Q) : tSK C sp dvs W ts σ H Q := h
def aM (C : Addr) (m : Str) (x : V) (H : Hp) (P : Addr → Prop) : Prop := ∃ a dx fs, x = .ref a ∧ H a = some (.ins C dx fs) ∧ fs.lookup m = none ∧ P a
theorem r_SM (h : ta σ H fun x H1 => aM C m x H1 fun a => ts σ H1 fun vs H2 => sp ((.ref a :: vs) ++ dvs) H2 Q (Wh W σ)) : tSM C m sp dvs W ta ts σ H Q := h
theorem a_M {a dx : Addr} {fs : List (Str × V)} {P : Addr → Prop} (h : H a = some (.ins C dx fs)) (l : fs.lookup m = none) (q : P a) : aM C m (.ref a) H P := ⟨a, dx, fs, rfl, h, l, q⟩
end
/-! ### an own exception without __init__, raised with a text -/
structure HasXB (K : PySem.W.Frag) (mg : Str → Option Value) (x : Str) : Prop where
  ex : PySem.W.excIn K (ga K x) veBase "ValueError.__new__" = true ∧ PySem.W.keepIn K (.ref (ga K x)) = true ∧ PySem.W.subIn K (.ref (ga K x)) (.type "BaseException") = some true ∧ PySem.W.typeIn K (.ref (ga K x)) = some (.type "type")
  m : mg x = some (.ref (ga K x))
theorem ps_rzB {X : Cx} {W : WX} {x m : Str} {j : Nat} {p p2 pos rpos : Pos} (h : HasXB X.K X.mg x) (hc : X.calm = true) (tk : Takes X W) (hg : Gl X x) (hdb : (x == ("__debug__" : Str)) = false := by decide) :
    PS X (.Raise (some (.Call (.Name x p) [.Constant (.str m) j p2] [] pos)) none rpos) (fun _ σ H => W (.ref (ga X.K x)) none σ H) :=
  ps_raise hc tk (pmk_own F.excBase_ValueError h.ex.1 h.m h.ex.2.1 (raises_own h.ex.2.2.1 h.ex.2.2.2) hg hdb)
/-! ### isinstance of an instance; an own == -/
structure InsT (K : PySem.W.Frag) (C : Addr) : Prop where
  ha : PySem.W.findIn K (.ref C) "__class__" = some (some (.builtin "object.__class__"))
  hn : PySem.W.specialIn K (.builtin "object.__class__") "__get__" = some (some (.builtin "getset_descriptor.__get__"))
  ht : PySem.W.takesIn K (.builtin "object.__class__") = some true
  hm : PySem.W.mroIn K C (.type "object") = some true
def insB (K : PySem.W.Frag) (C : Addr) : Bool := eqV (PySem.W.findIn K (.ref C) "__class__") (some (some (.builtin "object.__class__"))) && (eqV (PySem.W.specialIn K (.builtin "object.__class__") "__get__") (some (some (.builtin "getset_descriptor.__get__"))) &&
  (eqB (PySem.W.takesIn K (.builtin "object.__class__")) true && eqB (PySem.W.mroIn K C (.type "object")) true))
theorem insB_ok {K : PySem.W.Frag} {C : Addr} (h : insB K C = true) : InsT K C := by
  obtain ⟨h1, h⟩ := ba h
  obtain ⟨h2, h⟩ := ba h
  obtain ⟨h3, h4⟩ := ba h
  exact ⟨of_decide_eq_true h1, of_decide_eq_true h2, of_decide_eq_true h3, of_decide_eq_true h4⟩
theorem kit_self {K : PySem.W.Frag} {C : Addr} : PySem.W.kitOne K (.ref C) (.ref C) = some true := by
  unfold PySem.W.kitOne
  rw [if_pos (beq_self_eq_true _)]
section
variable {K : PySem.W.Frag} {H : Hp} {Q : VK}
theorem a_isIns {a C dx : Addr} {fs : List (Str × V)} (h : H a = some (.ins C dx fs)) (cl : Cls K C) (t : InsT K C) (q : Q (.bl true) H) : uIsi K [.ref a, .ref C] H Q := a_isi (.own C) (.base (.ins h cl t.ha t.hn t.ht t.hm)) kit_self q
theorem a_isV {a C : Addr} {fs : List (Str × V)} {c : V} {u : Value} {b : Bool} (h : XcV H C a fs) (T : ExcK K C) (k : ClsV c u) (e : PySem.W.kitOne K (.ref C) u = some b) (q : Q (.bl b) H) : uIsi K [.ref a, c] H Q := by
  obtain ⟨dx, h1, h2⟩ := h
  exact a_isX k h1 h2 T e q
end
/-- the own == of the class x -/
structure HasQ (P : Program) (w : World) (K : PySem.W.Frag) (mg : Str → Option Value) (base : Heap) (k : Nat) (x : Str) (ps : List Str) (R : Addr → Addr → Hp → Prop) : Prop where
  fn : ∃ fd, FnOk P w K mg base (L2.CX P w) k (ma K (ga K x) "__eq__") fd ps (spEq R) ∧ Binds K fd ps []
  m : Meth K (ga K x) "__eq__" (ma K (ga K x) "__eq__")
theorem ou_own {X : Cx} {j k : Nat} {x : Str} {ps : List Str} {R : Addr → Addr → Hp → Prop} (h : HasQ X.prog X.w X.K X.mg X.base k x ps R) (hr : Room j X.A) (hk : k ≤ j) : OpR X (compareOp .Eq) (rEqG (DIns (ga X.K x) R)) := by
  obtain ⟨fd, F, B⟩ := h.fn
  exact op_eqG (rcG_ins F h.m.at_ h.m.fn B passL) (hr.mono hk)
theorem a_own {C a b dx dy : Addr} {fs gs : List (Str × V)} {R : Addr → Addr → Hp → Prop} {H : Hp} {Q : VK} (h1 : H a = some (.ins C dx fs)) (h2 : H b = some (.ins C dy gs)) (r : R a b H) (q : ∀ H', Same H H' → Q (.bl true) H') : rEqG (DIns C R) (.ref a) (.ref b) H Q := ⟨⟨a, b, dx, dy, fs, gs, rfl, rfl, h1, h2, r⟩, q⟩
end Bx
namespace Lw
open PySem PySem.Spec PyProof.Rows L2 He NdefX Bx
variable {P : Program} {w : World} {K : PySem.W.Frag} {mg : Str → Option Value} {base : Heap}
def top (i : Nat) : Stmt := PySem.Challenge.pw_barclips_k81_errors_apart.main.body.getD i (.Pass ⟨0, 0, 0, 0⟩)
abbrev s_BadName___init__ : Stmt := inClass (top 3) 0
abbrev n_BadName___init__ : List Str := ["self", "name", "__class__"]
abbrev p_BadName___init__ : List Str := ["self", "name"]
abbrev s_BadNumber___init__ : Stmt := inClass (top 4) 0
abbrev n_BadNumber___init__ : List Str := ["self", "value", "__class__"]
abbrev p_BadNumber___init__ : List Str := ["self", "value"]
abbrev s_BadWord___init__ : Stmt := inClass (top 5) 0
abbrev n_BadWord___init__ : List Str := ["self", "word", "__class__"]
abbrev p_BadWord___init__ : List Str := ["self", "word"]
abbrev s_BadLine___init__ : Stmt := inClass (top 6) 0
abbrev n_BadLine___init__ : List Str := ["self", "number", "__class__"]
abbrev p_BadLine___init__ : List Str := ["self", "number"]
abbrev s_BadSetting___init__ : Stmt := inClass (top 7) 0
abbrev n_BadSetting___init__ : List Str := ["self", "size", "__class__"]
abbrev p_BadSetting___init__ : List Str := ["self", "size"]
abbrev s_NoClips___init__ : Stmt := inClass (top 8) 0
abbrev n_NoClips___init__ : List Str := ["self", "name", "__class__"]
abbrev p_NoClips___init__ : List Str := ["self", "name"]
abbrev s_Twice___init__ : Stmt := inClass (top 9) 0
abbrev n_Twice___init__ : List Str := ["self", "name", "__class__"]
abbrev p_Twice___init__ : List Str := ["self", "name"]
abbrev s_Unknown___init__ : Stmt := inClass (top 10) 0
abbrev n_Unknown___init__ : List Str := ["self", "name", "__class__"]
abbrev p_Unknown___init__ : List Str := ["self", "name"]
abbrev s_EmptyClip___init__ : Stmt := inClass (top 11) 0
abbrev n_EmptyClip___init__ : List Str := ["self", "name", "__class__"]
abbrev p_EmptyClip___init__ : List Str := ["self", "name"]
abbrev s_NotEmpty___init__ : Stmt := inClass (top 12) 0
abbrev n_NotEmpty___init__ : List Str := ["self", "name", "__class__"]
abbrev p_NotEmpty___init__ : List Str := ["self", "name"]
abbrev s_NotArmed___init__ : Stmt := inClass (top 13) 0
abbrev n_NotArmed___init__ : List Str := ["self", "name", "__class__"]
abbrev p_NotArmed___init__ : List Str := ["self", "name"]
abbrev s_NotHeld___init__ : Stmt := inClass (top 14) 0
abbrev n_NotHeld___init__ : List Str := ["self", "name", "__class__"]
abbrev p_NotHeld___init__ : List Str := ["self", "name"]
abbrev s_OffGrid___init__ : Stmt := inClass (top 15) 0
abbrev n_OffGrid___init__ : List Str := ["self", "tick", "__class__"]
abbrev p_OffGrid___init__ : List Str := ["self", "tick"]
abbrev s_TooMany___init__ : Stmt := inClass (top 16) 0
abbrev n_TooMany___init__ : List Str := ["self", "kind", "most", "__class__"]
abbrev p_TooMany___init__ : List Str := ["self", "kind", "most"]
abbrev s_Apart___init__ : Stmt := inClass (top 17) 0
abbrev n_Apart___init__ : List Str := ["self", "first", "second", "__class__"]
abbrev p_Apart___init__ : List Str := ["self", "first", "second"]
abbrev s_check_name : Stmt := top 24
abbrev n_check_name : List Str := ["name", "sign"]
abbrev p_check_name : List Str := ["name"]
abbrev s_plain_number : Stmt := top 25
abbrev n_plain_number : List Str := ["word", "sign"]
abbrev p_plain_number : List Str := ["word"]
abbrev s_read_number : Stmt := top 26
abbrev n_read_number : List Str := ["word", "number"]
abbrev p_read_number : List Str := ["word"]
abbrev s_split_words : Stmt := top 27
abbrev n_split_words : List Str := ["line", "parts"]
abbrev p_split_words : List Str := ["line"]
abbrev s_split_lines : Stmt := top 28
abbrev n_split_lines : List Str := ["text"]
abbrev p_split_lines : List Str := ["text"]
abbrev s_gcd_and_factor : Stmt := top 31
abbrev n_gcd_and_factor : List Str := ["number", "modulus", "old", "new", "old_factor", "new_factor", "quotient"]
abbrev p_gcd_and_factor : List Str := ["number", "modulus"]
abbrev s_Grid___init__ : Stmt := inClass (top 32) 0
abbrev n_Grid___init__ : List Str := ["self", "step", "offset"]
abbrev p_Grid___init__ : List Str := ["self", "step", "offset"]
abbrev s_Grid_read : Stmt := inClass (top 32) 1
abbrev n_Grid_read : List Str := ["cls", "word", "head", "plus", "tail", "step", "offset"]
abbrev p_Grid_read : List Str := ["cls", "word"]
abbrev s_Grid_common : Stmt := inClass (top 32) 2
abbrev n_Grid_common : List Str := ["first", "second", "divisor", "factor", "distance", "rest", "number"]
abbrev p_Grid_common : List Str := ["first", "second"]
abbrev s_Grid_tick_of : Stmt := inClass (top 32) 3
abbrev n_Grid_tick_of : List Str := ["self", "number"]
abbrev p_Grid_tick_of : List Str := ["self", "number"]
abbrev s_Grid_number_of : Stmt := inClass (top 32) 4
abbrev n_Grid_number_of : List Str := ["self", "tick"]
abbrev p_Grid_number_of : List Str := ["self", "tick"]
abbrev s_Grid_at_or_after : Stmt := inClass (top 32) 5
abbrev n_Grid_at_or_after : List Str := ["self", "tick"]
abbrev p_Grid_at_or_after : List Str := ["self", "tick"]
abbrev s_Grid___contains__ : Stmt := inClass (top 32) 9
abbrev n_Grid___contains__ : List Str := ["self", "tick"]
abbrev p_Grid___contains__ : List Str := ["self", "tick"]
abbrev s_Grid___eq__ : Stmt := inClass (top 32) 10
abbrev n_Grid___eq__ : List Str := ["self", "other"]
abbrev p_Grid___eq__ : List Str := ["self", "other"]
abbrev s_Grid___add__ : Stmt := inClass (top 32) 11
abbrev n_Grid___add__ : List Str := ["self", "other"]
abbrev p_Grid___add__ : List Str := ["self", "other"]
abbrev s_Grid___radd__ : Stmt := inClass (top 32) 12
abbrev n_Grid___radd__ : List Str := ["self", "other"]
abbrev p_Grid___radd__ : List Str := ["self", "other"]
abbrev s_Grid___sub__ : Stmt := inClass (top 32) 13
abbrev n_Grid___sub__ : List Str := ["self", "other"]
abbrev p_Grid___sub__ : List Str := ["self", "other"]
abbrev s_Grid___mul__ : Stmt := inClass (top 32) 14
abbrev n_Grid___mul__ : List Str := ["self", "other"]
abbrev p_Grid___mul__ : List Str := ["self", "other"]
abbrev s_Grid___rmul__ : Stmt := inClass (top 32) 15
abbrev n_Grid___rmul__ : List Str := ["self", "other"]
abbrev p_Grid___rmul__ : List Str := ["self", "other"]
abbrev s_Grid___floordiv__ : Stmt := inClass (top 32) 16
abbrev n_Grid___floordiv__ : List Str := ["self", "other", "index"]
abbrev p_Grid___floordiv__ : List Str := ["self", "other"]
abbrev s_Grid___rfloordiv__ : Stmt := inClass (top 32) 17
abbrev n_Grid___rfloordiv__ : List Str := ["self", "other"]
abbrev p_Grid___rfloordiv__ : List Str := ["self", "other"]
abbrev s_Grid___rmod__ : Stmt := inClass (top 32) 18
abbrev n_Grid___rmod__ : List Str := ["self", "other"]
abbrev p_Grid___rmod__ : List Str := ["self", "other"]
abbrev s_Grid___and__ : Stmt := inClass (top 32) 19
abbrev n_Grid___and__ : List Str := ["self", "other", "shared"]
abbrev p_Grid___and__ : List Str := ["self", "other"]
abbrev s_Grid___str__ : Stmt := inClass (top 32) 20
abbrev n_Grid___str__ : List Str := ["self"]
abbrev p_Grid___str__ : List Str := ["self"]
abbrev s_check_grids : Stmt := top 36
abbrev n_check_grids : List Str := ["grids"]
abbrev p_check_grids : List Str := ["grids"]
abbrev s_is_gap : Stmt := top 37
abbrev n_is_gap : List Str := ["grids", "number", "grid"]
abbrev p_is_gap : List Str := ["grids", "number"]
abbrev s_first_gap : Stmt := top 38
abbrev n_first_gap : List Str := ["grids", "start", "number"]
abbrev p_first_gap : List Str := ["grids", "start"]
abbrev s_place_at : Stmt := top 40
abbrev n_place_at : List Str := ["track", "entry", "tick", "name", "begin"]
abbrev p_place_at : List Str := ["track", "entry", "tick"]
abbrev s_closing_places : Stmt := top 41
abbrev n_closing_places : List Str := ["stage", "setting", "tick", "found", "track", "entry", "place"]
abbrev p_closing_places : List Str := ["stage", "setting", "tick"]
abbrev s_find_closings : Stmt := top 43
abbrev n_find_closings : List Str := ["stage", "grid", "setting", "found", "track", "entry", "name", "tick", "place", "shared", "numbers"]
abbrev p_find_closings : List Str := ["stage", "grid", "setting"]
abbrev s_bar_gap : Stmt := top 44
abbrev n_bar_gap : List Str := ["stage", "grid", "setting", "number", "_", "numbers"]
abbrev p_bar_gap : List Str := ["stage", "grid", "setting", "number"]
abbrev s_State___init__ : Stmt := inClass (top 46) 0
abbrev n_State___init__ : List Str := ["self", "scene", "clock", "lists", "story"]
abbrev p_State___init__ : List Str := ["self", "scene", "clock", "lists", "story"]
abbrev s_Lists___init__ : Stmt := inClass (top 47) 0
abbrev n_Lists___init__ : List Str := ["self", "settled", "changes", "taping", "arming", "kept", "begun"]
abbrev p_Lists___init__ : List Str := ["self", "settled", "changes", "taping", "arming", "kept", "begun"]
abbrev s_Lists_twin : Stmt := inClass (top 47) 1
abbrev n_Lists_twin : List Str := ["self"]
abbrev p_Lists_twin : List Str := ["self"]
abbrev s_first_state : Stmt := top 48
abbrev n_first_state : List Str := ["scene", "clock", "tracks", "leads", "lists"]
abbrev p_first_state : List Str := ["scene", "clock"]
abbrev s_track_index : Stmt := top 49
abbrev n_track_index : List Str := ["scene", "name", "track"]
abbrev p_track_index : List Str := ["scene", "name"]
abbrev s_lead_index : Stmt := top 50
abbrev n_lead_index : List Str := ["scene", "name", "lead"]
abbrev p_lead_index : List Str := ["scene", "name"]
abbrev s_open_at : Stmt := top 51
abbrev n_open_at : List Str := ["scene", "lists", "tick"]
abbrev p_open_at : List Str := ["scene", "lists", "tick"]
abbrev s_sounding_names : Stmt := top 52
abbrev n_sounding_names : List Str := ["state", "names", "track", "entry", "name", "begin", "lead"]
abbrev p_sounding_names : List Str := ["state"]
abbrev s_hold_moment : Stmt := top 54
abbrev n_hold_moment : List Str := ["state", "index", "lead", "bars", "last", "number", "gap"]
abbrev p_hold_moment : List Str := ["state", "index"]
abbrev s_next_moment : Stmt := top 55
abbrev n_next_moment : List Str := ["state", "ticks", "index", "lead", "change", "tick"]
abbrev p_next_moment : List Str := ["state"]
abbrev s_halt : Stmt := top 56
abbrev n_halt : List Str := ["scene", "lists", "index", "tick", "story", "name", "change"]
abbrev p_halt : List Str := ["scene", "lists", "index", "tick", "story"]
abbrev s_end_leads : Stmt := top 57
abbrev n_end_leads : List Str := ["scene", "lists", "tick", "story", "index", "lead", "begin"]
abbrev p_end_leads : List Str := ["scene", "lists", "tick", "story"]
abbrev s_carry_out : Stmt := top 58
abbrev n_carry_out : List Str := ["scene", "lists", "index", "tick", "story", "word", "name", "_"]
abbrev p_carry_out : List Str := ["scene", "lists", "index", "tick", "story"]
abbrev s_change_tracks : Stmt := top 59
abbrev n_change_tracks : List Str := ["scene", "lists", "tick", "story", "index", "change"]
abbrev p_change_tracks : List Str := ["scene", "lists", "tick", "story"]
abbrev s_judge_leads : Stmt := top 60
abbrev n_judge_leads : List Str := ["scene", "lists", "tick", "story", "free", "index", "lead", "stop"]
abbrev p_judge_leads : List Str := ["scene", "lists", "tick", "story"]
abbrev s_state_after : Stmt := top 61
abbrev n_state_after : List Str := ["state", "tick", "lists", "story", "scene"]
abbrev p_state_after : List Str := ["state", "tick"]
abbrev s_moved_state : Stmt := top 62
abbrev n_moved_state : List Str := ["state", "target", "tick"]
abbrev p_moved_state : List Str := ["state", "target"]
abbrev s_Sound___init__ : Stmt := inClass (top 64) 0
abbrev n_Sound___init__ : List Str := ["self", "name", "grid"]
abbrev p_Sound___init__ : List Str := ["self", "name", "grid"]
abbrev s_Sound_words : Stmt := inClass (top 64) 1
abbrev n_Sound_words : List Str := ["self"]
abbrev p_Sound_words : List Str := ["self"]
abbrev s_Clip___init__ : Stmt := inClass (top 65) 1
abbrev n_Clip___init__ : List Str := ["self", "name", "grid", "length", "rounds", "guards", "__class__", "last", "guard"]
abbrev p_Clip___init__ : List Str := ["self", "name", "grid", "length", "rounds", "guards"]
abbrev s_Clip_span : Stmt := inClass (top 65) 2
abbrev n_Clip_span : List Str := ["self"]
abbrev p_Clip_span : List Str := ["self"]
abbrev s_Clip_words : Stmt := inClass (top 65) 3
abbrev n_Clip_words : List Str := ["self", "__class__", "found", "guard"]
abbrev p_Clip_words : List Str := ["self"]
abbrev s_Lead___init__ : Stmt := inClass (top 66) 1
abbrev n_Lead___init__ : List Str := ["self", "name", "grid", "length", "stops", "__class__", "known", "stop"]
abbrev p_Lead___init__ : List Str := ["self", "name", "grid", "length", "stops"]
abbrev s_Lead_words : Stmt := inClass (top 66) 2
abbrev n_Lead_words : List Str := ["self", "__class__", "found"]
abbrev p_Lead_words : List Str := ["self"]
abbrev s_next_state : Stmt := top 68
abbrev n_next_state : List Str := ["state", "lists", "story"]
abbrev p_next_state : List Str := ["state", "lists", "story"]
abbrev s_waiting_state : Stmt := top 69
abbrev n_waiting_state : List Str := ["state", "index", "change", "lists", "story", "old"]
abbrev p_waiting_state : List Str := ["state", "index", "change"]
abbrev s_pressed : Stmt := top 70
abbrev n_pressed : List Str := ["state", "name", "track", "clip", "index", "word", "due"]
abbrev p_pressed : List Str := ["state", "name"]
abbrev s_stopped : Stmt := top 71
abbrev n_stopped : List Str := ["state", "name", "index", "due"]
abbrev p_stopped : List Str := ["state", "name"]
abbrev s_held : Stmt := top 72
abbrev n_held : List Str := ["state", "name", "patience", "index", "bars", "first", "lists", "story"]
abbrev p_held : List Str := ["state", "name", "patience"]
abbrev s_advanced : Stmt := top 73
abbrev n_advanced : List Str := ["state", "ticks"]
abbrev p_advanced : List Str := ["state", "ticks"]
abbrev s_Desk___init__ : Stmt := inClass (top 75) 0
abbrev n_Desk___init__ : List Str := ["self", "stage", "now"]
abbrev p_Desk___init__ : List Str := ["self", "stage", "now"]
abbrev s_Desk__keep : Stmt := inClass (top 75) 1
abbrev n_Desk__keep : List Str := ["self", "state", "old"]
abbrev p_Desk__keep : List Str := ["self", "state"]
abbrev s_Desk_stage : Stmt := inClass (top 75) 2
abbrev n_Desk_stage : List Str := ["self"]
abbrev p_Desk_stage : List Str := ["self"]
abbrev s_Desk_now : Stmt := inClass (top 75) 3
abbrev n_Desk_now : List Str := ["self"]
abbrev p_Desk_now : List Str := ["self"]
abbrev s_Desk_armed : Stmt := inClass (top 75) 7
abbrev n_Desk_armed : List Str := ["self", "found", "track", "is_armed"]
abbrev p_Desk_armed : List Str := ["self"]
abbrev s_Desk___iter__ : Stmt := inClass (top 75) 9
abbrev n_Desk___iter__ : List Str := ["self"]
abbrev p_Desk___iter__ : List Str := ["self"]
abbrev s_Desk___contains__ : Stmt := inClass (top 75) 10
abbrev n_Desk___contains__ : List Str := ["self", "name"]
abbrev p_Desk___contains__ : List Str := ["self", "name"]
abbrev s_Desk___getitem__ : Stmt := inClass (top 75) 11
abbrev n_Desk___getitem__ : List Str := ["self", "name", "index", "entry", "track"]
abbrev p_Desk___getitem__ : List Str := ["self", "name"]
abbrev s_Desk___setitem__ : Stmt := inClass (top 75) 12
abbrev n_Desk___setitem__ : List Str := ["self", "name", "clip", "track"]
abbrev p_Desk___setitem__ : List Str := ["self", "name", "clip"]
abbrev s_Desk___iadd__ : Stmt := inClass (top 75) 13
abbrev n_Desk___iadd__ : List Str := ["self", "ticks"]
abbrev p_Desk___iadd__ : List Str := ["self", "ticks"]
abbrev s_Desk_press : Stmt := inClass (top 75) 14
abbrev n_Desk_press : List Str := ["self", "name", "state", "due"]
abbrev p_Desk_press : List Str := ["self", "name"]
abbrev s_Desk_stop : Stmt := inClass (top 75) 15
abbrev n_Desk_stop : List Str := ["self", "name", "state", "due"]
abbrev p_Desk_stop : List Str := ["self", "name"]
abbrev s_Desk_hold : Stmt := inClass (top 75) 16
abbrev n_Desk_hold : List Str := ["self", "name", "patience", "state", "tick"]
abbrev p_Desk_hold : List Str := ["self", "name", "patience"]
abbrev s_Desk_advance : Stmt := inClass (top 75) 19
abbrev n_Desk_advance : List Str := ["self", "ticks"]
abbrev p_Desk_advance : List Str := ["self", "ticks"]
abbrev s_Desk_undo : Stmt := inClass (top 75) 21
abbrev n_Desk_undo : List Str := ["self"]
abbrev p_Desk_undo : List Str := ["self"]
abbrev s_guarded_places : Stmt := top 77
abbrev n_guarded_places : List Str := ["clips", "found", "start", "clip", "turn", "first", "guard"]
abbrev p_guarded_places : List Str := ["clips"]
abbrev s_Track___init__ : Stmt := inClass (top 78) 1
abbrev n_Track___init__ : List Str := ["self", "name", "clips", "clip", "known"]
abbrev p_Track___init__ : List Str := ["self", "name", "clips"]
abbrev s_Track_empty : Stmt := inClass (top 78) 2
abbrev n_Track_empty : List Str := ["self"]
abbrev p_Track_empty : List Str := ["self"]
abbrev s_Track___iter__ : Stmt := inClass (top 78) 3
abbrev n_Track___iter__ : List Str := ["self"]
abbrev p_Track___iter__ : List Str := ["self"]
abbrev s_Track___contains__ : Stmt := inClass (top 78) 4
abbrev n_Track___contains__ : List Str := ["self", "name", "clip"]
abbrev p_Track___contains__ : List Str := ["self", "name"]
abbrev s_Track_clip_of : Stmt := inClass (top 78) 5
abbrev n_Track_clip_of : List Str := ["self", "name", "clip"]
abbrev p_Track_clip_of : List Str := ["self", "name"]
abbrev s_Track_start_of : Stmt := inClass (top 78) 6
abbrev n_Track_start_of : List Str := ["self", "name", "start", "clip"]
abbrev p_Track_start_of : List Str := ["self", "name"]
abbrev s_Track_where : Stmt := inClass (top 78) 8
abbrev n_Track_where : List Str := ["self", "place", "rest", "clip"]
abbrev p_Track_where : List Str := ["self", "place"]
abbrev s_read_length : Stmt := top 81
abbrev n_read_length : List Str := ["word"]
abbrev p_read_length : List Str := ["word"]
abbrev s_read_clip : Stmt := top 82
abbrev n_read_clip : List Str := ["words", "name", "grid", "length", "rest", "rounds", "guards", "word"]
abbrev p_read_clip : List Str := ["words"]
abbrev s_read_lead : Stmt := top 83
abbrev n_read_lead : List Str := ["words", "name", "grid", "length", "rest", "stops", "word"]
abbrev p_read_lead : List Str := ["words"]
abbrev s_read_line : Stmt := top 84
abbrev n_read_line : List Str := ["line", "tracks", "leads", "words"]
abbrev p_read_line : List Str := ["line", "tracks", "leads"]
abbrev s_read_parts : Stmt := top 85
abbrev n_read_parts : List Str := ["text", "tracks", "leads", "index", "line", "why", "name", "clips"]
abbrev p_read_parts : List Str := ["text"]
abbrev s_write_parts : Stmt := top 86
abbrev n_write_parts : List Str := ["tracks", "leads", "lines", "track", "clip", "lead"]
abbrev p_write_parts : List Str := ["tracks", "leads"]
abbrev s_check_names : Stmt := top 88
abbrev n_check_names : List Str := ["tracks", "leads", "names", "track", "known", "name", "lead", "clip"]
abbrev p_check_names : List Str := ["tracks", "leads"]
abbrev s_count_guards : Stmt := top 89
abbrev n_count_guards : List Str := ["tracks", "track", "clip"]
abbrev p_count_guards : List Str := ["tracks"]
abbrev s_Stage___init__ : Stmt := inClass (top 90) 4
abbrev n_Stage___init__ : List Str := ["self", "tracks", "leads", "names", "lead", "stop", "track"]
abbrev p_Stage___init__ : List Str := ["self", "tracks", "leads"]
abbrev s_Stage_read : Stmt := inClass (top 90) 5
abbrev n_Stage_read : List Str := ["cls", "text", "tracks", "leads"]
abbrev p_Stage_read : List Str := ["cls", "text"]
abbrev s_Stage_write : Stmt := inClass (top 90) 6
abbrev n_Stage_write : List Str := ["self"]
abbrev p_Stage_write : List Str := ["self"]
abbrev s_Stage_find_track : Stmt := inClass (top 90) 7
abbrev n_Stage_find_track : List Str := ["self", "name", "track"]
abbrev p_Stage_find_track : List Str := ["self", "name"]
abbrev s_Stage_find_lead : Stmt := inClass (top 90) 8
abbrev n_Stage_find_lead : List Str := ["self", "name", "lead"]
abbrev p_Stage_find_lead : List Str := ["self", "name"]
abbrev s_Stage_track_with : Stmt := inClass (top 90) 9
abbrev n_Stage_track_with : List Str := ["self", "name", "track"]
abbrev p_Stage_track_with : List Str := ["self", "name"]
abbrev s_Stage_find_clip : Stmt := inClass (top 90) 10
abbrev n_Stage_find_clip : List Str := ["self", "name"]
abbrev p_Stage_find_clip : List Str := ["self", "name"]
abbrev s_Stage_recorded : Stmt := inClass (top 90) 11
abbrev n_Stage_recorded : List Str := ["self", "name", "length", "clip", "guards", "made", "tracks", "track", "guard"]
abbrev p_Stage_recorded : List Str := ["self", "name", "length"]
abbrev s_Stage_without : Stmt := inClass (top 90) 12
abbrev n_Stage_without : List Str := ["self", "names", "name", "tracks", "leads", "lead", "stops", "track", "stop"]
abbrev p_Stage_without : List Str := ["self", "names"]
abbrev s__law_box : Stmt := top 92
abbrev n__law_box : List Str := ["_law_script", "_law_at", "_law_cell", "_law_salt", "_law_one"]
abbrev p__law_box : List Str := ["_law_script", "_law_at"]
abbrev s__law_draw : Stmt := top 93
abbrev n__law_draw : List Str := ["_law_box_here", "_law_many", "_law_found", "_law_total", "_law_turn", "_law_once", "_law_twice"]
abbrev p__law_draw : List Str := ["_law_box_here", "_law_many"]
abbrev s__law_int : Stmt := top 94
abbrev n__law_int : List Str := ["_law_x"]
abbrev p__law_int : List Str := ["_law_x"]
abbrev s__law_same : Stmt := top 95
abbrev n__law_same : List Str := ["_law_got", "_law_due", "_law_k"]
abbrev p__law_same : List Str := ["_law_got", "_law_due"]
abbrev s__law_kinds : Stmt := top 96
abbrev n__law_kinds : List Str := ["_law_e", "_law_found"]
abbrev p__law_kinds : List Str := ["_law_e"]
abbrev s__law_alone : Stmt := top 97
abbrev n__law_alone : List Str := ["_law_nth", "_law_k"]
abbrev p__law_alone : List Str := ["_law_nth"]
abbrev s__law_undone : Stmt := top 98
abbrev n__law_undone : List Str := ["_law_begin", "_law_told", "_law_e"]
abbrev p__law_undone : List Str := ["_law_begin"]
abbrev s_law : Stmt := top 99
abbrev n_law : List Str := ["_law_script", "_law_box_here", "_law_word", "_law_value", "_law_one", "_law_two", "_law_many", "_law_apart", "_law_rows", "_law_k", "_law_names", "_law_sizes"]
abbrev p_law : List Str := ["_law_script"]
abbrev FnP (K : PySem.W.Frag) (x : Str) (st : Stmt) (f : Addr) (fd : FuncData) : Prop := FunD K x x (defArgs st) (defBody st) (defScope st) [] [] f fd
def clFile : Str := "/claim/cut.py"
/-! the kinds of errors -/
def kn81 : List Str := ["BadName", "BadNumber", "BadWord", "BadLine", "BadSetting", "TooMany", "NoClips", "Twice", "Unknown", "EmptyClip", "NotEmpty", "NotArmed", "NotHeld", "OffGrid", "Apart", "NothingToUndo"]
def kx81 (K : PySem.W.Frag) (i : Nat) : Addr := ga K (kn81.getD i "")
def KC (K : PySem.W.Frag) (C : Addr) (i : Nat) : Prop := (∀ j, j < 16 → PySem.W.kitOne K (.ref C) (.ref (kx81 K j)) = some (decide (i = j))) ∧ PySem.W.kitOne K (.ref C) (.ref (ga K "BarclipsError")) = some true ∧ PySem.W.kitOne K (.ref C) (.type "ValueError") = some true
def ktB (K : PySem.W.Frag) : Bool := (List.range 16).all fun i => ((List.range 16).all fun j => decide (PySem.W.kitOne K (.ref (kx81 K i)) (.ref (kx81 K j)) = some (decide (i = j)))) && (decide (PySem.W.kitOne K (.ref (kx81 K i)) (.ref (ga K "BarclipsError")) = some true) && decide (PySem.W.kitOne K (.ref (kx81 K i)) (.type "ValueError") = some true))
theorem ktB_ok {K : PySem.W.Frag} (h : ktB K = true) (i : Nat) (hi : i < 16) : KC K (kx81 K i) i := by
  have h1 := List.all_eq_true.mp h i (List.mem_range.mpr hi)
  obtain ⟨h2, h3⟩ := ba h1
  obtain ⟨h4, h5⟩ := ba h3
  exact ⟨fun j hj => of_decide_eq_true (List.all_eq_true.mp h2 j (List.mem_range.mpr hj)), of_decide_eq_true h4, of_decide_eq_true h5⟩
structure Txt (P : Program) (K : PySem.W.Frag) (mg : Str → Option Value) : Prop where
  hfl : ((P.main.file : Str) == clFile) = true
  htop : (P.main.scope.names.lookup ("super" : Str)).isSome = false
  c_Desk : Cls K (ga K "Desk")
  c_Grid : Cls K (ga K "Grid")
  c_Lists : Cls K (ga K "Lists")
  c_Stage : Cls K (ga K "Stage")
  c_State : Cls K (ga K "State")
  cl_Apart : ∃ cd, PySem.W.clsIn K (ga K "Apart") = some cd
  cl_BadLine : ∃ cd, PySem.W.clsIn K (ga K "BadLine") = some cd
  cl_BadName : ∃ cd, PySem.W.clsIn K (ga K "BadName") = some cd
  cl_BadNumber : ∃ cd, PySem.W.clsIn K (ga K "BadNumber") = some cd
  cl_BadSetting : ∃ cd, PySem.W.clsIn K (ga K "BadSetting") = some cd
  cl_BadWord : ∃ cd, PySem.W.clsIn K (ga K "BadWord") = some cd
  cl_EmptyClip : ∃ cd, PySem.W.clsIn K (ga K "EmptyClip") = some cd
  cl_NoClips : ∃ cd, PySem.W.clsIn K (ga K "NoClips") = some cd
  cl_NotArmed : ∃ cd, PySem.W.clsIn K (ga K "NotArmed") = some cd
  cl_NotEmpty : ∃ cd, PySem.W.clsIn K (ga K "NotEmpty") = some cd
  cl_NotHeld : ∃ cd, PySem.W.clsIn K (ga K "NotHeld") = some cd
  cl_OffGrid : ∃ cd, PySem.W.clsIn K (ga K "OffGrid") = some cd
  cl_TooMany : ∃ cd, PySem.W.clsIn K (ga K "TooMany") = some cd
  cl_Twice : ∃ cd, PySem.W.clsIn K (ga K "Twice") = some cd
  cl_Unknown : ∃ cd, PySem.W.clsIn K (ga K "Unknown") = some cd
  con_Stage_CLIPS : ∃ u, Con K (ga K "Stage") "CLIPS" (.int 8) u
  con_Stage_GUARDS : ∃ u, Con K (ga K "Stage") "GUARDS" (.int 6) u
  con_Stage_LEADS : ∃ u, Con K (ga K "Stage") "LEADS" (.int 4) u
  con_Stage_TRACKS : ∃ u, Con K (ga K "Stage") "TRACKS" (.int 6) u
  emt_NothingToUndo_NothingToUndo : PySem.W.exmOne K (.ref (ga K "NothingToUndo")) (.ref (ga K "NothingToUndo")) = some true
  f_ValueError : mg "ValueError" = none
  f_abs : mg "abs" = none
  f_bool : mg "bool" = none
  f_int : mg "int" = none
  f_isinstance : mg "isinstance" = none
  f_len : mg "len" = none
  f_list : mg "list" = none
  f_range : mg "range" = none
  f_set : mg "set" = none
  f_str : mg "str" = none
  f_sum : mg "sum" = none
  f_super : mg "super" = none
  f_tuple : mg "tuple" = none
  it_Grid : InsT K (ga K "Grid")
  m_Apart : mg "Apart" = some (.ref (ga K "Apart"))
  m_BadLine : mg "BadLine" = some (.ref (ga K "BadLine"))
  m_BadName : mg "BadName" = some (.ref (ga K "BadName"))
  m_BadNumber : mg "BadNumber" = some (.ref (ga K "BadNumber"))
  m_BadSetting : mg "BadSetting" = some (.ref (ga K "BadSetting"))
  m_BadWord : mg "BadWord" = some (.ref (ga K "BadWord"))
  m_BarclipsError : mg "BarclipsError" = some (.ref (ga K "BarclipsError"))
  m_Desk : mg "Desk" = some (.ref (ga K "Desk"))
  m_EmptyClip : mg "EmptyClip" = some (.ref (ga K "EmptyClip"))
  m_Grid : mg "Grid" = some (.ref (ga K "Grid"))
  m_Lists : mg "Lists" = some (.ref (ga K "Lists"))
  m_NoClips : mg "NoClips" = some (.ref (ga K "NoClips"))
  m_NotArmed : mg "NotArmed" = some (.ref (ga K "NotArmed"))
  m_NotEmpty : mg "NotEmpty" = some (.ref (ga K "NotEmpty"))
  m_NotHeld : mg "NotHeld" = some (.ref (ga K "NotHeld"))
  m_NothingToUndo : mg "NothingToUndo" = some (.ref (ga K "NothingToUndo"))
  m_OffGrid : mg "OffGrid" = some (.ref (ga K "OffGrid"))
  m_Stage : mg "Stage" = some (.ref (ga K "Stage"))
  m_State : mg "State" = some (.ref (ga K "State"))
  m_TooMany : mg "TooMany" = some (.ref (ga K "TooMany"))
  m_Twice : mg "Twice" = some (.ref (ga K "Twice"))
  m_Unknown : mg "Unknown" = some (.ref (ga K "Unknown"))
  m__law_alone : mg "_law_alone" = some (.ref (ga K "_law_alone"))
  m__law_box : mg "_law_box" = some (.ref (ga K "_law_box"))
  m__law_draw : mg "_law_draw" = some (.ref (ga K "_law_draw"))
  m__law_int : mg "_law_int" = some (.ref (ga K "_law_int"))
  m__law_kinds : mg "_law_kinds" = some (.ref (ga K "_law_kinds"))
  m__law_same : mg "_law_same" = some (.ref (ga K "_law_same"))
  m__law_undone : mg "_law_undone" = some (.ref (ga K "_law_undone"))
  m_check_names : mg "check_names" = some (.ref (ga K "check_names"))
  m_count_guards : mg "count_guards" = some (.ref (ga K "count_guards"))
  m_first_state : mg "first_state" = some (.ref (ga K "first_state"))
  m_law : mg "law" = some (.ref (ga K "law"))
  mk_Desk : Mk K (ga K "Desk") (ma K (ga K "Desk") "__init__")
  mk_Grid : Mk K (ga K "Grid") (ma K (ga K "Grid") "__init__")
  mk_Lists : Mk K (ga K "Lists") (ma K (ga K "Lists") "__init__")
  mk_Stage : Mk K (ga K "Stage") (ma K (ga K "Stage") "__init__")
  mk_State : Mk K (ga K "State") (ma K (ga K "State") "__init__")
  mt_Desk_undo : Meth K (ga K "Desk") "undo" (ma K (ga K "Desk") "undo")
  mt_Grid___eq__ : Meth K (ga K "Grid") "__eq__" (ma K (ga K "Grid") "__eq__")
  na_Desk_past : NoAttr K (ga K "Desk") "past"
  na_Desk_state : NoAttr K (ga K "Desk") "state"
  na_Grid_offset : NoAttr K (ga K "Grid") "offset"
  na_Grid_step : NoAttr K (ga K "Grid") "step"
  na_Lists_arming : NoAttr K (ga K "Lists") "arming"
  na_Lists_begun : NoAttr K (ga K "Lists") "begun"
  na_Lists_changes : NoAttr K (ga K "Lists") "changes"
  na_Lists_kept : NoAttr K (ga K "Lists") "kept"
  na_Lists_settled : NoAttr K (ga K "Lists") "settled"
  na_Lists_taping : NoAttr K (ga K "Lists") "taping"
  na_Stage_leads : NoAttr K (ga K "Stage") "leads"
  na_Stage_tracks : NoAttr K (ga K "Stage") "tracks"
  na_State_clock : NoAttr K (ga K "State") "clock"
  na_State_lists : NoAttr K (ga K "State") "lists"
  na_State_scene : NoAttr K (ga K "State") "scene"
  na_State_story : NoAttr K (ga K "State") "story"
  nf_Apart_first : PySem.W.findIn K (.ref (ga K "Apart")) "first" = some none
  nf_Apart_second : PySem.W.findIn K (.ref (ga K "Apart")) "second" = some none
  nf_BadLine_number : PySem.W.findIn K (.ref (ga K "BadLine")) "number" = some none
  nf_BadName_name : PySem.W.findIn K (.ref (ga K "BadName")) "name" = some none
  nf_BadNumber_value : PySem.W.findIn K (.ref (ga K "BadNumber")) "value" = some none
  nf_BadSetting_size : PySem.W.findIn K (.ref (ga K "BadSetting")) "size" = some none
  nf_BadWord_word : PySem.W.findIn K (.ref (ga K "BadWord")) "word" = some none
  nf_EmptyClip_name : PySem.W.findIn K (.ref (ga K "EmptyClip")) "name" = some none
  nf_NoClips_name : PySem.W.findIn K (.ref (ga K "NoClips")) "name" = some none
  nf_NotArmed_name : PySem.W.findIn K (.ref (ga K "NotArmed")) "name" = some none
  nf_NotEmpty_name : PySem.W.findIn K (.ref (ga K "NotEmpty")) "name" = some none
  nf_NotHeld_name : PySem.W.findIn K (.ref (ga K "NotHeld")) "name" = some none
  nf_OffGrid_tick : PySem.W.findIn K (.ref (ga K "OffGrid")) "tick" = some none
  nf_TooMany_kind : PySem.W.findIn K (.ref (ga K "TooMany")) "kind" = some none
  nf_TooMany_most : PySem.W.findIn K (.ref (ga K "TooMany")) "most" = some none
  nf_Twice_name : PySem.W.findIn K (.ref (ga K "Twice")) "name" = some none
  nf_Unknown_name : PySem.W.findIn K (.ref (ga K "Unknown")) "name" = some none
  tu0_Stage___init___0 : ∀ H : Hp, SqT K H (dflAt ("Stage", some "__init__") 0 K) []
  x_Apart : ExcK K (ga K "Apart")
  x_BadLine : ExcK K (ga K "BadLine")
  x_BadName : ExcK K (ga K "BadName")
  x_BadNumber : ExcK K (ga K "BadNumber")
  x_BadSetting : ExcK K (ga K "BadSetting")
  x_BadWord : ExcK K (ga K "BadWord")
  x_EmptyClip : ExcK K (ga K "EmptyClip")
  x_NoClips : ExcK K (ga K "NoClips")
  x_NotArmed : ExcK K (ga K "NotArmed")
  x_NotEmpty : ExcK K (ga K "NotEmpty")
  x_NotHeld : ExcK K (ga K "NotHeld")
  x_NothingToUndo : ExcK K (ga K "NothingToUndo")
  x_OffGrid : ExcK K (ga K "OffGrid")
  x_TooMany : ExcK K (ga K "TooMany")
  x_Twice : ExcK K (ga K "Twice")
  x_Unknown : ExcK K (ga K "Unknown")
  xb_NothingToUndo : PySem.W.excIn K (ga K "NothingToUndo") veBase "ValueError.__new__" = true ∧ PySem.W.keepIn K (.ref (ga K "NothingToUndo")) = true ∧ PySem.W.subIn K (.ref (ga K "NothingToUndo")) (.type "BaseException") = some true ∧ PySem.W.typeIn K (.ref (ga K "NothingToUndo")) = some (.type "type")
  xi_Apart : PySem.W.findIn K (.ref (ga K "Apart")) "__init__" = some (some (.ref (ma K (ga K "Apart") "__init__")))
  xi_BadLine : PySem.W.findIn K (.ref (ga K "BadLine")) "__init__" = some (some (.ref (ma K (ga K "BadLine") "__init__")))
  xi_BadName : PySem.W.findIn K (.ref (ga K "BadName")) "__init__" = some (some (.ref (ma K (ga K "BadName") "__init__")))
  xi_BadNumber : PySem.W.findIn K (.ref (ga K "BadNumber")) "__init__" = some (some (.ref (ma K (ga K "BadNumber") "__init__")))
  xi_BadSetting : PySem.W.findIn K (.ref (ga K "BadSetting")) "__init__" = some (some (.ref (ma K (ga K "BadSetting") "__init__")))
  xi_BadWord : PySem.W.findIn K (.ref (ga K "BadWord")) "__init__" = some (some (.ref (ma K (ga K "BadWord") "__init__")))
  xi_EmptyClip : PySem.W.findIn K (.ref (ga K "EmptyClip")) "__init__" = some (some (.ref (ma K (ga K "EmptyClip") "__init__")))
  xi_NoClips : PySem.W.findIn K (.ref (ga K "NoClips")) "__init__" = some (some (.ref (ma K (ga K "NoClips") "__init__")))
  xi_NotArmed : PySem.W.findIn K (.ref (ga K "NotArmed")) "__init__" = some (some (.ref (ma K (ga K "NotArmed") "__init__")))
  xi_NotEmpty : PySem.W.findIn K (.ref (ga K "NotEmpty")) "__init__" = some (some (.ref (ma K (ga K "NotEmpty") "__init__")))
  xi_NotHeld : PySem.W.findIn K (.ref (ga K "NotHeld")) "__init__" = some (some (.ref (ma K (ga K "NotHeld") "__init__")))
  xi_OffGrid : PySem.W.findIn K (.ref (ga K "OffGrid")) "__init__" = some (some (.ref (ma K (ga K "OffGrid") "__init__")))
  xi_TooMany : PySem.W.findIn K (.ref (ga K "TooMany")) "__init__" = some (some (.ref (ma K (ga K "TooMany") "__init__")))
  xi_Twice : PySem.W.findIn K (.ref (ga K "Twice")) "__init__" = some (some (.ref (ma K (ga K "Twice") "__init__")))
  xi_Unknown : PySem.W.findIn K (.ref (ga K "Unknown")) "__init__" = some (some (.ref (ma K (ga K "Unknown") "__init__")))
  xt_Apart : PySem.W.typeIn K (.ref (ma K (ga K "Apart") "__init__")) = some (.type "function")
  xt_BadLine : PySem.W.typeIn K (.ref (ma K (ga K "BadLine") "__init__")) = some (.type "function")
  xt_BadName : PySem.W.typeIn K (.ref (ma K (ga K "BadName") "__init__")) = some (.type "function")
  xt_BadNumber : PySem.W.typeIn K (.ref (ma K (ga K "BadNumber") "__init__")) = some (.type "function")
  xt_BadSetting : PySem.W.typeIn K (.ref (ma K (ga K "BadSetting") "__init__")) = some (.type "function")
  xt_BadWord : PySem.W.typeIn K (.ref (ma K (ga K "BadWord") "__init__")) = some (.type "function")
  xt_EmptyClip : PySem.W.typeIn K (.ref (ma K (ga K "EmptyClip") "__init__")) = some (.type "function")
  xt_NoClips : PySem.W.typeIn K (.ref (ma K (ga K "NoClips") "__init__")) = some (.type "function")
  xt_NotArmed : PySem.W.typeIn K (.ref (ma K (ga K "NotArmed") "__init__")) = some (.type "function")
  xt_NotEmpty : PySem.W.typeIn K (.ref (ma K (ga K "NotEmpty") "__init__")) = some (.type "function")
  xt_NotHeld : PySem.W.typeIn K (.ref (ma K (ga K "NotHeld") "__init__")) = some (.type "function")
  xt_OffGrid : PySem.W.typeIn K (.ref (ma K (ga K "OffGrid") "__init__")) = some (.type "function")
  xt_TooMany : PySem.W.typeIn K (.ref (ma K (ga K "TooMany") "__init__")) = some (.type "function")
  xt_Twice : PySem.W.typeIn K (.ref (ma K (ga K "Twice") "__init__")) = some (.type "function")
  xt_Unknown : PySem.W.typeIn K (.ref (ma K (ga K "Unknown") "__init__")) = some (.type "function")
  opq_ : PySem.W.nsIn K cStatics "thirdparty.any" = some none
  kt : ∀ i, i < 16 → KC K (kx81 K i) i
  d__law_alone : ∃ fd, FunD K "_law_alone" "_law_alone" (defArgs s__law_alone) (defBody s__law_alone) (defScope s__law_alone) [] [] (ga K "_law_alone") fd
  d__law_box : ∃ fd, FunD K "_law_box" "_law_box" (defArgs s__law_box) (defBody s__law_box) (defScope s__law_box) [] [] (ga K "_law_box") fd
  d__law_draw : ∃ fd, FunD K "_law_draw" "_law_draw" (defArgs s__law_draw) (defBody s__law_draw) (defScope s__law_draw) [] [] (ga K "_law_draw") fd
  d__law_int : ∃ fd, FunD K "_law_int" "_law_int" (defArgs s__law_int) (defBody s__law_int) (defScope s__law_int) [] [] (ga K "_law_int") fd
  d__law_kinds : ∃ fd, FunD K "_law_kinds" "_law_kinds" (defArgs s__law_kinds) (defBody s__law_kinds) (defScope s__law_kinds) [] [] (ga K "_law_kinds") fd
  d__law_same : ∃ fd, FunD K "_law_same" "_law_same" (defArgs s__law_same) (defBody s__law_same) (defScope s__law_same) [] [] (ga K "_law_same") fd
  d__law_undone : ∃ fd, FunD K "_law_undone" "_law_undone" (defArgs s__law_undone) (defBody s__law_undone) (defScope s__law_undone) [] [] (ga K "_law_undone") fd
  d_check_names : ∃ fd, FunD K "check_names" "check_names" (defArgs s_check_names) (defBody s_check_names) (defScope s_check_names) [] [] (ga K "check_names") fd
  d_count_guards : ∃ fd, FunD K "count_guards" "count_guards" (defArgs s_count_guards) (defBody s_count_guards) (defScope s_count_guards) [] [] (ga K "count_guards") fd
  d_first_state : ∃ fd, FunD K "first_state" "first_state" (defArgs s_first_state) (defBody s_first_state) (defScope s_first_state) [] [] (ga K "first_state") fd
  d_law : ∃ fd, FunD K "law" "law" (defArgs s_law) (defBody s_law) (defScope s_law) [] [] (ga K "law") fd
  dm_Desk___init__ : ∃ fd, FunD K "__init__" "Desk.__init__" (defArgs s_Desk___init__) (defBody s_Desk___init__) (defScope s_Desk___init__) [.int 0] [] (ma K (ga K "Desk") "__init__") fd
  dm_Desk_undo : ∃ fd, FunD K "undo" "Desk.undo" (defArgs s_Desk_undo) (defBody s_Desk_undo) (defScope s_Desk_undo) [] [] (ma K (ga K "Desk") "undo") fd
  dm_Grid___eq__ : ∃ fd, FunD K "__eq__" "Grid.__eq__" (defArgs s_Grid___eq__) (defBody s_Grid___eq__) (defScope s_Grid___eq__) [] [] (ma K (ga K "Grid") "__eq__") fd
  dm_Grid___init__ : ∃ fd, FunD K "__init__" "Grid.__init__" (defArgs s_Grid___init__) (defBody s_Grid___init__) (defScope s_Grid___init__) [.int 0] [] (ma K (ga K "Grid") "__init__") fd
  dm_Lists___init__ : ∃ fd, FunD K "__init__" "Lists.__init__" (defArgs s_Lists___init__) (defBody s_Lists___init__) (defScope s_Lists___init__) [] [] (ma K (ga K "Lists") "__init__") fd
  dm_Stage___init__ : ∃ fd, FunD K "__init__" "Stage.__init__" (defArgs s_Stage___init__) (defBody s_Stage___init__) (defScope s_Stage___init__) [.ref (dflAt ("Stage", some "__init__") 0 K)] [] (ma K (ga K "Stage") "__init__") fd
  dm_State___init__ : ∃ fd, FunD K "__init__" "State.__init__" (defArgs s_State___init__) (defBody s_State___init__) (defScope s_State___init__) [] [] (ma K (ga K "State") "__init__") fd
  ds_Apart___init__ : ∃ fd, FunS K clFile "__init__" "Apart.__init__" (defArgs s_Apart___init__) (defBody s_Apart___init__) (defScope s_Apart___init__) [] [] (ga K "Apart") (ma K (ga K "Apart") "__init__") fd
  ds_BadLine___init__ : ∃ fd, FunS K clFile "__init__" "BadLine.__init__" (defArgs s_BadLine___init__) (defBody s_BadLine___init__) (defScope s_BadLine___init__) [] [] (ga K "BadLine") (ma K (ga K "BadLine") "__init__") fd
  ds_BadName___init__ : ∃ fd, FunS K clFile "__init__" "BadName.__init__" (defArgs s_BadName___init__) (defBody s_BadName___init__) (defScope s_BadName___init__) [] [] (ga K "BadName") (ma K (ga K "BadName") "__init__") fd
  ds_BadNumber___init__ : ∃ fd, FunS K clFile "__init__" "BadNumber.__init__" (defArgs s_BadNumber___init__) (defBody s_BadNumber___init__) (defScope s_BadNumber___init__) [] [] (ga K "BadNumber") (ma K (ga K "BadNumber") "__init__") fd
  ds_BadSetting___init__ : ∃ fd, FunS K clFile "__init__" "BadSetting.__init__" (defArgs s_BadSetting___init__) (defBody s_BadSetting___init__) (defScope s_BadSetting___init__) [] [] (ga K "BadSetting") (ma K (ga K "BadSetting") "__init__") fd
  ds_BadWord___init__ : ∃ fd, FunS K clFile "__init__" "BadWord.__init__" (defArgs s_BadWord___init__) (defBody s_BadWord___init__) (defScope s_BadWord___init__) [] [] (ga K "BadWord") (ma K (ga K "BadWord") "__init__") fd
  ds_EmptyClip___init__ : ∃ fd, FunS K clFile "__init__" "EmptyClip.__init__" (defArgs s_EmptyClip___init__) (defBody s_EmptyClip___init__) (defScope s_EmptyClip___init__) [] [] (ga K "EmptyClip") (ma K (ga K "EmptyClip") "__init__") fd
  ds_NoClips___init__ : ∃ fd, FunS K clFile "__init__" "NoClips.__init__" (defArgs s_NoClips___init__) (defBody s_NoClips___init__) (defScope s_NoClips___init__) [] [] (ga K "NoClips") (ma K (ga K "NoClips") "__init__") fd
  ds_NotArmed___init__ : ∃ fd, FunS K clFile "__init__" "NotArmed.__init__" (defArgs s_NotArmed___init__) (defBody s_NotArmed___init__) (defScope s_NotArmed___init__) [] [] (ga K "NotArmed") (ma K (ga K "NotArmed") "__init__") fd
  ds_NotEmpty___init__ : ∃ fd, FunS K clFile "__init__" "NotEmpty.__init__" (defArgs s_NotEmpty___init__) (defBody s_NotEmpty___init__) (defScope s_NotEmpty___init__) [] [] (ga K "NotEmpty") (ma K (ga K "NotEmpty") "__init__") fd
  ds_NotHeld___init__ : ∃ fd, FunS K clFile "__init__" "NotHeld.__init__" (defArgs s_NotHeld___init__) (defBody s_NotHeld___init__) (defScope s_NotHeld___init__) [] [] (ga K "NotHeld") (ma K (ga K "NotHeld") "__init__") fd
  ds_OffGrid___init__ : ∃ fd, FunS K clFile "__init__" "OffGrid.__init__" (defArgs s_OffGrid___init__) (defBody s_OffGrid___init__) (defScope s_OffGrid___init__) [] [] (ga K "OffGrid") (ma K (ga K "OffGrid") "__init__") fd
  ds_TooMany___init__ : ∃ fd, FunS K clFile "__init__" "TooMany.__init__" (defArgs s_TooMany___init__) (defBody s_TooMany___init__) (defScope s_TooMany___init__) [] [] (ga K "TooMany") (ma K (ga K "TooMany") "__init__") fd
  ds_Twice___init__ : ∃ fd, FunS K clFile "__init__" "Twice.__init__" (defArgs s_Twice___init__) (defBody s_Twice___init__) (defScope s_Twice___init__) [] [] (ga K "Twice") (ma K (ga K "Twice") "__init__") fd
  ds_Unknown___init__ : ∃ fd, FunS K clFile "__init__" "Unknown.__init__" (defArgs s_Unknown___init__) (defBody s_Unknown___init__) (defScope s_Unknown___init__) [] [] (ga K "Unknown") (ma K (ga K "Unknown") "__init__") fd
end Lw
local macro_rules | `(tactic| walk_at "as") => `(tactic| with_reducible assumption)
local macro_rules | `(tactic| walk_at "hp") => `(tactic| first
  | walk_at "as"
  | (with_reducible exact L2.upd_same)
  | ((with_reducible refine Bx.up_old ?_ ?n); (case n => walk_at "as"); walk_at "hp")
  | ((with_reducible refine L2.Same.get (H := ?H0) ?s ?_); (case s => walk_at "as"); walk_at "hp")
  | exact L2.upd_same)
local macro_rules | `(tactic| walk_at "rd1") => `(tactic| first
  | (with_reducible refine Bx.r_seq ?_)
  | (with_reducible refine Bx.r_asg ?_)
  | ((with_reducible refine Bx.a_nset (σ' := ?s) ?e ?_); (case e => walk_at "set"))
  | (with_reducible refine Bx.r_asgS ?_)
  | (with_reducible refine Bx.r_ret ?_)
  | (with_reducible refine Bx.r_retN ?_)
  | (with_reducible refine Bx.r_next ?_)
  | (with_reducible refine Bx.r_drop ?_)
  | (with_reducible refine Bx.r_ifS ?_)
  | ((with_reducible refine Bx.r_var (v := ?v) ?h ?_); (case h => rfl))
  | (with_reducible refine Bx.r_c ?_)
  | (with_reducible refine Bx.r_op ?_)
  | (with_reducible refine Bx.r_un ?_)
  | (with_reducible refine Bx.r_nil ?_)
  | (with_reducible refine Bx.r_cons ?_)
  | (with_reducible refine Bx.r_CB ?_)
  | (with_reducible refine Bx.r_call ?_)
  | (with_reducible refine Bx.r_test ?_)
  | (with_reducible refine Bx.r_B ?_)
  | (with_reducible refine Bx.r_k ?_)
  | (with_reducible refine Bx.r_and ?_)
  | (with_reducible refine Bx.r_or ?_)
  | (with_reducible refine Bx.r_not ?_)
  | (with_reducible refine Bx.r_andV ?_)
  | (with_reducible refine Bx.r_orV ?_)
  | (with_reducible refine Bx.r_notV ?_)
  | (with_reducible refine Bx.r_if ?_)
  | (with_reducible refine Bx.r_lst ?_)
  | (with_reducible refine Bx.r_tup ?_)
  | (with_reducible refine Bx.r_for ?_)
  | (with_reducible refine Bx.r_iL ?_)
  | (with_reducible refine Bx.r_iT ?_)
  | (with_reducible refine Bx.r_iR1 ?_)
  | (with_reducible refine Bx.r_iR2 ?_)
  | ((with_reducible refine Bx.a_iL (xs := ?xs) ?h ?_); (case h => first | walk_at "as" | exact L2.SqL.of (by walk_at "as")))
  | ((with_reducible refine Bx.a_iT (xs := ?xs) ?h ?_); (case h => first | walk_at "as" | exact L2.SqT.of (by walk_at "as")))
  | ((with_reducible refine Bx.a_ixL (xs := ?xs) (j := ?j) (v := ?w) ?h ?e ?v ?_); (case h => first | walk_at "as" | exact L2.SqL.of (by walk_at "as")); (case e => exact rfl); (case v => rfl))
  | ((with_reducible refine Bx.a_ixT (xs := ?xs) (j := ?j) (v := ?w) ?h ?e ?v ?_); (case h => first | walk_at "as" | exact L2.SqT.of (by walk_at "as")); (case e => exact rfl); (case v => rfl))
  | (with_reducible refine Bx.r_sl ?_)
  | (with_reducible refine Bx.r_no ?_)
  | (with_reducible refine Bx.r_part ?_)
  | (with_reducible refine Bx.r_pi ?_)
  | (with_reducible refine Bx.a_add ?_)
  | (with_reducible refine Bx.a_sub ?_)
  | (with_reducible refine Bx.a_mulR (by decide) (by decide) ?_)
  | (with_reducible refine Bx.a_mulL (by decide) (by decide) ?_)
  | (with_reducible refine Bx.a_mod (by decide) ?_)
  | (with_reducible refine Bx.a_div (by decide) (by decide) ?_)
  | ((with_reducible refine Bx.a_pow ?h ?_); (case h => exact ⟨by decide, by decide, by decide⟩))
  | (with_reducible refine Bx.a_lt ?_)
  | (with_reducible refine Bx.a_le ?_)
  | (with_reducible refine Bx.a_gt ?_)
  | (with_reducible refine Bx.a_ge ?_)
  | (with_reducible refine Bx.a_eq ?_)
  | (with_reducible refine Bx.a_eqS ?_)
  | (with_reducible refine Bx.a_eqB ?_)
  | (with_reducible refine Bx.a_ne ?_)
  | (with_reducible refine Bx.a_neS ?_)
  | (with_reducible refine Bx.a_neB ?_)
  | (with_reducible refine Bx.a_is ?_)
  | (with_reducible refine Bx.a_isn ?_)
  | (with_reducible refine Bx.is_NoneType_bool ?_)
  | (with_reducible refine Bx.is_NoneType_int ?_)
  | (with_reducible refine Bx.is_NoneType_str ?_)
  | (with_reducible refine Bx.is_NoneType_list ?_)
  | (with_reducible refine Bx.is_NoneType_tuple ?_)
  | (with_reducible refine Bx.is_bool_bool ?_)
  | (with_reducible refine Bx.is_bool_int ?_)
  | (with_reducible refine Bx.is_bool_str ?_)
  | (with_reducible refine Bx.is_bool_list ?_)
  | (with_reducible refine Bx.is_bool_tuple ?_)
  | (with_reducible refine Bx.is_int_bool ?_)
  | (with_reducible refine Bx.is_int_int ?_)
  | (with_reducible refine Bx.is_int_str ?_)
  | (with_reducible refine Bx.is_int_list ?_)
  | (with_reducible refine Bx.is_int_tuple ?_)
  | (with_reducible refine Bx.is_str_bool ?_)
  | (with_reducible refine Bx.is_str_int ?_)
  | (with_reducible refine Bx.is_str_str ?_)
  | (with_reducible refine Bx.is_str_list ?_)
  | (with_reducible refine Bx.is_str_tuple ?_)
  | ((with_reducible refine Bx.is_list_bool (xs := ?xs) ?h ?_); (case h => walk_at "as"))
  | ((with_reducible refine Bx.is_list_int (xs := ?xs) ?h ?_); (case h => walk_at "as"))
  | ((with_reducible refine Bx.is_list_str (xs := ?xs) ?h ?_); (case h => walk_at "as"))
  | ((with_reducible refine Bx.is_list_list (xs := ?xs) ?h ?_); (case h => walk_at "as"))
  | ((with_reducible refine Bx.is_list_tuple (xs := ?xs) ?h ?_); (case h => walk_at "as"))
  | ((with_reducible refine Bx.is_tuple_bool (xs := ?xs) ?h ?_); (case h => walk_at "as"))
  | ((with_reducible refine Bx.is_tuple_int (xs := ?xs) ?h ?_); (case h => walk_at "as"))
  | ((with_reducible refine Bx.is_tuple_str (xs := ?xs) ?h ?_); (case h => walk_at "as"))
  | ((with_reducible refine Bx.is_tuple_list (xs := ?xs) ?h ?_); (case h => walk_at "as"))
  | ((with_reducible refine Bx.is_tuple_tuple (xs := ?xs) ?h ?_); (case h => walk_at "as"))
  | (with_reducible refine Bx.brT rfl ?_)
  | (with_reducible refine Bx.brF rfl ?_)
  | (with_reducible refine Bx.r_fld ?_)
  | (with_reducible refine Bx.r_con ?_)
  | (with_reducible refine Bx.r_put ?_)
  | ((with_reducible refine Bx.a_fld (C := ?C) (dx := ?dx) (fs := ?fs) (v := ?v) ?h ?c ?n ?e ?_); (case h => walk_at "hp"); (case c => walk_at "as"); (case n => walk_at "as"); (case e => rfl))
  | ((with_reducible refine Bx.a_con (C := ?C) (dx := ?dx) (fs := ?fs) (v := ?v) ?h ?c ?k ?e ?_); (case h => walk_at "hp"); (case c => walk_at "as"); (case k => walk_at "as"); (case e => rfl))
  | ((with_reducible refine Bx.a_put (C := ?C) (dx := ?dx) (fs := ?fs) ?h ?c ?n ?l ?_); (case h => walk_at "hp"); (case c => walk_at "as"); (case n => walk_at "as"); (case l => exact Nat.le_of_ble_eq_true rfl))
  | (with_reducible refine Bx.r_mk ?_)
  | (with_reducible refine Bx.r_SC ?_)
  | (with_reducible refine Bx.r_SK ?_)
  | (with_reducible refine Bx.r_SM ?_)
  | (with_reducible refine Bx.r_xv ?_)
  | (with_reducible refine Bx.r_xf ?_)
  | (with_reducible refine Bx.r_bm ?_)
  | (with_reducible refine Bx.r_bm0 ?_)
  | ((with_reducible refine Bx.a_TL (xs := ?xs) ?h ?_); (case h => walk_at "hp"))
  | (with_reducible refine Bx.a_TS ?_)
  | (with_reducible refine Bx.r_lc ?_)
  | (with_reducible refine Bx.a_abs ?_)
  | (with_reducible refine Bx.a_int ?_)
  | ((with_reducible refine Bx.a_lenL (xs := ?xs) ?h ?_); (case h => first | walk_at "as" | exact L2.SqL.of (by walk_at "as")))
  | ((with_reducible refine Bx.a_lenT (xs := ?xs) ?h ?_); (case h => first | walk_at "as" | exact L2.SqT.of (by walk_at "as"))))
local macro_rules | `(tactic| walk_at "set") => `(tactic| first
  | (with_reducible exact Bx.set_0)
  | ((with_reducible refine Bx.set_in (σ1 := ?m) ?e1 ?e2); (case e1 => walk_at "set"); (case e2 => walk_at "set"))
  | ((with_reducible refine Bx.set_s (l' := ?l) ?e); (case e => walk_at "set")))
local macro_rules | `(tactic| walk_at "start") => `(tactic| first
  | exact Bx.st_0
  | ((refine Bx.st_v (l := ?l) ?e); (case e => walk_at "start"))
  | ((refine Bx.st_n (l := ?l) ?e); (case e => walk_at "start")))
local macro_rules | `(tactic| walk_at "rd") => `(tactic| repeat walk_at "rd1")
local macro_rules | `(tactic| walk_at "rd0") => `(tactic| ((try dsimp only [L2.cxOf, NdefX.ncx]); (try ((refine Bx.r_start (σ' := ?s) ?e ?_); (case e => walk_at "start"))); walk_at "rd"))
local macro_rules | `(tactic| walk_at "go1") => `(tactic| first
  | ((with_reducible refine Bx.r_new ?z ?_); (case z => exact Nat.le_of_ble_eq_true rfl); intro _ _)
  | ((with_reducible refine Bx.a_rep1 (x := ?x) ?h ?k ?_); (case h => walk_at "hp"); (case k => omega); intro _ _)
  | ((with_reducible refine Bx.a_app (xs := ?xs) ?h ?z ?_); (case h => walk_at "hp"); (case z => first | exact Nat.le_of_ble_eq_true rfl | omega))
  | ((with_reducible refine Bx.a_ext (xs := ?xs) (zs := ?zs) ?h1 ?h2 ?z ?_); (case h1 => walk_at "hp"); (case h2 => walk_at "hp"); (case z => first | exact Nat.le_of_ble_eq_true rfl | omega))
  | (with_reducible refine Bx.a_set0 ?_; intro _ _)
  | ((with_reducible refine Bx.a_addL (xs := ?xs) (zs := ?zs) ?h1 ?h2 ?z ?_); (case h1 => walk_at "hp"); (case h2 => walk_at "hp"); (case z => exact Nat.le_of_ble_eq_true rfl); intro _ _))
local macro_rules | `(tactic| walk_at "go") => `(tactic| (walk_at "rd"; repeat (walk_at "go1"; walk_at "rd")))
local macro_rules | `(tactic| walk_at "mk") => `(tactic| (refine Bx.a_mk ?d ?_; (case d => exact fun _ _ => rfl)))
local macro_rules | `(tactic| walk_at "sm") => `(tactic| first
  | exact L2.Same.refl _
  | walk_at "as"
  | ((refine L2.Same.trans (H1 := ?m) ?x ?s); (case s => walk_at "as"); walk_at "sm")
  | ((refine Bx.Same.new ?x ?n); (case n => walk_at "as"); walk_at "sm")
  | ((refine Bx.Same.put ?x ?n); (case n => walk_at "as"); walk_at "sm"))
local macro_rules | `(tactic| walk_at "bt") => `(tactic| first
  | exact Bx.But.refl _ _
  | walk_at "as"
  | ((refine Bx.But.put ?_); walk_at "bt")
  | ((refine Bx.But.new ?_ ?n); (case n => walk_at "as"); walk_at "bt")
  | ((refine Bx.But.trans (H1 := ?m) ?x (Bx.But.of ?s)); (case s => walk_at "as"); walk_at "bt")
  | ((refine Bx.But.of ?_); walk_at "sm"))
namespace Lw
open PySem PySem.Spec PyProof.Rows L2 He NdefX Bx
variable {P : Program} {w : World} {K : PySem.W.Frag} {mg : Str → Option Value} {base : Heap}
def hfa : List Look1 := [
fun K => (He.Fa.cls "Desk").ok K,
  fun K => (He.Fa.cls "Grid").ok K,
  fun K => (He.Fa.cls "Lists").ok K,
  fun K => (He.Fa.cls "Stage").ok K,
  fun K => (He.Fa.cls "State").ok K,
  fun K => (PySem.W.clsIn K (ga K "Apart")).isSome,
  fun K => (PySem.W.clsIn K (ga K "BadLine")).isSome,
  fun K => (PySem.W.clsIn K (ga K "BadName")).isSome,
  fun K => (PySem.W.clsIn K (ga K "BadNumber")).isSome,
  fun K => (PySem.W.clsIn K (ga K "BadSetting")).isSome,
  fun K => (PySem.W.clsIn K (ga K "BadWord")).isSome,
  fun K => (PySem.W.clsIn K (ga K "EmptyClip")).isSome,
  fun K => (PySem.W.clsIn K (ga K "NoClips")).isSome,
  fun K => (PySem.W.clsIn K (ga K "NotArmed")).isSome,
  fun K => (PySem.W.clsIn K (ga K "NotEmpty")).isSome,
  fun K => (PySem.W.clsIn K (ga K "NotHeld")).isSome,
  fun K => (PySem.W.clsIn K (ga K "OffGrid")).isSome,
  fun K => (PySem.W.clsIn K (ga K "TooMany")).isSome,
  fun K => (PySem.W.clsIn K (ga K "Twice")).isSome,
  fun K => (PySem.W.clsIn K (ga K "Unknown")).isSome,
  fun K => conB K (ga K "Stage") "CLIPS" 8,
  fun K => conB K (ga K "Stage") "GUARDS" 6,
  fun K => conB K (ga K "Stage") "LEADS" 4,
  fun K => conB K (ga K "Stage") "TRACKS" 6,
  fun K => (He.Fa.exm "NothingToUndo" "NothingToUndo" true).ok K,
  fun K => (He.Fa.free "ValueError").ok K,
  fun K => (He.Fa.free "abs").ok K,
  fun K => (He.Fa.free "bool").ok K,
  fun K => (He.Fa.free "int").ok K,
  fun K => (He.Fa.free "isinstance").ok K,
  fun K => (He.Fa.free "len").ok K,
  fun K => (He.Fa.free "list").ok K,
  fun K => (He.Fa.free "range").ok K,
  fun K => (He.Fa.free "set").ok K,
  fun K => (He.Fa.free "str").ok K,
  fun K => (He.Fa.free "sum").ok K,
  fun K => (He.Fa.free "super").ok K,
  fun K => (He.Fa.free "tuple").ok K,
  fun K => insB K (ga K "Grid"),
  fun K => (He.Fa.glo "Apart").ok K,
  fun K => (He.Fa.glo "BadLine").ok K,
  fun K => (He.Fa.glo "BadName").ok K,
  fun K => (He.Fa.glo "BadNumber").ok K,
  fun K => (He.Fa.glo "BadSetting").ok K,
  fun K => (He.Fa.glo "BadWord").ok K,
  fun K => (He.Fa.glo "BarclipsError").ok K,
  fun K => (He.Fa.glo "Desk").ok K,
  fun K => (He.Fa.glo "EmptyClip").ok K,
  fun K => (He.Fa.glo "Grid").ok K,
  fun K => (He.Fa.glo "Lists").ok K,
  fun K => (He.Fa.glo "NoClips").ok K,
  fun K => (He.Fa.glo "NotArmed").ok K,
  fun K => (He.Fa.glo "NotEmpty").ok K,
  fun K => (He.Fa.glo "NotHeld").ok K,
  fun K => (He.Fa.glo "NothingToUndo").ok K,
  fun K => (He.Fa.glo "OffGrid").ok K,
  fun K => (He.Fa.glo "Stage").ok K,
  fun K => (He.Fa.glo "State").ok K,
  fun K => (He.Fa.glo "TooMany").ok K,
  fun K => (He.Fa.glo "Twice").ok K,
  fun K => (He.Fa.glo "Unknown").ok K,
  fun K => (He.Fa.glo "_law_alone").ok K,
  fun K => (He.Fa.glo "_law_box").ok K,
  fun K => (He.Fa.glo "_law_draw").ok K,
  fun K => (He.Fa.glo "_law_int").ok K,
  fun K => (He.Fa.glo "_law_kinds").ok K,
  fun K => (He.Fa.glo "_law_same").ok K,
  fun K => (He.Fa.glo "_law_undone").ok K,
  fun K => (He.Fa.glo "check_names").ok K,
  fun K => (He.Fa.glo "count_guards").ok K,
  fun K => (He.Fa.glo "first_state").ok K,
  fun K => (He.Fa.glo "law").ok K,
  fun K => (He.Fa.mkr "Desk").ok K,
  fun K => (He.Fa.mkr "Grid").ok K,
  fun K => (He.Fa.mkr "Lists").ok K,
  fun K => (He.Fa.mkr "Stage").ok K,
  fun K => (He.Fa.mkr "State").ok K,
  fun K => (He.Fa.meth "Desk" "undo").ok K,
  fun K => (He.Fa.meth "Grid" "__eq__").ok K,
  fun K => (He.Fa.noat "Desk" "past").ok K,
  fun K => (He.Fa.noat "Desk" "state").ok K,
  fun K => (He.Fa.noat "Grid" "offset").ok K,
  fun K => (He.Fa.noat "Grid" "step").ok K,
  fun K => (He.Fa.noat "Lists" "arming").ok K,
  fun K => (He.Fa.noat "Lists" "begun").ok K,
  fun K => (He.Fa.noat "Lists" "changes").ok K,
  fun K => (He.Fa.noat "Lists" "kept").ok K,
  fun K => (He.Fa.noat "Lists" "settled").ok K,
  fun K => (He.Fa.noat "Lists" "taping").ok K,
  fun K => (He.Fa.noat "Stage" "leads").ok K,
  fun K => (He.Fa.noat "Stage" "tracks").ok K,
  fun K => (He.Fa.noat "State" "clock").ok K,
  fun K => (He.Fa.noat "State" "lists").ok K,
  fun K => (He.Fa.noat "State" "scene").ok K,
  fun K => (He.Fa.noat "State" "story").ok K,
  fun K => eqV (PySem.W.findIn K (.ref (ga K "Apart")) "first") (some none),
  fun K => eqV (PySem.W.findIn K (.ref (ga K "Apart")) "second") (some none),
  fun K => eqV (PySem.W.findIn K (.ref (ga K "BadLine")) "number") (some none),
  fun K => eqV (PySem.W.findIn K (.ref (ga K "BadName")) "name") (some none),
  fun K => eqV (PySem.W.findIn K (.ref (ga K "BadNumber")) "value") (some none),
  fun K => eqV (PySem.W.findIn K (.ref (ga K "BadSetting")) "size") (some none),
  fun K => eqV (PySem.W.findIn K (.ref (ga K "BadWord")) "word") (some none),
  fun K => eqV (PySem.W.findIn K (.ref (ga K "EmptyClip")) "name") (some none),
  fun K => eqV (PySem.W.findIn K (.ref (ga K "NoClips")) "name") (some none),
  fun K => eqV (PySem.W.findIn K (.ref (ga K "NotArmed")) "name") (some none),
  fun K => eqV (PySem.W.findIn K (.ref (ga K "NotEmpty")) "name") (some none),
  fun K => eqV (PySem.W.findIn K (.ref (ga K "NotHeld")) "name") (some none),
  fun K => eqV (PySem.W.findIn K (.ref (ga K "OffGrid")) "tick") (some none),
  fun K => eqV (PySem.W.findIn K (.ref (ga K "TooMany")) "kind") (some none),
  fun K => eqV (PySem.W.findIn K (.ref (ga K "TooMany")) "most") (some none),
  fun K => eqV (PySem.W.findIn K (.ref (ga K "Twice")) "name") (some none),
  fun K => eqV (PySem.W.findIn K (.ref (ga K "Unknown")) "name") (some none),
  fun K => tu0B K (dflAt ("Stage", some "__init__") 0 K),
  fun K => excB K (ga K "Apart"),
  fun K => excB K (ga K "BadLine"),
  fun K => excB K (ga K "BadName"),
  fun K => excB K (ga K "BadNumber"),
  fun K => excB K (ga K "BadSetting"),
  fun K => excB K (ga K "BadWord"),
  fun K => excB K (ga K "EmptyClip"),
  fun K => excB K (ga K "NoClips"),
  fun K => excB K (ga K "NotArmed"),
  fun K => excB K (ga K "NotEmpty"),
  fun K => excB K (ga K "NotHeld"),
  fun K => excB K (ga K "NothingToUndo"),
  fun K => excB K (ga K "OffGrid"),
  fun K => excB K (ga K "TooMany"),
  fun K => excB K (ga K "Twice"),
  fun K => excB K (ga K "Unknown"),
  fun K => (He.Fa.exc "NothingToUndo").ok K,
  fun K => eqV (PySem.W.findIn K (.ref (ga K "Apart")) "__init__") (some (some (.ref (ma K (ga K "Apart") "__init__")))),
  fun K => eqV (PySem.W.findIn K (.ref (ga K "BadLine")) "__init__") (some (some (.ref (ma K (ga K "BadLine") "__init__")))),
  fun K => eqV (PySem.W.findIn K (.ref (ga K "BadName")) "__init__") (some (some (.ref (ma K (ga K "BadName") "__init__")))),
  fun K => eqV (PySem.W.findIn K (.ref (ga K "BadNumber")) "__init__") (some (some (.ref (ma K (ga K "BadNumber") "__init__")))),
  fun K => eqV (PySem.W.findIn K (.ref (ga K "BadSetting")) "__init__") (some (some (.ref (ma K (ga K "BadSetting") "__init__")))),
  fun K => eqV (PySem.W.findIn K (.ref (ga K "BadWord")) "__init__") (some (some (.ref (ma K (ga K "BadWord") "__init__")))),
  fun K => eqV (PySem.W.findIn K (.ref (ga K "EmptyClip")) "__init__") (some (some (.ref (ma K (ga K "EmptyClip") "__init__")))),
  fun K => eqV (PySem.W.findIn K (.ref (ga K "NoClips")) "__init__") (some (some (.ref (ma K (ga K "NoClips") "__init__")))),
  fun K => eqV (PySem.W.findIn K (.ref (ga K "NotArmed")) "__init__") (some (some (.ref (ma K (ga K "NotArmed") "__init__")))),
  fun K => eqV (PySem.W.findIn K (.ref (ga K "NotEmpty")) "__init__") (some (some (.ref (ma K (ga K "NotEmpty") "__init__")))),
  fun K => eqV (PySem.W.findIn K (.ref (ga K "NotHeld")) "__init__") (some (some (.ref (ma K (ga K "NotHeld") "__init__")))),
  fun K => eqV (PySem.W.findIn K (.ref (ga K "OffGrid")) "__init__") (some (some (.ref (ma K (ga K "OffGrid") "__init__")))),
  fun K => eqV (PySem.W.findIn K (.ref (ga K "TooMany")) "__init__") (some (some (.ref (ma K (ga K "TooMany") "__init__")))),
  fun K => eqV (PySem.W.findIn K (.ref (ga K "Twice")) "__init__") (some (some (.ref (ma K (ga K "Twice") "__init__")))),
  fun K => eqV (PySem.W.findIn K (.ref (ga K "Unknown")) "__init__") (some (some (.ref (ma K (ga K "Unknown") "__init__")))),
  fun K => decide (PySem.W.typeIn K (.ref (ma K (ga K "Apart") "__init__")) = some (.type "function")),
  fun K => decide (PySem.W.typeIn K (.ref (ma K (ga K "BadLine") "__init__")) = some (.type "function")),
  fun K => decide (PySem.W.typeIn K (.ref (ma K (ga K "BadName") "__init__")) = some (.type "function")),
  fun K => decide (PySem.W.typeIn K (.ref (ma K (ga K "BadNumber") "__init__")) = some (.type "function")),
  fun K => decide (PySem.W.typeIn K (.ref (ma K (ga K "BadSetting") "__init__")) = some (.type "function")),
  fun K => decide (PySem.W.typeIn K (.ref (ma K (ga K "BadWord") "__init__")) = some (.type "function")),
  fun K => decide (PySem.W.typeIn K (.ref (ma K (ga K "EmptyClip") "__init__")) = some (.type "function")),
  fun K => decide (PySem.W.typeIn K (.ref (ma K (ga K "NoClips") "__init__")) = some (.type "function")),
  fun K => decide (PySem.W.typeIn K (.ref (ma K (ga K "NotArmed") "__init__")) = some (.type "function")),
  fun K => decide (PySem.W.typeIn K (.ref (ma K (ga K "NotEmpty") "__init__")) = some (.type "function")),
  fun K => decide (PySem.W.typeIn K (.ref (ma K (ga K "NotHeld") "__init__")) = some (.type "function")),
  fun K => decide (PySem.W.typeIn K (.ref (ma K (ga K "OffGrid") "__init__")) = some (.type "function")),
  fun K => decide (PySem.W.typeIn K (.ref (ma K (ga K "TooMany") "__init__")) = some (.type "function")),
  fun K => decide (PySem.W.typeIn K (.ref (ma K (ga K "Twice") "__init__")) = some (.type "function")),
  fun K => decide (PySem.W.typeIn K (.ref (ma K (ga K "Unknown") "__init__")) = some (.type "function")),
  fun K => eqV (PySem.W.nsIn K cStatics "thirdparty.any") (some none),
  fun K => ktB K]
def hfn : List DefS := [
⟨("_law_alone", none), "_law_alone", "_law_alone", defArgs s__law_alone, defBody s__law_alone, defScope s__law_alone, [], [], none⟩,
  ⟨("_law_box", none), "_law_box", "_law_box", defArgs s__law_box, defBody s__law_box, defScope s__law_box, [], [], none⟩,
  ⟨("_law_draw", none), "_law_draw", "_law_draw", defArgs s__law_draw, defBody s__law_draw, defScope s__law_draw, [], [], none⟩,
  ⟨("_law_int", none), "_law_int", "_law_int", defArgs s__law_int, defBody s__law_int, defScope s__law_int, [], [], none⟩,
  ⟨("_law_kinds", none), "_law_kinds", "_law_kinds", defArgs s__law_kinds, defBody s__law_kinds, defScope s__law_kinds, [], [], none⟩,
  ⟨("_law_same", none), "_law_same", "_law_same", defArgs s__law_same, defBody s__law_same, defScope s__law_same, [], [], none⟩,
  ⟨("_law_undone", none), "_law_undone", "_law_undone", defArgs s__law_undone, defBody s__law_undone, defScope s__law_undone, [], [], none⟩,
  ⟨("check_names", none), "check_names", "check_names", defArgs s_check_names, defBody s_check_names, defScope s_check_names, [], [], none⟩,
  ⟨("count_guards", none), "count_guards", "count_guards", defArgs s_count_guards, defBody s_count_guards, defScope s_count_guards, [], [], none⟩,
  ⟨("first_state", none), "first_state", "first_state", defArgs s_first_state, defBody s_first_state, defScope s_first_state, [], [], none⟩,
  ⟨("law", none), "law", "law", defArgs s_law, defBody s_law, defScope s_law, [], [], none⟩,
  ⟨("Desk", some "__init__"), "__init__", "Desk.__init__", defArgs s_Desk___init__, defBody s_Desk___init__, defScope s_Desk___init__, [.int 0], [], none⟩,
  ⟨("Desk", some "undo"), "undo", "Desk.undo", defArgs s_Desk_undo, defBody s_Desk_undo, defScope s_Desk_undo, [], [], none⟩,
  ⟨("Grid", some "__eq__"), "__eq__", "Grid.__eq__", defArgs s_Grid___eq__, defBody s_Grid___eq__, defScope s_Grid___eq__, [], [], none⟩,
  ⟨("Grid", some "__init__"), "__init__", "Grid.__init__", defArgs s_Grid___init__, defBody s_Grid___init__, defScope s_Grid___init__, [.int 0], [], none⟩,
  ⟨("Lists", some "__init__"), "__init__", "Lists.__init__", defArgs s_Lists___init__, defBody s_Lists___init__, defScope s_Lists___init__, [], [], none⟩,
  ⟨("Stage", some "__init__"), "__init__", "Stage.__init__", defArgs s_Stage___init__, defBody s_Stage___init__, defScope s_Stage___init__, [.adr (fun K => dflAt ("Stage", some "__init__") 0 K)], [], none⟩,
  ⟨("State", some "__init__"), "__init__", "State.__init__", defArgs s_State___init__, defBody s_State___init__, defScope s_State___init__, [], [], none⟩,
  ⟨("Apart", some "__init__"), "__init__", "Apart.__init__", defArgs s_Apart___init__, defBody s_Apart___init__, defScope s_Apart___init__, [], [], some "Apart"⟩,
  ⟨("BadLine", some "__init__"), "__init__", "BadLine.__init__", defArgs s_BadLine___init__, defBody s_BadLine___init__, defScope s_BadLine___init__, [], [], some "BadLine"⟩,
  ⟨("BadName", some "__init__"), "__init__", "BadName.__init__", defArgs s_BadName___init__, defBody s_BadName___init__, defScope s_BadName___init__, [], [], some "BadName"⟩,
  ⟨("BadNumber", some "__init__"), "__init__", "BadNumber.__init__", defArgs s_BadNumber___init__, defBody s_BadNumber___init__, defScope s_BadNumber___init__, [], [], some "BadNumber"⟩,
  ⟨("BadSetting", some "__init__"), "__init__", "BadSetting.__init__", defArgs s_BadSetting___init__, defBody s_BadSetting___init__, defScope s_BadSetting___init__, [], [], some "BadSetting"⟩,
  ⟨("BadWord", some "__init__"), "__init__", "BadWord.__init__", defArgs s_BadWord___init__, defBody s_BadWord___init__, defScope s_BadWord___init__, [], [], some "BadWord"⟩,
  ⟨("EmptyClip", some "__init__"), "__init__", "EmptyClip.__init__", defArgs s_EmptyClip___init__, defBody s_EmptyClip___init__, defScope s_EmptyClip___init__, [], [], some "EmptyClip"⟩,
  ⟨("NoClips", some "__init__"), "__init__", "NoClips.__init__", defArgs s_NoClips___init__, defBody s_NoClips___init__, defScope s_NoClips___init__, [], [], some "NoClips"⟩,
  ⟨("NotArmed", some "__init__"), "__init__", "NotArmed.__init__", defArgs s_NotArmed___init__, defBody s_NotArmed___init__, defScope s_NotArmed___init__, [], [], some "NotArmed"⟩,
  ⟨("NotEmpty", some "__init__"), "__init__", "NotEmpty.__init__", defArgs s_NotEmpty___init__, defBody s_NotEmpty___init__, defScope s_NotEmpty___init__, [], [], some "NotEmpty"⟩,
  ⟨("NotHeld", some "__init__"), "__init__", "NotHeld.__init__", defArgs s_NotHeld___init__, defBody s_NotHeld___init__, defScope s_NotHeld___init__, [], [], some "NotHeld"⟩,
  ⟨("OffGrid", some "__init__"), "__init__", "OffGrid.__init__", defArgs s_OffGrid___init__, defBody s_OffGrid___init__, defScope s_OffGrid___init__, [], [], some "OffGrid"⟩,
  ⟨("TooMany", some "__init__"), "__init__", "TooMany.__init__", defArgs s_TooMany___init__, defBody s_TooMany___init__, defScope s_TooMany___init__, [], [], some "TooMany"⟩,
  ⟨("Twice", some "__init__"), "__init__", "Twice.__init__", defArgs s_Twice___init__, defBody s_Twice___init__, defScope s_Twice___init__, [], [], some "Twice"⟩,
  ⟨("Unknown", some "__init__"), "__init__", "Unknown.__init__", defArgs s_Unknown___init__, defBody s_Unknown___init__, defScope s_Unknown___init__, [], [], some "Unknown"⟩]
theorem txt_of {P : Program} {K : PySem.W.Frag} {h : Heap} {mg : Str → Option Value} (X : K.In h) (G : h.Ns mainGlobals mg) (hfl : ((P.main.file : Str) == clFile) = true) (htop : (P.main.scope.names.lookup ("super" : Str)).isSome = false) (s : SaysX clFile hfa hfn K) : Txt P K mg := by
  refine ⟨hfl, htop, ?_, ?_, ?_, ?_, ?_, ?_, ?_, ?_, ?_, ?_, ?_, ?_, ?_, ?_, ?_, ?_, ?_, ?_, ?_, ?_, ?_, ?_, ?_, ?_, ?_, ?_, ?_, ?_, ?_, ?_, ?_, ?_, ?_, ?_, ?_, ?_, ?_, ?_, ?_, ?_, ?_, ?_, ?_, ?_, ?_, ?_, ?_, ?_, ?_, ?_, ?_, ?_, ?_, ?_, ?_, ?_, ?_, ?_, ?_, ?_, ?_, ?_, ?_, ?_, ?_, ?_, ?_, ?_, ?_, ?_, ?_, ?_, ?_, ?_, ?_, ?_, ?_, ?_, ?_, ?_, ?_, ?_, ?_, ?_, ?_, ?_, ?_, ?_, ?_, ?_, ?_, ?_, ?_, ?_, ?_, ?_, ?_, ?_, ?_, ?_, ?_, ?_, ?_, ?_, ?_, ?_, ?_, ?_, ?_, ?_, ?_, ?_, ?_, ?_, ?_, ?_, ?_, ?_, ?_, ?_, ?_, ?_, ?_, ?_, ?_, ?_, ?_, ?_, ?_, ?_, ?_, ?_, ?_, ?_, ?_, ?_, ?_, ?_, ?_, ?_, ?_, ?_, ?_, ?_, ?_, ?_, ?_, ?_, ?_, ?_, ?_, ?_, ?_, ?_, ?_, ?_, ?_, ?_, ?_, ?_, ?_, ?_, ?_, ?_, ?_, ?_, ?_, ?_, ?_, ?_, ?_, ?_, ?_, ?_, ?_, ?_, ?_, ?_, ?_, ?_, ?_, ?_, ?_, ?_, ?_, ?_, ?_, ?_, ?_, ?_, ?_, ?_, ?_, ?_, ?_⟩
  · have c := s.fact 0 (f := fun K => (He.Fa.cls "Desk").ok K) rfl
    exact He.cls_ok c
  · have c := s.fact 1 (f := fun K => (He.Fa.cls "Grid").ok K) rfl
    exact He.cls_ok c
  · have c := s.fact 2 (f := fun K => (He.Fa.cls "Lists").ok K) rfl
    exact He.cls_ok c
  · have c := s.fact 3 (f := fun K => (He.Fa.cls "Stage").ok K) rfl
    exact He.cls_ok c
  · have c := s.fact 4 (f := fun K => (He.Fa.cls "State").ok K) rfl
    exact He.cls_ok c
  · have c := s.fact 5 (f := fun K => (PySem.W.clsIn K (ga K "Apart")).isSome) rfl
    exact Option.isSome_iff_exists.mp c
  · have c := s.fact 6 (f := fun K => (PySem.W.clsIn K (ga K "BadLine")).isSome) rfl
    exact Option.isSome_iff_exists.mp c
  · have c := s.fact 7 (f := fun K => (PySem.W.clsIn K (ga K "BadName")).isSome) rfl
    exact Option.isSome_iff_exists.mp c
  · have c := s.fact 8 (f := fun K => (PySem.W.clsIn K (ga K "BadNumber")).isSome) rfl
    exact Option.isSome_iff_exists.mp c
  · have c := s.fact 9 (f := fun K => (PySem.W.clsIn K (ga K "BadSetting")).isSome) rfl
    exact Option.isSome_iff_exists.mp c
  · have c := s.fact 10 (f := fun K => (PySem.W.clsIn K (ga K "BadWord")).isSome) rfl
    exact Option.isSome_iff_exists.mp c
  · have c := s.fact 11 (f := fun K => (PySem.W.clsIn K (ga K "EmptyClip")).isSome) rfl
    exact Option.isSome_iff_exists.mp c
  · have c := s.fact 12 (f := fun K => (PySem.W.clsIn K (ga K "NoClips")).isSome) rfl
    exact Option.isSome_iff_exists.mp c
  · have c := s.fact 13 (f := fun K => (PySem.W.clsIn K (ga K "NotArmed")).isSome) rfl
    exact Option.isSome_iff_exists.mp c
  · have c := s.fact 14 (f := fun K => (PySem.W.clsIn K (ga K "NotEmpty")).isSome) rfl
    exact Option.isSome_iff_exists.mp c
  · have c := s.fact 15 (f := fun K => (PySem.W.clsIn K (ga K "NotHeld")).isSome) rfl
    exact Option.isSome_iff_exists.mp c
  · have c := s.fact 16 (f := fun K => (PySem.W.clsIn K (ga K "OffGrid")).isSome) rfl
    exact Option.isSome_iff_exists.mp c
  · have c := s.fact 17 (f := fun K => (PySem.W.clsIn K (ga K "TooMany")).isSome) rfl
    exact Option.isSome_iff_exists.mp c
  · have c := s.fact 18 (f := fun K => (PySem.W.clsIn K (ga K "Twice")).isSome) rfl
    exact Option.isSome_iff_exists.mp c
  · have c := s.fact 19 (f := fun K => (PySem.W.clsIn K (ga K "Unknown")).isSome) rfl
    exact Option.isSome_iff_exists.mp c
  · have c := s.fact 20 (f := fun K => conB K (ga K "Stage") "CLIPS" 8) rfl
    exact conB_ok c
  · have c := s.fact 21 (f := fun K => conB K (ga K "Stage") "GUARDS" 6) rfl
    exact conB_ok c
  · have c := s.fact 22 (f := fun K => conB K (ga K "Stage") "LEADS" 4) rfl
    exact conB_ok c
  · have c := s.fact 23 (f := fun K => conB K (ga K "Stage") "TRACKS" 6) rfl
    exact conB_ok c
  · have c := s.fact 24 (f := fun K => (He.Fa.exm "NothingToUndo" "NothingToUndo" true).ok K) rfl
    exact He.exm_ok c
  · have c := s.fact 25 (f := fun K => (He.Fa.free "ValueError").ok K) rfl
    exact He.free_ok X G c
  · have c := s.fact 26 (f := fun K => (He.Fa.free "abs").ok K) rfl
    exact He.free_ok X G c
  · have c := s.fact 27 (f := fun K => (He.Fa.free "bool").ok K) rfl
    exact He.free_ok X G c
  · have c := s.fact 28 (f := fun K => (He.Fa.free "int").ok K) rfl
    exact He.free_ok X G c
  · have c := s.fact 29 (f := fun K => (He.Fa.free "isinstance").ok K) rfl
    exact He.free_ok X G c
  · have c := s.fact 30 (f := fun K => (He.Fa.free "len").ok K) rfl
    exact He.free_ok X G c
  · have c := s.fact 31 (f := fun K => (He.Fa.free "list").ok K) rfl
    exact He.free_ok X G c
  · have c := s.fact 32 (f := fun K => (He.Fa.free "range").ok K) rfl
    exact He.free_ok X G c
  · have c := s.fact 33 (f := fun K => (He.Fa.free "set").ok K) rfl
    exact He.free_ok X G c
  · have c := s.fact 34 (f := fun K => (He.Fa.free "str").ok K) rfl
    exact He.free_ok X G c
  · have c := s.fact 35 (f := fun K => (He.Fa.free "sum").ok K) rfl
    exact He.free_ok X G c
  · have c := s.fact 36 (f := fun K => (He.Fa.free "super").ok K) rfl
    exact He.free_ok X G c
  · have c := s.fact 37 (f := fun K => (He.Fa.free "tuple").ok K) rfl
    exact He.free_ok X G c
  · have c := s.fact 38 (f := fun K => insB K (ga K "Grid")) rfl
    exact insB_ok c
  · have c := s.fact 39 (f := fun K => (He.Fa.glo "Apart").ok K) rfl
    exact He.glo_ok X G c
  · have c := s.fact 40 (f := fun K => (He.Fa.glo "BadLine").ok K) rfl
    exact He.glo_ok X G c
  · have c := s.fact 41 (f := fun K => (He.Fa.glo "BadName").ok K) rfl
    exact He.glo_ok X G c
  · have c := s.fact 42 (f := fun K => (He.Fa.glo "BadNumber").ok K) rfl
    exact He.glo_ok X G c
  · have c := s.fact 43 (f := fun K => (He.Fa.glo "BadSetting").ok K) rfl
    exact He.glo_ok X G c
  · have c := s.fact 44 (f := fun K => (He.Fa.glo "BadWord").ok K) rfl
    exact He.glo_ok X G c
  · have c := s.fact 45 (f := fun K => (He.Fa.glo "BarclipsError").ok K) rfl
    exact He.glo_ok X G c
  · have c := s.fact 46 (f := fun K => (He.Fa.glo "Desk").ok K) rfl
    exact He.glo_ok X G c
  · have c := s.fact 47 (f := fun K => (He.Fa.glo "EmptyClip").ok K) rfl
    exact He.glo_ok X G c
  · have c := s.fact 48 (f := fun K => (He.Fa.glo "Grid").ok K) rfl
    exact He.glo_ok X G c
  · have c := s.fact 49 (f := fun K => (He.Fa.glo "Lists").ok K) rfl
    exact He.glo_ok X G c
  · have c := s.fact 50 (f := fun K => (He.Fa.glo "NoClips").ok K) rfl
    exact He.glo_ok X G c
  · have c := s.fact 51 (f := fun K => (He.Fa.glo "NotArmed").ok K) rfl
    exact He.glo_ok X G c
  · have c := s.fact 52 (f := fun K => (He.Fa.glo "NotEmpty").ok K) rfl
    exact He.glo_ok X G c
  · have c := s.fact 53 (f := fun K => (He.Fa.glo "NotHeld").ok K) rfl
    exact He.glo_ok X G c
  · have c := s.fact 54 (f := fun K => (He.Fa.glo "NothingToUndo").ok K) rfl
    exact He.glo_ok X G c
  · have c := s.fact 55 (f := fun K => (He.Fa.glo "OffGrid").ok K) rfl
    exact He.glo_ok X G c
  · have c := s.fact 56 (f := fun K => (He.Fa.glo "Stage").ok K) rfl
    exact He.glo_ok X G c
  · have c := s.fact 57 (f := fun K => (He.Fa.glo "State").ok K) rfl
    exact He.glo_ok X G c
  · have c := s.fact 58 (f := fun K => (He.Fa.glo "TooMany").ok K) rfl
    exact He.glo_ok X G c
  · have c := s.fact 59 (f := fun K => (He.Fa.glo "Twice").ok K) rfl
    exact He.glo_ok X G c
  · have c := s.fact 60 (f := fun K => (He.Fa.glo "Unknown").ok K) rfl
    exact He.glo_ok X G c
  · have c := s.fact 61 (f := fun K => (He.Fa.glo "_law_alone").ok K) rfl
    exact He.glo_ok X G c
  · have c := s.fact 62 (f := fun K => (He.Fa.glo "_law_box").ok K) rfl
    exact He.glo_ok X G c
  · have c := s.fact 63 (f := fun K => (He.Fa.glo "_law_draw").ok K) rfl
    exact He.glo_ok X G c
  · have c := s.fact 64 (f := fun K => (He.Fa.glo "_law_int").ok K) rfl
    exact He.glo_ok X G c
  · have c := s.fact 65 (f := fun K => (He.Fa.glo "_law_kinds").ok K) rfl
    exact He.glo_ok X G c
  · have c := s.fact 66 (f := fun K => (He.Fa.glo "_law_same").ok K) rfl
    exact He.glo_ok X G c
  · have c := s.fact 67 (f := fun K => (He.Fa.glo "_law_undone").ok K) rfl
    exact He.glo_ok X G c
  · have c := s.fact 68 (f := fun K => (He.Fa.glo "check_names").ok K) rfl
    exact He.glo_ok X G c
  · have c := s.fact 69 (f := fun K => (He.Fa.glo "count_guards").ok K) rfl
    exact He.glo_ok X G c
  · have c := s.fact 70 (f := fun K => (He.Fa.glo "first_state").ok K) rfl
    exact He.glo_ok X G c
  · have c := s.fact 71 (f := fun K => (He.Fa.glo "law").ok K) rfl
    exact He.glo_ok X G c
  · have c := s.fact 72 (f := fun K => (He.Fa.mkr "Desk").ok K) rfl
    exact He.mkr_ok c
  · have c := s.fact 73 (f := fun K => (He.Fa.mkr "Grid").ok K) rfl
    exact He.mkr_ok c
  · have c := s.fact 74 (f := fun K => (He.Fa.mkr "Lists").ok K) rfl
    exact He.mkr_ok c
  · have c := s.fact 75 (f := fun K => (He.Fa.mkr "Stage").ok K) rfl
    exact He.mkr_ok c
  · have c := s.fact 76 (f := fun K => (He.Fa.mkr "State").ok K) rfl
    exact He.mkr_ok c
  · have c := s.fact 77 (f := fun K => (He.Fa.meth "Desk" "undo").ok K) rfl
    exact He.meth_ok c
  · have c := s.fact 78 (f := fun K => (He.Fa.meth "Grid" "__eq__").ok K) rfl
    exact He.meth_ok c
  · have c := s.fact 79 (f := fun K => (He.Fa.noat "Desk" "past").ok K) rfl
    exact He.noat_ok c
  · have c := s.fact 80 (f := fun K => (He.Fa.noat "Desk" "state").ok K) rfl
    exact He.noat_ok c
  · have c := s.fact 81 (f := fun K => (He.Fa.noat "Grid" "offset").ok K) rfl
    exact He.noat_ok c
  · have c := s.fact 82 (f := fun K => (He.Fa.noat "Grid" "step").ok K) rfl
    exact He.noat_ok c
  · have c := s.fact 83 (f := fun K => (He.Fa.noat "Lists" "arming").ok K) rfl
    exact He.noat_ok c
  · have c := s.fact 84 (f := fun K => (He.Fa.noat "Lists" "begun").ok K) rfl
    exact He.noat_ok c
  · have c := s.fact 85 (f := fun K => (He.Fa.noat "Lists" "changes").ok K) rfl
    exact He.noat_ok c
  · have c := s.fact 86 (f := fun K => (He.Fa.noat "Lists" "kept").ok K) rfl
    exact He.noat_ok c
  · have c := s.fact 87 (f := fun K => (He.Fa.noat "Lists" "settled").ok K) rfl
    exact He.noat_ok c
  · have c := s.fact 88 (f := fun K => (He.Fa.noat "Lists" "taping").ok K) rfl
    exact He.noat_ok c
  · have c := s.fact 89 (f := fun K => (He.Fa.noat "Stage" "leads").ok K) rfl
    exact He.noat_ok c
  · have c := s.fact 90 (f := fun K => (He.Fa.noat "Stage" "tracks").ok K) rfl
    exact He.noat_ok c
  · have c := s.fact 91 (f := fun K => (He.Fa.noat "State" "clock").ok K) rfl
    exact He.noat_ok c
  · have c := s.fact 92 (f := fun K => (He.Fa.noat "State" "lists").ok K) rfl
    exact He.noat_ok c
  · have c := s.fact 93 (f := fun K => (He.Fa.noat "State" "scene").ok K) rfl
    exact He.noat_ok c
  · have c := s.fact 94 (f := fun K => (He.Fa.noat "State" "story").ok K) rfl
    exact He.noat_ok c
  · have c := s.fact 95 (f := fun K => eqV (PySem.W.findIn K (.ref (ga K "Apart")) "first") (some none)) rfl
    exact of_decide_eq_true c
  · have c := s.fact 96 (f := fun K => eqV (PySem.W.findIn K (.ref (ga K "Apart")) "second") (some none)) rfl
    exact of_decide_eq_true c
  · have c := s.fact 97 (f := fun K => eqV (PySem.W.findIn K (.ref (ga K "BadLine")) "number") (some none)) rfl
    exact of_decide_eq_true c
  · have c := s.fact 98 (f := fun K => eqV (PySem.W.findIn K (.ref (ga K "BadName")) "name") (some none)) rfl
    exact of_decide_eq_true c
  · have c := s.fact 99 (f := fun K => eqV (PySem.W.findIn K (.ref (ga K "BadNumber")) "value") (some none)) rfl
    exact of_decide_eq_true c
  · have c := s.fact 100 (f := fun K => eqV (PySem.W.findIn K (.ref (ga K "BadSetting")) "size") (some none)) rfl
    exact of_decide_eq_true c
  · have c := s.fact 101 (f := fun K => eqV (PySem.W.findIn K (.ref (ga K "BadWord")) "word") (some none)) rfl
    exact of_decide_eq_true c
  · have c := s.fact 102 (f := fun K => eqV (PySem.W.findIn K (.ref (ga K "EmptyClip")) "name") (some none)) rfl
    exact of_decide_eq_true c
  · have c := s.fact 103 (f := fun K => eqV (PySem.W.findIn K (.ref (ga K "NoClips")) "name") (some none)) rfl
    exact of_decide_eq_true c
  · have c := s.fact 104 (f := fun K => eqV (PySem.W.findIn K (.ref (ga K "NotArmed")) "name") (some none)) rfl
    exact of_decide_eq_true c
  · have c := s.fact 105 (f := fun K => eqV (PySem.W.findIn K (.ref (ga K "NotEmpty")) "name") (some none)) rfl
    exact of_decide_eq_true c
  · have c := s.fact 106 (f := fun K => eqV (PySem.W.findIn K (.ref (ga K "NotHeld")) "name") (some none)) rfl
    exact of_decide_eq_true c
  · have c := s.fact 107 (f := fun K => eqV (PySem.W.findIn K (.ref (ga K "OffGrid")) "tick") (some none)) rfl
    exact of_decide_eq_true c
  · have c := s.fact 108 (f := fun K => eqV (PySem.W.findIn K (.ref (ga K "TooMany")) "kind") (some none)) rfl
    exact of_decide_eq_true c
  · have c := s.fact 109 (f := fun K => eqV (PySem.W.findIn K (.ref (ga K "TooMany")) "most") (some none)) rfl
    exact of_decide_eq_true c
  · have c := s.fact 110 (f := fun K => eqV (PySem.W.findIn K (.ref (ga K "Twice")) "name") (some none)) rfl
    exact of_decide_eq_true c
  · have c := s.fact 111 (f := fun K => eqV (PySem.W.findIn K (.ref (ga K "Unknown")) "name") (some none)) rfl
    exact of_decide_eq_true c
  · have c := s.fact 112 (f := fun K => tu0B K (dflAt ("Stage", some "__init__") 0 K)) rfl
    exact tu0B_ok c
  · have c := s.fact 113 (f := fun K => excB K (ga K "Apart")) rfl
    exact excB_ok c
  · have c := s.fact 114 (f := fun K => excB K (ga K "BadLine")) rfl
    exact excB_ok c
  · have c := s.fact 115 (f := fun K => excB K (ga K "BadName")) rfl
    exact excB_ok c
  · have c := s.fact 116 (f := fun K => excB K (ga K "BadNumber")) rfl
    exact excB_ok c
  · have c := s.fact 117 (f := fun K => excB K (ga K "BadSetting")) rfl
    exact excB_ok c
  · have c := s.fact 118 (f := fun K => excB K (ga K "BadWord")) rfl
    exact excB_ok c
  · have c := s.fact 119 (f := fun K => excB K (ga K "EmptyClip")) rfl
    exact excB_ok c
  · have c := s.fact 120 (f := fun K => excB K (ga K "NoClips")) rfl
    exact excB_ok c
  · have c := s.fact 121 (f := fun K => excB K (ga K "NotArmed")) rfl
    exact excB_ok c
  · have c := s.fact 122 (f := fun K => excB K (ga K "NotEmpty")) rfl
    exact excB_ok c
  · have c := s.fact 123 (f := fun K => excB K (ga K "NotHeld")) rfl
    exact excB_ok c
  · have c := s.fact 124 (f := fun K => excB K (ga K "NothingToUndo")) rfl
    exact excB_ok c
  · have c := s.fact 125 (f := fun K => excB K (ga K "OffGrid")) rfl
    exact excB_ok c
  · have c := s.fact 126 (f := fun K => excB K (ga K "TooMany")) rfl
    exact excB_ok c
  · have c := s.fact 127 (f := fun K => excB K (ga K "Twice")) rfl
    exact excB_ok c
  · have c := s.fact 128 (f := fun K => excB K (ga K "Unknown")) rfl
    exact excB_ok c
  · have c := s.fact 129 (f := fun K => (He.Fa.exc "NothingToUndo").ok K) rfl
    exact He.exc_ok c
  · have c := s.fact 130 (f := fun K => eqV (PySem.W.findIn K (.ref (ga K "Apart")) "__init__") (some (some (.ref (ma K (ga K "Apart") "__init__"))))) rfl
    exact of_decide_eq_true c
  · have c := s.fact 131 (f := fun K => eqV (PySem.W.findIn K (.ref (ga K "BadLine")) "__init__") (some (some (.ref (ma K (ga K "BadLine") "__init__"))))) rfl
    exact of_decide_eq_true c
  · have c := s.fact 132 (f := fun K => eqV (PySem.W.findIn K (.ref (ga K "BadName")) "__init__") (some (some (.ref (ma K (ga K "BadName") "__init__"))))) rfl
    exact of_decide_eq_true c
  · have c := s.fact 133 (f := fun K => eqV (PySem.W.findIn K (.ref (ga K "BadNumber")) "__init__") (some (some (.ref (ma K (ga K "BadNumber") "__init__"))))) rfl
    exact of_decide_eq_true c
  · have c := s.fact 134 (f := fun K => eqV (PySem.W.findIn K (.ref (ga K "BadSetting")) "__init__") (some (some (.ref (ma K (ga K "BadSetting") "__init__"))))) rfl
    exact of_decide_eq_true c
  · have c := s.fact 135 (f := fun K => eqV (PySem.W.findIn K (.ref (ga K "BadWord")) "__init__") (some (some (.ref (ma K (ga K "BadWord") "__init__"))))) rfl
    exact of_decide_eq_true c
  · have c := s.fact 136 (f := fun K => eqV (PySem.W.findIn K (.ref (ga K "EmptyClip")) "__init__") (some (some (.ref (ma K (ga K "EmptyClip") "__init__"))))) rfl
    exact of_decide_eq_true c
  · have c := s.fact 137 (f := fun K => eqV (PySem.W.findIn K (.ref (ga K "NoClips")) "__init__") (some (some (.ref (ma K (ga K "NoClips") "__init__"))))) rfl
    exact of_decide_eq_true c
  · have c := s.fact 138 (f := fun K => eqV (PySem.W.findIn K (.ref (ga K "NotArmed")) "__init__") (some (some (.ref (ma K (ga K "NotArmed") "__init__"))))) rfl
    exact of_decide_eq_true c
  · have c := s.fact 139 (f := fun K => eqV (PySem.W.findIn K (.ref (ga K "NotEmpty")) "__init__") (some (some (.ref (ma K (ga K "NotEmpty") "__init__"))))) rfl
    exact of_decide_eq_true c
  · have c := s.fact 140 (f := fun K => eqV (PySem.W.findIn K (.ref (ga K "NotHeld")) "__init__") (some (some (.ref (ma K (ga K "NotHeld") "__init__"))))) rfl
    exact of_decide_eq_true c
  · have c := s.fact 141 (f := fun K => eqV (PySem.W.findIn K (.ref (ga K "OffGrid")) "__init__") (some (some (.ref (ma K (ga K "OffGrid") "__init__"))))) rfl
    exact of_decide_eq_true c
  · have c := s.fact 142 (f := fun K => eqV (PySem.W.findIn K (.ref (ga K "TooMany")) "__init__") (some (some (.ref (ma K (ga K "TooMany") "__init__"))))) rfl
    exact of_decide_eq_true c
  · have c := s.fact 143 (f := fun K => eqV (PySem.W.findIn K (.ref (ga K "Twice")) "__init__") (some (some (.ref (ma K (ga K "Twice") "__init__"))))) rfl
    exact of_decide_eq_true c
  · have c := s.fact 144 (f := fun K => eqV (PySem.W.findIn K (.ref (ga K "Unknown")) "__init__") (some (some (.ref (ma K (ga K "Unknown") "__init__"))))) rfl
    exact of_decide_eq_true c
  · have c := s.fact 145 (f := fun K => decide (PySem.W.typeIn K (.ref (ma K (ga K "Apart") "__init__")) = some (.type "function"))) rfl
    exact of_decide_eq_true c
  · have c := s.fact 146 (f := fun K => decide (PySem.W.typeIn K (.ref (ma K (ga K "BadLine") "__init__")) = some (.type "function"))) rfl
    exact of_decide_eq_true c
  · have c := s.fact 147 (f := fun K => decide (PySem.W.typeIn K (.ref (ma K (ga K "BadName") "__init__")) = some (.type "function"))) rfl
    exact of_decide_eq_true c
  · have c := s.fact 148 (f := fun K => decide (PySem.W.typeIn K (.ref (ma K (ga K "BadNumber") "__init__")) = some (.type "function"))) rfl
    exact of_decide_eq_true c
  · have c := s.fact 149 (f := fun K => decide (PySem.W.typeIn K (.ref (ma K (ga K "BadSetting") "__init__")) = some (.type "function"))) rfl
    exact of_decide_eq_true c
  · have c := s.fact 150 (f := fun K => decide (PySem.W.typeIn K (.ref (ma K (ga K "BadWord") "__init__")) = some (.type "function"))) rfl
    exact of_decide_eq_true c
  · have c := s.fact 151 (f := fun K => decide (PySem.W.typeIn K (.ref (ma K (ga K "EmptyClip") "__init__")) = some (.type "function"))) rfl
    exact of_decide_eq_true c
  · have c := s.fact 152 (f := fun K => decide (PySem.W.typeIn K (.ref (ma K (ga K "NoClips") "__init__")) = some (.type "function"))) rfl
    exact of_decide_eq_true c
  · have c := s.fact 153 (f := fun K => decide (PySem.W.typeIn K (.ref (ma K (ga K "NotArmed") "__init__")) = some (.type "function"))) rfl
    exact of_decide_eq_true c
  · have c := s.fact 154 (f := fun K => decide (PySem.W.typeIn K (.ref (ma K (ga K "NotEmpty") "__init__")) = some (.type "function"))) rfl
    exact of_decide_eq_true c
  · have c := s.fact 155 (f := fun K => decide (PySem.W.typeIn K (.ref (ma K (ga K "NotHeld") "__init__")) = some (.type "function"))) rfl
    exact of_decide_eq_true c
  · have c := s.fact 156 (f := fun K => decide (PySem.W.typeIn K (.ref (ma K (ga K "OffGrid") "__init__")) = some (.type "function"))) rfl
    exact of_decide_eq_true c
  · have c := s.fact 157 (f := fun K => decide (PySem.W.typeIn K (.ref (ma K (ga K "TooMany") "__init__")) = some (.type "function"))) rfl
    exact of_decide_eq_true c
  · have c := s.fact 158 (f := fun K => decide (PySem.W.typeIn K (.ref (ma K (ga K "Twice") "__init__")) = some (.type "function"))) rfl
    exact of_decide_eq_true c
  · have c := s.fact 159 (f := fun K => decide (PySem.W.typeIn K (.ref (ma K (ga K "Unknown") "__init__")) = some (.type "function"))) rfl
    exact of_decide_eq_true c
  · have c := s.fact 160 (f := fun K => eqV (PySem.W.nsIn K cStatics "thirdparty.any") (some none)) rfl
    exact of_decide_eq_true c
  · have c := s.fact 161 (f := fun K => ktB K) rfl
    exact ktB_ok c
  · exact s.def_ 0 rfl rfl
  · exact s.def_ 1 rfl rfl
  · exact s.def_ 2 rfl rfl
  · exact s.def_ 3 rfl rfl
  · exact s.def_ 4 rfl rfl
  · exact s.def_ 5 rfl rfl
  · exact s.def_ 6 rfl rfl
  · exact s.def_ 7 rfl rfl
  · exact s.def_ 8 rfl rfl
  · exact s.def_ 9 rfl rfl
  · exact s.def_ 10 rfl rfl
  · exact s.def_ 11 rfl rfl
  · exact s.def_ 12 rfl rfl
  · exact s.def_ 13 rfl rfl
  · exact s.def_ 14 rfl rfl
  · exact s.def_ 15 rfl rfl
  · exact s.def_ 16 rfl rfl
  · exact s.def_ 17 rfl rfl
  · exact s.sup 18 rfl rfl
  · exact s.sup 19 rfl rfl
  · exact s.sup 20 rfl rfl
  · exact s.sup 21 rfl rfl
  · exact s.sup 22 rfl rfl
  · exact s.sup 23 rfl rfl
  · exact s.sup 24 rfl rfl
  · exact s.sup 25 rfl rfl
  · exact s.sup 26 rfl rfl
  · exact s.sup 27 rfl rfl
  · exact s.sup 28 rfl rfl
  · exact s.sup 29 rfl rfl
  · exact s.sup 30 rfl rfl
  · exact s.sup 31 rfl rfl
  · exact s.sup 32 rfl rfl
abbrev R : PySem.W.OpenRow := PySem.W.OpenLaw.row PySem.Challenge.rw_barclips_k81_errors_apart
abbrev hk : PySem.W.Hook := hookX clFile hfa hfn
def ob (s : PySem.W.SharedT) : AlX := obsXG clFile hfa hfn (HandSHeadRun.getT s)
theorem ob_eq (s : PySem.W.SharedT) : ob s = hk.obs s.abs := obsXG_eq (HandSHeadRun.getT_eq s)
def loose : List PySem.Str := (["_wall", "__name__", "BarclipsError", "BadName", "BadNumber", "BadWord", "BadLine", "BadSetting", "NoClips", "Twice", "Unknown", "EmptyClip", "NotEmpty", "NotArmed", "NotHeld", "OffGrid", "TooMany", "Apart", "NothingToUndo", "LETTERS", "DIGITS", "NAME_LENGTH", "NUMBER_LENGTH", "check_name", "plain_number", "read_number", "split_words", "split_lines", "PARTS", "gcd_and_factor"] : List PySem.Str) ++ (["Grid", "MOST_GRIDS", "SPAN", "check_grids", "is_gap", "first_gap", "place_at", "closing_places", "find_closings", "bar_gap", "State", "Lists", "first_state", "track_index", "lead_index", "open_at", "sounding_names", "hold_moment", "next_moment", "halt", "end_leads", "carry_out", "change_tracks", "judge_leads", "state_after", "moved_state", "Sound", "Clip", "Lead", "next_state"] : List PySem.Str) ++ (["waiting_state", "pressed", "stopped", "held", "advanced", "Desk", "guarded_places", "Track", "LEAST_ROUNDS", "read_length", "read_clip", "read_lead", "read_line", "read_parts", "write_parts", "check_names", "count_guards", "Stage", "_law_box", "_law_draw", "_law_int", "_law_same", "_law_kinds", "_law_alone", "_law_undone"] : List PySem.Str)
theorem run (w : World) : HandSHeadRun.RunEq R (PySem.W.view R.prog [99]) hk ob 30000 loose w := by
  intro os
  kernel_rfl

end Lw
namespace Lw
open PySem PySem.Spec PyProof.Rows L2 He NdefX Bx
variable {P : Program} {w : World} {K : PySem.W.Frag} {mg : Str → Option Value} {base : Heap}
/-! ### the script's draws -/
/-- the box: its three numbers -/
def BoxV (H : Hp) (b : Addr) (x y z : Int) : Prop := H b = some (.lst [.int x, .int y, .int z]) ∧ 0 ≤ x ∧ 0 ≤ y ∧ y < 2147483647
def BoxAt (H : Hp) (b : Addr) : Prop := ∃ x y z : Int, BoxV H b x y z
def spBox (K : PySem.W.Frag) : Sp := fun vs H Q _ => ∃ (a : Addr) (ns : List Int) (i : Nat), vs = [.ref a, .int i] ∧ SqL K H a (ns.map V.int) ∧ ns.length ≤ 63 ∧ i ≤ 100 ∧ ∀ b H', Same H H' → H b = none → BoxAt H' b → Q (.ref b) H'
/-- a number below m is drawn -/
def spDraw : Sp := fun vs H Q _ => ∃ (b : Addr) (m : Int), vs = [.ref b, .int m] ∧ BoxAt H b ∧ 0 < m ∧ m.natAbs.log2 < 1900 ∧ ∀ r x y z : Int, 0 ≤ r → r < m → 0 ≤ x → 0 ≤ y → y < 2147483647 → Q (.int r) (upd H b (.lst [.int x, .int y, .int z]))
theorem abs_nn (i : Int) : (0 : Int) ≤ if i < 0 then -i else i := by split <;> omega
theorem cut16 (ns : List Int) : cutV (ns.map V.int) none (some 16) = (ns.take 16).map V.int := by
  have e : HT.sIx (ns.map V.int).length (ns.map V.int).length (some 16) = min 16 (ns.map V.int).length := HT.sIx_nat _ _ 16
  unfold cutV
  rw [e, HT.sIx_none, List.drop_zero, Nat.sub_zero, List.map_take, ← List.take_eq_take_min]
theorem sc__law_box : FnScope n__law_box p__law_box (defScope s__law_box) := ⟨rfl, rfl, rfl, by decide +kernel, rfl, by decide +kernel, by decide +kernel⟩
theorem ok__law_box {f : Addr} {fd : FuncData} (F : FnP K "_law_box" s__law_box f fd) (T : Txt P K mg) : FnOk P w K mg base (L2.CX P w) 1 f fd p__law_box (spBox K) := by
  refine F.ok sc__law_box (fun vs H Q E h => ?_) (fun cdv A outer s H vs Q E hr h => ?_)
  · obtain ⟨a, ns, i, rfl, _⟩ := h
    rfl
  · obtain ⟨a, ns, i, rfl, hS, hl, hi, k⟩ := h
    have nd := sc__law_box.nd
    refine ⟨_, (by exact (pss_cons (ps_set (i := 2) nd rfl (Or.inl rfl) pe_int)
      (Bx.pss_cut (ps_if (pt_cmpR ou_lt (pv 1) (pe_callB cu_len (by rfl) T.f_len (by decide +kernel) (pa_cons (pv 0) pa_nil)) (nomark _)) (pss_one (ps_set (i := 2) nd rfl (Or.inl rfl) (pe_callB cu_abs (by rfl) T.f_abs (by decide +kernel) (pa_cons (pe_ix ou_ix (pv 0) (pv 1) (fun _ _ => rfl)) pa_nil)))) pss_nil)
      (pss_cons (ps_set (i := 3) nd rfl (Or.inl rfl) (pe_op ou_add (pe_op ou_add (pe_op ou_mul (pe_callB cu_len (by rfl) T.f_len (by decide +kernel) (pa_cons (pv 0) pa_nil)) pe_int) (pe_op ou_mul (pv 1) pe_int)) pe_int))
      (pss_cons (ps_for (passes_of rfl) rfl (pi_list (pe_slice ou_sl (pv 0) po_none (po_some pe_int))) (pg_name (i := 4) nd rfl (Or.inl rfl)) (pss_one (ps_set (i := 3) nd rfl (Or.inl rfl) (pe_op ou_mod (pe_callTy cu_int (by rfl) T.f_int (by decide +kernel) (pa_cons (pe_op ou_add (pe_op ou_mul (pv 3) pe_int) (pe_callB cu_abs (by rfl) T.f_abs (by decide +kernel) (pa_cons (pv 4) pa_nil))) pa_nil)) pe_int))))
      (pss_cons (ps_if (pt_cmpR ou_ge (pv 2) (pe_op ou_pow pe_int pe_int) (nomark _)) (pss_one (ps_ret (pe_lst (pa_cons (pv 2) (pa_cons (pv 3) (pa_cons pe_int pa_nil)))))) pss_nil)
      (pss_one (ps_ret (pe_lst (pa_cons pe_int (pa_cons (pe_op ou_mod (pe_callTy cu_int (by rfl) T.f_int (by decide +kernel) (pa_cons (pe_op ou_add (pv 3) (pe_op ou_mul (pv 2) pe_int)) pa_nil)) pe_int) (pa_cons pe_int pa_nil)))))))))))), ?_⟩
    walk_at "rd0"
    have hlen : (ns.map V.int).length = ns.length := List.length_map ..
    -- behind the first test: any cell
    refine r_cut (fun σ' H' => ∃ c : Int, 0 ≤ c ∧ σ' = [some (.ref a), some (.int i), some (.int c), none, none] ∧ H' = H) ?_ ?_
    · walk_at "rd"
      refine br (fun c => ?_) (fun _ => ⟨0, by decide, rfl, rfl⟩)
      walk_at "rd"
      have hi2 : i < ns.length := by omega
      refine a_ixL hS rfl (by rw [List.getElem?_map, List.getElem?_eq_getElem hi2]; rfl) ?_
      walk_at "rd"
      exact ⟨_, abs_nn _, rfl, rfl⟩
    · rintro σ' H' ⟨c, hc, rfl, rfl⟩
      walk_at "rd"
      refine a_slL hS fun p hp => ?_
      rw [cut16]
      refine a_iL (SqL.of upd_same) ?_
      refine f_list ((ns.take 16).map V.int) (fun _ σ'' H'' => (∃ (z : Int) (o : Option V), (0 ≤ z ∧ z < 2147483647) ∧ σ'' = [some (.ref a), some (.int i), some (.int c), some (.int z), o]) ∧ H'' = upd H' p (.lst ((ns.take 16).map V.int)))
        ⟨⟨_, _, ?_, rfl⟩, rfl⟩ (fun _ _ _ _ h => h.2 ▸ SqL.of upd_same) ?_ ?_
      · omega
      · rintro j v σ'' H'' hv ⟨⟨z, o, hz, rfl⟩, rfl⟩
        obtain ⟨n, rfl⟩ : ∃ n, v = V.int n := by
          rw [List.getElem?_map] at hv
          cases e : (ns.take 16)[j]? with
          | none => rw [e] at hv; cases hv
          | some n => rw [e] at hv; exact ⟨n, (Option.some.inj hv).symm⟩
        walk_at "rd"
        exact ⟨⟨_, _, ⟨Int.emod_nonneg _ (by decide), Int.emod_lt_of_pos _ (by decide)⟩, rfl⟩, rfl⟩
      · rintro σ'' H'' ⟨⟨z, o, hz, rfl⟩, rfl⟩
        walk_at "rd"
        refine br (fun g => ?_) (fun _ => ?_)
        · walk_at "rd"
          refine r_new (by simp) fun q hq => ?_
          exact k q _ (Same.new (Same.new (Same.refl _) hp) hq) (up_none hq).1 ⟨_, _, _, upd_same, hc, hz.1, hz.2⟩
        · walk_at "rd"
          refine r_new (by simp) fun q hq => ?_
          exact k q _ (Same.new (Same.new (Same.refl _) hp) hq) (up_none hq).1 ⟨_, _, _, upd_same, by decide, Int.emod_nonneg _ (by decide), Int.emod_lt_of_pos _ (by decide)⟩
theorem has__law_box (T : Txt P K mg) : HasF P w K mg base 1 "_law_box" p__law_box (spBox K) := by
  obtain ⟨fd, F⟩ := T.d__law_box
  exact ⟨⟨fd, ok__law_box F T, F.bindsN fun _ _ _ _ _ _ us hl => match us, hl with | [_, _], _ => rfl⟩, T.m__law_box, F.kp⟩
theorem sc__law_draw : FnScope n__law_draw p__law_draw (defScope s__law_draw) := ⟨rfl, rfl, rfl, by decide +kernel, rfl, by decide +kernel, by decide +kernel⟩
theorem ok__law_draw {f : Addr} {fd : FuncData} (F : FnP K "_law_draw" s__law_draw f fd) (T : Txt P K mg) : FnOk P w K mg base (L2.CX P w) 1 f fd p__law_draw spDraw := by
  refine F.ok sc__law_draw (fun vs H Q E h => ?_) (fun cdv A outer s H vs Q E hr h => ?_)
  · obtain ⟨b, m, rfl, _⟩ := h
    rfl
  · obtain ⟨b, m, rfl, ⟨x, y, z, hb, hx, hy, hy2⟩, hm, hm2, k⟩ := h
    have nd := sc__law_draw.nd
    refine ⟨_, (by exact (pss_cons (ps_if (pt_cmpR ou_gt (pe_ix ou_ix (pv 0) pe_int (fun _ _ => rfl)) pe_int (nomark _)) (pss_cons (ps_set (i := 2) nd rfl (Or.inl rfl) (pe_op ou_mod (pe_callTy cu_int (by rfl) T.f_int (by decide +kernel) (pa_cons (pe_ix ou_ix (pv 0) pe_int (fun _ _ => rfl)) pa_nil)) (pv 1)))
      (pss_cons (ps_asg (pe_op ou_div (pe_ix ou_ix (pv 0) pe_int (fun _ _ => rfl)) (pv 1)) (pg_sub (pv 0) pe_int set_list))
      (pss_one (ps_ret (pv 2))))) pss_nil)
      (pss_cons (ps_asg (pe_op ou_add (pe_ix ou_ix (pv 0) pe_int (fun _ _ => rfl)) pe_int) (pg_sub (pv 0) pe_int set_list))
      (pss_cons (ps_set (i := 3) nd rfl (Or.inl rfl) pe_int)
      (pss_cons (ps_for (passes_of rfl) rfl (pi_range1 rfl T.f_range (pa_cons (pe_op ou_add pe_int (pe_op ou_div (pe_callB cu_len (by rfl) T.f_len (by decide +kernel) (pa_cons (pe_callTy cu_str (by rfl) T.f_str (by decide +kernel) (pa_cons (pv 1) pa_nil)) pa_nil)) pe_int)) pa_nil)) (pg_name (i := 4) nd rfl (Or.inl rfl)) (pss_cons (ps_set (i := 5) nd rfl (Or.inl rfl) (pe_op ou_mod (pe_callTy cu_int (by rfl) T.f_int (by decide +kernel) (pa_cons (pe_op ou_add (pe_op ou_add (pe_op ou_add (pe_op ou_mul (pe_ix ou_ix (pv 0) pe_int (fun _ _ => rfl)) pe_int) (pe_op ou_mul (pe_ix ou_ix (pv 0) pe_int (fun _ _ => rfl)) pe_int)) (pe_op ou_mul (pv 4) pe_int)) pe_int) pa_nil)) pe_int))
      (pss_cons (ps_set (i := 5) nd rfl (Or.inl rfl) (pe_op ou_mod (pe_callTy cu_int (by rfl) T.f_int (by decide +kernel) (pa_cons (pe_op ou_add (pe_op ou_add (pe_op ou_mul (pv 5) (pv 5)) (pe_op ou_mul pe_int (pe_ix ou_ix (pv 0) pe_int (fun _ _ => rfl)))) (pv 4)) pa_nil)) pe_int))
      (pss_cons (ps_set (i := 6) nd rfl (Or.inl rfl) (pe_op ou_mod (pe_callTy cu_int (by rfl) T.f_int (by decide +kernel) (pa_cons (pe_op ou_add (pe_op ou_add (pe_op ou_mul (pv 5) (pv 5)) (pe_op ou_mul pe_int (pv 5))) (pe_ix ou_ix (pv 0) pe_int (fun _ _ => rfl))) pa_nil)) pe_int))
      (pss_one (ps_set (i := 3) nd rfl (Or.inl rfl) (pe_op ou_add (pe_op ou_mul (pv 3) pe_int) (pv 6))))))))
      (pss_one (ps_ret (pe_op ou_mod (pe_callTy cu_int (by rfl) T.f_int (by decide +kernel) (pa_cons (pv 3) pa_nil)) (pv 1))))))))), ?_⟩
    walk_at "rd0"
    refine br (fun hp => ?_) (fun _ => ?_)
    · walk_at "rd"
      refine a_mod hm ?_
      walk_at "rd"
      refine a_div hm (by omega) ?_
      walk_at "rd"
      refine a_setL (j := 0) hb rfl (by simp) ?_
      walk_at "rd"
      exact k _ _ _ _ (Int.emod_nonneg _ (by omega)) (Int.emod_lt_of_pos _ hm) (Int.ediv_nonneg hx (by omega)) hy hy2
    · walk_at "rd"
      refine a_setL (j := 2) hb rfl (by simp) ?_
      have hb1 : upd H b (.lst ([V.int x, V.int y, V.int z].set 2 (.int (z + 1)))) b = some (.lst [V.int x, V.int y, V.int (z + 1)]) := upd_same
      have e1 : ∀ o : HO, upd (upd H b (.lst ([V.int x, V.int y, V.int z].set 2 (.int (z + 1))))) b o = upd H b o := fun o => upd_upd
      have e2 : upd H b (.lst ([V.int x, V.int y, V.int z].set 2 (.int (z + 1)))) = upd H b (.lst [V.int x, V.int y, V.int (z + 1)]) := rfl
      walk_at "rd"
      have hl : (PySem.Str.ofString (toString m)).length ≤ 1921 := PyProof.Rows.int_text_len_1921 (by omega)
      refine a_str (by omega) ?_
      walk_at "rd"
      refine a_lenS (by omega) ?_
      walk_at "rd"
      refine a_iR1 (by omega) (by omega) ?_
      refine f_range (fun _ σ' H' => (∃ (t : Int) (o4 o5 o6 : Option V), σ' = [some (.ref b), some (.int m), none, some (.int t), o4, o5, o6]) ∧ H' = upd H b (.lst [V.int x, V.int y, V.int (z + 1)])) ⟨⟨_, _, _, _, rfl⟩, rfl⟩ ?_ ?_
      · rintro i σ' H' hi ⟨⟨t, o4, o5, o6, rfl⟩, rfl⟩
        have hb2 : upd H b (.lst [V.int x, V.int y, V.int (z + 1)]) b = some (.lst [V.int x, V.int y, V.int (z + 1)]) := upd_same
        walk_at "rd"
        generalize hq : (y * 48271 + (z + 1) * 69621 + (0 + (i : Int)) * 9973 + 11) % 2147483647 = q
        have q0 : 0 ≤ q := by rw [← hq]; exact Int.emod_nonneg _ (by decide)
        have q1 : q < 2147483647 := by rw [← hq]; exact Int.emod_lt_of_pos _ (by decide)
        refine a_mulL (by omega) (by omega) ?_
        walk_at "rd"
        generalize hp : (q * q + 40692 * (z + 1) + (0 + (i : Int))) % 2147483629 = p
        have p0 : 0 ≤ p := by rw [← hp]; exact Int.emod_nonneg _ (by decide)
        have p1 : p < 2147483629 := by rw [← hp]; exact Int.emod_lt_of_pos _ (by decide)
        refine a_mulL (by omega) (by omega) ?_
        walk_at "rd"
        exact ⟨⟨_, _, _, _, rfl⟩, rfl⟩
      · rintro σ' H' ⟨⟨t, o4, o5, o6, rfl⟩, rfl⟩
        walk_at "rd"
        refine a_mod hm ?_
        exact k _ _ _ _ (Int.emod_nonneg _ (by omega)) (Int.emod_lt_of_pos _ hm) hx hy hy2
theorem has__law_draw (T : Txt P K mg) : HasF P w K mg base 1 "_law_draw" p__law_draw spDraw := by
  obtain ⟨fd, F⟩ := T.d__law_draw
  exact ⟨⟨fd, ok__law_draw F T, F.bindsN fun _ _ _ _ _ _ us hl => match us, hl with | [_, _], _ => rfl⟩, T.m__law_draw, F.kp⟩

end Lw
namespace Lw
open PySem PySem.Spec PyProof.Rows L2 He NdefX Bx
variable {P : Program} {w : World} {K : PySem.W.Frag} {mg : Str → Option Value} {base : Heap}
/-! ### data alike -/
/-- alike by depth n -/
def Sm (H : Hp) : Nat → V → V → Prop
  | 0, _, _ => False
  | n + 1, x, y => (x = .non ∧ y = .non) ∨ (∃ b, x = .bl b ∧ y = .bl b) ∨ (∃ i, x = .int i ∧ y = .int i) ∨ (∃ z, x = .str z ∧ y = .str z) ∨
    (∃ a b xs ys, x = .ref a ∧ y = .ref b ∧ ((H a = some (.lst xs) ∧ H b = some (.lst ys)) ∨ (H a = some (.tup xs) ∧ H b = some (.tup ys))) ∧ xs.length = ys.length ∧ ys.length ≤ 100000 ∧ ∀ (i : Nat) u v, xs[i]? = some u → ys[i]? = some v → Sm H n u v)
def spSm (n : Nat) : Sp := fun vs H Q _ => ∃ x y, vs = [x, y] ∧ Sm H n x y ∧ Q (.bl true) H
def spInt : Sp := fun vs H Q _ => (∃ i, vs = [.int i] ∧ Q (.bl true) H)
theorem sc__law_int : FnScope n__law_int p__law_int (defScope s__law_int) := ⟨rfl, rfl, rfl, by decide +kernel, rfl, by decide +kernel, by decide +kernel⟩
theorem ok__law_int {f : Addr} {fd : FuncData} (F : FnP K "_law_int" s__law_int f fd) (T : Txt P K mg) : FnOk P w K mg base (L2.CX P w) 1 f fd p__law_int spInt := by
  refine F.ok sc__law_int (fun vs H Q E h => ?_) (fun cdv A outer s H vs Q E hr h => ?_)
  · obtain ⟨i, rfl, _⟩ := h
    rfl
  · obtain ⟨i, rfl, k⟩ := h
    have nd := sc__law_int.nd
    refine ⟨_, (by exact (pss_one (ps_ret (pe_and (pe_callB cu_isi (by rfl) T.f_isinstance (by decide +kernel) (pa_cons (pv 0) (pa_cons (pe_bltn (v := .ty "int") (by rfl) T.f_int (by decide +kernel) rfl) pa_nil))) (pe_one (pe_not (pe_callB cu_isi (by rfl) T.f_isinstance (by decide +kernel) (pa_cons (pv 0) (pa_cons (pe_bltn (v := .ty "bool") (by rfl) T.f_bool (by decide +kernel) rfl) pa_nil))))))))), ?_⟩
    walk_at "rd0"
    exact k
theorem has__law_int (T : Txt P K mg) : HasF P w K mg base 1 "_law_int" p__law_int spInt := by
  obtain ⟨fd, F⟩ := T.d__law_int
  exact ⟨⟨fd, ok__law_int F T, F.bindsN fun _ _ _ _ _ _ us hl => match us, hl with | [_], _ => rfl⟩, T.m__law_int, F.kp⟩
theorem sc__law_same : FnScope n__law_same p__law_same (defScope s__law_same) := ⟨rfl, rfl, rfl, by decide +kernel, rfl, by decide +kernel, by decide +kernel⟩
theorem ok__law_same {f : Addr} {fd : FuncData} {n k : Nat} (F : FnP K "_law_same" s__law_same f fd) (T : Txt P K mg) (H__law_int : HasF P w K mg base 1 "_law_int" p__law_int spInt) (H__law_same : HasF P w K mg base (k + 1) "_law_same" p__law_same (spSm n)) :
    FnOk P w K mg base (L2.CX P w) (k + 2) f fd p__law_same (spSm (n + 1)) := by
  refine F.ok sc__law_same (fun vs H Q E h => ?_) (fun cdv A outer s H vs Q E hr h => ?_)
  · obtain ⟨x, y, rfl, _⟩ := h
    rfl
  · obtain ⟨x, y, rfl, hS, q⟩ := h
    have nd := sc__law_same.nd
    refine ⟨_, (by exact (pss_cons (ps_if (pt_cmpR ou_is (pv 1) pe_non (nomark _)) (pss_one (ps_ret (pe_cmpR ou_is (pv 0) pe_non (nomark _)))) pss_nil)
      (pss_cons (ps_if (pt_val (pe_callB cu_isi (by rfl) T.f_isinstance (by decide +kernel) (pa_cons (pv 1) (pa_cons (pe_bltn (v := .ty "bool") (by rfl) T.f_bool (by decide +kernel) rfl) pa_nil)))) (pss_one (ps_ret (pe_and (pe_callB cu_isi (by rfl) T.f_isinstance (by decide +kernel) (pa_cons (pv 0) (pa_cons (pe_bltn (v := .ty "bool") (by rfl) T.f_bool (by decide +kernel) rfl) pa_nil))) (pe_one (pe_cmpR (ou_eq hr.units) (pv 0) (pv 1) (nomark _)))))) pss_nil)
      (pss_cons (ps_if (pt_val (pe_callB cu_isi (by rfl) T.f_isinstance (by decide +kernel) (pa_cons (pv 1) (pa_cons (pe_bltn (v := .ty "int") (by rfl) T.f_int (by decide +kernel) rfl) pa_nil)))) (pss_one (ps_ret (pe_and (pe_fn H__law_int hr (by omega) passL (by rfl) (pa_cons (pv 0) pa_nil)) (pe_one (pe_cmpR (ou_eq hr.units) (pv 0) (pv 1) (nomark _)))))) pss_nil)
      (pss_cons (ps_if (pt_val (pe_callB cu_isi (by rfl) T.f_isinstance (by decide +kernel) (pa_cons (pv 1) (pa_cons (pe_bltn (v := .ty "str") (by rfl) T.f_str (by decide +kernel) rfl) pa_nil)))) (pss_one (ps_ret (pe_and (pe_callB cu_isi (by rfl) T.f_isinstance (by decide +kernel) (pa_cons (pv 0) (pa_cons (pe_bltn (v := .ty "str") (by rfl) T.f_str (by decide +kernel) rfl) pa_nil))) (pe_one (pe_cmpR (ou_eq hr.units) (pv 0) (pv 1) (nomark _)))))) pss_nil)
      (pss_cons (ps_if (PW.pt (pw_or (pt_cmpR (ou_ne hr.units) (pe_callB cu_isi (by rfl) T.f_isinstance (by decide +kernel) (pa_cons (pv 1) (pa_cons (pe_bltn (v := .ty "list") (by rfl) T.f_list (by decide +kernel) rfl) pa_nil))) (pe_callB cu_isi (by rfl) T.f_isinstance (by decide +kernel) (pa_cons (pv 0) (pa_cons (pe_bltn (v := .ty "list") (by rfl) T.f_list (by decide +kernel) rfl) pa_nil))) (nomark _)) (pw_or1 (pt_cmpR (ou_ne hr.units) (pe_callB cu_isi (by rfl) T.f_isinstance (by decide +kernel) (pa_cons (pv 1) (pa_cons (pe_bltn (v := .ty "tuple") (by rfl) T.f_tuple (by decide +kernel) rfl) pa_nil))) (pe_callB cu_isi (by rfl) T.f_isinstance (by decide +kernel) (pa_cons (pv 0) (pa_cons (pe_bltn (v := .ty "tuple") (by rfl) T.f_tuple (by decide +kernel) rfl) pa_nil))) (nomark _))))) (pss_one (ps_ret pe_bl)) pss_nil)
      (pss_cons (ps_if (pt_cmpR (ou_ne hr.units) (pe_callB cu_len (by rfl) T.f_len (by decide +kernel) (pa_cons (pv 0) pa_nil)) (pe_callB cu_len (by rfl) T.f_len (by decide +kernel) (pa_cons (pv 1) pa_nil)) (nomark _)) (pss_one (ps_ret pe_bl)) pss_nil)
      (pss_cons (ps_for (passes_of rfl) rfl (pi_range1 rfl T.f_range (pa_cons (pe_callB cu_len (by rfl) T.f_len (by decide +kernel) (pa_cons (pv 1) pa_nil)) pa_nil)) (pg_name (i := 2) nd rfl (Or.inl rfl)) (pss_one (ps_if (pt_not (pt_val (pe_fn H__law_same hr (by omega) passL (by rfl) (pa_cons (pe_ix ou_ix (pv 0) (pv 2) (fun _ _ => rfl)) (pa_cons (pe_ix ou_ix (pv 1) (pv 2) (fun _ _ => rfl)) pa_nil))))) (pss_one (ps_ret pe_bl)) pss_nil)))
      (pss_one (ps_ret pe_bl)))))))))), ?_⟩
    rcases hS with ⟨rfl, rfl⟩ | ⟨b, rfl, rfl⟩ | ⟨i, rfl, rfl⟩ | ⟨z, rfl, rfl⟩ | ⟨a, b, xs, ys, rfl, rfl, hT, hlen, hmax, hall⟩
    · walk_at "rd0"
      exact q
    · walk_at "rd0"
      rw [decide_eq_true rfl]
      exact q
    · walk_at "rd0"
      refine ⟨i, rfl, ?_⟩
      walk_at "rd"
      rw [decide_eq_true rfl]
      exact q
    · walk_at "rd0"
      rw [decide_eq_true rfl]
      exact q
    · rcases hT with ⟨ha, hb⟩ | ⟨ha, hb⟩
      · walk_at "rd0"
        refine brN (fun g => absurd (by rw [hlen]) g) (fun _ => ?_)
        walk_at "rd"
        refine a_iR1 (by omega) (by omega) ?_
        refine f_range (fun _ σ' H' => (∃ o : Option V, σ' = [some (.ref a), some (.ref b), o]) ∧ H' = H) ⟨⟨_, rfl⟩, rfl⟩ ?_ ?_
        · rintro i σ' H' hi ⟨⟨o, rfl⟩, rfl⟩
          walk_at "rd"
          have hi2 : i < ys.length := by omega
          have hi1 : i < xs.length := by omega
          refine a_ixL (j := i) (SqL.of ha) (by omega) (List.getElem?_eq_getElem hi1) ?_
          walk_at "rd"
          refine a_ixL (j := i) (SqL.of hb) (by omega) (List.getElem?_eq_getElem hi2) ?_
          walk_at "rd"
          refine ⟨_, _, rfl, hall i _ _ (List.getElem?_eq_getElem hi1) (List.getElem?_eq_getElem hi2), ?_⟩
          walk_at "rd"
          exact ⟨⟨_, rfl⟩, rfl⟩
        · rintro σ' H' ⟨⟨o, rfl⟩, rfl⟩
          walk_at "rd"
          exact q
      · walk_at "rd0"
        refine brN (fun g => absurd (by rw [hlen]) g) (fun _ => ?_)
        walk_at "rd"
        refine a_iR1 (by omega) (by omega) ?_
        refine f_range (fun _ σ' H' => (∃ o : Option V, σ' = [some (.ref a), some (.ref b), o]) ∧ H' = H) ⟨⟨_, rfl⟩, rfl⟩ ?_ ?_
        · rintro i σ' H' hi ⟨⟨o, rfl⟩, rfl⟩
          walk_at "rd"
          have hi2 : i < ys.length := by omega
          have hi1 : i < xs.length := by omega
          refine a_ixT (j := i) (SqT.of ha) (by omega) (List.getElem?_eq_getElem hi1) ?_
          walk_at "rd"
          refine a_ixT (j := i) (SqT.of hb) (by omega) (List.getElem?_eq_getElem hi2) ?_
          walk_at "rd"
          refine ⟨_, _, rfl, hall i _ _ (List.getElem?_eq_getElem hi1) (List.getElem?_eq_getElem hi2), ?_⟩
          walk_at "rd"
          exact ⟨⟨_, rfl⟩, rfl⟩
        · rintro σ' H' ⟨⟨o, rfl⟩, rfl⟩
          walk_at "rd"
          exact q
theorem has__law_same (T : Txt P K mg) : ∀ n : Nat, HasF P w K mg base (n + 1) "_law_same" p__law_same (spSm n)
  | 0 => by
    obtain ⟨fd, F⟩ := T.d__law_same
    exact ⟨⟨fd, F.ok sc__law_same (fun vs H Q E h => by obtain ⟨x, y, rfl, _⟩ := h; rfl) (fun cdv A outer s H vs Q E hr h => by obtain ⟨x, y, rfl, h, _⟩ := h; exact h.elim), F.bindsN fun _ _ _ _ _ _ us hl => match us, hl with | [_, _], _ => rfl⟩, T.m__law_same, F.kp⟩
  | n + 1 => by
    obtain ⟨fd, F⟩ := T.d__law_same
    exact ⟨⟨fd, ok__law_same F T (has__law_int T) (has__law_same T n), F.bindsN fun _ _ _ _ _ _ us hl => match us, hl with | [_, _], _ => rfl⟩, T.m__law_same, F.kp⟩

end Lw
namespace Lw
open PySem PySem.Spec PyProof.Rows L2 He NdefX Bx
variable {P : Program} {w : World} {K : PySem.W.Frag} {mg : Str → Option Value} {base : Heap}
theorem sc_BadName___init__ : NScope n_BadName___init__ p_BadName___init__ ["__class__"] (defScope s_BadName___init__) := nscope_by (by decide +kernel)
theorem ok_BadName___init__ {f : Addr} {fd : FuncData} (F : FunS K clFile "__init__" "BadName.__init__" (defArgs s_BadName___init__) (defBody s_BadName___init__) (defScope s_BadName___init__) [] [] (ga K "BadName") f fd) (T : Txt P K mg) : FnOk P w K mg base (L2.CX P w) 1 f fd p_BadName___init__ (spI1 (ga K "BadName") "name") := by
  refine F.ok sc_BadName___init__ (fun vs H Q E h => ?_) T.hfl T.htop T.f_super T.cl_BadName T.opq_ rfl rfl rfl rfl fun cda cc A outer s H vs Q E hr S h => ?_
  · obtain ⟨a, y, rfl, _⟩ := h
    rfl
  · obtain ⟨a, y, rfl, ha, k⟩ := h
    have nd := sc_BadName___init__.nd
    refine ⟨_, pssC_expr (pec_supX S (pa_cons pe_str pa_nil)) (pss_one (ps_ost (pv 0) (pv 1))), ?_⟩
    refine ⟨a, _, rfl, ha, T.x_BadName.oex, T.x_BadName.hs, T.x_BadName.su, T.x_BadName.hve, ⟨by decide, ha, ?_⟩⟩
    exact ⟨y, rfl, .ref a, rfl, a, _, rfl, T.x_BadName.oex, T.nf_BadName_name, .inl ⟨ha, fun dx n ne => k dx n ne⟩⟩
theorem has_BadName (T : Txt P K mg) : HasX P w K mg base 1 "BadName" p_BadName___init__ (spI1 (ga K "BadName") "name") := by
  obtain ⟨fd, F⟩ := T.ds_BadName___init__
  exact ⟨⟨fd, ok_BadName___init__ F T, F.bindsN fun _ _ _ _ _ _ _ us hl => match us, hl with | [_, _], _ => rfl⟩, T.x_BadName, T.xi_BadName, T.xt_BadName, T.m_BadName⟩
theorem sc_BadNumber___init__ : NScope n_BadNumber___init__ p_BadNumber___init__ ["__class__"] (defScope s_BadNumber___init__) := nscope_by (by decide +kernel)
theorem ok_BadNumber___init__ {f : Addr} {fd : FuncData} (F : FunS K clFile "__init__" "BadNumber.__init__" (defArgs s_BadNumber___init__) (defBody s_BadNumber___init__) (defScope s_BadNumber___init__) [] [] (ga K "BadNumber") f fd) (T : Txt P K mg) : FnOk P w K mg base (L2.CX P w) 1 f fd p_BadNumber___init__ (spI1 (ga K "BadNumber") "value") := by
  refine F.ok sc_BadNumber___init__ (fun vs H Q E h => ?_) T.hfl T.htop T.f_super T.cl_BadNumber T.opq_ rfl rfl rfl rfl fun cda cc A outer s H vs Q E hr S h => ?_
  · obtain ⟨a, y, rfl, _⟩ := h
    rfl
  · obtain ⟨a, y, rfl, ha, k⟩ := h
    have nd := sc_BadNumber___init__.nd
    refine ⟨_, pssC_expr (pec_supX S (pa_cons pe_str pa_nil)) (pss_one (ps_ost (pv 0) (pv 1))), ?_⟩
    refine ⟨a, _, rfl, ha, T.x_BadNumber.oex, T.x_BadNumber.hs, T.x_BadNumber.su, T.x_BadNumber.hve, ⟨by decide, ha, ?_⟩⟩
    exact ⟨y, rfl, .ref a, rfl, a, _, rfl, T.x_BadNumber.oex, T.nf_BadNumber_value, .inl ⟨ha, fun dx n ne => k dx n ne⟩⟩
theorem has_BadNumber (T : Txt P K mg) : HasX P w K mg base 1 "BadNumber" p_BadNumber___init__ (spI1 (ga K "BadNumber") "value") := by
  obtain ⟨fd, F⟩ := T.ds_BadNumber___init__
  exact ⟨⟨fd, ok_BadNumber___init__ F T, F.bindsN fun _ _ _ _ _ _ _ us hl => match us, hl with | [_, _], _ => rfl⟩, T.x_BadNumber, T.xi_BadNumber, T.xt_BadNumber, T.m_BadNumber⟩
theorem sc_BadWord___init__ : NScope n_BadWord___init__ p_BadWord___init__ ["__class__"] (defScope s_BadWord___init__) := nscope_by (by decide +kernel)
theorem ok_BadWord___init__ {f : Addr} {fd : FuncData} (F : FunS K clFile "__init__" "BadWord.__init__" (defArgs s_BadWord___init__) (defBody s_BadWord___init__) (defScope s_BadWord___init__) [] [] (ga K "BadWord") f fd) (T : Txt P K mg) : FnOk P w K mg base (L2.CX P w) 1 f fd p_BadWord___init__ (spI1 (ga K "BadWord") "word") := by
  refine F.ok sc_BadWord___init__ (fun vs H Q E h => ?_) T.hfl T.htop T.f_super T.cl_BadWord T.opq_ rfl rfl rfl rfl fun cda cc A outer s H vs Q E hr S h => ?_
  · obtain ⟨a, y, rfl, _⟩ := h
    rfl
  · obtain ⟨a, y, rfl, ha, k⟩ := h
    have nd := sc_BadWord___init__.nd
    refine ⟨_, pssC_expr (pec_supX S (pa_cons pe_str pa_nil)) (pss_one (ps_ost (pv 0) (pv 1))), ?_⟩
    refine ⟨a, _, rfl, ha, T.x_BadWord.oex, T.x_BadWord.hs, T.x_BadWord.su, T.x_BadWord.hve, ⟨by decide, ha, ?_⟩⟩
    exact ⟨y, rfl, .ref a, rfl, a, _, rfl, T.x_BadWord.oex, T.nf_BadWord_word, .inl ⟨ha, fun dx n ne => k dx n ne⟩⟩
theorem has_BadWord (T : Txt P K mg) : HasX P w K mg base 1 "BadWord" p_BadWord___init__ (spI1 (ga K "BadWord") "word") := by
  obtain ⟨fd, F⟩ := T.ds_BadWord___init__
  exact ⟨⟨fd, ok_BadWord___init__ F T, F.bindsN fun _ _ _ _ _ _ _ us hl => match us, hl with | [_, _], _ => rfl⟩, T.x_BadWord, T.xi_BadWord, T.xt_BadWord, T.m_BadWord⟩
theorem sc_BadLine___init__ : NScope n_BadLine___init__ p_BadLine___init__ ["__class__"] (defScope s_BadLine___init__) := nscope_by (by decide +kernel)
theorem ok_BadLine___init__ {f : Addr} {fd : FuncData} (F : FunS K clFile "__init__" "BadLine.__init__" (defArgs s_BadLine___init__) (defBody s_BadLine___init__) (defScope s_BadLine___init__) [] [] (ga K "BadLine") f fd) (T : Txt P K mg) : FnOk P w K mg base (L2.CX P w) 1 f fd p_BadLine___init__ (spI1 (ga K "BadLine") "number") := by
  refine F.ok sc_BadLine___init__ (fun vs H Q E h => ?_) T.hfl T.htop T.f_super T.cl_BadLine T.opq_ rfl rfl rfl rfl fun cda cc A outer s H vs Q E hr S h => ?_
  · obtain ⟨a, y, rfl, _⟩ := h
    rfl
  · obtain ⟨a, y, rfl, ha, k⟩ := h
    have nd := sc_BadLine___init__.nd
    refine ⟨_, pssC_expr (pec_supX S (pa_cons pe_str pa_nil)) (pss_one (ps_ost (pv 0) (pv 1))), ?_⟩
    refine ⟨a, _, rfl, ha, T.x_BadLine.oex, T.x_BadLine.hs, T.x_BadLine.su, T.x_BadLine.hve, ⟨by decide, ha, ?_⟩⟩
    exact ⟨y, rfl, .ref a, rfl, a, _, rfl, T.x_BadLine.oex, T.nf_BadLine_number, .inl ⟨ha, fun dx n ne => k dx n ne⟩⟩
theorem has_BadLine (T : Txt P K mg) : HasX P w K mg base 1 "BadLine" p_BadLine___init__ (spI1 (ga K "BadLine") "number") := by
  obtain ⟨fd, F⟩ := T.ds_BadLine___init__
  exact ⟨⟨fd, ok_BadLine___init__ F T, F.bindsN fun _ _ _ _ _ _ _ us hl => match us, hl with | [_, _], _ => rfl⟩, T.x_BadLine, T.xi_BadLine, T.xt_BadLine, T.m_BadLine⟩
theorem sc_BadSetting___init__ : NScope n_BadSetting___init__ p_BadSetting___init__ ["__class__"] (defScope s_BadSetting___init__) := nscope_by (by decide +kernel)
theorem ok_BadSetting___init__ {f : Addr} {fd : FuncData} (F : FunS K clFile "__init__" "BadSetting.__init__" (defArgs s_BadSetting___init__) (defBody s_BadSetting___init__) (defScope s_BadSetting___init__) [] [] (ga K "BadSetting") f fd) (T : Txt P K mg) : FnOk P w K mg base (L2.CX P w) 1 f fd p_BadSetting___init__ (spI1 (ga K "BadSetting") "size") := by
  refine F.ok sc_BadSetting___init__ (fun vs H Q E h => ?_) T.hfl T.htop T.f_super T.cl_BadSetting T.opq_ rfl rfl rfl rfl fun cda cc A outer s H vs Q E hr S h => ?_
  · obtain ⟨a, y, rfl, _⟩ := h
    rfl
  · obtain ⟨a, y, rfl, ha, k⟩ := h
    have nd := sc_BadSetting___init__.nd
    refine ⟨_, pssC_expr (pec_supX S (pa_cons pe_str pa_nil)) (pss_one (ps_ost (pv 0) (pv 1))), ?_⟩
    refine ⟨a, _, rfl, ha, T.x_BadSetting.oex, T.x_BadSetting.hs, T.x_BadSetting.su, T.x_BadSetting.hve, ⟨by decide, ha, ?_⟩⟩
    exact ⟨y, rfl, .ref a, rfl, a, _, rfl, T.x_BadSetting.oex, T.nf_BadSetting_size, .inl ⟨ha, fun dx n ne => k dx n ne⟩⟩
theorem has_BadSetting (T : Txt P K mg) : HasX P w K mg base 1 "BadSetting" p_BadSetting___init__ (spI1 (ga K "BadSetting") "size") := by
  obtain ⟨fd, F⟩ := T.ds_BadSetting___init__
  exact ⟨⟨fd, ok_BadSetting___init__ F T, F.bindsN fun _ _ _ _ _ _ _ us hl => match us, hl with | [_, _], _ => rfl⟩, T.x_BadSetting, T.xi_BadSetting, T.xt_BadSetting, T.m_BadSetting⟩
theorem sc_NoClips___init__ : NScope n_NoClips___init__ p_NoClips___init__ ["__class__"] (defScope s_NoClips___init__) := nscope_by (by decide +kernel)
theorem ok_NoClips___init__ {f : Addr} {fd : FuncData} (F : FunS K clFile "__init__" "NoClips.__init__" (defArgs s_NoClips___init__) (defBody s_NoClips___init__) (defScope s_NoClips___init__) [] [] (ga K "NoClips") f fd) (T : Txt P K mg) : FnOk P w K mg base (L2.CX P w) 1 f fd p_NoClips___init__ (spI1 (ga K "NoClips") "name") := by
  refine F.ok sc_NoClips___init__ (fun vs H Q E h => ?_) T.hfl T.htop T.f_super T.cl_NoClips T.opq_ rfl rfl rfl rfl fun cda cc A outer s H vs Q E hr S h => ?_
  · obtain ⟨a, y, rfl, _⟩ := h
    rfl
  · obtain ⟨a, y, rfl, ha, k⟩ := h
    have nd := sc_NoClips___init__.nd
    refine ⟨_, pssC_expr (pec_supX S (pa_cons pe_str pa_nil)) (pss_one (ps_ost (pv 0) (pv 1))), ?_⟩
    refine ⟨a, _, rfl, ha, T.x_NoClips.oex, T.x_NoClips.hs, T.x_NoClips.su, T.x_NoClips.hve, ⟨by decide, ha, ?_⟩⟩
    exact ⟨y, rfl, .ref a, rfl, a, _, rfl, T.x_NoClips.oex, T.nf_NoClips_name, .inl ⟨ha, fun dx n ne => k dx n ne⟩⟩
theorem has_NoClips (T : Txt P K mg) : HasX P w K mg base 1 "NoClips" p_NoClips___init__ (spI1 (ga K "NoClips") "name") := by
  obtain ⟨fd, F⟩ := T.ds_NoClips___init__
  exact ⟨⟨fd, ok_NoClips___init__ F T, F.bindsN fun _ _ _ _ _ _ _ us hl => match us, hl with | [_, _], _ => rfl⟩, T.x_NoClips, T.xi_NoClips, T.xt_NoClips, T.m_NoClips⟩
theorem sc_Twice___init__ : NScope n_Twice___init__ p_Twice___init__ ["__class__"] (defScope s_Twice___init__) := nscope_by (by decide +kernel)
theorem ok_Twice___init__ {f : Addr} {fd : FuncData} (F : FunS K clFile "__init__" "Twice.__init__" (defArgs s_Twice___init__) (defBody s_Twice___init__) (defScope s_Twice___init__) [] [] (ga K "Twice") f fd) (T : Txt P K mg) : FnOk P w K mg base (L2.CX P w) 1 f fd p_Twice___init__ (spI1 (ga K "Twice") "name") := by
  refine F.ok sc_Twice___init__ (fun vs H Q E h => ?_) T.hfl T.htop T.f_super T.cl_Twice T.opq_ rfl rfl rfl rfl fun cda cc A outer s H vs Q E hr S h => ?_
  · obtain ⟨a, y, rfl, _⟩ := h
    rfl
  · obtain ⟨a, y, rfl, ha, k⟩ := h
    have nd := sc_Twice___init__.nd
    refine ⟨_, pssC_expr (pec_supX S (pa_cons pe_str pa_nil)) (pss_one (ps_ost (pv 0) (pv 1))), ?_⟩
    refine ⟨a, _, rfl, ha, T.x_Twice.oex, T.x_Twice.hs, T.x_Twice.su, T.x_Twice.hve, ⟨by decide, ha, ?_⟩⟩
    exact ⟨y, rfl, .ref a, rfl, a, _, rfl, T.x_Twice.oex, T.nf_Twice_name, .inl ⟨ha, fun dx n ne => k dx n ne⟩⟩
theorem has_Twice (T : Txt P K mg) : HasX P w K mg base 1 "Twice" p_Twice___init__ (spI1 (ga K "Twice") "name") := by
  obtain ⟨fd, F⟩ := T.ds_Twice___init__
  exact ⟨⟨fd, ok_Twice___init__ F T, F.bindsN fun _ _ _ _ _ _ _ us hl => match us, hl with | [_, _], _ => rfl⟩, T.x_Twice, T.xi_Twice, T.xt_Twice, T.m_Twice⟩
theorem sc_Unknown___init__ : NScope n_Unknown___init__ p_Unknown___init__ ["__class__"] (defScope s_Unknown___init__) := nscope_by (by decide +kernel)
theorem ok_Unknown___init__ {f : Addr} {fd : FuncData} (F : FunS K clFile "__init__" "Unknown.__init__" (defArgs s_Unknown___init__) (defBody s_Unknown___init__) (defScope s_Unknown___init__) [] [] (ga K "Unknown") f fd) (T : Txt P K mg) : FnOk P w K mg base (L2.CX P w) 1 f fd p_Unknown___init__ (spI1 (ga K "Unknown") "name") := by
  refine F.ok sc_Unknown___init__ (fun vs H Q E h => ?_) T.hfl T.htop T.f_super T.cl_Unknown T.opq_ rfl rfl rfl rfl fun cda cc A outer s H vs Q E hr S h => ?_
  · obtain ⟨a, y, rfl, _⟩ := h
    rfl
  · obtain ⟨a, y, rfl, ha, k⟩ := h
    have nd := sc_Unknown___init__.nd
    refine ⟨_, pssC_expr (pec_supX S (pa_cons pe_str pa_nil)) (pss_one (ps_ost (pv 0) (pv 1))), ?_⟩
    refine ⟨a, _, rfl, ha, T.x_Unknown.oex, T.x_Unknown.hs, T.x_Unknown.su, T.x_Unknown.hve, ⟨by decide, ha, ?_⟩⟩
    exact ⟨y, rfl, .ref a, rfl, a, _, rfl, T.x_Unknown.oex, T.nf_Unknown_name, .inl ⟨ha, fun dx n ne => k dx n ne⟩⟩
theorem has_Unknown (T : Txt P K mg) : HasX P w K mg base 1 "Unknown" p_Unknown___init__ (spI1 (ga K "Unknown") "name") := by
  obtain ⟨fd, F⟩ := T.ds_Unknown___init__
  exact ⟨⟨fd, ok_Unknown___init__ F T, F.bindsN fun _ _ _ _ _ _ _ us hl => match us, hl with | [_, _], _ => rfl⟩, T.x_Unknown, T.xi_Unknown, T.xt_Unknown, T.m_Unknown⟩
theorem sc_EmptyClip___init__ : NScope n_EmptyClip___init__ p_EmptyClip___init__ ["__class__"] (defScope s_EmptyClip___init__) := nscope_by (by decide +kernel)
theorem ok_EmptyClip___init__ {f : Addr} {fd : FuncData} (F : FunS K clFile "__init__" "EmptyClip.__init__" (defArgs s_EmptyClip___init__) (defBody s_EmptyClip___init__) (defScope s_EmptyClip___init__) [] [] (ga K "EmptyClip") f fd) (T : Txt P K mg) : FnOk P w K mg base (L2.CX P w) 1 f fd p_EmptyClip___init__ (spI1 (ga K "EmptyClip") "name") := by
  refine F.ok sc_EmptyClip___init__ (fun vs H Q E h => ?_) T.hfl T.htop T.f_super T.cl_EmptyClip T.opq_ rfl rfl rfl rfl fun cda cc A outer s H vs Q E hr S h => ?_
  · obtain ⟨a, y, rfl, _⟩ := h
    rfl
  · obtain ⟨a, y, rfl, ha, k⟩ := h
    have nd := sc_EmptyClip___init__.nd
    refine ⟨_, pssC_expr (pec_supX S (pa_cons pe_str pa_nil)) (pss_one (ps_ost (pv 0) (pv 1))), ?_⟩
    refine ⟨a, _, rfl, ha, T.x_EmptyClip.oex, T.x_EmptyClip.hs, T.x_EmptyClip.su, T.x_EmptyClip.hve, ⟨by decide, ha, ?_⟩⟩
    exact ⟨y, rfl, .ref a, rfl, a, _, rfl, T.x_EmptyClip.oex, T.nf_EmptyClip_name, .inl ⟨ha, fun dx n ne => k dx n ne⟩⟩
theorem has_EmptyClip (T : Txt P K mg) : HasX P w K mg base 1 "EmptyClip" p_EmptyClip___init__ (spI1 (ga K "EmptyClip") "name") := by
  obtain ⟨fd, F⟩ := T.ds_EmptyClip___init__
  exact ⟨⟨fd, ok_EmptyClip___init__ F T, F.bindsN fun _ _ _ _ _ _ _ us hl => match us, hl with | [_, _], _ => rfl⟩, T.x_EmptyClip, T.xi_EmptyClip, T.xt_EmptyClip, T.m_EmptyClip⟩
theorem sc_NotEmpty___init__ : NScope n_NotEmpty___init__ p_NotEmpty___init__ ["__class__"] (defScope s_NotEmpty___init__) := nscope_by (by decide +kernel)
theorem ok_NotEmpty___init__ {f : Addr} {fd : FuncData} (F : FunS K clFile "__init__" "NotEmpty.__init__" (defArgs s_NotEmpty___init__) (defBody s_NotEmpty___init__) (defScope s_NotEmpty___init__) [] [] (ga K "NotEmpty") f fd) (T : Txt P K mg) : FnOk P w K mg base (L2.CX P w) 1 f fd p_NotEmpty___init__ (spI1 (ga K "NotEmpty") "name") := by
  refine F.ok sc_NotEmpty___init__ (fun vs H Q E h => ?_) T.hfl T.htop T.f_super T.cl_NotEmpty T.opq_ rfl rfl rfl rfl fun cda cc A outer s H vs Q E hr S h => ?_
  · obtain ⟨a, y, rfl, _⟩ := h
    rfl
  · obtain ⟨a, y, rfl, ha, k⟩ := h
    have nd := sc_NotEmpty___init__.nd
    refine ⟨_, pssC_expr (pec_supX S (pa_cons pe_str pa_nil)) (pss_one (ps_ost (pv 0) (pv 1))), ?_⟩
    refine ⟨a, _, rfl, ha, T.x_NotEmpty.oex, T.x_NotEmpty.hs, T.x_NotEmpty.su, T.x_NotEmpty.hve, ⟨by decide, ha, ?_⟩⟩
    exact ⟨y, rfl, .ref a, rfl, a, _, rfl, T.x_NotEmpty.oex, T.nf_NotEmpty_name, .inl ⟨ha, fun dx n ne => k dx n ne⟩⟩
theorem has_NotEmpty (T : Txt P K mg) : HasX P w K mg base 1 "NotEmpty" p_NotEmpty___init__ (spI1 (ga K "NotEmpty") "name") := by
  obtain ⟨fd, F⟩ := T.ds_NotEmpty___init__
  exact ⟨⟨fd, ok_NotEmpty___init__ F T, F.bindsN fun _ _ _ _ _ _ _ us hl => match us, hl with | [_, _], _ => rfl⟩, T.x_NotEmpty, T.xi_NotEmpty, T.xt_NotEmpty, T.m_NotEmpty⟩
theorem sc_NotArmed___init__ : NScope n_NotArmed___init__ p_NotArmed___init__ ["__class__"] (defScope s_NotArmed___init__) := nscope_by (by decide +kernel)
theorem ok_NotArmed___init__ {f : Addr} {fd : FuncData} (F : FunS K clFile "__init__" "NotArmed.__init__" (defArgs s_NotArmed___init__) (defBody s_NotArmed___init__) (defScope s_NotArmed___init__) [] [] (ga K "NotArmed") f fd) (T : Txt P K mg) : FnOk P w K mg base (L2.CX P w) 1 f fd p_NotArmed___init__ (spI1 (ga K "NotArmed") "name") := by
  refine F.ok sc_NotArmed___init__ (fun vs H Q E h => ?_) T.hfl T.htop T.f_super T.cl_NotArmed T.opq_ rfl rfl rfl rfl fun cda cc A outer s H vs Q E hr S h => ?_
  · obtain ⟨a, y, rfl, _⟩ := h
    rfl
  · obtain ⟨a, y, rfl, ha, k⟩ := h
    have nd := sc_NotArmed___init__.nd
    refine ⟨_, pssC_expr (pec_supX S (pa_cons pe_str pa_nil)) (pss_one (ps_ost (pv 0) (pv 1))), ?_⟩
    refine ⟨a, _, rfl, ha, T.x_NotArmed.oex, T.x_NotArmed.hs, T.x_NotArmed.su, T.x_NotArmed.hve, ⟨by decide, ha, ?_⟩⟩
    exact ⟨y, rfl, .ref a, rfl, a, _, rfl, T.x_NotArmed.oex, T.nf_NotArmed_name, .inl ⟨ha, fun dx n ne => k dx n ne⟩⟩
theorem has_NotArmed (T : Txt P K mg) : HasX P w K mg base 1 "NotArmed" p_NotArmed___init__ (spI1 (ga K "NotArmed") "name") := by
  obtain ⟨fd, F⟩ := T.ds_NotArmed___init__
  exact ⟨⟨fd, ok_NotArmed___init__ F T, F.bindsN fun _ _ _ _ _ _ _ us hl => match us, hl with | [_, _], _ => rfl⟩, T.x_NotArmed, T.xi_NotArmed, T.xt_NotArmed, T.m_NotArmed⟩
theorem sc_NotHeld___init__ : NScope n_NotHeld___init__ p_NotHeld___init__ ["__class__"] (defScope s_NotHeld___init__) := nscope_by (by decide +kernel)
theorem ok_NotHeld___init__ {f : Addr} {fd : FuncData} (F : FunS K clFile "__init__" "NotHeld.__init__" (defArgs s_NotHeld___init__) (defBody s_NotHeld___init__) (defScope s_NotHeld___init__) [] [] (ga K "NotHeld") f fd) (T : Txt P K mg) : FnOk P w K mg base (L2.CX P w) 1 f fd p_NotHeld___init__ (spI1 (ga K "NotHeld") "name") := by
  refine F.ok sc_NotHeld___init__ (fun vs H Q E h => ?_) T.hfl T.htop T.f_super T.cl_NotHeld T.opq_ rfl rfl rfl rfl fun cda cc A outer s H vs Q E hr S h => ?_
  · obtain ⟨a, y, rfl, _⟩ := h
    rfl
  · obtain ⟨a, y, rfl, ha, k⟩ := h
    have nd := sc_NotHeld___init__.nd
    refine ⟨_, pssC_expr (pec_supX S (pa_cons pe_str pa_nil)) (pss_one (ps_ost (pv 0) (pv 1))), ?_⟩
    refine ⟨a, _, rfl, ha, T.x_NotHeld.oex, T.x_NotHeld.hs, T.x_NotHeld.su, T.x_NotHeld.hve, ⟨by decide, ha, ?_⟩⟩
    exact ⟨y, rfl, .ref a, rfl, a, _, rfl, T.x_NotHeld.oex, T.nf_NotHeld_name, .inl ⟨ha, fun dx n ne => k dx n ne⟩⟩
theorem has_NotHeld (T : Txt P K mg) : HasX P w K mg base 1 "NotHeld" p_NotHeld___init__ (spI1 (ga K "NotHeld") "name") := by
  obtain ⟨fd, F⟩ := T.ds_NotHeld___init__
  exact ⟨⟨fd, ok_NotHeld___init__ F T, F.bindsN fun _ _ _ _ _ _ _ us hl => match us, hl with | [_, _], _ => rfl⟩, T.x_NotHeld, T.xi_NotHeld, T.xt_NotHeld, T.m_NotHeld⟩
theorem sc_OffGrid___init__ : NScope n_OffGrid___init__ p_OffGrid___init__ ["__class__"] (defScope s_OffGrid___init__) := nscope_by (by decide +kernel)
theorem ok_OffGrid___init__ {f : Addr} {fd : FuncData} (F : FunS K clFile "__init__" "OffGrid.__init__" (defArgs s_OffGrid___init__) (defBody s_OffGrid___init__) (defScope s_OffGrid___init__) [] [] (ga K "OffGrid") f fd) (T : Txt P K mg) : FnOk P w K mg base (L2.CX P w) 1 f fd p_OffGrid___init__ (spI1 (ga K "OffGrid") "tick") := by
  refine F.ok sc_OffGrid___init__ (fun vs H Q E h => ?_) T.hfl T.htop T.f_super T.cl_OffGrid T.opq_ rfl rfl rfl rfl fun cda cc A outer s H vs Q E hr S h => ?_
  · obtain ⟨a, y, rfl, _⟩ := h
    rfl
  · obtain ⟨a, y, rfl, ha, k⟩ := h
    have nd := sc_OffGrid___init__.nd
    refine ⟨_, pssC_expr (pec_supX S (pa_cons pe_str pa_nil)) (pss_one (ps_ost (pv 0) (pv 1))), ?_⟩
    refine ⟨a, _, rfl, ha, T.x_OffGrid.oex, T.x_OffGrid.hs, T.x_OffGrid.su, T.x_OffGrid.hve, ⟨by decide, ha, ?_⟩⟩
    exact ⟨y, rfl, .ref a, rfl, a, _, rfl, T.x_OffGrid.oex, T.nf_OffGrid_tick, .inl ⟨ha, fun dx n ne => k dx n ne⟩⟩
theorem has_OffGrid (T : Txt P K mg) : HasX P w K mg base 1 "OffGrid" p_OffGrid___init__ (spI1 (ga K "OffGrid") "tick") := by
  obtain ⟨fd, F⟩ := T.ds_OffGrid___init__
  exact ⟨⟨fd, ok_OffGrid___init__ F T, F.bindsN fun _ _ _ _ _ _ _ us hl => match us, hl with | [_, _], _ => rfl⟩, T.x_OffGrid, T.xi_OffGrid, T.xt_OffGrid, T.m_OffGrid⟩
theorem sc_TooMany___init__ : NScope n_TooMany___init__ p_TooMany___init__ ["__class__"] (defScope s_TooMany___init__) := nscope_by (by decide +kernel)
theorem ok_TooMany___init__ {f : Addr} {fd : FuncData} (F : FunS K clFile "__init__" "TooMany.__init__" (defArgs s_TooMany___init__) (defBody s_TooMany___init__) (defScope s_TooMany___init__) [] [] (ga K "TooMany") f fd) (T : Txt P K mg) : FnOk P w K mg base (L2.CX P w) 1 f fd p_TooMany___init__ (spI2 (ga K "TooMany") "kind" "most" (fun y => ∃ z : Str, y = .str z ∧ z.length ≤ 1000)) := by
  refine F.ok sc_TooMany___init__ (fun vs H Q E h => ?_) T.hfl T.htop T.f_super T.cl_TooMany T.opq_ rfl rfl rfl rfl fun cda cc A outer s H vs Q E hr S h => ?_
  · obtain ⟨a, y, z, rfl, _⟩ := h
    rfl
  · obtain ⟨a, y, z, rfl, hP, ha, k⟩ := h
    have nd := sc_TooMany___init__.nd
    refine ⟨_, pssC_expr (pec_supX S (pa_cons (pe_op ou_add pe_str (pv 1)) pa_nil)) (pss_cons (ps_ost (pv 0) (pv 1)) (pss_one (ps_ost (pv 0) (pv 2)))), ?_⟩
    obtain ⟨z, rfl, hz⟩ := hP
    refine ⟨a, _, rfl, ha, T.x_TooMany.oex, T.x_TooMany.hs, T.x_TooMany.su, T.x_TooMany.hve, ?_⟩
    walk_at "rd0"
    refine a_addS (by have e : ("too many " : Str).length = 9 := by decide +kernel
                      omega) ?_
    walk_at "rd"
    refine ⟨by simp, ha, ?_⟩
    walk_at "rd"
    refine ⟨_, rfl, .ref a, rfl, a, _, rfl, T.x_TooMany.oex, T.nf_TooMany_kind, .inl ⟨ha, fun dx n ne => ?_⟩⟩
    refine ⟨_, rfl, .ref a, rfl, a, _, rfl, T.x_TooMany.oex, T.nf_TooMany_most, .inr ⟨dx, [("kind", .str z)], upd_same, ?_, by simp, ?_⟩⟩
    · rw [upd_ne ne]
      exact upd_same
    · exact k dx n ne
theorem has_TooMany (T : Txt P K mg) : HasX P w K mg base 1 "TooMany" p_TooMany___init__ (spI2 (ga K "TooMany") "kind" "most" (fun y => ∃ z : Str, y = .str z ∧ z.length ≤ 1000)) := by
  obtain ⟨fd, F⟩ := T.ds_TooMany___init__
  exact ⟨⟨fd, ok_TooMany___init__ F T, F.bindsN fun _ _ _ _ _ _ _ us hl => match us, hl with | [_, _, _], _ => rfl⟩, T.x_TooMany, T.xi_TooMany, T.xt_TooMany, T.m_TooMany⟩
theorem sc_Apart___init__ : NScope n_Apart___init__ p_Apart___init__ ["__class__"] (defScope s_Apart___init__) := nscope_by (by decide +kernel)
theorem ok_Apart___init__ {f : Addr} {fd : FuncData} (F : FunS K clFile "__init__" "Apart.__init__" (defArgs s_Apart___init__) (defBody s_Apart___init__) (defScope s_Apart___init__) [] [] (ga K "Apart") f fd) (T : Txt P K mg) : FnOk P w K mg base (L2.CX P w) 1 f fd p_Apart___init__ (spI2 (ga K "Apart") "first" "second" (fun _ => True)) := by
  refine F.ok sc_Apart___init__ (fun vs H Q E h => ?_) T.hfl T.htop T.f_super T.cl_Apart T.opq_ rfl rfl rfl rfl fun cda cc A outer s H vs Q E hr S h => ?_
  · obtain ⟨a, y, z, rfl, _⟩ := h
    rfl
  · obtain ⟨a, y, z, rfl, hP, ha, k⟩ := h
    have nd := sc_Apart___init__.nd
    refine ⟨_, pssC_expr (pec_supX S (pa_cons pe_str pa_nil)) (pss_cons (ps_ost (pv 0) (pv 1)) (pss_one (ps_ost (pv 0) (pv 2)))), ?_⟩
    refine ⟨a, _, rfl, ha, T.x_Apart.oex, T.x_Apart.hs, T.x_Apart.su, T.x_Apart.hve, ?_⟩
    refine ⟨by decide, ha, ?_⟩
    refine ⟨_, rfl, .ref a, rfl, a, _, rfl, T.x_Apart.oex, T.nf_Apart_first, .inl ⟨ha, fun dx n ne => ?_⟩⟩
    refine ⟨_, rfl, .ref a, rfl, a, _, rfl, T.x_Apart.oex, T.nf_Apart_second, .inr ⟨dx, [("first", y)], upd_same, ?_, by simp, ?_⟩⟩
    · rw [upd_ne ne]
      exact upd_same
    · exact k dx n ne
theorem has_Apart (T : Txt P K mg) : HasX P w K mg base 1 "Apart" p_Apart___init__ (spI2 (ga K "Apart") "first" "second" (fun _ => True)) := by
  obtain ⟨fd, F⟩ := T.ds_Apart___init__
  exact ⟨⟨fd, ok_Apart___init__ F T, F.bindsN fun _ _ _ _ _ _ _ us hl => match us, hl with | [_, _, _], _ => rfl⟩, T.x_Apart, T.xi_Apart, T.xt_Apart, T.m_Apart⟩

end Lw
namespace Lw
open PySem PySem.Spec PyProof.Rows L2 He NdefX Bx
variable {P : Program} {w : World} {K : PySem.W.Frag} {mg : Str → Option Value} {base : Heap}
/-! ### the program, as far as the law goes -/
def GridV (K : PySem.W.Frag) (H : Hp) (a : Addr) (s o : Int) : Prop := ∃ dx, H a = some (.ins (ga K "Grid") dx [("step", .int s), ("offset", .int o)])
theorem GridV.same {H H' : Hp} {a : Addr} {s o : Int} (h : GridV K H a s o) (e : Same H H') : GridV K H' a s o := let ⟨dx, q⟩ := h; ⟨dx, e _ _ q⟩
def spGrid (K : PySem.W.Frag) : Sp := spMk (ga K "Grid") (fun us _ => ∃ s o, us = [.int s, .int o] ∧ 0 < s) fun a us _ H' => ∀ s o, us = [.int s, .int o] → GridV K H' a s (o % s)
theorem sc_Grid___init__ : FnScope n_Grid___init__ p_Grid___init__ (defScope s_Grid___init__) := ⟨rfl, rfl, rfl, by decide +kernel, rfl, by decide +kernel, by decide +kernel⟩
theorem ok_Grid___init__ {f : Addr} {fd : FuncData} {dv : List V} (F : FunD K "__init__" "Grid.__init__" (defArgs s_Grid___init__) (defBody s_Grid___init__) (defScope s_Grid___init__) dv [] f fd) (T : Txt P K mg) (H_BadNumber : HasX P w K mg base 1 "BadNumber" p_BadNumber___init__ (spI1 (ga K "BadNumber") "value")) :
    FnOk P w K mg base (L2.CX P w) 3 f fd p_Grid___init__ (spGrid K) := by
  refine F.ok sc_Grid___init__ (fun vs H Q E h => ?_) (fun cdv A outer s H vs Q E hr h => ?_)
  · obtain ⟨a, dx, us, rfl, _, ⟨s, o, rfl, _⟩, _⟩ := h
    rfl
  · obtain ⟨a, dx, us, rfl, ha, ⟨st, o, rfl, hs⟩, q⟩ := h
    have nd := sc_Grid___init__.nd
    have cG := T.c_Grid
    have n1 := T.na_Grid_step
    have n2 := T.na_Grid_offset
    refine ⟨_, (by exact (pss_cons (ps_if (pt_cmpR ou_lt (pv 1) pe_int (nomark _)) (pss_one (ps_rz H_BadNumber hr (by omega) rfl (takes_of rfl rfl rfl rfl) (by rfl) (pa_cons (pv 1) pa_nil))) pss_nil)
      (pss_cons (ps_fld (pv 0) (pv 1) rfl)
      (pss_one (ps_fld (pv 0) (pe_op ou_mod (pv 2) (pv 1)) rfl))))), ?_⟩
    walk_at "rd0"
    refine br (fun g => absurd g (by omega)) (fun _ => ?_)
    walk_at "rd"
    refine a_mod hs ?_
    walk_at "rd"
    refine q _ (fun b o hb ne => ?_) (fun s o e => ?_)
    · simp only [upd_ne ne]
      exact hb
    · cases e
      exact ⟨dx, upd_same⟩
theorem has_Grid (T : Txt P K mg) : HasC P w K mg base 3 "Grid" p_Grid___init__ (spGrid K) := by
  obtain ⟨fd, F⟩ := T.dm_Grid___init__
  obtain ⟨ds, hv, B⟩ := F.binds1 (ps := p_Grid___init__) 3 1 (by simp) rfl fun _ _ _ _ _ _ _ us its hl hi => match us, its, hl, hi with | [_, _, _], [_], _, _ => ⟨_, rfl, rfl⟩
  cases hv
  exact ⟨⟨fd, ok_Grid___init__ F T (has_BadNumber T), B⟩, T.mk_Grid, T.m_Grid⟩
def spState (K : PySem.W.Frag) : Sp := spMk (ga K "State") (fun us _ => us.length = 4) fun a us _ H' => ∀ u0 u1 u2 u3, us = [u0, u1, u2, u3] → ∃ dx, H' a = some (.ins (ga K "State") dx [("scene", u0), ("clock", u1), ("lists", u2), ("story", u3)])
theorem sc_State___init__ : FnScope n_State___init__ p_State___init__ (defScope s_State___init__) := ⟨rfl, rfl, rfl, by decide +kernel, rfl, by decide +kernel, by decide +kernel⟩
theorem ok_State___init__ {f : Addr} {fd : FuncData} (F : FunD K "__init__" "State.__init__" (defArgs s_State___init__) (defBody s_State___init__) (defScope s_State___init__) [] [] f fd) (T : Txt P K mg) : FnOk P w K mg base (L2.CX P w) 1 f fd p_State___init__ (spState K) := by
  refine F.ok sc_State___init__ (fun vs H Q E h => ?_) (fun cdv A outer s H vs Q E hr h => ?_)
  · obtain ⟨a, dx, us, rfl, _, hl, _⟩ := h
    exact congrArg Nat.succ hl
  · obtain ⟨a, dx, us, rfl, ha, hl, q⟩ := h
    match us, hl, q with
    | [u0, u1, u2, u3], _, q =>
      have nd := sc_State___init__.nd
      have cG := T.c_State
      have n0 := T.na_State_scene
      have n1 := T.na_State_clock
      have n2 := T.na_State_lists
      have n3 := T.na_State_story
      refine ⟨_, (by exact (pss_cons (ps_fld (pv 0) (pv 1) rfl)
      (pss_cons (ps_fld (pv 0) (pv 2) rfl)
      (pss_cons (ps_fld (pv 0) (pv 3) rfl)
      (pss_one (ps_fld (pv 0) (pv 4) rfl)))))), ?_⟩
      walk_at "rd0"
      refine q _ (fun b o hb ne => ?_) (fun x0 x1 x2 x3 e => ?_)
      · simp only [upd_ne ne]
        exact hb
      · cases e
        exact ⟨dx, upd_same⟩
theorem has_State (T : Txt P K mg) : HasC P w K mg base 1 "State" p_State___init__ (spState K) := by
  obtain ⟨fd, F⟩ := T.dm_State___init__
  exact ⟨⟨fd, ok_State___init__ F T, F.bindsN fun _ _ _ _ _ _ us hl => match us, hl with | [_, _, _, _, _], _ => rfl⟩, T.mk_State, T.m_State⟩
def spLists (K : PySem.W.Frag) : Sp := spMk (ga K "Lists") (fun us _ => us.length = 6) fun a us _ H' => ∀ u0 u1 u2 u3 u4 u5, us = [u0, u1, u2, u3, u4, u5] → ∃ dx, H' a = some (.ins (ga K "Lists") dx [("settled", u0), ("changes", u1), ("taping", u2), ("arming", u3), ("kept", u4), ("begun", u5)])
theorem sc_Lists___init__ : FnScope n_Lists___init__ p_Lists___init__ (defScope s_Lists___init__) := ⟨rfl, rfl, rfl, by decide +kernel, rfl, by decide +kernel, by decide +kernel⟩
theorem ok_Lists___init__ {f : Addr} {fd : FuncData} (F : FunD K "__init__" "Lists.__init__" (defArgs s_Lists___init__) (defBody s_Lists___init__) (defScope s_Lists___init__) [] [] f fd) (T : Txt P K mg) : FnOk P w K mg base (L2.CX P w) 1 f fd p_Lists___init__ (spLists K) := by
  refine F.ok sc_Lists___init__ (fun vs H Q E h => ?_) (fun cdv A outer s H vs Q E hr h => ?_)
  · obtain ⟨a, dx, us, rfl, _, hl, _⟩ := h
    exact congrArg Nat.succ hl
  · obtain ⟨a, dx, us, rfl, ha, hl, q⟩ := h
    match us, hl, q with
    | [u0, u1, u2, u3, u4, u5], _, q =>
      have nd := sc_Lists___init__.nd
      have cG := T.c_Lists
      have n0 := T.na_Lists_settled
      have n1 := T.na_Lists_changes
      have n2 := T.na_Lists_taping
      have n3 := T.na_Lists_arming
      have n4 := T.na_Lists_kept
      have n5 := T.na_Lists_begun
      refine ⟨_, (by exact (pss_cons (ps_fld (pv 0) (pv 1) rfl)
      (pss_cons (ps_fld (pv 0) (pv 2) rfl)
      (pss_cons (ps_fld (pv 0) (pv 3) rfl)
      (pss_cons (ps_fld (pv 0) (pv 4) rfl)
      (pss_cons (ps_fld (pv 0) (pv 5) rfl)
      (pss_one (ps_fld (pv 0) (pv 6) rfl)))))))), ?_⟩
      walk_at "rd0"
      refine q _ (fun b o hb ne => ?_) (fun x0 x1 x2 x3 x4 x5 e => ?_)
      · simp only [upd_ne ne]
        exact hb
      · cases e
        exact ⟨dx, upd_same⟩
theorem has_Lists (T : Txt P K mg) : HasC P w K mg base 1 "Lists" p_Lists___init__ (spLists K) := by
  obtain ⟨fd, F⟩ := T.dm_Lists___init__
  exact ⟨⟨fd, ok_Lists___init__ F T, F.bindsN fun _ _ _ _ _ _ us hl => match us, hl with | [_, _, _, _, _, _, _], _ => rfl⟩, T.mk_Lists, T.m_Lists⟩

end Lw
namespace Lw
open PySem PySem.Spec PyProof.Rows L2 He NdefX Bx
variable {P : Program} {w : World} {K : PySem.W.Frag} {mg : Str → Option Value} {base : Heap}
def StageV (K : PySem.W.Frag) (H : Hp) (a : Addr) (ts ls : List V) : Prop := ∃ dx t l, H a = some (.ins (ga K "Stage") dx [("tracks", .ref t), ("leads", .ref l)]) ∧ SqT K H t ts ∧ SqT K H l ls
theorem StageV.same {H H' : Hp} {a : Addr} {ts ls : List V} (h : StageV K H a ts ls) (e : Same H H') : StageV K H' a ts ls := let ⟨dx, t, l, h1, h2, h3⟩ := h; ⟨dx, t, l, e _ _ h1, SqT.ext h2 e, SqT.ext h3 e⟩
def StateV (K : PySem.W.Frag) (H : Hp) (a : Addr) (sc cl ls st : V) : Prop := ∃ dx, H a = some (.ins (ga K "State") dx [("scene", sc), ("clock", cl), ("lists", ls), ("story", st)])
def ListsV (K : PySem.W.Frag) (H : Hp) (a : Addr) (s c t r k b : List V) : Prop := ∃ dx p1 p2 p3 p4 p5 p6, H a = some (.ins (ga K "Lists") dx [("settled", .ref p1), ("changes", .ref p2), ("taping", .ref p3), ("arming", .ref p4), ("kept", .ref p5), ("begun", .ref p6)]) ∧
  H p1 = some (.lst s) ∧ H p2 = some (.lst c) ∧ H p3 = some (.lst t) ∧ H p4 = some (.lst r) ∧ H p5 = some (.lst k) ∧ H p6 = some (.lst b)
def spFirst (K : PySem.W.Frag) : Sp := fun vs H Q _ => ∃ a x ts ls, vs = [.ref a, x] ∧ StageV K H a ts ls ∧ ts.length ≤ 1000 ∧ ls.length ≤ 1000 ∧ ∀ b l p H', Same H H' → H b = none → StateV K H' b (.ref a) x (.ref l) (.ref p) →
  ListsV K H' l (List.replicate ts.length .non) (List.replicate ts.length .non) (List.replicate ts.length .non) (List.replicate ts.length (.bl false)) (List.replicate ls.length .non) (List.replicate ls.length .non) → H' p = some (.lst []) → Q (.ref b) H'
theorem sc_first_state : FnScope n_first_state p_first_state (defScope s_first_state) := ⟨rfl, rfl, rfl, by decide +kernel, rfl, by decide +kernel, by decide +kernel⟩
theorem ok_first_state {f : Addr} {fd : FuncData} (F : FnP K "first_state" s_first_state f fd) (T : Txt P K mg) : FnOk P w K mg base (L2.CX P w) 3 f fd p_first_state (spFirst K) := by
  refine F.ok sc_first_state (fun vs H Q E h => ?_) (fun cdv A outer s H vs Q E hr h => ?_)
  · obtain ⟨a, x, ts, ls, rfl, _⟩ := h
    rfl
  · obtain ⟨a, x, ts, ls, rfl, ⟨dx, t, l, ha, ht, hl⟩, z1, z2, q⟩ := h
    have nd := sc_first_state.nd
    have cG := T.c_Stage
    have n1 := T.na_Stage_tracks
    have n2 := T.na_Stage_leads
    have H_Lists := has_Lists (w := w) (base := base) T
    have H_State := has_State (w := w) (base := base) T
    refine ⟨_, (by exact (pss_cons (ps_set (i := 2) nd rfl (Or.inl rfl) (pe_callB cu_len (by rfl) T.f_len (by decide +kernel) (pa_cons (pe_fld (pv 0) rfl) pa_nil)))
      (pss_cons (ps_set (i := 3) nd rfl (Or.inl rfl) (pe_callB cu_len (by rfl) T.f_len (by decide +kernel) (pa_cons (pe_fld (pv 0) rfl) pa_nil)))
      (pss_cons (ps_set (i := 4) nd rfl (Or.inl rfl) (pe_mk H_Lists hr (by omega) passL (by rfl) (pa_cons (pe_op ou_mul (pe_lst (pa_cons pe_non pa_nil)) (pv 2)) (pa_cons (pe_op ou_mul (pe_lst (pa_cons pe_non pa_nil)) (pv 2)) (pa_cons (pe_op ou_mul (pe_lst (pa_cons pe_non pa_nil)) (pv 2)) (pa_cons (pe_op ou_mul (pe_lst (pa_cons pe_bl pa_nil)) (pv 2)) (pa_cons (pe_op ou_mul (pe_lst (pa_cons pe_non pa_nil)) (pv 3)) (pa_cons (pe_op ou_mul (pe_lst (pa_cons pe_non pa_nil)) (pv 3)) pa_nil))))))))
      (pss_one (ps_ret (pe_mk H_State hr (by omega) passL (by rfl) (pa_cons (pv 0) (pa_cons (pv 1) (pa_cons (pv 4) (pa_cons (pe_lst pa_nil) pa_nil))))))))))), ?_⟩
    walk_at "rd0"
    walk_at "go"
    walk_at "mk"
    intro l1 H1 H2 hl1 s1 s2 ps
    obtain ⟨dl, hL⟩ := ps _ _ _ _ _ _ rfl
    walk_at "go"
    walk_at "mk"
    intro b H3 H4 hb s3 s4 ps
    obtain ⟨db, hB⟩ := ps _ _ _ _ rfl
    have hL4 := s4 _ _ (up_old hL (by assumption))
    refine q b l1 _ H4 (by walk_at "sm") (Same.free (by walk_at "sm") hb) ⟨db, hB⟩ ⟨dl, _, _, _, _, _, _, hL4, ?_, ?_, ?_, ?_, ?_, ?_⟩ (by walk_at "hp")
    all_goals walk_at "hp"
theorem has_first_state (T : Txt P K mg) : HasF P w K mg base 3 "first_state" p_first_state (spFirst K) := by
  obtain ⟨fd, F⟩ := T.d_first_state
  exact ⟨⟨fd, ok_first_state F T, F.bindsN fun _ _ _ _ _ _ us hl => match us, hl with | [_, _], _ => rfl⟩, T.m_first_state, F.kp⟩
def DeskV (K : PySem.W.Frag) (H : Hp) (d : Addr) (st past : V) : Prop := ∃ dx, H d = some (.ins (ga K "Desk") dx [("state", st), ("past", past)])
def spDesk (K : PySem.W.Frag) : Sp := spMk (ga K "Desk") (fun us H => ∃ a x ts ls, us = [.ref a, x] ∧ StageV K H a ts ls ∧ ts.length ≤ 1000 ∧ ls.length ≤ 1000) fun d _ _ H' => ∃ b p, DeskV K H' d (.ref b) (.ref p) ∧ H' p = some (.lst [])
theorem sc_Desk___init__ : FnScope n_Desk___init__ p_Desk___init__ (defScope s_Desk___init__) := ⟨rfl, rfl, rfl, by decide +kernel, rfl, by decide +kernel, by decide +kernel⟩
theorem ok_Desk___init__ {f : Addr} {fd : FuncData} {dv : List V} (F : FunD K "__init__" "Desk.__init__" (defArgs s_Desk___init__) (defBody s_Desk___init__) (defScope s_Desk___init__) dv [] f fd) (T : Txt P K mg) : FnOk P w K mg base (L2.CX P w) 4 f fd p_Desk___init__ (spDesk K) := by
  refine F.ok sc_Desk___init__ (fun vs H Q E h => ?_) (fun cdv A outer s H vs Q E hr h => ?_)
  · obtain ⟨d, dx, us, rfl, _, ⟨a, x, ts, ls, rfl, _⟩, _⟩ := h
    rfl
  · obtain ⟨d, dx, us, rfl, hd, ⟨a, x, ts, ls, rfl, hS, z1, z2⟩, q⟩ := h
    have nd := sc_Desk___init__.nd
    have cG := T.c_Desk
    have n1 := T.na_Desk_state
    have n2 := T.na_Desk_past
    have H_first_state := has_first_state (w := w) (base := base) T
    refine ⟨_, (by exact (pss_cons (ps_fld (pv 0) (pe_fn H_first_state hr (by omega) passL (by rfl) (pa_cons (pv 1) (pa_cons (pv 2) pa_nil))) rfl)
      (pss_one (ps_fld (pv 0) (pe_lst pa_nil) rfl)))), ?_⟩
    walk_at "rd0"
    refine ⟨a, x, ts, ls, rfl, hS, z1, z2, fun b l p H' sm hb hB hL hp => ?_⟩
    walk_at "go"
    refine q _ (by walk_at "bt") ⟨b, _, ⟨dx, upd_same⟩, ?_⟩
    exact up_ne upd_same (up_none (by assumption)).2
theorem has_Desk (T : Txt P K mg) : HasC P w K mg base 4 "Desk" p_Desk___init__ (spDesk K) := by
  obtain ⟨fd, F⟩ := T.dm_Desk___init__
  obtain ⟨ds, hv, B⟩ := F.binds1 (ps := p_Desk___init__) 3 1 (by simp) rfl fun _ _ _ _ _ _ _ us its hl hi => match us, its, hl, hi with | [_, _, _], [_], _, _ => ⟨_, rfl, rfl⟩
  cases hv
  exact ⟨⟨fd, ok_Desk___init__ F T, B⟩, T.mk_Desk, T.m_Desk⟩
def spUndo0 (K : PySem.W.Frag) : Sp := fun vs H _ E => ∃ d st p, vs = [.ref d] ∧ DeskV K H d st (.ref p) ∧ H p = some (.lst []) ∧ E (.ref (ga K "NothingToUndo")) none H
theorem sc_Desk_undo : FnScope n_Desk_undo p_Desk_undo (defScope s_Desk_undo) := ⟨rfl, rfl, rfl, by decide +kernel, rfl, by decide +kernel, by decide +kernel⟩
theorem ok_Desk_undo {f : Addr} {fd : FuncData} (F : FunD K "undo" "Desk.undo" (defArgs s_Desk_undo) (defBody s_Desk_undo) (defScope s_Desk_undo) [] [] f fd) (T : Txt P K mg) : FnOk P w K mg base (L2.CX P w) 2 f fd p_Desk_undo (spUndo0 K) := by
  refine F.ok sc_Desk_undo (fun vs H Q E h => ?_) (fun cdv A outer s H vs Q E hr h => ?_)
  · obtain ⟨d, st, p, rfl, _⟩ := h
    rfl
  · obtain ⟨d, st, p, rfl, ⟨dx, hd⟩, hp, q⟩ := h
    have nd := sc_Desk_undo.nd
    have cG := T.c_Desk
    have n1 := T.na_Desk_state
    have n2 := T.na_Desk_past
    have H_NothingToUndo : HasXB K mg "NothingToUndo" := ⟨T.xb_NothingToUndo, T.m_NothingToUndo⟩
    refine ⟨_, (by exact (pss_cons (ps_if (pt_cmpR (ou_eq hr.units) (pe_callB cu_len (by rfl) T.f_len (by decide +kernel) (pa_cons (pe_fld (pv 0) rfl) pa_nil)) pe_int (nomark _)) (pss_one (ps_rzB H_NothingToUndo rfl (takes_of rfl rfl rfl rfl) (by rfl))) pss_nil)
      (pss_one (ps_fld (pv 0) (pe_bm0 PySem.F.plainAttrs_list PySem.F.slot_list_pop PySem.F.type_list_pop mu_pop (pe_fld (pv 0) rfl)) rfl)))), ?_⟩
    walk_at "rd0"
    exact q
theorem has_Desk_undo (T : Txt P K mg) : HasM P w K mg base 2 "Desk" "undo" p_Desk_undo (spUndo0 K) := by
  obtain ⟨fd, F⟩ := T.dm_Desk_undo
  exact ⟨⟨fd, ok_Desk_undo F T, F.bindsN fun _ _ _ _ _ _ us hl => match us, hl with | [_], _ => rfl⟩, T.c_Desk, T.mt_Desk_undo⟩

end Lw
namespace Lw
open PySem PySem.Spec PyProof.Rows L2 He NdefX Bx
variable {P : Program} {w : World} {K : PySem.W.Frag} {mg : Str → Option Value} {base : Heap}
/-! ### the stage without tracks -/
theorem sc_check_names : FnScope n_check_names p_check_names (defScope s_check_names) := ⟨rfl, rfl, rfl, by decide +kernel, rfl, by decide +kernel, by decide +kernel⟩
def spNames0 (K : PySem.W.Frag) : Sp := fun vs H Q _ => ∃ a b, vs = [.ref a, .ref b] ∧ SqL K H a [] ∧ SqT K H b [] ∧ ∀ H', Same H H' → Q .non H'
theorem ok_check_names {f : Addr} {fd : FuncData} (F : FnP K "check_names" s_check_names f fd) (T : Txt P K mg) : FnOk P w K mg base (L2.CX P w) 1 f fd p_check_names (spNames0 K) := by
  refine F.ok sc_check_names (fun vs H Q E h => ?_) (fun cdv A outer s H vs Q E hr h => ?_)
  · obtain ⟨a, b, rfl, _⟩ := h
    rfl
  · obtain ⟨a, b, rfl, ha, hb, q⟩ := h
    have nd := sc_check_names.nd
    refine ⟨_, (by exact pss_cons (ps_set (i := 2) nd rfl (Or.inl rfl) (pe_lst pa_nil)) (pss_cons (ps_for (passes_of rfl) rfl (pi_list (pv 0)) (pg_name (i := 3) nd rfl (Or.inl rfl)) pss_never)
      (pss_cons (ps_expr (pe_bm PySem.F.plainAttrs_list PySem.F.slot_list_extend PySem.F.type_list_extend mu_extend (pv 2) (pa_cons (pe_lc (g := gName 6) (tt := tYes) (te := tFld K (tVar 6) "name") (own := [("lead", 6)]) rfl nd (pi_tup (pv 1)) (blkOk_by (N := n_check_names) (sc := defScope s_check_names) (by decide +kernel)) (fun _ _ _ _ _ => (pg_name (i := 6) nd rfl (Or.inl rfl))) (fun _ _ _ _ _ => pts_nil) (fun _ _ _ _ _ => (pe_fld (pv 6) rfl))) pa_nil)))
      (pss_cons (ps_set (i := 4) nd rfl (Or.inl rfl) (pe_callTy0 cu_set0 (by rfl) T.f_set (by decide +kernel))) (pss_one (ps_for (passes_of rfl) rfl (pi_list (pv 2)) (pg_name (i := 5) nd rfl (Or.inl rfl)) pss_never)))))), ?_⟩
    walk_at "rd0"
    walk_at "go"
    refine a_iL (Same.seq (by walk_at "sm") ha) ?_
    refine f_listG ⟨none, rfl⟩ (Same.seq (by walk_at "sm") ha) (fun i x H' hx _ => by simp at hx) ?_
    intro o1 H1 s1
    walk_at "go"
    refine a_iT (SqT.ext hb (by walk_at "sm")) ?_
    refine c_mapT [] (fun _ => rfl) (SqT.ext hb (by walk_at "sm")) rfl (by simp) (fun i x y H' P hx => by simp at hx) ?_
    intro D hD
    walk_at "go"
    refine a_iL (SqL.of (up_old upd_same (by assumption))) ?_
    refine f_list [] (fun _ σ' H' => Same H H' ∧ SqL K H' _ []) ⟨by walk_at "sm", SqL.of (up_old upd_same (by assumption))⟩ (fun i σ' H' _ e => e.2) (fun i x σ' H' hx _ => by simp at hx) ?_
    rintro σ' H' ⟨sm, _⟩
    exact q H' sm
theorem has_check_names (T : Txt P K mg) : HasF P w K mg base 1 "check_names" p_check_names (spNames0 K) := by
  obtain ⟨fd, F⟩ := T.d_check_names
  exact ⟨⟨fd, ok_check_names F T, F.bindsN fun _ _ _ _ _ _ us hl => match us, hl with | [_, _], _ => rfl⟩, T.m_check_names, F.kp⟩
theorem sc_count_guards : FnScope n_count_guards p_count_guards (defScope s_count_guards) := ⟨rfl, rfl, rfl, by decide +kernel, rfl, by decide +kernel, by decide +kernel⟩
def spCount0 (K : PySem.W.Frag) : Sp := fun vs H Q _ => ∃ a, vs = [.ref a] ∧ SqL K H a [] ∧ ∀ H', Same H H' → Q (.int 0) H'
theorem ok_count_guards {f : Addr} {fd : FuncData} (F : FnP K "count_guards" s_count_guards f fd) (T : Txt P K mg) : FnOk P w K mg base (L2.CX P w) 1 f fd p_count_guards (spCount0 K) := by
  refine F.ok sc_count_guards (fun vs H Q E h => ?_) (fun cdv A outer s H vs Q E hr h => ?_)
  · obtain ⟨a, rfl, _⟩ := h
    rfl
  · obtain ⟨a, rfl, ha, q⟩ := h
    have nd := sc_count_guards.nd
    refine ⟨_, (by exact pss_one (ps_ret (pe_callB (cu_sum rfl) (by rfl) T.f_sum (by decide +kernel) (pa_cons (pe_lc2 (g := gName 1) (tt := tYes) (wi1 := fun _ _ _ => False) (g1 := gName 2) (tt1 := tYes) (te := fun _ _ _ => False) (own := [("track", 1), ("clip", 2)]) (vs1 := [2]) rfl nd (pi_list (pv 0)) (blkOk_by (N := n_count_guards) (sc := defScope s_count_guards) (by decide +kernel)) (by decide)
      (fun _ _ _ _ _ => (pg_name (i := 1) nd rfl (Or.inl rfl))) (fun _ _ _ _ _ => pts_nil) (fun _ _ _ _ _ => pi_no) (fun _ _ _ _ _ => (pg_name (i := 2) nd rfl (Or.inl rfl))) (fun _ _ _ _ _ => pts_nil) (fun _ _ _ _ _ => pe_no)) pa_nil)))), ?_⟩
    walk_at "rd0"
    refine ⟨_, rfl, a, rfl, ⟨[], ha⟩, fun D hD => ⟨fun i m H' => i = 0 ∧ H' = upd H D (.lst []), ⟨0, rfl, rfl⟩, ?_⟩⟩
    rintro i m H' ⟨rfl, rfl⟩
    refine .inl ⟨⟨[], (Same.new (Same.refl _) hD).seq ha, Nat.zero_le _⟩, ?_⟩
    walk_at "rd"
    exact a_sum (ns := []) (SqL.of upd_same) (q _ (Same.new (Same.refl _) hD))
theorem has_count_guards (T : Txt P K mg) : HasF P w K mg base 1 "count_guards" p_count_guards (spCount0 K) := by
  obtain ⟨fd, F⟩ := T.d_count_guards
  exact ⟨⟨fd, ok_count_guards F T, F.bindsN fun _ _ _ _ _ _ us hl => match us, hl with | [_], _ => rfl⟩, T.m_count_guards, F.kp⟩
def spStage0 (K : PySem.W.Frag) : Sp := spMk (ga K "Stage") (fun us H => ∃ a b, us = [.ref a, .ref b] ∧ SqL K H a [] ∧ ∀ H1 : Hp, SqT K H1 b []) fun s _ _ H' => StageV K H' s [] []
theorem sc_Stage___init__ : FnScope n_Stage___init__ p_Stage___init__ (defScope s_Stage___init__) := ⟨rfl, rfl, rfl, by decide +kernel, rfl, by decide +kernel, by decide +kernel⟩
theorem ok_Stage___init__ {f : Addr} {fd : FuncData} {dv : List V} (F : FunD K "__init__" "Stage.__init__" (defArgs s_Stage___init__) (defBody s_Stage___init__) (defScope s_Stage___init__) dv [] f fd) (T : Txt P K mg) : FnOk P w K mg base (L2.CX P w) 4 f fd p_Stage___init__ (spStage0 K) := by
  refine F.ok sc_Stage___init__ (fun vs H Q E h => ?_) (fun cdv A outer s H vs Q E hr h => ?_)
  · obtain ⟨d, dx, us, rfl, _, ⟨a, b, rfl, _⟩, _⟩ := h
    rfl
  · obtain ⟨d, dx, us, rfl, hd, ⟨a, b, rfl, ha, hb⟩, q⟩ := h
    have nd := sc_Stage___init__.nd
    have hbH := hb H
    have cG := T.c_Stage
    have n1 := T.na_Stage_tracks
    have n2 := T.na_Stage_leads
    have k1 := T.con_Stage_TRACKS
    have k2 := T.con_Stage_LEADS
    have k3 := T.con_Stage_CLIPS
    have k4 := T.con_Stage_GUARDS
    have H_TooMany := has_TooMany (w := w) (base := base) T
    have H_Unknown := has_Unknown (w := w) (base := base) T
    have H_check_names := has_check_names (w := w) (base := base) T
    have H_count_guards := has_count_guards (w := w) (base := base) T
    refine ⟨_, (by exact (pss_cons (ps_if (pt_cmpR ou_gt (pe_callB cu_len (by rfl) T.f_len (by decide +kernel) (pa_cons (pv 1) pa_nil)) (pe_con (pv 0) rfl) (nomark _)) (pss_one (ps_rz H_TooMany hr (by omega) rfl (takes_of rfl rfl rfl rfl) (by rfl) (pa_cons pe_str (pa_cons (pe_con (pv 0) rfl) pa_nil)))) pss_nil)
      (pss_cons (ps_if (pt_cmpR ou_gt (pe_callB cu_len (by rfl) T.f_len (by decide +kernel) (pa_cons (pv 2) pa_nil)) (pe_con (pv 0) rfl) (nomark _)) (pss_one (ps_rz H_TooMany hr (by omega) rfl (takes_of rfl rfl rfl rfl) (by rfl) (pa_cons pe_str (pa_cons (pe_con (pv 0) rfl) pa_nil)))) pss_nil)
      (pss_cons (ps_if (pt_cmpR ou_gt (pe_callB (cu_sum rfl) (by rfl) T.f_sum (by decide +kernel) (pa_cons (pe_lc (g := gName 6) (tt := tYes) (te := (tCB (uLen K) (tCons (tFld K (tVar 6) "clips") tNil))) (own := [("track", 6)]) rfl nd (pi_list (pv 1)) (blkOk_by (N := n_Stage___init__) (sc := defScope s_Stage___init__) (by decide +kernel)) (fun _ _ _ _ _ => (pg_name (i := 6) nd rfl (Or.inl rfl))) (fun _ _ _ _ _ => pts_nil) (fun _ _ _ _ _ => (pe_callB cu_len (by rfl) T.f_len (by decide +kernel) (pa_cons (pe_fld (pv 6) rfl) pa_nil)))) pa_nil)) (pe_con (pv 0) rfl) (nomark _)) (pss_one (ps_rz H_TooMany hr (by omega) rfl (takes_of rfl rfl rfl rfl) (by rfl) (pa_cons pe_str (pa_cons (pe_con (pv 0) rfl) pa_nil)))) pss_nil)
      (pss_cons (ps_expr (pe_fn H_check_names hr (by omega) passL (by rfl) (pa_cons (pv 1) (pa_cons (pv 2) pa_nil))))
      (pss_cons (ps_setLc (i := 3) (g := gName 6) (tt := tYes) (te := (tFld K (tVar 6) "name")) (own := [("track", 6)]) rfl nd rfl rfl (sw_true rfl rfl rfl (by decide +kernel)) (pi_list (pv 1)) (blkOk_by (N := n_Stage___init__) (sc := defScope s_Stage___init__) (by decide +kernel)) (fun _ _ _ _ _ => (pg_name (i := 6) nd rfl (Or.inl rfl))) (fun _ _ _ _ _ => pts_nil) (fun _ _ _ _ _ => (pe_fld (pv 6) rfl)))
      (pss_cons (ps_for (passes_of rfl) rfl (pi_tup (pv 2)) (pg_name (i := 4) nd rfl (Or.inl rfl)) (pss_one (ps_for (passes_of rfl) rfl (pi_tup (pe_fld (pv 4) rfl)) (pg_name (i := 5) nd rfl (Or.inl rfl)) (pss_one (ps_if (pt_cmpR ou_nin (pv 5) (pv 3) (by rfl)) (pss_one (ps_rz H_Unknown hr (by omega) rfl (takes_of rfl rfl rfl rfl) (by rfl) (pa_cons (pv 5) pa_nil))) pss_nil)))))
      (pss_cons (ps_if (pt_cmpR ou_gt (pe_fn H_count_guards hr (by omega) passL (by rfl) (pa_cons (pv 1) pa_nil)) (pe_con (pv 0) rfl) (nomark _)) (pss_one (ps_rz H_TooMany hr (by omega) rfl (takes_of rfl rfl rfl rfl) (by rfl) (pa_cons pe_str (pa_cons (pe_con (pv 0) rfl) pa_nil)))) pss_nil)
      (pss_cons (ps_fld (pv 0) (pe_callTy cu_tuple (by rfl) T.f_tuple (by decide +kernel) (pa_cons (pv 1) pa_nil)) rfl)
      (pss_one (ps_fld (pv 0) (pe_callTy cu_tuple (by rfl) T.f_tuple (by decide +kernel) (pa_cons (pv 2) pa_nil)) rfl))))))))))), ?_⟩
    walk_at "rd0"
    refine c_mapL [] (fun _ => rfl) ha rfl (by simp) (fun i x y H' P hx => by simp at hx) ?_
    intro D1 hD1
    walk_at "go"
    refine a_sum (ns := []) (SqL.of upd_same) ?_
    walk_at "go"
    refine ⟨a, b, rfl, Same.seq (by walk_at "sm") ha, hb _, fun H1 s1 => ?_⟩
    walk_at "go"
    refine a_iL (Same.seq (by walk_at "sm") ha) ?_
    refine c_mapL [] (fun _ => rfl) (Same.seq (by walk_at "sm") ha) rfl (by simp) (fun i x y H' P hx => by simp at hx) ?_
    intro D2 hD2
    walk_at "go"
    refine a_iT (hb _) ?_
    refine f_tupG ⟨none, rfl⟩ (hb _) (fun i x H' hx _ => by simp at hx) ?_
    intro o2 H2 s2
    walk_at "go"
    refine ⟨a, rfl, Same.seq (by walk_at "sm") ha, fun H3 s3 => ?_⟩
    walk_at "go"
    refine a_tupL (Same.seq (by walk_at "sm") ha) fun t ht => ?_
    walk_at "go"
    refine a_tupT (hb _) ?_
    walk_at "go"
    refine q _ (by walk_at "bt") ⟨dx, t, b, upd_same, ?_, hb _⟩
    have hn : t ≠ d := ne_of_none' hd (by walk_at "sm") ht
    exact SqT.of (up_ne (up_ne upd_same hn) hn)
theorem has_Stage_1 (T : Txt P K mg) : HasCd P w K mg base 4 "Stage" p_Stage___init__ (spStage0 K) [.ref (dflAt ("Stage", some "__init__") 0 K)] := by
  obtain ⟨fd, F⟩ := T.dm_Stage___init__
  obtain ⟨ds, hv, B⟩ := F.binds1 (ps := p_Stage___init__) 2 0 (by simp) rfl fun _ _ _ _ _ _ _ us its hl hi => match us, its, hl, hi with | [_, _], [_], _, _ => ⟨_, rfl, rfl⟩
  exact ⟨⟨fd, ds, ok_Stage___init__ F T, hv, B⟩, T.mk_Stage, T.m_Stage⟩

end Lw
namespace Lw
open PySem PySem.Spec PyProof.Rows L2 He NdefX Bx
variable {P : Program} {w : World} {K : PySem.W.Frag} {mg : Str → Option Value} {base : Heap}
/-! ### Grid's own == -/
def rGrid (K : PySem.W.Frag) : Addr → Addr → Hp → Prop := fun a b H => ∃ s o, GridV K H a s o ∧ GridV K H b s o
theorem sc_Grid___eq__ : FnScope n_Grid___eq__ p_Grid___eq__ (defScope s_Grid___eq__) := ⟨rfl, rfl, rfl, by decide +kernel, rfl, by decide +kernel, by decide +kernel⟩
theorem ok_Grid___eq__ {f : Addr} {fd : FuncData} (F : FunD K "__eq__" "Grid.__eq__" (defArgs s_Grid___eq__) (defBody s_Grid___eq__) (defScope s_Grid___eq__) [] [] f fd) (T : Txt P K mg) : FnOk P w K mg base (L2.CX P w) 1 f fd p_Grid___eq__ (spEq (rGrid K)) := by
  refine F.ok sc_Grid___eq__ (fun vs H Q E h => ?_) (fun cdv A outer s H vs Q E hr h => ?_)
  · obtain ⟨a, b, rfl, _⟩ := h
    rfl
  · obtain ⟨a, b, rfl, ⟨st, o, ⟨dx, ha⟩, ⟨dy, hb⟩⟩, q⟩ := h
    have nd := sc_Grid___eq__.nd
    have cG := T.c_Grid
    have n1 := T.na_Grid_step
    have n2 := T.na_Grid_offset
    refine ⟨_, (by exact (pss_one (ps_ret (pe_and (pe_callB cu_isi (by rfl) T.f_isinstance (by decide +kernel) (pa_cons (pv 1) (pa_cons (pe_glob (v := .ref (ga K "Grid")) (by rfl) T.m_Grid rfl) pa_nil))) (pe_and (pe_cmpR (ou_eq hr.units) (pe_fld (pv 0) rfl) (pe_fld (pv 1) rfl) (nomark _)) (pe_one (pe_cmpR (ou_eq hr.units) (pe_fld (pv 0) rfl) (pe_fld (pv 1) rfl) (nomark _)))))))), ?_⟩
    walk_at "rd0"
    refine a_isIns hb cG T.it_Grid ?_
    walk_at "rd"
    rw [decide_eq_true rfl]
    walk_at "rd"
    rw [decide_eq_true rfl]
    exact q H (Same.refl _)
theorem has_Grid___eq__ (T : Txt P K mg) : HasQ P w K mg base 1 "Grid" p_Grid___eq__ (rGrid K) := by
  obtain ⟨fd, F⟩ := T.dm_Grid___eq__
  exact ⟨⟨fd, ok_Grid___eq__ F T, F.bindsN fun _ _ _ _ _ _ us hl => match us, hl with | [_, _], _ => rfl⟩, T.mt_Grid___eq__⟩
/-! ### the kinds -/
def row81 (i : Nat) : List V := [.bl (decide (i = 0)), .bl (decide (i = 1)), .bl (decide (i = 2)), .bl (decide (i = 3)), .bl (decide (i = 4)), .bl (decide (i = 5)), .bl (decide (i = 6)), .bl (decide (i = 7)), .bl (decide (i = 8)), .bl (decide (i = 9)), .bl (decide (i = 10)), .bl (decide (i = 11)), .bl (decide (i = 12)), .bl (decide (i = 13)), .bl (decide (i = 14)), .bl (decide (i = 15)), .bl true, .bl true]
def spKinds (K : PySem.W.Frag) : Sp := fun vs H Q _ => ∃ a C fs i, vs = [.ref a] ∧ XcV H C a fs ∧ ExcK K C ∧ KC K C i ∧ ∀ r H', Same H H' → H' r = some (.lst (row81 i)) → Q (.ref r) H'
theorem sc__law_kinds : FnScope n__law_kinds p__law_kinds (defScope s__law_kinds) := ⟨rfl, rfl, rfl, by decide +kernel, rfl, by decide +kernel, by decide +kernel⟩
theorem ok__law_kinds {f : Addr} {fd : FuncData} (F : FnP K "_law_kinds" s__law_kinds f fd) (T : Txt P K mg) : FnOk P w K mg base (L2.CX P w) 1 f fd p__law_kinds (spKinds K) := by
  refine F.ok sc__law_kinds (fun vs H Q E h => ?_) (fun cdv A outer s H vs Q E hr h => ?_)
  · obtain ⟨a, C, fs, i, rfl, _⟩ := h
    rfl
  · obtain ⟨a, C, fs, i, rfl, ha, hT, hk, q⟩ := h
    have nd := sc__law_kinds.nd
    have e0 : PySem.W.kitOne K (.ref C) (.ref (ga K "BadName")) = some (decide (i = 0)) := hk.1 0 (by decide)
    have e1 : PySem.W.kitOne K (.ref C) (.ref (ga K "BadNumber")) = some (decide (i = 1)) := hk.1 1 (by decide)
    have e2 : PySem.W.kitOne K (.ref C) (.ref (ga K "BadWord")) = some (decide (i = 2)) := hk.1 2 (by decide)
    have e3 : PySem.W.kitOne K (.ref C) (.ref (ga K "BadLine")) = some (decide (i = 3)) := hk.1 3 (by decide)
    have e4 : PySem.W.kitOne K (.ref C) (.ref (ga K "BadSetting")) = some (decide (i = 4)) := hk.1 4 (by decide)
    have e5 : PySem.W.kitOne K (.ref C) (.ref (ga K "TooMany")) = some (decide (i = 5)) := hk.1 5 (by decide)
    have e6 : PySem.W.kitOne K (.ref C) (.ref (ga K "NoClips")) = some (decide (i = 6)) := hk.1 6 (by decide)
    have e7 : PySem.W.kitOne K (.ref C) (.ref (ga K "Twice")) = some (decide (i = 7)) := hk.1 7 (by decide)
    have e8 : PySem.W.kitOne K (.ref C) (.ref (ga K "Unknown")) = some (decide (i = 8)) := hk.1 8 (by decide)
    have e9 : PySem.W.kitOne K (.ref C) (.ref (ga K "EmptyClip")) = some (decide (i = 9)) := hk.1 9 (by decide)
    have e10 : PySem.W.kitOne K (.ref C) (.ref (ga K "NotEmpty")) = some (decide (i = 10)) := hk.1 10 (by decide)
    have e11 : PySem.W.kitOne K (.ref C) (.ref (ga K "NotArmed")) = some (decide (i = 11)) := hk.1 11 (by decide)
    have e12 : PySem.W.kitOne K (.ref C) (.ref (ga K "NotHeld")) = some (decide (i = 12)) := hk.1 12 (by decide)
    have e13 : PySem.W.kitOne K (.ref C) (.ref (ga K "OffGrid")) = some (decide (i = 13)) := hk.1 13 (by decide)
    have e14 : PySem.W.kitOne K (.ref C) (.ref (ga K "Apart")) = some (decide (i = 14)) := hk.1 14 (by decide)
    have e15 : PySem.W.kitOne K (.ref C) (.ref (ga K "NothingToUndo")) = some (decide (i = 15)) := hk.1 15 (by decide)
    have e16 := hk.2.1
    have e17 := hk.2.2
    refine ⟨_, (by exact (pss_cons (ps_set (i := 1) nd rfl (Or.inl rfl) (pe_lst (pa_cons (pe_callB cu_isi (by rfl) T.f_isinstance (by decide +kernel) (pa_cons (pv 0) (pa_cons (pe_glob (v := .ref (ga K "BadName")) (by rfl) T.m_BadName rfl) pa_nil))) (pa_cons (pe_callB cu_isi (by rfl) T.f_isinstance (by decide +kernel) (pa_cons (pv 0) (pa_cons (pe_glob (v := .ref (ga K "BadNumber")) (by rfl) T.m_BadNumber rfl) pa_nil))) (pa_cons (pe_callB cu_isi (by rfl) T.f_isinstance (by decide +kernel) (pa_cons (pv 0) (pa_cons (pe_glob (v := .ref (ga K "BadWord")) (by rfl) T.m_BadWord rfl) pa_nil))) (pa_cons (pe_callB cu_isi (by rfl) T.f_isinstance (by decide +kernel) (pa_cons (pv 0) (pa_cons (pe_glob (v := .ref (ga K "BadLine")) (by rfl) T.m_BadLine rfl) pa_nil))) pa_nil))))))
      (pss_cons (ps_set (i := 1) nd rfl (Or.inl rfl) (pe_op ou_add (pv 1) (pe_lst (pa_cons (pe_callB cu_isi (by rfl) T.f_isinstance (by decide +kernel) (pa_cons (pv 0) (pa_cons (pe_glob (v := .ref (ga K "BadSetting")) (by rfl) T.m_BadSetting rfl) pa_nil))) (pa_cons (pe_callB cu_isi (by rfl) T.f_isinstance (by decide +kernel) (pa_cons (pv 0) (pa_cons (pe_glob (v := .ref (ga K "TooMany")) (by rfl) T.m_TooMany rfl) pa_nil))) (pa_cons (pe_callB cu_isi (by rfl) T.f_isinstance (by decide +kernel) (pa_cons (pv 0) (pa_cons (pe_glob (v := .ref (ga K "NoClips")) (by rfl) T.m_NoClips rfl) pa_nil))) (pa_cons (pe_callB cu_isi (by rfl) T.f_isinstance (by decide +kernel) (pa_cons (pv 0) (pa_cons (pe_glob (v := .ref (ga K "Twice")) (by rfl) T.m_Twice rfl) pa_nil))) pa_nil)))))))
      (pss_cons (ps_set (i := 1) nd rfl (Or.inl rfl) (pe_op ou_add (pv 1) (pe_lst (pa_cons (pe_callB cu_isi (by rfl) T.f_isinstance (by decide +kernel) (pa_cons (pv 0) (pa_cons (pe_glob (v := .ref (ga K "Unknown")) (by rfl) T.m_Unknown rfl) pa_nil))) (pa_cons (pe_callB cu_isi (by rfl) T.f_isinstance (by decide +kernel) (pa_cons (pv 0) (pa_cons (pe_glob (v := .ref (ga K "EmptyClip")) (by rfl) T.m_EmptyClip rfl) pa_nil))) (pa_cons (pe_callB cu_isi (by rfl) T.f_isinstance (by decide +kernel) (pa_cons (pv 0) (pa_cons (pe_glob (v := .ref (ga K "NotEmpty")) (by rfl) T.m_NotEmpty rfl) pa_nil))) (pa_cons (pe_callB cu_isi (by rfl) T.f_isinstance (by decide +kernel) (pa_cons (pv 0) (pa_cons (pe_glob (v := .ref (ga K "NotArmed")) (by rfl) T.m_NotArmed rfl) pa_nil))) pa_nil)))))))
      (pss_cons (ps_set (i := 1) nd rfl (Or.inl rfl) (pe_op ou_add (pv 1) (pe_lst (pa_cons (pe_callB cu_isi (by rfl) T.f_isinstance (by decide +kernel) (pa_cons (pv 0) (pa_cons (pe_glob (v := .ref (ga K "NotHeld")) (by rfl) T.m_NotHeld rfl) pa_nil))) (pa_cons (pe_callB cu_isi (by rfl) T.f_isinstance (by decide +kernel) (pa_cons (pv 0) (pa_cons (pe_glob (v := .ref (ga K "OffGrid")) (by rfl) T.m_OffGrid rfl) pa_nil))) (pa_cons (pe_callB cu_isi (by rfl) T.f_isinstance (by decide +kernel) (pa_cons (pv 0) (pa_cons (pe_glob (v := .ref (ga K "Apart")) (by rfl) T.m_Apart rfl) pa_nil))) (pa_cons (pe_callB cu_isi (by rfl) T.f_isinstance (by decide +kernel) (pa_cons (pv 0) (pa_cons (pe_glob (v := .ref (ga K "NothingToUndo")) (by rfl) T.m_NothingToUndo rfl) pa_nil))) pa_nil)))))))
      (pss_one (ps_ret (pe_op ou_add (pv 1) (pe_lst (pa_cons (pe_callB cu_isi (by rfl) T.f_isinstance (by decide +kernel) (pa_cons (pv 0) (pa_cons (pe_glob (v := .ref (ga K "BarclipsError")) (by rfl) T.m_BarclipsError rfl) pa_nil))) (pa_cons (pe_callB cu_isi (by rfl) T.f_isinstance (by decide +kernel) (pa_cons (pv 0) (pa_cons (pe_bltn (v := .ty "ValueError") (by rfl) T.f_ValueError (by decide +kernel) rfl) pa_nil))) pa_nil))))))))))), ?_⟩
    walk_at "rd0"
    repeat ((refine a_isV (XcV.same ha (by walk_at "sm")) hT (by first | exact .own _ | exact .ty _) (by first | exact e0 | exact e1 | exact e2 | exact e3 | exact e4 | exact e5 | exact e6 | exact e7 | exact e8 | exact e9 | exact e10 | exact e11 | exact e12 | exact e13 | exact e14 | exact e15 | exact e16 | exact e17) ?_); walk_at "go")
    exact q _ _ (by walk_at "sm") upd_same
theorem has__law_kinds (T : Txt P K mg) : HasF P w K mg base 1 "_law_kinds" p__law_kinds (spKinds K) := by
  obtain ⟨fd, F⟩ := T.d__law_kinds
  exact ⟨⟨fd, ok__law_kinds F T, F.bindsN fun _ _ _ _ _ _ us hl => match us, hl with | [_], _ => rfl⟩, T.m__law_kinds, F.kp⟩
/-! ### the error of the desk -/
theorem a_isC {K : PySem.W.Frag} {a C : Addr} {c : V} {cv : Value} {b : Bool} {H : Hp} {Q : VK} (k : ClsV c cv) (T : ExcK K C) (e : PySem.W.kitOne K (.ref C) cv = some b) (q : Q (.bl b) H) : rIsC K (.ref C) none a [.ref a, c] H Q := ⟨c, cv, C, b, rfl, k, rfl, T, .inl rfl, e, q⟩
def spUndone (K : PySem.W.Frag) : Sp := fun vs H Q _ => ∃ x, vs = [x] ∧ ∀ r H', Same H H' → H' r = some (.lst (row81 15)) → Q (.ref r) H'
theorem sc__law_undone : FnScope n__law_undone p__law_undone (defScope s__law_undone) := ⟨rfl, rfl, rfl, by decide +kernel, rfl, by decide +kernel, by decide +kernel⟩
theorem ok__law_undone {f : Addr} {fd : FuncData} (F : FnP K "_law_undone" s__law_undone f fd) (T : Txt P K mg) : FnOk P w K mg base (L2.CX P w) 6 f fd p__law_undone (spUndone K) := by
  refine F.ok sc__law_undone (fun vs H Q E h => ?_) (fun cdv A outer s H vs Q E hr h => ?_)
  · obtain ⟨x, rfl, _⟩ := h
    rfl
  · obtain ⟨x, rfl, q⟩ := h
    have nd := sc__law_undone.nd
    have hT : ExcK K (ga K "NothingToUndo") := T.x_NothingToUndo
    have hk : KC K (ga K "NothingToUndo") 15 := T.kt 15 (by decide)
    have H_Desk := has_Desk (w := w) (base := base) T
    have H_Stage_1 := has_Stage_1 (w := w) (base := base) T
    have H_Desk_undo := has_Desk_undo (w := w) (base := base) T
    have e0 : PySem.W.kitOne K (.ref (ga K "NothingToUndo")) (.ref (ga K "BadName")) = some false := hk.1 0 (by decide)
    have e1 : PySem.W.kitOne K (.ref (ga K "NothingToUndo")) (.ref (ga K "BadNumber")) = some false := hk.1 1 (by decide)
    have e2 : PySem.W.kitOne K (.ref (ga K "NothingToUndo")) (.ref (ga K "BadWord")) = some false := hk.1 2 (by decide)
    have e3 : PySem.W.kitOne K (.ref (ga K "NothingToUndo")) (.ref (ga K "BadLine")) = some false := hk.1 3 (by decide)
    have e4 : PySem.W.kitOne K (.ref (ga K "NothingToUndo")) (.ref (ga K "BadSetting")) = some false := hk.1 4 (by decide)
    have e5 : PySem.W.kitOne K (.ref (ga K "NothingToUndo")) (.ref (ga K "TooMany")) = some false := hk.1 5 (by decide)
    have e6 : PySem.W.kitOne K (.ref (ga K "NothingToUndo")) (.ref (ga K "NoClips")) = some false := hk.1 6 (by decide)
    have e7 : PySem.W.kitOne K (.ref (ga K "NothingToUndo")) (.ref (ga K "Twice")) = some false := hk.1 7 (by decide)
    have e8 : PySem.W.kitOne K (.ref (ga K "NothingToUndo")) (.ref (ga K "Unknown")) = some false := hk.1 8 (by decide)
    have e9 : PySem.W.kitOne K (.ref (ga K "NothingToUndo")) (.ref (ga K "EmptyClip")) = some false := hk.1 9 (by decide)
    have e10 : PySem.W.kitOne K (.ref (ga K "NothingToUndo")) (.ref (ga K "NotEmpty")) = some false := hk.1 10 (by decide)
    have e11 : PySem.W.kitOne K (.ref (ga K "NothingToUndo")) (.ref (ga K "NotArmed")) = some false := hk.1 11 (by decide)
    have e12 : PySem.W.kitOne K (.ref (ga K "NothingToUndo")) (.ref (ga K "NotHeld")) = some false := hk.1 12 (by decide)
    have e13 : PySem.W.kitOne K (.ref (ga K "NothingToUndo")) (.ref (ga K "OffGrid")) = some false := hk.1 13 (by decide)
    have e14 : PySem.W.kitOne K (.ref (ga K "NothingToUndo")) (.ref (ga K "Apart")) = some false := hk.1 14 (by decide)
    have e16 := hk.2.1
    have e17 := hk.2.2
    refine ⟨_, (by exact (pss_cons (ps_set (i := 1) nd rfl (Or.inl rfl) pe_non)
      (pss_cons (ps_try_as (i := 2) (c := .ref (ga K "NothingToUndo")) (tb := fun W => (tDrop (tSM (ga K "Desk") "undo" (spUndo0 K) [] W (tMake (ga K "Desk") (spDesk K) [] E0 (tCons (tSK (ga K "Stage") (spStage0 K) [.ref (dflAt ("Stage", some "__init__") 0 K)] (fun _ _ _ _ => False) (tCons (tLst tNil) tNil)) (tCons (tVar 0) tNil))) tNil))) (ts := fun a cls d => (tSeq (tAsg (tLst (tCons (tCB (rIsC K cls d a) (tCons (tVar 2) (tCons (tC (.ref (ga K "BadName"))) tNil))) (tCons (tCB (rIsC K cls d a) (tCons (tVar 2) (tCons (tC (.ref (ga K "BadNumber"))) tNil))) (tCons (tCB (rIsC K cls d a) (tCons (tVar 2) (tCons (tC (.ref (ga K "BadWord"))) tNil))) (tCons (tCB (rIsC K cls d a) (tCons (tVar 2) (tCons (tC (.ref (ga K "BadLine"))) tNil))) tNil))))) (gName 1)) (tSeq (tAsg (tOp (uAdd K) (tVar 1) (tLst (tCons (tCB (rIsC K cls d a) (tCons (tVar 2) (tCons (tC (.ref (ga K "BadSetting"))) tNil))) (tCons (tCB (rIsC K cls d a) (tCons (tVar 2) (tCons (tC (.ref (ga K "TooMany"))) tNil))) (tCons (tCB (rIsC K cls d a) (tCons (tVar 2) (tCons (tC (.ref (ga K "NoClips"))) tNil))) (tCons (tCB (rIsC K cls d a) (tCons (tVar 2) (tCons (tC (.ref (ga K "Twice"))) tNil))) tNil)))))) (gName 1)) (tSeq (tAsg (tOp (uAdd K) (tVar 1) (tLst (tCons (tCB (rIsC K cls d a) (tCons (tVar 2) (tCons (tC (.ref (ga K "Unknown"))) tNil))) (tCons (tCB (rIsC K cls d a) (tCons (tVar 2) (tCons (tC (.ref (ga K "EmptyClip"))) tNil))) (tCons (tCB (rIsC K cls d a) (tCons (tVar 2) (tCons (tC (.ref (ga K "NotEmpty"))) tNil))) (tCons (tCB (rIsC K cls d a) (tCons (tVar 2) (tCons (tC (.ref (ga K "NotArmed"))) tNil))) tNil)))))) (gName 1)) (tSeq (tAsg (tOp (uAdd K) (tVar 1) (tLst (tCons (tCB (rIsC K cls d a) (tCons (tVar 2) (tCons (tC (.ref (ga K "NotHeld"))) tNil))) (tCons (tCB (rIsC K cls d a) (tCons (tVar 2) (tCons (tC (.ref (ga K "OffGrid"))) tNil))) (tCons (tCB (rIsC K cls d a) (tCons (tVar 2) (tCons (tC (.ref (ga K "Apart"))) tNil))) (tCons (tC (.bl true)) tNil)))))) (gName 1)) (tAsg (tOp (uAdd K) (tVar 1) (tLst (tCons (tCB (rIsC K cls d a) (tCons (tVar 2) (tCons (tC (.ref (ga K "BarclipsError"))) tNil))) (tCons (tCB (rIsC K cls d a) (tCons (tVar 2) (tCons (tC (.ty "ValueError")) tNil))) tNil)))) (gName 1))))))) rfl rfl nd rfl rfl ⟨by rfl, by decide, .inl T.m_NothingToUndo⟩ (takes_of rfl rfl rfl rfl) (fun W pn xe tk po => (pss_one (ps_expr (pe_mt0S H_Desk_undo.d hr (by omega) tk (pe_mk H_Desk hr (by omega) passL (by rfl) (pa_cons (pe_mkS H_Stage_1 hr (by omega) takes0 (by rfl) (pa_cons (pe_lst pa_nil) pa_nil)) (pa_cons (pv 0) pa_nil))))))) (fun a oe cls d pn hz hf => (pss_cons (ps_set (i := 1) nd rfl (Or.inl rfl) (pe_lst (pa_cons (pe_callB (call_isC hz hf) (by rfl) T.f_isinstance (by decide +kernel) (pa_cons (pv 2) (pa_cons (pe_glob (v := .ref (ga K "BadName")) (by rfl) T.m_BadName rfl) pa_nil))) (pa_cons (pe_callB (call_isC hz hf) (by rfl) T.f_isinstance (by decide +kernel) (pa_cons (pv 2) (pa_cons (pe_glob (v := .ref (ga K "BadNumber")) (by rfl) T.m_BadNumber rfl) pa_nil))) (pa_cons (pe_callB (call_isC hz hf) (by rfl) T.f_isinstance (by decide +kernel) (pa_cons (pv 2) (pa_cons (pe_glob (v := .ref (ga K "BadWord")) (by rfl) T.m_BadWord rfl) pa_nil))) (pa_cons (pe_callB (call_isC hz hf) (by rfl) T.f_isinstance (by decide +kernel) (pa_cons (pv 2) (pa_cons (pe_glob (v := .ref (ga K "BadLine")) (by rfl) T.m_BadLine rfl) pa_nil))) pa_nil))))))
      (pss_cons (ps_set (i := 1) nd rfl (Or.inl rfl) (pe_op ou_add (pv 1) (pe_lst (pa_cons (pe_callB (call_isC hz hf) (by rfl) T.f_isinstance (by decide +kernel) (pa_cons (pv 2) (pa_cons (pe_glob (v := .ref (ga K "BadSetting")) (by rfl) T.m_BadSetting rfl) pa_nil))) (pa_cons (pe_callB (call_isC hz hf) (by rfl) T.f_isinstance (by decide +kernel) (pa_cons (pv 2) (pa_cons (pe_glob (v := .ref (ga K "TooMany")) (by rfl) T.m_TooMany rfl) pa_nil))) (pa_cons (pe_callB (call_isC hz hf) (by rfl) T.f_isinstance (by decide +kernel) (pa_cons (pv 2) (pa_cons (pe_glob (v := .ref (ga K "NoClips")) (by rfl) T.m_NoClips rfl) pa_nil))) (pa_cons (pe_callB (call_isC hz hf) (by rfl) T.f_isinstance (by decide +kernel) (pa_cons (pv 2) (pa_cons (pe_glob (v := .ref (ga K "Twice")) (by rfl) T.m_Twice rfl) pa_nil))) pa_nil)))))))
      (pss_cons (ps_set (i := 1) nd rfl (Or.inl rfl) (pe_op ou_add (pv 1) (pe_lst (pa_cons (pe_callB (call_isC hz hf) (by rfl) T.f_isinstance (by decide +kernel) (pa_cons (pv 2) (pa_cons (pe_glob (v := .ref (ga K "Unknown")) (by rfl) T.m_Unknown rfl) pa_nil))) (pa_cons (pe_callB (call_isC hz hf) (by rfl) T.f_isinstance (by decide +kernel) (pa_cons (pv 2) (pa_cons (pe_glob (v := .ref (ga K "EmptyClip")) (by rfl) T.m_EmptyClip rfl) pa_nil))) (pa_cons (pe_callB (call_isC hz hf) (by rfl) T.f_isinstance (by decide +kernel) (pa_cons (pv 2) (pa_cons (pe_glob (v := .ref (ga K "NotEmpty")) (by rfl) T.m_NotEmpty rfl) pa_nil))) (pa_cons (pe_callB (call_isC hz hf) (by rfl) T.f_isinstance (by decide +kernel) (pa_cons (pv 2) (pa_cons (pe_glob (v := .ref (ga K "NotArmed")) (by rfl) T.m_NotArmed rfl) pa_nil))) pa_nil)))))))
      (pss_cons (ps_set (i := 1) nd rfl (Or.inl rfl) (pe_op ou_add (pv 1) (pe_lst (pa_cons (pe_callB (call_isC hz hf) (by rfl) T.f_isinstance (by decide +kernel) (pa_cons (pv 2) (pa_cons (pe_glob (v := .ref (ga K "NotHeld")) (by rfl) T.m_NotHeld rfl) pa_nil))) (pa_cons (pe_callB (call_isC hz hf) (by rfl) T.f_isinstance (by decide +kernel) (pa_cons (pv 2) (pa_cons (pe_glob (v := .ref (ga K "OffGrid")) (by rfl) T.m_OffGrid rfl) pa_nil))) (pa_cons (pe_callB (call_isC hz hf) (by rfl) T.f_isinstance (by decide +kernel) (pa_cons (pv 2) (pa_cons (pe_glob (v := .ref (ga K "Apart")) (by rfl) T.m_Apart rfl) pa_nil))) (pa_cons pe_bl pa_nil)))))))
      (pss_one (ps_set (i := 1) nd rfl (Or.inl rfl) (pe_op ou_add (pv 1) (pe_lst (pa_cons (pe_callB (call_isC hz hf) (by rfl) T.f_isinstance (by decide +kernel) (pa_cons (pv 2) (pa_cons (pe_glob (v := .ref (ga K "BarclipsError")) (by rfl) T.m_BarclipsError rfl) pa_nil))) (pa_cons (pe_callB (call_isC hz hf) (by rfl) T.f_isinstance (by decide +kernel) (pa_cons (pv 2) (pa_cons (pe_bltn (v := .ty "ValueError") (by rfl) T.f_ValueError (by decide +kernel) rfl) pa_nil))) pa_nil))))))))))))
      (pss_one (ps_ret (pv 1)))))), ?_⟩
    walk_at "rd0"
    walk_at "go"
    refine a_mk ?_ ?_
    · intro H1 s1
      exact ⟨_, _, rfl, SqL.of (s1 _ _ upd_same), T.tu0_Stage___init___0⟩
    intro st H1 H2 hst s1 s2 hS
    walk_at "go"
    refine a_mk ?_ ?_
    · intro H3 s3
      exact ⟨st, x, [], [], rfl, StageV.same hS s3, Nat.zero_le _, Nat.zero_le _⟩
    intro d H3 H4 hd s3 s4 hD
    obtain ⟨b, p, ⟨dx, hd1⟩, hp⟩ := hD
    walk_at "go"
    refine a_M hd1 rfl ?_
    walk_at "go"
    refine ⟨d, .ref b, p, rfl, ⟨dx, hd1⟩, hp, ?_⟩
    refine ⟨true, T.emt_NothingToUndo_NothingToUndo, fun _ a ha => ?_, fun h => nomatch h⟩
    walk_at "go"
    repeat ((refine a_isC (by first | exact .own _ | exact .ty _) hT (by first | exact e0 | exact e1 | exact e2 | exact e3 | exact e4 | exact e5 | exact e6 | exact e7 | exact e8 | exact e9 | exact e10 | exact e11 | exact e12 | exact e13 | exact e14 | exact e16 | exact e17) ?_); walk_at "go")
    exact q _ _ (by walk_at "sm") upd_same
theorem has__law_undone (T : Txt P K mg) : HasF P w K mg base 6 "_law_undone" p__law_undone (spUndone K) := by
  obtain ⟨fd, F⟩ := T.d__law_undone
  exact ⟨⟨fd, ok__law_undone F T, F.bindsN fun _ _ _ _ _ _ us hl => match us, hl with | [_], _ => rfl⟩, T.m__law_undone, F.kp⟩

end Lw
namespace Lw
open PySem PySem.Spec PyProof.Rows L2 He NdefX Bx
variable {P : Program} {w : World} {K : PySem.W.Frag} {mg : Str → Option Value} {base : Heap}
/-! ### the row that is due -/
def spAlone : Sp := fun vs H Q _ => ∃ n : Nat, vs = [.int (n : Nat)] ∧ n < 16 ∧ ∀ r H', Same H H' → H' r = some (.lst (row81 n)) → Q (.ref r) H'
theorem sc__law_alone : FnScope n__law_alone p__law_alone (defScope s__law_alone) := ⟨rfl, rfl, rfl, by decide +kernel, rfl, by decide +kernel, by decide +kernel⟩
theorem ok__law_alone {f : Addr} {fd : FuncData} (F : FnP K "_law_alone" s__law_alone f fd) (T : Txt P K mg) : FnOk P w K mg base (L2.CX P w) 1 f fd p__law_alone spAlone := by
  refine F.ok sc__law_alone (fun vs H Q E h => ?_) (fun cdv A outer s H vs Q E hr h => ?_)
  · obtain ⟨n, rfl, _⟩ := h
    rfl
  · obtain ⟨n, rfl, hn, q⟩ := h
    have nd := sc__law_alone.nd
    refine ⟨_, (by exact (pss_one (ps_ret (pe_op ou_add (pe_lc (g := gName 1) (tt := tYes) (te := (tOp (uEq K) (tVar 1) (tVar 0))) (own := [("_law_k", 1)]) rfl nd (pi_range1 rfl T.f_range (pa_cons pe_int pa_nil)) (blkOk_by (N := n__law_alone) (sc := defScope s__law_alone) (by decide +kernel)) (fun _ _ _ _ _ => (pg_name (i := 1) nd rfl (Or.inl rfl))) (fun _ _ _ _ _ => pts_nil) (fun _ _ _ _ _ => (pe_cmpR (ou_eq hr.units) (pv 1) (pv 0) (nomark _)))) (pe_lst (pa_cons pe_bl (pa_cons pe_bl pa_nil))))))), ?_⟩
    walk_at "rd0"
    refine a_iR1 (by decide) (by decide) ?_
    refine c_mapR ((List.range 16).map fun k => V.bl (decide (n = k))) (fun _ => rfl) rfl (by simp) (fun i x y H' P hx hy sm hP => ?_) ?_
    · obtain ⟨hi, rfl⟩ := hx
      walk_at "rd"
      have e : y = .bl (decide (n = i)) := by
        rw [List.getElem?_map, List.getElem?_range (show i < 16 from hi)] at hy
        exact (Option.some.inj hy).symm
      have e2 : decide ((0 : Int) + (i : Int) = (n : Int)) = decide (n = i) := decide_eq_decide.mpr (by omega)
      rw [e2, ← e]
      exact hP
    · intro D hD
      walk_at "go"
      exact q _ _ (by walk_at "sm") upd_same
theorem has__law_alone (T : Txt P K mg) : HasF P w K mg base 1 "_law_alone" p__law_alone spAlone := by
  obtain ⟨fd, F⟩ := T.d__law_alone
  exact ⟨⟨fd, ok__law_alone F T, F.bindsN fun _ _ _ _ _ _ us hl => match us, hl with | [_], _ => rfl⟩, T.m__law_alone, F.kp⟩
/-! ### the law -/
def dat (v : V) : Prop := v = .non ∨ (∃ b, v = .bl b) ∨ (∃ i, v = .int i) ∨ ∃ z, v = .str z
theorem Sm.one {H : Hp} {v : V} (h : dat v) : Sm H 1 v v := by
  rcases h with rfl | ⟨b, rfl⟩ | ⟨i, rfl⟩ | ⟨z, rfl⟩
  · exact .inl ⟨rfl, rfl⟩
  · exact .inr (.inl ⟨b, rfl, rfl⟩)
  · exact .inr (.inr (.inl ⟨i, rfl, rfl⟩))
  · exact .inr (.inr (.inr (.inl ⟨z, rfl, rfl⟩)))
theorem Sm.two {H : Hp} {a b : Addr} {xs : List V} (ha : H a = some (.lst xs)) (hb : H b = some (.lst xs)) (hl : xs.length ≤ 100000) (hd : ∀ v ∈ xs, dat v) : Sm H 2 (.ref a) (.ref b) := by
  refine .inr (.inr (.inr (.inr ⟨a, b, xs, xs, rfl, rfl, .inl ⟨ha, hb⟩, rfl, hl, fun i u v hu hv => ?_⟩)))
  rw [hu] at hv
  cases hv
  exact Sm.one (hd u (List.mem_of_getElem? hu))
theorem dat_row (i : Nat) : ∀ v ∈ row81 i, dat v := by
  intro v hv
  simp only [row81, List.mem_cons, List.not_mem_nil, or_false] at hv
  rcases hv with rfl | rfl | rfl | rfl | rfl | rfl | rfl | rfl | rfl | rfl | rfl | rfl | rfl | rfl | rfl | rfl | rfl | rfl <;> exact .inr (.inl ⟨_, rfl⟩)
theorem row_len (i : Nat) : (row81 i).length ≤ 100000 := Nat.le_of_ble_eq_true rfl
def spLaw (K : PySem.W.Frag) : Sp := fun vs H Q _ => ∃ (a : Addr) (ns : List Int), vs = [.ref a] ∧ SqL K H a (ns.map V.int) ∧ ns.length ≤ 63 ∧ ∀ H', Q (.bl true) H'
theorem sc_law : FnScope n_law p_law (defScope s_law) := ⟨rfl, rfl, rfl, by decide +kernel, rfl, by decide +kernel, by decide +kernel⟩
def words81 : List V := [.str "kick", .str "Kick", .str "", .str "8+0", .str "a b"]
theorem word_at (r : Nat) (h : r < 5) : ∃ z : Str, words81[r]? = some (.str z) ∧ z.length ≤ 1000 := by
  match r, h with
  | 0, _ => exact ⟨_, rfl, by decide +kernel⟩
  | 1, _ => exact ⟨_, rfl, by decide +kernel⟩
  | 2, _ => exact ⟨_, rfl, by decide +kernel⟩
  | 3, _ => exact ⟨_, rfl, by decide +kernel⟩
  | 4, _ => exact ⟨_, rfl, by decide +kernel⟩
theorem ok_law {f : Addr} {fd : FuncData} (F : FnP K "law" s_law f fd) (T : Txt P K mg) : FnOk P w K mg base CX0 8 f fd p_law (spLaw K) := by
  refine F.ok sc_law (fun vs H Q E h => ?_) (fun cdv A outer s H vs Q E hr h => ?_)
  · obtain ⟨a, ns, rfl, _⟩ := h
    rfl
  · obtain ⟨a, ns, rfl, hS, hl, k⟩ := h
    have nd := sc_law.nd
    have H__law_box := has__law_box (w := w) (base := base) T
    have H__law_draw := has__law_draw (w := w) (base := base) T
    have H__law_same := has__law_same (w := w) (base := base) T 2
    have H__law_kinds := has__law_kinds (w := w) (base := base) T
    have H__law_alone := has__law_alone (w := w) (base := base) T
    have H__law_undone := has__law_undone (w := w) (base := base) T
    have H_Grid := has_Grid (w := w) (base := base) T
    have H_Grid___eq__ := has_Grid___eq__ (w := w) (base := base) T
    have H_BadName := has_BadName (w := w) (base := base) T
    have H_BadNumber := has_BadNumber (w := w) (base := base) T
    have H_BadWord := has_BadWord (w := w) (base := base) T
    have H_BadLine := has_BadLine (w := w) (base := base) T
    have H_BadSetting := has_BadSetting (w := w) (base := base) T
    have H_NoClips := has_NoClips (w := w) (base := base) T
    have H_Twice := has_Twice (w := w) (base := base) T
    have H_Unknown := has_Unknown (w := w) (base := base) T
    have H_EmptyClip := has_EmptyClip (w := w) (base := base) T
    have H_NotEmpty := has_NotEmpty (w := w) (base := base) T
    have H_NotArmed := has_NotArmed (w := w) (base := base) T
    have H_NotHeld := has_NotHeld (w := w) (base := base) T
    have H_OffGrid := has_OffGrid (w := w) (base := base) T
    have H_TooMany := has_TooMany (w := w) (base := base) T
    have H_Apart := has_Apart (w := w) (base := base) T
    refine ⟨_, (by exact (pss_cons (ps_set (i := 1) nd rfl (Or.inl rfl) (pe_fn H__law_box hr (by omega) passL (by rfl) (pa_cons (pv 0) (pa_cons pe_int pa_nil))))
      (pss_cons (ps_set (i := 2) nd rfl (Or.inr rfl) (pe_ix ou_ix (pe_tup (pa_cons pe_str (pa_cons pe_str (pa_cons pe_str (pa_cons pe_str (pa_cons pe_str pa_nil)))))) (pe_fn H__law_draw hr (by omega) passL (by rfl) (pa_cons (pv 1) (pa_cons pe_int pa_nil))) (fun _ _ => rfl)))
      (pss_cons (ps_set (i := 3) nd rfl (Or.inr rfl) (pe_op ou_sub (pe_fn H__law_draw hr (by omega) passL (by rfl) (pa_cons (pv 1) (pa_cons (pe_op ou_mul pe_int (pe_op ou_pow pe_int pe_int)) pa_nil))) (pe_op ou_pow pe_int pe_int)))
      (pss_cons (ps_set (i := 4) nd rfl (Or.inl rfl) (pe_mk H_Grid hr (by omega) passL (by rfl) (pa_cons pe_int (pa_cons (pv 3) pa_nil))))
      (pss_cons (ps_set (i := 5) nd rfl (Or.inl rfl) (pe_mk H_Grid hr (by omega) passL (by rfl) (pa_cons pe_int (pa_cons (pe_op ou_add (pv 3) pe_int) pa_nil))))
      (pss_cons (ps_set (i := 6) nd rfl (Or.inl rfl) (pe_xv H_TooMany hr (by omega) (by rfl) (pa_cons (pv 2) (pa_cons (pv 3) pa_nil))))
      (pss_cons (ps_set (i := 7) nd rfl (Or.inl rfl) (pe_xv H_Apart hr (by omega) (by rfl) (pa_cons (pv 4) (pa_cons (pv 5) pa_nil))))
      (pss_cons (ps_set (i := 8) nd rfl (Or.inl rfl) (pe_lst (pa_cons (pe_fn H__law_kinds hr (by omega) passL (by rfl) (pa_cons (pe_xv H_BadName hr (by omega) (by rfl) (pa_cons (pv 2) pa_nil)) pa_nil)) (pa_cons (pe_fn H__law_kinds hr (by omega) passL (by rfl) (pa_cons (pe_xv H_BadNumber hr (by omega) (by rfl) (pa_cons (pv 3) pa_nil)) pa_nil)) (pa_cons (pe_fn H__law_kinds hr (by omega) passL (by rfl) (pa_cons (pe_xv H_BadWord hr (by omega) (by rfl) (pa_cons (pv 2) pa_nil)) pa_nil)) (pa_cons (pe_fn H__law_kinds hr (by omega) passL (by rfl) (pa_cons (pe_xv H_BadLine hr (by omega) (by rfl) (pa_cons (pv 3) pa_nil)) pa_nil)) pa_nil))))))
      (pss_cons (ps_set (i := 8) nd rfl (Or.inl rfl) (pe_op ou_add (pv 8) (pe_lst (pa_cons (pe_fn H__law_kinds hr (by omega) passL (by rfl) (pa_cons (pe_xv H_BadSetting hr (by omega) (by rfl) (pa_cons (pv 3) pa_nil)) pa_nil)) (pa_cons (pe_fn H__law_kinds hr (by omega) passL (by rfl) (pa_cons (pv 6) pa_nil)) (pa_cons (pe_fn H__law_kinds hr (by omega) passL (by rfl) (pa_cons (pe_xv H_NoClips hr (by omega) (by rfl) (pa_cons (pv 2) pa_nil)) pa_nil)) (pa_cons (pe_fn H__law_kinds hr (by omega) passL (by rfl) (pa_cons (pe_xv H_Twice hr (by omega) (by rfl) (pa_cons (pv 2) pa_nil)) pa_nil)) pa_nil)))))))
      (pss_cons (ps_set (i := 8) nd rfl (Or.inl rfl) (pe_op ou_add (pv 8) (pe_lst (pa_cons (pe_fn H__law_kinds hr (by omega) passL (by rfl) (pa_cons (pe_xv H_Unknown hr (by omega) (by rfl) (pa_cons (pv 2) pa_nil)) pa_nil)) (pa_cons (pe_fn H__law_kinds hr (by omega) passL (by rfl) (pa_cons (pe_xv H_EmptyClip hr (by omega) (by rfl) (pa_cons (pv 2) pa_nil)) pa_nil)) (pa_cons (pe_fn H__law_kinds hr (by omega) passL (by rfl) (pa_cons (pe_xv H_NotEmpty hr (by omega) (by rfl) (pa_cons (pv 2) pa_nil)) pa_nil)) pa_nil))))))
      (pss_cons (ps_set (i := 8) nd rfl (Or.inl rfl) (pe_op ou_add (pv 8) (pe_lst (pa_cons (pe_fn H__law_kinds hr (by omega) passL (by rfl) (pa_cons (pe_xv H_NotArmed hr (by omega) (by rfl) (pa_cons (pv 2) pa_nil)) pa_nil)) (pa_cons (pe_fn H__law_kinds hr (by omega) passL (by rfl) (pa_cons (pe_xv H_NotHeld hr (by omega) (by rfl) (pa_cons (pv 2) pa_nil)) pa_nil)) (pa_cons (pe_fn H__law_kinds hr (by omega) passL (by rfl) (pa_cons (pe_xv H_OffGrid hr (by omega) (by rfl) (pa_cons (pv 3) pa_nil)) pa_nil)) (pa_cons (pe_fn H__law_kinds hr (by omega) passL (by rfl) (pa_cons (pv 7) pa_nil)) pa_nil)))))))
      (pss_cons (ps_set (i := 8) nd rfl (Or.inl rfl) (pe_op ou_add (pv 8) (pe_lst (pa_cons (pe_fn H__law_undone hr (by omega) passL (by rfl) (pa_cons (pv 3) pa_nil)) pa_nil))))
      (pss_cons (ps_for (passes_of rfl) rfl (pi_range1 rfl T.f_range (pa_cons pe_int pa_nil)) (pg_name (i := 9) nd rfl (Or.inl rfl)) (pss_one (ps_if (pt_not (pt_val (pe_fn H__law_same hr (by omega) passL (by rfl) (pa_cons (pe_ix ou_ix (pv 8) (pv 9) (fun _ _ => rfl)) (pa_cons (pe_fn H__law_alone hr (by omega) passL (by rfl) (pa_cons (pv 9) pa_nil)) pa_nil))))) (pss_one (ps_ret pe_bl)) pss_nil)))
      (pss_cons (ps_set (i := 10) nd rfl (Or.inl rfl) (pe_lst (pa_cons (pe_xfld (pe_xv H_BadName hr (by omega) (by rfl) (pa_cons (pv 2) pa_nil))) (pa_cons (pe_xfld (pe_xv H_NoClips hr (by omega) (by rfl) (pa_cons (pv 2) pa_nil))) (pa_cons (pe_xfld (pe_xv H_Twice hr (by omega) (by rfl) (pa_cons (pv 2) pa_nil))) (pa_cons (pe_xfld (pe_xv H_Unknown hr (by omega) (by rfl) (pa_cons (pv 2) pa_nil))) (pa_cons (pe_xfld (pe_xv H_EmptyClip hr (by omega) (by rfl) (pa_cons (pv 2) pa_nil))) pa_nil)))))))
      (pss_cons (ps_set (i := 10) nd rfl (Or.inl rfl) (pe_op ou_add (pv 10) (pe_lst (pa_cons (pe_xfld (pe_xv H_NotEmpty hr (by omega) (by rfl) (pa_cons (pv 2) pa_nil))) (pa_cons (pe_xfld (pe_xv H_NotArmed hr (by omega) (by rfl) (pa_cons (pv 2) pa_nil))) (pa_cons (pe_xfld (pe_xv H_NotHeld hr (by omega) (by rfl) (pa_cons (pv 2) pa_nil))) (pa_cons (pe_xfld (pe_xv H_BadWord hr (by omega) (by rfl) (pa_cons (pv 2) pa_nil))) (pa_cons (pe_xfld (pv 6)) pa_nil))))))))
      (pss_cons (ps_set (i := 11) nd rfl (Or.inl rfl) (pe_lst (pa_cons (pe_xfld (pe_xv H_BadNumber hr (by omega) (by rfl) (pa_cons (pv 3) pa_nil))) (pa_cons (pe_xfld (pe_xv H_BadLine hr (by omega) (by rfl) (pa_cons (pv 3) pa_nil))) (pa_cons (pe_xfld (pe_xv H_BadSetting hr (by omega) (by rfl) (pa_cons (pv 3) pa_nil))) (pa_cons (pe_xfld (pe_xv H_OffGrid hr (by omega) (by rfl) (pa_cons (pv 3) pa_nil))) (pa_cons (pe_xfld (pv 6)) pa_nil)))))))
      (pss_cons (ps_if (PW.pt (pw_or (pt_not (pt_val (pe_fn H__law_same hr (by omega) passL (by rfl) (pa_cons (pv 10) (pa_cons (pe_lc (g := gName 9) (tt := tYes) (te := (tVar 2)) (own := [("_law_k", 9)]) rfl nd (pi_range1 rfl T.f_range (pa_cons pe_int pa_nil)) (blkOk_by (N := n_law) (sc := defScope s_law) (by decide +kernel)) (fun _ _ _ _ _ => (pg_name (i := 9) nd rfl (Or.inl rfl))) (fun _ _ _ _ _ => pts_nil) (fun _ _ _ _ _ => (pv 2))) pa_nil))))) (pw_or1 (pt_not (pt_val (pe_fn H__law_same hr (by omega) passL (by rfl) (pa_cons (pv 11) (pa_cons (pe_lc (g := gName 9) (tt := tYes) (te := (tVar 3)) (own := [("_law_k", 9)]) rfl nd (pi_range1 rfl T.f_range (pa_cons pe_int pa_nil)) (blkOk_by (N := n_law) (sc := defScope s_law) (by decide +kernel)) (fun _ _ _ _ _ => (pg_name (i := 9) nd rfl (Or.inl rfl))) (fun _ _ _ _ _ => pts_nil) (fun _ _ _ _ _ => (pv 3))) pa_nil)))))))) (pss_one (ps_ret pe_bl)) pss_nil)
      (pss_one (ps_ret (pe_and (pe_cmpR (ou_own H_Grid___eq__ hr (by omega)) (pe_xfld (pv 7)) (pv 4) (nomark _)) (pe_one (pe_cmpR (ou_own H_Grid___eq__ hr (by omega)) (pe_xfld (pv 7)) (pv 5) (nomark _)))))))))))))))))))))))), ?_⟩
    walk_at "rd0"
    refine ⟨a, ns, 0, rfl, hS, hl, by omega, fun b H1 s1 hb hB => ?_⟩
    obtain ⟨bx, by', bz, hB, hB1, hB2, hB3⟩ := hB
    walk_at "go"
    refine ⟨b, 5, rfl, ⟨bx, by', bz, by walk_at "hp", hB1, hB2, hB3⟩, by decide, by decide +kernel, fun r x y z r0 r1 x0 y0 y1 => ?_⟩
    obtain ⟨word, hw, hwl⟩ := word_at r.toNat (by omega)
    walk_at "rd"
    rename_i p hp
    have hpb : p ≠ b := fun e => by
      rw [e, hB] at hp
      cases hp
    refine a_ixT (xs := words81) (j := r.toNat) (SqT.of (up_ne upd_same hpb)) (by omega) hw ?_
    walk_at "rd"
    refine ⟨b, 2 * 10 ^ Int.toNat 30, rfl, ⟨x, y, z, upd_same, x0, y0, y1⟩, by decide, by decide +kernel, fun r2 x2 y2 z2 _ _ _ _ _ => ?_⟩
    walk_at "rd"
    generalize upd (upd (upd H1 p _) b _) b _ = Hd
    generalize r2 - 10 ^ Int.toNat 30 = v
    walk_at "go"
    refine a_mk ?_ ?_
    · exact fun _ _ => ⟨2, v, rfl, by decide⟩
    intro g1 G10 G1 hg1 t10 t1 hG1
    obtain ⟨dg1, hG1⟩ := hG1 2 (v) rfl
    clear t10
    walk_at "go"
    refine a_mk ?_ ?_
    · exact fun _ _ => ⟨2, v + 1, rfl, by decide⟩
    intro g2 G20 G2 hg2 t20 t2 hG2
    obtain ⟨dg2, hG2⟩ := hG2 2 (v + 1) rfl
    clear t20
    walk_at "go"
    refine a_xv2 ⟨word, rfl, hwl⟩ ?_
    intro em E1 u1 hm
    walk_at "go"
    refine a_xv2 True.intro ?_
    intro ea E2 u2 ha
    walk_at "go"
    refine a_xv1 ?_
    intro e0 X0 w0 x0
    walk_at "go"
    refine ⟨_, _, _, 0, rfl, x0, T.x_BadName, T.kt 0 (by decide), ?_⟩
    intro r0 R0 s0 h0
    walk_at "go"
    refine a_xv1 ?_
    intro e1 X1 w1 x1
    walk_at "go"
    refine ⟨_, _, _, 1, rfl, x1, T.x_BadNumber, T.kt 1 (by decide), ?_⟩
    intro r1 R1 s1 h1
    walk_at "go"
    refine a_xv1 ?_
    intro e2 X2 w2 x2
    walk_at "go"
    refine ⟨_, _, _, 2, rfl, x2, T.x_BadWord, T.kt 2 (by decide), ?_⟩
    intro r2 R2 s2 h2
    walk_at "go"
    refine a_xv1 ?_
    intro e3 X3 w3 x3
    walk_at "go"
    refine ⟨_, _, _, 3, rfl, x3, T.x_BadLine, T.kt 3 (by decide), ?_⟩
    intro r3 R3 s3 h3
    walk_at "go"
    refine a_xv1 ?_
    intro e4 X4 w4 x4
    walk_at "go"
    refine ⟨_, _, _, 4, rfl, x4, T.x_BadSetting, T.kt 4 (by decide), ?_⟩
    intro r4 R4 s4 h4
    walk_at "go"
    refine ⟨_, _, _, 5, rfl, XcV.same hm (by walk_at "sm"), T.x_TooMany, T.kt 5 (by decide), ?_⟩
    intro r5 R5 s5 h5
    walk_at "go"
    refine a_xv1 ?_
    intro e6 X6 w6 x6
    walk_at "go"
    refine ⟨_, _, _, 6, rfl, x6, T.x_NoClips, T.kt 6 (by decide), ?_⟩
    intro r6 R6 s6 h6
    walk_at "go"
    refine a_xv1 ?_
    intro e7 X7 w7 x7
    walk_at "go"
    refine ⟨_, _, _, 7, rfl, x7, T.x_Twice, T.kt 7 (by decide), ?_⟩
    intro r7 R7 s7 h7
    walk_at "go"
    refine a_xv1 ?_
    intro e8 X8 w8 x8
    walk_at "go"
    refine ⟨_, _, _, 8, rfl, x8, T.x_Unknown, T.kt 8 (by decide), ?_⟩
    intro r8 R8 s8 h8
    walk_at "go"
    refine a_xv1 ?_
    intro e9 X9 w9 x9
    walk_at "go"
    refine ⟨_, _, _, 9, rfl, x9, T.x_EmptyClip, T.kt 9 (by decide), ?_⟩
    intro r9 R9 s9 h9
    walk_at "go"
    refine a_xv1 ?_
    intro e10 X10 w10 x10
    walk_at "go"
    refine ⟨_, _, _, 10, rfl, x10, T.x_NotEmpty, T.kt 10 (by decide), ?_⟩
    intro r10 R10 s10 h10
    walk_at "go"
    refine a_xv1 ?_
    intro e11 X11 w11 x11
    walk_at "go"
    refine ⟨_, _, _, 11, rfl, x11, T.x_NotArmed, T.kt 11 (by decide), ?_⟩
    intro r11 R11 s11 h11
    walk_at "go"
    refine a_xv1 ?_
    intro e12 X12 w12 x12
    walk_at "go"
    refine ⟨_, _, _, 12, rfl, x12, T.x_NotHeld, T.kt 12 (by decide), ?_⟩
    intro r12 R12 s12 h12
    walk_at "go"
    refine a_xv1 ?_
    intro e13 X13 w13 x13
    walk_at "go"
    refine ⟨_, _, _, 13, rfl, x13, T.x_OffGrid, T.kt 13 (by decide), ?_⟩
    intro r13 R13 s13 h13
    walk_at "go"
    refine ⟨_, _, _, 14, rfl, XcV.same ha (by walk_at "sm"), T.x_Apart, T.kt 14 (by decide), ?_⟩
    intro r14 R14 s14 h14
    walk_at "go"
    refine ⟨_, rfl, ?_⟩
    intro r15 R15 s15 h15
    walk_at "go"
    have rows : ∀ i, i < 16 → ∃ r, ([.ref r0, .ref r1, .ref r2, .ref r3, .ref r4, .ref r5, .ref r6, .ref r7, .ref r8, .ref r9, .ref r10, .ref r11, .ref r12, .ref r13, .ref r14, .ref r15] : List V)[i]? = some (.ref r) ∧ R15 r = some (.lst (row81 i)) := by
      intro i hi
      match i, hi with
      | 0, _ => exact ⟨r0, rfl, by walk_at "hp"⟩
      | 1, _ => exact ⟨r1, rfl, by walk_at "hp"⟩
      | 2, _ => exact ⟨r2, rfl, by walk_at "hp"⟩
      | 3, _ => exact ⟨r3, rfl, by walk_at "hp"⟩
      | 4, _ => exact ⟨r4, rfl, by walk_at "hp"⟩
      | 5, _ => exact ⟨r5, rfl, by walk_at "hp"⟩
      | 6, _ => exact ⟨r6, rfl, by walk_at "hp"⟩
      | 7, _ => exact ⟨r7, rfl, by walk_at "hp"⟩
      | 8, _ => exact ⟨r8, rfl, by walk_at "hp"⟩
      | 9, _ => exact ⟨r9, rfl, by walk_at "hp"⟩
      | 10, _ => exact ⟨r10, rfl, by walk_at "hp"⟩
      | 11, _ => exact ⟨r11, rfl, by walk_at "hp"⟩
      | 12, _ => exact ⟨r12, rfl, by walk_at "hp"⟩
      | 13, _ => exact ⟨r13, rfl, by walk_at "hp"⟩
      | 14, _ => exact ⟨r14, rfl, by walk_at "hp"⟩
      | 15, _ => exact ⟨r15, rfl, by walk_at "hp"⟩
      | n + 16, h => exact absurd h (by omega)
    refine a_iR1 (by decide) (by decide) ?_
    refine f_rangeG ⟨none, rfl⟩ ?_ ?_
    · intro i H2 hi sm
      obtain ⟨r, hr1, hr2⟩ := rows i hi
      walk_at "go"
      refine a_ixL (xs := [.ref r0, .ref r1, .ref r2, .ref r3, .ref r4, .ref r5, .ref r6, .ref r7, .ref r8, .ref r9, .ref r10, .ref r11, .ref r12, .ref r13, .ref r14, .ref r15]) (j := i) (SqL.of (by walk_at "hp")) (by omega) hr1 ?_
      walk_at "go"
      refine ⟨i, by rw [Int.zero_add]; rfl, hi, fun q H3 s3 hq => ?_⟩
      walk_at "go"
      refine ⟨_, _, rfl, Sm.two (by walk_at "hp") hq (row_len i) (dat_row i), ?_⟩
      walk_at "go"
      exact Grown.mk' (by walk_at "sm")
    · intro o9 H2 sm
      walk_at "go"
      refine a_xv1 ?_
      intro f0 Y0 z0 y0
      walk_at "go"
      refine a_xf y0 T.x_BadName T.nf_BadName_name rfl ?_
      walk_at "go"
      refine a_xv1 ?_
      intro f1 Y1 z1 y1
      walk_at "go"
      refine a_xf y1 T.x_NoClips T.nf_NoClips_name rfl ?_
      walk_at "go"
      refine a_xv1 ?_
      intro f2 Y2 z2 y2
      walk_at "go"
      refine a_xf y2 T.x_Twice T.nf_Twice_name rfl ?_
      walk_at "go"
      refine a_xv1 ?_
      intro f3 Y3 z3 y3
      walk_at "go"
      refine a_xf y3 T.x_Unknown T.nf_Unknown_name rfl ?_
      walk_at "go"
      refine a_xv1 ?_
      intro f4 Y4 z4 y4
      walk_at "go"
      refine a_xf y4 T.x_EmptyClip T.nf_EmptyClip_name rfl ?_
      walk_at "go"
      refine a_xv1 ?_
      intro f5 Y5 z5 y5
      walk_at "go"
      refine a_xf y5 T.x_NotEmpty T.nf_NotEmpty_name rfl ?_
      walk_at "go"
      refine a_xv1 ?_
      intro f6 Y6 z6 y6
      walk_at "go"
      refine a_xf y6 T.x_NotArmed T.nf_NotArmed_name rfl ?_
      walk_at "go"
      refine a_xv1 ?_
      intro f7 Y7 z7 y7
      walk_at "go"
      refine a_xf y7 T.x_NotHeld T.nf_NotHeld_name rfl ?_
      walk_at "go"
      refine a_xv1 ?_
      intro f8 Y8 z8 y8
      walk_at "go"
      refine a_xf y8 T.x_BadWord T.nf_BadWord_word rfl ?_
      walk_at "go"
      refine a_xf (XcV.same hm (by walk_at "sm")) T.x_TooMany T.nf_TooMany_kind rfl ?_
      walk_at "go"
      refine a_xv1 ?_
      intro f10 Y10 z10 y10
      walk_at "go"
      refine a_xf y10 T.x_BadNumber T.nf_BadNumber_value rfl ?_
      walk_at "go"
      refine a_xv1 ?_
      intro f11 Y11 z11 y11
      walk_at "go"
      refine a_xf y11 T.x_BadLine T.nf_BadLine_number rfl ?_
      walk_at "go"
      refine a_xv1 ?_
      intro f12 Y12 z12 y12
      walk_at "go"
      refine a_xf y12 T.x_BadSetting T.nf_BadSetting_size rfl ?_
      walk_at "go"
      refine a_xv1 ?_
      intro f13 Y13 z13 y13
      walk_at "go"
      refine a_xf y13 T.x_OffGrid T.nf_OffGrid_tick rfl ?_
      walk_at "go"
      refine a_xf (XcV.same hm (by walk_at "sm")) T.x_TooMany T.nf_TooMany_most rfl ?_
      walk_at "go"
      refine a_iR1 (by decide) (by decide) ?_
      refine c_mapR (List.replicate 10 (.str word)) (fun _ => rfl) rfl (Nat.le_of_ble_eq_true rfl) (fun i x y H5 P hx hy sm5 hP => ?_) ?_
      · walk_at "rd"
        rw [List.eq_of_mem_replicate (List.mem_of_getElem? hy)] at hP
        exact hP
      intro D10 hD10
      walk_at "go"
      refine ⟨_, _, rfl, Sm.two (xs := List.replicate 10 (.str word)) (by walk_at "hp") upd_same (Nat.le_of_ble_eq_true rfl) (fun u hu => by rw [List.eq_of_mem_replicate hu]; exact .inr (.inr (.inr ⟨_, rfl⟩))), ?_⟩
      walk_at "go"
      refine a_iR1 (by decide) (by decide) ?_
      refine c_mapR (List.replicate 5 (.int v)) (fun _ => rfl) rfl (Nat.le_of_ble_eq_true rfl) (fun i x y H5 P hx hy sm5 hP => ?_) ?_
      · walk_at "rd"
        rw [List.eq_of_mem_replicate (List.mem_of_getElem? hy)] at hP
        exact hP
      intro D5 hD5
      walk_at "go"
      refine ⟨_, _, rfl, Sm.two (xs := List.replicate 5 (.int v)) (by walk_at "hp") upd_same (Nat.le_of_ble_eq_true rfl) (fun u hu => by rw [List.eq_of_mem_replicate hu]; exact .inr (.inr (.inl ⟨_, rfl⟩))), ?_⟩
      walk_at "go"
      refine a_xf (XcV.same ha (by walk_at "sm")) T.x_Apart T.nf_Apart_first rfl ?_
      walk_at "go"
      refine a_own (dx := dg1) (dy := dg1) (by walk_at "hp") (by walk_at "hp") ⟨2, v % 2, ⟨dg1, by walk_at "hp"⟩, ⟨dg1, by walk_at "hp"⟩⟩ ?_
      intro Q1 q1
      walk_at "go"
      refine a_xf (XcV.same ha (by walk_at "sm")) T.x_Apart T.nf_Apart_second rfl ?_
      walk_at "go"
      refine a_own (dx := dg2) (dy := dg2) (by walk_at "hp") (by walk_at "hp") ⟨2, (v + 1) % 2, ⟨dg2, by walk_at "hp"⟩, ⟨dg2, by walk_at "hp"⟩⟩ ?_
      intro Q2 q2
      walk_at "go"
      exact k _


end Lw
namespace Lw
open PySem PySem.Spec PyProof.Rows L2 He NdefX Bx
variable {P : Program} {w : World} {K : PySem.W.Frag} {mg : Str → Option Value} {base : Heap}
theorem facts {P : Program} {w : World} {K : PySem.W.Frag} {h : Heap} {mg : Str → Option Value} {f : Addr} (X : K.In h) (G : h.Ns mainGlobals mg) (hfl : ((P.main.file : Str) == clFile) = true) (htop : (P.main.scope.names.lookup ("super" : Str)).isSome = false)
    (hf : mg ("law" : Str) = some (.ref f)) (c : SaysX clFile hfa hfn K) :
    ∃ fd : FuncData, (∀ (s : Shared) (v : Value), BindsTo s fd ⟨[v], []⟩ [("_law_script", v)]) ∧ ∀ base : Heap, K.In base → base.Ns mainGlobals mg → FnOk P w K mg base CX0 8 f fd p_law (spLaw K) := by
  have T : Txt P K mg := txt_of X G hfl htop c
  obtain ⟨fd, F⟩ := T.d_law
  have e := hf.symm.trans T.m_law
  cases e
  exact ⟨fd, fun s v => FunD.bindsA (ps := p_law) F (fun _ _ _ _ _ _ us hl => match us, hl with | [_], _ => rfl) s [v] rfl, fun base _ _ => ok_law F T⟩
end Lw
open PySem PySem.W PySem.Calls PyProof.Rows
theorem PySem.Challenge.cw_barclips_k81_errors_apart_holds : PySem.Challenge.rw_barclips_k81_errors_apart.Holds := by
  w_on; o_law
  refine HandSHeadRun.head_any (r := OpenLaw.row PySem.Challenge.rw_barclips_k81_errors_apart) (q := view (OpenLaw.row PySem.Challenge.rw_barclips_k81_errors_apart).prog [99]) (H := Lw.hk) (ob := Lw.ob) (M := 30000) (loose := Lw.loose) (d := HandSHeadRun.topDef (OpenLaw.row PySem.Challenge.rw_barclips_k81_errors_apart).prog 99) (kwd := []) Lw.ob_eq
    (by kernel_rfl) (fun s => by kernel_rfl) Lw.run (by kernel_rfl) (by kernel_rfl) (by kernel_rfl) (by rfl) (by first | assumption | decide +kernel) (by decide +kernel) ⟨rfl, rfl, rfl, rfl, rfl, by decide +kernel⟩ ?hw ?hc
  case hw => w_witness2
  case hc =>
    refine L2.walk_ofE (l := PySem.Challenge.rw_barclips_k81_errors_apart) (n := 63) (k := 8) (x := "_law_script") (CX := L2.CX0) rfl (by decide) (by kernel_rfl) ⟨rfl, by decide, by decide⟩ ?F (fun _ _ _ _ z => z)
    intro w mg fa h Y G hmg0
    obtain ⟨K, KX, c⟩ := Y
    have hmg : mg ("law" : PySem.Str) = some (.ref fa) := by
      have e : (HandSHeadRun.topDef (OpenLaw.row PySem.Challenge.rw_barclips_k81_errors_apart).prog 99).name = ("law" : PySem.Str) := by kernel_rfl
      rw [← e]
      exact hmg0
    obtain ⟨fd, hb, hF⟩ := Lw.facts (P := (PySem.Challenge.rw_barclips_k81_errors_apart).prog) (w := w) KX G (by kernel_rfl) (by kernel_rfl) hmg c
    exact ⟨K, fd, Lw.spLaw K, KX, hb, fun H a ns hl _ hS => ⟨a, ns, rfl, hS, hl, fun _ => rfl⟩, hF⟩
namespace Lw

end Lw
