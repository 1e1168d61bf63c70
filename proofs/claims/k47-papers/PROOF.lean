import PyProof.Rows.All
import Wide.All
import OpenK.AllK
import Wide.FinOn
import HandS.ForMost
import HandS.Star
import KE.KSuper
import KE.KIsNot
import KE.KTypeName
import PyProof.EqAt
import PyProof.EqKinds
import PyProof.TupleCall
import PyProof.InstNe
import HandS.OwnEq
import HandS.IsInst
import PyProof.ReprRoads
import PyProof.ReprLen
import HandS.FStrTup
import HandS.Codes
import HandS.Conv
import HandS.MakeKwOnly
import HandS.NoneIn
import HandS.Walk
import HandS.EndBits
import PySem.Challenge.RW_termmaps_k47_papers_of_maps_of_any_value
set_option Elab.async false
set_option maxRecDepth 100000
set_option linter.all false
/-! A method that closes over __class__ and begins with super().__init__(..): its promise by that of the class above. -/
namespace K47
open PySem PySem.W PySem.Spec PySem.Calls PyProof.Rows L2

theorem lookup_mem {α : Type} : ∀ {l : List (Str × α)} {x : Str} {u : α}, (l.map (·.1)).Nodup → (x, u) ∈ l → l.lookup x = some u
  | [], _, _, _, h => by cases h
  | (k, v) :: r, x, u, nd, h => by
    rw [List.map_cons, List.nodup_cons] at nd
    rw [List.lookup_cons]
    rcases List.mem_cons.mp h with e | h
    · cases e
      simp
    · have hk : (x == k) = false := by
        refine beq_eq_false_iff_ne.mpr fun e => nd.1 ?_
        rw [← e]
        exact List.mem_map.mpr ⟨_, h, rfl⟩
      rw [hk]
      exact lookup_mem nd.2 h

theorem zip_keys : ∀ {P : List Str} {us : List Value}, us.length = P.length → (P.zip us).map (·.1) = P
  | [], [], _ => rfl
  | [], _ :: _, h => by cases h
  | _ :: _, [], h => by cases h
  | p :: P, u :: us, h => by
    have ih := zip_keys (P := P) (us := us) (by simpa using h)
    show p :: (P.zip us).map (·.1) = p :: P
    rw [ih]
theorem zip_mem : ∀ {P : List Str} {us : List Value} {i : Nat} {x : Str} {u : Value}, P[i]? = some x → us[i]? = some u → (x, u) ∈ P.zip us
  | [], _, _, _, _, h, _ => by simp at h
  | _ :: _, [], _, _, _, _, h => by simp at h
  | p :: P, w :: us, 0, x, u, h1, h2 => by
    simp at h1 h2
    subst h1; subst h2
    exact List.mem_cons_self
  | p :: P, w :: us, i + 1, x, u, h1, h2 => List.mem_cons_of_mem _ (zip_mem (i := i) (by simpa using h1) (by simpa using h2))
theorem zip_rev {P : List Str} {us : List Value} {i : Nat} {x : Str} {u : Value} (nd : P.Nodup) (hl : us.length = P.length) (h1 : P[i]? = some x) (h2 : us[i]? = some u) : (P.zip us).reverse.lookup x = some u := by
  refine lookup_mem ?_ (List.mem_reverse.mpr (zip_mem h1 h2))
  rw [List.map_reverse, zip_keys hl]
  exact (List.reverse_perm P).nodup_iff.mpr nd

/-- the names of such a method: its parameters first; free is __class__ alone -/
structure SupScope (N ps : List Str) (sc : Scope) : Prop where
  kind : sc.kind = .function
  co : sc.isCoroutine = false
  gen : sc.isGenerator = false
  nd : N.Nodup
  pre : N.take ps.length = ps
  par : ∀ x ∈ ps, sc.names.lookup x = some .local
  nocell : ∀ y ∈ sc.names, y.2 ≠ .cell
  free : ∀ y ∈ sc.names, y.2 = .free → y.1 = "__class__"
  sup : sc.names.lookup ("super" : Str) = some .globalImplicit
  cls : sc.names.lookup ("__class__" : Str) = some .free

def cxK (CX : CXT) (P : Program) (w : World) (K : PySem.W.Frag) (mg : Str → Option Value) (base : Heap) (N : List Str) (qual : Str) (scope : Scope) (f : Addr) (cd : Value) (cc : Addr) (A : Around) (outer : List Env) (s : Shared) (H : Hp) (E : XK) : Cx where
  prog := P
  w := w
  K := K
  mg := mg
  base := base
  A := A.deeper (ksEnv qual scope s.heap.objs.size f cd cc)
  N := N
  s_0 := s
  H_0 := H
  env := ksEnv qual scope s.heap.objs.size f cd cc
  outer := outer
  stack := ksEnv qual scope s.heap.objs.size f cd cc :: outer
  ex := []
  calm := true
  fn := fun x => x != ("__class__" : Str)
  pn := []
  xe := fun e s' => wpAny (model P w) (A.deeper (ksEnv qual scope s.heap.objs.size f cd cc)) (leaving (ksEnv qual scope s.heap.objs.size f cd cc) e) (fun _ s'' => CX outer H s E e s'') (fun e' s'' => CX outer H s E e' s'') s'

theorem cells1 {x : Str} {c cc : Addr} (h : List.lookup x [(("__class__" : Str), cc)] = some c) : x = ("__class__" : Str) ∧ c = cc := by
  rw [List.lookup_cons] at h
  cases hb : x == ("__class__" : Str) with
  | true =>
    rw [hb] at h
    exact ⟨eq_of_beq hb, (Option.some.inj h).symm⟩
  | false =>
    rw [hb] at h
    cases h

theorem inv_startK {CX : CXT} {P : Program} {w : World} {K : PySem.W.Frag} {mg : Str → Option Value} {base : Heap} {N ps : List Str} {qual : Str} {scope : Scope} {f : Addr} {cd : Value} {cc : Addr} {A : Around} {outer : List Env} {s : Shared} {h₀ : Heap} {tk : Nat} {H : Hp} {E : XK} {us : List Value} {vs : List V}
    {oc : Obj} {vc : Option Value} (S : SupScope N ps scope) (hd : A.handled = none) (e0 : Env0 P w K mg base A outer s H) (hl : vs.length = ps.length) (r : Vals vs us) (hcc : K.lookup cc = some oc) (hcd : oc.data = .cell vc)
    (ns : h₀.Ns s.heap.objs.size (fun x => (ps.zip us).reverse.lookup x)) (hk : ∀ b o, s.heap.get? b = some o → h₀.get? b = some o) :
    Inv (cxK CX P w K mg base N qual scope f cd cc A outer s H E) [] (L2.start N vs) H { s with heap := h₀, toks := tk } := by
  have hpl : ps.length ≤ N.length := by have := congrArg List.length S.pre; rw [List.length_take] at this; omega
  have noA : ∀ b : Addr, b ∉ (cxK CX P w K mg base N qual scope f cd cc A outer s H E).ex := fun b z => absurd (show b ∈ ([] : List Addr) from z) (by simp)
  have hb : base.get? cc = some oc := e0.mod.kin cc oc hcc
  have hcH : H cc = none := (e0.bs cc oc hb).2
  have hcs : s.heap.get? cc = some oc := (e0.bs cc oc hb).1
  refine ⟨⟨e0.mod, S.kind, rfl, rfl, Nat.le_refl _, fun y z c h1 h2 => ?_, fun y hy => ?_, fun y c hf h => ?_, fun _ => hd, Around.frames_deeper e0.frames, .inr ⟨rfl, rfl⟩, fun b z => absurd z (noA b), e0.bs, e0.bsz, fun b _ _ => noA b, fun b z => absurd z (noA b), e0.funs, e0.frf⟩,
    rfl, e0.bare, Un.kept hk, ⟨_, ns, fun i y v h1 h2 h3 => ?_⟩, fun y c h => ?_, e0.hok.fresh (Nat.le_refl _), fun y c h => ?_, fun p hp => absurd (show p ∈ ([] : List (Addr × Obj)) from hp) (by simp), e0.hok.kept hk, ?_⟩
  · exact (cells1 h1).1.trans (cells1 h2).1.symm
  · have hy : scope.names.lookup y = some .cell ∨ scope.names.lookup y = some .free := hy
    rcases hy with hy | hy
    · exact absurd rfl (S.nocell _ (PySem.mem_of_lookup hy))
    · have e := S.free _ (PySem.mem_of_lookup hy) rfl
      refine ⟨cc, ?_⟩
      show List.lookup y [(("__class__" : Str), cc)] = some cc
      rw [show y = ("__class__" : Str) from e]
      simp
  · have e := (cells1 h).1
    have hf : (y != ("__class__" : Str)) = true := hf
    rw [e] at hf
    simp at hf
  · have hi : i < vs.length := by
      unfold L2.start at h2
      by_cases hi : i < vs.length
      · exact hi
      · rw [List.getElem?_append_right (by simpa using hi)] at h2
        rw [List.getElem?_replicate] at h2
        split at h2 <;> cases h2
    have ha : vs[i]? = some v := by
      unfold L2.start at h2
      rw [List.getElem?_append_left (by simpa using hi), List.getElem?_map] at h2
      cases e : vs[i]? with
      | none => rw [e] at h2; cases h2
      | some a => rw [e] at h2; cases h2; rfl
    obtain ⟨u, hu, rv⟩ := r.get ha
    have hp : ps[i]? = some y := by
      rw [← S.pre, List.getElem?_take_of_lt (by omega)]; exact h1
    have ndP : ps.Nodup := by rw [← S.pre]; exact S.nd.sublist (List.take_sublist _ _)
    refine ⟨u, rv, .inl ⟨S.par y (List.mem_of_getElem? hp), ?_⟩⟩
    exact zip_rev ndP (by rw [← r.length]; exact hl) hp hu
  · obtain ⟨_, rfl⟩ := cells1 h
    exact ⟨vc, oc, hk _ _ hcs, hcd⟩
  · obtain ⟨_, rfl⟩ := cells1 h
    exact hcH
  · unfold L2.start
    show _ = N.length
    rw [List.length_append, List.length_map, List.length_replicate]
    omega

/-- what the text has of such a method: its code's record, its cell, the class whose it is, the method above -/
structure SupF (P : Program) (K : PySem.W.Frag) (mg : Str → Option Value) (m : Str) (cdv : Value) (cc C f2 : Addr) : Prop where
  code : ∃ (cda : Addr) (ccl : Value) (cdd : Option Addr) (vs : Array Value) (ccs : Array (Option Value)) (file : Str) (tf : Tok), cdv = .ref cda ∧ K.lookup cda = some ⟨ccl, cdd, .fields vs, ccs⟩ ∧ vs[2]? = some (.str file tf) ∧ ((P.main.file : Str) == file) = true
  cell : ∃ (cl : Value) (cld : Option Addr) (csl : Array (Option Value)), K.lookup cc = some ⟨cl, cld, .cell (some (.ref C)), csl⟩
  cls : ∃ cd, clsIn K C = some cd
  sub : mroIn K C (.ref C) = some true
  sup : mg "super" = none
  opq : nsIn K cStatics "thirdparty.any" = some none
  meth : ks_superIn K C C m = some (some (.ref f2))
  fty : typeIn K (.ref f2) = some (.type "function")
  ffn : fnIn K f2 = true
  top : (P.main.scope.names.lookup ("super" : Str)).isSome = false

/-- THE RULE -/
theorem fn_super {CX : CXT} {P : Program} {w : World} {K : PySem.W.Frag} {mg : Str → Option Value} {base : Heap} {k : Nat} {f C f2 cc : Addr} {name qual m : Str} {params : Arguments} {body rest : List Stmt} {scope : Scope} {dV kV doc pm cdv ct oc : Value} {an od : Option Addr}
    {osl : Array (Option Value)} {N ps : List Str} {sp sp2 : Sp} {p0 p1 apos pos spos : Pos} {e : Expr} {es : List Expr} {ar : Arg}
    (lk : K.lookup f = some ⟨oc, od, .func (ksFn name qual params body scope dV kV doc pm an cdv ct cc), osl⟩) (hcd : PySem.W.codeIn K cdv qual = true) (S : SupScope N ps scope)
    (F : SupF P K mg m cdv cc C f2) (hbody : body = .Expr (.Call (.Attribute (.Call (.Name "super" p0) [] [] p1) m apos) (e :: es) [] pos) spos :: rest)
    (hm : (m == ("__class__" : Str)) = false) (hp : (params.posonlyargs ++ params.args).head? = some ar) (hp0 : ps.head? = some ar.arg)
    (len : ∀ vs H Q E, sp vs H Q E → vs.length = ps.length)
    (F2 : FnR P w K mg base CX k f2 sp2) (hx : ∀ (qual : Str) (A : Around) (outer : List Env) (s : Shared) (H : Hp) (E : XK), Passes CX (cxK CX P w K mg base N qual scope f cdv cc A outer s H E) E)
    (hst : ∀ env, starEach (e :: es) env = (false, eval e env) :: starEach es env) (hpl : ∀ env, (backTo pos (starEach es env)).any (·.1) = false)
    (hsw : ∀ env, swapsWith (.Call (.Attribute (.Call (.Name "super" p0) [] [] p1) m apos) (e :: es) [] pos) none spos.line env = pure false)
    (hev : ∀ env, ∃ pl : Sem Bool, eval (.Call (.Attribute (.Call (.Name "super" p0) [] [] p1) m apos) (e :: es) [] pos) env = (do
      let ov ← attributeBase (.Call (.Name "super" p0) [] [] p1) m env (eval (.Call (.Name "super" p0) [] [] p1) env)
      standAt apos.atName
      let (f, first) ← holding [ov] (getMethod ov m pl)
      callWith pos f first (backTo pos (starEach (e :: es) env)) []))
    (hrun : ∀ (A : Around) (outer : List Env) (s : Shared) (H : Hp) (vs : List V) (Q : VK) (E : XK), Room k (A.deeper (ksEnv qual scope s.heap.objs.size f cdv cc)) → sp vs H Q E →
      ∃ (x dx : Addr) (fs : List (Str × V)) (ta : TA) (t : TS), vs.head? = some (.ref x) ∧ H x = some (.ins C dx fs) ∧
        PA (cxK CX P w K mg base N qual scope f cdv cc A outer s H E) (e :: es) ta ∧ PSs (cxK CX P w K mg base N qual scope f cdv cc A outer s H E) rest t ∧
        ta (L2.start N vs) H fun us H1 => sp2 (.ref x :: us) H1 (fun _ H2 => t { nx := fun _ H' => Q .non H', rt := Q } (L2.start N vs) H2) E) :
    FnOk P w K mg base CX (k + 1) f (ksFn name qual params body scope dV kV doc pm an cdv ct cc) ps sp := by
  refine ⟨len, fun A outer s H args us vs Q E hr e0 hb r hsp => ?_⟩
  have hl := len _ _ _ _ hsp
  have KX : K.In s.heap := e0.mod.kin.keeps fun b o e => (e0.bs b o e).1
  have lim : s.heap.NoLimit := e0.mod.nolimit.keeps fun b o e => (e0.bs b o e).1
  obtain ⟨cl, cld, csl, hcell⟩ := F.cell
  refine ks_codeAny_call_defAt (fd := ksFn name qual params body scope dV kV doc pm an cdv ct cc) (body := body) (binds := ps.zip us) hr.depth (KX _ _ lk) rfl lim (codeRec_of KX hcd) rfl hb S.nocell
    (fun y hy => S.par y.1 (List.of_mem_zip hy).1) (fun h₀ ns hk => ?_) S.co S.gen S.kind
  obtain ⟨x, dx, fs, ta, t, hx0, hxH, pa, pss, hq⟩ := hrun A outer s H vs Q E (hr.deeper _) hsp
  have I : Inv (cxK CX P w K mg base N qual scope f cdv cc A outer s H E) [] (L2.start N vs) H { s with heap := h₀, toks := s.toks + (ps.zip us).length } := inv_startK S hr.hd e0 hl r hcell rfl ns hk
  show PySem.wpAt (model P w) (A.deeper (ksEnv qual scope s.heap.objs.size f cdv cc)) (.func body (ksEnv qual scope s.heap.objs.size f cdv cc)) (execs body (ksEnv qual scope s.heap.objs.size f cdv cc)) _ _ _
  rw [hbody]
  refine ks_wpAt_execs_cons ?_
  have hself : ∃ m, h₀.Ns s.heap.objs.size m ∧ m ar.arg = some (.ref x) := by
    refine ⟨_, ns, ?_⟩
    cases r with
    | nil => cases hx0
    | cons r1 r2 =>
      rename_i v vr u ur
      have e1 : v = .ref x := Option.some.inj hx0
      subst e1
      cases r1
      cases hps : ps with
      | nil =>
        rw [hps] at hp0
        cases hp0
      | cons q qs =>
        rw [hps] at hp0
        have e2 : q = ar.arg := Option.some.inj hp0
        subst e2
        have ndP : (ar.arg :: qs).Nodup := by
          rw [← hps, ← S.pre]
          exact S.nd.sublist (List.take_sublist _ _)
        refine zip_rev (i := 0) ndP ?_ rfl rfl
        have hl2 : (Value.ref x :: ur).length = ps.length := by rw [← hl, List.length_cons, List.length_cons, r2.length]
        rw [hl2, hps]
  obtain ⟨mL, hnL, hmL⟩ := hself
  have hpar : scope.names.lookup ar.arg = some .local := S.par _ (by
    cases hps : ps with
    | nil => rw [hps] at hp0; cases hp0
    | cons q qs =>
      rw [hps] at hp0
      rw [Option.some.inj hp0]
      exact List.mem_cons_self)
  have hnL' : ({ s with heap := h₀, toks := s.toks + (ps.zip us).length } : Shared).heap.Ns s.heap.objs.size mL := hnL
  generalize hs1 : ({ s with heap := h₀, toks := s.toks + (ps.zip us).length } : Shared) = s1 at I hnL' ⊢
  refine ks_wpAt_Expr_any ?_ I.quiet (hsw _)
  obtain ⟨pl, hev'⟩ := hev (ksEnv qual scope s.heap.objs.size f cdv cc)
  refine ks_wpAt_MethodCall (pl := pl) ?_ hev'
  obtain ⟨cda, ccl, cdd, cvs, ccs, file, tf, rfl, lcda, hvs, hfile⟩ := F.code
  obtain ⟨cdC, hcC⟩ := F.cls
  have X1 : K.In s1.heap := I.kIn
  obtain ⟨mA, O, _, _, _, _⟩ := ins_get I.hok hxH
  obtain ⟨odx, J, _⟩ := O.look
  -- the class object, as it stands
  obtain ⟨oD, hD1, hD2⟩ : ∃ oD, s1.heap.get? C = some oD ∧ oD.data = .cls cdC := by
    unfold clsIn at hcC
    split at hcC
    · rename_i c d cd' sl ho
      cases hcC
      exact ⟨_, X1 _ _ ho, rfl⟩
    · cases hcC
  refine ks_wpAt_super_base (env := ksEnv qual scope s.heap.objs.size f (.ref cda) cc) S.sup S.cls hm rfl (X1 _ _ lk) rfl hp rfl (X1 _ _ lcda) rfl hvs hfile F.top ?_
  obtain ⟨mb, hb1, hb2⟩ := I.mod.blt
  refine ks_loadName_global S.kind S.sup (loadGlobal_builtin (env := ksEnv qual scope s.heap.objs.size f (.ref cda) cc) (I.mod.glob.keeps I.bk) F.sup (hb1.keeps I.bk) ((hb2 _ (by decide +kernel)).trans (by first | rfl | decide +kernel)) ⟨rfl, ?_⟩)
  refine wpAny_loadName_free (c := cc) S.kind S.cls (by first | rfl | simp) ⟨_, X1 _ _ hcell, rfl⟩ ?_
  refine wpAny_loadName_local S.kind hpar hnL' hmL ?_
  clear hs1
  obtain ⟨hh, g, d, tk1, os⟩ := s1
  refine ks_wpAny_isType_cls hD1 hD2 ⟨rfl, ?_⟩
  refine ks_wpAny_call_super hD1 hD2 J.at_ J.cls (fun c e => ?_) (looks_mroIn X1 F.sub) (fun h2 e2 k2 => ?_)
  · have := J.no
    unfold notCls at this
    rw [e] at this
    exact Bool.noConfusion this
  have I2 := I.kept (h' := h2) (t' := tk1) k2
  have X2 : K.In h2 := I2.kIn
  have hm2 : alongIn K m ((cdC.mro.dropWhile (· != .ref C)).drop 1) = some (some (.ref f2)) := by
    have z := F.meth
    unfold ks_superIn at z
    rw [hcC] at z
    exact z
  obtain ⟨of, hof, hofc⟩ : ∃ of, h2.get? f2 = some of ∧ of.cls = .type "function" := by
    have ht' : (K.lookup f2).map (·.cls) = some (.type "function") := F.fty
    cases z : K.lookup f2 with
    | none => rw [z] at ht'; cases ht'
    | some of => rw [z] at ht'; exact ⟨of, X2 _ _ z, Option.some.inj ht'⟩
  have hxC : x ≠ C := ks_ne X1 J hcC
  have hmro : Looks (model P w) h2 (mroOf (.ref C)) cdC.mro := (looks_clsIn X2 hcC).andThen .now
  refine ks_wpAny_getMethod_super e2 (looks_opaque X2 F.opq) hmro rfl X2 hm2 hof hofc hxC hm ?_
  -- the bound method, pinned while the arguments are reckoned
  have I3 : L2.Inv (cxK CX P w K mg base N qual scope f (.ref cda) cc A outer s H E) [(h2.objs.size, methodObj (.ref f2) (.ref x))] (L2.start N vs) H
      ⟨h2.push { cls := .type "method", data := .fields #[.ref f2, .ref x] }, g, d, tk1 + 1, os⟩ := by
    have J3 := I2.kept (h' := h2.push { cls := .type "method", data := .fields #[.ref f2, .ref x] }) (t' := tk1 + 1) fun b o e => Heap.get?_push_of_some _ e
    refine J3.pins_of fun p hp => ?_
    have e : p = (h2.objs.size, methodObj (.ref f2) (.ref x)) := by simpa using hp
    subst e
    refine ⟨Heap.get?_push_size _ rfl, I2.hok.fresh (Nat.le_refl _), Nat.ne_of_gt I2.lt, I2.nofs (Nat.le_refl _), fun v z => by cases z⟩
  show wpAny (model P w) (A.deeper (ksEnv qual scope s.heap.objs.size f (.ref cda) cc)) (callWith pos (.ref h2.objs.size) [] (backTo pos (starEach (e :: es) (ksEnv qual scope s.heap.objs.size f (.ref cda) cc))) []) _ _ _
  have pr := pa.run pos _ _ _ _ _ I3 hq
  have pr : wpAny (model P w) (A.deeper (ksEnv qual scope s.heap.objs.size f (.ref cda) cc)) (spliced (backTo pos (starEach (e :: es) (ksEnv qual scope s.heap.objs.size f (.ref cda) cc)))) _ _ _ := pr
  rw [hst] at pr ⊢
  refine callWith_of (P := MethP K h2.objs.size f2 (.ref x)) (by show ((false || (backTo pos (starEach es _)).any (·.1)) || false) = false; rw [hpl] <;> rfl) (keeps_M F.ffn) (evalArgs_plain (thn pr fun us4 s4 ⟨vs4, H4, I4, r4, q4⟩ => ?_))
  have hbm : s4.heap.get? h2.objs.size = some (methodObj (.ref f2) (.ref x)) := (I4.pin (h2.objs.size, methodObj (.ref f2) (.ref x)) (List.mem_append_right _ (List.mem_singleton.mpr rfl))).1
  refine ⟨⟨hbm, I4.kIn⟩, ?_⟩
  have rr : Vals (V.ref x :: vs4) (Value.ref x :: us4) := .cons rfl r4
  refine wpAny_call (ks_codeAny_call_bound (x := .ref x) hbm (codeAny_mono (run_fnR F2 (hr.deeper _) (hx qual A outer s H E) I4 rr q4) fun r5 s5 h5 => ?_))
  cases r5 with
  | error e5 => exact h5
  | ok fl =>
    cases fl with
    | next => exact h5.elim
    | brk => exact h5.elim
    | cont => exact h5.elim
    | ret v5 =>
      obtain ⟨v, H5, I5, _, q5⟩ := h5
      have I6 : L2.Inv (cxK CX P w K mg base N qual scope f (.ref cda) cc A outer s H E) [] (L2.start N vs) H5 s5 := I5.pins_of fun p hp => absurd hp (by simp)
      refine wpAt_of_wpAny (wpAny_mono (pss.run [] s5 _ H5 _ I6 q5) (fun fl s' hs => ?_) fun e s' hs => hs)
      have fin : ∀ {σ' : L2.St} {H' : Hp} {v : V} {u : Value}, L2.Inv (cxK CX P w K mg base N qual scope f (.ref cda) cc A outer s H E) [] σ' H' s' → RelV v u → Q v H' → CE outer P w H s Q u s' :=
        fun {σ' H' v u} J rv q => ⟨v, H', J.os, J.bare, J.base, J.hok, rv, q⟩
      cases fl with
      | ret u =>
        obtain ⟨v, σ', H', J, rv, q⟩ := hs
        exact fin J rv q
      | next =>
        obtain ⟨σ', H', J, q⟩ := hs
        exact fin (v := V.non) (u := Value.none) J rfl q
      | brk =>
        obtain ⟨_, _, _, q⟩ := hs
        exact False.elim q
      | cont =>
        obtain ⟨_, _, _, q⟩ := hs
        exact False.elim q
end K47

/-! x.__class__.__name__ of an instance; targets that are attributes -/
namespace K47
open PySem PySem.W PySem.Spec PySem.Calls PyProof.Rows L2 Builtin Builtin.ObjectAttr Builtin.Getset_descriptor

/-- the class's own name, kept at its making -/
structure ClsName (K : PySem.W.Frag) (C : Addr) (nm : Str) : Prop where
  at_ : ∃ (od : Option Addr) (cd : ClassData) (sl : Array (Option Value)) (tk : Tok), K.lookup C = some ⟨.type "type", od, .cls cd, sl⟩ ∧ sl[2]? = some (some (.str nm tk))
  ty : typeIn K (.ref C) = some (.type "type")
  opq : nsIn K cStatics "thirdparty.any" = some none
  fd : findCls K (.ref C) (.type "type") "__name__" = some (.get (.builtin "getset_descriptor.__get__") (.builtin "type.__name__") (.ref C) (.type "type"))

theorem dga_ref (d tp : Value) (C : Addr) : descrGetArgs ⟨[d, .ref C, tp], []⟩ = pure (d, some (.ref C), given tp) := by
  first | rfl | kernel_rfl

section
variable {prog : Program} {w : World} {A : Around} {E : Value → Shared → Prop} {s : Shared} {K : PySem.W.Frag} {R : Result → Shared → Prop} {C : Addr} {nm : Str}
theorem cname_get {tp : Value} (X : K.In s.heap) (N : ClsName K C nm) (h : ∀ tk, R (.ok (.ret (.str nm tk))) s) :
    codeAny (model prog w) A (.call (.builtin "getset_descriptor.__get__") ⟨[.builtin "type.__name__", .ref C, tp], []⟩) R s := by
  obtain ⟨od, cd, sl, tk, lC, hsl⟩ := N.at_
  have hC := X _ _ lC
  have L0 : Looks (model prog w) s.heap (typeOf (.ref C)) (.type "type") := looks_typeIn X N.ty
  obtain ⟨hh, g, dr, t, os⟩ := s
  have L1 : Looks (model prog w) hh (isSubtype (.type "type") (.type "type")) true := Looks.of_pure (by rw [isSubtype_type]; kernel_rfl)
  refine codeAny_call_builtin KF.slot_gs.plain KF.entry_gs (KF.slot_gs.check _ _ _ _ _ _ _ _ ktyn_type (KF.args_gs _ _ _) ?_)
  unfold Builtin.«getset_descriptor.__get__» descrGet
  rw [dga_ref]
  refine wpAny_bind (wpAny_pure ?_)
  unfold descrGetter descrCheckInstance descrNameAndClass isInstance
  simp only [ktyn_owner]
  repeat lk
  refine ⟨Code.quiet_builtin _ (by decide +kernel), codeAny_builtin ktyn_entry ?_⟩
  unfold Builtin.«type.__name__»
  dsimp only
  unfold keptObject slotAt
  dsimp only
  refine wpAny_bind (wpAny_bind (wpAny_loadPart hC (wpAny_pure ?_)))
  rw [hsl]
  first
    | exact wpAny_pure (h tk)
    | exact wpAny_bind (wpAny_pure (wpAny_pure (h tk)))
    | (refine wpAny_bind ?_; exact wpAny_pure (wpAny_pure (h tk)))
theorem cname_attr {expr : Bool} {Q : Value → Shared → Prop} (X : K.In s.heap) (N : ClsName K C nm) (h : ∀ tk u, Q (.str nm tk) { s with toks := u }) : wpAny (model prog w) A (getAttr (.ref C) "__name__" expr) Q E s := by
  have L0 : Looks (model prog w) s.heap (typeOf (.ref C)) (.type "type") := looks_typeIn X N.ty
  have hg : findIn K (.type "type") "__getattribute__" = some (some (.builtin "type.__getattribute__")) := type_tga
  refine cls_open X (looks_opaque X N.opq) L0 hg (looks_hook X (r := none) (by rfl)) (by show subIn K _ _ = _; rfl) N.fd ?_
  show wpAny _ _ (do ret (← holding [Value.builtin "type.__name__"] (call (.builtin "getset_descriptor.__get__") [.builtin "type.__name__", .ref C, .type "type"]))) _ _ _
  refine wpAny_bind (wpAny_holding (wpAny_call (cname_get (s := { s with toks := s.toks + 1 }) X N fun tk => ?_)))
  exact wpAny_pure (handed_on rfl (h _ _))
end

/-- what is asked of an own class -/
structure CK (K : PySem.W.Frag) (C : Addr) (nm : Str) : Prop where
  cl : Cls K C
  ca : PySem.W.findIn K (.ref C) "__class__" = some (some (.builtin "object.__class__"))
  hn : PySem.W.specialIn K (.builtin "object.__class__") "__get__" = some (some (.builtin "getset_descriptor.__get__"))
  htk : PySem.W.takesIn K (.builtin "object.__class__") = some true
  hm : PySem.W.mroIn K C (.type "object") = some true
  nm : ClsName K C nm
theorem CK.tyOf {K : PySem.W.Frag} {C a dx : Addr} {nm : Str} {H : Hp} {fs : List (Str × V)} (k : CK K C nm) (e : H a = some (.ins C dx fs)) : TyOf K H (.ref a) (.ref C) := .ins e k.cl k.ca k.hn k.htk k.hm

section
variable {X : Cx} {e : Expr} {te : TE} {p1 p2 pos : Pos}
def tCname (K : PySem.W.Frag) (te : TE) : TE := fun σ H Q => te σ H fun x H1 => ∃ (a C dx : Addr) (fs : List (Str × V)) (nm : Str), x = .ref a ∧ H1 a = some (.ins C dx fs) ∧ CK K C nm ∧ Q (.str nm) H1
theorem pe_cname (he : PE X e te) (hb1 : attributeBase e "__class__" X.env (eval e X.env) = eval e X.env)
    (hb2 : attributeBase (.Attribute e "__class__" p1) "__name__" X.env (eval (.Attribute e "__class__" p1) X.env) = eval (.Attribute e "__class__" p1) X.env) :
    PE X (.Attribute (.Attribute e "__class__" p1) "__name__" p2) (tCname X.K te) := by
  refine ⟨fun pins s σ H Q I h => ?_⟩
  refine attr_of hb2 (attr_of hb1 (thn (he.run pins s σ H _ I h) fun u s1 ⟨x, H1, I1, rx, a, C, dx, fs, nm, ex, ea, k, q⟩ => ?_))
  subst ex
  obtain rfl : u = Value.ref a := rx
  obtain ⟨mA, O, r, _, _, _⟩ := ins_get I1.hok ea
  obtain ⟨od, J, hl⟩ := O.look
  obtain ⟨m, hF⟩ := I1.fr
  refine get_class hF I1.ok.mod.kin J (k.cl.get _) k.cl.hd k.ca k.hn k.htk k.hm ?_
  refine cname_attr (s := { s1 with toks := s1.toks + 1 }) I1.kIn k.nm fun tk u => ?_
  exact ⟨.str nm, H1, I1.tok u, ⟨tk, rfl⟩, q⟩

/-- o.f = .. as a target among others -/
def gFld (K : PySem.W.Frag) (to : TE) (f : Str) : TG := fun v σ H Q => to σ H fun x H1 => ∃ a C dx fs, x = .ref a ∧ H1 a = some (.ins C dx fs) ∧ Cls K C ∧ NoAttr K C f ∧ fs.length < 1000 ∧ Q σ (upd H1 a (.ins C dx (putF f v fs)))
theorem pg_fld {o : Expr} {to : TE} {f : Str} (ho : PE X o to) : PG X (.Attribute o f pos) (gFld X.K to f) := by
  refine ⟨fun pins s σ H v u Q I r h => ?_⟩
  rw [assign_Attribute]
  refine wpAny_bind (wpAny_holding (thn (ho.run pins s σ H _ I h) fun ov s1 ⟨x, H1, I1, rx, a, C, dx, fs, ex, ea, c, n, l, q⟩ => ?_))
  subst ex
  obtain rfl : ov = Value.ref a := rx
  refine wpAny_bind (wpAny_standAt (wpAny_bind (wpAny_holding (setattr_ok I1 ea c n l r fun s2 I2 => ?_))))
  exact wpAny_release ⟨σ, _, I2, q⟩
end
end K47

/-! an own == called through the operators, through !=, within lists; bool() of instances -/
namespace K47
open PySem PySem.SeqAt
open AutoSeq1 (wpAny_loadPart')
open MeetsSeq MeetsSeq2 MeetsSeq3 SeqRoads2
section
variable {prog : Program} {w : World} {A : Around} {R : Result → Shared → Prop}
open GQ (FinOf ListI)
/-- all items equal: != is False -/
theorem ne_loopG (l b : Addr) (N : Nat) (I : Nat → Shared → Prop) (hl : ListI prog w A (fun e s' => R (.error e) s') l b N I)
    (fin : ∀ s, I N s → R (.ok (.ret (.bool false))) s) (k : Nat) :
    ∀ i : Nat, N - i = k → i ≤ N → ∀ s, I i s →
      wpAny (model prog w) A.in1 (Builtin.«list.__eq__.loop» ⟨[.ref l, .ref b, rawInt i, rawInt 3], []⟩) (FinOf prog w A R) (fun e s' => R (.error e) s') s := by
  induction k with
  | zero =>
    intro i hk hi s h
    obtain ⟨items, items2, n, n2, hl1, hb1, hs1, hs2, _⟩ := hl _ _ h
    have hi' : i = N := by omega
    have hR : R (.ok (.ret (.bool false))) s := fin s (hi' ▸ h)
    obtain ⟨hp, g, d, tk, os⟩ := s
    wp_walk using wpAny_loadPart' hl1, wpAny_loadPart' hb1
    have hi1 : items[((i : Nat) : Int).toNat]? = none := by simp; omega
    have hi2 : items2[((i : Nat) : Int).toNat]? = none := by simp; omega
    rw [hi1, hi2]
    wp_walk using wpAny_loadPart' hl1, wpAny_loadPart' hb1
    show R (.ok (.ret (.bool (items.size != items2.size)))) _
    rw [hs1, hs2]
    simpa using hR
  | succ k ih =>
    intro i hk hi s h
    obtain ⟨items, items2, n, n2, hl1, hb1, hs1, hs2, turn⟩ := hl _ _ h
    have hlt : i < items.size := by omega
    have hlt2 : i < items2.size := by omega
    have ht := turn hlt hlt2
    obtain ⟨hp, g, d, tk, os⟩ := s
    wp_walk using wpAny_loadPart' hl1, wpAny_loadPart' hb1
    have hi1 : items[((i : Nat) : Int).toNat]? = some items[i] := by simp [hlt]
    have hi2 : items2[((i : Nat) : Int).toNat]? = some items2[i] := by simp [hlt2]
    have hc : ((i : Int) + 1) = ((i + 1 : Nat) : Int) := by omega
    rw [hi1, hi2]
    refine wpAny_bind (wpAny_mono ht (fun r s2 h2 => ?_) fun _ _ x => x)
    obtain ⟨hr, h2⟩ := h2
    subst hr
    have hrec := ih (i + 1) (by omega) (by omega) s2 h2
    obtain ⟨hp2, g2, d2, tk2, os2⟩ := s2
    wp_walk
    rw [hc]
    exact ⟨plainId_quiet plain_eq_loop _, codeAny_builtin entry_eq_loop (by
      rw [Around.under_plainId plain_eq_loop _]
      exact hrec)⟩
theorem list_neG (l b : Addr) (N : Nat) (I : Nat → Shared → Prop) (hl : ListI prog w A (fun e s' => R (.error e) s') l b N I)
    (fin : ∀ s, I N s → R (.ok (.ret (.bool false))) s) {s : Shared} (h : I 0 s) :
    wpAny (model prog w) A.in1 (Builtin.«list.__ne__» ⟨[.ref l, .ref b], []⟩) (FinOf prog w A R) (fun e s' => R (.error e) s') s := by
  obtain ⟨items, items2, n, n2, hl1, hb1, hs1, hs2, _⟩ := hl _ _ h
  have hrec := ne_loopG (A := A) (R := R) l b N I hl fin _ 0 rfl (Nat.zero_le _) s h
  obtain ⟨hp, g, d, tk, os⟩ := s
  have f3 := AutoSeq1.sub_list_list
  have hne : ¬ (items.size != items2.size) = true := by simp [hs1, hs2]
  wp_walk using wpAny_loadPart' hl1, wpAny_loadPart' hb1
  exact ⟨plainId_quiet plain_eq_loop _, codeAny_builtin entry_eq_loop (by
    rw [Around.under_plainId plain_eq_loop _]
    exact hrec)⟩
end
section
variable {prog : Program} {w : World} {A : Around} {E : Value → Shared → Prop} {s : Shared}
theorem rcne_listG {l b : Addr} {N : Nat} {Q : Value → Shared → Prop} (hu : A.units < cLine) (I : Nat → Shared → Prop) (hl : GQ.ListI prog w A E l b N I)
    (fin : ∀ s, I N s → Q (.bool false) s) (h : I 0 s) : wpAny (model prog w) A (richCompare .NotEq (.ref l) (.ref b)) Q E s := by
  obtain ⟨items, items2, n, n2, hl1, hb1, _, _, _⟩ := hl _ _ h
  refine wpAny_richCompare_same_room (op := .NotEq) ⟨_, hl1, rfl⟩ ⟨_, hb1, rfl⟩ F.slot_list_ne (GQ.call_here F.slot_list_ne ⟨_, hl1, rfl⟩ F.entry_list_ne (F.args_list_ne_2 _ _) ?_) hu
  exact list_neG (R := wants (fun v s' => v ≠ .notImplemented ∧ Q v s') E) l b N I hl (fun s' q => ⟨(fun x => nomatch x), fin s' q⟩) h
end
end K47

namespace K47
open PySem PySem.W PySem.Spec PySem.Calls PyProof.Rows L2
theorem slot_obj_ne : Slot "object" "__ne__" "object.__ne__" := .of (owner := "object") (n := "__ne__") (by rw [typeLookup_type, builtinLookup_eq_fast]; kernel_rfl) (by decide +kernel) (by decide +kernel) (by decide +kernel)
  (by first | exact .inl (by decide +kernel) | exact .inr (by decide +kernel)) (by rw [isSubtype_type]; kernel_rfl)

section
variable {prog : Program} {w : World} {A : Around} {E : Value → Shared → Prop} {s : Shared} {K : PySem.W.Frag} {x C D L f : Addr} {h₀ : Heap} {m : Str → Option Value} {ox oy : Obj} {od odx ody : Option Obj} {b tb : Value}
/-- the right one's class is below the left one's: its own == is asked first -/
theorem cmp_rev {Q : Value → Shared → Prop} {y : Addr} (hu : A.units < cLine) (X : K.In s.heap) (I : InstAt s.heap x ox C odx) (J : InstAt s.heap y oy D ody) (hn : subIn K (.ref D) (.ref C) = some true) (hne : (Value.ref C != Value.ref D) = true)
    (hs : findIn K (.ref D) "__eq__" = some (some (.ref f))) (hf : isFn K (.ref f) = true)
    (h : wpAny (model prog w) A (call (.ref f) [.ref y, .ref x]) (PySem.W.CmpBack Q) E s) : wpAny (model prog w) A (richCompare .Eq (.ref x) (.ref y)) Q E s := by
  have one : wpAny (model prog w) A (tryCompare (.ref y) "__eq__" (.ref x)) (fun r s' => ∃ v, r = some v ∧ Q v s') E s := by
    unfold tryCompare
    refine wpAny_bind (ifBound_K X J hs hf (wpAny_mono h (fun v s' hv => ?_) fun _ _ e => e))
    cases v <;> first | exact hv.elim | exact wpAny_pure ⟨_, rfl, hv⟩
  unfold richCompare
  simp only [oneThing_ref]
  refine wpAny_holding (wpAny_bind (wpAny_cRoomFor hu ?_))
  refine wpAny_bind (I.type.here (wpAny_bind (J.type.here ?_)))
  rw [if_pos hne]
  refine wpAny_bind ((looks_subIn X hn).here ?_)
  simp only [if_true]
  refine wpAny_bind (wpAny_mono one (fun r s' z => ?_) fun _ _ e => e)
  obtain ⟨v, rfl, hq⟩ := z
  exact wpAny_bind (wpAny_rule (wpAny_pure hq))

theorem ifBound_ne {Q : Option Value → Shared → Prop} (X : K.In s.heap) (I : InstAt s.heap x ox C odx) (hs : findIn K (.ref C) "__ne__" = some (some (.builtin "object.__ne__")))
    (h : wpAny (model prog w) A (call (.builtin "object.__ne__") [.ref x, b]) (fun v => Q (some v)) E s) : wpAny (model prog w) A (callSpecialIfBound? (.ref x) "__ne__" [b]) Q E s := by
  simp only [callSpecialIfBound?, bindSpecialIfBound?]
  refine wpAny_holding (wpAny_bind (wpAny_bind (wpAny_bind (I.type.here ((looks_findIn X hs).here ?_)))))
  refine wpAny_bind (wpAny_askSetting (wpAny_ite ?_))
  have fin : wpAny (model prog w) A (call (.builtin "object.__ne__") ([.ref x] ++ [b]) >>= fun v => pure (some v)) Q E s := wpAny_bind (wpAny_mono h (fun v s' h' => wpAny_pure h') fun _ _ h' => h')
  split
  · exact wpAny_bind (wpAny_of_eq (slot_obj_ne.bind _) (wpAny_pure (by exact fin)))
  · exact wpAny_tryCatch (wpAny_bind (wpAny_of_eq (slot_obj_ne.bind _) (wpAny_pure (by exact fin))))
theorem ne_own {Q : Value → Shared → Prop} {y : Addr} (hu : A.units + 1 < cLine) (X : K.In s.heap) (I : InstAt s.heap x ox C odx) (J : InstAt s.heap y oy C ody) (hs : findIn K (.ref C) "__eq__" = some (some (.ref f))) (hf : isFn K (.ref f) = true)
    (hN : findIn K (.ref C) "__ne__" = some (some (.builtin "object.__ne__"))) (ho : mroIn K C (.type "object") = some true)
    (h : wpAny (model prog w) A.in1 (call (.ref f) [.ref x, .ref y]) (fun v s' => ∃ b, v = .bool b ∧ Q (.bool (!b)) s') E s) : wpAny (model prog w) A (richCompare .NotEq (.ref x) (.ref y)) Q E s := by
  have entry : wpAny (model prog w) A.in1 (Builtin.«object.__ne__» ⟨[.ref x, .ref y], []⟩) (fun fin s' => ∃ v, fin = .done (.ret (.bool v)) ∧ Q (.bool v) s') E s := by
    unfold Builtin.«object.__ne__»
    obtain ⟨hh, g, d, t, os⟩ := s
    refine wpAny_bind (wpAny_of_eq (a := (.ref x, [.ref y])) (by first | rfl | kernel_rfl) ?_)
    dsimp only
    refine wpAny_bind (wpAny_cRoomFor (by show A.units + 1 < cLine; exact hu) ?_)
    refine wpAny_bind (ifBound_K X I hs hf (wpAny_mono h (fun v s' hv => ?_) fun _ _ e => e))
    obtain ⟨b, rfl, hq⟩ := hv
    exact wpAny_bind (wpAny_truthy_bool (wpAny_pure ⟨_, rfl, hq⟩))
  have one : wpAny (model prog w) A (tryCompare (.ref x) "__ne__" (.ref y)) (fun r s' => ∃ v, r = some v ∧ Q v s') E s := by
    unfold tryCompare
    refine wpAny_bind (ifBound_ne X I hN (wpAny_call (codeAny_call_builtin slot_obj_ne.plain F.cmpEntry_ne (check_slot F.cmpKind_ne F.cmpSplit_ne (I.type.andThen (looks_mroIn X ho)) (F.cmpArgs_ne _ _) (wpAny_mono entry (fun fin s' hv => ?_) fun _ _ e => e)))))
    obtain ⟨v, rfl, hq⟩ := hv
    exact wpAny_pure ⟨_, rfl, hq⟩
  unfold richCompare
  simp only [oneThing_ref]
  refine wpAny_holding (wpAny_bind (wpAny_cRoomFor (Nat.lt_of_succ_lt hu) ?_))
  refine wpAny_bind (I.type.here (wpAny_bind (J.type.here ?_)))
  rw [if_neg (by simp)]
  refine wpAny_bind (wpAny_pure ?_)
  simp only [Bool.false_eq_true, if_false]
  refine wpAny_bind (wpAny_mono one (fun r s' z => ?_) fun _ _ e => e)
  obtain ⟨v, rfl, hq⟩ := z
  exact wpAny_pure hq
end
end K47

namespace K47
open PySem PySem.W PySem.Spec PySem.Calls PyProof.Rows L2
section
variable {prog : Program} {w : World} {A : Around} {E : Value → Shared → Prop} {s : Shared}
theorem call_bool_inst {x : Addr} {Q : Value → Shared → Prop} (h : wpAny (model prog w) A.in1.in1 (truthy (.ref x)) (fun b s' => Q (.bool b) s') E s) : wpAny (model prog w) A (call (.type "bool") [.ref x]) Q E s := by
  refine callType_codes (T := "bool") (Bi := Builtin.«object.__init__») (Q₁ := fun r s₁ => ∃ b, r = .bool b ∧ Q r s₁) PySem.F.called_bool (PySem.F.typeCall_bool_1 _) PySem.F.entry_object_init ?_ ?_
  · refine codeAny_of_tree ?_
    show wpAny _ A.in1.in1 (do checkBuiltinCall "bool.__new__" ⟨[.type "bool", .ref x], []⟩; again (.builtin "bool.__new__" ⟨[.type "bool", .ref x], []⟩)) _ _ s
    refine wpAny_bind (wpAny_of_eq (PySem.F.newCall_bool_1 _) (wpAny_pure ⟨plainId_quiet (by decide +kernel) _, codeAny_builtin PySem.F.entry_bool_new ?_⟩))
    rw [Around.under_plainId (by decide +kernel) _]
    have f1 := PySem.F.conv_sub_bool
    unfold Builtin.«bool.__new__»
    repeat (any_goals (first | assumption | (with_reducible refine wpAny_bind (wpAny_mono h (fun b s' hq => ?_) fun _ _ e => e)) | wp_step))
    all_goals first | exact ⟨_, rfl, hq⟩ | exact wpAny_pure ⟨_, rfl, hq⟩ | skip
  · rintro obj s₁ ⟨b, rfl, hq⟩
    exact ⟨rfl, PySem.F.args_object_init_2 _ _, object_init_meets PySem.F.called_bool.init.lookup PySem.F.called_bool.made (by decide) prog w A.in1 _ s₁ ⟨rfl, rfl, hq⟩⟩
end

section
variable {X : Cx} {n : Nat} {CX : CXT} {f : Addr} {fd : FuncData} {ps : List Str} {sp : Sp} {E : XK}
/-- a def that answers a bool, called from within a builtin -/
theorem own_call (F : FnOk X.prog X.w X.K X.mg X.base CX n f fd ps sp) (hb : Binds X.K fd ps []) (hx : Passes CX X E) {A : Around} (hr : Room n A) (hfr : A.frames = X.A.frames) {pins : List (Addr × Obj)} {σ : L2.St} {H : Hp} {s : Shared} (I : L2.Inv X pins σ H s) {vs : List V} {us : List Value} (r : Vals vs us) {Q : Bool → Hp → Prop}
    (h : sp vs H (fun v H' => ∃ b, v = .bl b ∧ Q b H') E) :
    wpAny (model X.prog X.w) A (call (.ref f) us) (fun v s' => ∃ b H', v = .bool b ∧ L2.Inv X pins σ H' s' ∧ Q b H') X.xe s := by
  have e0 : Env0 X.prog X.w X.K X.mg X.base A X.stack s H := by
    have e := I.env0
    exact ⟨by rw [hfr]; exact e.frames, e.mod, e.bs, e.bsz, e.funs, e.frf, e.hok, e.bare⟩
  have hl := F.len _ _ _ _ h
  have hl' : (us ++ ([] : List Value)).length = ps.length := by rw [List.append_nil, ← r.length]; exact hl
  refine wpAny_call (codeAny_mono (F.run A X.stack s H ⟨us, []⟩ us vs _ E hr e0 (by
    have := hb s us I.kIn hl'
    rw [List.append_nil] at this
    exact this) r h) fun r s' hq => ?_)
  cases r with
  | error e => exact hx pins σ H s e s' I hq
  | ok fl =>
    cases fl with
    | ret w =>
      obtain ⟨z, H', I', rz, b, ez, q⟩ := I.after hq
      subst ez
      cases rz
      exact ⟨b, H', rfl, I', q⟩
    | next => exact False.elim hq
    | brk => exact False.elim hq
    | cont => exact False.elim hq

/-- the classes whose == is the def at f -/
structure EqC (K : PySem.W.Frag) (C f : Addr) : Prop where
  eq : PySem.W.findIn K (.ref C) "__eq__" = some (some (.ref f))
  fn : PySem.W.isFn K (.ref f) = true
  ne : PySem.W.findIn K (.ref C) "__ne__" = some (some (.builtin "object.__ne__"))
  ob : PySem.W.mroIn K C (.type "object") = some true
/-- who is asked, with what -/
inductive Asks (K : PySem.W.Frag) (f : Addr) (H : Hp) : V → V → List V → Prop where
  | same {a b C dx dy : Addr} {fs gs : List (Str × V)} : H a = some (.ins C dx fs) → H b = some (.ins C dy gs) → EqC K C f → Asks K f H (.ref a) (.ref b) [.ref a, .ref b]
  | other {a b C D dx dy : Addr} {fs gs : List (Str × V)} : H a = some (.ins C dx fs) → H b = some (.ins D dy gs) → EqC K C f → PySem.W.subIn K (.ref D) (.ref C) = some false → Asks K f H (.ref a) (.ref b) [.ref a, .ref b]
  | tup {a b C dx : Addr} {fs : List (Str × V)} {ys : List V} : H a = some (.ins C dx fs) → H b = some (.tup ys) → EqC K C f → PySem.W.subIn K (.type "tuple") (.ref C) = some false → Asks K f H (.ref a) (.ref b) [.ref a, .ref b]
  | rev {a b C D dx dy : Addr} {fs gs : List (Str × V)} : H a = some (.ins C dx fs) → H b = some (.ins D dy gs) → EqC K D f → C ≠ D → PySem.W.subIn K (.ref D) (.ref C) = some true → Asks K f H (.ref a) (.ref b) [.ref b, .ref a]

theorem rc_asks (F : FnOk X.prog X.w X.K X.mg X.base CX n f fd ps sp) (hb : Binds X.K fd ps []) (hx : Passes CX X E) {A : Around} (hr : Room n A) (hfr : A.frames = X.A.frames) {pins : List (Addr × Obj)} {σ : L2.St} {H : Hp} {s : Shared} (I : L2.Inv X pins σ H s) {x y : V} {u v : Value} (rx : RelV x u) (ry : RelV y v) {vs : List V} (k : Asks X.K f H x y vs) {Q : Bool → Hp → Prop}
    (h : sp vs H (fun v H' => ∃ b, v = .bl b ∧ Q b H') E) :
    wpAny (model X.prog X.w) A (richCompare .Eq u v) (fun r s' => ∃ b H', r = .bool b ∧ L2.Inv X pins σ H' s' ∧ Q b H') X.xe s := by
  obtain ⟨m, hF⟩ := I.fr
  have back : ∀ {us : List Value}, Vals vs us → wpAny (model X.prog X.w) A (call (.ref f) us) (PySem.W.CmpBack fun r s' => ∃ b H', r = .bool b ∧ L2.Inv X pins σ H' s' ∧ Q b H') X.xe s := fun r => by
    refine thn (own_call F hb hx hr hfr I r h) fun v s' z => ?_
    obtain ⟨b, H', e, z⟩ := z
    subst e
    exact ⟨b, H', rfl, z⟩
  cases k with
  | same ha hb' c =>
    cases rx
    cases ry
    obtain ⟨mA, J, _⟩ := ins_get I.hok ha
    obtain ⟨mB, J', _⟩ := ins_get I.hok hb'
    obtain ⟨od, J, _⟩ := J.look
    obtain ⟨od', J', _⟩ := J'.look
    exact PySem.W.cmp_K (op := .Eq) hr.units0 hF I.ok.mod.kin J J'.type (by simp [PySem.W.notFirst]) c.eq c.fn (back (.cons rfl (.cons rfl .nil)))
  | other ha hb' c hs =>
    cases rx
    cases ry
    obtain ⟨mA, J, _⟩ := ins_get I.hok ha
    obtain ⟨mB, J', _⟩ := ins_get I.hok hb'
    obtain ⟨od, J, _⟩ := J.look
    obtain ⟨od', J', _⟩ := J'.look
    exact PySem.W.cmp_K (op := .Eq) hr.units0 hF I.ok.mod.kin J J'.type (by unfold PySem.W.notFirst; rw [hs]; simp) c.eq c.fn (back (.cons rfl (.cons rfl .nil)))
  | tup ha hb' c hs =>
    cases rx
    cases ry
    obtain ⟨mA, J, _⟩ := ins_get I.hok ha
    obtain ⟨od, J, _⟩ := J.look
    obtain ⟨_, its, rv, o, h1, h2, _⟩ := I.hok _ _ hb'
    have L : ∀ {b : Addr}, s.heap.get? b = some o → Looks (model X.prog X.w) s.heap (typeOf (.ref b)) (.type "tuple") := fun h1 => by
      rw [← h2]
      exact (Looks.ld h1).andThen .now
    exact PySem.W.cmp_K (op := .Eq) hr.units0 hF I.ok.mod.kin J (L h1) (by unfold PySem.W.notFirst; rw [hs]; simp) c.eq c.fn (back (.cons rfl (.cons rfl .nil)))
  | rev ha hb' c hne hs =>
    cases rx
    cases ry
    obtain ⟨mA, J, _⟩ := ins_get I.hok ha
    obtain ⟨mB, J', _⟩ := ins_get I.hok hb'
    obtain ⟨od, J, _⟩ := J.look
    obtain ⟨od', J', _⟩ := J'.look
    exact cmp_rev hr.units0 I.kIn J J' hs (by simpa using hne) c.eq c.fn (back (.cons rfl (.cons rfl .nil)))

/-- x == y -/
def rAsks (K : PySem.W.Frag) (f : Addr) (sp : Sp) (E : XK) : R2 := fun x y H Q => ∃ vs, Asks K f H x y vs ∧ sp vs H (fun v H' => ∃ b, v = .bl b ∧ Q (.bl b) H') E
theorem op_asks (F : FnOk X.prog X.w X.K X.mg X.base CX n f fd ps sp) (hb : Binds X.K fd ps []) (hx : Passes CX X E) (hr : Room n X.A) : OpR X (compareOp .Eq) (rAsks X.K f sp E) := by
  intro pins s σ H x y u v Q I rx ry ⟨vs, k, h⟩
  show wpAny (model X.prog X.w) X.A (richCompare .Eq u v) (EP X pins σ Q) X.xe s
  refine thn (rc_asks F hb hx hr rfl I rx ry k (Q := fun b H' => Q (.bl b) H') h) fun r s' ⟨b, H', e, I', q⟩ => ?_
  subst e
  exact ⟨.bl b, H', I', rfl, q⟩
/-- x != y, two instances of one class -/
def rNeO (K : PySem.W.Frag) (f : Addr) (sp : Sp) (E : XK) : R2 := fun x y H Q => ∃ a b C dx dy fs gs, x = .ref a ∧ y = .ref b ∧ H a = some (.ins C dx fs) ∧ H b = some (.ins C dy gs) ∧ EqC K C f ∧ sp [x, y] H (fun v H' => ∃ b, v = .bl b ∧ Q (.bl (!b)) H') E
theorem op_neO (F : FnOk X.prog X.w X.K X.mg X.base CX n f fd ps sp) (hb : Binds X.K fd ps []) (hx : Passes CX X E) (hr : Room (n + 1) X.A) : OpR X (compareOp .NotEq) (rNeO X.K f sp E) := by
  intro pins s σ H x y u v Q I rx ry ⟨a, b, C, dx, dy, fs, gs, ex, ey, ha, hb', c, h⟩
  subst ex ey
  cases rx
  cases ry
  show wpAny (model X.prog X.w) X.A (richCompare .NotEq _ _) (EP X pins σ Q) X.xe s
  obtain ⟨mA, J, _⟩ := ins_get I.hok ha
  obtain ⟨mB, J', _⟩ := ins_get I.hok hb'
  obtain ⟨od, J, _⟩ := J.look
  obtain ⟨od', J', _⟩ := J'.look
  have hu := hr.units
  refine ne_own (by omega) I.kIn J J' c.eq c.fn c.ne c.ob (thn (own_call F hb hx (A := X.A.in1) hr.in1 rfl I (vs := [.ref a, .ref b]) (us := [.ref a, .ref b]) (.cons rfl (.cons rfl .nil)) (Q := fun b H' => Q (.bl (!b)) H') h) fun r s' ⟨b, H', e, I', q⟩ => ?_)
  exact ⟨b, e, .bl (!b), H', I', rfl, q⟩

/-- lists of such -/
def DOwn (K : PySem.W.Frag) (f : Addr) (R : Addr → Addr → Hp → Prop) : Eqv := fun x y H => ∃ a b C dx dy fs gs, x = .ref a ∧ y = .ref b ∧ H a = some (.ins C dx fs) ∧ H b = some (.ins C dy gs) ∧ EqC K C f ∧ R a b H
theorem mon_own {K : PySem.W.Frag} {R : Addr → Addr → Hp → Prop} (hR : ∀ a b H H', Ext H H' → R a b H → R a b H') : Mon (DOwn K f R) := fun x y H H' e d => by
  obtain ⟨a, b, C, dx, dy, fs, gs, hx, hy, h1, h2, c, r⟩ := d
  exact ⟨a, b, C, dx, dy, fs, gs, hx, hy, e _ _ h1, e _ _ h2, c, hR a b H H' e r⟩
theorem eqG_own {R : Addr → Addr → Hp → Prop} (F : FnOk X.prog X.w X.K X.mg X.base CX n f fd ps sp) (hb : Binds X.K fd ps []) (hx : Passes CX X E)
    (hR : ∀ a b H, R a b H → sp [.ref a, .ref b] H (fun v H' => ∃ k, v = .bl k ∧ (k = true ∧ Ext H H')) E) : EqG X n (DOwn X.K f R) := by
  refine RcG.eqG ?_ fun _ _ _ d => let ⟨a, b, _, _, _, _, _, hx, hy, _⟩ := d; ⟨a, b, hx, hy⟩
  intro A pins s σ H x y u v sb I rx ry ⟨a, b, C, dx, dy, fs, gs, ex, ey, ha, hb', c, r⟩
  subst ex ey
  refine thn (rc_asks F hb hx sb.room sb.fr I rx ry (.same ha hb' c) (Q := fun k H' => k = true ∧ Ext H H') (hR a b H r)) fun r s' ⟨b, H', e, I', q1, q2⟩ => ?_
  subst q1
  exact ⟨e, H', I', q2⟩
/-- xs != ys, all items equal: False -/
def rNeLG (D : Eqv) : R2 := fun x y H Q => DList D x y H ∧ ∀ H', Ext H H' → Q (.bl false) H'
theorem op_neLG {D : Eqv} (hD : Mon D) (h : EqG X n D) (hr : Room (n + 1) X.A) : OpR X (compareOp .NotEq) (rNeLG D) := by
  intro pins s σ H x y u v Q I rx ry ⟨d, q⟩
  obtain ⟨a, b, xs, ys, rfl, rfl, ha, hb, p⟩ := d
  cases rx
  cases ry
  show wpAny (model X.prog X.w) X.A (richCompare .NotEq _ _) (EP X pins σ Q) X.xe s
  refine rcne_listG (N := xs.length) hr.units0 (fun _ s' => LoopI X pins σ H s') (fun i s' q => ?_) (fun s' q' => ?_) ⟨H, I, Ext.rfl'⟩
  · obtain ⟨H1, I1, e1⟩ := id q
    obtain ⟨z, its, k, r, e⟩ := I1.hok a _ (e1 _ _ ha)
    obtain ⟨z2, its2, k2, r2, e2⟩ := I1.hok b _ (e1 _ _ hb)
    refine ⟨its.toArray, its2.toArray, k, k2, e, e2, by rw [List.size_toArray, ← r.length], by rw [List.size_toArray, ← r2.length, ← p.1], fun h1 h2 => ?_⟩
    exact turnG hD h ⟨hr, rfl⟩ p r r2 i h1 h2 s' q
  · obtain ⟨H', I', e⟩ := q'
    exact ⟨.bl false, H', I', rfl, q H' e⟩

/-- bool(x) of an instance with a __bool__ of its own -/
def rBoolO (K : PySem.W.Frag) (f : Addr) (sp : Sp) (E : XK) : List V → Hp → VK → Prop := fun xs H Q => ∃ a C dx fs, xs = [.ref a] ∧ H a = some (.ins C dx fs) ∧ PySem.W.findIn K (.ref C) "__bool__" = some (some (.ref f)) ∧ sp [.ref a] H (fun v H' => ∃ b, v = .bl b ∧ Q (.bl b) H') E
theorem call_boolO (F : FnOk X.prog X.w X.K X.mg X.base CX n f fd ps sp) (hb : Binds X.K fd ps []) (hx : Passes CX X E) (hr : Room (n + 2) X.A) (hf : PySem.W.isFn X.K (.ref f) = true) : CallR X (.type "bool") (rBoolO X.K f sp E) := by
  intro pins s σ H xs us Q I r ⟨a, C, dx, fs, e, ha, hs, h⟩
  subst e
  obtain rfl := Vals.ref1 r
  obtain ⟨mA, J, _⟩ := ins_get I.hok ha
  obtain ⟨od, J, _⟩ := J.look
  obtain ⟨m, hF⟩ := I.fr
  refine call_bool_inst (PySem.W.truthy_K hF I.ok.mod.kin J hs hf (thn (own_call F hb hx (A := X.A.in1.in1) hr.in1.in1 rfl I r (Q := fun b H' => Q (.bl b) H') h) fun r s' ⟨b, H', e, I', q⟩ => ?_))
  subst e
  exact ⟨.bl b, H', I', rfl, q⟩
end
end K47

/-! The values that are drawn: as data, at most n deep; what tuples make of them; their texts; == of equal ones -/
namespace K47
open PySem PySem.W PySem.Spec PySem.Calls PyProof.Rows L2

/-- a drawn value; the dict {'a': [1]} by its places -/
inductive D where
  | non | bl (b : Bool) | int (i : Int) | str (x : Str) | dct (a l : Addr) | lst (xs : List D) | tup (xs : List D)

/-- with tuples for lists, all the way in, n deep -/
def fixD : Nat → D → D
  | 0, d => d
  | n + 1, .lst xs => .tup (xs.map (fixD n))
  | n + 1, .tup xs => .tup (xs.map (fixD n))
  | _ + 1, d => d
/-- as plain data -/
def pyD : Nat → D → PyData
  | _, .non => .none
  | _, .bl b => .bool b
  | _, .int i => .int i
  | _, .str x => .str x
  | _, .dct _ _ => .dict [(.str "a", .list [.int 1])]
  | 0, .lst _ => .none
  | 0, .tup _ => .none
  | n + 1, .lst xs => .list (xs.map (pyD n))
  | n + 1, .tup xs => .tuple (xs.map (pyD n))

inductive Leaf (H : Hp) : V → D → Prop
  | non : Leaf H .non .non
  | bl (b : Bool) : Leaf H (.bl b) (.bl b)
  | int (i : Int) (h : i.natAbs.log2 < 1920) (hz : (toString i : Str).length ≤ 40) : Leaf H (.int i) (.int i)
  | str (x : Str) (hz : (reprText x).length ≤ 40) : Leaf H (.str x) (.str x)
  | dct {a l : Addr} (h : H a = some (.dK [((Sum.inr ("a" : Str) : Key), V.ref l)])) (hl : H l = some (.lst [.int 1])) : Leaf H (.ref a) (.dct a l)

def Rep : Nat → Hp → V → D → Prop
  | 0, H, v, d => Leaf H v d
  | n + 1, H, v, d => Leaf H v d ∨ (∃ a vs ds, v = .ref a ∧ d = .lst ds ∧ H a = some (.lst vs) ∧ vs.length ≤ 4 ∧ Paired (Rep n H) vs ds) ∨
      ∃ a vs ds, v = .ref a ∧ d = .tup ds ∧ H a = some (.tup vs) ∧ vs.length ≤ 4 ∧ Paired (Rep n H) vs ds
def TRep : Nat → Hp → V → D → Prop
  | 0, H, v, d => Leaf H v d
  | n + 1, H, v, d => Leaf H v d ∨ ∃ a vs ds, v = .ref a ∧ d = .tup ds ∧ H a = some (.tup vs) ∧ vs.length ≤ 4 ∧ Paired (TRep n H) vs ds

theorem Leaf.ext {H H' : Hp} {v : V} {d : D} (x : Ext H H') (h : Leaf H v d) : Leaf H' v d := by
  cases h with
  | non => exact .non
  | bl b => exact .bl b
  | int i h hz => exact .int i h hz
  | str s hz => exact .str s hz
  | dct h hl => exact .dct (x _ _ h) (x _ _ hl)
theorem Rep.ext {H H' : Hp} (x : Ext H H') : ∀ (n : Nat) {v : V} {d : D}, Rep n H v d → Rep n H' v d
  | 0, _, _, h => Leaf.ext x h
  | n + 1, _, _, h => by
    rcases h with h | ⟨a, vs, ds, e1, e2, ha, hl, p⟩ | ⟨a, vs, ds, e1, e2, ha, hl, p⟩
    · exact .inl (h.ext x)
    · exact .inr (.inl ⟨a, vs, ds, e1, e2, x _ _ ha, hl, Paired.mapP p fun _ _ q => Rep.ext x n q⟩)
    · exact .inr (.inr ⟨a, vs, ds, e1, e2, x _ _ ha, hl, Paired.mapP p fun _ _ q => Rep.ext x n q⟩)
theorem TRep.ext {H H' : Hp} (x : Ext H H') : ∀ (n : Nat) {v : V} {d : D}, TRep n H v d → TRep n H' v d
  | 0, _, _, h => Leaf.ext x h
  | n + 1, _, _, h => by
    rcases h with h | ⟨a, vs, ds, e1, e2, ha, hl, p⟩
    · exact .inl (h.ext x)
    · exact .inr ⟨a, vs, ds, e1, e2, x _ _ ha, hl, Paired.mapP p fun _ _ q => TRep.ext x n q⟩
theorem Leaf.rep {H : Hp} {v : V} {d : D} (h : Leaf H v d) : ∀ n, Rep n H v d
  | 0 => h
  | _ + 1 => .inl h
theorem Leaf.trep {H : Hp} {v : V} {d : D} (h : Leaf H v d) : ∀ n, TRep n H v d
  | 0 => h
  | _ + 1 => .inl h
theorem Leaf.fix {H : Hp} {v : V} {d : D} (h : Leaf H v d) (n : Nat) : fixD n d = d := by
  cases n <;> cases h <;> rfl

/-! ### as Reads -/
theorem paired_len {α β : Type} {F : α → β → Prop} {l : List α} {m : List β} (p : Paired F l m) : l.length = m.length := Paired.length p
/-- told as data, with its text -/
def Told (P : Program) (w : World) (h : Heap) (u : Value) (d : PyData) : Prop :=
  ∃ as bs, Reads h u d as ∧ ReadAtMost h d.depth bs ∧ ReprK P w bs h d.depth u d.shown
inductive ToldAll (P : Program) (w : World) (h : Heap) : List Value → List PyData → Prop
  | nil : ToldAll P w h [] []
  | cons {u : Value} {us : List Value} {d : PyData} {ds : List PyData} : Told P w h u d → ToldAll P w h us ds → ToldAll P w h (u :: us) (d :: ds)
theorem Told.plain {P : Program} {w : World} {h : Heap} {u : Value} {d : PyData} {as : List Addr} (r : Reads h u d as) (hs : d.showable = true) (hd : d.hasDict = false) (hz : d.shown.length ≤ sizeLine) : Told P w h u d := by
  obtain ⟨bs, h1, h2⟩ := ReprK.of_reads (prog := P) (w := w) r hs (PyData.noDict_hsm hd) hz
  exact ⟨as, bs, r, h1, h2⟩
theorem ToldAll.both {P : Program} {w : World} {h : Heap} : ∀ {us : List Value} {ds : List PyData}, ToldAll P w h us ds →
    ∃ as bs, ReadsAll h us ds as ∧ ReadAtMost h (PyData.depthAll ds) bs ∧ ReprAllK P w bs h (PyData.depthAll ds) us (PyData.shownAll ds)
  | _, _, .nil => ⟨[], [], .nil, (fun _ q => nomatch q), by simp only [PyData.shownAll]; exact .nil⟩
  | _, _, .cons (d := d) (ds := ds) t ts => by
    obtain ⟨a1, b1, r1, m1, k1⟩ := t
    obtain ⟨a2, b2, r2, m2, k2⟩ := ToldAll.both ts
    refine ⟨a1 ++ a2, b1 ++ b2, .cons r1 r2, ?_, ?_⟩
    · simp only [PyData.depthAll]
      exact (m1.mono (Nat.le_max_left _ _)).append (m2.mono (Nat.le_max_right _ _))
    · simp only [PyData.depthAll, PyData.shownAll]
      exact .cons ((k1.more fun b hb => List.mem_append_left _ hb).level_le (Nat.le_max_left _ _)) (k2.more_le (fun b hb => List.mem_append_right _ hb) (Nat.le_max_right _ _))
theorem Told.tuple {P : Program} {w : World} {h : Heap} {a : Addr} {o : Obj} {vs : Array Value} {n : Nat} {ds : List PyData} (h1 : h.get? a = some o) (h2 : o.cls = .type "tuple") (h3 : o.data = .seq vs n) (t : ToldAll P w h vs.toList ds) : Told P w h (.ref a) (.tuple ds) := by
  obtain ⟨as, bs, r, m, k⟩ := t.both
  have r' : Reads h (.ref a) (.tuple ds) _ := .tuple h1 h2 h3 r
  have hna : a ∉ bs := not_mem_of_deeper r' (by simp only [PyData.depth]; omega) m
  refine ⟨_, a :: bs, r', ReadAtMost.cons r' (by simp only [PyData.depth]; omega) m, ?_⟩
  simp only [PyData.depth, PyData.shown]
  exact ReprK.tuple h1 h2 h3 hna k
theorem Told.dict1 {P : Program} {w : World} {h : Heap} {a : Addr} {o : Obj} {es : Array DictEntry} {n : Nat} {e : DictEntry} {kd vd : PyData} (h1 : h.get? a = some o) (h2 : o.cls = .type "dict") (h3 : o.data = .dict es n) (he : es.toList = [e]) (hsys : (a == sysModules) = false)
    (tk : Told P w h e.key kd) (tv : Told P w h e.val vd) : Told P w h (.ref a) (.dict [(kd, vd)]) := by
  have K1 : ToldAll P w h (es.toList.map (·.key)) ([(kd, vd)].map (·.1)) := by rw [he]; exact .cons tk .nil
  have K2 : ToldAll P w h (es.toList.map (·.val)) ([(kd, vd)].map (·.2)) := by rw [he]; exact .cons tv .nil
  obtain ⟨a1, b1, r1, m1, k1⟩ := K1.both
  obtain ⟨a2, b2, r2, m2, k2⟩ := K2.both
  have r : Reads h (.ref a) (.dict [(kd, vd)]) _ := .dict h1 h2 h3 r1 r2
  have hb : ReadAtMost h (PyData.depthKv [(kd, vd)]) (b1 ++ b2) := (m1.mono (PyData.depthAll_keys_le _)).append (m2.mono (PyData.depthAll_vals_le _))
  have hna : a ∉ b1 ++ b2 := not_mem_of_deeper r (by simp only [PyData.depth]; omega) hb
  refine ⟨_, a :: (b1 ++ b2), r, ReadAtMost.cons r (by simp only [PyData.depth]; omega) hb, ?_⟩
  simp only [PyData.depth, PyData.shown, PyData.shownKv_eq]
  exact ReprK.dict h1 h2 h3 hsys hna (ReprEntriesK.of_two es.toList _ _
    (k1.more_le (fun b hb => List.mem_append_left _ hb) (PyData.depthAll_keys_le _)) (k2.more_le (fun b hb => List.mem_append_right _ hb) (PyData.depthAll_vals_le _)))

section
variable {X : Cx} {pins : List (Addr × Obj)} {σ : L2.St} {H : Hp} {s : Shared}
theorem z40 {n : Nat} (h : n ≤ 40) : n ≤ sizeLine := by rw [sizeLine_eq]; omega
theorem Leaf.told (I : L2.Inv X pins σ H s) {v : V} {d : D} {u : Value} (n : Nat) (h : Leaf H v d) (r : RelV v u) : Told X.prog X.w s.heap u (pyD n d) := by
  cases h with
  | non =>
    cases r
    have e : pyD n .non = .none := by cases n <;> rfl
    rw [e]
    exact Told.plain .none rfl rfl (by decide +kernel)
  | bl b =>
    cases r
    have e : pyD n (.bl b) = .bool b := by cases n <;> rfl
    rw [e]
    refine Told.plain (.bool b) rfl rfl ?_
    cases b <;> decide +kernel
  | int i hi hz =>
    obtain ⟨t, rfl⟩ := r
    have e : pyD n (.int i) = .int i := by cases n <;> rfl
    rw [e]
    exact Told.plain (.int i t) (by simpa [PyData.showable] using hi) rfl (by simpa only [PyData.shown] using z40 hz)
  | str x hz =>
    obtain ⟨t, rfl⟩ := r
    have e : pyD n (.str x) = .str x := by cases n <;> rfl
    rw [e]
    exact Told.plain (.str x t) rfl rfl (by simpa only [PyData.shown] using z40 hz)
  | @dct a l ha hl =>
    cases r
    have e : pyD n (.dct a l) = .dict [(.str "a", .list [.int 1])] := by cases n <;> rfl
    rw [e]
    obtain ⟨_, hsys, vs, kv, o, es, ep, ho, hx, hd, _, hp, _⟩ := I.hok a _ ha
    obtain ⟨_, its, m, rl, hlo⟩ := I.hok l _ hl
    have hl0 : Told X.prog X.w s.heap (.ref l) (.list [.int 1]) := by
      cases rl with
      | cons r1 r2 =>
        cases r2
        obtain ⟨t, rfl⟩ := r1
        exact Told.plain (.list hlo rfl rfl (.cons (.int 1 t) .nil)) rfl rfl (by decide +kernel)
    cases kv with
    | @cons p q _ ps h1 h2 =>
      cases h2
      obtain ⟨h3, h4⟩ := h1
      obtain ⟨qk, qv⟩ := q
      simp only at h3 h4
      subst h3
      obtain rfl : qv = Value.ref l := h4
      generalize hes : es.toList = el at hp
      cases hp with
      | @cons e' _ es' _ g1 g2 g3 =>
        cases g3
        have g1 : keyIs (.inr ("a" : Str)) e'.key = true := g1
        have g2 : e'.val = .ref l := g2
        rcases keyIs_shape g1 with ⟨_, _, z, _⟩ | ⟨x, t, z, g1⟩
        · cases z
        · cases z
          refine Told.dict1 ho hx.1 hd hes hsys ?_ (by rw [g2]; exact hl0)
          rw [g1]
          exact Told.plain (.str "a" t) rfl rfl (by decide +kernel)
theorem pairedT {F G : V → D → Prop} {P : Program} {w : World} {h : Heap} {f : D → PyData} (hF : ∀ v d u, F v d → RelV v u → Told P w h u (f d)) : ∀ {vs : List V} {ds : List D} {us : List Value}, Paired F vs ds → Vals vs us → ToldAll P w h us (ds.map f)
  | _, _, _, .nil, .nil => .nil
  | _, _, _, .cons q qs, .cons r rs => .cons (hF _ _ _ q r) (pairedT (G := G) hF qs rs)
theorem TRep.told (I : L2.Inv X pins σ H s) : ∀ (n : Nat) (v : V) (d : D) (u : Value), TRep n H v d → RelV v u → Told X.prog X.w s.heap u (pyD n d)
  | 0, v, d, u, h, r => Leaf.told I 0 h r
  | n + 1, v, d, u, h, r => by
    rcases h with h | ⟨a, vs, ds, rfl, rfl, ha, _, p⟩
    · exact h.told I (n + 1) r
    · cases r
      obtain ⟨_, its, rv, o, h1, h2, m, h3⟩ := I.hok a _ ha
      show Told X.prog X.w s.heap (.ref a) (.tuple (ds.map (pyD n)))
      refine Told.tuple h1 h2 h3 ?_
      have e : its.toArray.toList = its := by simp
      rw [e]
      exact pairedT (G := TRep n H) (fun v d u q r => TRep.told I n v d u q r) p rv
end

/-! ### bounds of the texts -/
def bnd : Nat → Nat
  | 0 => 40
  | n + 1 => 4 * (bnd n + 2) + 4
theorem bnd40 : ∀ n, 40 ≤ bnd n
  | 0 => Nat.le_refl _
  | n + 1 => by have := bnd40 n; unfold bnd; omega
theorem Leaf.small {H : Hp} {v : V} {d : D} (n : Nat) (h : Leaf H v d) : (pyD n d).shown.length ≤ 40 := by
  cases h with
  | non =>
    have e : pyD n .non = .none := by cases n <;> rfl
    rw [e]
    decide +kernel
  | bl b =>
    have e : pyD n (.bl b) = .bool b := by cases n <;> rfl
    rw [e]
    cases b <;> decide +kernel
  | int i hi hz =>
    have e : pyD n (.int i) = .int i := by cases n <;> rfl
    rw [e]
    simpa only [PyData.shown] using hz
  | str x hz =>
    have e : pyD n (.str x) = .str x := by cases n <;> rfl
    rw [e]
    simpa only [PyData.shown] using hz
  | @dct a l ha hl =>
    have e : pyD n (.dct a l) = .dict [(.str "a", .list [.int 1])] := by cases n <;> rfl
    rw [e]
    decide +kernel
theorem shownAll_map (f : D → PyData) : ∀ ds : List D, PyData.shownAll (ds.map f) = ds.map fun d => (f d).shown
  | [] => by simp only [List.map_nil, PyData.shownAll]
  | d :: ds => by simp only [List.map_cons, PyData.shownAll, shownAll_map f ds]
theorem piled_le {ts : List Str} {b : Nat} : (∀ t ∈ ts, t.length ≤ b) → piled ts ≤ ts.length * (b + 2) := by
  induction ts with
  | nil => intro _; exact Nat.zero_le _
  | cons t ts ih =>
    intro h
    have h1 := h t List.mem_cons_self
    have h2 := ih fun t ht => h t (List.mem_cons_of_mem _ ht)
    rw [piled_cons, List.length_cons, Nat.succ_mul]
    omega
theorem paired_mem {F : V → D → Prop} {vs : List V} {ds : List D} (p : Paired F vs ds) : ∀ d ∈ ds, ∃ v, F v d := by
  induction p with
  | nil => intro d h; cases h
  | cons q _ ih =>
    intro d h
    rcases List.mem_cons.mp h with e | h
    · subst e; exact ⟨_, q⟩
    · exact ih d h
theorem TRep.small {H : Hp} : ∀ (n : Nat) {v : V} {d : D}, TRep n H v d → (pyD n d).shown.length ≤ bnd n
  | 0, _, _, h => Leaf.small 0 h
  | n + 1, _, _, h => by
    rcases h with h | ⟨a, vs, ds, rfl, rfl, ha, hl, p⟩
    · exact Nat.le_trans (h.small (n + 1)) (bnd40 _)
    · show (PyData.tuple (ds.map (pyD n))).shown.length ≤ _
      simp only [PyData.shown, shownAll_map]
      have h1 := fmt_text (ds.map fun d => (pyD n d).shown)
      have h2 := piled_le (ts := ds.map fun d => (pyD n d).shown) (b := bnd n) fun t ht => by
        obtain ⟨d, hd, rfl⟩ := List.mem_map.mp ht
        obtain ⟨v, q⟩ := paired_mem p d hd
        exact TRep.small n q
      have h3 := paired_len p
      rw [List.length_map] at h2
      have h4 : ds.length * (bnd n + 2) ≤ 4 * (bnd n + 2) := Nat.mul_le_mul_right _ (by omega)
      unfold bnd
      omega
theorem sum_le {ts : List Str} {b : Nat} : (∀ t ∈ ts, t.length ≤ b) → (ts.map (·.length)).sum ≤ ts.length * b := by
  induction ts with
  | nil => intro _; exact Nat.zero_le _
  | cons t ts ih =>
    intro h
    have h1 := h t List.mem_cons_self
    have h2 := ih fun t ht => h t (List.mem_cons_of_mem _ ht)
    rw [List.map_cons, List.sum_cons, List.length_cons, Nat.succ_mul]
    omega
theorem listText_le {ts : List Str} {b : Nat} (h : ∀ t ∈ ts, t.length ≤ b) : (listText ts).length ≤ ts.length * b + 2 * ts.length + 2 := by
  have h1 := textFrom_len_le ts 0 "["
  have h2 := sum_le h
  have e : (listText ts).length = (textFrom 0 "[" ts).length + 1 := by
    show (textFrom 0 "[" ts ++ "]").length = _
    rw [strLen_append]; rfl
  have e1 : (("[" : String) : Str).length = 1 := rfl
  omega

/-! ### repr of a list of such -/
def textOf (n : Nat) (ds : List D) : Str := listText (ds.map fun d => (pyD n d).shown)
def rRepr : List V → Hp → VK → Prop := fun xs H Q => ∃ (a : Addr) (vs : List V) (ds : List D) (n : Nat), xs = [.ref a] ∧ H a = some (.lst vs) ∧ Paired (TRep n H) vs ds ∧ vs ≠ [] ∧ vs.length ≤ 16 ∧ n ≤ 4 ∧ Q (.str (textOf n ds)) H
theorem bnd4 {n : Nat} (h : n ≤ 4) : bnd n ≤ 20000 := by
  match n, h with
  | 0, _ => decide
  | 1, _ => decide
  | 2, _ => decide
  | 3, _ => decide
  | 4, _ => decide
theorem depth_le {H : Hp} : ∀ (n : Nat) {v : V} {d : D}, TRep n H v d → (pyD n d).depth ≤ n + 3 := by
  have leaf : ∀ (n : Nat) {v : V} {d : D}, Leaf H v d → (pyD n d).depth ≤ 3 := fun n v d h => by
    cases h with
    | non =>
      have e : pyD n .non = .none := by cases n <;> rfl
      rw [e]
      decide
    | bl b =>
      have e : pyD n (.bl b) = .bool b := by cases n <;> rfl
      rw [e]
      exact Nat.le_of_lt (by simp [PyData.depth])
    | int i hi hz =>
      have e : pyD n (.int i) = .int i := by cases n <;> rfl
      rw [e]
      exact Nat.le_of_lt (by simp [PyData.depth])
    | str x hz =>
      have e : pyD n (.str x) = .str x := by cases n <;> rfl
      rw [e]
      exact Nat.le_of_lt (by simp [PyData.depth])
    | @dct a l ha hl =>
      have e : pyD n (.dct a l) = .dict [(.str "a", .list [.int 1])] := by cases n <;> rfl
      rw [e]
      simp [PyData.depth, PyData.depthKv, PyData.depthAll]
  intro n
  induction n with
  | zero => intro v d h; exact leaf 0 h
  | succ n ih =>
    intro v d h
    rcases h with h | ⟨a, vs, ds, rfl, rfl, ha, hl, p⟩
    · exact Nat.le_trans (leaf _ h) (by omega)
    · show (PyData.tuple (ds.map (pyD n))).depth ≤ _
      simp only [PyData.depth]
      have all : ∀ {vs : List V} {ds : List D}, Paired (TRep n H) vs ds → PyData.depthAll (ds.map (pyD n)) ≤ n + 3 := fun {vs ds} p => by
        induction p with
        | nil => simp [PyData.depthAll]
        | cons q _ ih2 =>
          simp only [List.map_cons, PyData.depthAll]
          exact Nat.max_le.mpr ⟨ih q, ih2⟩
      have := all p
      omega
theorem depthAll_le {n : Nat} {H : Hp} : ∀ {vs : List V} {ds : List D}, Paired (TRep n H) vs ds → PyData.depthAll (ds.map (pyD n)) ≤ n + 3
  | _, _, .nil => by simp [PyData.depthAll]
  | _, _, .cons q qs => by
    simp only [List.map_cons, PyData.depthAll]
    exact Nat.max_le.mpr ⟨depth_le n q, depthAll_le qs⟩
section
variable {X : Cx}
theorem call_reprL {k : Nat} (hg : X.A.guards = some []) (hr : Room k X.A) : CallR X (.builtin "repr") rRepr := by
  intro pins s σ H xs us Q I r ⟨a, vs, ds, n, e, ha, p, hne, hlen, hn, q⟩
  subst e
  obtain rfl := Vals.ref1 r
  obtain ⟨_, its, m, rv, ho⟩ := I.hok a _ ha
  have tl : ToldAll X.prog X.w s.heap its (ds.map (pyD n)) := pairedT (G := TRep n H) (fun v d u q r => TRep.told I n v d u q r) p rv
  obtain ⟨as, bs, rd, md, rk⟩ := tl.both
  have r' : Reads s.heap (.ref a) (.list (ds.map (pyD n))) _ := .list ho rfl rfl (by simpa using rd)
  have hna : a ∉ bs := not_mem_of_deeper r' (by simp only [PyData.depth]; omega) md
  have hT : s.TypeIs (.ref a) "list" := ⟨_, ho, rfl⟩
  have hu := hr.units
  have hdep : PyData.depthAll (ds.map (pyD n)) ≤ n + 3 := depthAll_le p
  have hsz : (textOf n ds).length ≤ sizeLine := by
    have h1 := listText_le (ts := ds.map fun d => (pyD n d).shown) (b := 20000) fun t ht => by
      obtain ⟨d, hd, rfl⟩ := List.mem_map.mp ht
      obtain ⟨v, q⟩ := paired_mem p d hd
      exact Nat.le_trans (TRep.small n q) (bnd4 hn)
    have h2 := paired_len p
    rw [List.length_map] at h1
    have h3 : ds.length * 20000 ≤ 16 * 20000 := Nat.mul_le_mul_right _ (by omega)
    rw [sizeLine_eq]
    unfold textOf
    omega
  have ets : textOf n ds = listText (PyData.shownAll (ds.map (pyD n))) := by
    unfold textOf
    rw [shownAll_map]
  cases its with
  | nil =>
    cases rv
    exact absurd rfl hne
  | cons u us =>
    refine call_repr_slot (by omega) hT F.slot_list_repr.toG (call_list_reprK (ts := PyData.shownAll (ds.map (pyD n))) ho rfl rfl hna (by simpa using rk.length_eq) (fun i y e => rk.item i y (by simpa using e)) hg (fun b _ => Clear.nil b)
      (by show X.A.units + 1 + _ < cLine; omega) (fun _ _ e => e) (fun h' u tk hk => ⟨_, _, rfl, ?_⟩) (by rw [← ets]; exact hsz))
    exact ⟨.str (textOf n ds), H, I.kept hk, ⟨u, by rw [ets]⟩, q⟩
end
end K47

/-! The law's pen: what draws -/
namespace K47
open PySem PySem.W PySem.Spec PySem.Calls PyProof.Rows L2
def top (i : Nat) : Stmt := PySem.Challenge.pw_termmaps_k47_papers_of_maps_of_any_value.main.body.getD i (.Pass ⟨0, 0, 0, 0⟩)
abbrev sPen : Stmt := top 15
abbrev sDraw : Stmt := top 16
abbrev sPick : Stmt := top 17

/-- only p has turned; new things may stand beside -/
def Only (p : Addr) (H H' : Hp) : Prop := ∀ b o, b ≠ p → H b = some o → H' b = some o
theorem Only.rfl' {p : Addr} {H : Hp} : Only p H H := fun _ _ _ h => h
theorem Only.trans {p : Addr} {H H' H'' : Hp} (a : Only p H H') (b : Only p H' H'') : Only p H H'' := fun c o n h => b c o n (a c o n h)
theorem Only.upd {p : Addr} {H : Hp} (o : HO) : Only p H (upd H p o) := fun b u n h => by rw [upd_ne n]; exact h
theorem Only.new {p q : Addr} {H : Hp} (h : H q = none) (o : HO) : Only p H (L2.upd H q o) := fun b u n e => by rw [upd_ne (ne_of_none e h)]; exact e
theorem ext_new {q : Addr} {H : Hp} (h : H q = none) (o : HO) : Ext H (L2.upd H q o) := fun b u e => by rw [upd_ne (ne_of_none e h)]; exact e
theorem Ext.tr {H H' H'' : Hp} (a : Ext H H') (b : Ext H' H'') : Ext H H'' := fun c o h => b c o (a c o h)
theorem Only.ext {p : Addr} {H H' : Hp} (h : Ext H H') : Only p H H' := fun b o _ e => h b o e

structure PenAt (H : Hp) (p c : Addr) (m : Nat) : Prop where
  ex : ∃ (ns : List Int) (t : Nat) (r : Int), H p = some (.lst [.ref c, .int (t : Int), .int r]) ∧ H c = some (.lst (ns.map V.int)) ∧ ns.length ≤ 63 ∧ 0 ≤ r ∧ t ≤ m
theorem PenAt.mono {H : Hp} {p c : Addr} {m n : Nat} (h : PenAt H p c m) (l : m ≤ n) : PenAt H p c n := by
  obtain ⟨ns, t, r, h1, h2, h3, h4, h5⟩ := h
  exact ⟨ns, t, r, h1, h2, h3, h4, by omega⟩
theorem ints_ne {ns : List Int} {c : Addr} {x y : Int} : ns.map V.int ≠ [V.ref c, .int x, .int y] := fun e => by
  cases ns with
  | nil => cases e
  | cons n ns => simp at e
theorem PenAt.ext {H H' : Hp} {p c : Addr} {m : Nat} (h : PenAt H p c m) (x : Ext H H') : PenAt H' p c m := by
  obtain ⟨ns, t, r, h1, h2, h3, h4, h5⟩ := h
  exact ⟨ns, t, r, x _ _ h1, x _ _ h2, h3, h4, h5⟩

/-! ### promises -/
def spPen (K : PySem.W.Frag) : Sp := fun vs H Q _ => ∃ (a : Addr) (ns : List Int), vs = [.ref a] ∧ SqL K H a (ns.map V.int) ∧ ns.length ≤ 63 ∧ ∀ (p c : Addr) (H' : Hp), Ext H H' → PenAt H' p c 0 → Q (.ref p) H'
def spDraw : Sp := fun vs H Q _ => ∃ (p c : Addr) (n m : Nat), vs = [.ref p, .int (n : Int)] ∧ PenAt H p c m ∧ m ≤ 100000 ∧ n < 1000 ∧ ∀ (r : Nat) (H' : Hp), r ≤ n - 1 → Only p H H' → PenAt H' p c (m + 1) → Q (.int (r : Int)) H'
def spPick : Sp := fun vs H Q _ => ∃ (p c a : Addr) (xs : List V) (m : Nat), vs = [.ref p, .ref a] ∧ PenAt H p c m ∧ m ≤ 100000 ∧ a ≠ p ∧ H a = some (.lst xs) ∧ 0 < xs.length ∧ xs.length < 1000 ∧
  ∀ (x : V) (H' : Hp), x ∈ xs → Only p H H' → PenAt H' p c (m + 1) → Q x H'
section
variable {P : Program} {w : World} {K : PySem.W.Frag} {mg : Str → Option Value} {base : Heap}
theorem scPen : FnScope ["script", "cell"] ["script"] (defScope sPen) := ⟨rfl, rfl, rfl, by decide +kernel, rfl, by decide +kernel, by decide +kernel⟩
def compScope : Expr → Scope
  | .ListComp _ _ sc _ => sc
  | _ => { kind := .function, names := [], isGenerator := false, isCoroutine := false }
theorem tyes {σ : L2.St} {H : Hp} {A B : Bool → Hp → Prop} (h : A true H) : tYes σ H fun b H3 => if b = true then A b H3 else B b H3 := by
  show if true = true then A true H else B true H
  rw [if_pos rfl]
  exact h
theorem ok_pen {f : Addr} {fd : FuncData} (F : Fun K "_law_pen" "_law_pen" sPen f fd) (ml : mg "int" = none) : FnOk P w K mg base CX0 1 f fd ["script"] (spPen K) := by
  refine F.ok scPen (fun vs H Q E h => ?_) (fun cdv A outer s H vs Q E hr h => ?_)
  · obtain ⟨a, ns, rfl, _⟩ := h
    rfl
  obtain ⟨a, ns, rfl, hS, hlen, k⟩ := h
  refine ⟨_, pss_one (ps_ret (pe_lst (pa_cons (pe_lc (own := [("cell", 1)]) rfl scPen.nd (pi_list (pe_slice sl_list (pv 0) po_none (po_some pe_int))) (blkOk_by (N := ["script", "cell"]) (sc := defScope sPen) (by decide +kernel))
    (fun _ _ _ _ _ => pg_name (i := 1) scPen.nd rfl (Or.inl rfl)) (fun _ _ _ _ _ => pts_nil) (fun _ _ _ _ _ => pe_callTy call_int1 rfl ml rfl (pa_cons (pv 1) pa_nil)))
    (pa_cons pe_int (pa_cons pe_int pa_nil))))), ?_⟩
  -- script[:63]
  refine ⟨_, rfl, _, rfl, a, _, rfl, hS, fun b hb => ?_⟩
  have e1 : cutV (ns.map V.int) none (some 63) = ns.map V.int := by
    unfold cutV
    rw [HT.sIx_none, show (some (63 : Int)) = some ((63 : Nat) : Int) from rfl, HT.sIx_nat, List.drop_zero]
    exact List.take_of_length_le (by rw [List.length_map]; omega)
  rw [e1]
  refine ⟨b, rfl, ⟨_, .inl (.inl upd_same)⟩, fun D hD => ?_⟩
  have bD : b ≠ D := fun e => by
    rw [e, upd_same] at hD
    cases hD
  have hD0 : H D = none := by
    rw [upd_ne bD.symm] at hD
    exact hD
  refine lc_list (K := K) (a := b) (xs := ns.map V.int) (fun i H2 => Ext H H2 ∧ H2 b = some (.lst (ns.map V.int)) ∧ H2 D = some (.lst ((ns.map V.int).take i))) ⟨?_, ?_, upd_same⟩ (fun i H2 _ h => .inl (.inl h.2.1)) ?_ ?_
  · exact Ext.tr (ext_new hb _) (ext_new hD _)
  · rw [upd_ne bD, upd_same]
  · rintro i x H2 hi ⟨h1, h2, h3⟩
    obtain ⟨n, rfl⟩ : ∃ n, x = V.int n := by
      rw [List.getElem?_map] at hi
      cases e : ns[i]? with
      | none =>
        rw [e] at hi
        cases hi
      | some z =>
        rw [e] at hi
        exact ⟨z, (Option.some.inj hi).symm⟩
    have hil : i < (ns.map V.int).length := (List.getElem?_eq_some_iff.mp hi).1
    refine ⟨rfl, tyes ?_⟩
    refine ⟨_, rfl, .inl ⟨n, rfl, _, h3, ?_, ?_, ?_, ?_⟩⟩
    · rw [List.length_take]
      rw [List.length_map] at hil ⊢
      exact small1000 (by omega)
    · intro c o e
      rw [upd_ne (ne_of_none e hD0)]
      exact h1 c o e
    · rw [upd_ne bD]
      exact h2
    · rw [upd_same, List.take_succ, hi]
      rfl
  · rintro H2 ⟨h1, h2, h3⟩
    refine ⟨(by show 3 ≤ sizeLine; decide), fun p hp => ?_⟩
    rw [List.take_length] at h3
    refine k p D _ (Ext.tr h1 (ext_new hp _)) ⟨ns, 0, 0, upd_same, ?_, hlen, Int.le_refl 0, Nat.le_refl 0⟩
    rw [upd_ne (ne_of_none h3 hp)]
    exact h3

/-! ### _law_draw -/
theorem scDraw : FnScope ["pen", "many", "rest", "turn", "cell", "shuffled"] ["pen", "many"] (defScope sDraw) := ⟨rfl, rfl, rfl, by decide +kernel, rfl, by decide +kernel, by decide +kernel⟩
theorem at3 {c : Addr} {t r : Int} : atI [V.ref c, .int t, .int r] 0 = some (.ref c) ∧ atI [V.ref c, .int t, .int r] 1 = some (.int t) ∧ atI [V.ref c, .int t, .int r] 2 = some (.int r) := ⟨rfl, rfl, rfl⟩
theorem lay_ints : ∀ ns : List Int, PyData.canLayAll0 (ns.map PyData.int) = true ∧ PyData.depthAll (ns.map PyData.int) ≤ 0
  | [] => by simp [PyData.canLayAll0, PyData.depthAll]
  | n :: ns => by
    have q := lay_ints ns
    simp only [List.map_cons, PyData.canLayAll0, PyData.depthAll, PyData.canLay0, PyData.depth, Bool.true_and]
    exact ⟨q.1, Nat.max_le.mpr ⟨Nat.le_refl _, q.2⟩⟩
theorem shaped_ints (ns : List Int) : SeqAt.shaped (.list (ns.map PyData.int)) = true := by
  have q := lay_ints ns
  unfold SeqAt.shaped
  have q2 := q.2
  simp only [PyData.canLay0, PyData.depth, q.1, Bool.true_and]
  refine decide_eq_true ?_
  omega
theorem dp_ints {K : PySem.W.Frag} {H : Hp} : ∀ ns : List Int, DpAll K H (ns.map V.int) (ns.map PyData.int)
  | [] => .nil
  | n :: ns => .cons (.int n) (dp_ints ns)
theorem eqv_ints : ∀ ns : List Int, PyData.eqv (.list (ns.map PyData.int)) (.list []) = ns.isEmpty
  | [] => by simp [PyData.eqv, PyData.eqvAll]
  | n :: ns => by simp [PyData.eqv, PyData.eqvAll]
theorem bnd5 {s : Int} {t : Nat} (h0 : 0 ≤ s) (h1 : s < 2147483587) (ht : t ≤ 100000) : (s * (2 * (t : Int) + 4357) + 90247 * (t : Int) * (t : Int) + 81150).natAbs < 2 ^ 64 := by
  have a1 : s * (2 * (t : Int) + 4357) ≤ 2147483587 * 204357 := Int.mul_le_mul (by omega) (by omega) (by omega) (by omega)
  have a2 : 0 ≤ s * (2 * (t : Int) + 4357) := Int.mul_nonneg h0 (by omega)
  have a3 : 90247 * (t : Int) * (t : Int) ≤ 9024700000 * 100000 := Int.mul_le_mul (by omega) (by omega) (by omega) (by omega)
  have a4 : 0 ≤ 90247 * (t : Int) * (t : Int) := Int.mul_nonneg (by omega) (by omega)
  generalize s * (2 * (t : Int) + 4357) = x at *
  generalize 90247 * (t : Int) * (t : Int) = y at *
  omega
theorem ok_draw {f : Addr} {fd : FuncData} (F : Fun K "_law_draw" "_law_draw" sDraw f fd) (mi : mg "int" = none) (ml : mg "len" = none) (ma : mg "abs" = none) : FnOk P w K mg base CX0 1 f fd ["pen", "many"] spDraw := by
  refine F.ok scDraw (fun vs H Q E h => ?_) (fun cdv A outer s H vs Q E hr h => ?_)
  · obtain ⟨p, c, n, m, rfl, _⟩ := h
    rfl
  obtain ⟨p, c, n, m, rfl, P0, hm, hn, k⟩ := h
  obtain ⟨ns, t, r, hp, hc, hl, h0, ht⟩ := id P0
  have hu := hr.units
  refine ⟨_, pss_cons (ps_if (pt_cmpR op_lt (pv 1) pe_int (nomark _)) (pss_one (ps_ret pe_int)) pss_nil)
    (pss_cons (ps_if (pt_cmpR op_gt (pe_ix ix_list (pv 0) pe_int (fun _ _ => rfl)) pe_int (nomark _))
      (pss_cons (ps_set (i := 2) scDraw.nd rfl (Or.inl rfl) (pe_callTy call_int1 rfl mi rfl (pa_cons (pe_ix ix_list (pv 0) pe_int (fun _ _ => rfl)) pa_nil)))
      (pss_cons (ps_asg (pe_op op_fdiv (pv 2) (pv 1)) (pg_sub (pv 0) pe_int set_list))
      (pss_one (ps_ret (pe_op op_mod (pe_callTy call_int1 rfl mi rfl (pa_cons (pv 2) pa_nil)) (pv 1)))))) pss_nil)
    (pss_cons (ps_set (i := 3) scDraw.nd rfl (Or.inl rfl) (pe_ix ix_list (pv 0) pe_int (fun _ _ => rfl)))
    (pss_cons (ps_asg (pe_op op_add (pv 3) pe_int) (pg_sub (pv 0) pe_int set_list))
    (pss_cons (ps_set (i := 4) scDraw.nd rfl (Or.inl rfl) (pe_op op_add (pe_op op_mul pe_int (pv 3)) pe_int))
    (C8.pss_cut (ps_if (pt_cmpR (op_neD (by exact hu)) (pe_ix ix_list (pv 0) pe_int (fun _ _ => rfl)) (pe_lst pa_nil) (nomark _))
      (pss_one (ps_set (i := 4) scDraw.nd rfl (Or.inl rfl) (pe_ix ix_list (pe_ix ix_list (pv 0) pe_int (fun _ _ => rfl)) (pe_op op_mod (pe_callTy call_int1 rfl mi rfl (pa_cons (pv 3) pa_nil)) (pe_callB call_len_seq rfl ml boot_len (pa_cons (pe_ix ix_list (pv 0) pe_int (fun _ _ => rfl)) pa_nil))) (fun _ _ => rfl)))) pss_nil)
    (C8.pss_cut (ps_if (PW.pt (pw_and (pt_cmpR op_lt (pv 3) (pe_callB call_len_seq rfl ml boot_len (pa_cons (pe_ix ix_list (pv 0) pe_int (fun _ _ => rfl)) pa_nil)) (nomark _))
        (pw_and1 (pt_cmpR op_ge (pe_callB call_abs rfl ma rfl (pa_cons (pv 4) pa_nil)) (pe_op op_pow pe_int pe_int) (nomark _)))))
      (pss_cons (ps_set (i := 2) scDraw.nd rfl (Or.inl rfl) (pe_op op_add (pe_op op_mul pe_int (pe_op op_sub (pe_callB call_abs rfl ma rfl (pa_cons (pv 4) pa_nil)) (pe_op op_pow pe_int pe_int))) (pe_callTy call_int1 rfl mi rfl (pa_cons (pe_cmpR op_lt (pv 4) pe_int (nomark _)) pa_nil))))
      (pss_cons (ps_asg (pe_op op_fdiv (pe_callTy call_int1 rfl mi rfl (pa_cons (pv 2) pa_nil)) (pv 1)) (pg_sub (pv 0) pe_int set_list))
      (pss_one (ps_ret (pe_op op_mod (pe_callTy call_int1 rfl mi rfl (pa_cons (pv 2) pa_nil)) (pv 1)))))) pss_nil)
    (pss_cons (ps_set (i := 5) scDraw.nd rfl (Or.inl rfl) (pe_op op_mod (pe_callTy call_int1 rfl mi rfl (pa_cons (pe_op op_pow (pe_op op_add (pe_op op_add (pe_op op_mod (pe_callTy call_int1 rfl mi rfl (pa_cons (pv 4) pa_nil)) pe_int) (pe_op op_mul pe_int (pv 3))) pe_int) pe_int) pa_nil)) pe_int))
    (pss_cons (ps_set (i := 5) scDraw.nd rfl (Or.inl rfl) (pe_op op_mod (pe_callTy call_int1 rfl mi rfl (pa_cons (pe_op op_pow (pe_op op_add (pe_op op_add (pe_op op_mul (pv 5) (pe_op op_add (pe_op op_mul pe_int (pv 3)) pe_int)) (pe_op op_mul (pe_op op_mul pe_int (pv 3)) (pv 3))) pe_int) pe_int) pa_nil)) pe_int))
    (pss_one (ps_ret (pe_op op_mod (pe_callTy call_int1 rfl mi rfl (pa_cons (pe_op op_fdiv (pv 5) pe_int) pa_nil)) (pv 1)))))))))))), ?_⟩
  have cp : c ≠ p := fun e => by
    rw [e, hp] at hc
    exact ints_ne (HO.lst.inj (Option.some.inj hc)).symm
  have hk : ∀ (z : Int) (H' : Hp), 2 ≤ n → Only p H H' → PenAt H' p c (m + 1) → Q (.int (z % (n : Int))) H' := fun z H' h2 o P1 => by
    have e1 : 0 ≤ z % (n : Int) := Int.emod_nonneg _ (by omega)
    have e2 : z % (n : Int) < (n : Int) := Int.emod_lt_of_pos _ (by omega)
    have q := k (z % (n : Int)).toNat H' (by omega) o P1
    rw [Int.toNat_of_nonneg e1] at q
    exact q
  -- many < 2
  refine ⟨_, rfl, _, _, rfl, rfl, _, rfl, ?_⟩
  refine ite2 (fun c1 => k 0 H (Nat.zero_le _) Only.rfl' (P0.mono (Nat.le_succ m))) (fun c1 => ?_)
  have n2 : 2 ≤ n := by
    have z : ¬ ((n : Int) < 2) := of_decide_eq_false (Bool.eq_false_iff.mpr c1)
    omega
  have n0 : (0 : Int) < (n : Int) := by omega
  -- pen[2] > 0
  refine ⟨_, rfl, p, _, _, _, rfl, rfl, .inl (.inl hp), rfl, _, _, rfl, rfl, _, rfl, ?_⟩
  refine ite2 (fun c2 => ?_) (fun c2 => ?_)
  · refine ⟨_, rfl, p, _, _, _, rfl, rfl, .inl (.inl hp), rfl, .inl ⟨r, rfl, ?_⟩⟩
    refine ⟨_, rfl, _, rfl, _, _, rfl, rfl, ⟨n0, by omega⟩, _, rfl, p, _, 2, 2, rfl, rfl, hp, rfl, ?_⟩
    refine ⟨_, rfl, .inl ⟨_, rfl, _, rfl, _, _, rfl, rfl, n0, ?_⟩⟩
    refine hk _ _ n2 (Only.upd _) ⟨ns, t, r / (n : Int), upd_same, (by rw [upd_ne cp]; exact hc), hl, Int.ediv_nonneg h0 (by omega), by omega⟩
  · -- turn = pen[1]; pen[1] = turn + 1
    refine ⟨_, rfl, p, _, _, _, rfl, rfl, .inl (.inl hp), rfl, ?_⟩
    refine ⟨_, rfl, _, _, rfl, rfl, _, rfl, p, _, 1, 1, rfl, rfl, hp, rfl, ?_⟩
    generalize hH1 : upd H p (.lst ([V.ref c, .int (t : Int), .int r].set 1 (.int ((t : Int) + 1)))) = H1
    have hp1 : H1 p = some (.lst [.ref c, .int ((t : Int) + 1), .int r]) := by rw [← hH1, upd_same]; rfl
    have hc1 : H1 c = some (.lst (ns.map V.int)) := by rw [← hH1, upd_ne cp]; exact hc
    have o1 : Only p H H1 := by rw [← hH1]; exact Only.upd _
    -- cell = 81150 * turn + 10912
    refine ⟨_, rfl, _, _, rfl, rfl, .inl ⟨by decide, by decide⟩, _, _, rfl, rfl, ?_⟩
    -- if pen[0] != []
    refine ⟨fun σ' H' => ∃ (z : Int) (y : Option V), σ' = [some (.ref p), some (.int (n : Int)), none, some (.int (t : Int)), some (.int z), y] ∧ Only p H H' ∧ H' p = some (.lst [.ref c, .int ((t : Int) + 1), .int r]) ∧ H' c = some (.lst (ns.map V.int)), ?_, ?_⟩
    · refine ⟨_, rfl, p, _, _, _, rfl, rfl, .inl (.inl hp1), rfl, (by show 0 ≤ sizeLine; decide), fun q hq => ?_⟩
      have cq : c ≠ q := ne_of_none hc1 hq
      have pq : p ≠ q := ne_of_none hp1 hq
      have oq : Only p H (upd H1 q (.lst [])) := o1.trans (Only.new hq _)
      generalize hH2 : upd H1 q (.lst []) = H2 at oq
      have hp2 : H2 p = some (.lst [.ref c, .int ((t : Int) + 1), .int r]) := by rw [← hH2, upd_ne pq]; exact hp1
      have hc2 : H2 c = some (.lst (ns.map V.int)) := by rw [← hH2, upd_ne cq]; exact hc1
      have hq2 : H2 q = some (.lst []) := by rw [← hH2, upd_same]
      refine ⟨_, _, .lst (.inl (.inl hc2)) (dp_ints ns), .lst (.inl (.inl hq2)) .nil, shaped_ints ns, (by decide +kernel), _, rfl, ?_⟩
      rw [eqv_ints]
      cases ns with
      | nil => exact iteF ⟨_, _, rfl, oq, hp2, hc2⟩
      | cons n1 ns1 =>
        refine iteT ?_
        have hpos : (0 : Int) < (((n1 :: ns1).map V.int).length : Nat) := by
          rw [List.length_map, List.length_cons]
          omega
        have hlt : ((t : Int) % (((n1 :: ns1).map V.int).length : Nat)).toNat < ((n1 :: ns1).map V.int).length := by
          have e1 := Int.emod_nonneg (t : Int) (b := (((n1 :: ns1).map V.int).length : Nat)) (by omega)
          have e2 := Int.emod_lt_of_pos (t : Int) hpos
          omega
        have hat : ∃ z, atI ((n1 :: ns1).map V.int) ((t : Int) % (((n1 :: ns1).map V.int).length : Nat)) = some (.int z) := by
          have e1 := Int.emod_nonneg (t : Int) (b := (((n1 :: ns1).map V.int).length : Nat)) (by omega)
          have q := atI_nat (xs := (n1 :: ns1).map V.int) (j := ((t : Int) % (((n1 :: ns1).map V.int).length : Nat)).toNat) (List.getElem?_eq_getElem hlt)
          rw [Int.toNat_of_nonneg e1] at q
          rw [List.getElem_map] at q
          exact ⟨_, q⟩
        obtain ⟨z, hz⟩ := hat
        refine ⟨_, rfl, p, _, _, _, rfl, rfl, .inl (.inl hp2), rfl, _, rfl, .inl ⟨_, rfl, ?_⟩⟩
        refine ⟨_, rfl, p, _, _, _, rfl, rfl, .inl (.inl hp2), rfl, c, _, rfl, .inl (.inl (.inl hc2)), _, _, rfl, rfl, hpos, ?_⟩
        refine ⟨c, _, _, _, rfl, rfl, .inl (.inl hc2), hz, ?_⟩
        exact ⟨_, _, rfl, oq, hp2, hc2⟩
    · rintro σ' H2 ⟨z, y, rfl, o2, hp2, hc2⟩
      -- if turn < len(pen[0]) and abs(cell) >= 10 ** 18
      have great : ∀ (u : Int), 0 ≤ u → PenAt (upd H2 p (.lst ([V.ref c, .int ((t : Int) + 1), .int r].set 2 (.int (u / (n : Int)))))) p c (m + 1) := fun u hu0 =>
        ⟨ns, t + 1, u / (n : Int), upd_same, (by rw [upd_ne cp]; exact hc2), hl, Int.ediv_nonneg hu0 (by omega), by omega⟩
      have fin : PenAt H2 p c (m + 1) := ⟨ns, t + 1, r, hp2, hc2, hl, h0, by omega⟩
      refine ⟨fun σ' H' => σ' = [some (.ref p), some (.int (n : Int)), none, some (.int (t : Int)), some (.int z), y] ∧ H' = H2, ?_, ?_⟩
      · refine ⟨_, rfl, _, rfl, p, _, _, _, rfl, rfl, .inl (.inl hp2), rfl, c, _, rfl, .inl (.inl (.inl hc2)), _, _, rfl, rfl, _, rfl, ?_⟩
        refine ite2 (fun a1 => ?_) (fun a1 => iteF ⟨rfl, rfl⟩)
        refine ⟨_, rfl, z, rfl, _, _, rfl, rfl, ⟨by decide, by decide, by decide⟩, _, _, rfl, rfl, _, rfl, ?_⟩
        refine ite2 (fun a2 => ?_) (fun a2 => ⟨rfl, rfl⟩)
        have hz : (10 : Int) ^ (18 : Int).toNat ≤ (if z < 0 then -z else z) := of_decide_eq_true a2
        -- rest = 2 * (abs(cell) - 10 ** 18) + int(cell < 0)
        refine ⟨_, rfl, z, rfl, _, _, rfl, rfl, ⟨by decide, by decide, by decide⟩, _, _, rfl, rfl, _, _, rfl, rfl, .inl ⟨by decide, by decide⟩, ?_⟩
        refine ⟨_, rfl, _, _, rfl, rfl, .inr ⟨_, rfl, _, _, rfl, rfl, ?_⟩⟩
        have hu0 : 0 ≤ 2 * ((if z < 0 then -z else z) - (10 : Int) ^ (18 : Int).toNat) + (if decide (z < 0) = true then 1 else 0) := by
          have e : 0 ≤ (if decide (z < 0) = true then (1 : Int) else 0) := by split <;> omega
          omega
        refine ⟨_, rfl, .inl ⟨_, rfl, _, rfl, _, _, rfl, rfl, ⟨n0, by omega⟩, _, rfl, p, _, 2, 2, rfl, rfl, hp2, rfl, ?_⟩⟩
        refine ⟨_, rfl, .inl ⟨_, rfl, _, rfl, _, _, rfl, rfl, n0, ?_⟩⟩
        exact hk _ _ n2 (o2.trans (Only.upd _)) (great _ hu0)
      · rintro σ' H' ⟨rfl, rfl⟩
        -- shuffled, twice
        have e1 : 0 ≤ z % 2147483549 := Int.emod_nonneg _ (by decide)
        have e2 : z % 2147483549 < 2147483549 := Int.emod_lt_of_pos _ (by decide)
        refine ⟨_, rfl, .inl ⟨_, rfl, _, _, rfl, rfl, (by show (0 : Int) < 2147483549; decide), _, rfl, _, _, rfl, rfl, .inl ⟨by decide, by decide⟩, _, _, rfl, rfl, _, _, rfl, rfl, _, _, rfl, rfl, ⟨by decide, by decide, ?_⟩, ?_⟩⟩
        · show _ < 18446744073709551616
          omega
        refine .inl ⟨_, rfl, _, _, rfl, rfl, (by show (0 : Int) < 2147483587; decide), ?_⟩
        have f1 : 0 ≤ (z % 2147483549 + 81150 * (t : Int) + 10912) ^ (3 : Int).toNat % 2147483587 := Int.emod_nonneg _ (by decide)
        have f2 : (z % 2147483549 + 81150 * (t : Int) + 10912) ^ (3 : Int).toNat % 2147483587 < 2147483587 := Int.emod_lt_of_pos _ (by decide)
        refine ⟨_, rfl, _, rfl, _, _, rfl, rfl, .inl ⟨by decide, by decide⟩, _, _, rfl, rfl, _, _, rfl, rfl, .inl ⟨Int.lt_of_lt_of_le (by decide) f1, Int.lt_trans f2 (by decide)⟩, _, rfl, _, _, rfl, rfl, .inl ⟨by decide, by decide⟩, _, rfl, _, _, rfl, rfl, .inr ⟨by omega, by omega⟩, _, _, rfl, rfl, _, _, rfl, rfl, _, _, rfl, rfl, ⟨by decide, by decide, ?_⟩, ?_⟩
        · exact bnd5 f1 f2 (by omega)
        refine .inl ⟨_, rfl, _, _, rfl, rfl, (by show (0 : Int) < 2147483563; decide), ?_⟩
        refine ⟨_, rfl, _, _, rfl, rfl, ⟨by decide, by decide⟩, .inl ⟨_, rfl, _, rfl, _, _, rfl, rfl, n0, ?_⟩⟩
        exact hk _ _ n2 o2 fin

/-! ### _law_pick -/
theorem scPick : FnScope ["pen", "some"] ["pen", "some"] (defScope sPick) := ⟨rfl, rfl, rfl, by decide +kernel, rfl, by decide +kernel, by decide +kernel⟩
theorem ok_pick {f g : Addr} {fd gd : FuncData} (F : Fun K "_law_pick" "_law_pick" sPick f fd) (G : FnOk P w K mg base CX0 1 g gd ["pen", "many"] spDraw) (bG : Binds K gd ["pen", "many"] []) (kG : PySem.W.keepIn K (.ref g) = true) (mG : mg "_law_draw" = some (.ref g)) (ml : mg "len" = none) :
    FnOk P w K mg base CX0 2 f fd ["pen", "some"] spPick := by
  refine F.ok scPick (fun vs H Q E h => ?_) (fun cdv A outer s H vs Q E hr h => ?_)
  · obtain ⟨p, c, a, xs, m, rfl, _⟩ := h
    rfl
  obtain ⟨p, c, a, xs, m, rfl, P0, hm, hap, ha, h1, h2, k⟩ := h
  refine ⟨_, pss_one (ps_ret (pe_ix ix_list (pv 1) (pe_call G hr rfl mG kG bG .nil pass0 (pa_cons (pv 0) (pa_cons (pe_callB call_len_seq rfl ml boot_len (pa_cons (pv 1) pa_nil)) pa_nil))) (fun _ _ => rfl))), ?_⟩
  refine ⟨_, rfl, _, rfl, _, rfl, a, xs, rfl, .inl (.inl (.inl ha)), p, c, xs.length, m, rfl, P0, hm, h2, fun r H' hr' o P1 => ?_⟩
  have hlt : r < xs.length := by omega
  exact ⟨a, xs, _, _, rfl, rfl, .inl (.inl (o a _ hap ha)), atI_nat (List.getElem?_eq_getElem hlt), k _ H' (List.getElem_mem hlt) o P1⟩
end
end K47

/-! Any drawn value; the same with tuples for lists -/
namespace K47
open PySem PySem.W PySem.Spec PySem.Calls PyProof.Rows L2
abbrev sVal : Stmt := top 18
abbrev sInT : Stmt := top 19

/-- what is new -/
def fresh (H H' : Hp) : Hp := fun a => match H a with
  | none => H' a
  | some _ => none
theorem fresh_of {H H' : Hp} {a : Addr} (h : H a = none) : fresh H H' a = H' a := by unfold fresh; rw [h]
theorem fresh_inv {H H' : Hp} {a : Addr} {o : HO} (h : fresh H H' a = some o) : H a = none ∧ H' a = some o := by
  unfold fresh at h
  cases e : H a with
  | none => rw [e] at h; exact ⟨rfl, h⟩
  | some _ => rw [e] at h; cases h
theorem fresh_all {H H' : Hp} : Ext (fresh H H') H' := fun a o h => (fresh_inv h).2
theorem fresh_map {A A' B B' : Hp} (h1 : ∀ a o, A' a = some o → A a = none → B a = none ∧ B' a = some o) : Ext (fresh A A') (fresh B B') := fun a o h => by
  obtain ⟨e1, e2⟩ := fresh_inv h
  obtain ⟨e3, e4⟩ := h1 a o e2 e1
  rw [fresh_of e3]
  exact e4
theorem none_of {p : Addr} {H H' : Hp} {a : Addr} (h : Only p H H') (hp : ∃ o, H' p = some o) (e : H' a = none) : H a = none := by
  cases z : H a with
  | none => rfl
  | some o =>
    by_cases hb : a = p
    · subst hb
      obtain ⟨o', q⟩ := hp
      rw [q] at e
      cases e
    · rw [h a o hb z] at e
      cases e

def cost : Nat → Nat
  | 0 => 2
  | d + 1 => 2 + 2 * cost d
theorem cost2 : ∀ d, 2 ≤ cost d
  | 0 => Nat.le_refl _
  | d + 1 => by unfold cost; omega
def spVal (d : Nat) : Sp := fun vs H Q _ => ∃ (p c : Addr) (m : Nat), vs = [.ref p, .int (d : Int)] ∧ PenAt H p c m ∧ m + cost d ≤ 100000 ∧
  ∀ (x : V) (t : D) (H' : Hp), Rep d (fresh H H') x t → Only p H H' → PenAt H' p c (m + cost d) → Q x H'
def spValG : Nat → Sp
  | 0 => fun _ _ _ _ => False
  | d + 1 => spVal d
section
variable {P : Program} {w : World} {K : PySem.W.Frag} {mg : Str → Option Value} {base : Heap}
theorem scVal : FnScope ["pen", "deep", "way", "some", "lap"] ["pen", "deep"] (defScope sVal) := ⟨rfl, rfl, rfl, by decide +kernel, rfl, by decide +kernel, by decide +kernel⟩
theorem ok_val {k d : Nat} {f g pk : Addr} {fd gd pd : FuncData} (hk : 2 ≤ k) (F : Fun K "_law_any_value" "_law_any_value" sVal f fd) (bF : Binds K fd ["pen", "deep"] []) (R : FnOk P w K mg base CX0 k f fd ["pen", "deep"] (spValG d))
    (mF : mg "_law_any_value" = some (.ref f))
    (G : FnOk P w K mg base CX0 1 g gd ["pen", "many"] spDraw) (bG : Binds K gd ["pen", "many"] []) (kG : PySem.W.keepIn K (.ref g) = true) (mG : mg "_law_draw" = some (.ref g))
    (PK : FnOk P w K mg base CX0 2 pk pd ["pen", "some"] spPick) (bP : Binds K pd ["pen", "some"] []) (kP : PySem.W.keepIn K (.ref pk) = true) (mP : mg "_law_pick" = some (.ref pk))
    (mr : mg "range" = none) (mt : mg "tuple" = none) : FnOk P w K mg base CX0 (k + 1) f fd ["pen", "deep"] (spValG (d + 1)) := by
  refine F.ok scVal (fun vs H Q E h => ?_) (fun cdv A outer s H vs Q E hr h => ?_)
  · obtain ⟨p, c, m, rfl, _⟩ := h
    rfl
  obtain ⟨p, c, m, rfl, P0, hm, q⟩ := h
  have hr1 : Room 1 _ := hr.mono (show 1 ≤ k by omega)
  have hr2 : Room 2 _ := hr.mono hk
  refine ⟨_, pss_cons (ps_set (i := 2) scVal.nd rfl (Or.inl rfl) (pe_call G hr1 rfl mG kG bG .nil pass0 (pa_cons (pv 0) (pa_cons pe_int pa_nil))))
    (pss_cons (ps_if (PW.pt (pw_or (pt_cmpR op_lt (pv 2) pe_int (nomark _)) (pw_or1 (pt_cmpR op_eq (pv 1) pe_int (nomark _)))))
      (pss_one (ps_ret (pe_call PK hr2 rfl mP kP bP .nil pass0 (pa_cons (pv 0) (pa_cons (pe_lst (pa_cons pe_non (pa_cons pe_bl (pa_cons pe_int (pa_cons pe_int (pa_cons (pe_un un_neg pe_int) (pa_cons pe_str (pa_cons pe_str
        (pa_cons (pe_op op_pow pe_int pe_int) (pa_cons (pe_disp (pps_cons pe_str (pe_lst (pa_cons pe_int pa_nil)) pps_nil) rfl rfl (by decide) (by decide)) pa_nil)))))))))) pa_nil))))) pss_nil)
    (pss_cons (ps_setLc (i := 3) (own := [("lap", 4)]) rfl scVal.nd rfl rfl (sw_true rfl rfl rfl rfl) (pi_range1 rfl mr (pa_cons (pe_call G hr1 rfl mG kG bG .nil pass0 (pa_cons (pv 0) (pa_cons pe_int pa_nil))) pa_nil))
      (blkOk_by (N := ["pen", "deep", "way", "some", "lap"]) (sc := defScope sVal) (by decide +kernel)) (fun _ _ _ _ _ => pg_name (i := 4) scVal.nd rfl (Or.inl rfl)) (fun _ _ _ _ _ => pts_nil)
      (fun _ _ _ _ _ => pe_call R hr rfl mF F.kp bF .nil pass0 (pa_cons (pv 0) (pa_cons (pe_op op_sub (pv 1) pe_int) pa_nil))))
    (pss_one (ps_ret (pe_ifExp (pt_cmpR op_lt (pv 2) pe_int (nomark _)) (pv 3) (pe_tupleOf rfl mt (pv 3)))))))
  , ?_⟩
  have c2 := cost2 d
  refine ⟨_, rfl, p, c, 8, m, rfl, P0, by omega, by decide, fun r H1 _ o1 P1 => ?_⟩
  have hp1 : ∃ o, H1 p = some o := let ⟨_, _, _, e, _⟩ := P1.ex; ⟨_, e⟩
  refine ⟨_, rfl, _, _, rfl, rfl, _, rfl, ?_⟩
  refine ite2 (fun a1 => iteT ?p1) (fun a1 => ⟨_, rfl, rfl, _, rfl, ite2 (fun a2 => ?p2) (fun a2 => ?n1)⟩)
  case p1 | p2 =>
    refine ⟨_, rfl, _, rfl, _, _, rfl, rfl, ⟨by decide, by decide, by decide⟩, fun pd hpd => ⟨(by show 1 ≤ sizeLine; decide), fun l hl => ⟨?_, [(Sum.inr "a", .ref l)], rfl, (by show 1 ≤ 15; decide), ?_⟩⟩⟩
    · have e : pd ≠ l := fun e => by
        rw [← e, upd_same] at hl
        cases hl
      rw [upd_ne e, upd_same]
    · have e : l ≠ pd := fun e => by
        rw [e, upd_same] at hl
        cases hl
      have hl1 : H1 l = none := by
        rw [upd_ne e] at hl
        exact hl
      generalize hH2 : upd (upd (upd H1 pd (.dK [])) l (.lst [.int 1])) pd (.dK (mergeK [] [(Sum.inr "a", V.ref l)])) = H2
      have hd2 : H2 pd = some (.dK [((Sum.inr ("a" : Str) : Key), V.ref l)]) := by
        rw [← hH2, upd_same]
        rfl
      have hl2 : H2 l = some (.lst [.int 1]) := by rw [← hH2, upd_ne e, upd_same]
      have o2 : Only p H1 H2 := by
        rw [← hH2]
        intro b o hb eo
        rw [upd_ne (ne_of_none eo hpd), upd_ne (ne_of_none eo hl1), upd_ne (ne_of_none eo hpd)]
        exact eo
      have x2 : Ext H1 H2 := by
        rw [← hH2]
        intro b o eo
        rw [upd_ne (ne_of_none eo hpd), upd_ne (ne_of_none eo hl1), upd_ne (ne_of_none eo hpd)]
        exact eo
      refine ⟨(by show 9 ≤ sizeLine; decide), fun pl hpl => ?_⟩
      have hp2 : ∃ o, H2 p = some o := let ⟨o, z⟩ := hp1; ⟨o, x2 _ _ z⟩
      have npl : pl ≠ p := fun e => by
        obtain ⟨o, z⟩ := hp2
        rw [e, z] at hpl
        cases hpl
      refine ⟨p, c, pl, _, m + 1, rfl, (P1.ext x2).ext (ext_new hpl _), by omega, npl, upd_same, (by show 0 < 9; decide), (by show 9 < 1000; decide), fun x H' hx o3 P3 => ?_⟩
      have ha : Only p H H2 := o1.trans o2
      have hb : Only p H2 H' := (Only.new hpl _).trans o3
      have np : ∀ {b o}, H b = none → H2 b = some o → H1 b = none → b ≠ p := fun _ _ h1 => fun e => by
        obtain ⟨o, z⟩ := hp1
        rw [e, z] at h1
        cases h1
      have h0d : H pd = none := none_of o1 hp1 hpd
      have h0l : H l = none := none_of o1 hp1 hl1
      have fin : ∀ t, Leaf (fresh H H') x t → Q x H' := fun t L => q x t H' (L.rep d) (ha.trans hb) (P3.mono (by omega))
      simp only [List.mem_cons, List.not_mem_nil, or_false] at hx
      rcases hx with e | e | e | e | e | e | e | e | e
      · subst e
        exact fin .non .non
      · subst e
        exact fin (.bl true) (.bl true)
      · subst e
        exact fin (.int 0) (.int 0 (by decide +kernel) (by decide +kernel))
      · subst e
        exact fin (.int 1) (.int 1 (by decide +kernel) (by decide +kernel))
      · subst e
        exact fin (.int (-5)) (.int (-5) (by decide +kernel) (by decide +kernel))
      · subst e
        exact fin (.str "word") (.str "word" (by decide +kernel))
      · subst e
        exact fin (.str "") (.str "" (by decide +kernel))
      · subst e
        exact fin (.int (10 ^ 30)) (.int (10 ^ 30) (by decide +kernel) (by decide +kernel))
      · subst e
        refine fin (.dct pd l) (.dct ?_ ?_)
        · rw [fresh_of h0d]
          exact hb _ _ (np h0d hd2 hpd) hd2
        · rw [fresh_of h0l]
          exact hb _ _ (np h0l hl2 hl1) hl2
  case n1 =>
    cases d with
    | zero => exact absurd rfl a2
    | succ d' =>
      have hc : cost (d' + 1) = 2 + 2 * cost d' := rfl
      refine ⟨_, rfl, p, c, 3, m + 1, rfl, P1, by omega, by decide, fun r3 H2 hr3 o2 P2 => ⟨_, rfl, by omega, by omega, fun D hD => ?_⟩⟩
      have hp2 : ∃ o, H2 p = some o := let ⟨_, _, _, e, _⟩ := P2.ex; ⟨_, e⟩
      have npD : D ≠ p := fun e => by
        obtain ⟨o, z⟩ := hp2
        rw [e, z] at hD
        cases hD
      have ncD : c ≠ D := fun e => by
        obtain ⟨_, _, _, _, z, _⟩ := P2
        rw [e, hD] at z
        cases z
      have hD0 : H D = none := none_of (o1.trans o2) hp2 hD
      obtain ⟨HD, hHD⟩ : ∃ HD, upd H2 D (.lst []) = HD := ⟨_, rfl⟩
      have oD : Only p H2 HD := by rw [← hHD]; exact Only.new hD _
      have xD : Ext H2 HD := by rw [← hHD]; exact ext_new hD _
      have e3 : ((r3 : Nat) : Int).toNat = r3 := Int.toNat_natCast r3
      rw [e3]
      refine lc_range (lo := 0) (n := r3) (fun i H3 => (∀ b o, b ≠ p → b ≠ D → HD b = some o → H3 b = some o) ∧ PenAt H3 p c (m + 2 + i * cost d') ∧ ∃ vs ds, H3 D = some (.lst vs) ∧ vs.length = i ∧ Paired (Rep d' (fresh HD H3)) vs ds) ?_ ?_ ?_
      · rw [hHD]
        exact ⟨fun b o _ _ h => h, (P2.ext xD).mono (by omega), [], [], by rw [← hHD, upd_same], rfl, .nil⟩
      · rintro i H3 hi ⟨o3, P3, vs, ds, hv, hl, pr⟩
        have hic : i * cost d' + cost d' ≤ 2 * cost d' := by
          have z : (i + 1) * cost d' ≤ 2 * cost d' := Nat.mul_le_mul_right _ (by omega)
          rw [Nat.succ_mul] at z
          exact z
        refine ⟨rfl, tyes ?_⟩
        refine ⟨_, rfl, _, rfl, _, _, rfl, rfl, p, c, m + 2 + i * cost d', ?_, P3, by omega, fun x t H4 rp o4 P4 => ?_⟩
        · have e : (((d' + 1 : Nat) : Int) - 1) = (d' : Int) := by omega
          rw [← e]
          rfl
        have h4 : H4 D = some (.lst vs) := o4 D _ npD hv
        have hp3 : ∃ o, H3 p = some o := let ⟨_, _, _, e, _⟩ := P3.ex; ⟨_, e⟩
        refine ⟨vs, h4, small1000 (by omega), ?_, ?_, ?_⟩
        · intro b o hb hbD e
          rw [upd_ne hbD]
          exact o4 b o hb (o3 b o hb hbD e)
        · obtain ⟨ns, t', r', g1, g2, g3, g4, g5⟩ := P4
          refine ⟨ns, t', r', ?_, ?_, g3, g4, by rw [Nat.succ_mul]; omega⟩
          · rw [upd_ne npD.symm]
            exact g1
          · rw [upd_ne ncD]
            exact g2
        · refine ⟨vs ++ [x], ds ++ [t], upd_same, by rw [List.length_append, hl]; rfl, Paired.snoc (Paired.mapP pr fun a b hab => Rep.ext (fresh_map fun c' o h1 h2 => ⟨h2, ?_⟩) d' hab) (Rep.ext (fresh_map fun c' o h1 h2 => ?_) d' rp)⟩
          · have n1 : c' ≠ D := fun e => by
              rw [e, ← hHD, upd_same] at h2
              cases h2
            have n2 : c' ≠ p := fun e => by
              obtain ⟨o, z⟩ := hp2
              rw [e, xD _ _ z] at h2
              cases h2
            rw [upd_ne n1]
            exact o4 c' o n2 h1
          · have n1 : c' ≠ D := fun e => by
              rw [e, hv] at h2
              cases h2
            have n2 : c' ≠ p := fun e => by
              obtain ⟨o, z⟩ := hp3
              rw [e, z] at h2
              cases h2
            refine ⟨?_, by rw [upd_ne n1]; exact h1⟩
            cases z : HD c' with
            | none => rfl
            | some o' =>
              rw [o3 c' o' n2 n1 z] at h2
              cases h2
      · rintro H3 ⟨o3, P3, vs, ds, hv, hl, pr⟩
        have hr3c : r3 * cost d' ≤ 2 * cost d' := Nat.mul_le_mul_right _ (by omega)
        have P3' : PenAt H3 p c (m + cost (d' + 1)) := P3.mono (by omega)
        have oall : Only p H H3 := fun b o hb e => by
          have e2 := (o1.trans o2) b o hb e
          exact o3 b o hb (fun z => by rw [z, hD] at e2; cases e2) (xD _ _ e2)
        have pr' : Paired (Rep d' (fresh H H3)) vs ds := Paired.mapP pr fun a b hab => Rep.ext (fresh_map fun c' o h1 h2 => ⟨?_, h1⟩) d' hab
        · refine ⟨_, rfl, _, _, rfl, rfl, _, rfl, ?_⟩
          refine ite2 (fun a3 => ?_) (fun a3 => ?_)
          · refine ⟨_, rfl, q _ (.lst ds) H3 (.inr (.inl ⟨D, vs, ds, rfl, rfl, by rw [fresh_of hD0]; exact hv, by omega, pr'⟩)) oall P3'⟩
          · refine ⟨_, rfl, .inl ⟨D, vs, rfl, .inl (.inl hv), fun t ht => ?_⟩⟩
            have x4 := ext_new ht (.tup vs)
            have hp3 : ∃ o, H3 p = some o := let ⟨_, _, _, e, _⟩ := P3.ex; ⟨_, e⟩
            have h0t : H t = none := none_of oall hp3 ht
            refine q _ (.tup ds) _ (.inr (.inr ⟨t, vs, ds, rfl, rfl, by rw [fresh_of h0t, upd_same], by omega, Paired.mapP pr' fun a b hab => Rep.ext (fresh_map fun c' o h1 h2 => ⟨h2, x4 _ _ h1⟩) d' hab⟩)) (oall.trans (Only.ext x4)) (P3'.ext x4)
        · exact none_of (o1.trans (o2.trans oD)) (let ⟨o, z⟩ := hp2; ⟨o, xD _ _ z⟩) h2
end
end K47

/-! fixed and _law_in_tuples: tuples for lists, all the way in -/
namespace K47
open PySem PySem.W PySem.Spec PySem.Calls PyProof.Rows L2
abbrev sFix : Stmt := top 1

/-- what was there in G, or is new since H -/
def sel (G H H' : Hp) : Hp := fun a => match G a, H a with
  | none, some _ => none
  | _, _ => H' a
theorem sel_of {G H H' : Hp} {a : Addr} (h : G a ≠ none ∨ H a = none) : sel G H H' a = H' a := by
  unfold sel
  cases e : G a with
  | some _ => rfl
  | none =>
    rcases h with h | h
    · exact absurd e h
    · rw [h]
theorem sel_inv {G H H' : Hp} {a : Addr} {o : HO} (h : sel G H H' a = some o) : H' a = some o ∧ (G a ≠ none ∨ H a = none) := by
  unfold sel at h
  cases e : G a with
  | some _ => rw [e] at h; exact ⟨h, .inl (by simp)⟩
  | none =>
    rw [e] at h
    cases e2 : H a with
    | none => rw [e2] at h; exact ⟨h, .inr rfl⟩
    | some _ => rw [e2] at h; cases h
theorem sel_map {G H H' J J' : Hp} (h : ∀ a o, H' a = some o → (G a ≠ none ∨ H a = none) → (G a ≠ none ∨ J a = none) ∧ J' a = some o) : Ext (sel G H H') (sel G J J') := fun a o e => by
  obtain ⟨h1, h2⟩ := sel_inv e
  obtain ⟨h3, h4⟩ := h a o h1 h2
  rw [sel_of h3]
  exact h4
theorem sel_self {H H' : Hp} : Ext (sel H H H') H' := fun a o e => (sel_inv e).1

def spFix (n : Nat) : Sp := fun vs H Q _ => ∃ (x : V) (t : D) (G : Hp), vs = [x] ∧ Ext G H ∧ Rep n G x t ∧ ∀ (y : V) (H' : Hp), Ext H H' → TRep n (sel G H H') y (fixD n t) → Q y H'
def spFixG : Nat → Sp
  | 0 => fun _ _ _ _ => False
  | n + 1 => spFix n

/-! ### isinstance(x, (list, tuple)) -/
def tyName : D → String
  | .non => "NoneType" | .bl _ => "bool" | .int _ => "int" | .str _ => "str" | .dct _ _ => "dict" | .lst _ => "list" | .tup _ => "tuple"
theorem clsLT : Paired ClsV [V.ty "list", V.ty "tuple"] [Value.type "list", Value.type "tuple"] := .cons (.ty _) (.cons (.ty _) .nil)
theorem Leaf.ty {K : PySem.W.Frag} {H : Hp} {x : V} {t : D} (h : Leaf H x t) : ∃ T, TyX K H x (.type T) ∧ PySem.W.kitAny K (.type T) [Value.type "list", Value.type "tuple"] = some false := by
  cases h with
  | non => exact ⟨"NoneType", .base .non, kitAny_cons (b := false) (kit_ty (by decide +kernel)) (fun _ => kitAny_cons (b := false) (kit_ty (by decide +kernel)) (fun _ => kitAny_nil) (by simp)) (by simp)⟩
  | bl b => exact ⟨"bool", .base (.bl b), kitAny_cons (b := false) (kit_ty (by decide +kernel)) (fun _ => kitAny_cons (b := false) (kit_ty (by decide +kernel)) (fun _ => kitAny_nil) (by simp)) (by simp)⟩
  | int i _ _ => exact ⟨"int", .base (.int i), kitAny_cons (b := false) (kit_ty (by decide +kernel)) (fun _ => kitAny_cons (b := false) (kit_ty (by decide +kernel)) (fun _ => kitAny_nil) (by simp)) (by simp)⟩
  | str x _ => exact ⟨"str", .base (.str x), kitAny_cons (b := false) (kit_ty (by decide +kernel)) (fun _ => kitAny_cons (b := false) (kit_ty (by decide +kernel)) (fun _ => kitAny_nil) (by simp)) (by simp)⟩
  | dct h _ => exact ⟨"dict", .base (.dK h), kitAny_cons (b := false) (kit_ty (by decide +kernel)) (fun _ => kitAny_cons (b := false) (kit_ty (by decide +kernel)) (fun _ => kitAny_nil) (by simp)) (by simp)⟩
theorem kitL {K : PySem.W.Frag} : PySem.W.kitAny K (.type "list") [Value.type "list", Value.type "tuple"] = some true := kitAny_cons (b := true) (kit_ty (by decide +kernel)) (fun e => nomatch e) (fun _ => rfl)
theorem kitT {K : PySem.W.Frag} : PySem.W.kitAny K (.type "tuple") [Value.type "list", Value.type "tuple"] = some true := kitAny_cons (b := false) (kit_ty (by decide +kernel)) (fun _ => kitAny_cons (b := true) (kit_ty (by decide +kernel)) (fun e => nomatch e) (fun _ => rfl)) (fun e => nomatch e)

section
variable {P : Program} {w : World} {K : PySem.W.Frag} {mg : Str → Option Value} {base : Heap}
/-- the loop's end, for both -/
theorem fix_end {n : Nat} {G H H3 : Hp} {D : Addr} {vs : List V} {ds : List K47.D} (hl : vs.length ≤ 4) (x : Ext H H3) (hD : H3 D = some (.lst vs)) (pr : Paired (TRep n (sel G H H3)) vs ds) {t : Addr} (ht : H3 t = none) (xG : Ext G H) :
    Ext H (upd H3 t (.tup vs)) ∧ TRep (n + 1) (sel G H (upd H3 t (.tup vs))) (.ref t) (.tup ds) := by
  have x4 := ext_new ht (.tup vs)
  have h0 : H t = none := by
    cases z : H t with
    | none => rfl
    | some o => rw [x _ _ z] at ht; cases ht
  refine ⟨Ext.tr x x4, .inr ⟨t, vs, ds, rfl, rfl, ?_, hl, Paired.mapP pr fun a b h => TRep.ext (sel_map fun c o h1 h2 => ⟨h2, x4 _ _ h1⟩) n h⟩⟩
  rw [sel_of (.inr h0), upd_same]
/-- one turn -/
theorem fix_turn {n i : Nat} {G H HD H2 H4 : Hp} {D : Addr} {vs : List V} {ds : List K47.D} {y : V} {t : K47.D} (xG : Ext G H) (xD : Ext H HD) (hD : H D = none) (hDD : ∃ o, HD D = some o) (o2 : ∀ b o, b ≠ D → HD b = some o → H2 b = some o) (hv : H2 D = some (.lst vs))
    (hl : vs.length = i) (pr : Paired (TRep n (sel G HD H2)) vs ds) (x4 : Ext H2 H4) (ty : TRep n (sel G H2 H4) y t) :
    (∀ b o, b ≠ D → HD b = some o → upd H4 D (.lst (vs ++ [y])) b = some o) ∧ Paired (TRep n (sel G HD (upd H4 D (.lst (vs ++ [y]))))) (vs ++ [y]) (ds ++ [t]) := by
  have gD : G D = none := by
    cases z : G D with
    | none => rfl
    | some o => rw [xG _ _ z] at hD; cases hD
  refine ⟨fun b o hb e => by rw [upd_ne hb]; exact x4 _ _ (o2 b o hb e), Paired.snoc (Paired.mapP pr fun a b h => TRep.ext (sel_map fun c o h1 h2 => ⟨h2, ?_⟩) n h) (TRep.ext (sel_map fun c o h1 h2 => ?_) n ty)⟩
  · have n1 : c ≠ D := fun e => by
      subst e
      rcases h2 with z | z
      · exact z gD
      · obtain ⟨o', z'⟩ := hDD
        rw [z'] at z
        cases z
    rw [upd_ne n1]
    exact x4 _ _ h1
  · have n1 : c ≠ D := fun e => by
      subst e
      rcases h2 with z | z
      · exact z gD
      · rw [hv] at z
        cases z
    rw [upd_ne n1]
    refine ⟨?_, h1⟩
    rcases h2 with z | z
    · exact .inl z
    · refine .inr ?_
      cases z2 : HD c with
      | none => rfl
      | some o' => rw [o2 c o' n1 z2] at z; cases z
theorem rep_cases {n : Nat} {G : Hp} {x : V} {t : D} (h : Rep n G x t) : Leaf G x t ∨
    (∃ n' a vs ds, n = n' + 1 ∧ x = .ref a ∧ t = .lst ds ∧ G a = some (.lst vs) ∧ vs.length ≤ 4 ∧ Paired (Rep n' G) vs ds) ∨ ∃ n' a vs ds, n = n' + 1 ∧ x = .ref a ∧ t = .tup ds ∧ G a = some (.tup vs) ∧ vs.length ≤ 4 ∧ Paired (Rep n' G) vs ds := by
  cases n with
  | zero => exact .inl h
  | succ n =>
    rcases h with h | ⟨a, vs, ds, h1, h2, h3, h4, h5⟩ | ⟨a, vs, ds, h1, h2, h3, h4, h5⟩
    · exact .inl h
    · exact .inr (.inl ⟨n, a, vs, ds, rfl, h1, h2, h3, h4, h5⟩)
    · exact .inr (.inr ⟨n, a, vs, ds, rfl, h1, h2, h3, h4, h5⟩)
theorem paired_get {F : V → D → Prop} : ∀ {vs : List V} {ds : List D} {i : Nat} {x : V}, Paired F vs ds → vs[i]? = some x → ∃ t, ds[i]? = some t ∧ F x t
  | _, _, _, _, .nil, h => by simp at h
  | _, _, 0, _, .cons q _, h => ⟨_, rfl, by simp at h; subst h; exact q⟩
  | _, _, i + 1, _, .cons _ qs, h => by
    obtain ⟨t, h1, h2⟩ := paired_get (i := i) qs (by simpa using h)
    exact ⟨t, by simpa using h1, h2⟩
theorem leaf_end {n : Nat} {G H : Hp} {x : V} {t : D} (xG : Ext G H) (L : Leaf G x t) {tp : Addr} {o : HO} (ht : H tp = none) : TRep n (sel G H (upd H tp o)) x (fixD n t) := by
  rw [L.fix n]
  refine (L.ext fun a o e => ?_).trep n
  rw [sel_of (.inl (by rw [e]; simp)), upd_ne (ne_of_none (xG _ _ e) ht)]
  exact xG _ _ e

theorem scFix : FnScope ["value", "part"] ["value"] (defScope sFix) := ⟨rfl, rfl, rfl, by decide +kernel, rfl, by decide +kernel, by decide +kernel⟩
theorem ok_fix {k n : Nat} {f : Addr} {fd : FuncData} (F : Fun K "fixed" "fixed" sFix f fd) (bF : Binds K fd ["value"] []) (R : FnOk P w K mg base CX0 k f fd ["value"] (spFixG n)) (mF : mg "fixed" = some (.ref f))
    (mi : mg "isinstance" = none) (ml : mg "list" = none) (mt : mg "tuple" = none) : FnOk P w K mg base CX0 (k + 1) f fd ["value"] (spFixG (n + 1)) := by
  refine F.ok scFix (fun vs H Q E h => ?_) (fun cdv A outer s H vs Q E hr h => ?_)
  · obtain ⟨x, t, G, rfl, _⟩ := h
    rfl
  obtain ⟨x, t, G, rfl, xG, rp, q⟩ := h
  rcases rep_cases rp with L | ⟨n', a, vs, ds, rfl, rfl, rfl, ha, hl, pr⟩ | ⟨n', a, vs, ds, rfl, rfl, rfl, ha, hl, pr⟩
  · refine ⟨_, pss_cons (ps_if (pt_val (pe_callB call_isiT rfl mi rfl (pa_cons (pv 0) (pa_cons (pe_tup (pa_cons (pe_bltn (u := .type "list") (v := .ty "list") rfl ml rfl rfl) (pa_cons (pe_bltn (u := .type "tuple") (v := .ty "tuple") rfl mt rfl rfl) pa_nil))) pa_nil)))) (pss_never) pss_nil) (pss_one (ps_ret (pv 0))), ?_⟩
    refine ⟨_, rfl, (by show 2 ≤ sizeLine; decide), fun tp htp => ?_⟩
    obtain ⟨T, ty, kt⟩ := Leaf.ty (K := K) ((L.ext xG).ext (ext_new htp (.tup [V.ty "list", V.ty "tuple"])))
    refine ⟨_, tp, _, .type T, _, false, rfl, upd_same, clsLT, ty, kt, _, rfl, iteF ?_⟩
    exact ⟨_, rfl, q _ _ (ext_new htp _) (leaf_end xG L htp)⟩
  · refine ⟨_, pss_cons (ps_if (pt_val (pe_callB call_isiT rfl mi rfl (pa_cons (pv 0) (pa_cons (pe_tup (pa_cons (pe_bltn (u := .type "list") (v := .ty "list") rfl ml rfl rfl) (pa_cons (pe_bltn (u := .type "tuple") (v := .ty "tuple") rfl mt rfl rfl) pa_nil))) pa_nil)))) (pss_one (ps_ret (pe_tupleOf rfl mt (pe_lc (own := [("part", 1)]) rfl scFix.nd (pi_list (pv 0)) (blkOk_by (N := ["value", "part"]) (sc := defScope sFix) (by decide +kernel)) (fun _ _ _ _ _ => pg_name (i := 1) scFix.nd rfl (Or.inl rfl)) (fun _ _ _ _ _ => pts_nil) (fun _ _ _ _ _ => pe_call R hr rfl mF F.kp bF .nil pass0 (pa_cons (pv 1) pa_nil)))))) pss_nil) (pss_one (ps_ret (pv 0))), ?_⟩
    have hta : ∀ {tp : Addr}, H tp = none → a ≠ tp := fun h => ne_of_none (xG _ _ ha) h
    refine ⟨_, rfl, (by show 2 ≤ sizeLine; decide), fun tp htp => ⟨_, tp, _, .type "list", _, true, rfl, upd_same, clsLT, ?_, kitL, _, rfl, iteT ?_⟩⟩
    · have ha1 : upd H tp (.tup [V.ty "list", V.ty "tuple"]) a = some (.lst vs) := by
        rw [upd_ne (hta htp)]
        exact xG _ _ ha
      exact TyX.base (.lst ha1)
    obtain ⟨H1, hH1⟩ : ∃ H1, upd H tp (.tup [V.ty "list", V.ty "tuple"]) = H1 := ⟨_, rfl⟩
    have x1 : Ext H H1 := by rw [← hH1]; exact ext_new htp _
    have ha1 : H1 a = some (.lst vs) := x1 _ _ (xG _ _ ha)
    refine ⟨_, rfl, _, rfl, ⟨_, .inl (.inl (by rw [hH1]; exact ha1))⟩, fun D hD => ?_⟩
    rw [hH1] at hD
    have hD0 : H D = none := by
      cases z : H D with
      | none => rfl
      | some o => rw [x1 _ _ z] at hD; cases hD
    obtain ⟨HD, hHD⟩ : ∃ HD, upd H1 D (.lst []) = HD := ⟨_, rfl⟩
    have xD : Ext H HD := by rw [← hHD]; exact Ext.tr x1 (ext_new hD _)
    have hDD : HD D = some (.lst []) := by rw [← hHD, upd_same]
    have aD : a ≠ D := ne_of_none ha1 hD
    refine lc_list (K := K) (a := a) (xs := vs) (fun i H2 => (∀ b o, b ≠ D → HD b = some o → H2 b = some o) ∧ ∃ vs', H2 D = some (.lst vs') ∧ vs'.length = i ∧ Paired (TRep n' (sel G HD H2)) vs' ((ds.take i).map (fixD n'))) ?_ (fun i H2 _ h => .inl (.inl (h.1 a _ aD (by rw [← hHD, upd_ne aD]; exact ha1)))) ?_ ?_
    · rw [hH1, hHD]
      exact ⟨fun b o _ h => h, [], hDD, rfl, .nil⟩
    · rintro i x H2 hi ⟨o2, vs', hv, hl', pr'⟩
      obtain ⟨t, ht, rt⟩ := paired_get pr hi
      have hil : i < vs.length := (List.getElem?_eq_some_iff.mp hi).1
      have xG2 : Ext G H2 := fun c o e => o2 c o (fun z => by rw [z] at e; rw [xG _ _ e] at hD0; cases hD0) (xD _ _ (xG _ _ e))
      refine ⟨rfl, tyes ?_⟩
      refine ⟨_, rfl, x, t, G, rfl, xG2, rt, fun y H4 x4 ty => ?_⟩
      obtain ⟨z1, z2⟩ := fix_turn xG xD hD0 ⟨_, hDD⟩ o2 hv hl' pr' x4 ty
      refine ⟨vs', x4 _ _ hv, small1000 (by omega), z1, vs' ++ [y], upd_same, by rw [List.length_append, hl']; rfl, ?_⟩
      rw [List.take_succ, ht, List.map_append]
      exact z2
    · rintro H3 ⟨o3, vs', hv, hl', pr'⟩
      have hds : ds.take vs.length = ds := by rw [Paired.length pr]; exact List.take_length
      rw [hds] at pr'
      have x3 : Ext H H3 := fun c o e => o3 c o (fun z => by rw [z, hD0] at e; cases e) (xD _ _ e)
      have pr3 : Paired (TRep n' (sel G H H3)) vs' (ds.map (fixD n')) := Paired.mapP pr' fun p q h => TRep.ext (sel_map fun c o h1 h2 => ⟨?_, h1⟩) n' h
      · refine .inl ⟨D, vs', rfl, .inl (.inl hv), fun u hu => ?_⟩
        obtain ⟨e1, e2⟩ := fix_end (by omega) x3 hv pr3 hu xG
        exact q _ _ e1 e2
      · rcases h2 with z | z
        · exact .inl z
        · refine .inr ?_
          cases z2 : H c with
          | none => rfl
          | some o' => rw [xD _ _ z2] at z; cases z
  · refine ⟨_, pss_cons (ps_if (pt_val (pe_callB call_isiT rfl mi rfl (pa_cons (pv 0) (pa_cons (pe_tup (pa_cons (pe_bltn (u := .type "list") (v := .ty "list") rfl ml rfl rfl) (pa_cons (pe_bltn (u := .type "tuple") (v := .ty "tuple") rfl mt rfl rfl) pa_nil))) pa_nil)))) (pss_one (ps_ret (pe_tupleOf rfl mt (pe_lc (own := [("part", 1)]) rfl scFix.nd (pi_tup (pv 0)) (blkOk_by (N := ["value", "part"]) (sc := defScope sFix) (by decide +kernel)) (fun _ _ _ _ _ => pg_name (i := 1) scFix.nd rfl (Or.inl rfl)) (fun _ _ _ _ _ => pts_nil) (fun _ _ _ _ _ => pe_call R hr rfl mF F.kp bF .nil pass0 (pa_cons (pv 1) pa_nil)))))) pss_nil) (pss_one (ps_ret (pv 0))), ?_⟩
    have hta : ∀ {tp : Addr}, H tp = none → a ≠ tp := fun h => ne_of_none (xG _ _ ha) h
    refine ⟨_, rfl, (by show 2 ≤ sizeLine; decide), fun tp htp => ⟨_, tp, _, .type "tuple", _, true, rfl, upd_same, clsLT, ?_, kitT, _, rfl, iteT ?_⟩⟩
    · have ha1 : upd H tp (.tup [V.ty "list", V.ty "tuple"]) a = some (.tup vs) := by
        rw [upd_ne (hta htp)]
        exact xG _ _ ha
      exact TyX.base (.tup ha1)
    obtain ⟨H1, hH1⟩ : ∃ H1, upd H tp (.tup [V.ty "list", V.ty "tuple"]) = H1 := ⟨_, rfl⟩
    have x1 : Ext H H1 := by rw [← hH1]; exact ext_new htp _
    have ha1 : H1 a = some (.tup vs) := x1 _ _ (xG _ _ ha)
    refine ⟨_, rfl, _, rfl, ⟨_, .inl (.inl (by rw [hH1]; exact ha1))⟩, fun D hD => ?_⟩
    rw [hH1] at hD
    have hD0 : H D = none := by
      cases z : H D with
      | none => rfl
      | some o => rw [x1 _ _ z] at hD; cases hD
    obtain ⟨HD, hHD⟩ : ∃ HD, upd H1 D (.lst []) = HD := ⟨_, rfl⟩
    have xD : Ext H HD := by rw [← hHD]; exact Ext.tr x1 (ext_new hD _)
    have hDD : HD D = some (.lst []) := by rw [← hHD, upd_same]
    have aD : a ≠ D := ne_of_none ha1 hD
    refine lc_tup (K := K) (a := a) (xs := vs) (fun i H2 => (∀ b o, b ≠ D → HD b = some o → H2 b = some o) ∧ ∃ vs', H2 D = some (.lst vs') ∧ vs'.length = i ∧ Paired (TRep n' (sel G HD H2)) vs' ((ds.take i).map (fixD n'))) ?_ (fun i H2 _ h => .inl (.inl (h.1 a _ aD (by rw [← hHD, upd_ne aD]; exact ha1)))) ?_ ?_
    · rw [hH1, hHD]
      exact ⟨fun b o _ h => h, [], hDD, rfl, .nil⟩
    · rintro i x H2 hi ⟨o2, vs', hv, hl', pr'⟩
      obtain ⟨t, ht, rt⟩ := paired_get pr hi
      have hil : i < vs.length := (List.getElem?_eq_some_iff.mp hi).1
      have xG2 : Ext G H2 := fun c o e => o2 c o (fun z => by rw [z] at e; rw [xG _ _ e] at hD0; cases hD0) (xD _ _ (xG _ _ e))
      refine ⟨rfl, tyes ?_⟩
      refine ⟨_, rfl, x, t, G, rfl, xG2, rt, fun y H4 x4 ty => ?_⟩
      obtain ⟨z1, z2⟩ := fix_turn xG xD hD0 ⟨_, hDD⟩ o2 hv hl' pr' x4 ty
      refine ⟨vs', x4 _ _ hv, small1000 (by omega), z1, vs' ++ [y], upd_same, by rw [List.length_append, hl']; rfl, ?_⟩
      rw [List.take_succ, ht, List.map_append]
      exact z2
    · rintro H3 ⟨o3, vs', hv, hl', pr'⟩
      have hds : ds.take vs.length = ds := by rw [Paired.length pr]; exact List.take_length
      rw [hds] at pr'
      have x3 : Ext H H3 := fun c o e => o3 c o (fun z => by rw [z, hD0] at e; cases e) (xD _ _ e)
      have pr3 : Paired (TRep n' (sel G H H3)) vs' (ds.map (fixD n')) := Paired.mapP pr' fun p q h => TRep.ext (sel_map fun c o h1 h2 => ⟨?_, h1⟩) n' h
      · refine .inl ⟨D, vs', rfl, .inl (.inl hv), fun u hu => ?_⟩
        obtain ⟨e1, e2⟩ := fix_end (by omega) x3 hv pr3 hu xG
        exact q _ _ e1 e2
      · rcases h2 with z | z
        · exact .inl z
        · refine .inr ?_
          cases z2 : H c with
          | none => rfl
          | some o' => rw [xD _ _ z2] at z; cases z

/-- never reckoned -/
theorem pe_no {X : Cx} {e : Expr} : PE X e (fun _ _ _ => False) := ⟨fun _ _ _ _ _ _ h => h.elim⟩

theorem scInT : FnScope ["told", "part"] ["told"] (defScope sInT) := ⟨rfl, rfl, rfl, by decide +kernel, rfl, by decide +kernel, by decide +kernel⟩
theorem ok_inT {k n : Nat} {f : Addr} {fd : FuncData} (F : Fun K "_law_in_tuples" "_law_in_tuples" sInT f fd) (bF : Binds K fd ["told"] []) (R : FnOk P w K mg base CX0 k f fd ["told"] (spFixG n)) (mF : mg "_law_in_tuples" = some (.ref f))
    (mi : mg "isinstance" = none) (ml : mg "list" = none) (mt : mg "tuple" = none) : FnOk P w K mg base CX0 (k + 1) f fd ["told"] (spFixG (n + 1)) := by
  refine F.ok scInT (fun vs H Q E h => ?_) (fun cdv A outer s H vs Q E hr h => ?_)
  · obtain ⟨x, t, G, rfl, _⟩ := h
    rfl
  obtain ⟨x, t, G, rfl, xG, rp, q⟩ := h
  rcases rep_cases rp with L | ⟨n', a, vs, ds, rfl, rfl, rfl, ha, hl, pr⟩ | ⟨n', a, vs, ds, rfl, rfl, rfl, ha, hl, pr⟩
  · refine ⟨_, pss_one (ps_ret (pe_ifExp (pt_val (pe_callB call_isiT rfl mi rfl (pa_cons (pv 0) (pa_cons (pe_tup (pa_cons (pe_bltn (u := .type "list") (v := .ty "list") rfl ml rfl rfl) (pa_cons (pe_bltn (u := .type "tuple") (v := .ty "tuple") rfl mt rfl rfl) pa_nil))) pa_nil)))) (pe_no) (pv 0))), ?_⟩
    refine ⟨_, rfl, (by show 2 ≤ sizeLine; decide), fun tp htp => ?_⟩
    obtain ⟨T, ty, kt⟩ := Leaf.ty (K := K) ((L.ext xG).ext (ext_new htp (.tup [V.ty "list", V.ty "tuple"])))
    refine ⟨_, tp, _, .type T, _, false, rfl, upd_same, clsLT, ty, kt, _, rfl, iteF ?_⟩
    exact ⟨_, rfl, q _ _ (ext_new htp _) (leaf_end xG L htp)⟩
  · refine ⟨_, pss_one (ps_ret (pe_ifExp (pt_val (pe_callB call_isiT rfl mi rfl (pa_cons (pv 0) (pa_cons (pe_tup (pa_cons (pe_bltn (u := .type "list") (v := .ty "list") rfl ml rfl rfl) (pa_cons (pe_bltn (u := .type "tuple") (v := .ty "tuple") rfl mt rfl rfl) pa_nil))) pa_nil)))) (pe_tupleOf rfl mt (pe_lc (own := [("part", 1)]) rfl scInT.nd (pi_list (pv 0)) (blkOk_by (N := ["told", "part"]) (sc := defScope sInT) (by decide +kernel)) (fun _ _ _ _ _ => pg_name (i := 1) scInT.nd rfl (Or.inl rfl)) (fun _ _ _ _ _ => pts_nil) (fun _ _ _ _ _ => pe_call R hr rfl mF F.kp bF .nil pass0 (pa_cons (pv 1) pa_nil)))) (pv 0))), ?_⟩
    have hta : ∀ {tp : Addr}, H tp = none → a ≠ tp := fun h => ne_of_none (xG _ _ ha) h
    refine ⟨_, rfl, (by show 2 ≤ sizeLine; decide), fun tp htp => ⟨_, tp, _, .type "list", _, true, rfl, upd_same, clsLT, ?_, kitL, _, rfl, iteT ?_⟩⟩
    · have ha1 : upd H tp (.tup [V.ty "list", V.ty "tuple"]) a = some (.lst vs) := by
        rw [upd_ne (hta htp)]
        exact xG _ _ ha
      exact TyX.base (.lst ha1)
    obtain ⟨H1, hH1⟩ : ∃ H1, upd H tp (.tup [V.ty "list", V.ty "tuple"]) = H1 := ⟨_, rfl⟩
    have x1 : Ext H H1 := by rw [← hH1]; exact ext_new htp _
    have ha1 : H1 a = some (.lst vs) := x1 _ _ (xG _ _ ha)
    refine ⟨_, rfl, _, rfl, ⟨_, .inl (.inl (by rw [hH1]; exact ha1))⟩, fun D hD => ?_⟩
    rw [hH1] at hD
    have hD0 : H D = none := by
      cases z : H D with
      | none => rfl
      | some o => rw [x1 _ _ z] at hD; cases hD
    obtain ⟨HD, hHD⟩ : ∃ HD, upd H1 D (.lst []) = HD := ⟨_, rfl⟩
    have xD : Ext H HD := by rw [← hHD]; exact Ext.tr x1 (ext_new hD _)
    have hDD : HD D = some (.lst []) := by rw [← hHD, upd_same]
    have aD : a ≠ D := ne_of_none ha1 hD
    refine lc_list (K := K) (a := a) (xs := vs) (fun i H2 => (∀ b o, b ≠ D → HD b = some o → H2 b = some o) ∧ ∃ vs', H2 D = some (.lst vs') ∧ vs'.length = i ∧ Paired (TRep n' (sel G HD H2)) vs' ((ds.take i).map (fixD n'))) ?_ (fun i H2 _ h => .inl (.inl (h.1 a _ aD (by rw [← hHD, upd_ne aD]; exact ha1)))) ?_ ?_
    · rw [hH1, hHD]
      exact ⟨fun b o _ h => h, [], hDD, rfl, .nil⟩
    · rintro i x H2 hi ⟨o2, vs', hv, hl', pr'⟩
      obtain ⟨t, ht, rt⟩ := paired_get pr hi
      have hil : i < vs.length := (List.getElem?_eq_some_iff.mp hi).1
      have xG2 : Ext G H2 := fun c o e => o2 c o (fun z => by rw [z] at e; rw [xG _ _ e] at hD0; cases hD0) (xD _ _ (xG _ _ e))
      refine ⟨rfl, tyes ?_⟩
      refine ⟨_, rfl, x, t, G, rfl, xG2, rt, fun y H4 x4 ty => ?_⟩
      obtain ⟨z1, z2⟩ := fix_turn xG xD hD0 ⟨_, hDD⟩ o2 hv hl' pr' x4 ty
      refine ⟨vs', x4 _ _ hv, small1000 (by omega), z1, vs' ++ [y], upd_same, by rw [List.length_append, hl']; rfl, ?_⟩
      rw [List.take_succ, ht, List.map_append]
      exact z2
    · rintro H3 ⟨o3, vs', hv, hl', pr'⟩
      have hds : ds.take vs.length = ds := by rw [Paired.length pr]; exact List.take_length
      rw [hds] at pr'
      have x3 : Ext H H3 := fun c o e => o3 c o (fun z => by rw [z, hD0] at e; cases e) (xD _ _ e)
      have pr3 : Paired (TRep n' (sel G H H3)) vs' (ds.map (fixD n')) := Paired.mapP pr' fun p q h => TRep.ext (sel_map fun c o h1 h2 => ⟨?_, h1⟩) n' h
      · refine .inl ⟨D, vs', rfl, .inl (.inl hv), fun u hu => ?_⟩
        obtain ⟨e1, e2⟩ := fix_end (by omega) x3 hv pr3 hu xG
        exact q _ _ e1 e2
      · rcases h2 with z | z
        · exact .inl z
        · refine .inr ?_
          cases z2 : H c with
          | none => rfl
          | some o' => rw [xD _ _ z2] at z; cases z
  · refine ⟨_, pss_one (ps_ret (pe_ifExp (pt_val (pe_callB call_isiT rfl mi rfl (pa_cons (pv 0) (pa_cons (pe_tup (pa_cons (pe_bltn (u := .type "list") (v := .ty "list") rfl ml rfl rfl) (pa_cons (pe_bltn (u := .type "tuple") (v := .ty "tuple") rfl mt rfl rfl) pa_nil))) pa_nil)))) (pe_tupleOf rfl mt (pe_lc (own := [("part", 1)]) rfl scInT.nd (pi_tup (pv 0)) (blkOk_by (N := ["told", "part"]) (sc := defScope sInT) (by decide +kernel)) (fun _ _ _ _ _ => pg_name (i := 1) scInT.nd rfl (Or.inl rfl)) (fun _ _ _ _ _ => pts_nil) (fun _ _ _ _ _ => pe_call R hr rfl mF F.kp bF .nil pass0 (pa_cons (pv 1) pa_nil)))) (pv 0))), ?_⟩
    have hta : ∀ {tp : Addr}, H tp = none → a ≠ tp := fun h => ne_of_none (xG _ _ ha) h
    refine ⟨_, rfl, (by show 2 ≤ sizeLine; decide), fun tp htp => ⟨_, tp, _, .type "tuple", _, true, rfl, upd_same, clsLT, ?_, kitT, _, rfl, iteT ?_⟩⟩
    · have ha1 : upd H tp (.tup [V.ty "list", V.ty "tuple"]) a = some (.tup vs) := by
        rw [upd_ne (hta htp)]
        exact xG _ _ ha
      exact TyX.base (.tup ha1)
    obtain ⟨H1, hH1⟩ : ∃ H1, upd H tp (.tup [V.ty "list", V.ty "tuple"]) = H1 := ⟨_, rfl⟩
    have x1 : Ext H H1 := by rw [← hH1]; exact ext_new htp _
    have ha1 : H1 a = some (.tup vs) := x1 _ _ (xG _ _ ha)
    refine ⟨_, rfl, _, rfl, ⟨_, .inl (.inl (by rw [hH1]; exact ha1))⟩, fun D hD => ?_⟩
    rw [hH1] at hD
    have hD0 : H D = none := by
      cases z : H D with
      | none => rfl
      | some o => rw [x1 _ _ z] at hD; cases hD
    obtain ⟨HD, hHD⟩ : ∃ HD, upd H1 D (.lst []) = HD := ⟨_, rfl⟩
    have xD : Ext H HD := by rw [← hHD]; exact Ext.tr x1 (ext_new hD _)
    have hDD : HD D = some (.lst []) := by rw [← hHD, upd_same]
    have aD : a ≠ D := ne_of_none ha1 hD
    refine lc_tup (K := K) (a := a) (xs := vs) (fun i H2 => (∀ b o, b ≠ D → HD b = some o → H2 b = some o) ∧ ∃ vs', H2 D = some (.lst vs') ∧ vs'.length = i ∧ Paired (TRep n' (sel G HD H2)) vs' ((ds.take i).map (fixD n'))) ?_ (fun i H2 _ h => .inl (.inl (h.1 a _ aD (by rw [← hHD, upd_ne aD]; exact ha1)))) ?_ ?_
    · rw [hH1, hHD]
      exact ⟨fun b o _ h => h, [], hDD, rfl, .nil⟩
    · rintro i x H2 hi ⟨o2, vs', hv, hl', pr'⟩
      obtain ⟨t, ht, rt⟩ := paired_get pr hi
      have hil : i < vs.length := (List.getElem?_eq_some_iff.mp hi).1
      have xG2 : Ext G H2 := fun c o e => o2 c o (fun z => by rw [z] at e; rw [xG _ _ e] at hD0; cases hD0) (xD _ _ (xG _ _ e))
      refine ⟨rfl, tyes ?_⟩
      refine ⟨_, rfl, x, t, G, rfl, xG2, rt, fun y H4 x4 ty => ?_⟩
      obtain ⟨z1, z2⟩ := fix_turn xG xD hD0 ⟨_, hDD⟩ o2 hv hl' pr' x4 ty
      refine ⟨vs', x4 _ _ hv, small1000 (by omega), z1, vs' ++ [y], upd_same, by rw [List.length_append, hl']; rfl, ?_⟩
      rw [List.take_succ, ht, List.map_append]
      exact z2
    · rintro H3 ⟨o3, vs', hv, hl', pr'⟩
      have hds : ds.take vs.length = ds := by rw [Paired.length pr]; exact List.take_length
      rw [hds] at pr'
      have x3 : Ext H H3 := fun c o e => o3 c o (fun z => by rw [z, hD0] at e; cases e) (xD _ _ e)
      have pr3 : Paired (TRep n' (sel G H H3)) vs' (ds.map (fixD n')) := Paired.mapP pr' fun p q h => TRep.ext (sel_map fun c o h1 h2 => ⟨?_, h1⟩) n' h
      · refine .inl ⟨D, vs', rfl, .inl (.inl hv), fun u hu => ?_⟩
        obtain ⟨e1, e2⟩ := fix_end (by omega) x3 hv pr3 hu xG
        exact q _ _ e1 e2
      · rcases h2 with z | z
        · exact .inl z
        · refine .inr ?_
          cases z2 : H c with
          | none => rfl
          | some o' => rw [xD _ _ z2] at z; cases z

/-! ### all levels -/
theorem fix_none {sp : Sp} {ps : List Str} {f : Addr} {fd : FuncData} (no : ∀ vs H Q E, ¬ sp vs H Q E) : FnOk P w K mg base CX0 0 f fd ps sp := ⟨fun vs H Q E h => absurd h (no vs H Q E), fun A outer s H args us vs Q E _ _ _ _ h => absurd h (no vs H Q E)⟩
theorem all_fix {f : Addr} {fd : FuncData} (F : Fun K "fixed" "fixed" sFix f fd) (bF : Binds K fd ["value"] []) (mF : mg "fixed" = some (.ref f))
    (mi : mg "isinstance" = none) (ml : mg "list" = none) (mt : mg "tuple" = none) : ∀ n, FnOk P w K mg base CX0 n f fd ["value"] (spFixG n)
  | 0 => fix_none fun _ _ _ _ h => h
  | n + 1 => ok_fix F bF (all_fix F bF mF mi ml mt n) mF mi ml mt
theorem all_inT {f : Addr} {fd : FuncData} (F : Fun K "_law_in_tuples" "_law_in_tuples" sInT f fd) (bF : Binds K fd ["told"] []) (mF : mg "_law_in_tuples" = some (.ref f))
    (mi : mg "isinstance" = none) (ml : mg "list" = none) (mt : mg "tuple" = none) : ∀ n, FnOk P w K mg base CX0 n f fd ["told"] (spFixG n)
  | 0 => fix_none fun _ _ _ _ h => h
  | n + 1 => ok_inT F bF (all_inT F bF mF mi ml mt n) mF mi ml mt
theorem all_val {f g pk : Addr} {fd gd pd : FuncData} (F : Fun K "_law_any_value" "_law_any_value" sVal f fd) (bF : Binds K fd ["pen", "deep"] []) (mF : mg "_law_any_value" = some (.ref f))
    (G : FnOk P w K mg base CX0 1 g gd ["pen", "many"] spDraw) (bG : Binds K gd ["pen", "many"] []) (kG : PySem.W.keepIn K (.ref g) = true) (mG : mg "_law_draw" = some (.ref g))
    (PK : FnOk P w K mg base CX0 2 pk pd ["pen", "some"] spPick) (bP : Binds K pd ["pen", "some"] []) (kP : PySem.W.keepIn K (.ref pk) = true) (mP : mg "_law_pick" = some (.ref pk))
    (mr : mg "range" = none) (mt : mg "tuple" = none) : ∀ n, FnOk P w K mg base CX0 (2 + n) f fd ["pen", "deep"] (spValG n)
  | 0 => (fix_none fun _ _ _ _ h => h : FnOk P w K mg base CX0 0 f fd ["pen", "deep"] (spValG 0)).mono (by omega)
  | n + 1 => ok_val (k := 2 + n) (by omega) F bF (all_val F bF mF G bG kG mG PK bP kP mP mr mt n) mF G bG kG mG PK bP kP mP mr mt
end
end K47

/-! == of equal parts; what only objects change -/
namespace K47
open PySem PySem.W PySem.Spec PySem.Calls PyProof.Rows L2

/-! ### equal data -/
def DLeaf : Eqv := fun x y H => ∃ d, Leaf H x d ∧ Leaf H y d
def DT (n : Nat) : Eqv := fun x y H => ∃ d, TRep n H x d ∧ TRep n H y d
theorem mon_leaf : Mon DLeaf := fun x y H H' e ⟨d, h1, h2⟩ => ⟨d, h1.ext e, h2.ext e⟩
theorem mon_DT (n : Nat) : Mon (DT n) := fun x y H H' e ⟨d, h1, h2⟩ => ⟨d, TRep.ext e n h1, TRep.ext e n h2⟩
theorem leaf_one {H : Hp} {x y : V} {d : D} (h1 : Leaf H x d) (h2 : Leaf H y d) : x = y := by
  cases h1 <;> cases h2 <;> rfl
theorem eqG_leaf {X : Cx} : EqG X 0 DLeaf := by
  intro A pins s σ H x y u v sb I rx ry ⟨d, h1, h2⟩
  obtain rfl := leaf_one h1 h2
  have flat : flatV x = true → eqV x x = true → wpAny (model X.prog X.w) A (eqBool u v) (fun r s' => r = true ∧ ∃ H', L2.Inv X pins σ H' s' ∧ Ext H H') X.xe s := fun a b => eqG_flat A pins s σ H x x u v sb I rx ry ⟨a, a, b⟩
  cases h1 with
  | non => exact flat rfl rfl
  | bl b => exact flat rfl (by cases b <;> rfl)
  | int i _ _ => exact flat rfl (by simp [eqV])
  | str z _ => exact flat rfl (by simp [eqV])
  | dct h hl =>
    cases rx
    cases ry
    exact SeqAt.EqAt.same (A := A) (s := s) (.ref _) X.prog X.w X.xe _ ⟨rfl, H, I, Ext.rfl'⟩
theorem prs_of {n : Nat} {H : Hp} : ∀ {xs ys : List V} {ds : List D}, Paired (TRep n H) xs ds → Paired (TRep n H) ys ds → Prs (DT n) xs ys H
  | _, _, _, .nil, .nil => Prs.nil
  | _, _, _, .cons a as, .cons b bs => Prs.cons ⟨_, a, b⟩ (prs_of as bs)
theorem eqG_DT {X : Cx} : ∀ n, EqG X n (DT n)
  | 0 => eqG_leaf
  | n + 1 => by
    refine (EqG.or (eqG_leaf.mono (Nat.zero_le _)) (eqG_tup (mon_DT n) (eqG_DT n))).imp ?_
    rintro x y H ⟨d, h1, h2⟩
    rcases h1 with h1 | ⟨a, vs, ds, rfl, rfl, ha, _, p⟩
    · rcases h2 with h2 | ⟨b, ws, es, rfl, rfl, hb, _, q⟩
      · exact .inl ⟨d, h1, h2⟩
      · cases h1
    · rcases h2 with h2 | ⟨b, ws, es, rfl, e, hb, _, q⟩
      · cases h2
      · cases e
        exact .inr ⟨a, b, vs, ws, rfl, rfl, .inl (.inl ha), .inl (.inl hb), prs_of p q⟩

/-! ### objects apart -/
def isIns : HO → Prop
  | .ins _ _ _ => True
  | _ => False
/-- what is no object of a class stands -/
def Kept (H H' : Hp) : Prop := ∀ a o, H a = some o → ¬ isIns o → H' a = some o
theorem Kept.ext {H H' : Hp} (h : Ext H H') : Kept H H' := fun a o e _ => h a o e
theorem Kept.tr {H H' H'' : Hp} (a : Kept H H') (b : Kept H' H'') : Kept H H'' := fun c o e n => b c o (a c o e n) n
theorem Kept.put {H : Hp} {a C dx : Addr} {fs gs : List (Str × V)} (h : H a = some (.ins C dx fs)) : Kept H (upd H a (.ins C dx gs)) := fun b o e n => by
  rw [upd_ne (fun z => by rw [z, h] at e; cases e; exact n trivial)]
  exact e
theorem Kept.only {H H' : Hp} {a C dx : Addr} {fs : List (Str × V)} (h : H a = some (.ins C dx fs)) (o : Only a H H') : Kept H H' := fun b u e n => o b u (fun z => by rw [z, h] at e; cases e; exact n trivial) e
theorem Leaf.kept {H H' : Hp} {v : V} {d : D} (x : Kept H H') (h : Leaf H v d) : Leaf H' v d := by
  cases h with
  | non => exact .non
  | bl b => exact .bl b
  | int i h hz => exact .int i h hz
  | str s hz => exact .str s hz
  | dct h hl => exact .dct (x _ _ h (fun z => z)) (x _ _ hl (fun z => z))
theorem Rep.kept {H H' : Hp} (x : Kept H H') : ∀ (n : Nat) {v : V} {d : D}, Rep n H v d → Rep n H' v d
  | 0, _, _, h => Leaf.kept x h
  | n + 1, _, _, h => by
    rcases h with h | ⟨a, vs, ds, e1, e2, ha, hl, p⟩ | ⟨a, vs, ds, e1, e2, ha, hl, p⟩
    · exact .inl (h.kept x)
    · exact .inr (.inl ⟨a, vs, ds, e1, e2, x _ _ ha (fun z => z), hl, Paired.mapP p fun _ _ q => Rep.kept x n q⟩)
    · exact .inr (.inr ⟨a, vs, ds, e1, e2, x _ _ ha (fun z => z), hl, Paired.mapP p fun _ _ q => Rep.kept x n q⟩)
theorem TRep.kept {H H' : Hp} (x : Kept H H') : ∀ (n : Nat) {v : V} {d : D}, TRep n H v d → TRep n H' v d
  | 0, _, _, h => Leaf.kept x h
  | n + 1, _, _, h => by
    rcases h with h | ⟨a, vs, ds, e1, e2, ha, hl, p⟩
    · exact .inl (h.kept x)
    · exact .inr ⟨a, vs, ds, e1, e2, x _ _ ha (fun z => z), hl, Paired.mapP p fun _ _ q => TRep.kept x n q⟩
end K47

/-! Paper.__init__ and those that begin with super().__init__ -/
namespace K47
open PySem PySem.W PySem.Spec PySem.Calls PyProof.Rows L2
abbrev sPInit : Stmt := inClass (top 2) 0
abbrev sPBool : Stmt := inClass (top 2) 1
abbrev sPEq : Stmt := inClass (top 2) 2
abbrev sDBool : Stmt := inClass (top 3) 0

/-- a class of papers -/
structure PCls (K : PySem.W.Frag) (C : Addr) : Prop where
  cl : Cls K C
  nW : NoAttr K C "word"
  nP : NoAttr K C "parts"
/-- a paper stands at x -/
structure Std (H : Hp) (x C dx : Addr) (w : Str) (q : Addr) (fs : List (Str × V)) : Prop where
  at_ : H x = some (.ins C dx fs)
  wd : fs.lookup ("word" : Str) = some (.str w)
  pt : fs.lookup ("parts" : Str) = some (.ref q)
/-- Paper.__init__(x, w, *rest) -/
def PaperK (x C dx : Addr) (w : Str) (ds : List D) (H : Hp) (Q : VK) : Prop :=
  ∀ (q : Addr) (ys : List V) (fs : List (Str × V)) (H' : Hp), Only x H H' → Std H' x C dx w q fs → fs.length ≤ 2 → H' q = some (.tup ys) → Paired (TRep 3 H') ys (ds.map (fixD 3)) → Q .non H'
def spPaper (K : PySem.W.Frag) : Sp := fun vs H Q _ => ∃ (x C dx : Addr) (w : Str) (rest : List V) (ds : List D), vs = .ref x :: .str w :: rest ∧ H x = some (.ins C dx []) ∧ PCls K C ∧ rest.length ≤ 4 ∧ Paired (Rep 3 H) rest ds ∧ PaperK x C dx w ds H Q
def spPaperB (K : PySem.W.Frag) : Sp := fun vs H Q _ => ∃ (x C dx p : Addr) (w : Str) (rest : List V) (ds : List D), vs = [.ref x, .str w, .ref p] ∧ H x = some (.ins C dx []) ∧ PCls K C ∧ H p = some (.tup rest) ∧ rest.length ≤ 4 ∧ Paired (Rep 3 H) rest ds ∧ PaperK x C dx w ds H Q
section
variable {P : Program} {w : World} {K : PySem.W.Frag} {mg : Str → Option Value} {base : Heap}
theorem scPI : FnScope ["self", "word", "parts"] ((["self", "word"] : List Str) ++ (["parts"] : List Str)) (defScope sPInit) := ⟨rfl, rfl, rfl, by decide +kernel, rfl, by decide +kernel, by decide +kernel⟩
theorem ne_pw : ¬ (("parts" : Str) = "word") := by decide +kernel
theorem ne_wp : ¬ (("word" : Str) = "parts") := by decide +kernel
theorem tup_inv {n : Nat} {H : Hp} {y : V} {ds : List D} (h : TRep (n + 1) H y (.tup ds)) : ∃ q ys, y = .ref q ∧ H q = some (.tup ys) ∧ Paired (TRep n H) ys ds := by
  rcases h with h | ⟨a, vs, es, rfl, e, ha, _, p⟩
  · cases h
  · cases e
    exact ⟨a, vs, rfl, ha, p⟩
theorem ok_pinit {f g : Addr} {fd gd : FuncData} (F : Fun K "__init__" "Paper.__init__" sPInit f fd) (G : FnOk P w K mg base CX0 5 g gd ["value"] (spFix 4)) (bG : Binds K gd ["value"] []) (kG : PySem.W.keepIn K (.ref g) = true) (mG : mg "fixed" = some (.ref g)) :
    FnR P w K mg base CX0 6 f (spPaper K) := by
  obtain ⟨oc, od, kV, doc, pm, an, cdv, ct, osl, rfl, lk, hcd⟩ := F.ex
  refine (StX.fn_star (sp := spPaperB K) (ps := ["self", "word"]) (pv := "parts") (k := 5) lk hcd scPI StX.cxUp_none (StX.bind_star2 (B := fun us => bindArgs (fnOf "__init__" "Paper.__init__" (defArgs sPInit) (defBody sPInit) (defScope sPInit) Value.none kV doc pm an cdv ct) ⟨us, []⟩) (p1 := "self") (p2 := "word") (pv := "parts") (fun _ _ => rfl) (fun _ _ _ _ => rfl)) ?_).imp ?_
  · intro A outer s H vs Q E hr h
    obtain ⟨x, C, dx, p, wd, rest, ds, rfl, hx, T, hp, hl, pr, q⟩ := h
    refine ⟨_, pss_cons (ps_fld (pv 0) (pv 1) rfl) (pss_one (ps_fld (pv 0) (pe_call G hr rfl mG kG bG .nil pass0 (pa_cons (pv 2) pa_nil)) rfl)), ?_⟩
    have npx : p ≠ x := fun e => by rw [e, hx] at hp; cases hp
    refine ⟨_, rfl, _, rfl, x, C, dx, _, rfl, hx, T.cl, T.nW, (by show 0 < 1000; decide), ?_⟩
    obtain ⟨H1, hH1⟩ : ∃ H1, upd H x (.ins C dx (putF "word" (.str wd) [])) = H1 := ⟨_, rfl⟩
    have hx1 : H1 x = some (.ins C dx (putF "word" (.str wd) [])) := by rw [← hH1, upd_same]
    have hp1 : H1 p = some (.tup rest) := by rw [← hH1, upd_ne npx]; exact hp
    have k1 : Kept H H1 := by rw [← hH1]; exact Kept.put hx
    have o1 : Only x H H1 := by rw [← hH1]; exact Only.upd _
    rw [hH1]
    refine ⟨_, rfl, .ref p, .tup ds, H1, rfl, Ext.rfl', .inr (.inr ⟨p, rest, ds, rfl, rfl, hp1, hl, Paired.mapP pr fun _ _ h => Rep.kept k1 3 h⟩), fun y H2 x2 ty => ?_⟩
    obtain ⟨qa, ys, rfl, hq, pq⟩ := tup_inv (TRep.ext sel_self 4 ty)
    have hx2 := x2 _ _ hx1
    have nqx : qa ≠ x := fun e => by rw [e, hx2] at hq; cases hq
    refine ⟨_, rfl, x, C, dx, _, rfl, hx2, T.cl, T.nP, ?_, ?_⟩
    · have e1 := length_putF ("word" : Str) (V.str wd) []
      have e2 : ([] : List (Str × V)).length = 0 := rfl
      omega
    · refine q qa ys _ _ ((o1.trans (Only.ext x2)).trans (Only.upd _)) ⟨upd_same, ?_, ?_⟩ ?_ ?_ ?_
      · rw [lookup_putF, if_neg ne_wp, lookup_putF, if_pos rfl]
      · rw [lookup_putF, if_pos rfl]
      · have e1 := length_putF ("word" : Str) (V.str wd) []
        have e2 := length_putF ("parts" : Str) (V.ref qa) (putF "word" (V.str wd) [])
        have e3 : ([] : List (Str × V)).length = 0 := rfl
        omega
      · rw [upd_ne nqx]
        exact hq
      · exact Paired.mapP pq fun _ _ h => TRep.kept (Kept.put hx2) 3 h
  · rintro vs H Q E ⟨x, C, dx, wd, rest, ds, rfl, hx, T, hl, pr, q⟩
    refine ⟨[.ref x, .str wd], rest, rfl, rfl, ?_, fun p hp => ⟨x, C, dx, p, wd, rest, ds, rfl, ?_, T, upd_same, hl, ?_, fun q' ys fs H' o => q q' ys fs H' ((Only.new hp _).trans o)⟩⟩
    · exact Nat.le_trans hl (by decide)
    · rw [upd_ne (ne_of_none hx hp)]
      exact hx
    · exact Paired.mapP pr fun _ _ h => Rep.ext (ext_new hp _) 3 h

/-! ### the six that begin with super().__init__(..) -/
/-- such a method as it stands behind the top -/
structure FunS (K : PySem.W.Frag) (qual : Str) (st : Stmt) (f cc : Addr) (cdv : Value) (fd : FuncData) : Prop where
  ex : ∃ (oc : Value) (od : Option Addr) (kV doc pm : Value) (an : Option Addr) (ct : Value) (osl : Array (Option Value)),
    fd = ksFn "__init__" qual (defArgs st) (defBody st) (defScope st) .none kV doc pm an cdv ct cc ∧ K.lookup f = some ⟨oc, od, .func fd, osl⟩ ∧ PySem.W.codeIn K cdv qual = true
/-- C.__init__(x, ..): the attributes named by names are the parts -/
def spMake (K : PySem.W.Frag) (C : Addr) (w : Str) (names : List Str) : Sp := fun vs H Q _ => ∃ (x dx : Addr) (rest : List V) (ds : List D), vs = .ref x :: rest ∧ rest.length = names.length ∧ H x = some (.ins C dx []) ∧ Paired (Rep 3 H) rest ds ∧
  ∀ (q : Addr) (ys : List V) (fs : List (Str × V)) (H' : Hp), Only x H H' → Std H' x C dx w q fs → H' q = some (.tup ys) → Paired (TRep 3 H') ys (ds.map (fixD 3)) → (∀ (i : Nat) (n : Str) (y : V), names[i]? = some n → ys[i]? = some y → fs.lookup n = some y) → Q .non H'
theorem passE {X : Cx} {E : XK} : Passes CX0 X E := fun _ _ _ _ _ _ _ h => h.elim

theorem lk_ne {f g : Str} {v : V} {fs : List (Str × V)} {r : Option V} (h : ¬ g = f) (e : fs.lookup g = r) : (putF f v fs).lookup g = r := by
  rw [lookup_putF, if_neg h]
  exact e
theorem lk_eq {f : Str} {v : V} {fs : List (Str × V)} : (putF f v fs).lookup f = some v := by rw [lookup_putF, if_pos rfl]
theorem lt_putF {f : Str} {v : V} {fs : List (Str × V)} {n : Nat} (h : fs.length ≤ n) : (putF f v fs).length ≤ n + 1 := by
  have := length_putF f v fs
  omega

abbrev sMap : Stmt := inClass (top 5) 0
theorem scMap : SupScope ["self", "domain", "planes", "spots"] ["self", "domain", "planes", "spots"] (defScope sMap) := ⟨rfl, rfl, rfl, by decide +kernel, rfl, by decide +kernel, by decide +kernel, by decide +kernel, by decide +kernel, by decide +kernel⟩
theorem ok_map {f g C cc : Addr} {fd : FuncData} {cdv : Value} (F : FunS K "Map.__init__" sMap f cc cdv fd) (SF : SupF P K mg "__init__" cdv cc C g) (G : FnR P w K mg base CX0 6 g (spPaper K)) (T : PCls K C) (n1 : NoAttr K C "domain") (n2 : NoAttr K C "planes") (n3 : NoAttr K C "spots") :
    FnOk P w K mg base CX0 7 f fd ["self", "domain", "planes", "spots"] (spMake K C "map" ["domain", "planes", "spots"]) := by
  obtain ⟨oc, od, kV, doc, pm, an, ct, osl, rfl, lk, hcd⟩ := F.ex
  refine fn_super (sp2 := spPaper K) lk hcd scMap SF rfl rfl rfl rfl ?_ G (fun _ _ _ _ _ _ => passE) (fun _ => rfl) (fun _ => rfl) (fun _ => rfl) (fun _ => ⟨_, rfl⟩) ?_
  · rintro vs H Q E ⟨x, dx, rest, ds, rfl, hl, _⟩
    simp only [List.length_cons, hl]
  intro A outer s H vs Q E hr h
  obtain ⟨x, dx, rest, ds, rfl, hl, hx, pr, q⟩ := h
  obtain ⟨a, b, c, rfl⟩ : ∃ a b c, rest = [a, b, c] := by
    match rest, hl with
    | [a, b, c], _ => exact ⟨a, b, c, rfl⟩
  refine ⟨x, dx, [], _, _, rfl, hx, pa_cons pe_str (pa_cons (pv 1) (pa_cons (pv 2) (pa_cons (pv 3) pa_nil))), pss_one (ps_asg (pe_fld (pv 0) rfl) (pg_tup rfl (pgs_cons (pg_fld (pv 0)) (pgs_cons (pg_fld (pv 0)) (pgs_cons (pg_fld (pv 0)) pgs_nil))))), ?_⟩
  refine ⟨_, rfl, _, rfl, _, rfl, x, C, dx, "map", [a, b, c], ds, rfl, hx, T, (by show 3 ≤ 4; decide), pr, fun qa ys fs H1 o1 S hf hq pq => ?_⟩
  have hyl : ys.length = 3 := by
    have e1 := Paired.length pq
    have e2 := Paired.length pr
    rw [List.length_map, ← e2] at e1
    exact e1
  obtain ⟨y1, y2, y3, rfl⟩ : ∃ y1 y2 y3, ys = [y1, y2, y3] := by
    match ys, hyl with
    | [y1, y2, y3], _ => exact ⟨y1, y2, y3, rfl⟩
  have nqx : qa ≠ x := fun e => by rw [e, S.at_] at hq; cases hq
  refine ⟨_, rfl, x, C, dx, fs, _, rfl, S.at_, T.cl, T.nP, S.pt, qa, _, rfl, .inl (.inl hq), rfl, _, _, rfl, ⟨_, rfl, x, C, dx, _, rfl, S.at_, T.cl, n1, Nat.lt_of_le_of_lt (hf) (by decide), _, _, rfl, ⟨_, rfl, x, C, dx, _, rfl, upd_same, T.cl, n2, Nat.lt_of_le_of_lt (lt_putF (hf)) (by decide), _, _, rfl, ⟨_, rfl, x, C, dx, _, rfl, upd_same, T.cl, n3, Nat.lt_of_le_of_lt (lt_putF (lt_putF (hf))) (by decide), ⟨rfl, ?_⟩⟩⟩⟩⟩
  have oF : Only x H1 (upd (upd (upd H1 x (.ins C dx (putF "domain" y1 fs))) x (.ins C dx (putF "planes" y2 (putF "domain" y1 fs)))) x (.ins C dx (putF "spots" y3 (putF "planes" y2 (putF "domain" y1 fs))))) := Only.trans (Only.upd _) (Only.trans (Only.upd _) (Only.upd _))
  refine q qa _ _ _ (o1.trans oF) ⟨upd_same, lk_ne (by decide +kernel) (lk_ne (by decide +kernel) (lk_ne (by decide +kernel) (S.wd))), lk_ne (by decide +kernel) (lk_ne (by decide +kernel) (lk_ne (by decide +kernel) (S.pt)))⟩ (oF qa _ nqx hq) (Paired.mapP pq fun _ _ h => TRep.kept (Kept.only S.at_ oF) 3 h) fun i nm y h1 h2 => ?_
  match i, h1, h2 with
  | 0, h1, h2 =>
    cases h1
    cases h2
    exact lk_ne (by decide +kernel) (lk_ne (by decide +kernel) (lk_eq))
  | 1, h1, h2 =>
    cases h1
    cases h2
    exact lk_ne (by decide +kernel) (lk_eq)
  | 2, h1, h2 =>
    cases h1
    cases h2
    exact lk_eq
  | i + 3, h1, h2 => exact absurd h1 (by simp)

abbrev sTrack : Stmt := inClass (top 7) 0
theorem scTrack : SupScope ["self", "spots"] ["self", "spots"] (defScope sTrack) := ⟨rfl, rfl, rfl, by decide +kernel, rfl, by decide +kernel, by decide +kernel, by decide +kernel, by decide +kernel, by decide +kernel⟩
theorem ok_track {f g C cc : Addr} {fd : FuncData} {cdv : Value} (F : FunS K "Track.__init__" sTrack f cc cdv fd) (SF : SupF P K mg "__init__" cdv cc C g) (G : FnR P w K mg base CX0 6 g (spPaper K)) (T : PCls K C) (n1 : NoAttr K C "spots") :
    FnOk P w K mg base CX0 7 f fd ["self", "spots"] (spMake K C "track" ["spots"]) := by
  obtain ⟨oc, od, kV, doc, pm, an, ct, osl, rfl, lk, hcd⟩ := F.ex
  refine fn_super (sp2 := spPaper K) lk hcd scTrack SF rfl rfl rfl rfl ?_ G (fun _ _ _ _ _ _ => passE) (fun _ => rfl) (fun _ => rfl) (fun _ => rfl) (fun _ => ⟨_, rfl⟩) ?_
  · rintro vs H Q E ⟨x, dx, rest, ds, rfl, hl, _⟩
    simp only [List.length_cons, hl]
  intro A outer s H vs Q E hr h
  obtain ⟨x, dx, rest, ds, rfl, hl, hx, pr, q⟩ := h
  obtain ⟨a, rfl⟩ : ∃ a, rest = [a] := by
    match rest, hl with
    | [a], _ => exact ⟨a, rfl⟩
  refine ⟨x, dx, [], _, _, rfl, hx, pa_cons pe_str (pa_cons (pv 1) pa_nil), pss_one (ps_fld (pv 0) (pe_ix ix_tup (pe_fld (pv 0) rfl) pe_int (fun _ _ => rfl)) rfl), ?_⟩
  refine ⟨_, rfl, x, C, dx, "track", [a], ds, rfl, hx, T, (by show 1 ≤ 4; decide), pr, fun qa ys fs H1 o1 S hf hq pq => ?_⟩
  have hyl : ys.length = 1 := by
    have e1 := Paired.length pq
    have e2 := Paired.length pr
    rw [List.length_map, ← e2] at e1
    exact e1
  obtain ⟨y1, rfl⟩ : ∃ y1, ys = [y1] := by
    match ys, hyl with
    | [y1], _ => exact ⟨y1, rfl⟩
  have nqx : qa ≠ x := fun e => by rw [e, S.at_] at hq; cases hq
  refine ⟨_, rfl, x, C, dx, fs, _, rfl, S.at_, T.cl, T.nP, S.pt, qa, _, _, _, rfl, rfl, .inl (.inl hq), rfl, _, rfl, x, C, dx, _, rfl, S.at_, T.cl, n1, Nat.lt_of_le_of_lt hf (by decide), ?_⟩
  have oF : Only x H1 (upd H1 x (.ins C dx (putF "spots" y1 fs))) := Only.upd _
  refine q qa _ _ _ (o1.trans oF) ⟨upd_same, lk_ne (by decide +kernel) (S.wd), lk_ne (by decide +kernel) (S.pt)⟩ (oF qa _ nqx hq) (Paired.mapP pq fun _ _ h => TRep.kept (Kept.only S.at_ oF) 3 h) fun i nm y h1 h2 => ?_
  match i, h1, h2 with
  | 0, h1, h2 =>
    cases h1
    cases h2
    exact lk_eq
  | i + 1, h1, h2 => exact absurd h1 (by simp)

abbrev sMissed : Stmt := inClass (top 8) 0
theorem scMissed : SupScope ["self", "rows"] ["self", "rows"] (defScope sMissed) := ⟨rfl, rfl, rfl, by decide +kernel, rfl, by decide +kernel, by decide +kernel, by decide +kernel, by decide +kernel, by decide +kernel⟩
theorem ok_missed {f g C cc : Addr} {fd : FuncData} {cdv : Value} (F : FunS K "Missed.__init__" sMissed f cc cdv fd) (SF : SupF P K mg "__init__" cdv cc C g) (G : FnR P w K mg base CX0 6 g (spPaper K)) (T : PCls K C) (n1 : NoAttr K C "rows") :
    FnOk P w K mg base CX0 7 f fd ["self", "rows"] (spMake K C "missed" ["rows"]) := by
  obtain ⟨oc, od, kV, doc, pm, an, ct, osl, rfl, lk, hcd⟩ := F.ex
  refine fn_super (sp2 := spPaper K) lk hcd scMissed SF rfl rfl rfl rfl ?_ G (fun _ _ _ _ _ _ => passE) (fun _ => rfl) (fun _ => rfl) (fun _ => rfl) (fun _ => ⟨_, rfl⟩) ?_
  · rintro vs H Q E ⟨x, dx, rest, ds, rfl, hl, _⟩
    simp only [List.length_cons, hl]
  intro A outer s H vs Q E hr h
  obtain ⟨x, dx, rest, ds, rfl, hl, hx, pr, q⟩ := h
  obtain ⟨a, rfl⟩ : ∃ a, rest = [a] := by
    match rest, hl with
    | [a], _ => exact ⟨a, rfl⟩
  refine ⟨x, dx, [], _, _, rfl, hx, pa_cons pe_str (pa_cons (pv 1) pa_nil), pss_one (ps_fld (pv 0) (pe_ix ix_tup (pe_fld (pv 0) rfl) pe_int (fun _ _ => rfl)) rfl), ?_⟩
  refine ⟨_, rfl, x, C, dx, "missed", [a], ds, rfl, hx, T, (by show 1 ≤ 4; decide), pr, fun qa ys fs H1 o1 S hf hq pq => ?_⟩
  have hyl : ys.length = 1 := by
    have e1 := Paired.length pq
    have e2 := Paired.length pr
    rw [List.length_map, ← e2] at e1
    exact e1
  obtain ⟨y1, rfl⟩ : ∃ y1, ys = [y1] := by
    match ys, hyl with
    | [y1], _ => exact ⟨y1, rfl⟩
  have nqx : qa ≠ x := fun e => by rw [e, S.at_] at hq; cases hq
  refine ⟨_, rfl, x, C, dx, fs, _, rfl, S.at_, T.cl, T.nP, S.pt, qa, _, _, _, rfl, rfl, .inl (.inl hq), rfl, _, rfl, x, C, dx, _, rfl, S.at_, T.cl, n1, Nat.lt_of_le_of_lt hf (by decide), ?_⟩
  have oF : Only x H1 (upd H1 x (.ins C dx (putF "rows" y1 fs))) := Only.upd _
  refine q qa _ _ _ (o1.trans oF) ⟨upd_same, lk_ne (by decide +kernel) (S.wd), lk_ne (by decide +kernel) (S.pt)⟩ (oF qa _ nqx hq) (Paired.mapP pq fun _ _ h => TRep.kept (Kept.only S.at_ oF) 3 h) fun i nm y h1 h2 => ?_
  match i, h1, h2 with
  | 0, h1, h2 =>
    cases h1
    cases h2
    exact lk_eq
  | i + 1, h1, h2 => exact absurd h1 (by simp)

abbrev sCheapest : Stmt := inClass (top 10) 0
theorem scCheapest : SupScope ["self", "costs", "point", "total", "rows"] ["self", "costs", "point", "total", "rows"] (defScope sCheapest) := ⟨rfl, rfl, rfl, by decide +kernel, rfl, by decide +kernel, by decide +kernel, by decide +kernel, by decide +kernel, by decide +kernel⟩
theorem ok_cheapest {f g C cc : Addr} {fd : FuncData} {cdv : Value} (F : FunS K "Cheapest.__init__" sCheapest f cc cdv fd) (SF : SupF P K mg "__init__" cdv cc C g) (G : FnR P w K mg base CX0 6 g (spPaper K)) (T : PCls K C) (n1 : NoAttr K C "costs") (n2 : NoAttr K C "point") (n3 : NoAttr K C "total") (n4 : NoAttr K C "rows") :
    FnOk P w K mg base CX0 7 f fd ["self", "costs", "point", "total", "rows"] (spMake K C "cheapest" ["costs", "point", "total", "rows"]) := by
  obtain ⟨oc, od, kV, doc, pm, an, ct, osl, rfl, lk, hcd⟩ := F.ex
  refine fn_super (sp2 := spPaper K) lk hcd scCheapest SF rfl rfl rfl rfl ?_ G (fun _ _ _ _ _ _ => passE) (fun _ => rfl) (fun _ => rfl) (fun _ => rfl) (fun _ => ⟨_, rfl⟩) ?_
  · rintro vs H Q E ⟨x, dx, rest, ds, rfl, hl, _⟩
    simp only [List.length_cons, hl]
  intro A outer s H vs Q E hr h
  obtain ⟨x, dx, rest, ds, rfl, hl, hx, pr, q⟩ := h
  obtain ⟨a, b, c, d, rfl⟩ : ∃ a b c d, rest = [a, b, c, d] := by
    match rest, hl with
    | [a, b, c, d], _ => exact ⟨a, b, c, d, rfl⟩
  refine ⟨x, dx, [], _, _, rfl, hx, pa_cons pe_str (pa_cons (pv 1) (pa_cons (pv 2) (pa_cons (pv 3) (pa_cons (pv 4) pa_nil)))), pss_one (ps_asg (pe_fld (pv 0) rfl) (pg_tup rfl (pgs_cons (pg_fld (pv 0)) (pgs_cons (pg_fld (pv 0)) (pgs_cons (pg_fld (pv 0)) (pgs_cons (pg_fld (pv 0)) pgs_nil)))))), ?_⟩
  refine ⟨_, rfl, _, rfl, _, rfl, _, rfl, x, C, dx, "cheapest", [a, b, c, d], ds, rfl, hx, T, (by show 4 ≤ 4; decide), pr, fun qa ys fs H1 o1 S hf hq pq => ?_⟩
  have hyl : ys.length = 4 := by
    have e1 := Paired.length pq
    have e2 := Paired.length pr
    rw [List.length_map, ← e2] at e1
    exact e1
  obtain ⟨y1, y2, y3, y4, rfl⟩ : ∃ y1 y2 y3 y4, ys = [y1, y2, y3, y4] := by
    match ys, hyl with
    | [y1, y2, y3, y4], _ => exact ⟨y1, y2, y3, y4, rfl⟩
  have nqx : qa ≠ x := fun e => by rw [e, S.at_] at hq; cases hq
  refine ⟨_, rfl, x, C, dx, fs, _, rfl, S.at_, T.cl, T.nP, S.pt, qa, _, rfl, .inl (.inl hq), rfl, _, _, rfl, ⟨_, rfl, x, C, dx, _, rfl, S.at_, T.cl, n1, Nat.lt_of_le_of_lt (hf) (by decide), _, _, rfl, ⟨_, rfl, x, C, dx, _, rfl, upd_same, T.cl, n2, Nat.lt_of_le_of_lt (lt_putF (hf)) (by decide), _, _, rfl, ⟨_, rfl, x, C, dx, _, rfl, upd_same, T.cl, n3, Nat.lt_of_le_of_lt (lt_putF (lt_putF (hf))) (by decide), _, _, rfl, ⟨_, rfl, x, C, dx, _, rfl, upd_same, T.cl, n4, Nat.lt_of_le_of_lt (lt_putF (lt_putF (lt_putF (hf)))) (by decide), ⟨rfl, ?_⟩⟩⟩⟩⟩⟩
  have oF : Only x H1 (upd (upd (upd (upd H1 x (.ins C dx (putF "costs" y1 fs))) x (.ins C dx (putF "point" y2 (putF "costs" y1 fs)))) x (.ins C dx (putF "total" y3 (putF "point" y2 (putF "costs" y1 fs))))) x (.ins C dx (putF "rows" y4 (putF "total" y3 (putF "point" y2 (putF "costs" y1 fs)))))) := Only.trans (Only.upd _) (Only.trans (Only.upd _) (Only.trans (Only.upd _) (Only.upd _)))
  refine q qa _ _ _ (o1.trans oF) ⟨upd_same, lk_ne (by decide +kernel) (lk_ne (by decide +kernel) (lk_ne (by decide +kernel) (lk_ne (by decide +kernel) (S.wd)))), lk_ne (by decide +kernel) (lk_ne (by decide +kernel) (lk_ne (by decide +kernel) (lk_ne (by decide +kernel) (S.pt))))⟩ (oF qa _ nqx hq) (Paired.mapP pq fun _ _ h => TRep.kept (Kept.only S.at_ oF) 3 h) fun i nm y h1 h2 => ?_
  match i, h1, h2 with
  | 0, h1, h2 =>
    cases h1
    cases h2
    exact lk_ne (by decide +kernel) (lk_ne (by decide +kernel) (lk_ne (by decide +kernel) (lk_eq)))
  | 1, h1, h2 =>
    cases h1
    cases h2
    exact lk_ne (by decide +kernel) (lk_ne (by decide +kernel) (lk_eq))
  | 2, h1, h2 =>
    cases h1
    cases h2
    exact lk_ne (by decide +kernel) (lk_eq)
  | 3, h1, h2 =>
    cases h1
    cases h2
    exact lk_eq
  | i + 4, h1, h2 => exact absurd h1 (by simp)

abbrev sAffords : Stmt := inClass (top 12) 0
theorem scAffords : SupScope ["self", "bound", "corners"] ["self", "bound", "corners"] (defScope sAffords) := ⟨rfl, rfl, rfl, by decide +kernel, rfl, by decide +kernel, by decide +kernel, by decide +kernel, by decide +kernel, by decide +kernel⟩
theorem ok_affords {f g C cc : Addr} {fd : FuncData} {cdv : Value} (F : FunS K "Affords.__init__" sAffords f cc cdv fd) (SF : SupF P K mg "__init__" cdv cc C g) (G : FnR P w K mg base CX0 6 g (spPaper K)) (T : PCls K C) (n1 : NoAttr K C "bound") (n2 : NoAttr K C "corners") :
    FnOk P w K mg base CX0 7 f fd ["self", "bound", "corners"] (spMake K C "affords" ["bound", "corners"]) := by
  obtain ⟨oc, od, kV, doc, pm, an, ct, osl, rfl, lk, hcd⟩ := F.ex
  refine fn_super (sp2 := spPaper K) lk hcd scAffords SF rfl rfl rfl rfl ?_ G (fun _ _ _ _ _ _ => passE) (fun _ => rfl) (fun _ => rfl) (fun _ => rfl) (fun _ => ⟨_, rfl⟩) ?_
  · rintro vs H Q E ⟨x, dx, rest, ds, rfl, hl, _⟩
    simp only [List.length_cons, hl]
  intro A outer s H vs Q E hr h
  obtain ⟨x, dx, rest, ds, rfl, hl, hx, pr, q⟩ := h
  obtain ⟨a, b, rfl⟩ : ∃ a b, rest = [a, b] := by
    match rest, hl with
    | [a, b], _ => exact ⟨a, b, rfl⟩
  refine ⟨x, dx, [], _, _, rfl, hx, pa_cons pe_str (pa_cons (pv 1) (pa_cons (pv 2) pa_nil)), pss_one (ps_asg (pe_fld (pv 0) rfl) (pg_tup rfl (pgs_cons (pg_fld (pv 0)) (pgs_cons (pg_fld (pv 0)) pgs_nil)))), ?_⟩
  refine ⟨_, rfl, _, rfl, x, C, dx, "affords", [a, b], ds, rfl, hx, T, (by show 2 ≤ 4; decide), pr, fun qa ys fs H1 o1 S hf hq pq => ?_⟩
  have hyl : ys.length = 2 := by
    have e1 := Paired.length pq
    have e2 := Paired.length pr
    rw [List.length_map, ← e2] at e1
    exact e1
  obtain ⟨y1, y2, rfl⟩ : ∃ y1 y2, ys = [y1, y2] := by
    match ys, hyl with
    | [y1, y2], _ => exact ⟨y1, y2, rfl⟩
  have nqx : qa ≠ x := fun e => by rw [e, S.at_] at hq; cases hq
  refine ⟨_, rfl, x, C, dx, fs, _, rfl, S.at_, T.cl, T.nP, S.pt, qa, _, rfl, .inl (.inl hq), rfl, _, _, rfl, ⟨_, rfl, x, C, dx, _, rfl, S.at_, T.cl, n1, Nat.lt_of_le_of_lt (hf) (by decide), _, _, rfl, ⟨_, rfl, x, C, dx, _, rfl, upd_same, T.cl, n2, Nat.lt_of_le_of_lt (lt_putF (hf)) (by decide), ⟨rfl, ?_⟩⟩⟩⟩
  have oF : Only x H1 (upd (upd H1 x (.ins C dx (putF "bound" y1 fs))) x (.ins C dx (putF "corners" y2 (putF "bound" y1 fs)))) := Only.trans (Only.upd _) (Only.upd _)
  refine q qa _ _ _ (o1.trans oF) ⟨upd_same, lk_ne (by decide +kernel) (lk_ne (by decide +kernel) (S.wd)), lk_ne (by decide +kernel) (lk_ne (by decide +kernel) (S.pt))⟩ (oF qa _ nqx hq) (Paired.mapP pq fun _ _ h => TRep.kept (Kept.only S.at_ oF) 3 h) fun i nm y h1 h2 => ?_
  match i, h1, h2 with
  | 0, h1, h2 =>
    cases h1
    cases h2
    exact lk_ne (by decide +kernel) (lk_eq)
  | 1, h1, h2 =>
    cases h1
    cases h2
    exact lk_eq
  | i + 2, h1, h2 => exact absurd h1 (by simp)

abbrev sBeyond : Stmt := inClass (top 13) 0
theorem scBeyond : SupScope ["self", "bound", "rows"] ["self", "bound", "rows"] (defScope sBeyond) := ⟨rfl, rfl, rfl, by decide +kernel, rfl, by decide +kernel, by decide +kernel, by decide +kernel, by decide +kernel, by decide +kernel⟩
theorem ok_beyond {f g C cc : Addr} {fd : FuncData} {cdv : Value} (F : FunS K "Beyond.__init__" sBeyond f cc cdv fd) (SF : SupF P K mg "__init__" cdv cc C g) (G : FnR P w K mg base CX0 6 g (spPaper K)) (T : PCls K C) (n1 : NoAttr K C "bound") (n2 : NoAttr K C "rows") :
    FnOk P w K mg base CX0 7 f fd ["self", "bound", "rows"] (spMake K C "beyond" ["bound", "rows"]) := by
  obtain ⟨oc, od, kV, doc, pm, an, ct, osl, rfl, lk, hcd⟩ := F.ex
  refine fn_super (sp2 := spPaper K) lk hcd scBeyond SF rfl rfl rfl rfl ?_ G (fun _ _ _ _ _ _ => passE) (fun _ => rfl) (fun _ => rfl) (fun _ => rfl) (fun _ => ⟨_, rfl⟩) ?_
  · rintro vs H Q E ⟨x, dx, rest, ds, rfl, hl, _⟩
    simp only [List.length_cons, hl]
  intro A outer s H vs Q E hr h
  obtain ⟨x, dx, rest, ds, rfl, hl, hx, pr, q⟩ := h
  obtain ⟨a, b, rfl⟩ : ∃ a b, rest = [a, b] := by
    match rest, hl with
    | [a, b], _ => exact ⟨a, b, rfl⟩
  refine ⟨x, dx, [], _, _, rfl, hx, pa_cons pe_str (pa_cons (pv 1) (pa_cons (pv 2) pa_nil)), pss_one (ps_asg (pe_fld (pv 0) rfl) (pg_tup rfl (pgs_cons (pg_fld (pv 0)) (pgs_cons (pg_fld (pv 0)) pgs_nil)))), ?_⟩
  refine ⟨_, rfl, _, rfl, x, C, dx, "beyond", [a, b], ds, rfl, hx, T, (by show 2 ≤ 4; decide), pr, fun qa ys fs H1 o1 S hf hq pq => ?_⟩
  have hyl : ys.length = 2 := by
    have e1 := Paired.length pq
    have e2 := Paired.length pr
    rw [List.length_map, ← e2] at e1
    exact e1
  obtain ⟨y1, y2, rfl⟩ : ∃ y1 y2, ys = [y1, y2] := by
    match ys, hyl with
    | [y1, y2], _ => exact ⟨y1, y2, rfl⟩
  have nqx : qa ≠ x := fun e => by rw [e, S.at_] at hq; cases hq
  refine ⟨_, rfl, x, C, dx, fs, _, rfl, S.at_, T.cl, T.nP, S.pt, qa, _, rfl, .inl (.inl hq), rfl, _, _, rfl, ⟨_, rfl, x, C, dx, _, rfl, S.at_, T.cl, n1, Nat.lt_of_le_of_lt (hf) (by decide), _, _, rfl, ⟨_, rfl, x, C, dx, _, rfl, upd_same, T.cl, n2, Nat.lt_of_le_of_lt (lt_putF (hf)) (by decide), ⟨rfl, ?_⟩⟩⟩⟩
  have oF : Only x H1 (upd (upd H1 x (.ins C dx (putF "bound" y1 fs))) x (.ins C dx (putF "rows" y2 (putF "bound" y1 fs)))) := Only.trans (Only.upd _) (Only.upd _)
  refine q qa _ _ _ (o1.trans oF) ⟨upd_same, lk_ne (by decide +kernel) (lk_ne (by decide +kernel) (S.wd)), lk_ne (by decide +kernel) (lk_ne (by decide +kernel) (S.pt))⟩ (oF qa _ nqx hq) (Paired.mapP pq fun _ _ h => TRep.kept (Kept.only S.at_ oF) 3 h) fun i nm y h1 h2 => ?_
  match i, h1, h2 with
  | 0, h1, h2 =>
    cases h1
    cases h2
    exact lk_ne (by decide +kernel) (lk_eq)
  | 1, h1, h2 =>
    cases h1
    cases h2
    exact lk_eq
  | i + 2, h1, h2 => exact absurd h1 (by simp)
end
end K47

/-! Paper.__bool__, Denial.__bool__, Paper.__eq__ -/
namespace K47
open PySem PySem.W PySem.Spec PySem.Calls PyProof.Rows L2

def spTruth (b : Bool) : Sp := fun vs H Q _ => ∃ x : V, vs = [x] ∧ Q (.bl b) H
/-- a paper, with its class's name -/
structure Pap (K : PySem.W.Frag) (PC : Addr) (H : Hp) (x : Addr) (nm w : Str) (q : Addr) : Prop where
  ex : ∃ (C dx : Addr) (fs : List (Str × V)), Std H x C dx w q fs ∧ PCls K C ∧ CK K C nm ∧ PySem.W.kitOne K (.ref C) (.ref PC) = some true
inductive EqR (K : PySem.W.Frag) (PC : Addr) (H : Hp) : Addr → Addr → Bool → Prop
  | tup {x y : Addr} {nm w : Str} {q : Addr} {ys : List V} : Pap K PC H x nm w q → H y = some (.tup ys) → PySem.W.kitOne K (.type "tuple") (.ref PC) = some false → EqR K PC H x y false
  | other {x y : Addr} {nm w nm' w' : Str} {q q' : Addr} : Pap K PC H x nm w q → Pap K PC H y nm' w' q' → nm ≠ nm' → EqR K PC H x y false
  | same {x y : Addr} {nm w : Str} {q q' : Addr} {ys zs : List V} {ds : List D} : Pap K PC H x nm w q → Pap K PC H y nm w q' → H q = some (.tup ys) → H q' = some (.tup zs) → Paired (TRep 3 H) ys ds → Paired (TRep 3 H) zs ds → EqR K PC H x y true
  | diff {x y : Addr} {nm w : Str} {q q' : Addr} {d e : PyData} : Pap K PC H x nm w q → Pap K PC H y nm w q' → Dp K H (.ref q) d → Dp K H (.ref q') e → SeqAt.shaped d = true → SeqAt.shaped e = true → PyData.eqv d e = false → EqR K PC H x y false
def spEqP (K : PySem.W.Frag) (PC : Addr) : Sp := fun vs H Q _ => ∃ (x y : Addr) (b : Bool), vs = [.ref x, .ref y] ∧ EqR K PC H x y b ∧ ∀ H', Ext H H' → Q (.bl b) H'
section
variable {P : Program} {w : World} {K : PySem.W.Frag} {mg : Str → Option Value} {base : Heap}
theorem scPB : FnScope ["self"] ["self"] (defScope sPBool) := ⟨rfl, rfl, rfl, by decide +kernel, rfl, by decide +kernel, by decide +kernel⟩
theorem scDB : FnScope ["self"] ["self"] (defScope sDBool) := ⟨rfl, rfl, rfl, by decide +kernel, rfl, by decide +kernel, by decide +kernel⟩
theorem ok_pbool {f : Addr} {fd : FuncData} (F : Fun K "__bool__" "Paper.__bool__" sPBool f fd) : FnOk P w K mg base CX0 1 f fd ["self"] (spTruth true) := by
  refine F.ok scPB (fun vs H Q E h => ?_) (fun cdv A outer s H vs Q E hr h => ?_)
  · obtain ⟨x, rfl, _⟩ := h
    rfl
  obtain ⟨x, rfl, q⟩ := h
  exact ⟨_, pss_one (ps_ret pe_bl), q⟩
theorem ok_dbool {f : Addr} {fd : FuncData} (F : Fun K "__bool__" "Denial.__bool__" sDBool f fd) : FnOk P w K mg base CX0 1 f fd ["self"] (spTruth false) := by
  refine F.ok scDB (fun vs H Q E h => ?_) (fun cdv A outer s H vs Q E hr h => ?_)
  · obtain ⟨x, rfl, _⟩ := h
    rfl
  obtain ⟨x, rfl, q⟩ := h
  exact ⟨_, pss_one (ps_ret pe_bl), q⟩
theorem scPE : FnScope ["self", "other"] ["self", "other"] (defScope sPEq) := ⟨rfl, rfl, rfl, by decide +kernel, rfl, by decide +kernel, by decide +kernel⟩
theorem ok_peq {f PC : Addr} {fd : FuncData} (F : Fun K "__eq__" "Paper.__eq__" sPEq f fd) (mP : mg "Paper" = some (.ref PC)) (mi : mg "isinstance" = none) (mb : mg "bool" = none) : FnOk P w K mg base CX0 5 f fd ["self", "other"] (spEqP K PC) := by
  refine F.ok scPE (fun vs H Q E h => ?_) (fun cdv A outer s H vs Q E hr h => ?_)
  · obtain ⟨x, y, b, rfl, _⟩ := h
    rfl
  obtain ⟨x, y, b, rfl, R, q⟩ := h
  have hu := hr.units
  refine ⟨_, pss_cons (ps_if (PW.pt (pw_or (pt_not (pt_val (pe_callB call_isi rfl mi rfl (pa_cons (pv 1) (pa_cons (pe_glob (v := .ref PC) rfl mP rfl) pa_nil))))) (pw_or1 (pt_cmpR op_ne (pe_cname (pv 0) rfl rfl) (pe_cname (pv 1) rfl rfl) (nomark _))))) (pss_one (ps_ret pe_bl)) pss_nil)
    (pss_one (ps_ret (pe_callTy call_bool1 rfl mb rfl (pa_cons (pe_and (pe_cmpR op_eq (pe_fld (pv 0) rfl) (pe_fld (pv 1) rfl) (nomark _)) (pe_one (pe_cmpR (OpR.or (op_eqG (rcG_tup (mon_DT 3) (eqG_DT 3)) hr) (op_eqD (by exact hu))) (pe_fld (pv 0) rfl) (pe_fld (pv 1) rfl) (nomark _)))) pa_nil)))), ?_⟩
  cases R with
  | tup p ht kt => exact ⟨_, rfl, _, _, .type "tuple", _, false, rfl, .own PC, .base (.tup ht), kt, _, rfl, iteT (q H Ext.rfl')⟩
  | @other nm w1 nm' w2 q1 q2 p p' hn =>
    obtain ⟨C, dx, fs, S, T, ck, kt⟩ := p.ex
    obtain ⟨C', dx', fs', S', T', ck', kt'⟩ := p'.ex
    refine ⟨_, rfl, _, _, .ref C', _, true, rfl, .own PC, .base (ck'.tyOf S'.at_), kt', _, rfl, iteF ?_⟩
    refine ⟨_, rfl, x, C, dx, fs, nm, rfl, S.at_, ck, _, rfl, y, C', dx', fs', nm', rfl, S'.at_, ck', rfl, _, rfl, ?_⟩
    exact ite2 (fun _ => q H Ext.rfl') (fun z => absurd (by simpa using hn) z)
  | @same nm w1 q1 q2 ys zs ds p p' hq hq' pr pr' =>
    obtain ⟨C, dx, fs, S, T, ck, kt⟩ := p.ex
    obtain ⟨C', dx', fs', S', T', ck', kt'⟩ := p'.ex
    refine ⟨_, rfl, _, _, .ref C', _, true, rfl, .own PC, .base (ck'.tyOf S'.at_), kt', _, rfl, iteF ?_⟩
    refine ⟨_, rfl, x, C, dx, fs, nm, rfl, S.at_, ck, _, rfl, y, C', dx', fs', nm, rfl, S'.at_, ck', rfl, _, rfl, ?_⟩
    refine ite2 (fun z => absurd z (by simp)) (fun _ => ?_)
    refine ⟨_, rfl, x, C, dx, fs, _, rfl, S.at_, T.cl, T.nW, S.wd, _, rfl, y, C', dx', fs', _, rfl, S'.at_, T'.cl, T'.nW, S'.wd, rfl, _, rfl, ?_⟩
    refine ite2 (fun _ => ?_) (fun z => absurd (by simp) z)
    refine ⟨_, rfl, x, C, dx, fs, _, rfl, S.at_, T.cl, T.nP, S.pt, _, rfl, y, C', dx', fs', _, rfl, S'.at_, T'.cl, T'.nP, S'.pt, ?_⟩
    exact .inl ⟨⟨q1, q2, ys, zs, rfl, rfl, .inl (.inl hq), .inl (.inl hq'), prs_of pr pr'⟩, fun H' x => .inr ⟨_, rfl, q H' x⟩⟩
  | @diff nm w1 q1 q2 d e p p' h1 h2 s1 s2 he =>
    obtain ⟨C, dx, fs, S, T, ck, kt⟩ := p.ex
    obtain ⟨C', dx', fs', S', T', ck', kt'⟩ := p'.ex
    refine ⟨_, rfl, _, _, .ref C', _, true, rfl, .own PC, .base (ck'.tyOf S'.at_), kt', _, rfl, iteF ?_⟩
    refine ⟨_, rfl, x, C, dx, fs, nm, rfl, S.at_, ck, _, rfl, y, C', dx', fs', nm, rfl, S'.at_, ck', rfl, _, rfl, ?_⟩
    refine ite2 (fun z => absurd z (by simp)) (fun _ => ?_)
    refine ⟨_, rfl, x, C, dx, fs, _, rfl, S.at_, T.cl, T.nW, S.wd, _, rfl, y, C', dx', fs', _, rfl, S'.at_, T'.cl, T'.nW, S'.wd, rfl, _, rfl, ?_⟩
    refine ite2 (fun _ => ?_) (fun z => absurd (by simp) z)
    refine ⟨_, rfl, x, C, dx, fs, _, rfl, S.at_, T.cl, T.nP, S.pt, _, rfl, y, C', dx', fs', _, rfl, S'.at_, T'.cl, T'.nP, S'.pt, ?_⟩
    refine .inr ⟨d, e, h1, h2, s1, s2, .inr ⟨_, rfl, ?_⟩⟩
    rw [he]
    exact q H Ext.rfl'
end
end K47

/-! Papers as they stand; making them by place and by name; the six of a turn -/
namespace K47
open PySem PySem.W PySem.Spec PySem.Calls PyProof.Rows L2

/-- what the top has of a class of papers -/
structure CP (K : PySem.W.Frag) (PC DC C : Addr) (nm : Str) (names : List Str) (feq fbP fbD : Addr) (den : Bool) : Prop where
  pc : PCls K C
  ck : CK K C nm
  kp : PySem.W.kitOne K (.ref C) (.ref PC) = some true
  kd : PySem.W.kitOne K (.ref C) (.ref DC) = some den
  eq : EqC K C feq
  bo : PySem.W.findIn K (.ref C) "__bool__" = some (some (.ref (if den = true then fbD else fbP)))
  tu : PySem.W.subIn K (.type "tuple") (.ref C) = some false
  na : ∀ (i : Nat) (n : Str), names[i]? = some n → NoAttr K C n
/-- a paper at x: its word, its parts as data, its attributes -/
structure Ppr (H : Hp) (x C : Addr) (w : Str) (names : List Str) (es : List D) : Prop where
  ex : ∃ (dx : Addr) (fs : List (Str × V)) (q : Addr) (ys : List V), Std H x C dx w q fs ∧ H q = some (.tup ys) ∧ Paired (TRep 3 H) ys es ∧ ∀ (i : Nat) (n : Str) (y : V), names[i]? = some n → ys[i]? = some y → fs.lookup n = some y
theorem Ppr.ext {H H' : Hp} {x C : Addr} {w : Str} {names : List Str} {es : List D} (p : Ppr H x C w names es) (e : Ext H H') : Ppr H' x C w names es := by
  obtain ⟨dx, fs, q, ys, S, hq, pr, hn⟩ := p
  exact ⟨dx, fs, q, ys, ⟨e _ _ S.at_, S.wd, S.pt⟩, e _ _ hq, Paired.mapP pr fun _ _ h => TRep.ext e 3 h, hn⟩
theorem paired_getR {F : V → D → Prop} : ∀ {vs : List V} {ds : List D} {i : Nat} {t : D}, Paired F vs ds → ds[i]? = some t → ∃ x, vs[i]? = some x ∧ F x t
  | _, _, _, _, .nil, h => by simp at h
  | _, _, 0, _, .cons q _, h => ⟨_, rfl, by simp at h; subst h; exact q⟩
  | _, _, i + 1, _, .cons _ qs, h => by
    obtain ⟨t, h1, h2⟩ := paired_getR (i := i) qs (by simpa using h)
    exact ⟨t, by simpa using h1, h2⟩
/-- an attribute -/
theorem Ppr.fld {H : Hp} {x C : Addr} {w : Str} {names : List Str} {es : List D} (p : Ppr H x C w names es) {i : Nat} {n : Str} {e : D} (hn : names[i]? = some n) (he : es[i]? = some e) :
    ∃ dx fs v, H x = some (.ins C dx fs) ∧ fs.lookup n = some v ∧ TRep 3 H v e := by
  obtain ⟨dx, fs, q, ys, S, hq, pr, hl⟩ := p
  obtain ⟨y, h1, h2⟩ := paired_getR pr he
  exact ⟨dx, fs, y, S.at_, hl i n y hn h1, h2⟩
theorem Ppr.pap {K : PySem.W.Frag} {PC DC C feq fbP fbD : Addr} {nm w : Str} {names ns : List Str} {den : Bool} {H : Hp} {x : Addr} {es : List D} (p : Ppr H x C w names es) (c : CP K PC DC C nm ns feq fbP fbD den) : ∃ q, Pap K PC H x nm w q := by
  obtain ⟨dx, fs, q, ys, S, hq, pr, hl⟩ := p
  exact ⟨q, ⟨C, dx, fs, S, c.pc, c.ck, c.kp⟩⟩
section
variable {P : Program} {w : World} {K : PySem.W.Frag} {mg : Str → Option Value} {base : Heap}
/-- what is had to make one -/
structure MkT (P : Program) (w : World) (K : PySem.W.Frag) (mg : Str → Option Value) (base : Heap) (cls word : Str) (names : List Str) (C f : Addr) (fd : FuncData) : Prop where
  m : Mk K C f
  g : FnOk P w K mg base CX0 7 f fd (("self" : Str) :: names) (spMake K C word names)
  b : Binds K fd (("self" : Str) :: names) []
  kb : KBn K fd (("self" : Str) :: names) 1 names.reverse (fun us ws => us ++ ws.reverse) (fun vs zs => vs ++ zs.reverse)
  mg : mg cls = some (.ref C)
theorem make_core {C : Addr} {word : Str} {names : List Str} {H : Hp} {vs : List V} {ds : List D} {Q : Addr → Hp → Prop} {E : XK} (hl : vs.length = names.length) (pr : Paired (Rep 3 H) vs ds)
    (k : ∀ x H', Ext H H' → Ppr H' x C word names (ds.map (fixD 3)) → Q x H') :
    ∀ x dx, H x = none → H dx = none → dx ≠ x → spMake K C word names (.ref x :: vs) (upd (upd H dx (.own x)) x (.ins C dx [])) (fun v H2 => v = .non ∧ Q x H2) E := by
  intro x dx hx hdx hne
  have x1 : Ext H (upd (upd H dx (.own x)) x (.ins C dx [])) := fun b o e => by
    rw [upd_ne (ne_of_none e hx), upd_ne (ne_of_none e hdx)]
    exact e
  refine ⟨x, dx, vs, ds, rfl, hl, upd_same, Paired.mapP pr fun _ _ h => Rep.ext x1 3 h, fun q ys fs H' o S hq pq hn => ⟨rfl, k x H' (fun b u e => o b u (ne_of_none e hx) (x1 b u e)) ⟨dx, fs, q, ys, S, hq, pq, hn⟩⟩⟩
theorem MkT.pos {cls word : Str} {names : List Str} {C f : Addr} {fd : FuncData} (T : MkT P w K mg base cls word names C f fd) {H : Hp} {vs : List V} {ds : List D} {Q : Addr → Hp → Prop} {E : XK} (hl : vs.length = names.length) (pr : Paired (Rep 3 H) vs ds)
    (k : ∀ x H', Ext H H' → Ppr H' x C word names (ds.map (fixD 3)) → Q x H') :
    ∀ x dx, H x = none → H dx = none → dx ≠ x → spMake K C word names (.ref x :: (vs ++ [])) (upd (upd H dx (.own x)) x (.ins C dx [])) (fun v H2 => v = .non ∧ Q x H2) E := by
  rw [List.append_nil]
  exact make_core hl pr k
theorem MkT.kw {cls word : Str} {names : List Str} {C f : Addr} {fd : FuncData} (T : MkT P w K mg base cls word names C f fd) {H : Hp} {vs zs : List V} {ds : List D} {Q : Addr → Hp → Prop} {E : XK} (hz : zs = vs.reverse) (hl : vs.length = names.length) (pr : Paired (Rep 3 H) vs ds)
    (k : ∀ x H', Ext H H' → Ppr H' x C word names (ds.map (fixD 3)) → Q x H') :
    ([] : List V).length = 0 ∧ zs.length = names.reverse.length ∧ ∀ x dx, H x = none → H dx = none → dx ≠ x → spMake K C word names ([.ref x] ++ zs.reverse) (upd (upd H dx (.own x)) x (.ins C dx [])) (fun v H2 => v = .non ∧ Q x H2) E := by
  subst hz
  refine ⟨rfl, by rw [List.length_reverse, List.length_reverse, hl], ?_⟩
  rw [List.reverse_reverse]
  exact make_core hl pr k
theorem kb_of {fd : FuncData} {names : List Str} (h : ∀ (a : Value) (ws : List Value), ws.length = names.length → bindArgs fd ⟨[a], names.reverse.zip ws⟩ = pure ((("self" : Str) :: names).zip (a :: ws.reverse))) :
    KBn K fd (("self" : Str) :: names) 1 names.reverse (fun us ws => us ++ ws.reverse) (fun vs zs => vs ++ zs.reverse) := by
  refine ⟨fun s us ws X l1 l2 => ?_, fun r1 r2 => r1.append r2.reverse⟩
  obtain ⟨a, rfl⟩ : ∃ a, us = [a] := by
    match us, l1 with
    | [a], _ => exact ⟨a, rfl⟩
  refine BindsTo.of_eq (h a ws ?_)
  rw [l2, List.length_reverse]
/-- Paper(..), Denial(..) -/
theorem make_base {C : Addr} (T : PCls K C) {word : Str} {H : Hp} {vs : List V} {ds : List D} {Q : Addr → Hp → Prop} {E : XK} (hl : vs.length ≤ 4) (pr : Paired (Rep 3 H) vs ds)
    (k : ∀ x H', Ext H H' → Ppr H' x C word [] (ds.map (fixD 3)) → Q x H') :
    ∀ x dx, H x = none → H dx = none → dx ≠ x → spPaper K (.ref x :: .str word :: vs) (upd (upd H dx (.own x)) x (.ins C dx [])) (fun v H2 => v = .non ∧ Q x H2) E := by
  intro x dx hx hdx hne
  have x1 : Ext H (upd (upd H dx (.own x)) x (.ins C dx [])) := fun b o e => by
    rw [upd_ne (ne_of_none e hx), upd_ne (ne_of_none e hdx)]
    exact e
  refine ⟨x, C, dx, word, vs, ds, rfl, upd_same, T, hl, Paired.mapP pr fun _ _ h => Rep.ext x1 3 h, fun q ys fs H' o S _ hq pq => ⟨rfl, k x H' (fun b u e => o b u (ne_of_none e hx) (x1 b u e)) ⟨dx, fs, q, ys, S, hq, pq, fun i n y h => by simp at h⟩⟩⟩
end

/-! ### the six -/
def words : List Str := ["map", "cheapest", "affords", "beyond", "track", "missed"]
def nms : List Str := ["Map", "Cheapest", "Affords", "Beyond", "Track", "Missed"]
def dens : List Bool := [false, false, false, true, false, true]
abbrev nMap : List Str := ["domain", "planes", "spots"]
abbrev nCheapest : List Str := ["costs", "point", "total", "rows"]
abbrev nAffords : List Str := ["bound", "corners"]
abbrev nBeyond : List Str := ["bound", "rows"]
abbrev nTrack : List Str := ["spots"]
abbrev nMissed : List Str := ["rows"]
/-- the classes' facts -/
structure Clss (K : PySem.W.Frag) (PC DC CM CC CA CB CT CX feq fbP fbD : Addr) : Prop where
  p : CP K PC DC PC "Paper" [] feq fbP fbD false
  d : CP K PC DC DC "Denial" [] feq fbP fbD true
  c0 : CP K PC DC CM "Map" nMap feq fbP fbD false
  c1 : CP K PC DC CC "Cheapest" nCheapest feq fbP fbD false
  c2 : CP K PC DC CA "Affords" nAffords feq fbP fbD false
  c3 : CP K PC DC CB "Beyond" nBeyond feq fbP fbD true
  c4 : CP K PC DC CT "Track" nTrack feq fbP fbD false
  c5 : CP K PC DC CX "Missed" nMissed feq fbP fbD true
  sub : ∀ (i j : Nat) (C D : Addr), [CM, CC, CA, CB, CT, CX][i]? = some C → [CM, CC, CA, CB, CT, CX][j]? = some D → i ≠ j → PySem.W.subIn K (.ref D) (.ref C) = some false
structure Six (CM CC CA CB CT CX : Addr) (H : Hp) (x0 x1 x2 x3 x4 x5 : Addr) (e0 e1 e2 e3 : D) : Prop where
  a0 : Ppr H x0 CM "map" nMap [e0, e1, e2]
  a1 : Ppr H x1 CC "cheapest" nCheapest [e0, e1, e2, e3]
  a2 : Ppr H x2 CA "affords" nAffords [e0, e1]
  a3 : Ppr H x3 CB "beyond" nBeyond [e0, e1]
  a4 : Ppr H x4 CT "track" nTrack [e0]
  a5 : Ppr H x5 CX "missed" nMissed [e0]
def esOf (e0 e1 e2 e3 : D) : List (List D) := [[e0, e1, e2], [e0, e1, e2, e3], [e0, e1], [e0, e1], [e0], [e0]]
section
variable {K : PySem.W.Frag} {PC DC CM CC CA CB CT CX feq fbP fbD : Addr} {H H' : Hp} {x0 x1 x2 x3 x4 x5 : Addr} {e0 e1 e2 e3 : D}
theorem Six.ext (S : Six CM CC CA CB CT CX H x0 x1 x2 x3 x4 x5 e0 e1 e2 e3) (e : Ext H H') : Six CM CC CA CB CT CX H' x0 x1 x2 x3 x4 x5 e0 e1 e2 e3 := ⟨S.a0.ext e, S.a1.ext e, S.a2.ext e, S.a3.ext e, S.a4.ext e, S.a5.ext e⟩
theorem Six.nth (S : Six CM CC CA CB CT CX H x0 x1 x2 x3 x4 x5 e0 e1 e2 e3) (T : Clss K PC DC CM CC CA CB CT CX feq fbP fbD) {i : Nat} {v : V} (h : [V.ref x0, .ref x1, .ref x2, .ref x3, .ref x4, .ref x5][i]? = some v) :
    ∃ (x C : Addr) (nm w : Str) (names : List Str) (es : List D) (den : Bool), v = .ref x ∧ Ppr H x C w names es ∧ CP K PC DC C nm names feq fbP fbD den ∧ words[i]? = some w ∧ nms[i]? = some nm ∧ dens[i]? = some den ∧ (esOf e0 e1 e2 e3)[i]? = some es ∧ [CM, CC, CA, CB, CT, CX][i]? = some C ∧ i < 6 := by
  match i, h with
  | 0, h => cases h; exact ⟨_, _, _, _, _, _, _, rfl, S.a0, T.c0, rfl, rfl, rfl, rfl, rfl, by decide⟩
  | 1, h => cases h; exact ⟨_, _, _, _, _, _, _, rfl, S.a1, T.c1, rfl, rfl, rfl, rfl, rfl, by decide⟩
  | 2, h => cases h; exact ⟨_, _, _, _, _, _, _, rfl, S.a2, T.c2, rfl, rfl, rfl, rfl, rfl, by decide⟩
  | 3, h => cases h; exact ⟨_, _, _, _, _, _, _, rfl, S.a3, T.c3, rfl, rfl, rfl, rfl, rfl, by decide⟩
  | 4, h => cases h; exact ⟨_, _, _, _, _, _, _, rfl, S.a4, T.c4, rfl, rfl, rfl, rfl, rfl, by decide⟩
  | 5, h => cases h; exact ⟨_, _, _, _, _, _, _, rfl, S.a5, T.c5, rfl, rfl, rfl, rfl, rfl, by decide⟩
  | i + 6, h => exact absurd h (by simp)
/-- x == y of two papers of unlike classes: False -/
theorem eq_other {C C' : Addr} {nm nm' w w' : Str} {ns ns' : List Str} {ms ms' : List Str} {den den' : Bool} {es es' : List D} {x y : Addr} (p : Ppr H x C w ns es) (c : CP K PC DC C nm ms feq fbP fbD den) (p' : Ppr H y C' w' ns' es') (c' : CP K PC DC C' nm' ms' feq fbP fbD den') (hn : nm ≠ nm') : EqR K PC H x y false := by
  obtain ⟨q, h⟩ := p.pap c
  obtain ⟨q', h'⟩ := p'.pap c'
  exact .other h h' hn
theorem eq_same {C : Addr} {nm w : Str} {ns : List Str} {ms : List Str} {den : Bool} {es : List D} {x y : Addr} (p : Ppr H x C w ns es) (p' : Ppr H y C w ns es) (c : CP K PC DC C nm ms feq fbP fbD den) : EqR K PC H x y true := by
  obtain ⟨dx, fs, q, ys, S, hq, pr, _⟩ := p
  obtain ⟨dx', fs', q', ys', S', hq', pr', _⟩ := p'
  exact .same ⟨C, dx, fs, S, c.pc, c.ck, c.kp⟩ ⟨C, dx', fs', S', c.pc, c.ck, c.kp⟩ hq hq' pr pr'
theorem nms_ne {i j : Nat} {a b : Str} (hi : nms[i]? = some a) (hj : nms[j]? = some b) (h : i ≠ j) : a ≠ b := by
  have nd : nms.Nodup := by decide +kernel
  rintro rfl
  have h1 := (List.getElem?_eq_some_iff.mp hi).1
  exact h ((List.getElem?_inj h1 nd).mp (hi.trans hj.symm))
theorem Six.two (S : Six CM CC CA CB CT CX H x0 x1 x2 x3 x4 x5 e0 e1 e2 e3) (T : Clss K PC DC CM CC CA CB CT CX feq fbP fbD) {i j : Nat} {u v : V} (hi : [V.ref x0, .ref x1, .ref x2, .ref x3, .ref x4, .ref x5][i]? = some u) (hj : [V.ref x0, .ref x1, .ref x2, .ref x3, .ref x4, .ref x5][j]? = some v) :
    Asks K feq H u v [u, v] ∧ ∃ x y, u = .ref x ∧ v = .ref y ∧ EqR K PC H x y (decide (i = j)) := by
  obtain ⟨x, C, nm, w, names, es, den, rfl, p, c, h1, h2, h3, h4, h5, _⟩ := S.nth T hi
  by_cases e : i = j
  · subst e
    rw [hi] at hj
    cases hj
    rw [decide_eq_true rfl]
    obtain ⟨dx, fs, q, ys, Sd, _⟩ := id p.ex
    exact ⟨.same Sd.at_ Sd.at_ c.eq, x, x, rfl, rfl, eq_same p p c⟩
  · rw [decide_eq_false e]
    obtain ⟨y, C', nm', w', names', es', den', rfl, p', c', g1, g2, g3, g4, g5, _⟩ := S.nth T hj
    obtain ⟨dx, fs, q, ys, Sd, _⟩ := id p.ex
    obtain ⟨dx', fs', q', ys', Sd', _⟩ := id p'.ex
    exact ⟨.other Sd.at_ Sd'.at_ c.eq (T.sub i j C C' h5 g5 e), x, y, rfl, rfl, eq_other p c p' c' (nms_ne h2 g2 e)⟩

/-! ### lists of papers -/
def ROwn (K : PySem.W.Frag) (PC : Addr) : Addr → Addr → Hp → Prop := fun x y H => ∃ (nm w : Str) (q q' : Addr) (ys zs : List V) (ds : List D), Pap K PC H x nm w q ∧ Pap K PC H y nm w q' ∧ H q = some (.tup ys) ∧ H q' = some (.tup zs) ∧ Paired (TRep 3 H) ys ds ∧ Paired (TRep 3 H) zs ds
theorem pap_ext {x : Addr} {nm w : Str} {q : Addr} (p : Pap K PC H x nm w q) (e : Ext H H') : Pap K PC H' x nm w q := by
  obtain ⟨C, dx, fs, S, h1, h2, h3⟩ := p
  exact ⟨C, dx, fs, ⟨e _ _ S.at_, S.wd, S.pt⟩, h1, h2, h3⟩
theorem rown_ext : ∀ a b H H', Ext H H' → ROwn K PC a b H → ROwn K PC a b H' := fun a b H H' e ⟨nm, w, q, q', ys, zs, ds, h1, h2, h3, h4, h5, h6⟩ =>
  ⟨nm, w, q, q', ys, zs, ds, pap_ext h1 e, pap_ext h2 e, e _ _ h3, e _ _ h4, Paired.mapP h5 fun _ _ h => TRep.ext e 3 h, Paired.mapP h6 fun _ _ h => TRep.ext e 3 h⟩
theorem rown_sp {E : XK} : ∀ a b H, ROwn K PC a b H → spEqP K PC [.ref a, .ref b] H (fun v H' => ∃ k, v = .bl k ∧ (k = true ∧ Ext H H')) E := fun a b H ⟨nm, w, q, q', ys, zs, ds, h1, h2, h3, h4, h5, h6⟩ =>
  ⟨a, b, true, rfl, .same h1 h2 h3 h4 h5 h6, fun H' e => ⟨true, rfl, rfl, e⟩⟩
theorem rown_of {C : Addr} {nm w : Str} {ns : List Str} {den : Bool} {es : List D} {x y : Addr} (p : Ppr H x C w ns es) (p' : Ppr H y C w ns es) (c : CP K PC DC C nm ns feq fbP fbD den) : DOwn K feq (ROwn K PC) (.ref x) (.ref y) H := by
  obtain ⟨dx, fs, q, ys, S, hq, pr, _⟩ := p
  obtain ⟨dx', fs', q', ys', S', hq', pr', _⟩ := p'
  exact ⟨x, y, C, dx, dx', fs, fs', rfl, rfl, S.at_, S'.at_, c.eq, nm, w, q, q', ys, ys', es, ⟨C, dx, fs, S, c.pc, c.ck, c.kp⟩, ⟨C, dx', fs', S', c.pc, c.ck, c.kp⟩, hq, hq', pr, pr'⟩
theorem Six.prs {y0 y1 y2 y3 y4 y5 : Addr} (S : Six CM CC CA CB CT CX H x0 x1 x2 x3 x4 x5 e0 e1 e2 e3) (S' : Six CM CC CA CB CT CX H y0 y1 y2 y3 y4 y5 e0 e1 e2 e3) (T : Clss K PC DC CM CC CA CB CT CX feq fbP fbD) :
    Prs (DOwn K feq (ROwn K PC)) [.ref x0, .ref x1, .ref x2, .ref x3, .ref x4, .ref x5] [.ref y0, .ref y1, .ref y2, .ref y3, .ref y4, .ref y5] H :=
  .cons (rown_of S.a0 S'.a0 T.c0) (.cons (rown_of S.a1 S'.a1 T.c1) (.cons (rown_of S.a2 S'.a2 T.c2) (.cons (rown_of S.a3 S'.a3 T.c3) (.cons (rown_of S.a4 S'.a4 T.c4) (.cons (rown_of S.a5 S'.a5 T.c5) .nil)))))
end
end K47

/-! Readings of the law's own expressions, each once -/
namespace K47
open PySem PySem.W PySem.Spec PySem.Calls PyProof.Rows L2

/-- one more drawn value in the list at D -/
theorem val_turn {d m m' : Nat} {p c D : Addr} {HD H3 H4 : Hp} {vs : List V} {ds : List K47.D} {x : V} {t : K47.D} (hDD : ∃ o, HD D = some o) (hp : ∃ o, HD p = some o) (npD : D ≠ p) (ncD : c ≠ D) (o3 : ∀ b o, b ≠ p → b ≠ D → HD b = some o → H3 b = some o)
    (P3 : PenAt H3 p c m) (hv : H3 D = some (.lst vs)) (pr : Paired (Rep d (fresh HD H3)) vs ds) (rp : Rep d (fresh H3 H4) x t) (o4 : Only p H3 H4) (P4 : PenAt H4 p c m') :
    H4 D = some (.lst vs) ∧ (∀ b o, b ≠ p → b ≠ D → HD b = some o → upd H4 D (.lst (vs ++ [x])) b = some o) ∧ PenAt (upd H4 D (.lst (vs ++ [x]))) p c m' ∧ Paired (Rep d (fresh HD (upd H4 D (.lst (vs ++ [x]))))) (vs ++ [x]) (ds ++ [t]) := by
  refine ⟨o4 D _ npD hv, fun b o hb hbD e => by rw [upd_ne hbD]; exact o4 b o hb (o3 b o hb hbD e), ?_, Paired.snoc (Paired.mapP pr fun a b hab => Rep.ext (fresh_map fun c' o h1 h2 => ⟨h2, ?_⟩) d hab) (Rep.ext (fresh_map fun c' o h1 h2 => ?_) d rp)⟩
  · obtain ⟨ns, t', r', g1, g2, g3, g4, g5⟩ := P4
    exact ⟨ns, t', r', by rw [upd_ne npD.symm]; exact g1, by rw [upd_ne ncD]; exact g2, g3, g4, g5⟩
  · have n1 : c' ≠ D := fun e => by
      obtain ⟨o, z⟩ := hDD
      rw [e, z] at h2
      cases h2
    have n2 : c' ≠ p := fun e => by
      obtain ⟨o, z⟩ := hp
      rw [e, z] at h2
      cases h2
    rw [upd_ne n1]
    exact o4 c' o n2 h1
  · have n1 : c' ≠ D := fun e => by
      rw [e, hv] at h2
      cases h2
    have n2 : c' ≠ p := fun e => by
      obtain ⟨_, _, _, z, _⟩ := P3
      rw [e, z] at h2
      cases h2
    refine ⟨?_, by rw [upd_ne n1]; exact h1⟩
    cases z : HD c' with
    | none => rfl
    | some o' =>
      rw [o3 c' o' n2 n1 z] at h2
      cases h2

section
variable {K : PySem.W.Frag} {σ : L2.St} {H : Hp} {Q : VK}
theorem rd_ix {i : Nat} {S : Addr} {xs : List V} {k : Int} {v : V} (hσ : σ[i]? = some (some (.ref S))) (hs : H S = some (.lst xs)) (hv : atI xs k = some v) (q : Q v H) : tOp (rIxL K) (tVar i) (tC (.int k)) σ H Q :=
  ⟨_, hσ, S, xs, k, v, rfl, rfl, .inl (.inl hs), hv, q⟩
theorem rd_slice {i : Nat} {S : Addr} {xs : List V} {k : Int} {zs : List V} (hσ : σ[i]? = some (some (.ref S))) (hs : H S = some (.lst xs)) (hz : cutV xs none (some k) = zs) (q : ∀ s H', Ext H H' → H' s = some (.lst zs) → Q (.ref s) H') : tSl (rSlL K) (tVar i) tNoPart (tPart (tC (.int k))) σ H Q := by
  refine ⟨_, hσ, _, rfl, S, xs, rfl, .inl (.inl hs), fun s hs' => q s _ (ext_new hs' _) ?_⟩
  rw [upd_same, hz]
theorem rd_cat {a b : Addr} {xs ys : List V} (ha : H a = some (.lst xs)) (hb : H b = some (.lst ys)) (hz : xs.length + ys.length ≤ sizeLine) (q : ∀ c H', Ext H H' → H' c = some (.lst (xs ++ ys)) → Q (.ref c) H') : rCat (.ref a) (.ref b) H Q :=
  ⟨a, b, xs, ys, rfl, rfl, ha, hb, hz, fun p hp => q p _ (ext_new hp _) upd_same⟩
theorem rd_tupOf {a : Addr} {xs : List V} (ha : H a = some (.lst xs)) (q : ∀ t H', Ext H H' → H' t = some (.tup xs) → Q (.ref t) H') : kTup K (.ref a) H Q :=
  .inl ⟨a, xs, rfl, .inl (.inl ha), fun t ht => q t _ (ext_new ht _) upd_same⟩
theorem rd_lst {xs : List V} (hz : xs.length ≤ sizeLine) (q : ∀ l H', Ext H H' → H' l = some (.lst xs) → Q (.ref l) H') : xs.length ≤ sizeLine ∧ ∀ p, H p = none → Q (.ref p) (upd H p (.lst xs)) :=
  ⟨hz, fun p hp => q p _ (ext_new hp _) upd_same⟩
theorem rd_tup {xs : List V} (hz : xs.length ≤ sizeLine) (q : ∀ l H', Ext H H' → H' l = some (.tup xs) → Q (.ref l) H') : xs.length ≤ sizeLine ∧ ∀ p, H p = none → Q (.ref p) (upd H p (.tup xs)) :=
  ⟨hz, fun p hp => q p _ (ext_new hp _) upd_same⟩
/-- [elt for x in l], elt only reads -/
theorem lc_pure {a : Addr} {xs zs : List V} {te : TE} {vs : List Nat} {D : Addr} {slot : Nat} {Qd : Hp → Prop} (ha : H a = some (.lst xs)) (hD : H D = none) (hz : zs.length = xs.length) (h1000 : xs.length ≤ 1000)
    (hw : ∀ x, wipe ((wipe σ vs).set slot (some x)) vs = wipe σ vs)
    (he : ∀ (j : Nat) (x z : V) (H3 : Hp) (Q : VK), xs[j]? = some x → zs[j]? = some z → Ext H H3 → Q z H3 → te ((wipe σ vs).set slot (some x)) H3 Q) (hd : ∀ H3, Ext H H3 → H3 D = some (.lst zs) → Qd H3) :
    ∃ W : Nat → Nat → Hp → Prop, (∃ m, W 0 m (upd H D (.lst []))) ∧ ∀ i m H, W i m H →
      ((Itl K a).stop i H ∧ Qd H) ∨ ((Itl K a).go i H ∧ ∃ Nx : Hp → Prop, (∀ H', Nx H' → ∃ m', m' < m ∧ W (i + 1) m' H') ∧ ∀ x H', (Itl K a).yld i H x H' → gName slot x (wipe σ vs) H' fun σ2 H2 => wipe σ2 vs = wipe σ vs ∧ tYes σ2 H2 fun b H3 =>
        if b = true then te σ2 H3 fun y H4 => ∃ acc, H4 D = some (.lst acc) ∧ acc.length < sizeLine ∧ Nx (upd H4 D (.lst (acc ++ [y]))) else Nx H3) := by
  refine lc_list (K := K) (xs := xs) (fun i H2 => Ext H H2 ∧ H2 D = some (.lst (zs.take i))) ⟨ext_new hD _, upd_same⟩ (fun i H2 _ h => .inl (.inl (h.1 _ _ ha))) ?_ ?_
  · rintro i x H2 hi ⟨h1, h2⟩
    have hil : i < xs.length := (List.getElem?_eq_some_iff.mp hi).1
    have hzi : zs[i]? = some zs[i] := List.getElem?_eq_getElem (by omega)
    refine ⟨hw x, tyes (he i x zs[i] H2 _ hi hzi h1 ⟨_, h2, small1000 (by rw [List.length_take]; omega), ?_, ?_⟩)⟩
    · intro b o e
      rw [upd_ne (ne_of_none e hD)]
      exact h1 b o e
    · rw [upd_same, List.take_succ, hzi]
      rfl
  · rintro H2 ⟨h1, h2⟩
    refine hd H2 h1 ?_
    rw [← hz, List.take_length] at h2
    exact h2
end

theorem dp_strs {K : PySem.W.Frag} {H : Hp} : ∀ ss : List Str, DpAll K H (ss.map V.str) (ss.map PyData.str)
  | [] => .nil
  | z :: ss => .cons (.str z) (dp_strs ss)
theorem dp_dens {K : PySem.W.Frag} {H : Hp} : ∀ bs : List Bool, DpAll K H (bs.map fun d => V.bl (!d)) (bs.map fun d => PyData.bool (!d))
  | [] => .nil
  | b :: bs => .cons (.bl (!b)) (dp_dens bs)
theorem eqv_words : (!PyData.eqv (.list (words.map PyData.str)) (.list (words.map PyData.str))) = false := by
  simp [words, PyData.eqv, PyData.eqvAll]
theorem eqv_dens : (!PyData.eqv (.list (dens.map fun d => PyData.bool (!d))) (.list (dens.map fun d => PyData.bool (!d)))) = false := by
  simp [dens, PyData.eqv, PyData.eqvAll]
/-- a tuple of such -/
theorem trep_tup {n : Nat} {H : Hp} {t : Addr} {vs : List V} {ds : List D} (ht : H t = some (.tup vs)) (hl : vs.length ≤ 4) (p : Paired (TRep n H) vs ds) : TRep (n + 1) H (.ref t) (.tup ds) := .inr ⟨t, vs, ds, rfl, rfl, ht, hl, p⟩
/-- the parts of the six -/
theorem Six.parts {CM CC CA CB CT CX : Addr} {H : Hp} {x0 x1 x2 x3 x4 x5 : Addr} {e0 e1 e2 e3 : D} (S : Six CM CC CA CB CT CX H x0 x1 x2 x3 x4 x5 e0 e1 e2 e3) :
    ∃ qs : List V, qs.length = [V.ref x0, .ref x1, .ref x2, .ref x3, .ref x4, .ref x5].length ∧
      (∀ (j : Nat) (y : Addr) (z : V), [V.ref x0, .ref x1, .ref x2, .ref x3, .ref x4, .ref x5][j]? = some (.ref y) → qs[j]? = some z → ∃ C dx fs, H y = some (.ins C dx fs) ∧ fs.lookup ("parts" : Str) = some z) ∧
      Paired (TRep 4 H) qs ((esOf e0 e1 e2 e3).map D.tup) := by
  obtain ⟨dx0, fs0, q0, ys0, S0, h0, p0, _⟩ := S.a0
  obtain ⟨dx1, fs1, q1, ys1, S1, h1, p1, _⟩ := S.a1
  obtain ⟨dx2, fs2, q2, ys2, S2, h2, p2, _⟩ := S.a2
  obtain ⟨dx3, fs3, q3, ys3, S3, h3, p3, _⟩ := S.a3
  obtain ⟨dx4, fs4, q4, ys4, S4, h4, p4, _⟩ := S.a4
  obtain ⟨dx5, fs5, q5, ys5, S5, h5, p5, _⟩ := S.a5
  refine ⟨[.ref q0, .ref q1, .ref q2, .ref q3, .ref q4, .ref q5], rfl, fun j y z hy hz => ?_, ?_⟩
  · match j, hy, hz with
    | 0, hy, hz => cases hy; cases hz; exact ⟨_, _, _, S0.at_, S0.pt⟩
    | 1, hy, hz => cases hy; cases hz; exact ⟨_, _, _, S1.at_, S1.pt⟩
    | 2, hy, hz => cases hy; cases hz; exact ⟨_, _, _, S2.at_, S2.pt⟩
    | 3, hy, hz => cases hy; cases hz; exact ⟨_, _, _, S3.at_, S3.pt⟩
    | 4, hy, hz => cases hy; cases hz; exact ⟨_, _, _, S4.at_, S4.pt⟩
    | 5, hy, hz => cases hy; cases hz; exact ⟨_, _, _, S5.at_, S5.pt⟩
    | j + 6, hy, hz => exact absurd hy (by simp)
  · have le : ∀ {ys : List V} {ds : List K47.D} {n : Nat}, Paired (TRep 3 H) ys ds → ds.length ≤ 4 → ys.length ≤ 4 := fun p h => by rw [Paired.length p]; exact h
    exact .cons (trep_tup h0 (le (n := 0) p0 (by simp)) p0) (.cons (trep_tup h1 (le (n := 0) p1 (by simp)) p1) (.cons (trep_tup h2 (le (n := 0) p2 (by simp)) p2) (.cons (trep_tup h3 (le (n := 0) p3 (by simp)) p3) (.cons (trep_tup h4 (le (n := 0) p4 (by simp)) p4) (.cons (trep_tup h5 (le (n := 0) p5 (by simp)) p5) .nil)))))
theorem iteIfT {c : Bool} {A B : Prop} (h : c = true) (a : A) : if c = true then A else B := by
  rw [if_pos h]
  exact a
theorem iteIfF {c : Bool} {A B : Prop} (h : c = false) (b : B) : if c = true then A else B := by
  rw [if_neg (by rw [h]; decide)]
  exact b
theorem eqv_one {i : Int} : (!PyData.eqv (.list [.int i]) (.list [.int i])) = false := by
  simp [PyData.eqv, PyData.eqvAll]
theorem den_at {j : Nat} {den : Bool} (h : dens[j]? = some den) : ¬ (!decide (V.bl den = V.bl (if false = true then !inV (.int (j : Nat)) [.int 3, .int 5] else inV (.int (j : Nat)) [.int 3, .int 5]))) = true := by
  match j, h with
  | 0, h => cases h; decide
  | 1, h => cases h; decide
  | 2, h => cases h; decide
  | 3, h => cases h; decide
  | 4, h => cases h; decide
  | 5, h => cases h; decide
  | j + 6, h => exact absurd h (by simp [dens])
/-- what a turn has drawn -/
structure Drawn (H : Hp) (p c : Addr) (m : Nat) (S U : Addr) (v0 v1 v2 v3 w0 w1 w2 w3 : V) (d0 d1 d2 d3 : D) : Prop where
  pen : PenAt H p c m
  hs : H S = some (.lst [v0, v1, v2, v3])
  hu : H U = some (.lst [w0, w1, w2, w3])
  r0 : Rep 3 H v0 d0
  r1 : Rep 3 H v1 d1
  r2 : Rep 3 H v2 d2
  r3 : Rep 3 H v3 d3
  t0 : TRep 3 H w0 (fixD 3 d0)
  t1 : TRep 3 H w1 (fixD 3 d1)
  t2 : TRep 3 H w2 (fixD 3 d2)
  t3 : TRep 3 H w3 (fixD 3 d3)
theorem Drawn.ext {H H' : Hp} {p c : Addr} {m : Nat} {S U : Addr} {v0 v1 v2 v3 w0 w1 w2 w3 : V} {d0 d1 d2 d3 : D} (W : Drawn H p c m S U v0 v1 v2 v3 w0 w1 w2 w3 d0 d1 d2 d3) (e : Ext H H') : Drawn H' p c m S U v0 v1 v2 v3 w0 w1 w2 w3 d0 d1 d2 d3 :=
  ⟨W.pen.ext e, e _ _ W.hs, e _ _ W.hu, W.r0.ext e, W.r1.ext e, W.r2.ext e, W.r3.ext e, W.t0.ext e, W.t1.ext e, W.t2.ext e, W.t3.ext e⟩
theorem TRep.rep {H : Hp} : ∀ (n : Nat) {v : V} {d : D}, TRep n H v d → Rep n H v d
  | 0, _, _, h => h
  | n + 1, _, _, h => by
    rcases h with h | ⟨a, vs, ds, e1, e2, ha, hl, p⟩
    · exact .inl h
    · exact .inr (.inr ⟨a, vs, ds, e1, e2, ha, hl, Paired.mapP p fun _ _ q => TRep.rep n q⟩)
theorem trep_up {H : Hp} : ∀ (n : Nat) {v : V} {d : D}, TRep n H v d → TRep (n + 1) H v d
  | 0, _, _, h => .inl h
  | n + 1, _, _, h => by
    rcases h with h | ⟨a, vs, ds, e1, e2, ha, hl, p⟩
    · exact .inl h
    · exact .inr ⟨a, vs, ds, e1, e2, ha, hl, Paired.mapP p fun _ _ q => trep_up n q⟩
theorem cls_ne {K : PySem.W.Frag} {PC DC C C' feq fbP fbD : Addr} {nm nm' : Str} {ms ms' : List Str} {den den' : Bool} (c : CP K PC DC C nm ms feq fbP fbD den) (c' : CP K PC DC C' nm' ms' feq fbP fbD den') (h : nm ≠ nm') : C ≠ C' := by
  rintro rfl
  obtain ⟨od, cd, sl, tk, e1, e2⟩ := c.ck.nm.at_
  obtain ⟨od', cd', sl', tk', e3, e4⟩ := c'.ck.nm.at_
  rw [e1] at e3
  cases e3
  rw [e2] at e4
  cases e4
  exact h rfl
theorem eq_diff {K : PySem.W.Frag} {PC DC C feq fbP fbD : Addr} {H : Hp} {nm w : Str} {ns ns' : List Str} {ms : List Str} {den : Bool} {es es' : List D} {x y : Addr} {as bs : List PyData} (p : Ppr H x C w ns es) (p' : Ppr H y C w ns' es') (c : CP K PC DC C nm ms feq fbP fbD den)
    (h1 : ∀ ys, Paired (TRep 3 H) ys es → DpAll K H ys as) (h2 : ∀ ys, Paired (TRep 3 H) ys es' → DpAll K H ys bs) (s1 : SeqAt.shaped (.tuple as) = true) (s2 : SeqAt.shaped (.tuple bs) = true) (hne : PyData.eqv (.tuple as) (.tuple bs) = false) : EqR K PC H x y false := by
  obtain ⟨dx, fs, q, ys, S, hq, pr, _⟩ := p
  obtain ⟨dx', fs', q', ys', S', hq', pr', _⟩ := p'
  exact .diff ⟨C, dx, fs, S, c.pc, c.ck, c.kp⟩ ⟨C, dx', fs', S', c.pc, c.ck, c.kp⟩ (.tup (.inl (.inl hq)) (h1 ys pr)) (.tup (.inl (.inl hq')) (h2 ys' pr')) s1 s2 hne
theorem dp_str1 {K : PySem.W.Frag} {H : Hp} {v : V} {z : Str} (h : TRep 3 H v (.str z)) : Dp K H v (.str z) := by
  rcases h with h | ⟨a, vs, ds, _, e, _⟩
  · cases h
    exact .str z
  · cases e
theorem dp_int1 {K : PySem.W.Frag} {H : Hp} {v : V} {i : Int} : ∀ n, TRep n H v (.int i) → Dp K H v (.int i)
  | 0, h => by
    cases h
    exact .int i
  | n + 1, h => by
    rcases h with h | ⟨a, vs, ds, _, e, _⟩
    · cases h
      exact .int i
    · cases e
theorem dp_tup1 {K : PySem.W.Frag} {H : Hp} {v : V} {i : Int} (h : TRep 3 H v (.tup [.int i])) : Dp K H v (.tuple [.int i]) := by
  rcases h with h | ⟨a, vs, ds, rfl, e, ha, _, p⟩
  · cases h
  · cases e
    cases p with
    | cons q p =>
      cases p
      exact .tup (.inl (.inl ha)) (.cons (dp_int1 2 q) .nil)
theorem dp_s {K : PySem.W.Frag} {H : Hp} {z : Str} : ∀ ys, Paired (TRep 3 H) ys [.str z] → DpAll K H ys [.str z]
  | _, .cons q .nil => .cons (dp_str1 q) .nil
theorem dp_t {K : PySem.W.Frag} {H : Hp} {i : Int} : ∀ ys, Paired (TRep 3 H) ys [.tup [.int i]] → DpAll K H ys [.tuple [.int i]]
  | _, .cons q .nil => .cons (dp_tup1 q) .nil
theorem dp_3 {K : PySem.W.Frag} {H : Hp} {i j k : Int} : ∀ ys, Paired (TRep 3 H) ys [.int i, .int j, .int k] → DpAll K H ys [.int i, .int j, .int k]
  | _, .cons q (.cons q2 (.cons q3 .nil)) => .cons (dp_int1 3 q) (.cons (dp_int1 3 q2) (.cons (dp_int1 3 q3) .nil))
theorem leaf_s {H : Hp} (z : Str) (h : (reprText z).length ≤ 40) : Rep 3 H (.str z) (.str z) := (Leaf.str z h).rep 3
theorem leaf_i {H : Hp} (n : Nat) (i : Int) (h : i.natAbs.log2 < 1920) (hz : (toString i : Str).length ≤ 40) : Rep n H (.int i) (.int i) := (Leaf.int i h hz).rep n
theorem rep_t {H : Hp} {t : Addr} {i : Int} (h : i.natAbs.log2 < 1920) (hz : (toString i : Str).length ≤ 40) (ht : H t = some (.tup [.int i])) : Rep 3 H (.ref t) (.tup [.int i]) :=
  .inr (.inr ⟨t, [.int i], [.int i], rfl, rfl, ht, by show 1 ≤ 4; decide, .cons (leaf_i 2 i h hz) .nil⟩)
theorem ne_zz : PyData.eqv (.tuple [.str "zz"]) (.tuple [.str "z"]) = false := by
  have h : ¬ (("zz" : Str) = "z") := by decide +kernel
  simp [PyData.eqv, PyData.eqvAll, h]
theorem ne_34 : PyData.eqv (.tuple [.int 1, .int 2, .int 3]) (.tuple [.int 1, .int 2, .int 4]) = false := by
  simp [PyData.eqv, PyData.eqvAll]
theorem ne_12 : PyData.eqv (.tuple [.tuple [.int 1]]) (.tuple [.tuple [.int 2]]) = false := by
  simp [PyData.eqv, PyData.eqvAll]
end K47

/-! The law -/
namespace K47
open PySem PySem.W PySem.Spec PySem.Calls PyProof.Rows L2
abbrev sLaw : Stmt := top 20
theorem callR_or {X : Cx} {c : Value} {r r' : List V → Hp → VK → Prop} (h : CallR X c r) (h' : CallR X c r') : CallR X c (fun xs H Q => r xs H Q ∨ r' xs H Q) := by
  intro pins s σ H xs us Q I rv q
  rcases q with q | q
  · exact h pins s σ H xs us Q I rv q
  · exact h' pins s σ H xs us Q I rv q
/-- a def's promise, how it is called -/
structure Fn1 (P : Program) (w : World) (K : PySem.W.Frag) (mg : Str → Option Value) (base : Heap) (k : Nat) (x : Str) (ps : List Str) (sp : Sp) (f : Addr) (fd : FuncData) : Prop where
  ok : FnOk P w K mg base CX0 k f fd ps sp
  b : Binds K fd ps []
  kp : PySem.W.keepIn K (.ref f) = true
  mg : mg x = some (.ref f)
structure Fn0 (P : Program) (w : World) (K : PySem.W.Frag) (mg : Str → Option Value) (base : Heap) (k : Nat) (ps : List Str) (sp : Sp) (f : Addr) (fd : FuncData) : Prop where
  ok : FnOk P w K mg base CX0 k f fd ps sp
  b : Binds K fd ps []
  fn : PySem.W.isFn K (.ref f) = true
/-- all that the law rests on -/
structure LawT (P : Program) (w : World) (K : PySem.W.Frag) (mg : Str → Option Value) (base : Heap) (PC DC CM CC CA CB CT CX feq fbP fbD : Addr) : Prop where
  cls : Clss K PC DC CM CC CA CB CT CX feq fbP fbD
  pen : ∃ f fd, Fn1 P w K mg base 1 "_law_pen" ["script"] (spPen K) f fd
  val : ∃ f fd, Fn1 P w K mg base 6 "_law_any_value" ["pen", "deep"] (spVal 3) f fd
  inT : ∃ f fd, Fn1 P w K mg base 4 "_law_in_tuples" ["told"] (spFix 3) f fd
  peq : ∃ fd, Fn0 P w K mg base 5 ["self", "other"] (spEqP K PC) feq fd
  pbo : ∃ fd, Fn0 P w K mg base 1 ["self"] (spTruth true) fbP fd
  dbo : ∃ fd, Fn0 P w K mg base 1 ["self"] (spTruth false) fbD fd
  t0 : ∃ f fd, MkT P w K mg base "Map" "map" nMap CM f fd
  t1 : ∃ f fd, MkT P w K mg base "Cheapest" "cheapest" nCheapest CC f fd
  t2 : ∃ f fd, MkT P w K mg base "Affords" "affords" nAffords CA f fd
  t3 : ∃ f fd, MkT P w K mg base "Beyond" "beyond" nBeyond CB f fd
  t4 : ∃ f fd, MkT P w K mg base "Track" "track" nTrack CT f fd
  t5 : ∃ f fd, MkT P w K mg base "Missed" "missed" nMissed CX f fd
  mkr : ∃ f, FnR P w K mg base CX0 6 f (spPaper K) ∧ Mk K PC f ∧ Mk K DC f
  mP : mg "Paper" = some (.ref PC)
  mD : mg "Denial" = some (.ref DC)
  rM : PySem.W.subIn K (.ref CM) (.ref PC) = some true
  rT : PySem.W.subIn K (.ref CT) (.ref PC) = some true
  rX : PySem.W.subIn K (.ref CX) (.ref DC) = some true
  kt : PySem.W.kitOne K (.type "tuple") (.ref PC) = some false
  ra : mg "range" = none
  re : mg "repr" = none
  tu : mg "tuple" = none
  en : mg "enumerate" = none
  is_ : mg "isinstance" = none
  bo : mg "bool" = none
section
variable {P : Program} {w : World} {K : PySem.W.Frag} {mg : Str → Option Value} {base : Heap}
theorem scLaw : FnScope ["script", "pen", "turn", "some", "one", "due", "papers", "by_name", "two", "three", "four", "five", "six", "told", "at", "paper", "lap", "spot", "other"] ["script"] (defScope sLaw) := ⟨rfl, rfl, rfl, by decide +kernel, rfl, by decide +kernel, by decide +kernel⟩
theorem law_body {f : Addr} {cdv : Value} {PC DC CM CC CA CB CT CX feq fbP fbD : Addr} (L : LawT P w K mg base PC DC CM CC CA CB CT CX feq fbP fbD) (A : Around) (outer : List Env) (s : Shared) (H : Hp) (Q : VK) (E : XK) (a : Addr) (ns : List Int)
    (hg : (A.deeper (envOfC "law" (defScope sLaw) s.heap.objs.size f cdv)).guards = some []) (hr : Room 8 (A.deeper (envOfC "law" (defScope sLaw) s.heap.objs.size f cdv))) (hS : SqL K H a (ns.map V.int)) (hlen : ns.length ≤ 63) (q : ∀ H', Q (.bl true) H') :
    ∃ t, PSs (cxOf CX0 P w K mg base ["script", "pen", "turn", "some", "one", "due", "papers", "by_name", "two", "three", "four", "five", "six", "told", "at", "paper", "lap", "spot", "other"] "law" (defScope sLaw) f cdv A outer s H E).nox (defBody sLaw) t ∧ t { nx := fun _ H' => Q .non H', rt := Q } (L2.start ["script", "pen", "turn", "some", "one", "due", "papers", "by_name", "two", "three", "four", "five", "six", "told", "at", "paper", "lap", "spot", "other"] [.ref a]) H := by
  obtain ⟨fN, fdN, hN⟩ := L.pen
  obtain ⟨fV, fdV, hV⟩ := L.val
  obtain ⟨fT, fdT, hT⟩ := L.inT
  obtain ⟨fdE, hE⟩ := L.peq
  obtain ⟨fdB, hB⟩ := L.pbo
  obtain ⟨fdD, hD⟩ := L.dbo
  obtain ⟨f0, fd0, t0⟩ := L.t0
  obtain ⟨f1, fd1, t1⟩ := L.t1
  obtain ⟨f2, fd2, t2⟩ := L.t2
  obtain ⟨f3, fd3, t3⟩ := L.t3
  obtain ⟨f4, fd4, t4⟩ := L.t4
  obtain ⟨f5, fd5, t5⟩ := L.t5
  obtain ⟨fP, FP, mkP, mkD⟩ := L.mkr
  obtain ⟨GP, bN, kN, mN⟩ := hN
  obtain ⟨GV, bV, kV, mV⟩ := hV
  obtain ⟨GT, bT, kT, mT⟩ := hT
  obtain ⟨PE, bE, iE⟩ := hE
  obtain ⟨PB, bPB, iPB⟩ := hB
  obtain ⟨PD, bPD, iPD⟩ := hD
  have mP := L.mP
  have mD := L.mD
  have mra := L.ra
  have mre := L.re
  have mtu := L.tu
  have men := L.en
  have mis := L.is_
  have mbo := L.bo
  have T := L.cls
  have hr1 : Room 1 _ := hr.mono (by decide)
  have hr3 : Room 3 _ := hr.mono (by decide)
  have hr4 : Room 4 _ := hr.mono (by decide)
  have hr5 : Room 5 _ := hr.mono (by decide)
  have hr6 : Room 6 _ := hr.mono (by decide)
  have hr7 : Room 7 _ := hr.mono (by decide)
  have hu := hr.units
  refine ⟨_, pss_cons (ps_set (i := 1) scLaw.nd rfl (Or.inr rfl) (pe_call GP hr1 rfl mN kN bN .nil pass0 (pa_cons (pv 0) pa_nil)))
    (pss_cons (ps_for PassesOwn.never rfl (pi_range1 rfl mra (pa_cons pe_int pa_nil)) (pg_name (i := 2) scLaw.nd rfl (Or.inl rfl))
      (C8.pss_cut (ps_setLc (i := 3) (own := [("lap", 16)]) rfl scLaw.nd rfl rfl (sw_true rfl rfl rfl rfl) (pi_range1 rfl mra (pa_cons pe_int pa_nil)) (blkOk_by (N := ["script", "pen", "turn", "some", "one", "due", "papers", "by_name", "two", "three", "four", "five", "six", "told", "at", "paper", "lap", "spot", "other"]) (sc := defScope sLaw) (by decide +kernel)) (fun _ _ _ _ _ => (pg_name (i := 16) scLaw.nd rfl (Or.inl rfl))) (fun _ _ _ _ _ => pts_nil) (fun _ _ _ _ _ => (pe_call GV hr6 rfl mV kV bV .nil pass0 (pa_cons (pv 1) (pa_cons pe_int pa_nil)))))
      (C8.pss_cut (ps_setLc (i := 5) (own := [("one", 4)]) rfl scLaw.nd rfl rfl (sw_true rfl rfl rfl rfl) (pi_list (pv 3)) (blkOk_by (N := ["script", "pen", "turn", "some", "one", "due", "papers", "by_name", "two", "three", "four", "five", "six", "told", "at", "paper", "lap", "spot", "other"]) (sc := defScope sLaw) (by decide +kernel)) (fun _ _ _ _ _ => (pg_name (i := 4) scLaw.nd rfl (Or.inl rfl))) (fun _ _ _ _ _ => pts_nil) (fun _ _ _ _ _ => (pe_call GT hr4 rfl mT kT bT .nil pass0 (pa_cons (pv 4) pa_nil))))
      (C8.pss_cut (ps_set (i := 6) scLaw.nd rfl (Or.inl rfl) (pe_lst (pa_cons (pe_make t0.m t0.g hr rfl t0.mg t0.b .nil pass0 (pa_cons (pe_ix ix_list (pv 3) pe_int (fun _ _ => rfl)) (pa_cons (pe_ix ix_list (pv 3) pe_int (fun _ _ => rfl)) (pa_cons (pe_ix ix_list (pv 3) pe_int (fun _ _ => rfl)) pa_nil)))) (pa_cons (pe_make t1.m t1.g hr rfl t1.mg t1.b .nil pass0 (pa_cons (pe_ix ix_list (pv 3) pe_int (fun _ _ => rfl)) (pa_cons (pe_ix ix_list (pv 3) pe_int (fun _ _ => rfl)) (pa_cons (pe_ix ix_list (pv 3) pe_int (fun _ _ => rfl)) (pa_cons (pe_ix ix_list (pv 3) pe_int (fun _ _ => rfl)) pa_nil))))) (pa_cons (pe_make t2.m t2.g hr rfl t2.mg t2.b .nil pass0 (pa_cons (pe_ix ix_list (pv 3) pe_int (fun _ _ => rfl)) (pa_cons (pe_ix ix_list (pv 3) pe_int (fun _ _ => rfl)) pa_nil))) (pa_cons (pe_make t3.m t3.g hr rfl t3.mg t3.b .nil pass0 (pa_cons (pe_ix ix_list (pv 3) pe_int (fun _ _ => rfl)) (pa_cons (pe_ix ix_list (pv 3) pe_int (fun _ _ => rfl)) pa_nil))) (pa_cons (pe_make t4.m t4.g hr rfl t4.mg t4.b .nil pass0 (pa_cons (pe_ix ix_list (pv 3) pe_int (fun _ _ => rfl)) pa_nil)) (pa_cons (pe_make t5.m t5.g hr rfl t5.mg t5.b .nil pass0 (pa_cons (pe_ix ix_list (pv 3) pe_int (fun _ _ => rfl)) pa_nil)) pa_nil))))))))
      (C8.pss_cut (ps_set (i := 7) scLaw.nd rfl (Or.inl rfl) (pe_lst (pa_cons (pe_makeK0 t0.m t0.g hr rfl t0.mg t0.kb pass0 (pk_cons (pe_ix ix_list (pv 3) pe_int (fun _ _ => rfl)) (pk_cons (pe_ix ix_list (pv 3) pe_int (fun _ _ => rfl)) (pk_cons (pe_ix ix_list (pv 3) pe_int (fun _ _ => rfl)) pk_nil)))) (pa_cons (pe_makeK0 t1.m t1.g hr rfl t1.mg t1.kb pass0 (pk_cons (pe_ix ix_list (pv 3) pe_int (fun _ _ => rfl)) (pk_cons (pe_ix ix_list (pv 3) pe_int (fun _ _ => rfl)) (pk_cons (pe_ix ix_list (pv 3) pe_int (fun _ _ => rfl)) (pk_cons (pe_ix ix_list (pv 3) pe_int (fun _ _ => rfl)) pk_nil))))) (pa_cons (pe_makeK0 t2.m t2.g hr rfl t2.mg t2.kb pass0 (pk_cons (pe_ix ix_list (pv 3) pe_int (fun _ _ => rfl)) (pk_cons (pe_ix ix_list (pv 3) pe_int (fun _ _ => rfl)) pk_nil))) pa_nil)))))
      (C8.pss_cut (ps_set (i := 7) scLaw.nd rfl (Or.inl rfl) (pe_op op_cat (pv 7) (pe_lst (pa_cons (pe_makeK0 t3.m t3.g hr rfl t3.mg t3.kb pass0 (pk_cons (pe_ix ix_list (pv 3) pe_int (fun _ _ => rfl)) (pk_cons (pe_ix ix_list (pv 3) pe_int (fun _ _ => rfl)) pk_nil))) (pa_cons (pe_makeK0 t4.m t4.g hr rfl t4.mg t4.kb pass0 (pk_cons (pe_ix ix_list (pv 3) pe_int (fun _ _ => rfl)) pk_nil)) (pa_cons (pe_makeK0 t5.m t5.g hr rfl t5.mg t5.kb pass0 (pk_cons (pe_ix ix_list (pv 3) pe_int (fun _ _ => rfl)) pk_nil)) pa_nil))))))
      (C8.pss_cut (ps_if (PW.pt (pw_or (pt_cmpR (op_neLG (mon_own rown_ext) (eqG_own PE bE pass0 rown_sp) hr6) (pv 6) (pv 7) (nomark _)) (pw_or (pt_cmpR (op_neD hu) (pe_lc (own := [("one", 4)]) (te := tFld K (tVar 4) "word") rfl scLaw.nd (pi_list (pv 6)) (blkOk_by (N := ["script", "pen", "turn", "some", "one", "due", "papers", "by_name", "two", "three", "four", "five", "six", "told", "at", "paper", "lap", "spot", "other"]) (sc := defScope sLaw) (by decide +kernel)) (fun _ _ _ _ _ => (pg_name (i := 4) scLaw.nd rfl (Or.inl rfl))) (fun _ _ _ _ _ => pts_nil) (fun _ _ _ _ _ => (pe_fld (pv 4) rfl))) (pe_lst (pa_cons pe_str (pa_cons pe_str (pa_cons pe_str (pa_cons pe_str (pa_cons pe_str (pa_cons pe_str pa_nil))))))) (nomark _)) (pw_or1 (pt_cmpR (op_neD hu) (pe_lc (own := [("one", 4)]) (te := tCB (fun xs H Q => rBoolO K fbP (spTruth true) E0 xs H Q ∨ rBoolO K fbD (spTruth false) E0 xs H Q) (tCons (tVar 4) tNil)) rfl scLaw.nd (pi_list (pv 6)) (blkOk_by (N := ["script", "pen", "turn", "some", "one", "due", "papers", "by_name", "two", "three", "four", "five", "six", "told", "at", "paper", "lap", "spot", "other"]) (sc := defScope sLaw) (by decide +kernel)) (fun _ _ _ _ _ => (pg_name (i := 4) scLaw.nd rfl (Or.inl rfl))) (fun _ _ _ _ _ => pts_nil) (fun _ _ _ _ _ => (pe_callTy (callR_or (call_boolO PB bPB pass0 hr3 iPB) (call_boolO PD bPD pass0 hr3 iPD)) rfl mbo rfl (pa_cons (pv 4) pa_nil)))) (pe_lst (pa_cons pe_bl (pa_cons pe_bl (pa_cons pe_bl (pa_cons pe_bl (pa_cons pe_bl (pa_cons pe_bl pa_nil))))))) (nomark _)))))) (pss_one (ps_ret pe_bl)) pss_nil)
      (C8.pss_cut (ps_if (pt_cmpR op_ne (pe_callB (call_reprL hg hr) rfl mre rfl (pa_cons (pe_lc (own := [("one", 4)]) (te := tFld K (tVar 4) "parts") rfl scLaw.nd (pi_list (pv 6)) (blkOk_by (N := ["script", "pen", "turn", "some", "one", "due", "papers", "by_name", "two", "three", "four", "five", "six", "told", "at", "paper", "lap", "spot", "other"]) (sc := defScope sLaw) (by decide +kernel)) (fun _ _ _ _ _ => (pg_name (i := 4) scLaw.nd rfl (Or.inl rfl))) (fun _ _ _ _ _ => pts_nil) (fun _ _ _ _ _ => (pe_fld (pv 4) rfl))) pa_nil)) (pe_callB (call_reprL hg hr) rfl mre rfl (pa_cons (pe_lst (pa_cons (pe_tupleOf rfl mtu (pe_slice sl_list (pv 5) po_none (po_some pe_int))) (pa_cons (pe_tupleOf rfl mtu (pv 5)) (pa_cons (pe_tupleOf rfl mtu (pe_slice sl_list (pv 5) po_none (po_some pe_int))) (pa_cons (pe_tupleOf rfl mtu (pe_slice sl_list (pv 5) po_none (po_some pe_int))) (pa_cons (pe_tup (pa_cons (pe_ix ix_list (pv 5) pe_int (fun _ _ => rfl)) pa_nil)) (pa_cons (pe_tup (pa_cons (pe_ix ix_list (pv 5) pe_int (fun _ _ => rfl)) pa_nil)) pa_nil))))))) pa_nil)) (nomark _)) (pss_one (ps_ret pe_bl)) pss_nil)
      (C8.pss_cut (ps_asg (pv 6) (pg_unl rfl (pgs_cons (pg_name (i := 4) scLaw.nd rfl (Or.inl rfl)) (pgs_cons (pg_name (i := 8) scLaw.nd rfl (Or.inl rfl)) (pgs_cons (pg_name (i := 9) scLaw.nd rfl (Or.inl rfl)) (pgs_cons (pg_name (i := 10) scLaw.nd rfl (Or.inl rfl)) (pgs_cons (pg_name (i := 11) scLaw.nd rfl (Or.inl rfl)) (pgs_cons (pg_name (i := 12) scLaw.nd rfl (Or.inl rfl)) pgs_nil))))))))
      (C8.pss_cut (ps_set (i := 13) scLaw.nd rfl (Or.inl rfl) (pe_lst (pa_cons (pe_fld (pv 4) rfl) (pa_cons (pe_fld (pv 4) rfl) (pa_cons (pe_fld (pv 4) rfl) (pa_cons (pe_fld (pv 8) rfl) (pa_cons (pe_fld (pv 8) rfl) (pa_cons (pe_fld (pv 8) rfl) (pa_cons (pe_fld (pv 8) rfl) (pa_cons (pe_fld (pv 9) rfl) (pa_cons (pe_fld (pv 9) rfl) (pa_cons (pe_fld (pv 10) rfl) (pa_cons (pe_fld (pv 10) rfl) (pa_cons (pe_fld (pv 11) rfl) (pa_cons (pe_fld (pv 12) rfl) pa_nil)))))))))))))))
      (C8.pss_cut (ps_if (pt_cmpR op_ne (pe_callB (call_reprL hg hr) rfl mre rfl (pa_cons (pv 13) pa_nil)) (pe_callB (call_reprL hg hr) rfl mre rfl (pa_cons (pe_op op_cat (pe_op op_cat (pe_op op_cat (pe_op op_cat (pe_op op_cat (pe_slice sl_list (pv 5) po_none (po_some pe_int)) (pv 5)) (pe_slice sl_list (pv 5) po_none (po_some pe_int))) (pe_slice sl_list (pv 5) po_none (po_some pe_int))) (pe_slice sl_list (pv 5) po_none (po_some pe_int))) (pe_slice sl_list (pv 5) po_none (po_some pe_int))) pa_nil)) (nomark _)) (pss_one (ps_ret pe_bl)) pss_nil)
      (C8.pss_cut (ps_for PassesOwn.never rfl (pi_enum rfl men (pa_cons (pv 6) pa_nil)) (pg_tup rfl (pgs_cons (pg_name (i := 14) scLaw.nd rfl (Or.inl rfl)) (pgs_cons (pg_name (i := 15) scLaw.nd rfl (Or.inr rfl)) pgs_nil))) (pss_one (ps_if (PW.pt (pw_or (pt_cmpR (op_neD hu) (pe_lc (own := [("spot", 17), ("other", 18)]) (g := gTup K 2 (gCons (gName 17) (gCons (gName 18) gNil))) (tt := tTest (tOp (rAsks K feq (spEqP K PC) E0) (tVar 18) (tVar 15))) rfl scLaw.nd (pi_enum rfl men (pa_cons (pv 6) pa_nil)) (blkOk_by (N := ["script", "pen", "turn", "some", "one", "due", "papers", "by_name", "two", "three", "four", "five", "six", "told", "at", "paper", "lap", "spot", "other"]) (sc := defScope sLaw) (by decide +kernel)) (fun _ _ _ _ _ => pg_tup rfl (pgs_cons (pg_name (i := 17) scLaw.nd rfl (Or.inl rfl)) (pgs_cons (pg_name (i := 18) scLaw.nd rfl (Or.inl rfl)) pgs_nil))) (fun _ _ _ _ _ => pts_one (pt_cmpR (op_asks PE bE pass0 hr5) (pv 18) (pv 15) (nomark _))) (fun _ _ _ _ _ => (pv 17))) (pe_lst (pa_cons (pv 14) pa_nil)) (nomark _)) (pw_or (pt_cmpR (op_asks PE bE pass0 hr5) (pv 15) (pe_fld (pv 15) rfl) (nomark _)) (pw_or1 (pt_cmpR op_ne (pe_callB call_isi rfl mis rfl (pa_cons (pv 15) (pa_cons (pe_glob (v := .ref DC) rfl mD rfl) pa_nil))) (pe_cmpR op_in_seq (pv 14) (pe_tup (pa_cons pe_int (pa_cons pe_int pa_nil))) rfl) (nomark _)))))) (pss_one (ps_ret pe_bl)) pss_nil)))
      (C8.pss_cut (ps_if (PW.pt (pw_or (pt_cmpR (op_asks PE bE pass0 hr5) (StX.pe_makeR mkP FP hr7 rfl mP pass0 (pa_cons pe_str (pa_cons (pe_ix ix_list (pv 5) pe_int (fun _ _ => rfl)) (pa_cons (pe_ix ix_list (pv 5) pe_int (fun _ _ => rfl)) (pa_cons (pe_ix ix_list (pv 5) pe_int (fun _ _ => rfl)) pa_nil))))) (pv 4) (nomark _)) (pw_or (pt_cmpR (op_asks PE bE pass0 hr5) (StX.pe_makeR mkP FP hr7 rfl mP pass0 (pa_cons pe_str (pa_cons (pe_ix ix_list (pv 5) pe_int (fun _ _ => rfl)) pa_nil))) (pv 11) (nomark _)) (pw_or1 (pt_cmpR (op_asks PE bE pass0 hr5) (StX.pe_makeR mkD FP hr7 rfl mD pass0 (pa_cons pe_str (pa_cons (pe_ix ix_list (pv 5) pe_int (fun _ _ => rfl)) pa_nil))) (pv 12) (nomark _)))))) (pss_one (ps_ret pe_bl)) pss_nil)
      (pss_one (ps_if (PW.pt (pw_or (pt_cmpR (op_asks PE bE pass0 hr5) (pe_make t4.m t4.g hr rfl t4.mg t4.b .nil pass0 (pa_cons pe_str pa_nil)) (pe_make t4.m t4.g hr rfl t4.mg t4.b .nil pass0 (pa_cons pe_str pa_nil)) (nomark _)) (pw_or (pt_cmpR (op_asks PE bE pass0 hr5) (pe_make t0.m t0.g hr rfl t0.mg t0.b .nil pass0 (pa_cons pe_int (pa_cons pe_int (pa_cons pe_int pa_nil)))) (pe_make t0.m t0.g hr rfl t0.mg t0.b .nil pass0 (pa_cons pe_int (pa_cons pe_int (pa_cons pe_int pa_nil)))) (nomark _)) (pw_or (pt_not (pt_cmpR (op_neO PE bE pass0 hr6) (pe_make t5.m t5.g hr rfl t5.mg t5.b .nil pass0 (pa_cons (pe_tup (pa_cons pe_int pa_nil)) pa_nil)) (pe_make t5.m t5.g hr rfl t5.mg t5.b .nil pass0 (pa_cons (pe_tup (pa_cons pe_int pa_nil)) pa_nil)) (nomark _))) (pw_or1 (pt_not (pt_val (pe_callB call_isi rfl mis rfl (pa_cons (pe_ix ix_list (pv 6) pe_int (fun _ _ => rfl)) (pa_cons (pe_glob (v := .ref PC) rfl mP rfl) pa_nil)))))))))) (pss_one (ps_ret pe_bl)) pss_nil)))))))))))))))
    (pss_one (ps_ret pe_bl))), ?_⟩
  -- pen = _law_pen(script)
  refine ⟨_, rfl, a, ns, rfl, hS, hlen, fun p c H1 x1 P1 => ?_⟩
  -- for turn in range(6)
  refine ⟨6, rfl, by decide, by decide, for_it (walk_range (lo := 0) (n := 6)) (fun i σ H2 => (∃ u2 u3 u4 u5 u6 u7 u8 u9 u10 u11 u12 u13 u14 u15 u16 u17 u18, σ = [some (.ref a), some (.ref p), u2, u3, u4, u5, u6, u7, u8, u9, u10, u11, u12, u13, u14, u15, u16, u17, u18]) ∧ PenAt H2 p c (i * 120))
    ⟨⟨_, _, _, _, _, _, _, _, _, _, _, _, _, _, _, _, _, rfl⟩, P1⟩ (fun _ _ _ _ _ => trivial) ?_ (fun σ H2 _ => q H2)⟩
  rintro i x σ Hx H2 hi ⟨⟨u2, u3, u4, u5, u6, u7, u8, u9, u10, u11, u12, u13, u14, u15, u16, u17, u18, rfl⟩, P2⟩ ⟨rfl, rfl⟩
  -- some
  refine ⟨fun σ' H3 => ∃ (S : Addr) (vs : List V) (ds : List K47.D), σ' = [some (.ref a), some (.ref p), some (.int (0 + (i : Int))), some (.ref S), u4, u5, u6, u7, u8, u9, u10, u11, u12, u13, u14, u15, u16, u17, u18] ∧ PenAt H3 p c ((i + 1) * 120) ∧ H3 S = some (.lst vs) ∧ vs.length = 4 ∧ Paired (Rep 3 H3) vs ds, ?_, ?_⟩
  · refine ⟨4, rfl, by decide, by decide, fun D hD => ?_⟩
    have hp2 : ∃ o, H2 p = some o := let ⟨_, _, _, e, _⟩ := P2.ex; ⟨_, e⟩
    have npD : D ≠ p := fun e => by
      obtain ⟨o, z⟩ := hp2
      rw [e, z] at hD
      cases hD
    have ncD : c ≠ D := fun e => by
      obtain ⟨_, _, _, _, z, _⟩ := P2
      rw [e, hD] at z
      cases z
    obtain ⟨HD, hHD⟩ : ∃ HD, upd H2 D (.lst []) = HD := ⟨_, rfl⟩
    have xD : Ext H2 HD := by rw [← hHD]; exact ext_new hD _
    have hpD : ∃ o, HD p = some o := let ⟨o, z⟩ := hp2; ⟨o, xD _ _ z⟩
    have hDD : HD D = some (.lst []) := by rw [← hHD, upd_same]
    refine lc_range (lo := 0) (n := 4) (fun j H3 => (∀ b o, b ≠ p → b ≠ D → HD b = some o → H3 b = some o) ∧ PenAt H3 p c (i * 120 + j * 30) ∧ ∃ vs ds, H3 D = some (.lst vs) ∧ vs.length = j ∧ Paired (Rep 3 (fresh HD H3)) vs ds) ?_ ?_ ?_
    · rw [hHD]
      exact ⟨fun b o _ _ h => h, P2.ext xD, [], [], hDD, rfl, .nil⟩
    · rintro j H3 hj ⟨o3, P3, vs, ds, hv, hl, pr⟩
      refine ⟨rfl, tyes ?_⟩
      refine ⟨_, rfl, p, c, i * 120 + j * 30, rfl, P3, (by show _ + 30 ≤ 100000; omega), fun x t H4 rp o4 P4 => ?_⟩
      obtain ⟨z1, z2, z3, z4⟩ := val_turn ⟨_, hDD⟩ hpD npD ncD o3 P3 hv pr rp o4 P4
      refine ⟨vs, z1, small1000 (by omega), z2, ?_, vs ++ [x], _, upd_same, by rw [List.length_append, hl]; rfl, z4⟩
      have e : i * 120 + j * 30 + cost 3 = i * 120 + (j + 1) * 30 := by
        show _ + 30 = _
        omega
      rw [e] at z3
      exact z3
    · rintro H3 ⟨o3, P3, vs, ds, hv, hl, pr⟩
      exact ⟨D, vs, ds, rfl, P3.mono (by omega), hv, hl, Paired.mapP pr fun _ _ h => Rep.ext fresh_all 3 h⟩
  rintro σ1 H3 ⟨S, vs, ds, rfl, P3, hS3, hl3, pr3⟩
  -- due
  refine ⟨fun σ' H4 => ∃ (U : Addr) (ws : List V), σ' = [some (.ref a), some (.ref p), some (.int (0 + (i : Int))), some (.ref S), u4, some (.ref U), u6, u7, u8, u9, u10, u11, u12, u13, u14, u15, u16, u17, u18] ∧ Ext H3 H4 ∧ H4 U = some (.lst ws) ∧ Paired (TRep 3 H4) ws (ds.map (fixD 3)), ?_, ?_⟩
  · refine ⟨_, rfl, S, rfl, ⟨vs, .inl (.inl hS3)⟩, fun D hD => ?_⟩
    obtain ⟨HD, hHD⟩ : ∃ HD, upd H3 D (.lst []) = HD := ⟨_, rfl⟩
    have xD : Ext H3 HD := by rw [← hHD]; exact ext_new hD _
    have hDD : HD D = some (.lst []) := by rw [← hHD, upd_same]
    have sD : S ≠ D := ne_of_none hS3 hD
    refine lc_list (K := K) (a := S) (xs := vs) (fun j H4 => (∀ b o, b ≠ D → HD b = some o → H4 b = some o) ∧ ∃ ws, H4 D = some (.lst ws) ∧ ws.length = j ∧ Paired (TRep 3 (sel H3 HD H4)) ws ((ds.take j).map (fixD 3))) ?_ (fun j H4 _ h => .inl (.inl (h.1 S _ sD (xD _ _ hS3)))) ?_ ?_
    · rw [hHD]
      exact ⟨fun b o _ h => h, [], hDD, rfl, .nil⟩
    · rintro j y H4 hj ⟨o4, ws, hv, hl', pr'⟩
      obtain ⟨t, ht, rt⟩ := paired_get pr3 hj
      have hjl : j < vs.length := (List.getElem?_eq_some_iff.mp hj).1
      have x4 : Ext H3 H4 := fun b o e => o4 b o (ne_of_none e hD) (xD _ _ e)
      refine ⟨rfl, tyes ?_⟩
      refine ⟨_, rfl, y, t, H3, rfl, x4, rt, fun z H5 x5 ty => ?_⟩
      obtain ⟨z1, z2⟩ := fix_turn Ext.rfl' xD hD ⟨_, hDD⟩ o4 hv hl' pr' x5 ty
      refine ⟨ws, x5 _ _ hv, small1000 (by omega), z1, ws ++ [z], upd_same, by rw [List.length_append, hl']; rfl, ?_⟩
      rw [List.take_succ, ht, List.map_append]
      exact z2
    · rintro H4 ⟨o4, ws, hv, hl', pr'⟩
      have hds : ds.take vs.length = ds := by rw [Paired.length pr3]; exact List.take_length
      rw [hds] at pr'
      exact ⟨D, ws, rfl, fun b o e => o4 b o (ne_of_none e hD) (xD _ _ e), hv, Paired.mapP pr' fun _ _ h => TRep.ext (fun b o e => (sel_inv e).1) 3 h⟩
  rintro σ2 H4 ⟨U, ws, rfl, x4, hU4, prU⟩
  obtain ⟨v0, v1, v2, v3, rfl⟩ : ∃ v0 v1 v2 v3, vs = [v0, v1, v2, v3] := by
    match vs, hl3 with
    | [v0, v1, v2, v3], _ => exact ⟨v0, v1, v2, v3, rfl⟩
  obtain ⟨d0, d1, d2, d3, rfl⟩ : ∃ d0 d1 d2 d3, ds = [d0, d1, d2, d3] := by
    match ds, Paired.length pr3 with
    | [d0, d1, d2, d3], _ => exact ⟨d0, d1, d2, d3, rfl⟩
  obtain ⟨w0, w1, w2, w3, rfl⟩ : ∃ w0 w1 w2 w3, ws = [w0, w1, w2, w3] := by
    match ws, Paired.length prU with
    | [w0, w1, w2, w3], _ => exact ⟨w0, w1, w2, w3, rfl⟩
  have W4 : Drawn H4 p c ((i + 1) * 120) S U v0 v1 v2 v3 w0 w1 w2 w3 d0 d1 d2 d3 := by
    cases pr3 with
    | cons a0 pr3 => cases pr3 with
      | cons a1 pr3 => cases pr3 with
        | cons a2 pr3 => cases pr3 with
          | cons a3 pr3 => cases prU with
            | cons b0 prU => cases prU with
              | cons b1 prU => cases prU with
                | cons b2 prU => cases prU with
                  | cons b3 prU => exact ⟨P3.ext x4, x4 _ _ hS3, hU4, a0.ext x4, a1.ext x4, a2.ext x4, a3.ext x4, b0, b1, b2, b3⟩
  clear P3 hS3 hl3 pr3 x4 hU4 prU P2
  -- papers
  refine ⟨fun σ' H5 => ∃ (g x0 x1 x2 x3 x4 x5 : Addr), σ' = [some (.ref a), some (.ref p), some (.int (0 + (i : Int))), some (.ref S), u4, some (.ref U), some (.ref g), u7, u8, u9, u10, u11, u12, u13, u14, u15, u16, u17, u18] ∧ Drawn H5 p c ((i + 1) * 120) S U v0 v1 v2 v3 w0 w1 w2 w3 d0 d1 d2 d3 ∧ H5 g = some (.lst [.ref x0, .ref x1, .ref x2, .ref x3, .ref x4, .ref x5]) ∧ Six CM CC CA CB CT CX H5 x0 x1 x2 x3 x4 x5 (fixD 3 d0) (fixD 3 d1) (fixD 3 d2) (fixD 3 d3), ?_, ?_⟩
  · refine ⟨_, rfl, S, _, _, _, rfl, rfl, .inl (.inl W4.hs), rfl, _, rfl, S, _, _, _, rfl, rfl, .inl (.inl W4.hs), rfl, _, rfl, S, _, _, _, rfl, rfl, .inl (.inl W4.hs), rfl, t0.pos (ds := [d0, d1, d2]) rfl (.cons W4.r0 (.cons W4.r1 (.cons W4.r2 .nil))) fun x0 H5 e5 qx0 => ?_⟩
    have W5 := W4.ext e5
    refine ⟨_, rfl, S, _, _, _, rfl, rfl, .inl (.inl W5.hs), rfl, _, rfl, S, _, _, _, rfl, rfl, .inl (.inl W5.hs), rfl, _, rfl, S, _, _, _, rfl, rfl, .inl (.inl W5.hs), rfl, _, rfl, S, _, _, _, rfl, rfl, .inl (.inl W5.hs), rfl, t1.pos (ds := [d0, d1, d2, d3]) rfl (.cons W5.r0 (.cons W5.r1 (.cons W5.r2 (.cons W5.r3 .nil)))) fun x1 H6 e6 qx1 => ?_⟩
    have W6 := W5.ext e6
    refine ⟨_, rfl, S, _, _, _, rfl, rfl, .inl (.inl W6.hs), rfl, _, rfl, S, _, _, _, rfl, rfl, .inl (.inl W6.hs), rfl, t2.pos (ds := [d0, d1]) rfl (.cons W6.r0 (.cons W6.r1 .nil)) fun x2 H7 e7 qx2 => ?_⟩
    have W7 := W6.ext e7
    refine ⟨_, rfl, S, _, _, _, rfl, rfl, .inl (.inl W7.hs), rfl, _, rfl, S, _, _, _, rfl, rfl, .inl (.inl W7.hs), rfl, t3.pos (ds := [d0, d1]) rfl (.cons W7.r0 (.cons W7.r1 .nil)) fun x3 H8 e8 qx3 => ?_⟩
    have W8 := W7.ext e8
    refine ⟨_, rfl, S, _, _, _, rfl, rfl, .inl (.inl W8.hs), rfl, t4.pos (ds := [d0]) rfl (.cons W8.r0 .nil) fun x4 H9 e9 qx4 => ?_⟩
    have W9 := W8.ext e9
    refine ⟨_, rfl, S, _, _, _, rfl, rfl, .inl (.inl W9.hs), rfl, t5.pos (ds := [d0]) rfl (.cons W9.r0 .nil) fun x5 H10 e10 qx5 => ?_⟩
    have W10 := W9.ext e10
    refine ⟨(by show 6 ≤ sizeLine; decide), fun g hg => ?_⟩
    have eg := ext_new hg (.lst [.ref x0, .ref x1, .ref x2, .ref x3, .ref x4, .ref x5])
    exact ⟨g, x0, x1, x2, x3, x4, x5, rfl, W10.ext eg, upd_same, ⟨((((((qx0.ext e6).ext e7).ext e8).ext e9).ext e10).ext eg), (((((qx1.ext e7).ext e8).ext e9).ext e10).ext eg), ((((qx2.ext e8).ext e9).ext e10).ext eg), (((qx3.ext e9).ext e10).ext eg), ((qx4.ext e10).ext eg), (qx5.ext eg)⟩⟩
  clear W4
  rintro σ3 H5 ⟨g, x0, x1, x2, x3, x4, x5, rfl, W5, hg5, S5⟩
  -- by_name, the first three
  refine ⟨fun σ' H6 => ∃ (b y0 y1 y2 : Addr), σ' = [some (.ref a), some (.ref p), some (.int (0 + (i : Int))), some (.ref S), u4, some (.ref U), some (.ref g), some (.ref b), u8, u9, u10, u11, u12, u13, u14, u15, u16, u17, u18] ∧ Ext H5 H6 ∧ H6 b = some (.lst [.ref y0, .ref y1, .ref y2]) ∧ Ppr H6 y0 CM "map" nMap [fixD 3 d0, fixD 3 d1, fixD 3 d2] ∧ Ppr H6 y1 CC "cheapest" nCheapest [fixD 3 d0, fixD 3 d1, fixD 3 d2, fixD 3 d3] ∧ Ppr H6 y2 CA "affords" nAffords [fixD 3 d0, fixD 3 d1], ?_, ?_⟩
  · refine ⟨_, rfl, S, _, _, _, rfl, rfl, .inl (.inl W5.hs), rfl, _, rfl, S, _, _, _, rfl, rfl, .inl (.inl W5.hs), rfl, _, rfl, S, _, _, _, rfl, rfl, .inl (.inl W5.hs), rfl, t0.kw (vs := [v0, v1, v2]) (ds := [d0, d1, d2]) rfl rfl (.cons W5.r0 (.cons W5.r1 (.cons W5.r2 .nil))) fun y0 H6 e6 qy0 => ?_⟩
    have W6 := W5.ext e6
    refine ⟨_, rfl, S, _, _, _, rfl, rfl, .inl (.inl W6.hs), rfl, _, rfl, S, _, _, _, rfl, rfl, .inl (.inl W6.hs), rfl, _, rfl, S, _, _, _, rfl, rfl, .inl (.inl W6.hs), rfl, _, rfl, S, _, _, _, rfl, rfl, .inl (.inl W6.hs), rfl, t1.kw (vs := [v0, v1, v2, v3]) (ds := [d0, d1, d2, d3]) rfl rfl (.cons W6.r0 (.cons W6.r1 (.cons W6.r2 (.cons W6.r3 .nil)))) fun y1 H7 e7 qy1 => ?_⟩
    have W7 := W6.ext e7
    refine ⟨_, rfl, S, _, _, _, rfl, rfl, .inl (.inl W7.hs), rfl, _, rfl, S, _, _, _, rfl, rfl, .inl (.inl W7.hs), rfl, t2.kw (vs := [v0, v1]) (ds := [d0, d1]) rfl rfl (.cons W7.r0 (.cons W7.r1 .nil)) fun y2 H8 e8 qy2 => ?_⟩
    have W8 := W7.ext e8
    refine ⟨(by show 3 ≤ sizeLine; decide), fun b hb => ?_⟩
    have eb := ext_new hb (.lst [.ref y0, .ref y1, .ref y2])
    exact ⟨b, y0, y1, y2, rfl, Ext.tr e6 (Ext.tr e7 (Ext.tr e8 eb)), upd_same, (((qy0.ext e7).ext e8).ext eb), ((qy1.ext e8).ext eb), (qy2.ext eb)⟩
  rintro σ4 H6 ⟨b, y0, y1, y2, rfl, e6, hb6, r0, r1, r2⟩
  have W6 := W5.ext e6
  -- by_name, all six
  refine ⟨fun σ' H7 => ∃ (l y3 y4 y5 : Addr), σ' = [some (.ref a), some (.ref p), some (.int (0 + (i : Int))), some (.ref S), u4, some (.ref U), some (.ref g), some (.ref l), u8, u9, u10, u11, u12, u13, u14, u15, u16, u17, u18] ∧ Ext H6 H7 ∧ H7 l = some (.lst [.ref y0, .ref y1, .ref y2, .ref y3, .ref y4, .ref y5]) ∧ Six CM CC CA CB CT CX H7 y0 y1 y2 y3 y4 y5 (fixD 3 d0) (fixD 3 d1) (fixD 3 d2) (fixD 3 d3), ?_, ?_⟩
  · refine ⟨_, rfl, _, rfl, S, _, _, _, rfl, rfl, .inl (.inl W6.hs), rfl, _, rfl, S, _, _, _, rfl, rfl, .inl (.inl W6.hs), rfl, t3.kw (vs := [v0, v1]) (ds := [d0, d1]) rfl rfl (.cons W6.r0 (.cons W6.r1 .nil)) fun y3 H7 e7 qy3 => ?_⟩
    have W7 := W6.ext e7
    refine ⟨_, rfl, S, _, _, _, rfl, rfl, .inl (.inl W7.hs), rfl, t4.kw (vs := [v0]) (ds := [d0]) rfl rfl (.cons W7.r0 .nil) fun y4 H8 e8 qy4 => ?_⟩
    have W8 := W7.ext e8
    refine ⟨_, rfl, S, _, _, _, rfl, rfl, .inl (.inl W8.hs), rfl, t5.kw (vs := [v0]) (ds := [d0]) rfl rfl (.cons W8.r0 .nil) fun y5 H9 e9 qy5 => ?_⟩
    have W9 := W8.ext e9
    refine ⟨(by show 3 ≤ sizeLine; decide), fun m hm => ?_⟩
    have em := ext_new hm (.lst [.ref y3, .ref y4, .ref y5])
    have e10 := Ext.tr e7 (Ext.tr e8 (Ext.tr e9 em))
    refine rd_cat (e10 _ _ hb6) upd_same (by show 6 ≤ sizeLine; decide) fun l H10 e11 hl10 => ?_
    exact ⟨l, y3, y4, y5, rfl, Ext.tr e10 e11, hl10, ⟨(r0.ext e10).ext e11, (r1.ext e10).ext e11, (r2.ext e10).ext e11, ((((qy3.ext e8).ext e9).ext em).ext e11), (((qy4.ext e9).ext em).ext e11), ((qy5.ext em).ext e11)⟩⟩
  rintro σ5 H7 ⟨l, y3, y4, y5, rfl, e7, hl7, Z7⟩
  have W7 := W6.ext e7
  have S7 := (S5.ext e6).ext e7
  have hg7 := e7 _ _ (e6 _ _ hg5)
  clear W5 W6 S5 hg5 hb6 r0 r1 r2 e6 e7
  -- the six and the same by name; words; truths
  refine ⟨fun σ' H8 => σ' = [some (.ref a), some (.ref p), some (.int (0 + (i : Int))), some (.ref S), u4, some (.ref U), some (.ref g), some (.ref l), u8, u9, u10, u11, u12, u13, u14, u15, u16, u17, u18] ∧ Ext H7 H8, ?_, ?_⟩
  · refine ⟨_, rfl, _, rfl, ⟨g, l, _, _, rfl, rfl, hg7, hl7, S7.prs Z7 T⟩, fun H8 e8 => ⟨_, rfl, iteF ?_⟩⟩
    refine ⟨_, rfl, g, rfl, ⟨_, .inl (.inl (e8 _ _ hg7))⟩, fun D hD => lc_pure (zs := words.map V.str) (e8 _ _ hg7) hD rfl (by show 6 ≤ 1000; decide) (fun _ => rfl) ?_ ?_⟩
    · intro j x z H9 Q' hx hz e9 hq
      obtain ⟨y, C, nm, wd, names, es, den, rfl, pp, cp, h1, h2, h3, h4, h5, h6⟩ := S7.nth T hx
      obtain ⟨dx, fs, q', ys, Sd, _⟩ := pp.ex
      have ez : z = .str wd := by
        rw [List.getElem?_map, h1] at hz
        exact (Option.some.inj hz).symm
      subst ez
      exact ⟨_, rfl, y, C, dx, fs, _, rfl, e9 _ _ (e8 _ _ Sd.at_), cp.pc.cl, cp.pc.nW, Sd.wd, hq⟩
    · intro H9 e9 hD9
      refine ⟨(by show 6 ≤ sizeLine; decide), fun m hm => ⟨.list (words.map PyData.str), .list (words.map PyData.str), .lst (.inl (.inl (ext_new hm _ _ _ hD9))) (dp_strs words), .lst (.inl (.inl upd_same)) (dp_strs words), (by decide +kernel), (by decide +kernel), _, rfl, ?_⟩⟩
      rw [eqv_words]
      refine iteF ?_
      have e10 := Ext.tr (Ext.tr e8 e9) (ext_new hm (.lst (words.map V.str)))
      obtain ⟨H10, hH10⟩ : ∃ H10, upd H9 m (.lst (words.map V.str)) = H10 := ⟨_, rfl⟩
      rw [hH10] at e10
      refine ⟨_, rfl, g, rfl, ⟨[.ref x0, .ref x1, .ref x2, .ref x3, .ref x4, .ref x5], .inl (.inl ?_)⟩, fun D2 hD2 => lc_pure (xs := [.ref x0, .ref x1, .ref x2, .ref x3, .ref x4, .ref x5]) (zs := dens.map fun d => V.bl (!d)) ?_ hD2 rfl (by show 6 ≤ 1000; decide) (fun _ => rfl) ?_ ?_⟩
      · exact Eq.trans (congrFun hH10 g) (e10 _ _ hg7)
      · exact Eq.trans (congrFun hH10 g) (e10 _ _ hg7)
      · intro j x z H11 Q' hx hz e11 hq
        obtain ⟨y, C, nm, wd, names, es, den, rfl, pp, cp, h1, h2, h3, h4, h5, h6⟩ := S7.nth T hx
        obtain ⟨dx, fs, q', ys, Sd, _⟩ := pp.ex
        have ez : z = .bl (!den) := by
          rw [List.getElem?_map, h3] at hz
          exact (Option.some.inj hz).symm
        subst ez
        have hy := e11 _ _ (Eq.trans (congrFun hH10 y) (e10 _ _ Sd.at_))
        have bo := cp.bo
        cases den with
        | false => exact ⟨_, rfl, .inl ⟨y, C, dx, fs, rfl, hy, bo, _, rfl, _, rfl, hq⟩⟩
        | true => exact ⟨_, rfl, .inr ⟨y, C, dx, fs, rfl, hy, bo, _, rfl, _, rfl, hq⟩⟩
      · intro H11 e11 hD11
        refine ⟨(by show 6 ≤ sizeLine; decide), fun m2 hm2 => ⟨.list (dens.map fun d => PyData.bool (!d)), .list (dens.map fun d => PyData.bool (!d)), .lst (.inl (.inl (ext_new hm2 _ _ _ hD11))) (dp_dens dens), .lst (.inl (.inl upd_same)) (dp_dens dens), (by decide +kernel), (by decide +kernel), _, rfl, ?_⟩⟩
        rw [eqv_dens]
        refine iteF ⟨rfl, Ext.tr e10 (Ext.tr (fun b o e => e11 b o (Eq.trans (congrFun hH10 b) e)) (ext_new hm2 _))⟩
  rintro σ6 H8 ⟨rfl, e8⟩
  have W8 := W7.ext e8
  have S8 := S7.ext e8
  have hg8 := e8 _ _ hg7
  clear W7 S7 hg7 hl7 Z7 e8
  -- their parts, as texts
  refine ⟨fun σ' H9 => σ' = [some (.ref a), some (.ref p), some (.int (0 + (i : Int))), some (.ref S), u4, some (.ref U), some (.ref g), some (.ref l), u8, u9, u10, u11, u12, u13, u14, u15, u16, u17, u18] ∧ Ext H8 H9, ?_, ?_⟩
  · have pq := S8.parts
    obtain ⟨qs, hql, hq1, hq2⟩ := pq
    refine ⟨_, rfl, g, rfl, ⟨_, .inl (.inl hg8)⟩, fun D hD => lc_pure (zs := qs) hg8 hD hql (by show 6 ≤ 1000; decide) (fun _ => rfl) ?_ ?_⟩
    · intro j x z H9 Q' hx hz e9 hq
      obtain ⟨y, C, nm, wd, names, es, den, rfl, pp, cp, h1, h2, h3, h4, h5, h6⟩ := S8.nth T hx
      obtain ⟨C', dx', fs', hx1, hx2⟩ := hq1 j y z hx hz
      obtain ⟨dx, fs, q', ys, Sd, _⟩ := pp.ex
      have hy := hx1
      rw [Sd.at_] at hy
      cases hy
      exact ⟨_, rfl, y, C, _, _, _, rfl, e9 _ _ hx1, cp.pc.cl, cp.pc.nP, hx2, hq⟩
    · intro H9 e9 hD9
      refine ⟨D, qs, _, 4, rfl, hD9, Paired.mapP hq2 (fun _ _ h => TRep.ext e9 4 h), (fun z => by rw [z] at hql; cases hql), (by rw [hql]; show 6 ≤ 16; decide), by decide, ?_⟩
      have hU9 := e9 _ _ W8.hu
      refine ⟨_, rfl, _, rfl, U, _, rfl, .inl (.inl hU9), fun s1 hs1 => .inl ⟨s1, _, rfl, .inl (.inl upd_same), fun t1 ht1 => ?_⟩⟩
      obtain ⟨K1, hK1⟩ : ∃ K1, upd (upd H9 s1 (.lst (cutV [w0, w1, w2, w3] none (some 3)))) t1 (.tup (cutV [w0, w1, w2, w3] none (some 3))) = K1 := ⟨_, rfl⟩
      rw [hK1]
      have g1 : Ext H9 K1 := by rw [← hK1]; exact Ext.tr (ext_new hs1 _) (ext_new ht1 _)
      have hT1 : K1 t1 = some (.tup [w0, w1, w2]) := by rw [← hK1, upd_same]; rfl
      have hUK1 := g1 _ _ hU9
      refine ⟨_, rfl, .inl ⟨U, _, rfl, .inl (.inl hUK1), fun t2 ht2 => ?_⟩⟩
      obtain ⟨K2, hK2⟩ : ∃ K2, upd K1 t2 (.tup [w0, w1, w2, w3]) = K2 := ⟨_, rfl⟩
      rw [hK2]
      have g2 : Ext K1 K2 := by rw [← hK2]; exact ext_new ht2 _
      have hT2 : K2 t2 = some (.tup [w0, w1, w2, w3]) := by rw [← hK2, upd_same]
      have hUK2 := g2 _ _ hUK1
      refine ⟨_, rfl, _, rfl, U, _, rfl, .inl (.inl hUK2), fun s3 hs3 => .inl ⟨s3, _, rfl, .inl (.inl upd_same), fun t3 ht3 => ?_⟩⟩
      obtain ⟨K3, hK3⟩ : ∃ K3, upd (upd K2 s3 (.lst (cutV [w0, w1, w2, w3] none (some 2)))) t3 (.tup (cutV [w0, w1, w2, w3] none (some 2))) = K3 := ⟨_, rfl⟩
      rw [hK3]
      have g3 : Ext K2 K3 := by rw [← hK3]; exact Ext.tr (ext_new hs3 _) (ext_new ht3 _)
      have hT3 : K3 t3 = some (.tup [w0, w1]) := by rw [← hK3, upd_same]; rfl
      have hUK3 := g3 _ _ hUK2
      refine ⟨_, rfl, _, rfl, U, _, rfl, .inl (.inl hUK3), fun s4 hs4 => .inl ⟨s4, _, rfl, .inl (.inl upd_same), fun t4 ht4 => ?_⟩⟩
      obtain ⟨K4, hK4⟩ : ∃ K4, upd (upd K3 s4 (.lst (cutV [w0, w1, w2, w3] none (some 2)))) t4 (.tup (cutV [w0, w1, w2, w3] none (some 2))) = K4 := ⟨_, rfl⟩
      rw [hK4]
      have g4 : Ext K3 K4 := by rw [← hK4]; exact Ext.tr (ext_new hs4 _) (ext_new ht4 _)
      have hT4 : K4 t4 = some (.tup [w0, w1]) := by rw [← hK4, upd_same]; rfl
      have hUK4 := g4 _ _ hUK3
      refine ⟨_, rfl, U, _, _, _, rfl, rfl, .inl (.inl hUK4), rfl, (by show 1 ≤ sizeLine; decide), fun t5 ht5 => ?_⟩
      obtain ⟨K5, hK5⟩ : ∃ K5, upd K4 t5 (.tup [w0]) = K5 := ⟨_, rfl⟩
      rw [hK5]
      have g5 : Ext K4 K5 := by rw [← hK5]; exact ext_new ht5 _
      have hT5 : K5 t5 = some (.tup [w0]) := by rw [← hK5, upd_same]
      have hUK5 := g5 _ _ hUK4
      refine ⟨_, rfl, U, _, _, _, rfl, rfl, .inl (.inl hUK5), rfl, (by show 1 ≤ sizeLine; decide), fun t6 ht6 => ?_⟩
      obtain ⟨K6, hK6⟩ : ∃ K6, upd K5 t6 (.tup [w0]) = K6 := ⟨_, rfl⟩
      rw [hK6]
      have g6 : Ext K5 K6 := by rw [← hK6]; exact ext_new ht6 _
      have hT6 : K6 t6 = some (.tup [w0]) := by rw [← hK6, upd_same]
      have hUK6 := g6 _ _ hUK5
      have gA : Ext H9 K6 := (Ext.tr g1 (Ext.tr g2 (Ext.tr g3 (Ext.tr g4 (Ext.tr g5 g6)))))
      have gm : ∀ {m : Addr} {o : HO}, K6 m = none → Ext H8 (upd K6 m o) := fun hm => Ext.tr e9 (Ext.tr gA (ext_new hm _))
      refine ⟨(by show 6 ≤ sizeLine; decide), fun m hm => ?_⟩
      have eZ : Ext H8 (upd K6 m (.lst [.ref t1, .ref t2, .ref t3, .ref t4, .ref t5, .ref t6])) := gm hm
      refine ⟨m, [.ref t1, .ref t2, .ref t3, .ref t4, .ref t5, .ref t6], (esOf (fixD 3 d0) (fixD 3 d1) (fixD 3 d2) (fixD 3 d3)).map K47.D.tup, 4, rfl, upd_same, (.cons (trep_tup (ext_new hm _ _ _ ((Ext.tr g2 (Ext.tr g3 (Ext.tr g4 (Ext.tr g5 g6)))) _ _ hT1)) (by show 3 ≤ 4; decide) (.cons (TRep.ext eZ 3 W8.t0) (.cons (TRep.ext eZ 3 W8.t1) (.cons (TRep.ext eZ 3 W8.t2) .nil)))) (.cons (trep_tup (ext_new hm _ _ _ ((Ext.tr g3 (Ext.tr g4 (Ext.tr g5 g6))) _ _ hT2)) (by show 4 ≤ 4; decide) (.cons (TRep.ext eZ 3 W8.t0) (.cons (TRep.ext eZ 3 W8.t1) (.cons (TRep.ext eZ 3 W8.t2) (.cons (TRep.ext eZ 3 W8.t3) .nil))))) (.cons (trep_tup (ext_new hm _ _ _ ((Ext.tr g4 (Ext.tr g5 g6)) _ _ hT3)) (by show 2 ≤ 4; decide) (.cons (TRep.ext eZ 3 W8.t0) (.cons (TRep.ext eZ 3 W8.t1) .nil))) (.cons (trep_tup (ext_new hm _ _ _ ((Ext.tr g5 g6) _ _ hT4)) (by show 2 ≤ 4; decide) (.cons (TRep.ext eZ 3 W8.t0) (.cons (TRep.ext eZ 3 W8.t1) .nil))) (.cons (trep_tup (ext_new hm _ _ _ (g6 _ _ hT5)) (by show 1 ≤ 4; decide) (.cons (TRep.ext eZ 3 W8.t0) .nil)) (.cons (trep_tup (ext_new hm _ _ _ hT6) (by show 1 ≤ 4; decide) (.cons (TRep.ext eZ 3 W8.t0) .nil)) .nil)))))), (by simp), (by show 6 ≤ 16; decide), (by decide), rfl, _, rfl, ?_⟩
      exact ite2 (fun z => absurd z (by simp)) (fun _ => ⟨rfl, eZ⟩)
  rintro σ7 H9 ⟨rfl, e9⟩
  have W9 := W8.ext e9
  have S9 := S8.ext e9
  have hg9 := e9 _ _ hg8
  clear W8 S8 hg8 e9
  -- one, two, .. = papers
  refine ⟨fun σ' H' => σ' = [some (.ref a), some (.ref p), some (.int (0 + (i : Int))), some (.ref S), some (.ref x0), some (.ref U), some (.ref g), some (.ref l), some (.ref x1), some (.ref x2), some (.ref x3), some (.ref x4), some (.ref x5), u13, u14, u15, u16, u17, u18] ∧ H' = H9, ⟨_, rfl, g, _, rfl, .inl (.inl hg9), rfl, _, _, rfl, _, _, rfl, _, _, rfl, _, _, rfl, _, _, rfl, _, _, rfl, rfl, rfl, rfl⟩, ?_⟩
  rintro σ8 H9b ⟨rfl, e9b⟩
  have e9c := e9b.symm
  subst e9c
  -- told
  obtain ⟨dx00, fs00, z00, ha00, hl00, ht00⟩ := S9.a0.fld (i := 0) (n := "domain") rfl rfl
  obtain ⟨dx01, fs01, z01, ha01, hl01, ht01⟩ := S9.a0.fld (i := 1) (n := "planes") rfl rfl
  obtain ⟨dx02, fs02, z02, ha02, hl02, ht02⟩ := S9.a0.fld (i := 2) (n := "spots") rfl rfl
  obtain ⟨dx10, fs10, z10, ha10, hl10, ht10⟩ := S9.a1.fld (i := 0) (n := "costs") rfl rfl
  obtain ⟨dx11, fs11, z11, ha11, hl11, ht11⟩ := S9.a1.fld (i := 1) (n := "point") rfl rfl
  obtain ⟨dx12, fs12, z12, ha12, hl12, ht12⟩ := S9.a1.fld (i := 2) (n := "total") rfl rfl
  obtain ⟨dx13, fs13, z13, ha13, hl13, ht13⟩ := S9.a1.fld (i := 3) (n := "rows") rfl rfl
  obtain ⟨dx20, fs20, z20, ha20, hl20, ht20⟩ := S9.a2.fld (i := 0) (n := "bound") rfl rfl
  obtain ⟨dx21, fs21, z21, ha21, hl21, ht21⟩ := S9.a2.fld (i := 1) (n := "corners") rfl rfl
  obtain ⟨dx30, fs30, z30, ha30, hl30, ht30⟩ := S9.a3.fld (i := 0) (n := "bound") rfl rfl
  obtain ⟨dx31, fs31, z31, ha31, hl31, ht31⟩ := S9.a3.fld (i := 1) (n := "rows") rfl rfl
  obtain ⟨dx40, fs40, z40, ha40, hl40, ht40⟩ := S9.a4.fld (i := 0) (n := "spots") rfl rfl
  obtain ⟨dx50, fs50, z50, ha50, hl50, ht50⟩ := S9.a5.fld (i := 0) (n := "rows") rfl rfl
  refine ⟨fun σ' H' => ∃ o : Addr, σ' = [some (.ref a), some (.ref p), some (.int (0 + (i : Int))), some (.ref S), some (.ref x0), some (.ref U), some (.ref g), some (.ref l), some (.ref x1), some (.ref x2), some (.ref x3), some (.ref x4), some (.ref x5), some (.ref o), u14, u15, u16, u17, u18] ∧ Ext H9 H' ∧ H' o = some (.lst [z00, z01, z02, z10, z11, z12, z13, z20, z21, z30, z31, z40, z50]), ?_, ?_⟩
  · refine ⟨_, rfl, x0, CM, _, _, _, rfl, ha00, T.c0.pc.cl, T.c0.na 0 _ rfl, hl00, _, rfl, x0, CM, _, _, _, rfl, ha01, T.c0.pc.cl, T.c0.na 1 _ rfl, hl01, _, rfl, x0, CM, _, _, _, rfl, ha02, T.c0.pc.cl, T.c0.na 2 _ rfl, hl02, _, rfl, x1, CC, _, _, _, rfl, ha10, T.c1.pc.cl, T.c1.na 0 _ rfl, hl10, _, rfl, x1, CC, _, _, _, rfl, ha11, T.c1.pc.cl, T.c1.na 1 _ rfl, hl11, _, rfl, x1, CC, _, _, _, rfl, ha12, T.c1.pc.cl, T.c1.na 2 _ rfl, hl12, _, rfl, x1, CC, _, _, _, rfl, ha13, T.c1.pc.cl, T.c1.na 3 _ rfl, hl13, _, rfl, x2, CA, _, _, _, rfl, ha20, T.c2.pc.cl, T.c2.na 0 _ rfl, hl20, _, rfl, x2, CA, _, _, _, rfl, ha21, T.c2.pc.cl, T.c2.na 1 _ rfl, hl21, _, rfl, x3, CB, _, _, _, rfl, ha30, T.c3.pc.cl, T.c3.na 0 _ rfl, hl30, _, rfl, x3, CB, _, _, _, rfl, ha31, T.c3.pc.cl, T.c3.na 1 _ rfl, hl31, _, rfl, x4, CT, _, _, _, rfl, ha40, T.c4.pc.cl, T.c4.na 0 _ rfl, hl40, _, rfl, x5, CX, _, _, _, rfl, ha50, T.c5.pc.cl, T.c5.na 0 _ rfl, hl50, (by show 13 ≤ sizeLine; decide), fun o ho => ⟨o, rfl, ext_new ho _, upd_same⟩⟩
  rintro σ9 H10 ⟨o, rfl, e10, ho10⟩
  have pz : Paired (TRep 3 H10) [z00, z01, z02, z10, z11, z12, z13, z20, z21, z30, z31, z40, z50] [fixD 3 d0, fixD 3 d1, fixD 3 d2, fixD 3 d0, fixD 3 d1, fixD 3 d2, fixD 3 d3, fixD 3 d0, fixD 3 d1, fixD 3 d0, fixD 3 d1, fixD 3 d0, fixD 3 d0] := (.cons (TRep.ext e10 3 ht00) (.cons (TRep.ext e10 3 ht01) (.cons (TRep.ext e10 3 ht02) (.cons (TRep.ext e10 3 ht10) (.cons (TRep.ext e10 3 ht11) (.cons (TRep.ext e10 3 ht12) (.cons (TRep.ext e10 3 ht13) (.cons (TRep.ext e10 3 ht20) (.cons (TRep.ext e10 3 ht21) (.cons (TRep.ext e10 3 ht30) (.cons (TRep.ext e10 3 ht31) (.cons (TRep.ext e10 3 ht40) (.cons (TRep.ext e10 3 ht50) .nil)))))))))))))
  have W10 := W9.ext e10
  have S10 := S9.ext e10
  have hg10 := e10 _ _ hg9
  clear W9 S9 hg9 e10
  -- told, as a text
  refine ⟨fun σ' H' => σ' = [some (.ref a), some (.ref p), some (.int (0 + (i : Int))), some (.ref S), some (.ref x0), some (.ref U), some (.ref g), some (.ref l), some (.ref x1), some (.ref x2), some (.ref x3), some (.ref x4), some (.ref x5), some (.ref o), u14, u15, u16, u17, u18] ∧ Ext H10 H', ?_, ?_⟩
  · refine ⟨_, rfl, o, _, _, 3, rfl, ho10, pz, (by simp), (by show 13 ≤ 16; decide), (by decide), ?_⟩
    have hU10 := W10.hu
    refine ⟨_, rfl, _, rfl, U, _, rfl, .inl (.inl hU10), fun s1 hs1 => ?_⟩
    obtain ⟨K1, hK1⟩ : ∃ K1, upd H10 s1 (.lst (cutV [w0, w1, w2, w3] none (some 3))) = K1 := ⟨_, rfl⟩
    rw [hK1]
    have g1 : Ext H10 K1 := by rw [← hK1]; exact ext_new hs1 _
    have hT1 : K1 s1 = some (.lst [w0, w1, w2]) := by rw [← hK1, upd_same]; rfl
    have hUK1 := g1 _ _ hU10
    refine ⟨_, rfl, rd_cat hT1 hUK1 (by show 7 ≤ sizeLine; decide) fun c2 K2 g2 hT2 => ?_⟩
    have hUK2 := g2 _ _ hUK1
    refine ⟨_, rfl, _, rfl, U, _, rfl, .inl (.inl hUK2), fun s3 hs3 => ?_⟩
    obtain ⟨K3, hK3⟩ : ∃ K3, upd K2 s3 (.lst (cutV [w0, w1, w2, w3] none (some 2))) = K3 := ⟨_, rfl⟩
    rw [hK3]
    have g3 : Ext K2 K3 := by rw [← hK3]; exact ext_new hs3 _
    have hT3 : K3 s3 = some (.lst [w0, w1]) := by rw [← hK3, upd_same]; rfl
    have hUK3 := g3 _ _ hUK2
    refine rd_cat (g3 _ _ hT2) hT3 (by show 9 ≤ sizeLine; decide) fun c4 K4 g4 hT4 => ?_
    have hUK4 := g4 _ _ hUK3
    refine ⟨_, rfl, _, rfl, U, _, rfl, .inl (.inl hUK4), fun s5 hs5 => ?_⟩
    obtain ⟨K5, hK5⟩ : ∃ K5, upd K4 s5 (.lst (cutV [w0, w1, w2, w3] none (some 2))) = K5 := ⟨_, rfl⟩
    rw [hK5]
    have g5 : Ext K4 K5 := by rw [← hK5]; exact ext_new hs5 _
    have hT5 : K5 s5 = some (.lst [w0, w1]) := by rw [← hK5, upd_same]; rfl
    have hUK5 := g5 _ _ hUK4
    refine rd_cat (g5 _ _ hT4) hT5 (by show 11 ≤ sizeLine; decide) fun c6 K6 g6 hT6 => ?_
    have hUK6 := g6 _ _ hUK5
    refine ⟨_, rfl, _, rfl, U, _, rfl, .inl (.inl hUK6), fun s7 hs7 => ?_⟩
    obtain ⟨K7, hK7⟩ : ∃ K7, upd K6 s7 (.lst (cutV [w0, w1, w2, w3] none (some 1))) = K7 := ⟨_, rfl⟩
    rw [hK7]
    have g7 : Ext K6 K7 := by rw [← hK7]; exact ext_new hs7 _
    have hT7 : K7 s7 = some (.lst [w0]) := by rw [← hK7, upd_same]; rfl
    have hUK7 := g7 _ _ hUK6
    refine rd_cat (g7 _ _ hT6) hT7 (by show 12 ≤ sizeLine; decide) fun c8 K8 g8 hT8 => ?_
    have hUK8 := g8 _ _ hUK7
    refine ⟨_, rfl, _, rfl, U, _, rfl, .inl (.inl hUK8), fun s9 hs9 => ?_⟩
    obtain ⟨K9, hK9⟩ : ∃ K9, upd K8 s9 (.lst (cutV [w0, w1, w2, w3] none (some 1))) = K9 := ⟨_, rfl⟩
    rw [hK9]
    have g9 : Ext K8 K9 := by rw [← hK9]; exact ext_new hs9 _
    have hT9 : K9 s9 = some (.lst [w0]) := by rw [← hK9, upd_same]; rfl
    have hUK9 := g9 _ _ hUK8
    refine rd_cat (g9 _ _ hT8) hT9 (by show 13 ≤ sizeLine; decide) fun c10 K10 g10 hT10 => ?_
    have hUK10 := g10 _ _ hUK9
    have gA : Ext H10 K10 := (Ext.tr g1 (Ext.tr g2 (Ext.tr g3 (Ext.tr g4 (Ext.tr g5 (Ext.tr g6 (Ext.tr g7 (Ext.tr g8 (Ext.tr g9 g10)))))))))
    refine ⟨c10, _, [fixD 3 d0, fixD 3 d1, fixD 3 d2, fixD 3 d0, fixD 3 d1, fixD 3 d2, fixD 3 d3, fixD 3 d0, fixD 3 d1, fixD 3 d0, fixD 3 d1, fixD 3 d0, fixD 3 d0], 3, rfl, hT10, (.cons (TRep.ext gA 3 W10.t0) (.cons (TRep.ext gA 3 W10.t1) (.cons (TRep.ext gA 3 W10.t2) (.cons (TRep.ext gA 3 W10.t0) (.cons (TRep.ext gA 3 W10.t1) (.cons (TRep.ext gA 3 W10.t2) (.cons (TRep.ext gA 3 W10.t3) (.cons (TRep.ext gA 3 W10.t0) (.cons (TRep.ext gA 3 W10.t1) (.cons (TRep.ext gA 3 W10.t0) (.cons (TRep.ext gA 3 W10.t1) (.cons (TRep.ext gA 3 W10.t0) (.cons (TRep.ext gA 3 W10.t0) .nil))))))))))))), (by simp), (by show 13 ≤ 16; decide), (by decide), rfl, _, rfl, ?_⟩
    exact ite2 (fun z => absurd z (by simp)) (fun _ => ⟨rfl, gA⟩)
  rintro σ10 H11 ⟨rfl, e11⟩
  have W11 := W10.ext e11
  have S11 := S10.ext e11
  have hg11 := e11 _ _ hg10
  clear W10 S10 hg10 e11 pz ho10
  -- for at, paper in enumerate(papers)
  refine ⟨fun σ' H' => (∃ y14 y15, σ' = [some (.ref a), some (.ref p), some (.int (0 + (i : Int))), some (.ref S), some (.ref x0), some (.ref U), some (.ref g), some (.ref l), some (.ref x1), some (.ref x2), some (.ref x3), some (.ref x4), some (.ref x5), some (.ref o), y14, y15, u16, u17, u18]) ∧ Ext H11 H', ?_, ?_⟩
  · refine ⟨_, rfl, g, _, rfl, .inl (.inl hg11), for_it (walk_enum (K := K) (a := g) (xs := [.ref x0, .ref x1, .ref x2, .ref x3, .ref x4, .ref x5])) (fun j σ H2 => (∃ y14 y15, σ = [some (.ref a), some (.ref p), some (.int (0 + (i : Int))), some (.ref S), some (.ref x0), some (.ref U), some (.ref g), some (.ref l), some (.ref x1), some (.ref x2), some (.ref x3), some (.ref x4), some (.ref x5), some (.ref o), y14, y15, u16, u17, u18]) ∧ Ext H11 H2) ⟨⟨_, _, rfl⟩, Ext.rfl'⟩ (fun j σ H2 _ h => .inl (.inl (h.2 _ _ hg11))) ?_ (fun σ H2 h => h)⟩
    rintro j z σ H12 H13 hj ⟨⟨y14, y15, rfl⟩, e12⟩ ⟨t, u, v, rfl, ht, eH, hu', hv⟩
    have hju := Option.some.inj hu'
    subst hju
    have e13 : Ext H12 H13 := by rw [eH]; exact ext_new ht _
    have ht13 : H13 t = some (.tup [.int (j : Nat), v]) := by rw [eH, upd_same]
    have e14 := Ext.tr e12 e13
    have S13 := S11.ext e14
    have hg13 := e14 _ _ hg11
    clear eH e13 hu'
    obtain ⟨y, C, nm, wd, names, es, den, rfl, pp, cp, k1, k2, k3, k4, k5, k6⟩ := S13.nth T hv
    refine ⟨t, _, rfl, .inl (.inl ht13), rfl, _, _, rfl, _, _, rfl, rfl, ?_⟩
    -- [spot for spot, other in enumerate(papers) if other == paper] != [at]
    refine ⟨_, rfl, g, _, rfl, .inl (.inl hg13), fun D hD => lc_it (walk_enum (K := K) (a := g) (xs := [.ref x0, .ref x1, .ref x2, .ref x3, .ref x4, .ref x5])) (fun i2 H14 => Ext H13 H14 ∧ H14 D = some (.lst (if j < i2 then [.int (j : Nat)] else []))) ⟨ext_new hD _, (by rw [if_neg (Nat.not_lt_zero _), upd_same])⟩ (fun i2 H14 _ h => .inl (.inl (h.1 _ _ hg13))) ?_ ?_⟩
    · rintro i2 z H14 H15 hi2 ⟨e15, hD15⟩ ⟨t2, u2', v2', rfl, ht2, eH, hu2, hv2⟩
      have hiu := Option.some.inj hu2
      subst hiu
      have e16 : Ext H14 H15 := by rw [eH]; exact ext_new ht2 _
      have ht15 : H15 t2 = some (.tup [.int (i2 : Nat), v2']) := by rw [eH, upd_same]
      have hD16 := e16 _ _ hD15
      clear eH hu2
      obtain ⟨ak, xx, yy, rfl, hyy, er⟩ := (S13.ext (Ext.tr e15 e16)).two T hv2 hv
      cases hyy
      refine ⟨t2, _, rfl, .inl (.inl ht15), rfl, _, _, rfl, _, _, rfl, rfl, rfl, ?_⟩
      refine ⟨_, rfl, _, rfl, _, ak, xx, y, _, rfl, er, fun H17 e17 => ⟨_, rfl, _, rfl, ?_⟩⟩
      have e18 := Ext.tr (Ext.tr e15 e16) e17
      have hD17 := e17 _ _ hD16
      by_cases hij : i2 = j
      · subst hij
        refine iteIfT (decide_eq_true rfl) ?_
        refine ⟨_, rfl, _, hD17, ?_, ?_, ?_⟩
        · rw [if_neg (Nat.lt_irrefl _)]
          exact small1000 (by decide)
        · intro b o e
          rw [upd_ne (ne_of_none e hD)]
          exact e18 b o e
        · rw [upd_same, if_neg (Nat.lt_irrefl _), if_pos (Nat.lt_succ_self _)]
          rfl
      · refine iteIfF (decide_eq_false hij) ⟨e18, ?_⟩
        rw [hD17]
        by_cases hlt : j < i2
        · rw [if_pos hlt, if_pos (Nat.lt_succ_of_lt hlt)]
        · rw [if_neg hlt, if_neg (by omega)]
    · rintro H14 ⟨e15, hD15⟩
      rw [if_pos hj] at hD15
      refine ⟨_, rfl, (by show 1 ≤ sizeLine; decide), fun m hm => ⟨.list [.int (j : Nat)], .list [.int (j : Nat)], .lst (.inl (.inl (ext_new hm _ _ _ hD15))) (.cons (.int _) .nil), .lst (.inl (.inl upd_same)) (.cons (.int _) .nil), shaped_ints [(j : Int)], shaped_ints [(j : Int)], _, rfl, ?_⟩⟩
      rw [eqv_one]
      refine iteF ?_
      have e17 : Ext H13 (upd H14 m (.lst [.int (j : Nat)])) := Ext.tr e15 (ext_new hm _)
      obtain ⟨H17, hH17⟩ : ∃ H17, upd H14 m (.lst [.int (j : Nat)]) = H17 := ⟨_, rfl⟩
      rw [hH17] at e17 ⊢
      -- paper == paper.parts
      obtain ⟨dx, fs, qa, ys, Sd, hqa, _⟩ := (pp.ext e17).ex
      obtain ⟨qb, pap⟩ := (pp.ext e17).pap cp
      refine ⟨_, rfl, _, rfl, y, C, dx, fs, _, rfl, Sd.at_, cp.pc.cl, cp.pc.nP, Sd.pt, _, .tup Sd.at_ hqa cp.eq cp.tu, y, qa, false, rfl, .tup pap hqa L.kt, fun H18 e18 => ⟨_, rfl, _, rfl, iteF ?_⟩⟩
      -- isinstance(paper, Denial) != (at in (3, 5))
      refine ⟨_, rfl, _, _, .ref C, _, den, rfl, .own DC, .base (cp.ck.tyOf (e18 _ _ Sd.at_)), cp.kd, _, rfl, (by show 2 ≤ sizeLine; decide), fun m2 hm2 => ⟨m2, _, rfl, .inr (.inl (.inl upd_same)), rfl, rfl, rfl, _, rfl, ?_⟩⟩
      refine ite2 (fun w => absurd w ?_) (fun _ => ⟨⟨_, _, rfl⟩, Ext.tr e14 (Ext.tr e17 (Ext.tr e18 (ext_new hm2 _)))⟩)
      exact den_at k3
  rintro σ11 H12 ⟨⟨y14, y15, rfl⟩, e12⟩
  have W12 := W11.ext e12
  have S12 := S11.ext e12
  have hg12 := e12 _ _ hg11
  clear W11 S11 hg11 e12
  -- Paper(..) == one, .. : the class alone tells them apart
  refine ⟨fun σ' H' => σ' = [some (.ref a), some (.ref p), some (.int (0 + (i : Int))), some (.ref S), some (.ref x0), some (.ref U), some (.ref g), some (.ref l), some (.ref x1), some (.ref x2), some (.ref x3), some (.ref x4), some (.ref x5), some (.ref o), y14, y15, u16, u17, u18] ∧ Ext H12 H', ?_, ?_⟩
  · refine ⟨_, rfl, U, _, _, _, rfl, rfl, .inl (.inl W12.hu), rfl, _, rfl, U, _, _, _, rfl, rfl, .inl (.inl W12.hu), rfl, _, rfl, U, _, _, _, rfl, rfl, .inl (.inl W12.hu), rfl, make_base T.p.pc (ds := [fixD 3 d0, fixD 3 d1, fixD 3 d2]) (by show 3 ≤ 4; decide) (.cons (TRep.rep 3 W12.t0) (.cons (TRep.rep 3 W12.t1) (.cons (TRep.rep 3 W12.t2) .nil))) fun xn H13 e13 pp12 => ?_⟩
    have S13 := S12.ext e13
    have W13 := W12.ext e13
    obtain ⟨dxa, fsa, qa, ysa, Sa, _⟩ := id pp12.ex
    obtain ⟨dxb, fsb, qb, ysb, Sb, _⟩ := id S13.a0.ex
    refine ⟨_, rfl, _, .rev Sa.at_ Sb.at_ T.c0.eq (cls_ne T.p T.c0 (by decide +kernel)) L.rM, x0, xn, false, rfl, eq_other S13.a0 T.c0 pp12 T.p (by decide +kernel), fun H14 e14 => ⟨_, rfl, _, rfl, iteF ?_⟩⟩
    have S14 := S13.ext e14
    have W14 := W13.ext e14
    refine ⟨_, rfl, U, _, _, _, rfl, rfl, .inl (.inl W14.hu), rfl, make_base T.p.pc (ds := [fixD 3 d0]) (by show 1 ≤ 4; decide) (.cons (TRep.rep 3 W14.t0) .nil) fun xn H15 e15 pp14 => ?_⟩
    have S15 := S14.ext e15
    have W15 := W14.ext e15
    obtain ⟨dxa, fsa, qa, ysa, Sa, _⟩ := id pp14.ex
    obtain ⟨dxb, fsb, qb, ysb, Sb, _⟩ := id S15.a4.ex
    refine ⟨_, rfl, _, .rev Sa.at_ Sb.at_ T.c4.eq (cls_ne T.p T.c4 (by decide +kernel)) L.rT, x4, xn, false, rfl, eq_other S15.a4 T.c4 pp14 T.p (by decide +kernel), fun H16 e16 => ⟨_, rfl, _, rfl, iteF ?_⟩⟩
    have S16 := S15.ext e16
    have W16 := W15.ext e16
    refine ⟨_, rfl, U, _, _, _, rfl, rfl, .inl (.inl W16.hu), rfl, make_base T.d.pc (ds := [fixD 3 d0]) (by show 1 ≤ 4; decide) (.cons (TRep.rep 3 W16.t0) .nil) fun xn H17 e17 pp16 => ?_⟩
    have S17 := S16.ext e17
    have W17 := W16.ext e17
    obtain ⟨dxa, fsa, qa, ysa, Sa, _⟩ := id pp16.ex
    obtain ⟨dxb, fsb, qb, ysb, Sb, _⟩ := id S17.a5.ex
    refine ⟨_, rfl, _, .rev Sa.at_ Sb.at_ T.c5.eq (cls_ne T.d T.c5 (by decide +kernel)) L.rX, x5, xn, false, rfl, eq_other S17.a5 T.c5 pp16 T.d (by decide +kernel), fun H18 e18 => ⟨_, rfl, _, rfl, iteF ?_⟩⟩
    have S18 := S17.ext e18
    have W18 := W17.ext e18
    exact ⟨rfl, Ext.tr e13 (Ext.tr e14 (Ext.tr e15 (Ext.tr e16 (Ext.tr e17 e18))))⟩
  rintro σ12 H13 ⟨rfl, e13⟩
  have W13 := W12.ext e13
  have S13 := S12.ext e13
  have hg13 := e13 _ _ hg12
  clear W12 S12 hg12 e13
  -- Track("zz") == Track("z")
  refine t4.pos (ds := [.str "zz"]) rfl (.cons (leaf_s "zz" (by decide +kernel)) .nil) fun xa H14 e14 pa => ?_
  refine t4.pos (ds := [.str "z"]) rfl (.cons (leaf_s "z" (by decide +kernel)) .nil) fun xb H15 e15 pb => ?_
  have pa := pa.ext e15
  obtain ⟨dxa, fsa, qa, ysa, Sa, _⟩ := id pa.ex
  obtain ⟨dxb, fsb, qb, ysb, Sb, _⟩ := id pb.ex
  refine ⟨_, .same Sa.at_ Sb.at_ T.c4.eq, xa, xb, false, rfl, eq_diff pa pb T.c4 dp_s dp_s (by decide +kernel) (by decide +kernel) ne_zz, fun H16 e16 => ⟨_, rfl, _, rfl, iteF ?_⟩⟩
  have f16 := Ext.tr e14 (Ext.tr e15 e16)
  clear e14 e15 e16 pa pb Sa Sb
  -- Map(1, 2, 3) == Map(1, 2, 4)
  refine t0.pos (ds := [.int 1, .int 2, .int 3]) rfl (.cons (leaf_i 3 1 (by decide +kernel) (by decide +kernel)) (.cons (leaf_i 3 2 (by decide +kernel) (by decide +kernel)) (.cons (leaf_i 3 3 (by decide +kernel) (by decide +kernel)) .nil))) fun xa H17 e17 pa => ?_
  refine t0.pos (ds := [.int 1, .int 2, .int 4]) rfl (.cons (leaf_i 3 1 (by decide +kernel) (by decide +kernel)) (.cons (leaf_i 3 2 (by decide +kernel) (by decide +kernel)) (.cons (leaf_i 3 4 (by decide +kernel) (by decide +kernel)) .nil))) fun xb H18 e18 pb => ?_
  have pa := pa.ext e18
  obtain ⟨dxa, fsa, qa, ysa, Sa, _⟩ := id pa.ex
  obtain ⟨dxb, fsb, qb, ysb, Sb, _⟩ := id pb.ex
  refine ⟨_, .same Sa.at_ Sb.at_ T.c0.eq, xa, xb, false, rfl, eq_diff pa pb T.c0 dp_3 dp_3 (by decide +kernel) (by decide +kernel) ne_34, fun H19 e19 => ⟨_, rfl, _, rfl, iteF ?_⟩⟩
  have f19 := Ext.tr f16 (Ext.tr e17 (Ext.tr e18 e19))
  clear e17 e18 e19 pa pb Sa Sb f16
  -- not Missed((1,)) != Missed((2,))
  refine ⟨(by show 1 ≤ sizeLine; decide), fun ta hta => t5.pos (ds := [.tup [.int 1]]) rfl (.cons (rep_t (by decide +kernel) (by decide +kernel) upd_same) .nil) fun xa H20 e20 pa => ⟨(by show 1 ≤ sizeLine; decide), fun tb htb => t5.pos (ds := [.tup [.int 2]]) rfl (.cons (rep_t (by decide +kernel) (by decide +kernel) upd_same) .nil) fun xb H21 e21 pb => ?_⟩⟩
  have g20 : Ext H19 H20 := Ext.tr (ext_new hta _) e20
  have g21 : Ext H20 H21 := Ext.tr (ext_new htb _) e21
  have pa := pa.ext g21
  obtain ⟨dxa, fsa, qa, ysa, Sa, _⟩ := id pa.ex
  obtain ⟨dxb, fsb, qb, ysb, Sb, _⟩ := id pb.ex
  refine ⟨xa, xb, CX, dxa, dxb, fsa, fsb, rfl, rfl, Sa.at_, Sb.at_, T.c5.eq, xa, xb, false, rfl, eq_diff pa pb T.c5 dp_t dp_t (by decide +kernel) (by decide +kernel) ne_12, fun H22 e22 => ⟨_, rfl, _, rfl, iteIfF rfl ?_⟩⟩
  have f22 := Ext.tr f19 (Ext.tr g20 (Ext.tr g21 e22))
  -- not isinstance(papers[0], Paper)
  obtain ⟨dxc, fsc, qc, ysc, Sc, _⟩ := id (S13.ext f22).a0.ex
  refine ⟨_, rfl, g, _, _, _, rfl, rfl, .inl (.inl (f22 _ _ hg13)), rfl, _, _, .ref CM, _, true, rfl, .own PC, .base (T.c0.ck.tyOf Sc.at_), T.c0.kp, _, rfl, iteIfF rfl ?_⟩
  exact ⟨⟨_, _, _, _, _, _, _, _, _, _, _, _, _, _, _, _, _, rfl⟩, W13.pen.ext f22⟩
end
end K47

/-! The law's call, at the caller's own surroundings (there repr's guard is known to be empty) -/
namespace K47
open PySem PySem.W PySem.Spec PySem.Calls PyProof.Rows L2

/-- the law's promise -/
def spLaw (K : PySem.W.Frag) : Sp := fun vs H Q _ => ∃ (a : Addr) (ns : List Int), vs = [.ref a] ∧ SqL K H a (ns.map V.int) ∧ ns.length ≤ 63 ∧ ∀ H', Q (.bl true) H'
/-- kept where A is the surrounding -/
def RunAt (P : Program) (w : World) (K : PySem.W.Frag) (mg : Str → Option Value) (base : Heap) (A : Around) (f : Addr) (fd : FuncData) (sp : Sp) : Prop :=
  ∀ (s : Shared) (H : Hp) (u : Value) (v : V) (Q : VK), Env0 P w K mg base A [] s H → RelV v u → sp [v] H Q E0 → codeAny (model P w) A (.call (.ref f) ⟨[u], []⟩) (CR CX0 [] P w H s Q E0) s
section
variable {P : Program} {w : World} {K : PySem.W.Frag} {mg mb : Str → Option Value}
theorem run_law {base : Heap} {f : Addr} {fd : FuncData} {PC DC CM CC CA CB CT CX feq fbP fbD : Addr} (F : Fun K "law" "law" sLaw f fd) (hb : ∀ (s : Shared) (u : Value), BindsTo s fd ⟨[u], []⟩ [("script", u)])
    (L : LawT P w K mg base PC DC CM CC CA CB CT CX feq fbP fbD) : RunAt P w K mg base callerA f fd (spLaw K) := by
  intro s H u v Q e0 r hsp
  obtain ⟨a, ns, ev, hS, hlen, q⟩ := hsp
  obtain rfl : v = .ref a := by
    have := ev
    simpa using this
  obtain ⟨oc, od, kV, doc, pm, an, cdv, ct, osl, rfl, lk, hcd⟩ := F.ex
  have hr : Room 9 callerA := ⟨rfl, by decide, by decide⟩
  have KX : K.In s.heap := e0.mod.kin.keeps fun b o e => (e0.bs b o e).1
  have lim : s.heap.NoLimit := e0.mod.nolimit.keeps fun b o e => (e0.bs b o e).1
  refine codeAny_call_function hr.depth (KX _ _ lk) rfl scLaw.co scLaw.gen rfl (PySem.W.codeRec_of KX hcd) (hb _ _ _ _ _ _ ?_)
  refine wpAny_newFunctionEnv_cells scLaw.kind (fun y hy => ?_) fun env he s1 x => ?_
  · obtain rfl : y = (("script" : Str), u) := by simpa using hy
    exact .inl (by first | rfl | decide +kernel)
  subst he
  refine ⟨lim.keeps x.toInCall.keep, codeAny_func ?_⟩
  obtain ⟨t, ht, hq⟩ := law_body L callerA [] s H Q E0 a ns rfl (hr.deeper _) hS hlen q
  have I := inv_start (CX := CX0) (E := E0) scLaw hr.hd e0 (vs := [.ref a]) (us := [u]) rfl (.cons r .nil) x
  refine wpAny_mono (ht.nox.run [] s1 _ H _ I hq) (fun fl s' hs => ?_) fun e s' hs => hs
  cases fl with
  | ret u' =>
    obtain ⟨v', σ', H', J, rv, q'⟩ := hs
    exact ⟨v', H', J.os, J.bare, J.base, J.hok, rv, q'⟩
  | next =>
    obtain ⟨σ', H', J, q'⟩ := hs
    exact ⟨.non, H', J.os, J.bare, J.base, J.hok, rfl, q'⟩
  | brk =>
    obtain ⟨_, _, _, z⟩ := hs
    exact z.elim
  | cont =>
    obtain ⟨_, _, _, z⟩ := hs
    exact z.elim

/-! ### from the state behind the top -/
/-- the script alone is told: it stands as it is (nothing at all is told where it is one of the module's own objects) -/
def scr (K : PySem.W.Frag) (a : Addr) (o : Obj) (xs : List V) : Hp := fun b => if b = a ∧ K.lookup a = none then some (.frz o (.lst xs)) else none
theorem scr_some {a b : Addr} {o : Obj} {xs : List V} {u : HO} (h : scr K a o xs b = some u) : b = a ∧ K.lookup a = none ∧ u = .frz o (.lst xs) := by
  unfold scr at h
  split at h
  · rename_i c
    cases h
    exact ⟨c.1, c.2, rfl⟩
  · cases h
theorem call_law {fa a : Addr} {fd : FuncData} {s₁ : Shared} {vs : List Value} {ns : List Int} (KX : K.In s₁.heap) (hns : s₁.heap.Ns mainGlobals mg) (hb : s₁.heap.Ns builtinsNs mb) (hbb : ∀ x : Str, x ≠ "__name__" → mb x = bootBuiltins x)
    (hlim : s₁.heap.NoLimit) (hg : s₁.gens = #[]) (ha : s₁.heap.get? a = some { cls := .type "list", data := .seq vs.toArray }) (hi : IntsAre vs ns) (hl : ns.length ≤ 63)
    (F : ∀ base : Heap, K.In base → base.Ns mainGlobals mg → RunAt P w K mg base callerA fa fd (spLaw K)) :
    codeAny (model P w) callerA (.call (.ref fa) ⟨[.ref a], []⟩) (fun r s' => r = .ok (.ret (.bool true)) ∧ OldK s₁.heap s'.heap ∧ s'.os = s₁.os ∧ AllBare s'.gens) s₁ := by
  have rv := vals_ints hi
  have len : vs.length = ns.length := by rw [← rv.length, List.length_map]
  have big : ns.length ≤ sizeLine := Nat.le_trans hl (by decide)
  generalize ho : ({ cls := .type "list", data := .seq vs.toArray } : Obj) = ob at ha
  -- the told heap, and what is left of the real one
  let H : Hp := scr K a ob (ns.map V.int)
  have there : ∀ b o, s₁.heap.get? b = some o → H b = none → (hidT s₁.heap H).get? b = some o := fun b o e n => hidT_get e n
  have free : ∀ b o, s₁.heap.get? b = some o → (∀ es ep, o.data = .dict es ep → H b = none) := fun b o e es ep d => by
    cases z : H b with
    | none => rfl
    | some u =>
      obtain ⟨e1, _, _⟩ := scr_some z
      subst e1
      rw [ha] at e
      cases e
      subst ho
      cases d
  have nsp : ∀ b m, s₁.heap.Ns b m → (hidT s₁.heap H).Ns b m := fun b m ⟨o, es, ep, e, d, r⟩ => ⟨o, es, ep, there b o e (free b o e es ep d), d, r⟩
  have kin : K.In (hidT s₁.heap H) := fun b o e => there b o (KX b o e) (by
    cases z : H b with
    | none => rfl
    | some u =>
      obtain ⟨e1, e2, _⟩ := scr_some z
      subst e1
      rw [e] at e2
      cases e2)
  have hok : HOk P w H s₁.heap := fun b u z => by
    obtain ⟨e1, _, e3⟩ := scr_some z
    subst e1 e3 ho
    exact ⟨ha, by rw [List.length_map]; exact big, vs, _, rv, ha⟩
  have mod : Mod K mg (hidT s₁.heap H) := ⟨kin, nsp _ _ hns, ⟨mb, nsp _ _ hb, hbb⟩, let ⟨mc, h1, h2⟩ := hlim; ⟨mc, nsp _ _ h1, h2⟩⟩
  have e0 : Env0 P w K mg (hidT s₁.heap H) callerA [] s₁ H := ⟨rfl, mod, fun b o e => of_hidT e, Nat.le_of_eq (hidT_size _ _), trivial, fun b z => absurd (show b ∈ ([] : List Addr) from z) (by simp), hok, .of_eq hg⟩
  have hS : SqL K H a (ns.map V.int) := by
    cases z : K.lookup a with
    | none => exact .inl (.inr ⟨ob, if_pos ⟨rfl, z⟩⟩)
    | some o =>
      have e := KX a o z
      rw [ha] at e
      cases e
      subst ho
      exact .inr ⟨_, vs.toArray, _, z, rfl, rfl, rfl, by rw [List.size_toArray, len]; exact big, by simpa using rv⟩
  refine codeAny_mono (F _ kin (nsp _ _ hns) s₁ H (.ref a) (.ref a) (fun v _ => v = .bl true) e0 rfl ⟨a, ns, rfl, hS, hl, fun _ => rfl⟩) fun r s' h => ?_
  cases r with
  | error e => exact h.elim
  | ok fl =>
    cases fl with
    | next => exact h.elim
    | brk => exact h.elim
    | cont => exact h.elim
    | ret u =>
      obtain ⟨v, H', os, bare, un, hok', rr, e⟩ := h
      subst e
      obtain rfl : u = Value.bool true := rr
      refine ⟨rfl, OldK.of_keep fun b o eb => ?_, os, bare⟩
      cases z : H b with
      | none => exact un.keep b o eb z (fun q => absurd (show b ∈ ([] : List Addr) from q) (by simp)) (by simp)
      | some u =>
        obtain ⟨e1, e2, e3⟩ := scr_some z
        subst e1 e3
        rw [ha] at eb
        cases eb
        exact (hok' b _ (un.frzs b _ _ z)).1
end
/-- the goal that k_head leaves -/
theorem walk {l : OpenLaw} {q : Program} {loose : List Str} {XP : (Str → Option Value) → Heap → Prop} {YP : World → Heap → Prop} {d : DefRec} {K : Params → PySem.W.Frag} (hn : l.most = some 63) (hdf : d.params.defaults = [])
    (hY : ∀ (w : World) (h : Heap), YP w h → (K w.params).In h)
    (F : ∀ (w : World) (mg : Str → Option Value) (fa : Addr) (h : Heap), (K w.params).In h → h.Ns mainGlobals mg → mg d.name = some (.ref fa) →
      ∃ fd : FuncData, ∀ base : Heap, (K w.params).In base → base.Ns mainGlobals mg → RunAt l.prog w (K w.params) mg base callerA fa fd (spLaw (K w.params))) :
    WalkO q loose XP YP l.row.toRowW d [] (fun f vs => PySem.call f vs) := by
  refine Att.attach_call hn hdf fun w s₀ s₁ mg mb fa o pm cd doc a vs ns G Y _ _ _ hmg hobj hints hlen hg => ?_
  have KX := hY w _ Y
  obtain ⟨fd, hF⟩ := F w mg fa _ KX G.T.g hmg
  exact call_law KX G.T.g G.T.b G.T.builtins G.T.nolimit hg hobj hints hlen hF
end K47

/-! What the top has written, gathered -/
namespace K47
open PySem PySem.W PySem.Spec PySem.Calls PyProof.Rows L2
set_option maxHeartbeats 4000000 in
theorem all_mk {l : OpenLaw} {w : World} {K : PySem.W.Frag} {h : Heap} {mg : Str → Option Value} {fa : Addr} (X : K.In h) (G : h.Ns mainGlobals mg) (hfa : mg "law" = some (.ref fa))
    {PC DC CM CC CA CB CT CX f_fx f_pn f_dr f_pk f_va f_it f_lw f_pi feq fbP fbD g0 c0 g1 c1 g2 c2 g3 c3 g4 c4 g5 c5 : Addr}
    {o_fx kV_fx dc_fx pm_fx cd_fx ct_fx : Value} {od_fx an_fx : Option Addr} {sl_fx : Array (Option Value)}
    {o_pn kV_pn dc_pn pm_pn cd_pn ct_pn : Value} {od_pn an_pn : Option Addr} {sl_pn : Array (Option Value)}
    {o_dr kV_dr dc_dr pm_dr cd_dr ct_dr : Value} {od_dr an_dr : Option Addr} {sl_dr : Array (Option Value)}
    {o_pk kV_pk dc_pk pm_pk cd_pk ct_pk : Value} {od_pk an_pk : Option Addr} {sl_pk : Array (Option Value)}
    {o_va kV_va dc_va pm_va cd_va ct_va : Value} {od_va an_va : Option Addr} {sl_va : Array (Option Value)}
    {o_it kV_it dc_it pm_it cd_it ct_it : Value} {od_it an_it : Option Addr} {sl_it : Array (Option Value)}
    {o_lw kV_lw dc_lw pm_lw cd_lw ct_lw : Value} {od_lw an_lw : Option Addr} {sl_lw : Array (Option Value)}
    {o_pi kV_pi dc_pi pm_pi cd_pi ct_pi : Value} {od_pi an_pi : Option Addr} {sl_pi : Array (Option Value)}
    {o_pb kV_pb dc_pb pm_pb cd_pb ct_pb : Value} {od_pb an_pb : Option Addr} {sl_pb : Array (Option Value)}
    {o_pe kV_pe dc_pe pm_pe cd_pe ct_pe : Value} {od_pe an_pe : Option Addr} {sl_pe : Array (Option Value)}
    {o_db kV_db dc_db pm_db cd_db ct_db : Value} {od_db an_db : Option Addr} {sl_db : Array (Option Value)}
    {odc_PC : Option Addr} {cdc_PC : ClassData} {slc_PC : Array (Option Value)} {tkc_PC : Tok}
    {odc_DC : Option Addr} {cdc_DC : ClassData} {slc_DC : Array (Option Value)} {tkc_DC : Tok}
    {odc_CM : Option Addr} {cdc_CM : ClassData} {slc_CM : Array (Option Value)} {tkc_CM : Tok}
    {odc_CC : Option Addr} {cdc_CC : ClassData} {slc_CC : Array (Option Value)} {tkc_CC : Tok}
    {odc_CA : Option Addr} {cdc_CA : ClassData} {slc_CA : Array (Option Value)} {tkc_CA : Tok}
    {odc_CB : Option Addr} {cdc_CB : ClassData} {slc_CB : Array (Option Value)} {tkc_CB : Tok}
    {odc_CT : Option Addr} {cdc_CT : ClassData} {slc_CT : Array (Option Value)} {tkc_CT : Tok}
    {odc_CX : Option Addr} {cdc_CX : ClassData} {slc_CX : Array (Option Value)} {tkc_CX : Tok}
    {ca_s0 : Addr} {ccl_s0 : Value} {cdd_s0 : Option Addr} {vs_s0 : Array Value} {ccs_s0 : Array (Option Value)} {fl_s0 : Str} {tf_s0 : Tok} {cl_s0 : Value} {cld_s0 : Option Addr} {csl_s0 : Array (Option Value)} {cdk_s0 : ClassData}
    {o_s0 kV_s0 dc_s0 pm_s0 ct_s0 : Value} {od_s0 an_s0 : Option Addr} {sl_s0 : Array (Option Value)}
    {ca_s1 : Addr} {ccl_s1 : Value} {cdd_s1 : Option Addr} {vs_s1 : Array Value} {ccs_s1 : Array (Option Value)} {fl_s1 : Str} {tf_s1 : Tok} {cl_s1 : Value} {cld_s1 : Option Addr} {csl_s1 : Array (Option Value)} {cdk_s1 : ClassData}
    {o_s1 kV_s1 dc_s1 pm_s1 ct_s1 : Value} {od_s1 an_s1 : Option Addr} {sl_s1 : Array (Option Value)}
    {ca_s2 : Addr} {ccl_s2 : Value} {cdd_s2 : Option Addr} {vs_s2 : Array Value} {ccs_s2 : Array (Option Value)} {fl_s2 : Str} {tf_s2 : Tok} {cl_s2 : Value} {cld_s2 : Option Addr} {csl_s2 : Array (Option Value)} {cdk_s2 : ClassData}
    {o_s2 kV_s2 dc_s2 pm_s2 ct_s2 : Value} {od_s2 an_s2 : Option Addr} {sl_s2 : Array (Option Value)}
    {ca_s3 : Addr} {ccl_s3 : Value} {cdd_s3 : Option Addr} {vs_s3 : Array Value} {ccs_s3 : Array (Option Value)} {fl_s3 : Str} {tf_s3 : Tok} {cl_s3 : Value} {cld_s3 : Option Addr} {csl_s3 : Array (Option Value)} {cdk_s3 : ClassData}
    {o_s3 kV_s3 dc_s3 pm_s3 ct_s3 : Value} {od_s3 an_s3 : Option Addr} {sl_s3 : Array (Option Value)}
    {ca_s4 : Addr} {ccl_s4 : Value} {cdd_s4 : Option Addr} {vs_s4 : Array Value} {ccs_s4 : Array (Option Value)} {fl_s4 : Str} {tf_s4 : Tok} {cl_s4 : Value} {cld_s4 : Option Addr} {csl_s4 : Array (Option Value)} {cdk_s4 : ClassData}
    {o_s4 kV_s4 dc_s4 pm_s4 ct_s4 : Value} {od_s4 an_s4 : Option Addr} {sl_s4 : Array (Option Value)}
    {ca_s5 : Addr} {ccl_s5 : Value} {cdd_s5 : Option Addr} {vs_s5 : Array Value} {ccs_s5 : Array (Option Value)} {fl_s5 : Str} {tf_s5 : Tok} {cl_s5 : Value} {cld_s5 : Option Addr} {csl_s5 : Array (Option Value)} {cdk_s5 : ClassData}
    {o_s5 kV_s5 dc_s5 pm_s5 ct_s5 : Value} {od_s5 an_s5 : Option Addr} {sl_s5 : Array (Option Value)}
    (a_fx : PySem.W.nsIn K mainGlobals "fixed" = some (some (.ref f_fx)))
    (l_fx : K.lookup f_fx = some ⟨o_fx, od_fx, .func (PySem.W.fnOf "fixed" "fixed" (defArgs sFix) (defBody sFix) (defScope sFix) .none kV_fx dc_fx pm_fx an_fx cd_fx ct_fx), sl_fx⟩)
    (c_fx : PySem.W.codeIn K cd_fx "fixed" = true)
    (k_fx : PySem.W.keepIn K (.ref f_fx) = true)
    (a_pn : PySem.W.nsIn K mainGlobals "_law_pen" = some (some (.ref f_pn)))
    (l_pn : K.lookup f_pn = some ⟨o_pn, od_pn, .func (PySem.W.fnOf "_law_pen" "_law_pen" (defArgs sPen) (defBody sPen) (defScope sPen) .none kV_pn dc_pn pm_pn an_pn cd_pn ct_pn), sl_pn⟩)
    (c_pn : PySem.W.codeIn K cd_pn "_law_pen" = true)
    (k_pn : PySem.W.keepIn K (.ref f_pn) = true)
    (a_dr : PySem.W.nsIn K mainGlobals "_law_draw" = some (some (.ref f_dr)))
    (l_dr : K.lookup f_dr = some ⟨o_dr, od_dr, .func (PySem.W.fnOf "_law_draw" "_law_draw" (defArgs sDraw) (defBody sDraw) (defScope sDraw) .none kV_dr dc_dr pm_dr an_dr cd_dr ct_dr), sl_dr⟩)
    (c_dr : PySem.W.codeIn K cd_dr "_law_draw" = true)
    (k_dr : PySem.W.keepIn K (.ref f_dr) = true)
    (a_pk : PySem.W.nsIn K mainGlobals "_law_pick" = some (some (.ref f_pk)))
    (l_pk : K.lookup f_pk = some ⟨o_pk, od_pk, .func (PySem.W.fnOf "_law_pick" "_law_pick" (defArgs sPick) (defBody sPick) (defScope sPick) .none kV_pk dc_pk pm_pk an_pk cd_pk ct_pk), sl_pk⟩)
    (c_pk : PySem.W.codeIn K cd_pk "_law_pick" = true)
    (k_pk : PySem.W.keepIn K (.ref f_pk) = true)
    (a_va : PySem.W.nsIn K mainGlobals "_law_any_value" = some (some (.ref f_va)))
    (l_va : K.lookup f_va = some ⟨o_va, od_va, .func (PySem.W.fnOf "_law_any_value" "_law_any_value" (defArgs sVal) (defBody sVal) (defScope sVal) .none kV_va dc_va pm_va an_va cd_va ct_va), sl_va⟩)
    (c_va : PySem.W.codeIn K cd_va "_law_any_value" = true)
    (k_va : PySem.W.keepIn K (.ref f_va) = true)
    (a_it : PySem.W.nsIn K mainGlobals "_law_in_tuples" = some (some (.ref f_it)))
    (l_it : K.lookup f_it = some ⟨o_it, od_it, .func (PySem.W.fnOf "_law_in_tuples" "_law_in_tuples" (defArgs sInT) (defBody sInT) (defScope sInT) .none kV_it dc_it pm_it an_it cd_it ct_it), sl_it⟩)
    (c_it : PySem.W.codeIn K cd_it "_law_in_tuples" = true)
    (k_it : PySem.W.keepIn K (.ref f_it) = true)
    (a_lw : PySem.W.nsIn K mainGlobals "law" = some (some (.ref f_lw)))
    (l_lw : K.lookup f_lw = some ⟨o_lw, od_lw, .func (PySem.W.fnOf "law" "law" (defArgs sLaw) (defBody sLaw) (defScope sLaw) .none kV_lw dc_lw pm_lw an_lw cd_lw ct_lw), sl_lw⟩)
    (c_lw : PySem.W.codeIn K cd_lw "law" = true)
    (k_lw : PySem.W.keepIn K (.ref f_lw) = true)
    (a_PC : PySem.W.nsIn K mainGlobals "Paper" = some (some (.ref PC)))
    (a_DC : PySem.W.nsIn K mainGlobals "Denial" = some (some (.ref DC)))
    (a_CM : PySem.W.nsIn K mainGlobals "Map" = some (some (.ref CM)))
    (a_CC : PySem.W.nsIn K mainGlobals "Cheapest" = some (some (.ref CC)))
    (a_CA : PySem.W.nsIn K mainGlobals "Affords" = some (some (.ref CA)))
    (a_CB : PySem.W.nsIn K mainGlobals "Beyond" = some (some (.ref CB)))
    (a_CT : PySem.W.nsIn K mainGlobals "Track" = some (some (.ref CT)))
    (a_CX : PySem.W.nsIn K mainGlobals "Missed" = some (some (.ref CX)))
    (a_pi : PySem.W.findIn K (.ref PC) "__init__" = some (some (.ref f_pi)))
    (l_pi : K.lookup f_pi = some ⟨o_pi, od_pi, .func (PySem.W.fnOf "__init__" "Paper.__init__" (defArgs sPInit) (defBody sPInit) (defScope sPInit) .none kV_pi dc_pi pm_pi an_pi cd_pi ct_pi), sl_pi⟩)
    (c_pi : PySem.W.codeIn K cd_pi "Paper.__init__" = true)
    (k_pi : PySem.W.keepIn K (.ref f_pi) = true)
    (i_pi : PySem.W.isFn K (.ref f_pi) = true)
    (a_pb : PySem.W.findIn K (.ref PC) "__bool__" = some (some (.ref fbP)))
    (l_pb : K.lookup fbP = some ⟨o_pb, od_pb, .func (PySem.W.fnOf "__bool__" "Paper.__bool__" (defArgs sPBool) (defBody sPBool) (defScope sPBool) .none kV_pb dc_pb pm_pb an_pb cd_pb ct_pb), sl_pb⟩)
    (c_pb : PySem.W.codeIn K cd_pb "Paper.__bool__" = true)
    (k_pb : PySem.W.keepIn K (.ref fbP) = true)
    (i_pb : PySem.W.isFn K (.ref fbP) = true)
    (a_pe : PySem.W.findIn K (.ref PC) "__eq__" = some (some (.ref feq)))
    (l_pe : K.lookup feq = some ⟨o_pe, od_pe, .func (PySem.W.fnOf "__eq__" "Paper.__eq__" (defArgs sPEq) (defBody sPEq) (defScope sPEq) .none kV_pe dc_pe pm_pe an_pe cd_pe ct_pe), sl_pe⟩)
    (c_pe : PySem.W.codeIn K cd_pe "Paper.__eq__" = true)
    (k_pe : PySem.W.keepIn K (.ref feq) = true)
    (i_pe : PySem.W.isFn K (.ref feq) = true)
    (a_db : PySem.W.findIn K (.ref DC) "__bool__" = some (some (.ref fbD)))
    (l_db : K.lookup fbD = some ⟨o_db, od_db, .func (PySem.W.fnOf "__bool__" "Denial.__bool__" (defArgs sDBool) (defBody sDBool) (defScope sDBool) .none kV_db dc_db pm_db an_db cd_db ct_db), sl_db⟩)
    (c_db : PySem.W.codeIn K cd_db "Denial.__bool__" = true)
    (k_db : PySem.W.keepIn K (.ref fbD) = true)
    (i_db : PySem.W.isFn K (.ref fbD) = true)
    (hn : PySem.W.specialIn K (.builtin "object.__class__") "__get__" = some (some (.builtin "getset_descriptor.__get__")))
    (htk : PySem.W.takesIn K (.builtin "object.__class__") = some true)
    (opq : PySem.W.nsIn K cStatics "thirdparty.any" = some none)
    (kt : PySem.W.kitOne K (.type "tuple") (.ref PC) = some false)
    (pg_PC : PySem.W.plainGet K PC Str.empty = true)
    (hd_PC : PySem.W.hasDictIn K PC = true)
    (po_PC : PySem.W.plainOver K PC = true)
    (sa_PC : PySem.W.findIn K (.ref PC) "__setattr__" = some (some (.builtin "object.__setattr__")))
    (nW_PC : PySem.W.findIn K (.ref PC) "word" = some none)
    (nP_PC : PySem.W.findIn K (.ref PC) "parts" = some none)
    (ca_PC : PySem.W.findIn K (.ref PC) "__class__" = some (some (.builtin "object.__class__")))
    (hm_PC : PySem.W.mroIn K PC (.type "object") = some true)
    (lc_PC : K.lookup PC = some ⟨.type "type", odc_PC, .cls cdc_PC, slc_PC⟩)
    (sl_PC : slc_PC[2]? = some (some (.str "Paper" tkc_PC)))
    (ty_PC : typeIn K (.ref PC) = some (.type "type"))
    (fd_PC : findCls K (.ref PC) (.type "type") "__name__" = some (.get (.builtin "getset_descriptor.__get__") (.builtin "type.__name__") (.ref PC) (.type "type")))
    (kp_PC : PySem.W.kitOne K (.ref PC) (.ref PC) = some true)
    (kd_PC : PySem.W.kitOne K (.ref PC) (.ref DC) = some false)
    (eq_PC : PySem.W.findIn K (.ref PC) "__eq__" = some (some (.ref feq)))
    (ne_PC : PySem.W.findIn K (.ref PC) "__ne__" = some (some (.builtin "object.__ne__")))
    (bo_PC : PySem.W.findIn K (.ref PC) "__bool__" = some (some (.ref fbP)))
    (tu_PC : PySem.W.subIn K (.type "tuple") (.ref PC) = some false)
    (mk_PC : PySem.W.makesIn K PC = true)
    (kc_PC : PySem.W.keepIn K (.ref PC) = true)
    (pg_DC : PySem.W.plainGet K DC Str.empty = true)
    (hd_DC : PySem.W.hasDictIn K DC = true)
    (po_DC : PySem.W.plainOver K DC = true)
    (sa_DC : PySem.W.findIn K (.ref DC) "__setattr__" = some (some (.builtin "object.__setattr__")))
    (nW_DC : PySem.W.findIn K (.ref DC) "word" = some none)
    (nP_DC : PySem.W.findIn K (.ref DC) "parts" = some none)
    (ca_DC : PySem.W.findIn K (.ref DC) "__class__" = some (some (.builtin "object.__class__")))
    (hm_DC : PySem.W.mroIn K DC (.type "object") = some true)
    (lc_DC : K.lookup DC = some ⟨.type "type", odc_DC, .cls cdc_DC, slc_DC⟩)
    (sl_DC : slc_DC[2]? = some (some (.str "Denial" tkc_DC)))
    (ty_DC : typeIn K (.ref DC) = some (.type "type"))
    (fd_DC : findCls K (.ref DC) (.type "type") "__name__" = some (.get (.builtin "getset_descriptor.__get__") (.builtin "type.__name__") (.ref DC) (.type "type")))
    (kp_DC : PySem.W.kitOne K (.ref DC) (.ref PC) = some true)
    (kd_DC : PySem.W.kitOne K (.ref DC) (.ref DC) = some true)
    (eq_DC : PySem.W.findIn K (.ref DC) "__eq__" = some (some (.ref feq)))
    (ne_DC : PySem.W.findIn K (.ref DC) "__ne__" = some (some (.builtin "object.__ne__")))
    (bo_DC : PySem.W.findIn K (.ref DC) "__bool__" = some (some (.ref fbD)))
    (tu_DC : PySem.W.subIn K (.type "tuple") (.ref DC) = some false)
    (mk_DC : PySem.W.makesIn K DC = true)
    (kc_DC : PySem.W.keepIn K (.ref DC) = true)
    (pg_CM : PySem.W.plainGet K CM Str.empty = true)
    (hd_CM : PySem.W.hasDictIn K CM = true)
    (po_CM : PySem.W.plainOver K CM = true)
    (sa_CM : PySem.W.findIn K (.ref CM) "__setattr__" = some (some (.builtin "object.__setattr__")))
    (nW_CM : PySem.W.findIn K (.ref CM) "word" = some none)
    (nP_CM : PySem.W.findIn K (.ref CM) "parts" = some none)
    (ca_CM : PySem.W.findIn K (.ref CM) "__class__" = some (some (.builtin "object.__class__")))
    (hm_CM : PySem.W.mroIn K CM (.type "object") = some true)
    (lc_CM : K.lookup CM = some ⟨.type "type", odc_CM, .cls cdc_CM, slc_CM⟩)
    (sl_CM : slc_CM[2]? = some (some (.str "Map" tkc_CM)))
    (ty_CM : typeIn K (.ref CM) = some (.type "type"))
    (fd_CM : findCls K (.ref CM) (.type "type") "__name__" = some (.get (.builtin "getset_descriptor.__get__") (.builtin "type.__name__") (.ref CM) (.type "type")))
    (kp_CM : PySem.W.kitOne K (.ref CM) (.ref PC) = some true)
    (kd_CM : PySem.W.kitOne K (.ref CM) (.ref DC) = some false)
    (eq_CM : PySem.W.findIn K (.ref CM) "__eq__" = some (some (.ref feq)))
    (ne_CM : PySem.W.findIn K (.ref CM) "__ne__" = some (some (.builtin "object.__ne__")))
    (bo_CM : PySem.W.findIn K (.ref CM) "__bool__" = some (some (.ref fbP)))
    (tu_CM : PySem.W.subIn K (.type "tuple") (.ref CM) = some false)
    (mk_CM : PySem.W.makesIn K CM = true)
    (kc_CM : PySem.W.keepIn K (.ref CM) = true)
    (n0_CM : PySem.W.findIn K (.ref CM) "domain" = some none)
    (n1_CM : PySem.W.findIn K (.ref CM) "planes" = some none)
    (n2_CM : PySem.W.findIn K (.ref CM) "spots" = some none)
    (pg_CC : PySem.W.plainGet K CC Str.empty = true)
    (hd_CC : PySem.W.hasDictIn K CC = true)
    (po_CC : PySem.W.plainOver K CC = true)
    (sa_CC : PySem.W.findIn K (.ref CC) "__setattr__" = some (some (.builtin "object.__setattr__")))
    (nW_CC : PySem.W.findIn K (.ref CC) "word" = some none)
    (nP_CC : PySem.W.findIn K (.ref CC) "parts" = some none)
    (ca_CC : PySem.W.findIn K (.ref CC) "__class__" = some (some (.builtin "object.__class__")))
    (hm_CC : PySem.W.mroIn K CC (.type "object") = some true)
    (lc_CC : K.lookup CC = some ⟨.type "type", odc_CC, .cls cdc_CC, slc_CC⟩)
    (sl_CC : slc_CC[2]? = some (some (.str "Cheapest" tkc_CC)))
    (ty_CC : typeIn K (.ref CC) = some (.type "type"))
    (fd_CC : findCls K (.ref CC) (.type "type") "__name__" = some (.get (.builtin "getset_descriptor.__get__") (.builtin "type.__name__") (.ref CC) (.type "type")))
    (kp_CC : PySem.W.kitOne K (.ref CC) (.ref PC) = some true)
    (kd_CC : PySem.W.kitOne K (.ref CC) (.ref DC) = some false)
    (eq_CC : PySem.W.findIn K (.ref CC) "__eq__" = some (some (.ref feq)))
    (ne_CC : PySem.W.findIn K (.ref CC) "__ne__" = some (some (.builtin "object.__ne__")))
    (bo_CC : PySem.W.findIn K (.ref CC) "__bool__" = some (some (.ref fbP)))
    (tu_CC : PySem.W.subIn K (.type "tuple") (.ref CC) = some false)
    (mk_CC : PySem.W.makesIn K CC = true)
    (kc_CC : PySem.W.keepIn K (.ref CC) = true)
    (n0_CC : PySem.W.findIn K (.ref CC) "costs" = some none)
    (n1_CC : PySem.W.findIn K (.ref CC) "point" = some none)
    (n2_CC : PySem.W.findIn K (.ref CC) "total" = some none)
    (n3_CC : PySem.W.findIn K (.ref CC) "rows" = some none)
    (pg_CA : PySem.W.plainGet K CA Str.empty = true)
    (hd_CA : PySem.W.hasDictIn K CA = true)
    (po_CA : PySem.W.plainOver K CA = true)
    (sa_CA : PySem.W.findIn K (.ref CA) "__setattr__" = some (some (.builtin "object.__setattr__")))
    (nW_CA : PySem.W.findIn K (.ref CA) "word" = some none)
    (nP_CA : PySem.W.findIn K (.ref CA) "parts" = some none)
    (ca_CA : PySem.W.findIn K (.ref CA) "__class__" = some (some (.builtin "object.__class__")))
    (hm_CA : PySem.W.mroIn K CA (.type "object") = some true)
    (lc_CA : K.lookup CA = some ⟨.type "type", odc_CA, .cls cdc_CA, slc_CA⟩)
    (sl_CA : slc_CA[2]? = some (some (.str "Affords" tkc_CA)))
    (ty_CA : typeIn K (.ref CA) = some (.type "type"))
    (fd_CA : findCls K (.ref CA) (.type "type") "__name__" = some (.get (.builtin "getset_descriptor.__get__") (.builtin "type.__name__") (.ref CA) (.type "type")))
    (kp_CA : PySem.W.kitOne K (.ref CA) (.ref PC) = some true)
    (kd_CA : PySem.W.kitOne K (.ref CA) (.ref DC) = some false)
    (eq_CA : PySem.W.findIn K (.ref CA) "__eq__" = some (some (.ref feq)))
    (ne_CA : PySem.W.findIn K (.ref CA) "__ne__" = some (some (.builtin "object.__ne__")))
    (bo_CA : PySem.W.findIn K (.ref CA) "__bool__" = some (some (.ref fbP)))
    (tu_CA : PySem.W.subIn K (.type "tuple") (.ref CA) = some false)
    (mk_CA : PySem.W.makesIn K CA = true)
    (kc_CA : PySem.W.keepIn K (.ref CA) = true)
    (n0_CA : PySem.W.findIn K (.ref CA) "bound" = some none)
    (n1_CA : PySem.W.findIn K (.ref CA) "corners" = some none)
    (pg_CB : PySem.W.plainGet K CB Str.empty = true)
    (hd_CB : PySem.W.hasDictIn K CB = true)
    (po_CB : PySem.W.plainOver K CB = true)
    (sa_CB : PySem.W.findIn K (.ref CB) "__setattr__" = some (some (.builtin "object.__setattr__")))
    (nW_CB : PySem.W.findIn K (.ref CB) "word" = some none)
    (nP_CB : PySem.W.findIn K (.ref CB) "parts" = some none)
    (ca_CB : PySem.W.findIn K (.ref CB) "__class__" = some (some (.builtin "object.__class__")))
    (hm_CB : PySem.W.mroIn K CB (.type "object") = some true)
    (lc_CB : K.lookup CB = some ⟨.type "type", odc_CB, .cls cdc_CB, slc_CB⟩)
    (sl_CB : slc_CB[2]? = some (some (.str "Beyond" tkc_CB)))
    (ty_CB : typeIn K (.ref CB) = some (.type "type"))
    (fd_CB : findCls K (.ref CB) (.type "type") "__name__" = some (.get (.builtin "getset_descriptor.__get__") (.builtin "type.__name__") (.ref CB) (.type "type")))
    (kp_CB : PySem.W.kitOne K (.ref CB) (.ref PC) = some true)
    (kd_CB : PySem.W.kitOne K (.ref CB) (.ref DC) = some true)
    (eq_CB : PySem.W.findIn K (.ref CB) "__eq__" = some (some (.ref feq)))
    (ne_CB : PySem.W.findIn K (.ref CB) "__ne__" = some (some (.builtin "object.__ne__")))
    (bo_CB : PySem.W.findIn K (.ref CB) "__bool__" = some (some (.ref fbD)))
    (tu_CB : PySem.W.subIn K (.type "tuple") (.ref CB) = some false)
    (mk_CB : PySem.W.makesIn K CB = true)
    (kc_CB : PySem.W.keepIn K (.ref CB) = true)
    (n0_CB : PySem.W.findIn K (.ref CB) "bound" = some none)
    (n1_CB : PySem.W.findIn K (.ref CB) "rows" = some none)
    (pg_CT : PySem.W.plainGet K CT Str.empty = true)
    (hd_CT : PySem.W.hasDictIn K CT = true)
    (po_CT : PySem.W.plainOver K CT = true)
    (sa_CT : PySem.W.findIn K (.ref CT) "__setattr__" = some (some (.builtin "object.__setattr__")))
    (nW_CT : PySem.W.findIn K (.ref CT) "word" = some none)
    (nP_CT : PySem.W.findIn K (.ref CT) "parts" = some none)
    (ca_CT : PySem.W.findIn K (.ref CT) "__class__" = some (some (.builtin "object.__class__")))
    (hm_CT : PySem.W.mroIn K CT (.type "object") = some true)
    (lc_CT : K.lookup CT = some ⟨.type "type", odc_CT, .cls cdc_CT, slc_CT⟩)
    (sl_CT : slc_CT[2]? = some (some (.str "Track" tkc_CT)))
    (ty_CT : typeIn K (.ref CT) = some (.type "type"))
    (fd_CT : findCls K (.ref CT) (.type "type") "__name__" = some (.get (.builtin "getset_descriptor.__get__") (.builtin "type.__name__") (.ref CT) (.type "type")))
    (kp_CT : PySem.W.kitOne K (.ref CT) (.ref PC) = some true)
    (kd_CT : PySem.W.kitOne K (.ref CT) (.ref DC) = some false)
    (eq_CT : PySem.W.findIn K (.ref CT) "__eq__" = some (some (.ref feq)))
    (ne_CT : PySem.W.findIn K (.ref CT) "__ne__" = some (some (.builtin "object.__ne__")))
    (bo_CT : PySem.W.findIn K (.ref CT) "__bool__" = some (some (.ref fbP)))
    (tu_CT : PySem.W.subIn K (.type "tuple") (.ref CT) = some false)
    (mk_CT : PySem.W.makesIn K CT = true)
    (kc_CT : PySem.W.keepIn K (.ref CT) = true)
    (n0_CT : PySem.W.findIn K (.ref CT) "spots" = some none)
    (pg_CX : PySem.W.plainGet K CX Str.empty = true)
    (hd_CX : PySem.W.hasDictIn K CX = true)
    (po_CX : PySem.W.plainOver K CX = true)
    (sa_CX : PySem.W.findIn K (.ref CX) "__setattr__" = some (some (.builtin "object.__setattr__")))
    (nW_CX : PySem.W.findIn K (.ref CX) "word" = some none)
    (nP_CX : PySem.W.findIn K (.ref CX) "parts" = some none)
    (ca_CX : PySem.W.findIn K (.ref CX) "__class__" = some (some (.builtin "object.__class__")))
    (hm_CX : PySem.W.mroIn K CX (.type "object") = some true)
    (lc_CX : K.lookup CX = some ⟨.type "type", odc_CX, .cls cdc_CX, slc_CX⟩)
    (sl_CX : slc_CX[2]? = some (some (.str "Missed" tkc_CX)))
    (ty_CX : typeIn K (.ref CX) = some (.type "type"))
    (fd_CX : findCls K (.ref CX) (.type "type") "__name__" = some (.get (.builtin "getset_descriptor.__get__") (.builtin "type.__name__") (.ref CX) (.type "type")))
    (kp_CX : PySem.W.kitOne K (.ref CX) (.ref PC) = some true)
    (kd_CX : PySem.W.kitOne K (.ref CX) (.ref DC) = some true)
    (eq_CX : PySem.W.findIn K (.ref CX) "__eq__" = some (some (.ref feq)))
    (ne_CX : PySem.W.findIn K (.ref CX) "__ne__" = some (some (.builtin "object.__ne__")))
    (bo_CX : PySem.W.findIn K (.ref CX) "__bool__" = some (some (.ref fbD)))
    (tu_CX : PySem.W.subIn K (.type "tuple") (.ref CX) = some false)
    (mk_CX : PySem.W.makesIn K CX = true)
    (kc_CX : PySem.W.keepIn K (.ref CX) = true)
    (n0_CX : PySem.W.findIn K (.ref CX) "rows" = some none)
    (id_DC : PySem.W.findIn K (.ref DC) "__init__" = some (some (.ref f_pi)))
    (s_01 : PySem.W.subIn K (.ref CC) (.ref CM) = some false)
    (s_02 : PySem.W.subIn K (.ref CA) (.ref CM) = some false)
    (s_03 : PySem.W.subIn K (.ref CB) (.ref CM) = some false)
    (s_04 : PySem.W.subIn K (.ref CT) (.ref CM) = some false)
    (s_05 : PySem.W.subIn K (.ref CX) (.ref CM) = some false)
    (s_10 : PySem.W.subIn K (.ref CM) (.ref CC) = some false)
    (s_12 : PySem.W.subIn K (.ref CA) (.ref CC) = some false)
    (s_13 : PySem.W.subIn K (.ref CB) (.ref CC) = some false)
    (s_14 : PySem.W.subIn K (.ref CT) (.ref CC) = some false)
    (s_15 : PySem.W.subIn K (.ref CX) (.ref CC) = some false)
    (s_20 : PySem.W.subIn K (.ref CM) (.ref CA) = some false)
    (s_21 : PySem.W.subIn K (.ref CC) (.ref CA) = some false)
    (s_23 : PySem.W.subIn K (.ref CB) (.ref CA) = some false)
    (s_24 : PySem.W.subIn K (.ref CT) (.ref CA) = some false)
    (s_25 : PySem.W.subIn K (.ref CX) (.ref CA) = some false)
    (s_30 : PySem.W.subIn K (.ref CM) (.ref CB) = some false)
    (s_31 : PySem.W.subIn K (.ref CC) (.ref CB) = some false)
    (s_32 : PySem.W.subIn K (.ref CA) (.ref CB) = some false)
    (s_34 : PySem.W.subIn K (.ref CT) (.ref CB) = some false)
    (s_35 : PySem.W.subIn K (.ref CX) (.ref CB) = some false)
    (s_40 : PySem.W.subIn K (.ref CM) (.ref CT) = some false)
    (s_41 : PySem.W.subIn K (.ref CC) (.ref CT) = some false)
    (s_42 : PySem.W.subIn K (.ref CA) (.ref CT) = some false)
    (s_43 : PySem.W.subIn K (.ref CB) (.ref CT) = some false)
    (s_45 : PySem.W.subIn K (.ref CX) (.ref CT) = some false)
    (s_50 : PySem.W.subIn K (.ref CM) (.ref CX) = some false)
    (s_51 : PySem.W.subIn K (.ref CC) (.ref CX) = some false)
    (s_52 : PySem.W.subIn K (.ref CA) (.ref CX) = some false)
    (s_53 : PySem.W.subIn K (.ref CB) (.ref CX) = some false)
    (s_54 : PySem.W.subIn K (.ref CT) (.ref CX) = some false)
    (rM : PySem.W.subIn K (.ref CM) (.ref PC) = some true)
    (rT : PySem.W.subIn K (.ref CT) (.ref PC) = some true)
    (rX : PySem.W.subIn K (.ref CX) (.ref DC) = some true)
    (fty : typeIn K (.ref f_pi) = some (.type "function"))
    (ffn : fnIn K f_pi = true)
    (ii_0 : PySem.W.findIn K (.ref CM) "__init__" = some (some (.ref g0)))
    (l_s0 : K.lookup g0 = some ⟨o_s0, od_s0, .func (ksFn "__init__" "Map.__init__" (defArgs sMap) (defBody sMap) (defScope sMap) .none kV_s0 dc_s0 pm_s0 an_s0 (.ref ca_s0) ct_s0 c0), sl_s0⟩)
    (c_s0 : PySem.W.codeIn K (.ref ca_s0) "Map.__init__" = true)
    (k_s0 : PySem.W.keepIn K (.ref g0) = true)
    (if_0 : PySem.W.isFn K (.ref g0) = true)
    (lk_0 : K.lookup ca_s0 = some ⟨ccl_s0, cdd_s0, .fields vs_s0, ccs_s0⟩)
    (fi_0 : vs_s0[2]? = some (.str fl_s0 tf_s0))
    (ff_0 : ((l.prog.main.file : Str) == fl_s0) = true)
    (ce_0 : K.lookup c0 = some ⟨cl_s0, cld_s0, .cell (some (.ref CM)), csl_s0⟩)
    (ck_0 : clsIn K CM = some cdk_s0)
    (sm_0 : mroIn K CM (.ref CM) = some true)
    (me_0 : ks_superIn K CM CM "__init__" = some (some (.ref f_pi)))
    (ii_1 : PySem.W.findIn K (.ref CC) "__init__" = some (some (.ref g1)))
    (l_s1 : K.lookup g1 = some ⟨o_s1, od_s1, .func (ksFn "__init__" "Cheapest.__init__" (defArgs sCheapest) (defBody sCheapest) (defScope sCheapest) .none kV_s1 dc_s1 pm_s1 an_s1 (.ref ca_s1) ct_s1 c1), sl_s1⟩)
    (c_s1 : PySem.W.codeIn K (.ref ca_s1) "Cheapest.__init__" = true)
    (k_s1 : PySem.W.keepIn K (.ref g1) = true)
    (if_1 : PySem.W.isFn K (.ref g1) = true)
    (lk_1 : K.lookup ca_s1 = some ⟨ccl_s1, cdd_s1, .fields vs_s1, ccs_s1⟩)
    (fi_1 : vs_s1[2]? = some (.str fl_s1 tf_s1))
    (ff_1 : ((l.prog.main.file : Str) == fl_s1) = true)
    (ce_1 : K.lookup c1 = some ⟨cl_s1, cld_s1, .cell (some (.ref CC)), csl_s1⟩)
    (ck_1 : clsIn K CC = some cdk_s1)
    (sm_1 : mroIn K CC (.ref CC) = some true)
    (me_1 : ks_superIn K CC CC "__init__" = some (some (.ref f_pi)))
    (ii_2 : PySem.W.findIn K (.ref CA) "__init__" = some (some (.ref g2)))
    (l_s2 : K.lookup g2 = some ⟨o_s2, od_s2, .func (ksFn "__init__" "Affords.__init__" (defArgs sAffords) (defBody sAffords) (defScope sAffords) .none kV_s2 dc_s2 pm_s2 an_s2 (.ref ca_s2) ct_s2 c2), sl_s2⟩)
    (c_s2 : PySem.W.codeIn K (.ref ca_s2) "Affords.__init__" = true)
    (k_s2 : PySem.W.keepIn K (.ref g2) = true)
    (if_2 : PySem.W.isFn K (.ref g2) = true)
    (lk_2 : K.lookup ca_s2 = some ⟨ccl_s2, cdd_s2, .fields vs_s2, ccs_s2⟩)
    (fi_2 : vs_s2[2]? = some (.str fl_s2 tf_s2))
    (ff_2 : ((l.prog.main.file : Str) == fl_s2) = true)
    (ce_2 : K.lookup c2 = some ⟨cl_s2, cld_s2, .cell (some (.ref CA)), csl_s2⟩)
    (ck_2 : clsIn K CA = some cdk_s2)
    (sm_2 : mroIn K CA (.ref CA) = some true)
    (me_2 : ks_superIn K CA CA "__init__" = some (some (.ref f_pi)))
    (ii_3 : PySem.W.findIn K (.ref CB) "__init__" = some (some (.ref g3)))
    (l_s3 : K.lookup g3 = some ⟨o_s3, od_s3, .func (ksFn "__init__" "Beyond.__init__" (defArgs sBeyond) (defBody sBeyond) (defScope sBeyond) .none kV_s3 dc_s3 pm_s3 an_s3 (.ref ca_s3) ct_s3 c3), sl_s3⟩)
    (c_s3 : PySem.W.codeIn K (.ref ca_s3) "Beyond.__init__" = true)
    (k_s3 : PySem.W.keepIn K (.ref g3) = true)
    (if_3 : PySem.W.isFn K (.ref g3) = true)
    (lk_3 : K.lookup ca_s3 = some ⟨ccl_s3, cdd_s3, .fields vs_s3, ccs_s3⟩)
    (fi_3 : vs_s3[2]? = some (.str fl_s3 tf_s3))
    (ff_3 : ((l.prog.main.file : Str) == fl_s3) = true)
    (ce_3 : K.lookup c3 = some ⟨cl_s3, cld_s3, .cell (some (.ref CB)), csl_s3⟩)
    (ck_3 : clsIn K CB = some cdk_s3)
    (sm_3 : mroIn K CB (.ref CB) = some true)
    (me_3 : ks_superIn K CB CB "__init__" = some (some (.ref f_pi)))
    (ii_4 : PySem.W.findIn K (.ref CT) "__init__" = some (some (.ref g4)))
    (l_s4 : K.lookup g4 = some ⟨o_s4, od_s4, .func (ksFn "__init__" "Track.__init__" (defArgs sTrack) (defBody sTrack) (defScope sTrack) .none kV_s4 dc_s4 pm_s4 an_s4 (.ref ca_s4) ct_s4 c4), sl_s4⟩)
    (c_s4 : PySem.W.codeIn K (.ref ca_s4) "Track.__init__" = true)
    (k_s4 : PySem.W.keepIn K (.ref g4) = true)
    (if_4 : PySem.W.isFn K (.ref g4) = true)
    (lk_4 : K.lookup ca_s4 = some ⟨ccl_s4, cdd_s4, .fields vs_s4, ccs_s4⟩)
    (fi_4 : vs_s4[2]? = some (.str fl_s4 tf_s4))
    (ff_4 : ((l.prog.main.file : Str) == fl_s4) = true)
    (ce_4 : K.lookup c4 = some ⟨cl_s4, cld_s4, .cell (some (.ref CT)), csl_s4⟩)
    (ck_4 : clsIn K CT = some cdk_s4)
    (sm_4 : mroIn K CT (.ref CT) = some true)
    (me_4 : ks_superIn K CT CT "__init__" = some (some (.ref f_pi)))
    (ii_5 : PySem.W.findIn K (.ref CX) "__init__" = some (some (.ref g5)))
    (l_s5 : K.lookup g5 = some ⟨o_s5, od_s5, .func (ksFn "__init__" "Missed.__init__" (defArgs sMissed) (defBody sMissed) (defScope sMissed) .none kV_s5 dc_s5 pm_s5 an_s5 (.ref ca_s5) ct_s5 c5), sl_s5⟩)
    (c_s5 : PySem.W.codeIn K (.ref ca_s5) "Missed.__init__" = true)
    (k_s5 : PySem.W.keepIn K (.ref g5) = true)
    (if_5 : PySem.W.isFn K (.ref g5) = true)
    (lk_5 : K.lookup ca_s5 = some ⟨ccl_s5, cdd_s5, .fields vs_s5, ccs_s5⟩)
    (fi_5 : vs_s5[2]? = some (.str fl_s5 tf_s5))
    (ff_5 : ((l.prog.main.file : Str) == fl_s5) = true)
    (ce_5 : K.lookup c5 = some ⟨cl_s5, cld_s5, .cell (some (.ref CX)), csl_s5⟩)
    (ck_5 : clsIn K CX = some cdk_s5)
    (sm_5 : mroIn K CX (.ref CX) = some true)
    (me_5 : ks_superIn K CX CX "__init__" = some (some (.ref f_pi)))
    (tp : (l.prog.main.scope.names.lookup ("super" : Str)).isSome = false)
    (z_super : PySem.W.nsIn K mainGlobals "super" = some none)
    (z_int : PySem.W.nsIn K mainGlobals "int" = some none)
    (z_len : PySem.W.nsIn K mainGlobals "len" = some none)
    (z_abs : PySem.W.nsIn K mainGlobals "abs" = some none)
    (z_range : PySem.W.nsIn K mainGlobals "range" = some none)
    (z_tuple : PySem.W.nsIn K mainGlobals "tuple" = some none)
    (z_isinstance : PySem.W.nsIn K mainGlobals "isinstance" = some none)
    (z_list : PySem.W.nsIn K mainGlobals "list" = some none)
    (z_bool : PySem.W.nsIn K mainGlobals "bool" = some none)
    (z_repr : PySem.W.nsIn K mainGlobals "repr" = some none)
    (z_enumerate : PySem.W.nsIn K mainGlobals "enumerate" = some none)
    : ∃ fd : FuncData, ∀ base : Heap, K.In base → base.Ns mainGlobals mg → RunAt l.prog w K mg base callerA fa fd (spLaw K) := by
  have e := hfa.symm.trans (PySem.W.mg_of X G a_lw)
  cases e
  have F_fx := fun_mk (st := sFix) l_fx c_fx k_fx
  have F_pn := fun_mk (st := sPen) l_pn c_pn k_pn
  have F_dr := fun_mk (st := sDraw) l_dr c_dr k_dr
  have F_pk := fun_mk (st := sPick) l_pk c_pk k_pk
  have F_va := fun_mk (st := sVal) l_va c_va k_va
  have F_it := fun_mk (st := sInT) l_it c_it k_it
  have F_lw := fun_mk (st := sLaw) l_lw c_lw k_lw
  have F_pi := fun_mk (st := sPInit) l_pi c_pi k_pi
  have F_pb := fun_mk (st := sPBool) l_pb c_pb k_pb
  have F_pe := fun_mk (st := sPEq) l_pe c_pe k_pe
  have F_db := fun_mk (st := sDBool) l_db c_db k_db
  have b_fx := F_fx.binds (ps := ["value"]) fun _ _ _ _ _ _ us hl => match us, hl with | [_], _ => rfl
  have b_pn := F_pn.binds (ps := ["script"]) fun _ _ _ _ _ _ us hl => match us, hl with | [_], _ => rfl
  have b_dr := F_dr.binds (ps := ["pen", "many"]) fun _ _ _ _ _ _ us hl => match us, hl with | [_, _], _ => rfl
  have b_pk := F_pk.binds (ps := ["pen", "some"]) fun _ _ _ _ _ _ us hl => match us, hl with | [_, _], _ => rfl
  have b_va := F_va.binds (ps := ["pen", "deep"]) fun _ _ _ _ _ _ us hl => match us, hl with | [_, _], _ => rfl
  have b_it := F_it.binds (ps := ["told"]) fun _ _ _ _ _ _ us hl => match us, hl with | [_], _ => rfl
  have b_pb := F_pb.binds (ps := ["self"]) fun _ _ _ _ _ _ us hl => match us, hl with | [_], _ => rfl
  have b_pe := F_pe.binds (ps := ["self", "other"]) fun _ _ _ _ _ _ us hl => match us, hl with | [_, _], _ => rfl
  have b_db := F_db.binds (ps := ["self"]) fun _ _ _ _ _ _ us hl => match us, hl with | [_], _ => rfl
  have m_super := PySem.W.mg_none_of X G z_super
  have m_int := PySem.W.mg_none_of X G z_int
  have m_len := PySem.W.mg_none_of X G z_len
  have m_abs := PySem.W.mg_none_of X G z_abs
  have m_range := PySem.W.mg_none_of X G z_range
  have m_tuple := PySem.W.mg_none_of X G z_tuple
  have m_isinstance := PySem.W.mg_none_of X G z_isinstance
  have m_list := PySem.W.mg_none_of X G z_list
  have m_bool := PySem.W.mg_none_of X G z_bool
  have m_repr := PySem.W.mg_none_of X G z_repr
  have m_enumerate := PySem.W.mg_none_of X G z_enumerate
  have m_fx := PySem.W.mg_of X G a_fx
  have m_pn := PySem.W.mg_of X G a_pn
  have m_dr := PySem.W.mg_of X G a_dr
  have m_pk := PySem.W.mg_of X G a_pk
  have m_va := PySem.W.mg_of X G a_va
  have m_it := PySem.W.mg_of X G a_it
  have m_lw := PySem.W.mg_of X G a_lw
  have m_PC := PySem.W.mg_of X G a_PC
  have P_PC : PCls K PC := ⟨⟨pg_PC, hd_PC, po_PC, sa_PC⟩, nW_PC, nP_PC⟩
  have na_PC : ∀ (i : Nat) (n : Str), ([] : List Str)[i]? = some n → NoAttr K PC n := fun i n hi => by
    match i, hi with
    | i, hi => exact absurd hi (by simp)
  have C_PC : CP K PC DC PC "Paper" [] feq fbP fbD false := ⟨P_PC, ⟨P_PC.cl, ca_PC, hn, htk, hm_PC, ⟨_, _, _, _, lc_PC, sl_PC⟩, ty_PC, opq, fd_PC⟩, kp_PC, kd_PC, ⟨eq_PC, i_pe, ne_PC, hm_PC⟩, bo_PC, tu_PC, na_PC⟩
  have m_DC := PySem.W.mg_of X G a_DC
  have P_DC : PCls K DC := ⟨⟨pg_DC, hd_DC, po_DC, sa_DC⟩, nW_DC, nP_DC⟩
  have na_DC : ∀ (i : Nat) (n : Str), ([] : List Str)[i]? = some n → NoAttr K DC n := fun i n hi => by
    match i, hi with
    | i, hi => exact absurd hi (by simp)
  have C_DC : CP K PC DC DC "Denial" [] feq fbP fbD true := ⟨P_DC, ⟨P_DC.cl, ca_DC, hn, htk, hm_DC, ⟨_, _, _, _, lc_DC, sl_DC⟩, ty_DC, opq, fd_DC⟩, kp_DC, kd_DC, ⟨eq_DC, i_pe, ne_DC, hm_DC⟩, bo_DC, tu_DC, na_DC⟩
  have m_CM := PySem.W.mg_of X G a_CM
  have P_CM : PCls K CM := ⟨⟨pg_CM, hd_CM, po_CM, sa_CM⟩, nW_CM, nP_CM⟩
  have na_CM : ∀ (i : Nat) (n : Str), (["domain", "planes", "spots"] : List Str)[i]? = some n → NoAttr K CM n := fun i n hi => by
    match i, hi with
    | 0, hi => cases hi; exact n0_CM
    | 1, hi => cases hi; exact n1_CM
    | 2, hi => cases hi; exact n2_CM
    | i + 3, hi => exact absurd hi (by simp)
  have C_CM : CP K PC DC CM "Map" ["domain", "planes", "spots"] feq fbP fbD false := ⟨P_CM, ⟨P_CM.cl, ca_CM, hn, htk, hm_CM, ⟨_, _, _, _, lc_CM, sl_CM⟩, ty_CM, opq, fd_CM⟩, kp_CM, kd_CM, ⟨eq_CM, i_pe, ne_CM, hm_CM⟩, bo_CM, tu_CM, na_CM⟩
  have m_CC := PySem.W.mg_of X G a_CC
  have P_CC : PCls K CC := ⟨⟨pg_CC, hd_CC, po_CC, sa_CC⟩, nW_CC, nP_CC⟩
  have na_CC : ∀ (i : Nat) (n : Str), (["costs", "point", "total", "rows"] : List Str)[i]? = some n → NoAttr K CC n := fun i n hi => by
    match i, hi with
    | 0, hi => cases hi; exact n0_CC
    | 1, hi => cases hi; exact n1_CC
    | 2, hi => cases hi; exact n2_CC
    | 3, hi => cases hi; exact n3_CC
    | i + 4, hi => exact absurd hi (by simp)
  have C_CC : CP K PC DC CC "Cheapest" ["costs", "point", "total", "rows"] feq fbP fbD false := ⟨P_CC, ⟨P_CC.cl, ca_CC, hn, htk, hm_CC, ⟨_, _, _, _, lc_CC, sl_CC⟩, ty_CC, opq, fd_CC⟩, kp_CC, kd_CC, ⟨eq_CC, i_pe, ne_CC, hm_CC⟩, bo_CC, tu_CC, na_CC⟩
  have m_CA := PySem.W.mg_of X G a_CA
  have P_CA : PCls K CA := ⟨⟨pg_CA, hd_CA, po_CA, sa_CA⟩, nW_CA, nP_CA⟩
  have na_CA : ∀ (i : Nat) (n : Str), (["bound", "corners"] : List Str)[i]? = some n → NoAttr K CA n := fun i n hi => by
    match i, hi with
    | 0, hi => cases hi; exact n0_CA
    | 1, hi => cases hi; exact n1_CA
    | i + 2, hi => exact absurd hi (by simp)
  have C_CA : CP K PC DC CA "Affords" ["bound", "corners"] feq fbP fbD false := ⟨P_CA, ⟨P_CA.cl, ca_CA, hn, htk, hm_CA, ⟨_, _, _, _, lc_CA, sl_CA⟩, ty_CA, opq, fd_CA⟩, kp_CA, kd_CA, ⟨eq_CA, i_pe, ne_CA, hm_CA⟩, bo_CA, tu_CA, na_CA⟩
  have m_CB := PySem.W.mg_of X G a_CB
  have P_CB : PCls K CB := ⟨⟨pg_CB, hd_CB, po_CB, sa_CB⟩, nW_CB, nP_CB⟩
  have na_CB : ∀ (i : Nat) (n : Str), (["bound", "rows"] : List Str)[i]? = some n → NoAttr K CB n := fun i n hi => by
    match i, hi with
    | 0, hi => cases hi; exact n0_CB
    | 1, hi => cases hi; exact n1_CB
    | i + 2, hi => exact absurd hi (by simp)
  have C_CB : CP K PC DC CB "Beyond" ["bound", "rows"] feq fbP fbD true := ⟨P_CB, ⟨P_CB.cl, ca_CB, hn, htk, hm_CB, ⟨_, _, _, _, lc_CB, sl_CB⟩, ty_CB, opq, fd_CB⟩, kp_CB, kd_CB, ⟨eq_CB, i_pe, ne_CB, hm_CB⟩, bo_CB, tu_CB, na_CB⟩
  have m_CT := PySem.W.mg_of X G a_CT
  have P_CT : PCls K CT := ⟨⟨pg_CT, hd_CT, po_CT, sa_CT⟩, nW_CT, nP_CT⟩
  have na_CT : ∀ (i : Nat) (n : Str), (["spots"] : List Str)[i]? = some n → NoAttr K CT n := fun i n hi => by
    match i, hi with
    | 0, hi => cases hi; exact n0_CT
    | i + 1, hi => exact absurd hi (by simp)
  have C_CT : CP K PC DC CT "Track" ["spots"] feq fbP fbD false := ⟨P_CT, ⟨P_CT.cl, ca_CT, hn, htk, hm_CT, ⟨_, _, _, _, lc_CT, sl_CT⟩, ty_CT, opq, fd_CT⟩, kp_CT, kd_CT, ⟨eq_CT, i_pe, ne_CT, hm_CT⟩, bo_CT, tu_CT, na_CT⟩
  have m_CX := PySem.W.mg_of X G a_CX
  have P_CX : PCls K CX := ⟨⟨pg_CX, hd_CX, po_CX, sa_CX⟩, nW_CX, nP_CX⟩
  have na_CX : ∀ (i : Nat) (n : Str), (["rows"] : List Str)[i]? = some n → NoAttr K CX n := fun i n hi => by
    match i, hi with
    | 0, hi => cases hi; exact n0_CX
    | i + 1, hi => exact absurd hi (by simp)
  have C_CX : CP K PC DC CX "Missed" ["rows"] feq fbP fbD true := ⟨P_CX, ⟨P_CX.cl, ca_CX, hn, htk, hm_CX, ⟨_, _, _, _, lc_CX, sl_CX⟩, ty_CX, opq, fd_CX⟩, kp_CX, kd_CX, ⟨eq_CX, i_pe, ne_CX, hm_CX⟩, bo_CX, tu_CX, na_CX⟩
  have T : Clss K PC DC CM CC CA CB CT CX feq fbP fbD := ⟨C_PC, C_DC, C_CM, C_CC, C_CA, C_CB, C_CT, C_CX, fun i j C D hi hj hne => by
    match i, j, hi, hj with
    | 0, 0, hi, hj => exact absurd rfl hne
    | 0, 1, hi, hj => cases hi; cases hj; exact s_01
    | 0, 2, hi, hj => cases hi; cases hj; exact s_02
    | 0, 3, hi, hj => cases hi; cases hj; exact s_03
    | 0, 4, hi, hj => cases hi; cases hj; exact s_04
    | 0, 5, hi, hj => cases hi; cases hj; exact s_05
    | 1, 0, hi, hj => cases hi; cases hj; exact s_10
    | 1, 1, hi, hj => exact absurd rfl hne
    | 1, 2, hi, hj => cases hi; cases hj; exact s_12
    | 1, 3, hi, hj => cases hi; cases hj; exact s_13
    | 1, 4, hi, hj => cases hi; cases hj; exact s_14
    | 1, 5, hi, hj => cases hi; cases hj; exact s_15
    | 2, 0, hi, hj => cases hi; cases hj; exact s_20
    | 2, 1, hi, hj => cases hi; cases hj; exact s_21
    | 2, 2, hi, hj => exact absurd rfl hne
    | 2, 3, hi, hj => cases hi; cases hj; exact s_23
    | 2, 4, hi, hj => cases hi; cases hj; exact s_24
    | 2, 5, hi, hj => cases hi; cases hj; exact s_25
    | 3, 0, hi, hj => cases hi; cases hj; exact s_30
    | 3, 1, hi, hj => cases hi; cases hj; exact s_31
    | 3, 2, hi, hj => cases hi; cases hj; exact s_32
    | 3, 3, hi, hj => exact absurd rfl hne
    | 3, 4, hi, hj => cases hi; cases hj; exact s_34
    | 3, 5, hi, hj => cases hi; cases hj; exact s_35
    | 4, 0, hi, hj => cases hi; cases hj; exact s_40
    | 4, 1, hi, hj => cases hi; cases hj; exact s_41
    | 4, 2, hi, hj => cases hi; cases hj; exact s_42
    | 4, 3, hi, hj => cases hi; cases hj; exact s_43
    | 4, 4, hi, hj => exact absurd rfl hne
    | 4, 5, hi, hj => cases hi; cases hj; exact s_45
    | 5, 0, hi, hj => cases hi; cases hj; exact s_50
    | 5, 1, hi, hj => cases hi; cases hj; exact s_51
    | 5, 2, hi, hj => cases hi; cases hj; exact s_52
    | 5, 3, hi, hj => cases hi; cases hj; exact s_53
    | 5, 4, hi, hj => cases hi; cases hj; exact s_54
    | 5, 5, hi, hj => exact absurd rfl hne
    | i + 6, _, hi, _ => exact absurd hi (by simp)
    | 0, j + 6, _, hj => exact absurd hj (by simp)
    | 1, j + 6, _, hj => exact absurd hj (by simp)
    | 2, j + 6, _, hj => exact absurd hj (by simp)
    | 3, j + 6, _, hj => exact absurd hj (by simp)
    | 4, j + 6, _, hj => exact absurd hj (by simp)
    | 5, j + 6, _, hj => exact absurd hj (by simp)⟩
  refine ⟨_, fun base _ _ => run_law F_lw (fun s u => .of_eq rfl) (PC := PC) (DC := DC) (CM := CM) (CC := CC) (CA := CA) (CB := CB) (CT := CT) (CX := CX) (feq := feq) (fbP := fbP) (fbD := fbD) ?_⟩
  have G_dr := ok_draw (P := l.prog) (w := w) (base := base) F_dr m_int m_len m_abs
  have G_pk := ok_pick (P := l.prog) (w := w) (base := base) F_pk G_dr b_dr k_dr m_dr m_len
  have G_va : FnOk l.prog w K mg base CX0 6 f_va _ ["pen", "deep"] (spVal 3) := all_val (P := l.prog) (w := w) (base := base) F_va b_va m_va G_dr b_dr k_dr m_dr G_pk b_pk k_pk m_pk m_range m_tuple 4
  have G_it : FnOk l.prog w K mg base CX0 4 f_it _ ["told"] (spFix 3) := all_inT (P := l.prog) (w := w) (base := base) F_it b_it m_it m_isinstance m_list m_tuple 4
  have G_fx : FnOk l.prog w K mg base CX0 5 f_fx _ ["value"] (spFix 4) := all_fix (P := l.prog) (w := w) (base := base) F_fx b_fx m_fx m_isinstance m_list m_tuple 5
  have G_pi := ok_pinit (P := l.prog) (w := w) (base := base) F_pi G_fx b_fx k_fx m_fx
  have S_0 : SupF l.prog K mg "__init__" (.ref ca_s0) c0 CM f_pi := ⟨⟨_, _, _, _, _, _, _, rfl, lk_0, fi_0, ff_0⟩, ⟨_, _, _, ce_0⟩, ⟨_, ck_0⟩, sm_0, m_super, opq, me_0, fty, ffn, tp⟩
  have M_0 := ok_map (P := l.prog) (w := w) (mg := mg) (base := base) ⟨_, _, _, _, _, _, _, _, rfl, l_s0, c_s0⟩ S_0 G_pi P_CM n0_CM n1_CM n2_CM
  have T_0 : MkT l.prog w K mg base "Map" "map" ["domain", "planes", "spots"] CM g0 _ := ⟨⟨mk_CM, ii_0, if_0, kc_CM⟩, M_0, .all fun us hl => match us, hl with | [_, _, _, _], _ => rfl, kb_of fun a ws hl => match ws, hl with | [_, _, _], _ => rfl, m_CM⟩
  have S_1 : SupF l.prog K mg "__init__" (.ref ca_s1) c1 CC f_pi := ⟨⟨_, _, _, _, _, _, _, rfl, lk_1, fi_1, ff_1⟩, ⟨_, _, _, ce_1⟩, ⟨_, ck_1⟩, sm_1, m_super, opq, me_1, fty, ffn, tp⟩
  have M_1 := ok_cheapest (P := l.prog) (w := w) (mg := mg) (base := base) ⟨_, _, _, _, _, _, _, _, rfl, l_s1, c_s1⟩ S_1 G_pi P_CC n0_CC n1_CC n2_CC n3_CC
  have T_1 : MkT l.prog w K mg base "Cheapest" "cheapest" ["costs", "point", "total", "rows"] CC g1 _ := ⟨⟨mk_CC, ii_1, if_1, kc_CC⟩, M_1, .all fun us hl => match us, hl with | [_, _, _, _, _], _ => rfl, kb_of fun a ws hl => match ws, hl with | [_, _, _, _], _ => rfl, m_CC⟩
  have S_2 : SupF l.prog K mg "__init__" (.ref ca_s2) c2 CA f_pi := ⟨⟨_, _, _, _, _, _, _, rfl, lk_2, fi_2, ff_2⟩, ⟨_, _, _, ce_2⟩, ⟨_, ck_2⟩, sm_2, m_super, opq, me_2, fty, ffn, tp⟩
  have M_2 := ok_affords (P := l.prog) (w := w) (mg := mg) (base := base) ⟨_, _, _, _, _, _, _, _, rfl, l_s2, c_s2⟩ S_2 G_pi P_CA n0_CA n1_CA
  have T_2 : MkT l.prog w K mg base "Affords" "affords" ["bound", "corners"] CA g2 _ := ⟨⟨mk_CA, ii_2, if_2, kc_CA⟩, M_2, .all fun us hl => match us, hl with | [_, _, _], _ => rfl, kb_of fun a ws hl => match ws, hl with | [_, _], _ => rfl, m_CA⟩
  have S_3 : SupF l.prog K mg "__init__" (.ref ca_s3) c3 CB f_pi := ⟨⟨_, _, _, _, _, _, _, rfl, lk_3, fi_3, ff_3⟩, ⟨_, _, _, ce_3⟩, ⟨_, ck_3⟩, sm_3, m_super, opq, me_3, fty, ffn, tp⟩
  have M_3 := ok_beyond (P := l.prog) (w := w) (mg := mg) (base := base) ⟨_, _, _, _, _, _, _, _, rfl, l_s3, c_s3⟩ S_3 G_pi P_CB n0_CB n1_CB
  have T_3 : MkT l.prog w K mg base "Beyond" "beyond" ["bound", "rows"] CB g3 _ := ⟨⟨mk_CB, ii_3, if_3, kc_CB⟩, M_3, .all fun us hl => match us, hl with | [_, _, _], _ => rfl, kb_of fun a ws hl => match ws, hl with | [_, _], _ => rfl, m_CB⟩
  have S_4 : SupF l.prog K mg "__init__" (.ref ca_s4) c4 CT f_pi := ⟨⟨_, _, _, _, _, _, _, rfl, lk_4, fi_4, ff_4⟩, ⟨_, _, _, ce_4⟩, ⟨_, ck_4⟩, sm_4, m_super, opq, me_4, fty, ffn, tp⟩
  have M_4 := ok_track (P := l.prog) (w := w) (mg := mg) (base := base) ⟨_, _, _, _, _, _, _, _, rfl, l_s4, c_s4⟩ S_4 G_pi P_CT n0_CT
  have T_4 : MkT l.prog w K mg base "Track" "track" ["spots"] CT g4 _ := ⟨⟨mk_CT, ii_4, if_4, kc_CT⟩, M_4, .all fun us hl => match us, hl with | [_, _], _ => rfl, kb_of fun a ws hl => match ws, hl with | [_], _ => rfl, m_CT⟩
  have S_5 : SupF l.prog K mg "__init__" (.ref ca_s5) c5 CX f_pi := ⟨⟨_, _, _, _, _, _, _, rfl, lk_5, fi_5, ff_5⟩, ⟨_, _, _, ce_5⟩, ⟨_, ck_5⟩, sm_5, m_super, opq, me_5, fty, ffn, tp⟩
  have M_5 := ok_missed (P := l.prog) (w := w) (mg := mg) (base := base) ⟨_, _, _, _, _, _, _, _, rfl, l_s5, c_s5⟩ S_5 G_pi P_CX n0_CX
  have T_5 : MkT l.prog w K mg base "Missed" "missed" ["rows"] CX g5 _ := ⟨⟨mk_CX, ii_5, if_5, kc_CX⟩, M_5, .all fun us hl => match us, hl with | [_, _], _ => rfl, kb_of fun a ws hl => match ws, hl with | [_], _ => rfl, m_CX⟩
  exact ⟨T, ⟨_, _, ok_pen F_pn m_int, b_pn, k_pn, m_pn⟩, ⟨_, _, G_va, b_va, k_va, m_va⟩, ⟨_, _, G_it, b_it, k_it, m_it⟩, ⟨_, ok_peq F_pe m_PC m_isinstance m_bool, b_pe, i_pe⟩, ⟨_, ok_pbool F_pb, b_pb, i_pb⟩, ⟨_, ok_dbool F_db, b_db, i_db⟩,
    ⟨_, _, T_0⟩, ⟨_, _, T_1⟩, ⟨_, _, T_2⟩, ⟨_, _, T_3⟩, ⟨_, _, T_4⟩, ⟨_, _, T_5⟩, ⟨_, G_pi, ⟨mk_PC, a_pi, i_pi, kc_PC⟩, ⟨mk_DC, id_DC, i_pi, kc_DC⟩⟩, m_PC, m_DC, rM, rT, rX, kt, m_range, m_repr, m_tuple, m_enumerate, m_isinstance, m_bool⟩
end K47

open PySem PySem.W PyProof.Rows
set_option maxRecDepth 100000 in
set_option maxHeartbeats 0 in
theorem PySem.Challenge.cw_termmaps_k47_papers_of_maps_of_any_value_holds : PySem.Challenge.rw_termmaps_k47_papers_of_maps_of_any_value.Holds := by
  w_on; o_law; k_head; (case hw => w_witness2)
  k_fill
  refine K47.walk (l := PySem.Challenge.rw_termmaps_k47_papers_of_maps_of_any_value) rfl rfl (fun w h Y => PySem.W.kIn_of Y) ?F
  case F =>
    intro w mg fa h KX G hmg
    refine' K47.all_mk KX G hmg ?a_fx ?l_fx ?c_fx ?k_fx ?a_pn ?l_pn ?c_pn ?k_pn ?a_dr ?l_dr ?c_dr ?k_dr ?a_pk ?l_pk ?c_pk ?k_pk ?a_va ?l_va ?c_va ?k_va ?a_it ?l_it ?c_it ?k_it ?a_lw ?l_lw ?c_lw ?k_lw ?a_PC ?a_DC ?a_CM ?a_CC ?a_CA ?a_CB ?a_CT ?a_CX ?a_pi ?l_pi ?c_pi ?k_pi ?i_pi ?a_pb ?l_pb ?c_pb ?k_pb ?i_pb ?a_pe ?l_pe ?c_pe ?k_pe ?i_pe ?a_db ?l_db ?c_db ?k_db ?i_db ?hn ?htk ?opq ?kt ?pg_PC ?hd_PC ?po_PC ?sa_PC ?nW_PC ?nP_PC ?ca_PC ?hm_PC ?lc_PC ?sl_PC ?ty_PC ?fd_PC ?kp_PC ?kd_PC ?eq_PC ?ne_PC ?bo_PC ?tu_PC ?mk_PC ?kc_PC ?pg_DC ?hd_DC ?po_DC ?sa_DC ?nW_DC ?nP_DC ?ca_DC ?hm_DC ?lc_DC ?sl_DC ?ty_DC ?fd_DC ?kp_DC ?kd_DC ?eq_DC ?ne_DC ?bo_DC ?tu_DC ?mk_DC ?kc_DC ?pg_CM ?hd_CM ?po_CM ?sa_CM ?nW_CM ?nP_CM ?ca_CM ?hm_CM ?lc_CM ?sl_CM ?ty_CM ?fd_CM ?kp_CM ?kd_CM ?eq_CM ?ne_CM ?bo_CM ?tu_CM ?mk_CM ?kc_CM ?n0_CM ?n1_CM ?n2_CM ?pg_CC ?hd_CC ?po_CC ?sa_CC ?nW_CC ?nP_CC ?ca_CC ?hm_CC ?lc_CC ?sl_CC ?ty_CC ?fd_CC ?kp_CC ?kd_CC ?eq_CC ?ne_CC ?bo_CC ?tu_CC ?mk_CC ?kc_CC ?n0_CC ?n1_CC ?n2_CC ?n3_CC ?pg_CA ?hd_CA ?po_CA ?sa_CA ?nW_CA ?nP_CA ?ca_CA ?hm_CA ?lc_CA ?sl_CA ?ty_CA ?fd_CA ?kp_CA ?kd_CA ?eq_CA ?ne_CA ?bo_CA ?tu_CA ?mk_CA ?kc_CA ?n0_CA ?n1_CA ?pg_CB ?hd_CB ?po_CB ?sa_CB ?nW_CB ?nP_CB ?ca_CB ?hm_CB ?lc_CB ?sl_CB ?ty_CB ?fd_CB ?kp_CB ?kd_CB ?eq_CB ?ne_CB ?bo_CB ?tu_CB ?mk_CB ?kc_CB ?n0_CB ?n1_CB ?pg_CT ?hd_CT ?po_CT ?sa_CT ?nW_CT ?nP_CT ?ca_CT ?hm_CT ?lc_CT ?sl_CT ?ty_CT ?fd_CT ?kp_CT ?kd_CT ?eq_CT ?ne_CT ?bo_CT ?tu_CT ?mk_CT ?kc_CT ?n0_CT ?pg_CX ?hd_CX ?po_CX ?sa_CX ?nW_CX ?nP_CX ?ca_CX ?hm_CX ?lc_CX ?sl_CX ?ty_CX ?fd_CX ?kp_CX ?kd_CX ?eq_CX ?ne_CX ?bo_CX ?tu_CX ?mk_CX ?kc_CX ?n0_CX ?id_DC ?s_01 ?s_02 ?s_03 ?s_04 ?s_05 ?s_10 ?s_12 ?s_13 ?s_14 ?s_15 ?s_20 ?s_21 ?s_23 ?s_24 ?s_25 ?s_30 ?s_31 ?s_32 ?s_34 ?s_35 ?s_40 ?s_41 ?s_42 ?s_43 ?s_45 ?s_50 ?s_51 ?s_52 ?s_53 ?s_54 ?rM ?rT ?rX ?fty ?ffn ?ii_0 ?l_s0 ?c_s0 ?k_s0 ?if_0 ?lk_0 ?fi_0 ?ff_0 ?ce_0 ?ck_0 ?sm_0 ?me_0 ?ii_1 ?l_s1 ?c_s1 ?k_s1 ?if_1 ?lk_1 ?fi_1 ?ff_1 ?ce_1 ?ck_1 ?sm_1 ?me_1 ?ii_2 ?l_s2 ?c_s2 ?k_s2 ?if_2 ?lk_2 ?fi_2 ?ff_2 ?ce_2 ?ck_2 ?sm_2 ?me_2 ?ii_3 ?l_s3 ?c_s3 ?k_s3 ?if_3 ?lk_3 ?fi_3 ?ff_3 ?ce_3 ?ck_3 ?sm_3 ?me_3 ?ii_4 ?l_s4 ?c_s4 ?k_s4 ?if_4 ?lk_4 ?fi_4 ?ff_4 ?ce_4 ?ck_4 ?sm_4 ?me_4 ?ii_5 ?l_s5 ?c_s5 ?k_s5 ?if_5 ?lk_5 ?fi_5 ?ff_5 ?ce_5 ?ck_5 ?sm_5 ?me_5 ?tp ?z_super ?z_int ?z_len ?z_abs ?z_range ?z_tuple ?z_isinstance ?z_list ?z_bool ?z_repr ?z_enumerate
    (case a_fx => k_is)
    (case l_fx => k_is)
    (case c_fx => k_is)
    (case k_fx => k_is)
    (case a_pn => k_is)
    (case l_pn => k_is)
    (case c_pn => k_is)
    (case k_pn => k_is)
    (case a_dr => k_is)
    (case l_dr => k_is)
    (case c_dr => k_is)
    (case k_dr => k_is)
    (case a_pk => k_is)
    (case l_pk => k_is)
    (case c_pk => k_is)
    (case k_pk => k_is)
    (case a_va => k_is)
    (case l_va => k_is)
    (case c_va => k_is)
    (case k_va => k_is)
    (case a_it => k_is)
    (case l_it => k_is)
    (case c_it => k_is)
    (case k_it => k_is)
    (case a_lw => k_is)
    (case l_lw => k_is)
    (case c_lw => k_is)
    (case k_lw => k_is)
    (case a_PC => k_is)
    (case a_DC => k_is)
    (case a_CM => k_is)
    (case a_CC => k_is)
    (case a_CA => k_is)
    (case a_CB => k_is)
    (case a_CT => k_is)
    (case a_CX => k_is)
    (case a_pi => k_is)
    (case l_pi => k_is)
    (case c_pi => k_is)
    (case k_pi => k_is)
    (case i_pi => k_is)
    (case a_pb => k_is)
    (case l_pb => k_is)
    (case c_pb => k_is)
    (case k_pb => k_is)
    (case i_pb => k_is)
    (case a_pe => k_is)
    (case l_pe => k_is)
    (case c_pe => k_is)
    (case k_pe => k_is)
    (case i_pe => k_is)
    (case a_db => k_is)
    (case l_db => k_is)
    (case c_db => k_is)
    (case k_db => k_is)
    (case i_db => k_is)
    (case hn => k_is)
    (case htk => k_is)
    (case opq => k_is)
    (case kt => kernel_rfl)
    (case pg_PC => k_is)
    (case hd_PC => k_is)
    (case po_PC => k_is)
    (case sa_PC => k_is)
    (case nW_PC => k_is)
    (case nP_PC => k_is)
    (case ca_PC => k_is)
    (case hm_PC => k_is)
    (case lc_PC => k_is)
    (case sl_PC => exact rfl)
    (case ty_PC => k_is)
    (case fd_PC => k_is)
    (case kp_PC => kernel_rfl)
    (case kd_PC => kernel_rfl)
    (case eq_PC => k_is)
    (case ne_PC => k_is)
    (case bo_PC => k_is)
    (case tu_PC => k_is)
    (case mk_PC => k_is)
    (case kc_PC => k_is)
    (case pg_DC => k_is)
    (case hd_DC => k_is)
    (case po_DC => k_is)
    (case sa_DC => k_is)
    (case nW_DC => k_is)
    (case nP_DC => k_is)
    (case ca_DC => k_is)
    (case hm_DC => k_is)
    (case lc_DC => k_is)
    (case sl_DC => exact rfl)
    (case ty_DC => k_is)
    (case fd_DC => k_is)
    (case kp_DC => kernel_rfl)
    (case kd_DC => kernel_rfl)
    (case eq_DC => k_is)
    (case ne_DC => k_is)
    (case bo_DC => k_is)
    (case tu_DC => k_is)
    (case mk_DC => k_is)
    (case kc_DC => k_is)
    (case pg_CM => k_is)
    (case hd_CM => k_is)
    (case po_CM => k_is)
    (case sa_CM => k_is)
    (case nW_CM => k_is)
    (case nP_CM => k_is)
    (case ca_CM => k_is)
    (case hm_CM => k_is)
    (case lc_CM => k_is)
    (case sl_CM => exact rfl)
    (case ty_CM => k_is)
    (case fd_CM => k_is)
    (case kp_CM => kernel_rfl)
    (case kd_CM => kernel_rfl)
    (case eq_CM => k_is)
    (case ne_CM => k_is)
    (case bo_CM => k_is)
    (case tu_CM => k_is)
    (case mk_CM => k_is)
    (case kc_CM => k_is)
    (case n0_CM => k_is)
    (case n1_CM => k_is)
    (case n2_CM => k_is)
    (case pg_CC => k_is)
    (case hd_CC => k_is)
    (case po_CC => k_is)
    (case sa_CC => k_is)
    (case nW_CC => k_is)
    (case nP_CC => k_is)
    (case ca_CC => k_is)
    (case hm_CC => k_is)
    (case lc_CC => k_is)
    (case sl_CC => exact rfl)
    (case ty_CC => k_is)
    (case fd_CC => k_is)
    (case kp_CC => kernel_rfl)
    (case kd_CC => kernel_rfl)
    (case eq_CC => k_is)
    (case ne_CC => k_is)
    (case bo_CC => k_is)
    (case tu_CC => k_is)
    (case mk_CC => k_is)
    (case kc_CC => k_is)
    (case n0_CC => k_is)
    (case n1_CC => k_is)
    (case n2_CC => k_is)
    (case n3_CC => k_is)
    (case pg_CA => k_is)
    (case hd_CA => k_is)
    (case po_CA => k_is)
    (case sa_CA => k_is)
    (case nW_CA => k_is)
    (case nP_CA => k_is)
    (case ca_CA => k_is)
    (case hm_CA => k_is)
    (case lc_CA => k_is)
    (case sl_CA => exact rfl)
    (case ty_CA => k_is)
    (case fd_CA => k_is)
    (case kp_CA => kernel_rfl)
    (case kd_CA => kernel_rfl)
    (case eq_CA => k_is)
    (case ne_CA => k_is)
    (case bo_CA => k_is)
    (case tu_CA => k_is)
    (case mk_CA => k_is)
    (case kc_CA => k_is)
    (case n0_CA => k_is)
    (case n1_CA => k_is)
    (case pg_CB => k_is)
    (case hd_CB => k_is)
    (case po_CB => k_is)
    (case sa_CB => k_is)
    (case nW_CB => k_is)
    (case nP_CB => k_is)
    (case ca_CB => k_is)
    (case hm_CB => k_is)
    (case lc_CB => k_is)
    (case sl_CB => exact rfl)
    (case ty_CB => k_is)
    (case fd_CB => k_is)
    (case kp_CB => kernel_rfl)
    (case kd_CB => kernel_rfl)
    (case eq_CB => k_is)
    (case ne_CB => k_is)
    (case bo_CB => k_is)
    (case tu_CB => k_is)
    (case mk_CB => k_is)
    (case kc_CB => k_is)
    (case n0_CB => k_is)
    (case n1_CB => k_is)
    (case pg_CT => k_is)
    (case hd_CT => k_is)
    (case po_CT => k_is)
    (case sa_CT => k_is)
    (case nW_CT => k_is)
    (case nP_CT => k_is)
    (case ca_CT => k_is)
    (case hm_CT => k_is)
    (case lc_CT => k_is)
    (case sl_CT => exact rfl)
    (case ty_CT => k_is)
    (case fd_CT => k_is)
    (case kp_CT => kernel_rfl)
    (case kd_CT => kernel_rfl)
    (case eq_CT => k_is)
    (case ne_CT => k_is)
    (case bo_CT => k_is)
    (case tu_CT => k_is)
    (case mk_CT => k_is)
    (case kc_CT => k_is)
    (case n0_CT => k_is)
    (case pg_CX => k_is)
    (case hd_CX => k_is)
    (case po_CX => k_is)
    (case sa_CX => k_is)
    (case nW_CX => k_is)
    (case nP_CX => k_is)
    (case ca_CX => k_is)
    (case hm_CX => k_is)
    (case lc_CX => k_is)
    (case sl_CX => exact rfl)
    (case ty_CX => k_is)
    (case fd_CX => k_is)
    (case kp_CX => kernel_rfl)
    (case kd_CX => kernel_rfl)
    (case eq_CX => k_is)
    (case ne_CX => k_is)
    (case bo_CX => k_is)
    (case tu_CX => k_is)
    (case mk_CX => k_is)
    (case kc_CX => k_is)
    (case n0_CX => k_is)
    (case id_DC => k_is)
    (case s_01 => k_is)
    (case s_02 => k_is)
    (case s_03 => k_is)
    (case s_04 => k_is)
    (case s_05 => k_is)
    (case s_10 => k_is)
    (case s_12 => k_is)
    (case s_13 => k_is)
    (case s_14 => k_is)
    (case s_15 => k_is)
    (case s_20 => k_is)
    (case s_21 => k_is)
    (case s_23 => k_is)
    (case s_24 => k_is)
    (case s_25 => k_is)
    (case s_30 => k_is)
    (case s_31 => k_is)
    (case s_32 => k_is)
    (case s_34 => k_is)
    (case s_35 => k_is)
    (case s_40 => k_is)
    (case s_41 => k_is)
    (case s_42 => k_is)
    (case s_43 => k_is)
    (case s_45 => k_is)
    (case s_50 => k_is)
    (case s_51 => k_is)
    (case s_52 => k_is)
    (case s_53 => k_is)
    (case s_54 => k_is)
    (case rM => k_is)
    (case rT => k_is)
    (case rX => k_is)
    (case fty => k_is)
    (case ffn => k_is)
    (case ii_0 => k_is)
    (case l_s0 => k_is)
    (case c_s0 => k_is)
    (case k_s0 => k_is)
    (case if_0 => k_is)
    (case lk_0 => k_is)
    (case fi_0 => exact rfl)
    (case ff_0 => first | rfl | decide +kernel)
    (case ce_0 => k_is)
    (case ck_0 => k_is)
    (case sm_0 => k_is)
    (case me_0 => kernel_rfl)
    (case ii_1 => k_is)
    (case l_s1 => k_is)
    (case c_s1 => k_is)
    (case k_s1 => k_is)
    (case if_1 => k_is)
    (case lk_1 => k_is)
    (case fi_1 => exact rfl)
    (case ff_1 => first | rfl | decide +kernel)
    (case ce_1 => k_is)
    (case ck_1 => k_is)
    (case sm_1 => k_is)
    (case me_1 => kernel_rfl)
    (case ii_2 => k_is)
    (case l_s2 => k_is)
    (case c_s2 => k_is)
    (case k_s2 => k_is)
    (case if_2 => k_is)
    (case lk_2 => k_is)
    (case fi_2 => exact rfl)
    (case ff_2 => first | rfl | decide +kernel)
    (case ce_2 => k_is)
    (case ck_2 => k_is)
    (case sm_2 => k_is)
    (case me_2 => kernel_rfl)
    (case ii_3 => k_is)
    (case l_s3 => k_is)
    (case c_s3 => k_is)
    (case k_s3 => k_is)
    (case if_3 => k_is)
    (case lk_3 => k_is)
    (case fi_3 => exact rfl)
    (case ff_3 => first | rfl | decide +kernel)
    (case ce_3 => k_is)
    (case ck_3 => k_is)
    (case sm_3 => k_is)
    (case me_3 => kernel_rfl)
    (case ii_4 => k_is)
    (case l_s4 => k_is)
    (case c_s4 => k_is)
    (case k_s4 => k_is)
    (case if_4 => k_is)
    (case lk_4 => k_is)
    (case fi_4 => exact rfl)
    (case ff_4 => first | rfl | decide +kernel)
    (case ce_4 => k_is)
    (case ck_4 => k_is)
    (case sm_4 => k_is)
    (case me_4 => kernel_rfl)
    (case ii_5 => k_is)
    (case l_s5 => k_is)
    (case c_s5 => k_is)
    (case k_s5 => k_is)
    (case if_5 => k_is)
    (case lk_5 => k_is)
    (case fi_5 => exact rfl)
    (case ff_5 => first | rfl | decide +kernel)
    (case ce_5 => k_is)
    (case ck_5 => k_is)
    (case sm_5 => k_is)
    (case me_5 => kernel_rfl)
    (case tp => first | rfl | decide +kernel)
    (case z_super => k_is)
    (case z_int => k_is)
    (case z_len => k_is)
    (case z_abs => k_is)
    (case z_range => k_is)
    (case z_tuple => k_is)
    (case z_isinstance => k_is)
    (case z_list => k_is)
    (case z_bool => k_is)
    (case z_repr => k_is)
    (case z_enumerate => k_is)
#print axioms PySem.Challenge.cw_termmaps_k47_papers_of_maps_of_any_value_holds
