import PyProof.Rows.All
import Wide.All
import OpenK.AllK
import Wide.FinOn
import HandS.ForMost
import HandS.CallLocal
import HandS.Style
import HandS.Flow
import HandS.ExcInit
import HandS.ExcValue
import HandS.ExcIs
import HandS.ExcField
import KE.KExcSuper
import KE.KSuper
import OpenK.KCell
import HandS.IsInst
import HandS.TupAny
import HandS.TupMul
import HandS.Deep
import HandS.Wide
import HandS.HeadHook1
import HandS.ForExc
import HandS.Zip
import HandS.Rev
import HandS.Codes
import PyProof.ReprBulk
import PyProof.ReprRoads
import PyProof.Rows.ReprShort
import HandS.HeadEnd
import HandS.Defaults
import KE.KExcIs
import HandS.ExcBuiltin
import HandS.Head0
import HandS.Head1
import HandS.Head2
import HandS.HeadHook2
import PySem.Challenge.RW_alwaysastep_k00_errors_apart
set_option Elab.async false
set_option linter.all false
set_option maxRecDepth 100000
set_option maxHeartbeats 4000000
namespace PX
open PySem L2 PySem.Spec PyProof.Rows
/-! ## own exceptions whose __init__ says super().__init__('..'), then stores its parameters -/
abbrev xob (C t : Addr) (dd : Option Addr) : Obj := { cls := .ref C, dict := dd, data := .fields #[.ref t, .none, .none, .none, .bool false, .none] }
theorem look_put {f : Str} {v : Value} {fs : List (Str × Value)} : (fun y => if y = f then some v else fs.lookup y) = fun y => ((f, v) :: fs).lookup y := by
  funext y
  by_cases h : y = f
  · subst h; simp [List.lookup]
  · have e : (y == f) = false := by simpa using h
    rw [if_neg h]; simp [List.lookup, e]
theorem in_fs : ∀ {l : List (Str × Value)} {y : Str} {v : Value}, l.lookup y = some v → y ∈ l.map (·.1)
  | [], _, _, h => by cases h
  | (f, z) :: l, y, v, h => by
    by_cases e : y = f
    · subst e; exact List.mem_cons_self
    · have e' : (y == f) = false := by simpa using e
      have h2 : l.lookup y = some v := by simpa [List.lookup, e'] using h
      exact List.mem_cons_of_mem _ (in_fs h2)
theorem within_fs {fs : List (Str × Value)} : Within (fun y => fs.lookup y) (fs.map (·.1)) := fun y hy => by
  cases h : fs.lookup y with
  | none => exact absurd h hy
  | some v => exact in_fs h
theorem look_nd : ∀ {l : List (Str × Value)}, (l.map (·.1)).Nodup → ∀ {p : Str × Value}, p ∈ l → l.lookup p.1 = some p.2
  | (f, z) :: l, hn, p, hp => by
    rw [List.map_cons, List.nodup_cons] at hn
    rcases List.mem_cons.mp hp with rfl | hp
    · simp [List.lookup]
    · have ne : p.1 ≠ f := fun z => hn.1 (by rw [← z]; exact List.mem_map.mpr ⟨p, hp, rfl⟩)
      have e : (p.1 == f) = false := by simpa using ne
      simp only [List.lookup, e]
      exact look_nd hn.2 hp
theorem look_rev {l : List (Str × Value)} (hn : (l.map (·.1)).Nodup) {p : Str × Value} (hp : p ∈ l) : l.reverse.lookup p.1 = some p.2 := by
  refine look_nd ?_ (List.mem_reverse.mpr hp)
  rw [List.map_reverse]
  exact (List.reverse_perm _).nodup_iff.mpr hn
/-- self.x = x, .. -/
inductive Sets (m : Str → Option Value) : List Stmt → List (Str × Value) → Prop
  | nil : Sets m [] []
  | cons {x : Str} {v : Value} {sts : List Stmt} {prs : List (Str × Value)} {a b c d : Pos} : m x = some v → Sets m sts prs → Sets m (.Assign [.Attribute (.Name "self" a) x b] (.Name x c) d :: sts) ((x, v) :: prs)
section
variable {prog : Program} {w : World} {A : Around} {E : Value → Shared → Prop} {K : PySem.W.Frag} {env : Env} {x C fI : Addr} {m : Str → Option Value} {cd : ClassData}
/-- what the walk of such a body leans on -/
structure SEnv (K : PySem.W.Frag) (env : Env) (x C : Addr) (m : Str → Option Value) (cd : ClassData) : Prop where
  kind : env.scope.kind = .function
  hcd : PySem.W.clsIn K C = some cd
  hm : PySem.HandSPX.refsVE cd.mro = true
  hh : cd.hasDict = true
  sa : PySem.W.findIn K (.ref C) "__setattr__" = some (some (.builtin "object.__setattr__"))
  self : env.kindOf "self" = some .local
  mself : m "self" = some (.ref x)
  kx : K.lookup x = none
/-- a field -/
def Fld (K : PySem.W.Frag) (env : Env) (C : Addr) (y : Str) : Prop := env.kindOf y = some .local ∧ PySem.W.findIn K (.ref C) y = some none ∧ (y == ("__debug__" : Str)) = false
theorem kin_but {h h' : Heap} {b : Addr} (X : K.In h) (hb : K.lookup b = none) (k : ∀ c o, c ≠ b → h.get? c = some o → h'.get? c = some o) : K.In h' := fun a o e => k a o (fun z => by rw [z, hb] at e; cases e) (X a o e)
theorem sets_run (S : SEnv K env x C m cd) {dx t0 : Addr} (kd : K.lookup dx = none) (dL : dx ≠ env.locals) (dxx : dx ≠ x) :
    ∀ {sts : List Stmt} {prs : List (Str × Value)}, Sets m sts prs → (∀ p ∈ prs, Fld K env C p.1) → ∀ {fs : List (Str × Value)} {h : Heap} {g : Array GenState} {d : Drawn} {t : Nat} {os : OsState} {Q : Flow → Shared → Prop},
      K.In h → h.Ns env.locals m → h.get? x = some (xob C t0 (some dx)) → h.Ns1 dx (fun y => fs.lookup y) → fs.length + prs.length ≤ 900 →
      (∀ h' tk', (∀ b o, b ≠ dx → h.get? b = some o → h'.get? b = some o) → h'.Ns1 dx (fun y => (List.reverseAux prs fs).lookup y) → Q .next ⟨h', g, d, tk', os⟩) → wpAny (model prog w) A (execs sts env) Q E ⟨h, g, d, t, os⟩ := by
  intro sts prs Z
  induction Z with
  | nil =>
    intro _ fs h g d t os Q X hn hx hd hl hq
    exact wpAny_execs_nil (hq h t (fun b o _ e => e) hd)
  | @cons y v sts prs a b c p mv _ ih =>
    intro F fs h g d t os Q X hn hx hd hl hq
    obtain ⟨f1, f2, f3⟩ := F (y, v) List.mem_cons_self
    refine wpAny_execs_cons ?_
    refine plainObj_wpAny_Assign_Attribute (wpAny_Name (wpAny_loadName_local S.kind f1 hn mv ?_) f3) (by rfl)
    refine wpAny_Name (wpAny_loadName_local S.kind S.self hn S.mself ?_) (by decide)
    obtain ⟨oD, _, _, hoD, _, _⟩ := hd.count (within_fs (fs := fs))
    refine PySem.W.set_plain X (ox := xob C t0 (some dx)) (od := some oD) ⟨hx, rfl, rfl, hoD⟩ S.sa ?_
    refine PySem.OEX.osa_old X hx hd (within_fs (fs := fs)) (by rw [List.length_map]; simp at hl; omega) S.hcd S.hm S.hh f2 (fun h' tk' k hn' => ?_)
    rw [look_put] at hn'
    have L' : h'.Ns env.locals m := by
      obtain ⟨o, es, ep, e, r⟩ := hn
      exact ⟨o, es, ep, k _ _ (Ne.symm dL) e, r⟩
    refine ih (fun p hp => F p (List.mem_cons_of_mem _ hp)) (kin_but X kd k) L' (k _ _ (Ne.symm dxx) hx) hn' (by simp at hl ⊢; omega) (fun h2 tk2 k2 hn2 => ?_)
    exact hq h2 tk2 (fun b o hb e => k2 b o hb (k b o hb e)) hn2
end
section
variable {prog : Program} {w : World} {A : Around} {E : Value → Shared → Prop} {h : Heap} {g : Array GenState} {d : Drawn} {t : Nat} {os : OsState}
variable {nm q : Str} {C N u x t0 : Addr} {bs bm : List Value} {sn : List Str} {sub : List Value} {ab : Bool} {col : Option Bool} {dd : Option Addr} {k0 k1 k2 k3 k5 : Option Value}
/-- the bound ValueError.__init__ is called -/
theorem mw_call {rest : List Value} {Q : Value → Shared → Prop} (hC : h.get? C = some (excClassObj nm q C N bs bm true sn sub ab col dd k0 k1 k2 k3 k5 "ValueError.__new__")) (hu : h.get? u = some (PySem.W.kxs_mw "ValueError.__init__" x)) (he : h.get? x = some (xob C t0 none)) (hz : rest.length ≤ sizeLine)
    (fin : ∀ h', (∀ b o, b ≠ x → h.get? b = some o → h'.get? b = some o) → (∃ t1, h'.get? x = some (xob C t1 none)) → Q .none ⟨h', g, d, t, os⟩) : wpAny (model prog w) A (call (.ref u) rest) Q E ⟨h, g, d, t, os⟩ := by
  refine wpAny_call (codeAny_of_tree ?_)
  show wpAny _ A.in1 (callAny (.ref u) ⟨rest, []⟩) _ _ _
  simp only [callAny]
  refine wpAny_bind (wpAny_load hu ?_)
  simp only [PySem.W.kxs_mw, show (Value.type "method-wrapper" == Value.type "method" || Value.type "method-wrapper" == Value.type "builtin_function_or_method" || Value.type "method-wrapper" == Value.type "method-wrapper") = true by decide, if_true]
  refine PySem.W.KFB.if_so (by decide) ?_
  refine wpAny_bind (PySem.W.check_bound_init PySem.F.excBase_ValueError.toExcCallFacts hC he rfl ?_)
  refine wpAny_bind (wpAny_pure (wpAny_pure ?_))
  refine ⟨plainId_quiet PySem.F.excBase_ValueError.init.plain _, codeAny_builtin PySem.F.excBase_ValueError.initEntry ?_⟩
  exact PySem.W.exc_init_tree (cls := .ref C) (t0 := t0) (dv := none) (c2 := .none) (c3 := .none) (b4 := .bool false) he hz fun h' k e' _ => fin h' k ⟨_, e'⟩
end
/-- what the written part says of such a class: the def at fI is its __init__, cc its cell -/
structure SupC (P : Program) (K : PySem.W.Frag) (C fI cc : Addr) : Prop where
  oex : OexC K C
  init : PySem.W.findIn K (.ref C) "__init__" = some (some (.ref fI))
  fn : PySem.W.typeIn K (.ref fI) = some (.type "function")
  any : PySem.W.nsIn K cStatics "thirdparty.any" = some none
  sup : PySem.W.ks_superIn K C C "__init__" = some (some (.builtin "ValueError.__init__"))
  ve : PySem.W.subIn K (.ref C) (.type "ValueError") = some true
  self : PySem.W.mroIn K C (.ref C) = some true
  cell : ∃ cl cld csl, K.lookup cc = some ⟨cl, cld, .cell (some (.ref C)), csl⟩
  nosup : PySem.W.nsIn K mainGlobals "super" = some none
  top : (P.main.scope.names.lookup ("super" : Str)).isSome = false
/-- the def itself -/
structure SupF (P : Program) (K : PySem.W.Frag) (q : Str) (params : Arguments) (body : List Stmt) (scope : Scope) (fI cc : Addr) (fd : FuncData) : Prop where
  ex : ∃ (oc : Value) (od : Option Addr) (kV doc pm : Value) (an : Option Addr) (cda : Addr) (ct : Value) (osl : Array (Option Value)) (ccl : Value) (cdd : Option Addr) (vs : Array Value) (ccs : Array (Option Value)) (tf : Tok),
    fd = PySem.W.ksFn "__init__" q params body scope .none kV doc pm an (.ref cda) ct cc ∧ K.lookup fI = some ⟨oc, od, .func fd, osl⟩ ∧ PySem.W.codeIn K (.ref cda) q = true ∧ K.lookup cda = some ⟨ccl, cdd, .fields vs, ccs⟩ ∧ vs[2]? = some (.str P.main.file tf)
  head : ∃ ar, (params.posonlyargs ++ params.args).head? = some ar ∧ ar.arg = ("self" : Str)
  co : scope.isCoroutine = false
  gen : scope.isGenerator = false
  kind : scope.kind = .function
  nocell : ∀ x ∈ scope.names, x.2 ≠ .cell
  ks : scope.names.lookup ("super" : Str) = some .globalImplicit
  kc : scope.names.lookup ("__class__" : Str) = some .free
  kself : scope.names.lookup ("self" : Str) = some .local
/-- its body -/
inductive SupBody : List Stmt → Str → List Stmt → Prop
  | mk (msg : Str) (j : Nat) (rest : List Stmt) (p0 p1 p2 p3 p4 p5 : Pos) (hp : (p2.endLine == p4.line) = true) : SupBody (.Expr (.Call (.Attribute (.Call (.Name "super" p0) [] [] p1) "__init__" p2) [.Constant (.str msg) j p3] [] p4) p5 :: rest) msg rest
theorem sup_eval {env : Env} {msg : Str} {j : Nat} {p0 p1 p2 p3 p4 : Pos} (hp : (p2.endLine == p4.line) = true) : eval (.Call (.Attribute (.Call (.Name "super" p0) [] [] p1) "__init__" p2) [.Constant (.str msg) j p3] [] p4) env = (do
      let ov ← attributeBase (.Call (.Name "super" p0) [] [] p1) "__init__" env (eval (.Call (.Name "super" p0) [] [] p1) env)
      standAt p2.atName
      let (f, first) ← holding [ov] (getMethod ov "__init__" (do return (← importBound (.Call (.Name "super" p0) [] [] p1) env).getD true))
      callWith p4 f first (backTo p4 (starEach [.Constant (.str msg) j p3] env)) []) := by
  have hmc : ∀ ov : Value, methodCall (.Call (.Name "super" p0) [] [] p1) "__init__" p2 p4 env ov 1 (backTo p4 (starEach [.Constant (.str msg) j p3] env)) [] = (do
      let (f, first) ← holding [ov] (getMethod ov "__init__" (do return (← importBound (.Call (.Name "super" p0) [] [] p1) env).getD true))
      callWith p4 f first (backTo p4 (starEach [.Constant (.str msg) j p3] env)) []) := fun ov => by
    unfold methodCall methodCallPos
    have e1 : methodCallForm 1 (backTo p4 (starEach [.Constant (.str msg) j p3] env)) [] = true := rfl
    rw [e1]
    simp only [hp, Bool.not_true, Bool.false_or, if_true, pure_bind]
    rfl
  show (do
    let ov ← attributeBase (.Call (.Name "super" p0) [] [] p1) "__init__" env (eval (.Call (.Name "super" p0) [] [] p1) env)
    standAt p2.atName
    methodCall (.Call (.Name "super" p0) [] [] p1) "__init__" p2 p4 env ov 1 (backTo p4 (starEach [.Constant (.str msg) j p3] env)) []) = _
  simp only [hmc]
section
variable {prog : Program} {w : World} {K : PySem.W.Frag} {C fI cc x : Addr} {q : Str} {params : Arguments} {body rest : List Stmt} {scope : Scope} {fd : FuncData} {mg : Str → Option Value} {base : Heap} {msg : Str}
theorem sup_init (T : SupC prog K C fI cc) (F : SupF prog K q params body scope fI cc fd) (B : SupBody body msg rest) (M : Mod K mg base) {A : Around} (hA : A.depth < recursionLimit) {h : Heap} {g : Array GenState} {d : Drawn} {t : Nat} {os : OsState} {t0 : Addr} {R : Result → Shared → Prop} {args : Args}
    {prs : List (Str × Value)} (bk : ∀ b o, base.get? b = some o → h.get? b = some o) (kx : K.lookup x = none) (hx : h.get? x = some (xob C t0 none)) (hb : BindsTo ⟨h, g, d, t, os⟩ fd args (("self", .ref x) :: prs)) (hne : prs ≠ []) (hl : prs.length ≤ 800) (hnd : (("self" : Str) :: prs.map (·.1)).Nodup)
    (hloc : ∀ p ∈ prs, scope.names.lookup p.1 = some .local ∧ PySem.W.findIn K (.ref C) p.1 = some none ∧ (p.1 == ("__debug__" : Str)) = false)
    (hsets : ∀ m : Str → Option Value, (∀ p ∈ prs, m p.1 = some p.2) → Sets m rest prs)
    (hR : ∀ h' tk' t1 dx, (∀ b o, b ≠ x → h.get? b = some o → h'.get? b = some o) → h.objs.size ≤ dx → dx ≠ x → h'.get? x = some (xob C t1 (some dx)) → h'.Ns1 dx (fun y => prs.reverse.lookup y) → R (.ok (.ret .none)) ⟨h', g, d, tk', os⟩) :
    codeAny (model prog w) A (.call (.ref fI) args) R ⟨h, g, d, t, os⟩ := by
  have X : K.In h := M.kin.keeps bk
  obtain ⟨nm, qn, N, bs, bm, sn, sub, ab, col, dd, k0, k1, k2, k3, k5, hC, hbm⟩ := T.oex.cls
  have hcl : PySem.W.clsIn K C = some { name := nm, bases := bs, mro := .ref C :: bm, ns := N, qualname := qn, hasDict := true, slotNames := sn, subclasses := sub, abstract := ab, collection := col, hasDel := false } := by unfold PySem.W.clsIn; rw [hC] <;> rfl
  obtain ⟨oc, od, kV, doc, pm, an, cda, ct, osl, ccl, cdd, vs, ccs, tf, rfl, hf, hcd, hcode, hvs⟩ := F.ex
  obtain ⟨ar, har, earg⟩ := F.head
  obtain ⟨cl, cld, csl, hcell⟩ := T.cell
  cases B with
  | mk msg j rest p0 p1 p2 p3 p4 p5 hp =>
  refine PySem.ks_codeAny_call_defAt (fd := PySem.W.ksFn "__init__" q params _ scope .none kV doc pm an (.ref cda) ct cc) hA (X _ _ hf) rfl (M.nolimit.keeps bk) (PySem.W.codeRec_of X hcd) rfl hb F.nocell (fun p hp => ?_) (fun h0 hns hk => ?_) F.co F.gen F.kind
  · rcases List.mem_cons.mp hp with rfl | hp
    · exact F.kself
    · exact (hloc p hp).1
  have X0 : K.In h0 := X.keeps hk
  have hx0 := hk _ _ hx
  have hL : h.objs.size ≠ x := Nat.ne_of_gt (Heap.lt_size hx)
  have hKL : K.lookup h.objs.size = none := by
    cases z : K.lookup h.objs.size with
    | none => rfl
    | some o => exact absurd (Heap.lt_size (X _ _ z)) (Nat.lt_irrefl _)
  have xC : x ≠ C := fun z => by
    have e := X _ _ hC
    rw [← z, hx] at e
    cases e
  have tyx : ∀ {h' : Heap} {dd : Option Addr} {t1 : Addr}, h'.get? x = some (xob C t1 dd) → ∀ {M : Model}, PySem.W.Looks M h' (typeOf (.ref x)) (.ref C) := fun {h' dd t1} e {M} => (PySem.W.Looks.ld e).andThen .now
  have hzip : List.lookup ("self" : Str) ((("self" : Str), Value.ref x) :: prs).reverse = some (.ref x) := look_rev (l := (("self" : Str), Value.ref x) :: prs) hnd List.mem_cons_self
  have hprs : ∀ p ∈ prs, List.lookup p.1 ((("self" : Str), Value.ref x) :: prs).reverse = some p.2 := fun p hp => look_rev (l := (("self" : Str), Value.ref x) :: prs) hnd (List.mem_cons_of_mem _ hp)
  generalize hm : (fun y => List.lookup y ((("self" : Str), Value.ref x) :: prs).reverse) = m at hns
  have mself : m "self" = some (.ref x) := by rw [← hm]; exact hzip
  have mprs : ∀ p ∈ prs, m p.1 = some p.2 := fun p hp => by rw [← hm]; exact hprs p hp
  generalize henv : callEnv _ _ _ = env
  have k0 : env = PySem.W.ksEnv q scope h.objs.size fI (.ref cda) cc := henv.symm
  have hkd : env.scope.kind = .function := by rw [k0]; exact F.kind
  have hloL : env.locals = h.objs.size := by rw [k0]
  obtain ⟨mb, hb1, hb2⟩ := M.blt
  have bk0 : ∀ b o, base.get? b = some o → h0.get? b = some o := fun b o e => hk _ _ (bk b o e)
  refine PySem.ks_wpAt_execs_cons (PySem.ks_wpAt_Expr_any (PySem.ks_wpAt_MethodCall ?_ (sup_eval hp)) (by unfold interactive; rw [hkd]; rfl) rfl)
  refine PySem.ks_wpAt_super_base (env := env) (by rw [k0]; exact F.ks) (by rw [k0]; exact F.kc) (by decide) (by rw [k0]) (X0 _ _ hf) rfl har (by rw [k0]) (X0 _ _ hcode) rfl hvs (beq_self_eq_true _) T.top ?_
  refine PySem.W.ks_loadName_global hkd (by rw [k0]; exact F.ks) ?_
  refine Calls.loadGlobal_builtin (mg := mg) (by rw [k0]; exact M.glob.keeps bk0) (PySem.W.mg_none_of M.kin M.glob T.nosup) (by rw [k0]; exact hb1.keeps bk0) ((hb2 "super" (by decide)).trans (by rfl)) ⟨rfl, ?_⟩
  refine wpAny_loadName_free hkd (by rw [k0]; exact F.kc) (by rw [k0]; rfl) ⟨_, X0 _ _ hcell, rfl⟩ ?_
  rw [earg]
  refine wpAny_loadName_local hkd (by rw [k0]; exact F.kself) (by rw [hloL]; exact hns) mself ?_
  refine PySem.ks_wpAny_isType_cls (X0 _ _ hC) rfl ⟨rfl, ?_⟩
  refine PySem.ks_wpAny_call_super (X0 _ _ hC) rfl hx0 rfl (fun c e => by cases e) (PySem.W.looks_mroIn X0 T.self) (fun h1 e1 k1 => ?_)
  have X1 : K.In h1 := X0.keeps k1
  have hx1 := k1 _ _ hx0
  refine PySem.W.kxs_getMethod (i := "ValueError.__init__") (B := "ValueError") PySem.W.kxs_ValueError e1 (PySem.W.looks_opaque X1 T.any) (l₀ := .ref C :: bm) (l := ((Value.ref C :: bm).dropWhile (· != .ref C)).drop 1) ?_ rfl X1 ?_ ?_ xC (by decide) ?_
  · exact fun A Q E s k q => wpAny_bind ((PySem.W.looks_clsIn X1 hcl) A _ E s k (wpAny_pure q))
  · have z := T.sup
    unfold PySem.W.ks_superIn at z
    rw [hcl] at z
    exact z
  · exact (tyx hx1).andThen (PySem.W.looks_subIn X1 T.ve)
  have k2 : ∀ b o, h1.get? b = some o → (h1.push (PySem.W.kxs_mw "ValueError.__init__" x)).get? b = some o := fun b o e => Heap.get?_push_of_some _ e
  have hu : (h1.push (PySem.W.kxs_mw "ValueError.__init__" x)).get? h1.objs.size = some (PySem.W.kxs_mw "ValueError.__init__" x) := Heap.get?_push_at rfl rfl
  show wpAny _ _ (callWith p4 (.ref h1.objs.size) [] ((false, eval (.Constant (.str msg) j p3) env) :: backTo p4 (starEach [] env)) []) _ _ _
  refine PySem.W.kxs_callWith (i := "ValueError.__init__") (x := x) rfl (Calls.evalArgs_plain (Calls.spliced_cons (Calls.Constant_str (Calls.spliced_nil ⟨hu, ?_⟩))))
  refine mw_call (X1.keeps k2 _ _ hC) hu (k2 _ _ hx1) (by show 1 ≤ sizeLine; rw [sizeLine_eq]; omega) (fun h2 k3 ⟨t1, hx2⟩ => ?_)
  have kk : ∀ b o, b ≠ x → h0.get? b = some o → h2.get? b = some o := fun b o hb e => k3 b o hb (k2 _ _ (k1 _ _ e))
  have X2 : K.In h2 := kin_but X0 kx kk
  have hns2 : h2.Ns env.locals m := by
    obtain ⟨o, es, ep, e, r⟩ := hns
    rw [hloL]
    exact ⟨o, es, ep, kk _ _ hL e, r⟩
  show PySem.wpAt _ _ _ (execs rest env) _ _ _
  refine wpAt_of_wpAny ?_
  have ST := hsets m mprs
  revert ST hloc hl hR hne hprs hzip hm mprs hnd hb
  clear hsets
  cases prs with
  | nil => intro hne; exact absurd rfl hne
  | cons p ps =>
    intro hne hl hnd hloc hR _ _ _ _ _ ST
    cases ST with
    | @cons y v sts prs' a b c dq mv ST' =>
      obtain ⟨f1, f2, f3⟩ := hloc (y, v) List.mem_cons_self
      have f1' : env.kindOf y = some .local := by rw [k0]; exact f1
      have ks' : env.kindOf "self" = some .local := by rw [k0]; exact F.kself
      have hbm' : PySem.HandSPX.refsVE (.ref C :: bm) = true := hbm
      refine wpAny_execs_cons ?_
      refine plainObj_wpAny_Assign_Attribute (wpAny_Name (wpAny_loadName_local hkd f1' hns2 mv ?_) f3) (by rfl)
      refine wpAny_Name (wpAny_loadName_local hkd ks' hns2 mself ?_) (by decide)
      refine PySem.W.set_plain X2 (ox := xob C t1 none) (od := none) ⟨hx2, rfl, rfl, trivial⟩ T.oex.sa ?_
      refine PySem.HandSPX.exc_osa X2 hx2 hcl hbm' rfl f2 (fun h3 tk3 dx k4 dn dne hx3 hn3 => ?_)
      have hn3' : h3.Ns1 dx (fun z => List.lookup z [(y, v)]) := by rw [← look_put]; exact hn3
      have X3 : K.In h3 := kin_but X2 kx k4
      have kd : K.lookup dx = none := by
        cases z : K.lookup dx with
        | none => rfl
        | some o => exact absurd (Nat.lt_of_lt_of_le (Heap.lt_size (X2 _ _ z)) dn) (Nat.lt_irrefl _)
      have lt2 : ∀ b o, b ≠ x → h.get? b = some o → b < h2.objs.size := fun b o hb e => Heap.lt_size (kk _ _ hb (hk _ _ e))
      have dL : dx ≠ env.locals := Ne.symm (Nat.ne_of_lt (Nat.lt_of_lt_of_le (Heap.Ns.lt hns2) dn))
      have hns3 : h3.Ns env.locals m := by
        obtain ⟨o, es, ep, e, r⟩ := hns2
        exact ⟨o, es, ep, k4 _ _ (by rw [hloL]; exact hL) e, r⟩
      have S : SEnv K env x C m _ := ⟨hkd, hcl, hbm', rfl, T.oex.sa, ks', mself, kx⟩
      have hLd : h.objs.size ≤ dx := by
        have z : env.locals < h2.objs.size := Heap.Ns.lt hns2
        have dn' : h2.objs.size ≤ dx := dn
        rw [hloL] at z
        exact Nat.le_of_lt (Nat.lt_of_lt_of_le z dn')
      refine sets_run S (t0 := t1) kd dL dne ST' (fun p hp => ?_) X3 hns3 hx3 hn3' (by simp at hl ⊢; omega) (fun h4 tk4 k5 hn4 => ?_)
      · obtain ⟨a1, a2, a3⟩ := hloc p (List.mem_cons_of_mem _ hp)
        exact ⟨by rw [k0]; exact a1, a2, a3⟩
      · refine hR h4 tk4 t1 dx (fun b o hb e => ?_) hLd dne (k5 _ _ (Ne.symm dne) hx3) hn4
        exact k5 _ _ (Nat.ne_of_lt (Nat.lt_of_lt_of_le (lt2 b o hb e) dn)) (k4 _ _ hb (kk _ _ hb (hk _ _ e)))
end
end PX
set_option Elab.async false
set_option linter.all false
set_option maxRecDepth 100000
set_option maxHeartbeats 4000000
/-! own exceptions made with keywords: ValueError.__new__ lets them by -/
namespace PX
open PySem L2 PySem.Spec PyProof.Rows PySem.HandSPX
section
variable {M : Model} {A : Around} {E : Value → Shared → Prop} {h : Heap} {g : Array GenState} {d : Drawn} {t : Nat} {os : OsState}
variable {nm q : Str} {C N : Addr} {bs bm bmB : List Value} {hdct : Bool} {sn : List Str} {sub : List Value} {ab : Bool} {col : Option Bool} {dd : Option Addr} {k0 k1 k2 k3 k5 : Option Value} {B newId initId : String}
theorem newcheck_kw (F : ExcBaseFacts B newId initId bmB) (hT : ∀ X : String, bm.contains (.type X) = bmB.contains (.type X)) {rest : List Value} {kw : List (Str × Value)} {Q : Unit → Shared → Prop}
    (hC : h.get? C = some (excClassObj nm q C N bs bm hdct sn sub ab col dd k0 k1 k2 k3 k5 newId)) (hq : Q () ⟨h, g, d, t, os⟩) : wpAny M A (checkBuiltinCall newId ⟨.ref C :: rest, kw⟩) Q E ⟨h, g, d, t, os⟩ := by
  have hin : (Value.ref C :: bm).contains (.type B) = true := by rw [List.contains_cons, hT, F.hasB, Bool.or_true]
  have hst := F.noStar; simp only [checkBuiltinCall, F.newKind, F.newSplit, F.newRow]
  repeat (first | refine wpAny_loadPart_at hC ?_ | (refine wpAny_isSubtype_exc hC ?_; rw [hin]) | refine wpAny_staticBase_exc hC ?_ | refine wpAny_madeBy_exc hC ?_ | (simp only [bne_self_eq_false, Bool.false_eq_true, if_false]) | wp_step)
  all_goals exact hq
end
section
variable {prog : Program} {w : World} {A : Around} {E : Value → Shared → Prop} {R : Result → Shared → Prop} {h : Heap} {g : Array GenState} {d : Drawn} {t : Nat} {os : OsState}
variable {nm q : Str} {C N : Addr} {bs bm bmB : List Value} {hdct : Bool} {sn : List Str} {sub : List Value} {ab : Bool} {col : Option Bool} {dd : Option Addr} {k0 k1 k2 k3 k5 : Option Value} {B newId initId : String}
theorem check_tc_kw {M : Model} {rest : List Value} {kw : List (Str × Value)} {Q : Unit → Shared → Prop} (hC : h.get? C = some (excClassObj nm q C N bs bm hdct sn sub ab col dd k0 k1 k2 k3 k5 newId))
    (hq : Q () ⟨h, g, d, t, os⟩) : wpAny M A (checkBuiltinCall "type.__call__" ⟨.ref C :: rest, kw⟩) Q E ⟨h, g, d, t, os⟩ := by
  have f3 := tc_sub
  have hTy : (⟨h, g, d, t, os⟩ : Shared).TypeIs (.ref C) "type" := ⟨_, hC, rfl⟩
  simp only [checkBuiltinCall, tc_kind, tc_split]
  repeat (any_goals (first | assumption | (with_reducible refine wpAny_loadPart_at hC ?_) | (with_reducible refine wpAny_onRaise ?_) | (with_reducible refine wpAny_map ?_) | wp_step))
/-- the object is laid -/
theorem new_kw (F : ExcBaseFacts B newId initId bmB) (hT : ∀ X : String, bm.contains (.type X) = bmB.contains (.type X)) {rest : List Value} {kw : List (Str × Value)}
    (hC : h.get? C = some (excClassObj nm q C N bs bm hdct sn sub ab col dd k0 k1 k2 k3 k5 newId)) (hrest : rest.length ≤ sizeLine)
    (hq : R (.ok (.ret (.ref (h.objs.size + 1)))) ⟨(h.push (PySem.W.kdv_tup rest)).push (PySem.HandSPX.excO C h.objs.size), g, d, t, os⟩) : codeAny (model prog w) A (.builtin newId ⟨.ref C :: rest, kw⟩) R ⟨h, g, d, t, os⟩ := by
  have fends := F.ends
  have in1 : (Value.ref C :: bm).contains (.type B) = true := by rw [List.contains_cons, hT, F.hasB, Bool.or_true]
  have in2 : (Value.ref C :: bm).contains (.type "AttributeError") = false := by rw [List.contains_cons, hT, F.noAttr]; rfl
  have in3 : (Value.ref C :: bm).contains (.type "NameError") = false := by rw [List.contains_cons, hT, F.noName]; rfl
  refine codeAny_builtinAt F.entry ?_; unfold Builtin.«BaseException.__new__»
  refine PySem.wpAt_bind ?_
  show PySem.wpAt _ _ _ (stack >>= _) _ _ _
  refine PySem.wpAt_bind (PySem.wpAt_stack fun _ _ => PySem.wpAt_of_wpAny ?_)
  wp_walk
  refine PySem.wpAt_of_wpAny ?_
  rw [F.owner]
  repeat (first | with_reducible refine wpAny_madeHere_exc F.canon hC ?_ | with_reducible refine wpAny_loadPart_at hC ?_ | (with_reducible refine wpAny_isSubtype_exc hC ?_; first | rw [in1] | rw [in2] | rw [in3]) | wp_step)
  show R _ _
  rw [Heap.size_push]
  exact hq
theorem typecall_kw (F : ExcBaseFacts B newId initId bmB) (hT : ∀ X : String, bm.contains (.type X) = bmB.contains (.type X)) {rest : List Value} {kw : List (Str × Value)} {fI : Addr} {Q : Fin → Shared → Prop}
    (hC : h.get? C = some (excClassObj nm q C N bs bm hdct sn sub ab col dd k0 k1 k2 k3 k5 newId))
    (hi : PySem.W.Looks (model prog w) h (typeLookup (.ref C) "__init__") (some (.ref fI))) (hb : ∀ self, PySem.W.Looks (model prog w) h (bindSpecial (.ref fI) self) (.ref fI, [self])) (hrest : rest.length ≤ sizeLine)
    (hq : codeAny (model prog w) A (.call (.ref fI) ⟨.ref (h.objs.size + 1) :: rest, kw⟩)
      (fun r s' => match r with | .ok (.ret v) => v = .none ∧ Q (.done (.ret (.ref (h.objs.size + 1)))) s' | .ok _ => False | .error e => E e s') ⟨(h.push (PySem.W.kdv_tup rest)).push (PySem.HandSPX.excO C h.objs.size), g, d, t, os⟩) :
    wpAny (model prog w) A (Builtin.«type.__call__» ⟨.ref C :: rest, kw⟩) Q E ⟨h, g, d, t, os⟩ := by
  repeat (first | with_reducible refine wpAny_loadPart_at hC ?_ | with_reducible refine wpAny_madeBy_exc hC ?_ | wp_step)
  refine codeAny_call_builtin_code (Code.quiet_builtin _ F.quiet) (newcheck_kw F hT hC ?_)
  refine new_kw F hT hC hrest ?_
  show wpAny _ _ _ _ _ _
  have k : ∀ b o, h.get? b = some o → ((h.push (PySem.W.kdv_tup rest)).push (PySem.HandSPX.excO C h.objs.size)).get? b = some o := fun b o e => Heap.get?_push_of_some _ (Heap.get?_push_of_some _ e)
  have hC1 := k _ _ hC
  have hget : ((h.push (PySem.W.kdv_tup rest)).push (PySem.HandSPX.excO C h.objs.size)).get? (h.objs.size + 1) = some (PySem.HandSPX.excO C h.objs.size) := by heap_get
  have hcC : (Value.ref C :: bm).contains (.ref C) = true := by simp
  have i1 := hi.keeps k; have b1 := (hb (.ref (h.objs.size + 1))).keeps k
  unfold isInstance
  repeat (first | with_reducible refine wpAny_loadPart_at hget ?_ | (with_reducible refine wpAny_isSubtype_exc hC1 ?_; rw [hcC]) | wp_step)
  show wpAny _ _ (typeLookup (.ref C) _) _ _ _
  refine i1.at (wpAny_holding (wpAny_bind (b1.at ?_)))
  refine wpAny_bind (wpAny_call (codeAny_mono hq fun r s' z => ?_))
  rcases r with e | (v | _ | _ | _) <;> first | exact z | exact z.elim | skip
  obtain ⟨rfl, z⟩ := z
  first
    | exact wpAny_pure (wpAny_pure z)
    | (wp_walk; exact z)
theorem call_kw (F : ExcBaseFacts B newId initId bmB) (hT : ∀ X : String, bm.contains (.type X) = bmB.contains (.type X)) {rest : List Value} {kw : List (Str × Value)} {fI : Addr}
    (hC : h.get? C = some (excClassObj nm q C N bs bm hdct sn sub ab col dd k0 k1 k2 k3 k5 newId))
    (hi : PySem.W.Looks (model prog w) h (typeLookup (.ref C) "__init__") (some (.ref fI))) (hb : ∀ self, PySem.W.Looks (model prog w) h (bindSpecial (.ref fI) self) (.ref fI, [self])) (hrest : rest.length ≤ sizeLine)
    (hq : codeAny (model prog w) (A.under (.builtin "type.__call__" ⟨.ref C :: rest, kw⟩)) (.call (.ref fI) ⟨.ref (h.objs.size + 1) :: rest, kw⟩) (PySem.W.InitBack (h.objs.size + 1) R)
      ⟨(h.push (PySem.W.kdv_tup rest)).push (PySem.HandSPX.excO C h.objs.size), g, d, t, os⟩) : codeAny (model prog w) A (.call (.ref C) ⟨rest, kw⟩) R ⟨h, g, d, t, os⟩ := by
  have f1 := tc_lookup
  have f2 := tc_bind (.ref C)
  have hTy : (⟨h, g, d, t, os⟩ : Shared).TypeIs (.ref C) "type" := ⟨_, hC, rfl⟩
  refine codeAny_of_tree ?_
  show wpAny _ _ (callAny (.ref C) _) _ _ _
  repeat (any_goals (first | assumption | with_reducible refine wpAny_loadPart_at hC ?_ | wp_step))
  refine ⟨rfl, ?_⟩
  refine codeAny_call_builtin_at (Code.quiet_builtin _ (by decide +kernel)) entry_typeCall (check_tc_kw hC (typecall_kw F hT hC hi hb hrest ?_))
  refine codeAny_mono hq fun r s' z => ?_
  rcases r with e | (v | _ | _ | _) <;> exact z
end
end PX
set_option Elab.async false
set_option linter.all false
set_option maxRecDepth 100000
set_option maxHeartbeats 4000000
/-! such an exception as a value: made, asked for a field, for its class -/
namespace PX
open PySem L2 PySem.Spec PyProof.Rows
/-- two new things at once -/
theorem inv_two {X : Cx} {pins : List (Addr × Obj)} {σ : L2.St} {H : Hp} {hp h' : Heap} {g : Array GenState} {d : Drawn} {t t' : Nat} {os : OsState} {a b : Addr} {oa ob : HO} (I : Inv X pins σ H ⟨hp, g, d, t, os⟩) (k : ∀ c o, hp.get? c = some o → h'.get? c = some o)
    (na : hp.objs.size ≤ a) (nb : hp.objs.size ≤ b) (ne : b ≠ a) (newA : ObjOk X.prog X.w (upd (upd H b ob) a oa) h' a oa) (newB : ObjOk X.prog X.w (upd (upd H b ob) a oa) h' b ob) :
    Inv X pins σ (upd (upd H b ob) a oa) ⟨h', g, d, t', os⟩ := by
  have ha : H a = none := I.hok.fresh na
  have hb : H b = none := I.hok.fresh nb
  have lt : ∀ {c : Addr} {o : Obj}, hp.get? c = some o → c ≠ a ∧ c ≠ b := fun {c o} e => ⟨Nat.ne_of_lt (Nat.lt_of_lt_of_le (Heap.lt_size e) na), Nat.ne_of_lt (Nat.lt_of_lt_of_le (Heap.lt_size e) nb)⟩
  have up : ∀ {c : Addr} {u : HO}, H c = some u → upd (upd H b ob) a oa c = some u := fun {c u} e => by rw [upd_ne (ne_of_none e ha), upd_ne (ne_of_none e hb)]; exact e
  have U : Un X.fs [] H (upd (upd H b ob) a oa) hp h' := {
    keep := fun c o e n _ _ => k c o e
    slot := fun c o e n _ _ => ⟨o.slots, k c o e⟩
    free := fun c o e n _ => by rw [upd_ne (lt e).1, upd_ne (lt e).2]; exact n
    there := fun c o e _ => ⟨o, k c o e⟩
    tups := fun c xs e => up e
    frzs := fun c o v e => up e
    tbls := fun c ps e => ⟨#[], by rw [up e]; simp⟩ }
  refine I.un (t' := t') U fun c o e => ?_
  by_cases ca : c = a
  · subst ca
    rw [upd_same] at e
    cases e
    exact newA
  · rw [upd_ne ca] at e
    by_cases cb : c = b
    · subst cb
      rw [upd_same] at e
      cases e
      exact newB
    · rw [upd_ne cb] at e
      exact (I.hok c o e).stay (fun z v _ q => k z v q) (fun z q => up q) fun z xs q => up q
/-- fields, side by side -/
inductive RP : List (Str × V) → List (Str × Value) → Prop
  | nil : RP [] []
  | cons {f : Str} {v : V} {u : Value} {vs : List (Str × V)} {us : List (Str × Value)} : RelV v u → RP vs us → RP ((f, v) :: vs) ((f, u) :: us)
theorem RP.look : ∀ {vs : List (Str × V)} {us : List (Str × Value)}, RP vs us → ∀ f, RelO (vs.lookup f) (us.lookup f)
  | _, _, .nil, _ => True.intro
  | _, _, @RP.cons g v u vs us r t, f => by
    by_cases e : f = g
    · subst e
      have e1 : ((f, v) :: vs).lookup f = some v := by simp [List.lookup]
      have e2 : ((f, u) :: us).lookup f = some u := by simp [List.lookup]
      rw [e1, e2]; exact r
    · have e' : (f == g) = false := by simpa using e
      simp only [List.lookup, e']
      exact RP.look t f
theorem RP.app : ∀ {a c : List (Str × V)} {b d : List (Str × Value)}, RP a b → RP c d → RP (a ++ c) (b ++ d)
  | _, _, _, _, .nil, s => s
  | _, _, _, _, .cons r t, s => .cons r (RP.app t s)
theorem RP.rev : ∀ {a : List (Str × V)} {b : List (Str × Value)}, RP a b → RP a.reverse b.reverse
  | _, _, .nil => .nil
  | _, _, .cons r t => by
    rw [List.reverse_cons, List.reverse_cons]
    exact RP.app (RP.rev t) (.cons r .nil)
theorem RP.zip : ∀ (ns : List Str) {vs : List V} {us : List Value}, Vals vs us → RP (ns.zip vs) (ns.zip us)
  | [], _, _, _ => .nil
  | _ :: _, _, _, .nil => .nil
  | _ :: ns, _, _, .cons r t => .cons r (RP.zip ns t)
/-- by places -/
def pick {α : Type} (ix : List Nat) (l : List α) : List α := ix.filterMap fun i => l[i]?
theorem vals_at : ∀ {vs : List V} {us : List Value}, Vals vs us → ∀ i : Nat, (vs[i]? = none ∧ us[i]? = none) ∨ ∃ v u, vs[i]? = some v ∧ us[i]? = some u ∧ RelV v u
  | _, _, .nil, i => .inl ⟨by simp, by simp⟩
  | _, _, .cons r t, 0 => .inr ⟨_, _, rfl, rfl, r⟩
  | _, _, .cons r t, i + 1 => by simpa using vals_at t i
theorem vals_pick {vs : List V} {us : List Value} (r : Vals vs us) : ∀ ix : List Nat, Vals (pick ix vs) (pick ix us)
  | [] => .nil
  | i :: ix => by
    unfold pick
    rw [List.filterMap_cons, List.filterMap_cons]
    rcases vals_at r i with ⟨a, b⟩ | ⟨v, u, a, b, c⟩
    · rw [a, b]; exact vals_pick r ix
    · rw [a, b]; exact .cons c (vals_pick r ix)
section
variable {X : Cx} {C fI cc : Addr} {q msg : Str} {params : Arguments} {body rest : List Stmt} {scope : Scope} {fd : FuncData} {k : Nat} {flds ks : List Str} {ix : List Nat} {x : Str} {p pos : Pos} {e : Expr} {es : List Expr} {kws : List Keyword} {ta : TA}
/-- all that a call of such a class leans on: the class, its def, how the arguments come to the fields -/
structure SupK (P : Program) (K : PySem.W.Frag) (C : Addr) (flds ks : List Str) (n : Nat) (ix : List Nat) : Prop where
  ex : ∃ (fI cc : Addr) (q msg : Str) (params : Arguments) (body rest : List Stmt) (scope : Scope) (fd : FuncData), SupC P K C fI cc ∧ SupF P K q params body scope fI cc fd ∧ SupBody body msg rest ∧
    (∀ (s : Shared) (u : Value) (us ws : List Value), us.length = n → ws.length = ks.length → BindsTo s fd ⟨u :: us, ks.zip ws⟩ (("self", u) :: flds.zip (pick ix (us ++ ws)))) ∧
    (∀ y ∈ flds, scope.names.lookup y = some .local ∧ PySem.W.findIn K (.ref C) y = some none ∧ (y == ("__debug__" : Str)) = false) ∧
    (∀ (m : Str → Option Value) (us : List Value), us.length = flds.length → (∀ z ∈ flds.zip us, m z.1 = some z.2) → Sets m rest (flds.zip us))
  ne : flds ≠ []
  nn : n ≤ 1000
  few : flds.length ≤ 800
  nd : (("self" : Str) :: flds).Nodup
  ixl : ∀ l : List Value, l.length = n + ks.length → (pick ix l).length = flds.length
  ixl2 : ∀ l : List V, l.length = n + ks.length → (pick ix l).length = flds.length
theorem zip_fst {α : Type} : ∀ {ns : List Str} {us : List α}, us.length = ns.length → (ns.zip us).map (·.1) = ns
  | [], [], _ => rfl
  | n :: ns, u :: us, h => by simp [zip_fst (ns := ns) (us := us) (by simpa using h)]
/-- what stands behind it -/
def tSup (C : Addr) (flds : List Str) (n : Nat) (ks : List Str) (ix : List Nat) (ta : TA) : TE := fun σ H Q => ta σ H fun vs H1 => vs.length = n + ks.length ∧
  ∀ a dx, H1 a = none → H1 dx = none → dx ≠ a → Q (.ref a) (upd (upd H1 dx (exd dx (flds.zip (pick ix vs)).reverse)) a (exo a C (some dx)))
theorem run_sup {n : Nat} (T : SupK X.prog X.K C flds ks n ix) (hr : Room (k + 1) X.A) {pins : List (Addr × Obj)} {σ : L2.St} {H : Hp} {s : Shared} {Q : VK} {us ws : List Value} {vs : List V} (I : Inv X pins σ H s) (r : Vals vs (us ++ ws)) (lu : us.length = n) (lw : ws.length = ks.length)
    (h : ∀ a dx, H a = none → H dx = none → dx ≠ a → Q (.ref a) (upd (upd H dx (exd dx (flds.zip (pick ix vs)).reverse)) a (exo a C (some dx)))) : wpAny (model X.prog X.w) X.A (call (.ref C) us (ks.zip ws)) (EP X pins σ Q) X.xe s := by
  obtain ⟨fI, cc, q, msg, params, body, rest, scope, fd, T1, T2, T3, T4, T5, T6⟩ := T.ex
  obtain ⟨nm, qn, N, bs, bm, sn, sub, ab, col, dd, k0, k1, k2, k3, k5, hC, hbm⟩ := T1.oex.cls
  have X0 : X.K.In s.heap := I.kIn
  obtain ⟨hp, g, d, t, os⟩ := s
  have hll : (us ++ ws).length = n + ks.length := by rw [List.length_append, lu, lw]
  have hus : us.length ≤ sizeLine := by
    have y := T.nn
    rw [lu, sizeLine_eq]; omega
  have kk : ∀ b o, hp.get? b = some o → ((hp.push (PySem.W.kdv_tup us)).push (PySem.HandSPX.excO C hp.objs.size)).get? b = some o := fun b o z => Heap.get?_push_of_some _ (Heap.get?_push_of_some _ z)
  have hget : ((hp.push (PySem.W.kdv_tup us)).push (PySem.HandSPX.excO C hp.objs.size)).get? (hp.objs.size + 1) = some (xob C hp.objs.size none) := by heap_get
  have kx : X.K.lookup (hp.objs.size + 1) = none := by
    cases z : X.K.lookup (hp.objs.size + 1) with
    | none => rfl
    | some o =>
      have y : hp.objs.size + 1 < hp.objs.size := Heap.lt_size (X0 _ _ z)
      exact absurd y (by omega)
  have lp : (pick ix (us ++ ws)).length = flds.length := T.ixl _ hll
  refine wpAny_call (call_kw PySem.F.excBase_ValueError (fun Y => PySem.HandSPX.refsVE_contains Y bm hbm) (X0 _ _ hC) (PySem.W.looks_findIn X0 T1.init) (fun self => PySem.W.bind_fn X0 self T1.fn) hus ?_)
  refine sup_init (prs := flds.zip (pick ix (us ++ ws))) T1 T2 T3 I.ok.mod (hr.make C us (ks.zip ws)).depth (fun b o z => kk _ _ (I.bk _ _ z)) kx hget (T4 _ _ _ _ lu lw) ?_ ?_ ?_ ?_ (fun m hm => T6 m _ lp hm) ?_
  · intro z
    have z2 := congrArg List.length z
    rw [List.length_zip, lp] at z2
    have ne := T.ne
    cases flds with
    | nil => exact ne rfl
    | cons _ _ => simp at z2
  · rw [List.length_zip, lp]; have := T.few; omega
  · rw [zip_fst lp]; exact T.nd
  · intro z hz
    exact T5 z.1 (List.of_mem_zip (a := z.1) (b := z.2) hz).1
  · intro h' tk' t1 dx k3 hd hne hx hn
    refine ⟨rfl, ?_⟩
    have hd' : hp.objs.size ≤ dx := by
      rw [Heap.size_push, Heap.size_push] at hd
      exact Nat.le_trans (by omega) hd
    have J := inv_two (t' := tk') (a := hp.objs.size + 1) (b := dx) (oa := exo (hp.objs.size + 1) C (some dx)) (ob := exd dx (flds.zip (pick ix vs)).reverse) (h' := h') I
      (fun b o z => k3 _ _ (fun y => by
        have y2 : b < hp.objs.size := Heap.lt_size z
        have y3 : hp.objs.size + 1 < hp.objs.size := by rw [← y]; exact y2
        exact absurd y3 (by omega)) (kk _ _ z)) (Nat.le_succ _) hd' hne (exo_ok hx) (exd_ok hn fun f => (RP.zip flds (vals_pick r ix)).rev.look f)
    exact ⟨.ref (hp.objs.size + 1), _, J, rfl, h _ dx (I.hok.fresh (Nat.le_succ _)) (I.hok.fresh hd') hne⟩
/-- C(e, ..) -/
theorem pe_sup {n : Nat} (T : SupK X.prog X.K C flds [] n ix) (hr : Room (k + 1) X.A) (kC : PySem.W.keepIn X.K (.ref C) = true) (hg : Gl X x) (hm : X.mg x = some (.ref C)) (ha : PA X (e :: es) ta) (hdb : (x == ("__debug__" : Str)) = false := by decide)
    (he : starEach (e :: es) X.env = (false, eval e X.env) :: starEach es X.env := by rfl) (hpl : (backTo pos (starEach es X.env)).any (·.1) = false := by rfl) : PE X (.Call (.Name x p) (e :: es) [] pos) (tSup C flds n [] ix ta) := by
  refine ⟨fun pins s σ H Q I h => ?_⟩
  refine wpAny_Call_Name_kw (ld_glob I hg hm ?_ hdb)
  refine PySem.W.callWith_K (h₀ := X.base) I.ok.mod.kin kC (thn (ha.run pos pins s σ H _ I h) fun us s1 ⟨vs, H1, I1, r, l, q⟩ => ⟨I1.kIn, ?_⟩) he hpl
  have lu : us.length = n := by rw [← Paired.length r]; simpa using l
  exact run_sup (us := us) (ws := []) T hr I1 (by rw [List.append_nil]; exact r) lu rfl q
/-- C(f = e, ..) -/
theorem pe_supK (T : SupK X.prog X.K C flds ks 0 ix) (hr : Room (k + 1) X.A) (kC : PySem.W.keepIn X.K (.ref C) = true) (hg : Gl X x) (hm : X.mg x = some (.ref C)) (hkw : PK X kws ta) (hall : (backToKw pos (keywordEach kws X.env)).all (·.1.isSome) = true := by rfl)
    (hks : (backToKw pos (keywordEach kws X.env)).filterMap (·.1) = ks := by rfl) (hdb : (x == ("__debug__" : Str)) = false := by decide)
    (hpl : ((backTo pos (starEach [] X.env)).any (·.1) || (backToKw pos (keywordEach kws X.env)).any (·.1.isNone)) = false := by rfl) : PE X (.Call (.Name x p) [] kws pos) (tSup C flds 0 ks ix ta) := by
  refine ⟨fun pins s σ H Q I h => ?_⟩
  refine wpAny_Call_Name_kw (ld_glob I hg hm ?_ hdb)
  refine PySem.W.callWith_KW0 (h₀ := X.base) I.ok.mod.kin kC hall (thn (hkw.run pos pins s σ H _ I h) fun ws s1 ⟨vs, H1, I1, r, l, q⟩ => ⟨I1.kIn, ?_⟩) hpl
  rw [hks]
  have lw : ws.length = ks.length := by rw [← Paired.length r]; simpa using l
  exact run_sup (us := []) (ws := ws) T hr I1 r rfl lw q
/-- what the class must have for its instances' fields, classes to be asked -/
def tFld (K : PySem.W.Frag) (f : Str) (te : TE) : TE := fun σ H Q => te σ H fun v H1 => ∃ (a C dx : Addr) (fs : List (Str × V)) (u : V), v = .ref a ∧ XfC K C ∧ PySem.W.findIn K (.ref C) f = some none ∧ H1 a = some (exo a C (some dx)) ∧ H1 dx = some (exd dx fs) ∧ fs.lookup f = some u ∧ Q u H1
/-- e.f -/
theorem pe_fld {f : Str} {te : TE} (he : PE X e te) (hb : attributeBase e f X.env (eval e X.env) = eval e X.env := by rfl) : PE X (.Attribute e f pos) (tFld X.K f te) := by
  refine ⟨fun pins s σ H Q I h => ?_⟩
  refine attr_of hb (thn (he.run pins s σ H _ I h) fun u s1 ⟨v, H1, I1, rx, a, C, dx, fs, y, ev, T, hno, ea, ed, l, q⟩ => ?_)
  subst ev
  obtain rfl : u = Value.ref a := rx
  obtain ⟨t1, ho⟩ := exo_at I1.hok ea
  obtain ⟨mA, hns, hr⟩ := exd_at I1.hok ed
  obtain ⟨od, hd, hl⟩ := lookIn_ns hns
  obtain ⟨z, hz, rz⟩ := RelO.some_of (v := y) (o := mA f) (by rw [← l]; exact hr f)
  have J : PySem.W.InstAt s1.heap a _ C (some od) := ⟨ho, rfl, rfl, hd⟩
  exact PySem.HandSPX.exc_get I1.kIn J T.ga T.gg T.exC (PySem.W.findObj_own T.hdC hno rfl (by rw [hl, hz])) (handed_of rz) ⟨y, H1, I1.tok _, rz, q⟩
end
end PX
set_option Elab.async false
set_option linter.all false
set_option maxRecDepth 100000
set_option maxHeartbeats 2000000
/-! PL: readings over plain data. -/
namespace PL
open PySem L2

/-! ## data -/
inductive D where
  | non | bl (b : Bool) | int (i : Int) | str (x : Str) | tup (xs : List D) | lst (xs : List D) | dic (kvs : List (Key × D)) | tok | fn (a : Addr) | ty (n : String) | exc (c : Str) (fs : List (Str × D))
instance : Inhabited D := ⟨.non⟩
/-- what a dict holds under a key -/
def getK : List (Key × D) → Key → Option D
  | [], _ => none
  | (k', d) :: r, k => if k' = k then some d else getK r k

/-- a tuple, a list of the written part -/
def KT (K : PySem.W.Frag) (a : Addr) (xs : List V) : Prop :=
  ∃ (o : Obj) (its : Array Value) (n : Nat), K.lookup a = some o ∧ o.cls = .type "tuple" ∧ o.data = .seq its n ∧ its.size ≤ sizeLine ∧ Vals xs its.toList
def KL (K : PySem.W.Frag) (a : Addr) (xs : List V) : Prop :=
  ∃ (its : List Value) (n : Nat), K.lookup a = some { cls := .type "list", data := .seq its.toArray n } ∧ its.length ≤ sizeLine ∧ Vals xs its
theorem KL.sq {K : PySem.W.Frag} {H : Hp} {a : Addr} {xs : List V} (h : KL K a xs) : SqL K H a xs := by
  obtain ⟨its, n, h1, h2, h3⟩ := h
  exact .inr ⟨_, its.toArray, n, h1, rfl, rfl, rfl, by simpa using h2, by simpa using h3⟩

/-- an exception of the module's class c: one that stored fields, one without -/
def XAt (K : PySem.W.Frag) (m : Addr → Prop) (H : Hp) (a : Addr) (c : Str) (vs : List (Str × V)) : Prop :=
  (∃ dx, H a = some (exo a (He.ga K c) (some dx)) ∧ H dx = some (exd dx vs) ∧ ¬ m a ∧ ¬ m dx) ∨ (vs = [] ∧ H a = some (ExO (.ref (He.ga K c)) a) ∧ ¬ m a)
section
variable (K : PySem.W.Frag) (p : Addr) (m : Addr → Prop) (H : Hp)
mutual
inductive Rel : V → D → Prop
  | non : Rel .non .non
  | bl (b : Bool) : Rel (.bl b) (.bl b)
  | int (i : Int) : Rel (.int i) (.int i)
  | str (x : Str) : Rel (.str x) (.str x)
  | tup {a : Addr} {vs : List V} {ds : List D} : (Rd H a (.tup vs) ∧ ¬ m a) ∨ KT K a vs → RelL vs ds → Rel (.ref a) (.tup ds)
  | lst {a : Addr} {vs : List V} {ds : List D} : (Rd H a (.lst vs) ∧ ¬ m a) ∨ KL K a vs → RelL vs ds → Rel (.ref a) (.lst ds)
  | dic {a : Addr} {kvs : List (Key × V)} {es : List (Key × D)} : H a = some (.dK kvs) → ¬ m a → RelK kvs es → Rel (.ref a) (.dic es)
  | tok : Rel (.ref p) .tok
  | fn (a : Addr) : Rel (.ref a) (.fn a)
  | ty (n : String) : Rel (.ty n) (.ty n)
  | exc {a : Addr} {c : Str} {vs : List (Str × V)} {ds : List (Str × D)} : XAt K m H a c vs → RelX vs ds → Rel (.ref a) (.exc c ds)
inductive RelL : List V → List D → Prop
  | nil : RelL [] []
  | cons {v : V} {d : D} {vs : List V} {ds : List D} : Rel v d → RelL vs ds → RelL (v :: vs) (d :: ds)
inductive RelK : List (Key × V) → List (Key × D) → Prop
  | nil : RelK [] []
  | cons {k : Key} {v : V} {d : D} {vs : List (Key × V)} {ds : List (Key × D)} : Rel v d → RelK vs ds → RelK ((k, v) :: vs) ((k, d) :: ds)
inductive RelX : List (Str × V) → List (Str × D) → Prop
  | nil : RelX [] []
  | cons {k : Str} {v : V} {d : D} {vs : List (Str × V)} {ds : List (Str × D)} : Rel v d → RelX vs ds → RelX ((k, v) :: vs) ((k, d) :: ds)
end
end

/-- what is not mutable stays -/
def Gr (m : Addr → Prop) (H H' : Hp) : Prop := ∀ b u, H b = some u → ¬ m b → H' b = some u
theorem Gr.refl {m : Addr → Prop} {H : Hp} : Gr m H H := fun _ _ h _ => h
theorem Gr.trans {m : Addr → Prop} {H H1 H2 : Hp} (a : Gr m H H1) (b : Gr m H1 H2) : Gr m H H2 := fun c u h n => b c u (a c u h n) n
theorem Gr.of {m : Addr → Prop} {H H' : Hp} (s : Same H H') : Gr m H H' := fun b u h _ => s b u h
theorem Gr.rd {m : Addr → Prop} {H H' : Hp} {a : Addr} {u : HO} (g : Gr m H H') (n : ¬ m a) (h : Rd H a u) : Rd H' a u := by
  rcases h with h | ⟨o, h⟩
  · exact .inl (g _ _ h n)
  · exact .inr ⟨o, g _ _ h n⟩

/-- what is not mutable stays, and stays so -/
def G2 (m : Addr → Prop) (H : Hp) (m' : Addr → Prop) (H' : Hp) : Prop := ∀ b u, H b = some u → ¬ m b → H' b = some u ∧ ¬ m' b
theorem G2.refl {m : Addr → Prop} {H : Hp} : G2 m H m H := fun _ _ h n => ⟨h, n⟩
theorem G2.trans {m m1 m2 : Addr → Prop} {H H1 H2 : Hp} (a : G2 m H m1 H1) (b : G2 m1 H1 m2 H2) : G2 m H m2 H2 := fun c u h n => let ⟨x, y⟩ := a c u h n; b c u x y
theorem Gr.g2 {m : Addr → Prop} {H H' : Hp} (g : Gr m H H') : G2 m H m H' := fun b u h n => ⟨g b u h n, n⟩
theorem G2.less {m m' : Addr → Prop} {H : Hp} (h : ∀ a, m' a → m a) : G2 m H m' H := fun b u e n => ⟨e, fun z => n (h _ z)⟩
theorem G2.rd {m m' : Addr → Prop} {H H' : Hp} {a : Addr} {u : HO} (g : G2 m H m' H') (n : ¬ m a) (h : Rd H a u) : Rd H' a u ∧ ¬ m' a := by
  rcases h with h | ⟨o, h⟩
  · exact ⟨.inl (g _ _ h n).1, (g _ _ h n).2⟩
  · exact ⟨.inr ⟨o, (g _ _ h n).1⟩, (g _ _ h n).2⟩
theorem XAt.mono2 {K : PySem.W.Frag} {m m' : Addr → Prop} {H H' : Hp} {a : Addr} {c : Str} {vs : List (Str × V)} (g : G2 m H m' H') (h : XAt K m H a c vs) : XAt K m' H' a c vs := by
  rcases h with ⟨dx, h1, h2, h3, h4⟩ | ⟨e, h1, h2⟩
  · exact .inl ⟨dx, (g _ _ h1 h3).1, (g _ _ h2 h4).1, (g _ _ h1 h3).2, (g _ _ h2 h4).2⟩
  · exact .inr ⟨e, (g _ _ h1 h2).1, (g _ _ h1 h2).2⟩
section
variable {K : PySem.W.Frag} {p : Addr} {m m' : Addr → Prop} {H H' : Hp}
mutual
theorem Rel.mono2 (g : G2 m H m' H') : ∀ {v : V} {d : D}, Rel K p m H v d → Rel K p m' H' v d
  | _, _, .non => .non
  | _, _, .bl b => .bl b
  | _, _, .int i => .int i
  | _, _, .str x => .str x
  | _, _, .tup h r => .tup (h.imp (fun z => g.rd z.2 z.1) id) (RelL.mono2 g r)
  | _, _, .lst h r => .lst (h.imp (fun z => g.rd z.2 z.1) id) (RelL.mono2 g r)
  | _, _, .dic h n r => .dic (g _ _ h n).1 (g _ _ h n).2 (RelK.mono2 g r)
  | _, _, .tok => .tok
  | _, _, .fn a => .fn a
  | _, _, .ty n => .ty n
  | _, _, .exc h r => .exc (h.mono2 g) (RelX.mono2 g r)
theorem RelL.mono2 (g : G2 m H m' H') : ∀ {vs : List V} {ds : List D}, RelL K p m H vs ds → RelL K p m' H' vs ds
  | _, _, .nil => .nil
  | _, _, .cons r t => .cons (Rel.mono2 g r) (RelL.mono2 g t)
theorem RelK.mono2 (g : G2 m H m' H') : ∀ {vs : List (Key × V)} {ds : List (Key × D)}, RelK K p m H vs ds → RelK K p m' H' vs ds
  | _, _, .nil => .nil
  | _, _, .cons r t => .cons (Rel.mono2 g r) (RelK.mono2 g t)
theorem RelX.mono2 (g : G2 m H m' H') : ∀ {vs : List (Str × V)} {ds : List (Str × D)}, RelX K p m H vs ds → RelX K p m' H' vs ds
  | _, _, .nil => .nil
  | _, _, .cons r t => .cons (Rel.mono2 g r) (RelX.mono2 g t)
end
theorem RelX.look : ∀ {vs : List (Str × V)} {ds : List (Str × D)} {f : Str} {d : D}, RelX K p m H vs ds → ds.lookup f = some d → ∃ v, vs.lookup f = some v ∧ Rel K p m H v d
  | _, _, _, _, .nil, e => by cases e
  | _, _, f, d, @RelX.cons _ _ _ _ g v d' vs ds r t, e => by
    by_cases h : f = g
    · subst h
      have e1 : ((f, d') :: ds).lookup f = some d' := by simp [List.lookup]
      rw [e1] at e; cases e
      exact ⟨v, by simp [List.lookup], r⟩
    · have h' : (f == g) = false := by simpa using h
      simp only [List.lookup, h'] at e ⊢
      exact RelX.look t e
theorem g2_of (g : Gr m H H') (hm : ∀ a, m' a → m a) : G2 m H m' H' := fun b u h n => ⟨g b u h n, fun z => n (hm _ z)⟩
theorem Rel.mono (g : Gr m H H') (hm : ∀ a, m' a → m a) {v : V} {d : D} (r : Rel K p m H v d) : Rel K p m' H' v d := r.mono2 (g2_of g hm)
theorem RelL.mono (g : Gr m H H') (hm : ∀ a, m' a → m a) {v : List V} {d : List D} (r : RelL K p m H v d) : RelL K p m' H' v d := r.mono2 (g2_of g hm)
theorem RelK.mono (g : Gr m H H') (hm : ∀ a, m' a → m a) {v : List (Key × V)} {d : List (Key × D)} (r : RelK K p m H v d) : RelK K p m' H' v d := r.mono2 (g2_of g hm)
theorem Rel.gr (g : Gr m H H') {v : V} {d : D} (r : Rel K p m H v d) : Rel K p m H' v d := r.mono g fun _ h => h
theorem RelL.gr (g : Gr m H H') {v : List V} {d : List D} (r : RelL K p m H v d) : RelL K p m H' v d := r.mono g fun _ h => h
theorem RelL.length : ∀ {vs : List V} {ds : List D}, RelL K p m H vs ds → vs.length = ds.length
  | _, _, .nil => rfl
  | _, _, .cons _ t => congrArg (· + 1) (RelL.length t)
theorem RelL.get : ∀ {vs : List V} {ds : List D} {i : Nat} {v : V}, RelL K p m H vs ds → vs[i]? = some v → ∃ d, ds[i]? = some d ∧ Rel K p m H v d
  | _, _, _, _, .nil, e => by simp at e
  | _, _, 0, _, .cons r _, e => by simp at e; subst e; exact ⟨_, rfl, r⟩
  | _, _, i + 1, v, .cons _ t, e => by
    obtain ⟨d, h1, h2⟩ := RelL.get (i := i) (v := v) t (by simpa using e)
    exact ⟨d, by simpa using h1, h2⟩
theorem RelL.get' : ∀ {vs : List V} {ds : List D} {i : Nat} {d : D}, RelL K p m H vs ds → ds[i]? = some d → ∃ v, vs[i]? = some v ∧ Rel K p m H v d
  | _, _, _, _, .nil, e => by simp at e
  | _, _, 0, _, .cons r _, e => by simp at e; subst e; exact ⟨_, rfl, r⟩
  | _, _, i + 1, v, .cons _ t, e => by
    obtain ⟨d, h1, h2⟩ := RelL.get' (i := i) (d := v) t (by simpa using e)
    exact ⟨d, by simpa using h1, h2⟩
theorem RelL.append : ∀ {vs ws : List V} {ds es : List D}, RelL K p m H vs ds → RelL K p m H ws es → RelL K p m H (vs ++ ws) (ds ++ es)
  | _, _, _, _, .nil, s => s
  | _, _, _, _, .cons r t, s => .cons r (RelL.append t s)
theorem RelL.take : ∀ {vs : List V} {ds : List D} (n : Nat), RelL K p m H vs ds → RelL K p m H (vs.take n) (ds.take n)
  | _, _, 0, _ => .nil
  | _, _, _ + 1, .nil => .nil
  | _, _, n + 1, .cons r t => .cons r (RelL.take n t)
theorem RelL.drop : ∀ {vs : List V} {ds : List D} (n : Nat), RelL K p m H vs ds → RelL K p m H (vs.drop n) (ds.drop n)
  | _, _, 0, r => r
  | _, _, _ + 1, .nil => .nil
  | _, _, n + 1, .cons _ t => RelL.drop n t
theorem RelL.ints : ∀ (ns : List Int), RelL K p m H (ns.map V.int) (ns.map D.int)
  | [] => .nil
  | n :: ns => .cons (.int n) (RelL.ints ns)
theorem Rel.tupInv {v : V} {ds : List D} (r : Rel K p m H v (.tup ds)) : ∃ a vs, v = .ref a ∧ SqT K H a vs ∧ RelL K p m H vs ds := by
  cases r with
  | tup h r => exact ⟨_, _, rfl, h.elim (fun z => .inl z.1) .inr, r⟩
theorem Rel.lstInv {v : V} {ds : List D} (r : Rel K p m H v (.lst ds)) : ∃ a vs, v = .ref a ∧ SqL K H a vs ∧ RelL K p m H vs ds := by
  cases r with
  | lst h r => exact ⟨_, _, rfl, h.elim (fun z => .inl z.1) KL.sq, r⟩
theorem RelL.cons_inv {v : List V} {d : D} {ds : List D} (r : RelL K p m H v (d :: ds)) : ∃ x xs, v = x :: xs ∧ Rel K p m H x d ∧ RelL K p m H xs ds := by
  cases r with
  | cons h r => exact ⟨_, _, rfl, h, r⟩
theorem RelL.nil_inv {v : List V} (r : RelL K p m H v []) : v = [] := by cases r; rfl
theorem RelK.get : ∀ {vs : List (Key × V)} {ds : List (Key × D)} (k : Key), RelK K p m H vs ds → (valV vs k = none ∧ getK ds k = none) ∨ ∃ v d, valV vs k = some v ∧ getK ds k = some d ∧ Rel K p m H v d := by
  intro vs ds k r
  induction vs generalizing ds with
  | nil => cases r; exact .inl ⟨rfl, rfl⟩
  | cons x xs ih =>
    cases r with
    | @cons k' v d _ ds' r t =>
      by_cases e : k' = k
      · exact .inr ⟨v, d, by simp [valV, e], by simp [getK, e], r⟩
      · have e1 : valV ((k', v) :: xs) k = valV xs k := by simp [valV, e]
        have e2 : getK ((k', d) :: ds') k = getK ds' k := by simp [getK, e]
        rw [e1, e2]
        exact ih t
end
end PL
set_option Elab.async false
set_option linter.all false
set_option maxRecDepth 100000
set_option maxHeartbeats 2000000
namespace PL
open PySem L2

/-! ## the source of draws -/
def stK (g c : Addr) (l t : Int) : List (Key × V) := [(Sum.inr ("great" : Str), .ref g), (Sum.inr ("cells" : Str), .ref c), (Sum.inr ("left" : Str), .int l), (Sum.inr ("turn" : Str), .int t)]
structure StateAt (H : Hp) (p g c : Addr) : Prop where
  ex : ∃ (gs cs : List Int) (l t : Int), H p = some (.dK (stK g c l t)) ∧ H g = some (.lst (gs.map V.int)) ∧ H c = some (.lst (cs.map V.int)) ∧ 0 ≤ t ∧ gs.length ≤ 63 ∧ cs.length ≤ 63
  gc : g ≠ c
/-- how often the source was blended -/
def tn (p : Addr) (H : Hp) : Nat := match H p with
  | some (.dK [_, _, _, (_, .int t)]) => t.toNat
  | _ => 0
theorem tn_eq {H H' : Hp} {p : Addr} (h : H' p = H p) : tn p H' = tn p H := by unfold tn; rw [h]
/-- more blends than any law makes -/
def MAXT : Nat := 2 ^ 1000000
theorem StateAt.tn_keep {H H' : Hp} {p g c : Addr} (S : StateAt H p g c) (k : ∀ b u, H b = some u → b = p → H' b = some u) : tn p H' = tn p H := by
  obtain ⟨gs, cs, l, t, h1, _⟩ := S.ex
  exact tn_eq ((k _ _ h1 rfl).trans h1.symm)
theorem StateAt.keep {H H' : Hp} {p g c : Addr} (S : StateAt H p g c) (k : ∀ b u, H b = some u → (b = p ∨ b = g ∨ b = c) → H' b = some u) : StateAt H' p g c := by
  obtain ⟨gs, cs, l, t, h1, h2, h3, r⟩ := S.ex
  exact ⟨⟨gs, cs, l, t, k _ _ h1 (.inl rfl), k _ _ h2 (.inr (.inl rfl)), k _ _ h3 (.inr (.inr rfl)), r⟩, S.gc⟩
theorem StateAt.p_ne_g {H : Hp} {p g c : Addr} (S : StateAt H p g c) : p ≠ g := by
  obtain ⟨gs, cs, l, t, h1, h2, h3, r⟩ := S.ex
  exact ne_of h1 h2 (by intro z; cases z)
theorem StateAt.p_ne_c {H : Hp} {p g c : Addr} (S : StateAt H p g c) : p ≠ c := by
  obtain ⟨gs, cs, l, t, h1, h2, h3, r⟩ := S.ex
  exact ne_of h1 h3 (by intro z; cases z)
theorem StateAt.some {H : Hp} {p g c b : Addr} (S : StateAt H p g c) (h : b = p ∨ b = g ∨ b = c) : ∃ u, H b = some u := by
  obtain ⟨gs, cs, l, t, h1, h2, h3, r⟩ := S.ex
  rcases h with rfl | rfl | rfl
  · exact ⟨_, h1⟩
  · exact ⟨_, h2⟩
  · exact ⟨_, h3⟩

/-! ## a frame over plain data -/
inductive En where
  | un | val (d : D) | own (xs : List D)
abbrev Rho := List En
/-- where a frame began: the source's addresses, what its callers may change, the heap at its entry -/
structure Fc where
  p : Addr
  g : Addr
  c : Addr
  m0 : Addr → Prop
  H0 : Hp
def mm (F : Fc) (os : List (Option Addr)) (a : Addr) : Prop := F.m0 a ∨ Option.some a ∈ os
/-- what stands behind every step -/
structure Base (F : Fc) (H : Hp) : Prop where
  st : StateAt H F.p F.g F.c
  st0 : StateAt F.H0 F.p F.g F.c
  keep : ∀ b u, F.H0 b = some u → b ≠ F.p → b ≠ F.g → H b = some u
  mt : ∀ b, F.m0 b → ∃ u, F.H0 b = some u
  mp : F.m0 F.p
  mg : F.m0 F.g
  mc : ¬ F.m0 F.c
def SlotOk (K : PySem.W.Frag) (F : Fc) (os : List (Option Addr)) (H : Hp) : En → Option (Option V) → Option (Option Addr) → Prop
  | .un, _, o => o = some none
  | .val d, v, o => (∃ x, v = some (some x) ∧ Rel K F.p (mm F os) H x d) ∧ o = some none
  | .own xs, v, o => ∃ a vs, v = some (some (.ref a)) ∧ o = some (some a) ∧ H a = some (.lst vs) ∧ RelL K F.p (mm F os) H vs xs
structure Fm (K : PySem.W.Frag) (F : Fc) (os : List (Option Addr)) (ρ : Rho) (σ : St) (H : Hp) : Prop where
  b : Base F H
  slots : ∀ (i : Nat) (e : En), ρ[i]? = some e → SlotOk K F os H e σ[i]? os[i]?
  fresh : ∀ (i : Nat) (a : Addr), os[i]? = some (some a) → F.H0 a = none
  own : ∀ (i : Nat) (a : Addr), os[i]? = some (some a) → ∃ vs, H a = some (.lst vs)
  inj : ∀ (i j : Nat) (a : Addr), os[i]? = some (some a) → os[j]? = some (some a) → i = j
  len : ρ.length = σ.length
  leno : os.length = σ.length

section
variable {K : PySem.W.Frag} {F : Fc} {os : List (Option Addr)} {ρ : Rho} {σ : St} {H H' : Hp}
theorem mem_os {os : List (Option Addr)} {a : Addr} (h : some a ∈ os) : ∃ i : Nat, os[i]? = some (some a) := by
  obtain ⟨i, hi, e⟩ := List.getElem_of_mem h
  exact ⟨i, by rw [List.getElem?_eq_getElem hi, e]⟩
theorem Fm.tr (h : Fm K F os ρ σ H) {a : Addr} (ha : mm F os a) : ∃ u, H a = some u := by
  rcases ha with ha | ha
  · obtain ⟨u, hu⟩ := h.b.mt a ha
    by_cases e1 : a = F.p
    · exact h.b.st.some (.inl e1)
    · by_cases e2 : a = F.g
      · exact h.b.st.some (.inr (.inl e2))
      · exact ⟨u, h.b.keep _ _ hu e1 e2⟩
  · obtain ⟨i, e⟩ := mem_os ha
    obtain ⟨vs, hv⟩ := h.own i a e
    exact ⟨_, hv⟩
theorem Fm.new (h : Fm K F os ρ σ H) {a : Addr} (hn : H a = none) : ¬ mm F os a := fun z => by
  obtain ⟨u, e⟩ := h.tr z
  rw [hn] at e; cases e
theorem Fm.new0 (h : Base F H) {a : Addr} (hn : H a = none) : F.H0 a = none := by
  cases e : F.H0 a with
  | none => rfl
  | some u =>
    by_cases e1 : a = F.p
    · obtain ⟨u, e2⟩ := h.st.some (.inl e1); rw [hn] at e2; cases e2
    · by_cases e2 : a = F.g
      · obtain ⟨u, e2⟩ := h.st.some (.inr (.inl e2)); rw [hn] at e2; cases e2
      · rw [h.keep _ _ e e1 e2] at hn; cases hn
theorem Base.same (h : Base F H) (s : Same H H') : Base F H' where
  st := h.st.keep fun b u e _ => s b u e
  st0 := h.st0
  keep := fun b u e h1 h2 => s b u (h.keep b u e h1 h2)
  mt := h.mt
  mp := h.mp
  mg := h.mg
  mc := h.mc
theorem SlotOk.gr (gr : Gr (mm F os) H H') (ho : ∀ a vs, some a ∈ os → H a = some (.lst vs) → H' a = some (.lst vs)) {e : En} {v : Option (Option V)} {o : Option (Option Addr)} (hos : ∀ a, o = some (some a) → some a ∈ os) (h : SlotOk K F os H e v o) : SlotOk K F os H' e v o := by
  cases e with
  | un => exact h
  | val d => obtain ⟨⟨x, h1, h2⟩, h3⟩ := h; exact ⟨⟨x, h1, h2.gr gr⟩, h3⟩
  | own xs => obtain ⟨a, vs, h1, h2, h3, h4⟩ := h; exact ⟨a, vs, h1, h2, ho a vs (hos a h2) h3, h4.gr gr⟩
theorem os_mem {os : List (Option Addr)} {i : Nat} {a : Addr} (h : os[i]? = some (some a)) : some a ∈ os := by
  obtain ⟨hi, e⟩ := List.getElem?_eq_some_iff.mp h
  rw [← e]; exact List.getElem_mem hi
/-- the heap changes at the source alone (a call), or grows -/
theorem Fm.call (h : Fm K F os ρ σ H) (st : StateAt H' F.p F.g F.c) (k : ∀ b u, H b = some u → b ≠ F.p → b ≠ F.g → H' b = some u) : Fm K F os ρ σ H' ∧ Gr (mm F os) H H' := by
  have gr : Gr (mm F os) H H' := fun b u e n => k b u e (fun z => n (.inl (z ▸ h.b.mp))) (fun z => n (.inl (z ▸ h.b.mg)))
  have ow : ∀ a vs, some a ∈ os → H a = some (.lst vs) → H' a = some (.lst vs) := fun a vs ha e => by
    obtain ⟨i, ei⟩ := mem_os ha
    have f := h.fresh i a ei
    refine k a _ e (fun z => ?_) (fun z => ?_)
    · obtain ⟨u, q⟩ := h.b.st0.some (.inl z); rw [f] at q; cases q
    · obtain ⟨u, q⟩ := h.b.st0.some (.inr (.inl z)); rw [f] at q; cases q
  exact ⟨⟨⟨st, h.b.st0, fun b u e h1 h2 => k b u (h.b.keep b u e h1 h2) h1 h2, h.b.mt, h.b.mp, h.b.mg, h.b.mc⟩, fun i e q => (h.slots i e q).gr gr ow (fun a z => os_mem z), h.fresh, fun i a z => let ⟨vs, q⟩ := h.own i a z; ⟨vs, ow a vs (os_mem z) q⟩, h.inj, h.len, h.leno⟩, gr⟩
theorem Fm.same (h : Fm K F os ρ σ H) (s : Same H H') : Fm K F os ρ σ H' := (h.call (h.b.same s).st fun b u e _ _ => s b u e).1
theorem same_new {H : Hp} {p : Addr} {o : HO} (h : H p = none) : Same H (upd H p o) := fun a u e => by
  rw [upd_ne (ne_of_none e h)]; exact e
end

/-- what an expression may do: new things, and the source turns, at most C times -/
structure Kp (C : Nat) (F : Fc) (H H' : Hp) : Prop where
  st : StateAt H' F.p F.g F.c
  k : ∀ b u, H b = some u → b ≠ F.p → b ≠ F.g → H' b = some u
  tb : tn F.p H' ≤ tn F.p H + C
section
variable {F : Fc} {H H' H1 H2 : Hp} {C C' : Nat}
theorem Kp.trans (a : Kp C F H H1) (b : Kp C' F H1 H2) : Kp (C + C') F H H2 := ⟨b.st, fun c u e h1 h2 => b.k c u (a.k c u e h1 h2) h1 h2, by have := a.tb; have := b.tb; omega⟩
theorem Kp.le (a : Kp C F H H1) (h : C ≤ C') : Kp C' F H H1 := ⟨a.st, a.k, by have := a.tb; omega⟩
theorem Kp.of (st : StateAt H F.p F.g F.c) (s : Same H H') : Kp 0 F H H' := ⟨st.keep fun b u e _ => s b u e, fun b u e _ _ => s b u e, by rw [st.tn_keep fun b u e _ => s b u e]; omega⟩
theorem Kp.refl (st : StateAt H F.p F.g F.c) : Kp 0 F H H := .of st (Same.refl H)
theorem Kp.trans0 (a : Kp C F H H1) (b : Kp 0 F H1 H2) : Kp C F H H2 := (a.trans b).le (by omega)
variable {K : PySem.W.Frag} {os : List (Option Addr)} {ρ : Rho} {σ : St}
theorem Fm.gr (f : Fm K F os ρ σ H1) (k : Kp C F H H') : Gr (mm F os) H H' := fun b u e n => k.k b u e (fun z => n (.inl (z ▸ f.b.mp))) (fun z => n (.inl (z ▸ f.b.mg)))
theorem Fm.kp (f : Fm K F os ρ σ H) (k : Kp C F H H') : Fm K F os ρ σ H' := (f.call k.st k.k).1
theorem Fm.g2 (f : Fm K F os ρ σ H1) (k : Kp C F H H') : G2 (mm F os) H (mm F os) H' := (f.gr k).g2
theorem Fm.id (f : Fm K F os ρ σ H) : Kp 0 F H H := .refl f.b.st
end

/-! ## readings over data -/
/-- what is wanted of an error: its class, its attributes -/
abbrev Xr := Value → List (Str × D) → Prop
abbrev WE := Rho → (D → Prop) → Xr → Prop
abbrev WT := Rho → (Bool → Prop) → Xr → Prop
abbrev WA := Rho → (List D → Prop) → Xr → Prop
structure WEnds where
  nx : Rho → Prop
  rt : D → Prop
  ex : Rho → Xr := fun _ _ _ => False
  bk : Rho → Prop := fun _ => False
  ct : Rho → Prop := fun _ => False
abbrev WS := WEnds → Rho → Prop
inductive RelF (K : PySem.W.Frag) (p : Addr) (m : Addr → Prop) (H : Hp) : List (Str × V) → List (Str × D) → Prop
  | nil : RelF K p m H [] []
  | cons {k : Str} {v : V} {d : D} {vs : List (Str × V)} {ds : List (Str × D)} : Rel K p m H v d → RelF K p m H vs ds → RelF K p m H ((k, v) :: vs) ((k, d) :: ds)
/-- an error's own dict -/
def XnAt (K : PySem.W.Frag) (p : Addr) (m : Addr → Prop) (H : Hp) (d : Option Addr) (as : List (Str × D)) : Prop :=
  match d with
  | none => as = []
  | some a => ∃ fs, H a = some (.xd fs) ∧ ¬ m a ∧ RelF K p m H fs as
theorem RelF.mono {K : PySem.W.Frag} {p : Addr} {m m' : Addr → Prop} {H H' : Hp} (g : Gr m H H') (hm : ∀ a, m' a → m a) {fs : List (Str × V)} {as : List (Str × D)} (r : RelF K p m H fs as) : RelF K p m' H' fs as := by
  induction r with
  | nil => exact .nil
  | cons r _ ih => exact .cons (r.mono g hm) ih
theorem XnAt.mono {K : PySem.W.Frag} {p : Addr} {m m' : Addr → Prop} {H H' : Hp} (g : Gr m H H') (hm : ∀ a, m' a → m a) {d : Option Addr} {as : List (Str × D)} (r : XnAt K p m H d as) : XnAt K p m' H' d as := by
  cases d with
  | none => exact r
  | some a => obtain ⟨fs, h1, h2, h3⟩ := r; exact ⟨fs, g _ _ h1 h2, fun z => h2 (hm _ z), h3.mono g hm⟩
/-- there is room for so many blends -/
def Bd (C : Nat) (F : Fc) (H : Hp) : Prop := tn F.p H + C ≤ MAXT
theorem Bd.le {C C' : Nat} {F : Fc} {H : Hp} (b : Bd C F H) (h : C' ≤ C) : Bd C' F H := by unfold Bd at *; omega
theorem Bd.l {C C' : Nat} {F : Fc} {H : Hp} (b : Bd (C + C') F H) : Bd C F H := b.le (by omega)
theorem Bd.r {C C' : Nat} {F : Fc} {H H' : Hp} (b : Bd (C + C') F H) (k : Kp C F H H') : Bd C' F H' := by have := k.tb; unfold Bd at *; omega
def tW (K : PySem.W.Frag) (F : Fc) (W : WX) (C : Nat) (w : WE) : TE := fun σ H Q => ∃ os ρ P R, Fm K F os ρ σ H ∧ Bd C F H ∧ w ρ P R ∧ (∀ H' v d, Fm K F os ρ σ H' → Kp C F H H' → Rel K F.p (mm F os) H' v d → P d → Q v H') ∧
  ∀ H' c d as, Fm K F os ρ σ H' → Kp C F H H' → XnAt K F.p (mm F os) H' d as → R c as → W c d σ H'
def tWT (K : PySem.W.Frag) (F : Fc) (W : WX) (C : Nat) (w : WT) : TT := fun σ H Q => ∃ os ρ P R, Fm K F os ρ σ H ∧ Bd C F H ∧ w ρ P R ∧ (∀ H' b, Fm K F os ρ σ H' → Kp C F H H' → P b → Q b H') ∧
  ∀ H' c d as, Fm K F os ρ σ H' → Kp C F H H' → XnAt K F.p (mm F os) H' d as → R c as → W c d σ H'
def tWA (K : PySem.W.Frag) (F : Fc) (W : WX) (C : Nat) (w : WA) : TA := fun σ H Q => ∃ os ρ P R, Fm K F os ρ σ H ∧ Bd C F H ∧ w ρ P R ∧ (∀ H' vs ds, Fm K F os ρ σ H' → Kp C F H H' → RelL K F.p (mm F os) H' vs ds → P ds → Q vs H') ∧
  ∀ H' c d as, Fm K F os ρ σ H' → Kp C F H H' → XnAt K F.p (mm F os) H' d as → R c as → W c d σ H'
/-- behind a statement -/
structure Af (C : Nat) (F : Fc) (os : List (Option Addr)) (H : Hp) (os' : List (Option Addr)) (H' : Hp) : Prop where
  g : G2 (mm F os) H (mm F os') H'
  tb : tn F.p H' ≤ tn F.p H + C
theorem Af.trans {C C' : Nat} {F : Fc} {os os1 os2 : List (Option Addr)} {H H1 H2 : Hp} (a : Af C F os H os1 H1) (b : Af C' F os1 H1 os2 H2) : Af (C + C') F os H os2 H2 := ⟨a.g.trans b.g, by have := a.tb; have := b.tb; omega⟩
theorem Af.le {C C' : Nat} {F : Fc} {os os1 : List (Option Addr)} {H H1 : Hp} (a : Af C F os H os1 H1) (h : C ≤ C') : Af C' F os H os1 H1 := ⟨a.g, by have := a.tb; omega⟩
theorem Af.refl {F : Fc} {os : List (Option Addr)} {H : Hp} : Af 0 F os H os H := ⟨G2.refl, by omega⟩
theorem Af.of {F : Fc} {os os' : List (Option Addr)} {H : Hp} (g : G2 (mm F os) H (mm F os') H) : Af 0 F os H os' H := ⟨g, by omega⟩
theorem Af.kp {K : PySem.W.Frag} {C : Nat} {F : Fc} {os : List (Option Addr)} {ρ : Rho} {σ : St} {H H' H1 : Hp} (f : Fm K F os ρ σ H1) (k : Kp C F H H') : Af C F os H os H' := ⟨f.g2 k, k.tb⟩
theorem Bd.af {C C' : Nat} {F : Fc} {os os' : List (Option Addr)} {H H' : Hp} (b : Bd (C + C') F H) (a : Af C F os H os' H') : Bd C' F H' := by have := a.tb; unfold Bd at *; omega
def tWS (K : PySem.W.Frag) (F : Fc) (W : WX) (C : Nat) (w : WS) : TS := fun D σ H => ∃ os ρ B, Fm K F os ρ σ H ∧ Bd C F H ∧ w B ρ ∧ (∀ os' ρ' σ' H', Fm K F os' ρ' σ' H' → Af C F os H os' H' → B.nx ρ' → D.nx σ' H') ∧ (∀ os' ρ' σ' H', Fm K F os' ρ' σ' H' → Af C F os H os' H' → B.bk ρ' → D.bk σ' H') ∧
  (∀ os' ρ' σ' H', Fm K F os' ρ' σ' H' → Af C F os H os' H' → B.ct ρ' → D.ct σ' H') ∧ (∀ H' v d, PL.Base F H' → tn F.p H' ≤ tn F.p H + C → Rel K F.p F.m0 H' v d → B.rt d → D.rt v H') ∧
  ∀ os' ρ' σ' H' c d as, Fm K F os' ρ' σ' H' → Af C F os H os' H' → XnAt K F.p (mm F os') H' d as → B.ex ρ' c as → W c d σ' H'
abbrev DE (X : Cx) (F : Fc) (W : WX) (C : Nat) (e : Expr) (w : WE) : Prop := PE X e (tW X.K F W C w)
abbrev DT (X : Cx) (F : Fc) (W : WX) (C : Nat) (e : Expr) (w : WT) : Prop := PT X e (tWT X.K F W C w)
abbrev DW (X : Cx) (F : Fc) (W : WX) (C : Nat) (e : Expr) (w : WT) : Prop := PW X e (tWT X.K F W C w)
abbrev DA (X : Cx) (F : Fc) (W : WX) (C : Nat) (es : List Expr) (w : WA) : Prop := PA X es (tWA X.K F W C w)
abbrev DS (X : Cx) (F : Fc) (W : WX) (C : Nat) (st : Stmt) (w : WS) : Prop := PS X st (tWS X.K F W C w)
abbrev DSs (X : Cx) (F : Fc) (W : WX) (C : Nat) (sts : List Stmt) (w : WS) : Prop := PSs X sts (tWS X.K F W C w)
theorem pe_wk {X : Cx} {e : Expr} {t t' : TE} (h : PE X e t) (k : ∀ σ H Q, t' σ H Q → t σ H Q) : PE X e t' := ⟨fun pins s σ H Q I q => h.run pins s σ H Q I (k _ _ _ q)⟩
theorem pt_wk {X : Cx} {e : Expr} {t t' : TT} (h : PT X e t) (k : ∀ σ H Q, t' σ H Q → t σ H Q) : PT X e t' := ⟨fun pins s σ H Q I q => h.run pins s σ H Q I (k _ _ _ q)⟩
theorem pw_wk {X : Cx} {e : Expr} {t t' : TT} (h : PW X e t) (k : ∀ σ H Q, t' σ H Q → t σ H Q) : PW X e t' := ⟨fun wh pins s σ H Q I q => h.run wh pins s σ H Q I (k _ _ _ q)⟩
theorem pa_wk {X : Cx} {e : List Expr} {t t' : TA} (h : PA X e t) (k : ∀ σ H Q, t' σ H Q → t σ H Q) : PA X e t' := ⟨fun pos pins s σ H Q I q => h.run pos pins s σ H Q I (k _ _ _ q)⟩
theorem ps_wk {X : Cx} {e : Stmt} {t t' : TS} (h : PS X e t) (k : ∀ D σ H, t' D σ H → t D σ H) : PS X e t' := ⟨fun pins s σ H D I q => h.run pins s σ H D I (k _ _ _ q)⟩
theorem pss_wk {X : Cx} {e : List Stmt} {t t' : TS} (h : PSs X e t) (k : ∀ D σ H, t' D σ H → t D σ H) : PSs X e t' := ⟨fun pins s σ H D I q => h.run pins s σ H D I (k _ _ _ q)⟩

/-! ## names, constants -/
section
variable {X : Cx} {F : Fc} {W : WX} {C C1 C2 C3 : Nat} {pos : Pos}
def wVar (i : Nat) : WE := fun ρ P _ => ∃ d, ρ[i]? = some (.val d) ∧ P d
def wC (d : D) : WE := fun _ P _ => P d
theorem dv (i : Nat) {x : Str} (hN : X.N[i]? = some x := by rfl) (hv : Vis X.env.scope x := by first | exact Or.inl rfl | exact Or.inr (Or.inl rfl) | exact Or.inr (Or.inr rfl)) (hd : (x == ("__debug__" : Str)) = false := by decide)
    (hcd : (x == ("__classdict__" : Str)) = false := by decide) : DE X F W 0 (.Name x pos) (wVar i) := by
  refine pe_wk (pe_var hN hv hd hcd) fun σ H Q h => ?_
  obtain ⟨os, ρ, P, R, f, bd, ⟨d, e, hP⟩, k, _⟩ := h
  obtain ⟨⟨x, e1, r⟩, _⟩ := f.slots i _ e
  exact ⟨x, e1, k H x d f f.id r hP⟩
theorem dconst {e : Expr} {v : V} {d : D} (h : PE X e (tC v)) (r : ∀ p m H, Rel X.K p m H v d) : DE X F W 0 e (wC d) := by
  refine pe_wk h fun σ H Q h => ?_
  obtain ⟨os, ρ, P, R, f, bd, hP, k, _⟩ := h
  exact k H v d f f.id (r _ _ _) hP
theorem d_int {i j} : DE X F W 0 (.Constant (.int i) j pos) (wC (.int i)) := dconst pe_int fun _ _ _ => .int i
theorem d_bl {b j} : DE X F W 0 (.Constant (.bool b) j pos) (wC (.bl b)) := dconst pe_bl fun _ _ _ => .bl b
theorem d_non {j} : DE X F W 0 (.Constant .none j pos) (wC .non) := dconst pe_non fun _ _ _ => .non
theorem d_str {x j} : DE X F W 0 (.Constant (.str x) j pos) (wC (.str x)) := dconst pe_str fun _ _ _ => .str x
/-- a module's int, text, def -/
theorem d_gint {x : Str} {i : Int} (hg : Gl X x) (hm : ∃ t, X.mg x = some (.int i t)) (hd : (x == ("__debug__" : Str)) = false := by decide) : DE X F W 0 (.Name x pos) (wC (.int i)) := by
  obtain ⟨t, hm⟩ := hm
  exact dconst (v := .int i) (pe_glob hg hm ⟨t, rfl⟩ hd) fun _ _ _ => .int i
theorem d_gstr {x y : Str} (hg : Gl X x) (hm : ∃ t, X.mg x = some (.str y t)) (hd : (x == ("__debug__" : Str)) = false := by decide) : DE X F W 0 (.Name x pos) (wC (.str y)) := by
  obtain ⟨t, hm⟩ := hm
  exact dconst (v := .str y) (pe_glob hg hm ⟨t, rfl⟩ hd) fun _ _ _ => .str y
theorem d_gfn {x : Str} {a : Addr} (hg : Gl X x) (hm : X.mg x = some (.ref a)) (hd : (x == ("__debug__" : Str)) = false := by decide) : DE X F W 0 (.Name x pos) (wC (.fn a)) := dconst (v := .ref a) (pe_glob hg hm rfl hd) fun _ _ _ => .fn a
theorem d_bty {x : Str} {n : String} (hg : Gl X x) (hm : X.mg x = none) (hv : bootBuiltins x = some (.type n)) (hn : x ≠ "__name__" := by decide) (hd : (x == ("__debug__" : Str)) = false := by decide) : DE X F W 0 (.Name x pos) (wC (.ty n)) :=
  dconst (v := .ty n) (pe_bltn hg hm hv rfl hn hd) fun _ _ _ => .ty n

/-! ## operators by values -/
/-- a reading of values serves an operation on data -/
def SvOp (K : PySem.W.Frag) (r : R2) (wo : D → D → (D → Prop) → Prop) : Prop :=
  ∀ (p : Addr) (m : Addr → Prop) (H : Hp) (x y : V) (d e : D) (P : D → Prop) (Q : VK), Rel K p m H x d → Rel K p m H y e → (∀ a, H a = none → ¬ m a) → wo d e P → (∀ v H' z, Same H H' → Rel K p m H' v z → P z → Q v H') → r x y H Q
def SvUn (K : PySem.W.Frag) (r : V → Hp → VK → Prop) (wo : D → (D → Prop) → Prop) : Prop :=
  ∀ (p : Addr) (m : Addr → Prop) (H : Hp) (x : V) (d : D) (P : D → Prop) (Q : VK), Rel K p m H x d → (∀ a, H a = none → ¬ m a) → wo d P → (∀ v H' z, Same H H' → Rel K p m H' v z → P z → Q v H') → r x H Q
def SvC (K : PySem.W.Frag) (r : List V → Hp → VK → Prop) (wo : List D → (D → Prop) → Prop) : Prop :=
  ∀ (p : Addr) (m : Addr → Prop) (H : Hp) (xs : List V) (ds : List D) (P : D → Prop) (Q : VK), RelL K p m H xs ds → (∀ a, H a = none → ¬ m a) → wo ds P → (∀ v H' z, Same H H' → Rel K p m H' v z → P z → Q v H') → r xs H Q
def wOp (wo : D → D → (D → Prop) → Prop) (wa wb : WE) : WE := fun ρ P R => wa ρ (fun d => wb ρ (fun e => wo d e P) R) R
def wUn (wo : D → (D → Prop) → Prop) (wa : WE) : WE := fun ρ P R => wa ρ (fun d => wo d P) R
def wNil : WA := fun _ P _ => P []
def wCons (wa : WE) (wr : WA) : WA := fun ρ P R => wa ρ (fun d => wr ρ (fun ds => P (d :: ds)) R) R
def wCB (wo : List D → (D → Prop) → Prop) (wa : WA) : WE := fun ρ P R => wa ρ (fun ds => wo ds P) R
theorem tOp_wk {K : PySem.W.Frag} {r : R2} {wo : D → D → (D → Prop) → Prop} {wa wb : WE} (s : SvOp K r wo) {σ : St} {H : Hp} {Q : VK} (h : tW K F W (C1 + C2) (wOp wo wa wb) σ H Q) : tOp r (tW K F W C1 wa) (tW K F W C2 wb) σ H Q := by
  obtain ⟨os, ρ, P, R, f, bd, hw, k, kx⟩ := h
  refine ⟨os, ρ, _, R, f, bd.l, hw, fun H1 v1 d1 f1 g1 r1 h1 => ?_, fun H' c d as f' g' => kx H' c d as f' (g'.le (by omega))⟩
  refine ⟨os, ρ, _, R, f1, bd.r g1, h1, fun H2 v2 d2 f2 g2 r2 h2 => ?_, fun H' c d as f' g' => kx H' c d as f' (g1.trans g')⟩
  exact s _ _ _ _ _ _ _ _ _ (r1.gr (f1.gr g2)) r2 (fun a => f2.new) h2 fun v H' z sm rz hz => k H' v z (f2.same sm) ((g1.trans g2).trans0 (.of f2.b.st sm)) rz hz
theorem tUn_wk {K : PySem.W.Frag} {r : V → Hp → VK → Prop} {wo : D → (D → Prop) → Prop} {wa : WE} (s : SvUn K r wo) {σ : St} {H : Hp} {Q : VK} (h : tW K F W C (wUn wo wa) σ H Q) : tUn r (tW K F W C wa) σ H Q := by
  obtain ⟨os, ρ, P, R, f, bd, hw, k, kx⟩ := h
  refine ⟨os, ρ, _, R, f, bd, hw, fun H1 v1 d1 f1 g1 r1 h1 => ?_, kx⟩
  exact s _ _ _ _ _ _ _ r1 (fun a => f1.new) h1 fun v H' z sm rz hz => k H' v z (f1.same sm) (g1.trans0 (.of f1.b.st sm)) rz hz
theorem d_op {a b : Expr} {op : Operator} {r : R2} {wo : D → D → (D → Prop) → Prop} {wa wb : WE} (ho : OpR X (binaryOp op) r) (s : SvOp X.K r wo) (ha : DE X F W C1 a wa) (hb : DE X F W C2 b wb) : DE X F W (C1 + C2) (.BinOp a op b pos) (wOp wo wa wb) :=
  pe_wk (pe_op ho ha hb) fun _ _ _ h => tOp_wk s h
theorem d_cmp {a b : Expr} {op : CmpOp} {r : R2} {wo : D → D → (D → Prop) → Prop} {wa wb : WE} (ho : OpR X (compareOp op) r) (s : SvOp X.K r wo) (ha : DE X F W C1 a wa) (hb : DE X F W C2 b wb) (hm : behindInMarks op b = false) : DE X F W (C1 + C2) (.Compare a [op] [b] pos) (wOp wo wa wb) :=
  pe_wk (pe_cmpR ho ha hb hm) fun _ _ _ h => tOp_wk s h
theorem d_un {a : Expr} {op : UnaryOp} {r : V → Hp → VK → Prop} {wo : D → (D → Prop) → Prop} {wa : WE} (ho : UnR X (unaryOp op) r) (s : SvUn X.K r wo) (ha : DE X F W C a wa) : DE X F W C (.UnaryOp op a pos) (wUn wo wa) :=
  pe_wk (pe_un ho ha) fun _ _ _ h => tUn_wk s h
theorem d_ix {a b : Expr} {r : R2} {wo : D → D → (D → Prop) → Prop} {wa wb : WE} (hr : IxR X r) (s : SvOp X.K r wo) (ha : DE X F W C1 a wa) (hb : DE X F W C2 b wb) (hs : PlainIx b) : DE X F W (C1 + C2) (.Subscript a b pos) (wOp wo wa wb) :=
  pe_wk (pe_ix hr ha hb hs) fun _ _ _ h => tOp_wk s h
/-! ## arguments, displays, calls of built-ins -/
theorem da_nil : DA X F W 0 [] wNil := pa_wk pa_nil fun σ H Q h => by
  obtain ⟨os, ρ, P, R, f, bd, hw, k, _⟩ := h
  exact k H [] [] f f.id .nil hw
theorem tCons_wk {K : PySem.W.Frag} {wa : WE} {wr : WA} {σ : St} {H : Hp} {Q : List V → Hp → Prop} (h : tWA K F W (C1 + C2) (wCons wa wr) σ H Q) : tCons (tW K F W C1 wa) (tWA K F W C2 wr) σ H Q := by
  obtain ⟨os, ρ, P, R, f, bd, hw, k, kx⟩ := h
  refine ⟨os, ρ, _, R, f, bd.l, hw, fun H1 v1 d1 f1 g1 r1 h1 => ?_, fun H' c d as f' g' => kx H' c d as f' (g'.le (by omega))⟩
  refine ⟨os, ρ, _, R, f1, bd.r g1, h1, fun H2 vs ds f2 g2 r2 h2 => ?_, fun H' c d as f' g' => kx H' c d as f' (g1.trans g')⟩
  exact k H2 _ _ f2 (g1.trans g2) (.cons (r1.gr (f1.gr g2)) r2) h2
theorem da_cons {e : Expr} {es : List Expr} {wa : WE} {wr : WA} (ha : DE X F W C1 e wa) (hr : DA X F W C2 es wr) (hs : starEach (e :: es) X.env = (false, eval e X.env) :: starEach es X.env := by rfl) : DA X F W (C1 + C2) (e :: es) (wCons wa wr) :=
  pa_wk (pa_cons ha hr hs) fun σ H Q h => tCons_wk h
def wTup (wa : WA) : WE := fun ρ P R => wa ρ (fun ds => ds.length ≤ sizeLine ∧ P (.tup ds)) R
def wLst (wa : WA) : WE := fun ρ P R => wa ρ (fun ds => ds.length ≤ sizeLine ∧ P (.lst ds)) R
theorem d_tup {es : List Expr} {x1} {wa : WA} (h : DA X F W C es wa) : DE X F W C (.Tuple es x1 pos) (wTup wa) := pe_wk (pe_tup h) fun σ H Q h => by
  obtain ⟨os, ρ, P, R, f, bd, hw, k, kx⟩ := h
  refine ⟨os, ρ, _, R, f, bd, hw, fun H1 vs ds f1 g1 r1 h1 => ⟨by rw [r1.length]; exact h1.1, fun l hl => ?_⟩, kx⟩
  have sm : Same H1 (upd H1 l (.tup vs)) := same_new hl
  exact k _ _ _ (f1.same sm) (g1.trans0 (.of f1.b.st sm)) (.tup (.inl ⟨.inl upd_same, f1.new hl⟩) (r1.gr (.of sm))) h1.2
theorem d_lst {es : List Expr} {wa : WA} (h : DA X F W C es wa) : DE X F W C (.List es pos) (wLst wa) := pe_wk (pe_lst h) fun σ H Q h => by
  obtain ⟨os, ρ, P, R, f, bd, hw, k, kx⟩ := h
  refine ⟨os, ρ, _, R, f, bd, hw, fun H1 vs ds f1 g1 r1 h1 => ⟨by rw [r1.length]; exact h1.1, fun l hl => ?_⟩, kx⟩
  have sm : Same H1 (upd H1 l (.lst vs)) := same_new hl
  exact k _ _ _ (f1.same sm) (g1.trans0 (.of f1.b.st sm)) (.lst (.inl ⟨.inl upd_same, f1.new hl⟩) (r1.gr (.of sm))) h1.2
theorem tCB_wk {K : PySem.W.Frag} {r : List V → Hp → VK → Prop} {wo : List D → (D → Prop) → Prop} {wa : WA} (s : SvC K r wo) {σ : St} {H : Hp} {Q : VK} (h : tW K F W C (wCB wo wa) σ H Q) : tCB r (tWA K F W C wa) σ H Q := by
  obtain ⟨os, ρ, P, R, f, bd, hw, k, kx⟩ := h
  refine ⟨os, ρ, _, R, f, bd, hw, fun H1 v1 d1 f1 g1 r1 h1 => ?_, kx⟩
  exact s _ _ _ _ _ _ _ r1 (fun a => f1.new) h1 fun v H' z sm rz hz => k H' v z (f1.same sm) (g1.trans0 (.of f1.b.st sm)) rz hz
theorem d_callB {id : String} {x : Str} {p : Pos} {e : Expr} {es : List Expr} {r : List V → Hp → VK → Prop} {wo : List D → (D → Prop) → Prop} {wa : WA} (hc : CallR X (.builtin id) r) (s : SvC X.K r wo) (hg : Gl X x) (hm : X.mg x = none) (hv : bootBuiltins x = some (.builtin id)) (ha : DA X F W C (e :: es) wa) (hn : x ≠ "__name__" := by decide) (hdb : (x == ("__debug__" : Str)) = false := by decide)
    (he : starEach (e :: es) X.env = (false, eval e X.env) :: starEach es X.env := by rfl) (hpl : (backTo pos (starEach es X.env)).any (·.1) = false := by rfl) : DE X F W C (.Call (.Name x p) (e :: es) [] pos) (wCB wo wa) :=
  pe_wk (pe_callB hc hg hm hv ha hn hdb he hpl) fun _ _ _ h => tCB_wk s h
theorem d_callTy {T : String} {x : Str} {p : Pos} {e : Expr} {es : List Expr} {r : List V → Hp → VK → Prop} {wo : List D → (D → Prop) → Prop} {wa : WA} (hc : CallR X (.type T) r) (s : SvC X.K r wo) (hg : Gl X x) (hm : X.mg x = none) (hv : bootBuiltins x = some (.type T)) (ha : DA X F W C (e :: es) wa) (hn : x ≠ "__name__" := by decide) (hdb : (x == ("__debug__" : Str)) = false := by decide)
    (he : starEach (e :: es) X.env = (false, eval e X.env) :: starEach es X.env := by rfl) (hpl : (backTo pos (starEach es X.env)).any (·.1) = false := by rfl) : DE X F W C (.Call (.Name x p) (e :: es) [] pos) (wCB wo wa) :=
  pe_wk (pe_callTy hc hg hm hv ha hn hdb he hpl) fun _ _ _ h => tCB_wk s h
/-! ## and, or, not, if, tests -/
/-- to go on behind a part -/
theorem go_on {K : PySem.W.Frag} {os : List (Option Addr)} {ρ : Rho} {σ : St} {H H1 : Hp} {P : D → Prop} {R : Xr} {Q : VK} {w : WE} (bd : Bd (C1 + C2) F H) (g1 : Kp C1 F H H1) (f1 : Fm K F os ρ σ H1) (h1 : w ρ P R)
    (k : ∀ H' v d, Fm K F os ρ σ H' → Kp (C1 + C2) F H H' → Rel K F.p (mm F os) H' v d → P d → Q v H') (kx : ∀ H' c d as, Fm K F os ρ σ H' → Kp (C1 + C2) F H H' → XnAt K F.p (mm F os) H' d as → R c as → W c d σ H') : tW K F W C2 w σ H1 Q :=
  ⟨os, ρ, P, R, f1, bd.r g1, h1, fun H' v d f' g' => k H' v d f' (g1.trans g'), fun H' c d as f' g' => kx H' c d as f' (g1.trans g')⟩
theorem go_onT {K : PySem.W.Frag} {os : List (Option Addr)} {ρ : Rho} {σ : St} {H H1 : Hp} {P : Bool → Prop} {R : Xr} {Q : Bool → Hp → Prop} {w : WT} (bd : Bd (C1 + C2) F H) (g1 : Kp C1 F H H1) (f1 : Fm K F os ρ σ H1) (h1 : w ρ P R)
    (k : ∀ H' b, Fm K F os ρ σ H' → Kp (C1 + C2) F H H' → P b → Q b H') (kx : ∀ H' c d as, Fm K F os ρ σ H' → Kp (C1 + C2) F H H' → XnAt K F.p (mm F os) H' d as → R c as → W c d σ H') : tWT K F W C2 w σ H1 Q :=
  ⟨os, ρ, P, R, f1, bd.r g1, h1, fun H' b f' g' => k H' b f' (g1.trans g'), fun H' c d as f' g' => kx H' c d as f' (g1.trans g')⟩
def wAndV (wa wb : WE) : WE := fun ρ P R => wa ρ (fun d => ∃ c, d = .bl c ∧ if c = true then wb ρ P R else P (.bl false)) R
def wOrV (wa wb : WE) : WE := fun ρ P R => wa ρ (fun d => ∃ c, d = .bl c ∧ if c = true then P (.bl true) else wb ρ P R) R
def wNotV (wa : WE) : WE := fun ρ P R => wa ρ (fun d => ∃ c, d = .bl c ∧ P (.bl (!c))) R
def wIfE (wt : WT) (wa wb : WE) : WE := fun ρ P R => wt ρ (fun c => if c = true then wa ρ P R else wb ρ P R) R
theorem d_one {op} {a : Expr} {wa : WE} (h : DE X F W C a wa) : DE X F W C (.BoolOp op [a] pos) wa := pe_one h
theorem d_and {a b : Expr} {rest : List Expr} {wa wb : WE} (ha : DE X F W C1 a wa) (hb : DE X F W C2 (.BoolOp .And (b :: rest) pos) wb) : DE X F W (C1 + C2) (.BoolOp .And (a :: b :: rest) pos) (wAndV wa wb) :=
  pe_wk (pe_and ha hb) fun σ H Q h => by
    obtain ⟨os, ρ, P, R, f, bd, hw, k, kx⟩ := h
    refine ⟨os, ρ, _, R, f, bd.l, hw, fun H1 v1 d1 f1 g1 r1 h1 => ?_, fun H' c d as f' g' => kx H' c d as f' (g'.le (by omega))⟩
    obtain ⟨c, rfl, h1⟩ := h1
    cases r1
    refine ⟨c, rfl, ?_⟩
    cases c with
    | true => exact iteT (go_on bd g1 f1 h1 k kx)
    | false => exact iteF (k H1 _ _ f1 (g1.le (by omega)) (.bl false) h1)
theorem d_or {a b : Expr} {rest : List Expr} {wa wb : WE} (ha : DE X F W C1 a wa) (hb : DE X F W C2 (.BoolOp .Or (b :: rest) pos) wb) : DE X F W (C1 + C2) (.BoolOp .Or (a :: b :: rest) pos) (wOrV wa wb) :=
  pe_wk (pe_or ha hb) fun σ H Q h => by
    obtain ⟨os, ρ, P, R, f, bd, hw, k, kx⟩ := h
    refine ⟨os, ρ, _, R, f, bd.l, hw, fun H1 v1 d1 f1 g1 r1 h1 => ?_, fun H' c d as f' g' => kx H' c d as f' (g'.le (by omega))⟩
    obtain ⟨c, rfl, h1⟩ := h1
    cases r1
    refine ⟨c, rfl, ?_⟩
    cases c with
    | true => exact iteT (k H1 _ _ f1 (g1.le (by omega)) (.bl true) h1)
    | false => exact iteF (go_on bd g1 f1 h1 k kx)
theorem d_not {a : Expr} {wa : WE} (ha : DE X F W C a wa) : DE X F W C (.UnaryOp .Not a pos) (wNotV wa) :=
  pe_wk (pe_not ha) fun σ H Q h => by
    obtain ⟨os, ρ, P, R, f, bd, hw, k, kx⟩ := h
    refine ⟨os, ρ, _, R, f, bd, hw, fun H1 v1 d1 f1 g1 r1 h1 => ?_, kx⟩
    obtain ⟨c, rfl, h1⟩ := h1
    cases r1
    exact ⟨c, rfl, k H1 _ _ f1 g1 (.bl _) h1⟩
theorem tIf_wk {K : PySem.W.Frag} {wt : WT} {wa wb : WE} {σ : St} {H : Hp} {Q : VK} (h : tW K F W (C1 + (C2 + C3)) (wIfE wt wa wb) σ H Q) : tIf (tWT K F W C1 wt) (tW K F W C2 wa) (tW K F W C3 wb) σ H Q := by
  obtain ⟨os, ρ, P, R, f, bd, hw, k, kx⟩ := h
  refine ⟨os, ρ, _, R, f, bd.l, hw, fun H1 c f1 g1 h1 => ?_, fun H' c d as f' g' => kx H' c d as f' (g'.le (by omega))⟩
  cases c with
  | true => exact iteT (go_on (C2 := C2) (bd.le (by omega)) g1 f1 h1 (fun H' v d f' g' => k H' v d f' (g'.le (by omega))) fun H' c d as f' g' => kx H' c d as f' (g'.le (by omega)))
  | false => exact iteF (go_on (C2 := C3) (bd.le (by omega)) g1 f1 h1 (fun H' v d f' g' => k H' v d f' (g'.le (by omega))) fun H' c d as f' g' => kx H' c d as f' (g'.le (by omega)))
theorem d_ifE {c a b : Expr} {wt : WT} {wa wb : WE} (hc : DT X F W C1 c wt) (ha : DE X F W C2 a wa) (hb : DE X F W C3 b wb) : DE X F W (C1 + (C2 + C3)) (.IfExp c a b pos) (wIfE wt wa wb) :=
  pe_wk (pe_ifExp hc ha hb) fun _ _ _ h => tIf_wk h
/-- tests -/
def wAnd (wa wb : WT) : WT := fun ρ P R => wa ρ (fun c => if c = true then wb ρ P R else P false) R
def wOr (wa wb : WT) : WT := fun ρ P R => wa ρ (fun c => if c = true then P true else wb ρ P R) R
def wNot (wa : WT) : WT := fun ρ P R => wa ρ (fun c => P (!c)) R
def wTest (wa : WE) : WT := fun ρ P R => wa ρ (fun d => ∃ b, d = .bl b ∧ P b) R
/-- truth -/
def truth : D → Option Bool
  | .non => some false
  | .bl b => some b
  | .int i => some (i != 0)
  | .str x => if x.length ≤ sizeLine then some ((x.length : Int) != 0) else none
  | .tup xs => some (!xs.isEmpty)
  | .lst xs => some (!xs.isEmpty)
  | .dic xs => some (!xs.isEmpty)
  | _ => none
def wTru (wa : WE) : WT := fun ρ P R => wa ρ (fun d => ∃ b, truth d = some b ∧ P b) R
theorem dt_and1 {a : Expr} {wa : WT} (ha : DT X F W C a wa) : DW X F W C (.BoolOp .And [a] pos) wa := pw_and1 ha
theorem dt_or1 {a : Expr} {wa : WT} (ha : DT X F W C a wa) : DW X F W C (.BoolOp .Or [a] pos) wa := pw_or1 ha
theorem dt_and {a b : Expr} {rest : List Expr} {wa wb : WT} (ha : DT X F W C1 a wa) (hb : DW X F W C2 (.BoolOp .And (b :: rest) pos) wb) : DW X F W (C1 + C2) (.BoolOp .And (a :: b :: rest) pos) (wAnd wa wb) :=
  pw_wk (pw_and ha hb) fun σ H Q h => by
    obtain ⟨os, ρ, P, R, f, bd, hw, k, kx⟩ := h
    refine ⟨os, ρ, _, R, f, bd.l, hw, fun H1 c f1 g1 h1 => ?_, fun H' c d as f' g' => kx H' c d as f' (g'.le (by omega))⟩
    cases c with
    | true => exact iteT (go_onT bd g1 f1 h1 k kx)
    | false => exact iteF (k H1 _ f1 (g1.le (by omega)) h1)
theorem dt_or {a b : Expr} {rest : List Expr} {wa wb : WT} (ha : DT X F W C1 a wa) (hb : DW X F W C2 (.BoolOp .Or (b :: rest) pos) wb) : DW X F W (C1 + C2) (.BoolOp .Or (a :: b :: rest) pos) (wOr wa wb) :=
  pw_wk (pw_or ha hb) fun σ H Q h => by
    obtain ⟨os, ρ, P, R, f, bd, hw, k, kx⟩ := h
    refine ⟨os, ρ, _, R, f, bd.l, hw, fun H1 c f1 g1 h1 => ?_, fun H' c d as f' g' => kx H' c d as f' (g'.le (by omega))⟩
    cases c with
    | true => exact iteT (k H1 _ f1 (g1.le (by omega)) h1)
    | false => exact iteF (go_onT bd g1 f1 h1 k kx)
theorem dt_w {e : Expr} {w : WT} (h : DW X F W C e w) : DT X F W C e w := h.pt
theorem dt_not {a : Expr} {wa : WT} (ha : DT X F W C a wa) : DT X F W C (.UnaryOp .Not a pos) (wNot wa) :=
  pt_wk (pt_not ha) fun σ H Q h => by
    obtain ⟨os, ρ, P, R, f, bd, hw, k, kx⟩ := h
    exact ⟨os, ρ, _, R, f, bd, hw, fun H1 c f1 g1 h1 => k H1 _ f1 g1 h1, kx⟩
theorem tTest_wk {K : PySem.W.Frag} {wa : WE} {te : TE} (ht : ∀ σ H Q, tW K F W C wa σ H Q → te σ H Q) {σ : St} {H : Hp} {Q : Bool → Hp → Prop} (h : tWT K F W C (wTest wa) σ H Q) : tTest te σ H Q := by
  obtain ⟨os, ρ, P, R, f, bd, hw, k, kx⟩ := h
  refine ht _ _ _ ⟨os, ρ, _, R, f, bd, hw, fun H1 v1 d1 f1 g1 r1 h1 => ?_, kx⟩
  obtain ⟨b, rfl, h1⟩ := h1
  cases r1
  exact ⟨b, rfl, k H1 b f1 g1 h1⟩
theorem dt_cmp {a b : Expr} {op : CmpOp} {r : R2} {wo : D → D → (D → Prop) → Prop} {wa wb : WE} (ho : OpR X (compareOp op) r) (s : SvOp X.K r wo) (ha : DE X F W C1 a wa) (hb : DE X F W C2 b wb) (hm : behindInMarks op b = false) : DT X F W (C1 + C2) (.Compare a [op] [b] pos) (wTest (wOp wo wa wb)) :=
  pt_wk (pt_cmpR ho ha hb hm) fun _ _ _ h => tTest_wk (fun _ _ _ q => tOp_wk s q) h
theorem TruV_of {K : PySem.W.Frag} {p : Addr} {m : Addr → Prop} {H : Hp} {v : V} {d : D} (r : Rel K p m H v d) {b : Bool} (h : truth d = some b) : TruV K v H b := by
  cases r with
  | non => exact (Option.some.inj h).symm
  | bl _ => exact (Option.some.inj h).symm
  | int _ => exact (Option.some.inj h).symm
  | str x =>
    have e : truth (.str x) = if x.length ≤ sizeLine then some ((x.length : Int) != 0) else none := rfl
    rw [e] at h
    by_cases hx : x.length ≤ sizeLine
    · rw [if_pos hx] at h
      exact ⟨hx, (Option.some.inj h).symm⟩
    · rw [if_neg hx] at h
      cases h
  | @tup a vs ds n l =>
    refine .inr (.inl ⟨vs, n.elim (fun z => .inl z.1) .inr, ?_⟩)
    rw [← Option.some.inj h]; cases l <;> rfl
  | @lst a vs ds n l =>
    refine .inl ⟨vs, n.elim (fun z => .inl z.1) KL.sq, ?_⟩
    rw [← Option.some.inj h]; cases l <;> rfl
  | @dic a vs ds n _ l =>
    refine .inr (.inr ⟨vs, n, ?_⟩)
    rw [← Option.some.inj h]; cases l <;> rfl
  | tok => cases h
  | fn _ => cases h
  | ty _ => cases h
  | exc _ _ => cases h
theorem dt_tru {a : Expr} {wa : WE} (ha : DE X F W C a wa) (he : ∀ whole, PySem.isTrue a X.env whole = (do let v ← whole; standAt a.pos; holding [v] (truthy v)) := by intro _; rfl) : DT X F W C a (wTru wa) :=
  pt_wk (pt_truth ha he) fun σ H Q h => by
    obtain ⟨os, ρ, P, R, f, bd, hw, k, kx⟩ := h
    refine ⟨os, ρ, _, R, f, bd, hw, fun H1 v1 d1 f1 g1 r1 h1 => ?_, kx⟩
    obtain ⟨b, e, h1⟩ := h1
    exact ⟨b, TruV_of r1 e, k H1 b f1 g1 h1⟩
/-- chains -/
def wChain (wo wo' : D → D → (D → Prop) → Prop) (wa wb wc : WE) : WE := fun ρ P R => wa ρ (fun d => wb ρ (fun e => wo d e (fun z => ∃ k, z = .bl k ∧ if k = true then wc ρ (fun c => wo' e c P) R else P (.bl false))) R) R
theorem tChain_wk {K : PySem.W.Frag} {r r' : R2} {wo wo' : D → D → (D → Prop) → Prop} {wa wb wc : WE} (s : SvOp K r wo) (s' : SvOp K r' wo') {σ : St} {H : Hp} {Q : VK} (h : tW K F W (C1 + C2 + C3) (wChain wo wo' wa wb wc) σ H Q) : tChain r r' (tW K F W C1 wa) (tW K F W C2 wb) (tW K F W C3 wc) σ H Q := by
  obtain ⟨os, ρ, P, R, f, bd, hw, k, kx⟩ := h
  refine ⟨os, ρ, _, R, f, bd.l.l, hw, fun H1 v1 d1 f1 g1 r1 h1 => ?_, fun H' c d as f' g' => kx H' c d as f' (g'.le (by omega))⟩
  refine ⟨os, ρ, _, R, f1, bd.l.r g1, h1, fun H2 v2 d2 f2 g2 r2 h2 => ?_, fun H' c d as f' g' => kx H' c d as f' ((g1.trans g').le (by omega))⟩
  refine s _ _ _ _ _ _ _ _ _ (r1.gr (f1.gr g2)) r2 (fun a => f2.new) h2 fun v H' z sm rz hz => ?_
  obtain ⟨c, rfl, hz⟩ := hz
  cases rz
  refine ⟨c, rfl, ?_⟩
  have f3 := f2.same sm
  have g3 := (g1.trans g2).trans0 (.of f2.b.st sm)
  cases c with
  | true =>
    refine iteT ⟨os, ρ, _, R, f3, bd.r g3, hz, fun H4 v4 d4 f4 g4 r4 h4 => ?_, fun H' c d as f' g' => kx H' c d as f' (g3.trans g')⟩
    exact s' _ _ _ _ _ _ _ _ _ ((r2.gr (.of sm)).gr (f3.gr g4)) r4 (fun a => f4.new) h4 fun v H' z sm rz hz => k H' v z (f4.same sm) ((g3.trans g4).trans0 (.of f4.b.st sm)) rz hz
  | false => exact iteF (k H' _ _ f3 (g3.le (by omega)) (.bl false) hz)
theorem d_chain {a b c : Expr} {op op' : CmpOp} {r r' : R2} {wo wo' : D → D → (D → Prop) → Prop} {wa wb wc : WE} (ho : OpR X (compareOp op) r) (s : SvOp X.K r wo) (ho' : OpR X (compareOp op') r') (s' : SvOp X.K r' wo') (ha : DE X F W C1 a wa) (hb : DE X F W C2 b wb) (hc : DE X F W C3 c wc) (hm : lastMarks [op, op'] [b, c] = false := by rfl) :
    DE X F W (C1 + C2 + C3) (.Compare a [op, op'] [b, c] pos) (wChain wo wo' wa wb wc) := pe_wk (pe_chain ho ho' ha hb hc hm) fun _ _ _ h => tChain_wk s s' h
theorem dt_chain {a b c : Expr} {op op' : CmpOp} {r r' : R2} {wo wo' : D → D → (D → Prop) → Prop} {wa wb wc : WE} (ho : OpR X (compareOp op) r) (s : SvOp X.K r wo) (ho' : OpR X (compareOp op') r') (s' : SvOp X.K r' wo') (ha : DE X F W C1 a wa) (hb : DE X F W C2 b wb) (hc : DE X F W C3 c wc) (hm : lastMarks [op, op'] [b, c] = false := by rfl) :
    DT X F W (C1 + C2 + C3) (.Compare a [op, op'] [b, c] pos) (wTest (wChain wo wo' wa wb wc)) := pt_wk (pt_chain ho ho' ha hb hc hm) fun _ _ _ h => tTest_wk (fun _ _ _ q => tChain_wk s s' q) h
/-- at most as dear -/
theorem PE.dear {e : Expr} {w : WE} (h : DE X F W C e w) (hC : C ≤ C1) : DE X F W C1 e w := pe_wk h fun σ H Q h => by
  obtain ⟨os, ρ, P, R, f, bd, hw, k, kx⟩ := h
  exact ⟨os, ρ, P, R, f, bd.le hC, hw, fun H' v d f' g' => k H' v d f' (g'.le hC), fun H' c d as f' g' => kx H' c d as f' (g'.le hC)⟩
end
end PL
set_option Elab.async false
set_option linter.all false
set_option maxRecDepth 100000
set_option maxHeartbeats 2000000
namespace PL
open PySem L2
section
variable {K : PySem.W.Frag} {F : Fc} {W : WX} {os : List (Option Addr)} {ρ : Rho} {σ : St} {H H' : Hp}
theorem mm_set {i : Nat} {a : Addr} (h : mm F (os.set i none) a) : mm F os a := by
  rcases h with h | h
  · exact .inl h
  · refine .inr ?_
    rcases List.mem_or_eq_of_mem_set h with h | h
    · exact h
    · cases h
theorem Fm.set (f : Fm K F os ρ σ H) (i : Nat) {v : V} {d : D} (r : Rel K F.p (mm F os) H v d) : Fm K F (os.set i none) (ρ.set i (.val d)) (σ.set i (some v)) H where
  b := f.b
  slots := fun j e h => by
    by_cases e1 : j = i
    · subst e1
      have hj : j < ρ.length := by
        have := (List.getElem?_eq_some_iff.mp h).1
        simpa using this
      rw [List.getElem?_set_self hj] at h
      cases h
      rw [List.getElem?_set_self (by rw [← f.len]; exact hj), List.getElem?_set_self (by rw [f.leno, ← f.len]; exact hj)]
      exact ⟨⟨v, rfl, r.mono Gr.refl fun _ => mm_set⟩, rfl⟩
    · rw [List.getElem?_set_ne (Ne.symm e1)] at h
      rw [List.getElem?_set_ne (Ne.symm e1), List.getElem?_set_ne (Ne.symm e1)]
      have q := f.slots j e h
      cases e with
      | un => exact q
      | val d' => obtain ⟨⟨x, h1, h2⟩, h3⟩ := q; exact ⟨⟨x, h1, h2.mono Gr.refl fun _ => mm_set⟩, h3⟩
      | own xs => obtain ⟨a, vs, h1, h2, h3, h4⟩ := q; exact ⟨a, vs, h1, h2, h3, h4.mono Gr.refl fun _ => mm_set⟩
  fresh := fun j a h => f.fresh j a (by
    by_cases e1 : j = i
    · subst e1
      have hj := (List.getElem?_eq_some_iff.mp h).1
      rw [List.getElem?_set_self (by simpa using hj)] at h; cases h
    · rwa [List.getElem?_set_ne (Ne.symm e1)] at h)
  own := fun j a h => f.own j a (by
    by_cases e1 : j = i
    · subst e1
      have hj := (List.getElem?_eq_some_iff.mp h).1
      rw [List.getElem?_set_self (by simpa using hj)] at h; cases h
    · rwa [List.getElem?_set_ne (Ne.symm e1)] at h)
  inj := fun j k a h1 h2 => by
    have g : ∀ n : Nat, (os.set i none)[n]? = some (some a) → os[n]? = some (some a) := fun n h => by
      by_cases e1 : n = i
      · subst e1
        have hj := (List.getElem?_eq_some_iff.mp h).1
        rw [List.getElem?_set_self (by simpa using hj)] at h; cases h
      · rwa [List.getElem?_set_ne (Ne.symm e1)] at h
    exact f.inj j k a (g j h1) (g k h2)
  len := by simpa using f.len
  leno := by simpa using f.leno
theorem g2_set {i : Nat} : G2 (mm F os) H (mm F (os.set i none)) H := G2.less fun _ => mm_set
theorem Fm.out (f : Fm K F os ρ σ H) {v : V} {d : D} (r : Rel K F.p (mm F os) H v d) : Rel K F.p F.m0 H v d := r.mono Gr.refl fun _ h => .inl h

/-! ## blocks -/
variable {X : Cx} {C C1 C2 C3 : Nat} {pos : Pos}
def wNext : WS := fun B ρ => B.nx ρ
def wSeq (w1 w2 : WS) : WS := fun B ρ => w1 { B with nx := w2 B } ρ
theorem dss_nil : DSs X F W 0 [] wNext := pss_wk pss_nil fun D σ H h => by
  obtain ⟨os, ρ, B, f, bd, hw, k, _⟩ := h
  exact k os ρ σ H f .refl hw
/-- to go on behind a step of the frame -/
theorem go_onS {D : Ends} {B : WEnds} {os os1 : List (Option Addr)} {ρ1 : Rho} {σ1 : St} {H H1 : Hp} {w : WS} (bd : Bd (C1 + C2) F H) (a1 : Af C1 F os H os1 H1) (f1 : Fm K F os1 ρ1 σ1 H1) (h1 : w B ρ1)
    (k : ∀ os' ρ' σ' H', Fm K F os' ρ' σ' H' → Af (C1 + C2) F os H os' H' → B.nx ρ' → D.nx σ' H') (kb : ∀ os' ρ' σ' H', Fm K F os' ρ' σ' H' → Af (C1 + C2) F os H os' H' → B.bk ρ' → D.bk σ' H') (kc : ∀ os' ρ' σ' H', Fm K F os' ρ' σ' H' → Af (C1 + C2) F os H os' H' → B.ct ρ' → D.ct σ' H')
    (kr : ∀ H' v d, PL.Base F H' → tn F.p H' ≤ tn F.p H + (C1 + C2) → Rel K F.p F.m0 H' v d → B.rt d → D.rt v H') (kx : ∀ os' ρ' σ' H' c d as, Fm K F os' ρ' σ' H' → Af (C1 + C2) F os H os' H' → XnAt K F.p (mm F os') H' d as → B.ex ρ' c as → W c d σ' H') : tWS K F W C2 w D σ1 H1 :=
  ⟨os1, ρ1, B, f1, bd.af a1, h1, fun o r s h a b => k o r s h a (a1.trans b), fun o r s h a b => kb o r s h a (a1.trans b), fun o r s h a b => kc o r s h a (a1.trans b), fun h v d a b => kr h v d a (by have := a1.tb; omega), fun o r s h c d as a b => kx o r s h c d as a (a1.trans b)⟩
theorem tSeq_wk {w1 w2 : WS} {D : Ends} (h : tWS K F W (C1 + C2) (wSeq w1 w2) D σ H) : tSeq (tWS K F W C1 w1) (tWS K F W C2 w2) D σ H := by
  obtain ⟨os, ρ, B, f, bd, hw, k, kb, kc, kr, kx⟩ := h
  exact ⟨os, ρ, { B with nx := w2 B }, f, bd.l, hw, fun os' ρ' σ' H' f' g' h' => go_onS bd g' f' h' k kb kc kr kx, fun o r s h a b => kb o r s h a (b.le (by omega)), fun o r s h a b => kc o r s h a (b.le (by omega)), fun h v d a b => kr h v d a (by omega), fun o r s h c d as a b => kx o r s h c d as a (b.le (by omega))⟩
theorem dss_cons {st : Stmt} {rest : List Stmt} {w1 w2 : WS} (h1 : DS X F W C1 st w1) (h2 : DSs X F W C2 rest w2) : DSs X F W (C1 + C2) (st :: rest) (wSeq w1 w2) := pss_wk (pss_cons h1 h2) fun _ _ _ h => tSeq_wk h
theorem dss_one {st : Stmt} {w1 : WS} (h1 : DS X F W C st w1) : DSs X F W C [st] w1 := pss_one h1
def wBreak : WS := fun B ρ => B.bk ρ
def wCont : WS := fun B ρ => B.ct ρ
theorem ds_pass : DS X F W 0 (.Pass pos) wNext := ps_wk ps_pass fun D σ H h => by
  obtain ⟨os, ρ, B, f, bd, hw, k, _⟩ := h
  exact k os ρ σ H f .refl hw
theorem ds_break : DS X F W 0 (.Break pos) wBreak := ps_wk ps_break fun D σ H h => by
  obtain ⟨os, ρ, B, f, bd, hw, _, k, _⟩ := h
  exact k os ρ σ H f .refl hw
theorem ds_continue : DS X F W 0 (.Continue pos) wCont := ps_wk ps_continue fun D σ H h => by
  obtain ⟨os, ρ, B, f, bd, hw, _, _, k, _⟩ := h
  exact k os ρ σ H f .refl hw
def wDrop (we : WE) : WS := fun B ρ => we ρ (fun _ => B.nx ρ) (B.ex ρ)
theorem ds_expr {e : Expr} {we : WE} (he : DE X F W C e we) (hs : swapsWith e none pos.line X.env = pure false := by rfl) : DS X F W C (.Expr e pos) (wDrop we) := ps_wk (ps_expr he hs) fun D σ H h => by
  obtain ⟨os, ρ, B, f, bd, hw, k, kb, kc, kr, kx⟩ := h
  exact ⟨os, ρ, _, _, f, bd, hw, fun H' v d f' g' r' h' => k os ρ σ H' f' (.kp f g') h', fun H' c d as f' g' x' h' => kx os ρ σ H' c d as f' (.kp f g') x' h'⟩
def wRet (we : WE) : WS := fun B ρ => we ρ B.rt (B.ex ρ)
theorem ds_ret {e : Expr} {we : WE} (he : DE X F W C e we) : DS X F W C (.Return (some e) pos) (wRet we) := ps_wk (ps_ret he) fun D σ H h => by
  obtain ⟨os, ρ, B, f, bd, hw, k, kb, kc, kr, kx⟩ := h
  exact ⟨os, ρ, _, _, f, bd, hw, fun H' v d f' g' r' h' => kr H' v d f'.b g'.tb (f'.out r') h', fun H' c d as f' g' x' h' => kx os ρ σ H' c d as f' (.kp f g') x' h'⟩
def wRetN : WS := fun B _ => B.rt .non
theorem ds_retN : DS X F W 0 (.Return none pos) wRetN := ps_wk ps_retN fun D σ H h => by
  obtain ⟨os, ρ, B, f, bd, hw, k, kb, kc, kr, kx⟩ := h
  exact kr H .non .non f.b (by omega) .non hw
def wIfS (wt : WT) (w1 w2 : WS) : WS := fun B ρ => wt ρ (fun b => if b = true then w1 B ρ else w2 B ρ) (B.ex ρ)
theorem ds_if {c : Expr} {a b : List Stmt} {wt : WT} {w1 w2 : WS} (hc : DT X F W C1 c wt) (ha : DSs X F W C2 a w1) (hb : DSs X F W C3 b w2) : DS X F W (C1 + (C2 + C3)) (.If c a b pos) (wIfS wt w1 w2) := ps_wk (ps_if hc ha hb) fun D σ H h => by
  obtain ⟨os, ρ, B, f, bd, hw, k, kb, kc, kr, kx⟩ := h
  refine ⟨os, ρ, _, _, f, bd.l, hw, fun H' b f' g' h' => ?_, fun H' c d as f' g' x' h' => kx os ρ σ H' c d as f' ((Af.kp f g').le (by omega)) x' h'⟩
  cases b with
  | true => exact iteT (go_onS (C2 := C2) (bd.le (by omega)) (.kp f g') f' h' (fun o r s h a b => k o r s h a (b.le (by omega))) (fun o r s h a b => kb o r s h a (b.le (by omega))) (fun o r s h a b => kc o r s h a (b.le (by omega))) (fun h v d a b => kr h v d a (by omega)) fun o r s h c d as a b => kx o r s h c d as a (b.le (by omega)))
  | false => exact iteF (go_onS (C2 := C3) (bd.le (by omega)) (.kp f g') f' h' (fun o r s h a b => k o r s h a (b.le (by omega))) (fun o r s h a b => kb o r s h a (b.le (by omega))) (fun o r s h a b => kc o r s h a (b.le (by omega))) (fun h v d a b => kr h v d a (by omega)) fun o r s h c d as a b => kx o r s h c d as a (b.le (by omega)))
/-! ## targets -/
abbrev WG := D → Rho → (Rho → Prop) → Prop
abbrev WGs := List D → Rho → (Rho → Prop) → Prop
/-- slots beside these stay -/
structure Ch (is : List Nat) (σ σ' : St) (os os' : List (Option Addr)) : Prop where
  ls : σ'.length = σ.length
  lo : os'.length = os.length
  at_ : ∀ j, j ∉ is → σ'[j]? = σ[j]? ∧ os'[j]? = os[j]?
theorem Ch.trans {is js : List Nat} {σ σ1 σ2 : St} {o o1 o2 : List (Option Addr)} (a : Ch is σ σ1 o o1) (b : Ch js σ1 σ2 o1 o2) : Ch (is ++ js) σ σ2 o o2 := ⟨b.ls.trans a.ls, b.lo.trans a.lo, fun j h =>
  ⟨(b.at_ j fun z => h (List.mem_append_right _ z)).1.trans (a.at_ j fun z => h (List.mem_append_left _ z)).1, (b.at_ j fun z => h (List.mem_append_right _ z)).2.trans (a.at_ j fun z => h (List.mem_append_left _ z)).2⟩⟩
def tWG (K : PySem.W.Frag) (F : Fc) (is : List Nat) (w : WG) : TG := fun v σ H Q => ∃ os ρ P d, Fm K F os ρ σ H ∧ Rel K F.p (mm F os) H v d ∧ w d ρ P ∧ ∀ os' ρ' σ', Fm K F os' ρ' σ' H → G2 (mm F os) H (mm F os') H → Ch is σ σ' os os' → P ρ' → Q σ' H
def tWGs (K : PySem.W.Frag) (F : Fc) (is : List Nat) (w : WGs) : TGs := fun vs σ H Q => ∃ os ρ P ds, Fm K F os ρ σ H ∧ RelL K F.p (mm F os) H vs ds ∧ w ds ρ P ∧ ∀ os' ρ' σ', Fm K F os' ρ' σ' H → G2 (mm F os) H (mm F os') H → Ch is σ σ' os os' → P ρ' → Q σ' H
abbrev DG (X : Cx) (F : Fc) (t : Expr) (is : List Nat) (w : WG) : Prop := PG X t (tWG X.K F is w)
abbrev DGs (X : Cx) (F : Fc) (ts : List Expr) (is : List Nat) (w : WGs) : Prop := PGs X ts (tWGs X.K F is w)
theorem pg_wk {t : Expr} {g g' : TG} (h : PG X t g) (k : ∀ v σ H Q, g' v σ H Q → g v σ H Q) : PG X t g' := ⟨fun pins s σ H v u Q I r q => h.run pins s σ H v u Q I r (k _ _ _ _ q)⟩
theorem pgs_wk {t : List Expr} {g g' : TGs} (h : PGs X t g) (k : ∀ v σ H Q, g' v σ H Q → g v σ H Q) : PGs X t g' := ⟨fun pins s σ H v u Q I r q => h.run pins s σ H v u Q I r (k _ _ _ _ q)⟩
def wgName (i : Nat) : WG := fun d ρ P => P (ρ.set i (.val d))
theorem dg_name {i : Nat} {x : Str} (hN : X.N.Nodup) (hi : X.N[i]? = some x) (hx : Loc X.env.scope x) (hf : X.fn x = true ∨ X.env.scope.names.lookup x = some .local := by first | exact .inl rfl | exact .inr rfl | assumption) : DG X F (.Name x pos) [i] (wgName i) :=
  pg_wk (pg_name hN hi hx hf) fun v σ H Q h => by
    obtain ⟨os, ρ, P, d, f, r, hw, k⟩ := h
    exact k _ _ _ (f.set i r) g2_set ⟨by simp, by simp, fun j h => ⟨List.getElem?_set_ne (fun z => h (by simp [z])), List.getElem?_set_ne (fun z => h (by simp [z]))⟩⟩ hw
def wgNil : WGs := fun ds ρ P => ds = [] ∧ P ρ
def wgCons (w : WG) (ws : WGs) : WGs := fun ds ρ P => ∃ d r, ds = d :: r ∧ w d ρ fun ρ' => ws r ρ' P
theorem dgs_nil : DGs X F [] [] wgNil := pgs_wk pgs_nil fun v σ H Q h => by
  obtain ⟨os, ρ, P, d, f, r, ⟨rfl, hw⟩, k⟩ := h
  exact ⟨r.nil_inv, k os ρ σ f G2.refl ⟨rfl, rfl, fun _ _ => ⟨rfl, rfl⟩⟩ hw⟩
theorem dgs_cons {e : Expr} {es : List Expr} {is js : List Nat} {w : WG} {ws : WGs} (h1 : DG X F e is w) (h2 : DGs X F es js ws) (hs : (assignEach (e :: es) X.env).map (·.2) = assign e X.env :: (assignEach es X.env).map (·.2) := by rfl) : DGs X F (e :: es) (is ++ js) (wgCons w ws) :=
  pgs_wk (pgs_cons h1 h2 hs) fun v σ H Q h => by
    obtain ⟨os, ρ, P, ds, f, r, ⟨d, dr, rfl, hw⟩, k⟩ := h
    obtain ⟨x, xs, rfl, r1, r2⟩ := r.cons_inv
    exact ⟨x, xs, rfl, os, ρ, _, d, f, r1, hw, fun os' ρ' σ' f' g' c' h' => ⟨os', ρ', P, dr, f', r2.mono2 g', h', fun o r s a b c => k o r s a (g'.trans b) (c'.trans c)⟩⟩
def wgTup (n : Nat) (ws : WGs) : WG := fun d ρ P => ∃ ds, d = .tup ds ∧ ds.length = n ∧ ws ds ρ P
theorem dg_tup {es : List Expr} {k : Nat} {is : List Nat} {ws : WGs} {n : Nat} (hc : X.calm = true) (h : DGs X F es is ws) (hn : (assignEach es X.env).length = n := by rfl) (hst : (assignEach es X.env).findIdx? (·.1) = none := by rfl) : DG X F (.Tuple es k pos) is (wgTup n ws) :=
  pg_wk (pg_tup hc h hn hst) fun v σ H Q h => by
    obtain ⟨os, ρ, P, d, f, r, ⟨ds, rfl, hl, hw⟩, k⟩ := h
    obtain ⟨a, vs, rfl, h1, h2⟩ := r.tupInv
    exact ⟨a, vs, rfl, h1, by rw [h2.length]; exact hl, os, ρ, P, ds, f, h2, hw, k⟩
def wAsg (we : WE) (wg : WG) : WS := fun B ρ => we ρ (fun d => wg d ρ B.nx) (B.ex ρ)
theorem tAsg_wk {is : List Nat} {we : WE} {wg : WG} {D : Ends} (h : tWS K F W C (wAsg we wg) D σ H) : tAsg (tW K F W C we) (tWG K F is wg) D σ H := by
  obtain ⟨os, ρ, B, f, bd, hw, k, kb, kc, kr, kx⟩ := h
  exact ⟨os, ρ, _, _, f, bd, hw, fun H' v d f' g' r' h' => ⟨os, ρ, _, d, f', r', h', fun o r s a b _ c => k o r s H' a (((Af.kp f g').trans (.of b)).le (by omega)) c⟩, fun H' c d as f' g' x' h' => kx os ρ σ H' c d as f' (.kp f g') x' h'⟩
theorem ds_asg {tg e : Expr} {is : List Nat} {we : WE} {wg : WG} (he : DE X F W C e we) (hg : DG X F tg is wg) (hs : swapsWithSole [tg] e pos.line X.env = pure false := by rfl) (hw : swappedStores [tg] e X.env = pure none := by rfl) (h1 : (assignEach [tg] X.env).map (·.2) = [assign tg X.env] := by rfl) : DS X F W C (.Assign [tg] e pos) (wAsg we wg) :=
  ps_wk (ps_asg he hg hs hw h1) fun _ _ _ h => tAsg_wk h
def wSet (i : Nat) (we : WE) : WS := fun B ρ => we ρ (fun d => B.nx (ρ.set i (.val d))) (B.ex ρ)
theorem tSet_wk {i : Nat} {we : WE} {D : Ends} (h : tWS K F W C (wSet i we) D σ H) : tAsg (tW K F W C we) (gName i) D σ H := by
  obtain ⟨os, ρ, B, f, bd, hw, k, kb, kc, kr, kx⟩ := h
  exact ⟨os, ρ, _, _, f, bd, hw, fun H' v d f' g' r' h' => k _ _ _ H' (f'.set i r') (((Af.kp f g').trans (.of g2_set)).le (by omega)) h', fun H' c d as f' g' x' h' => kx os ρ σ H' c d as f' (.kp f g') x' h'⟩
theorem ds_set {i : Nat} {x : Str} {e : Expr} {we : WE} {pos' : Pos} (hN : X.N.Nodup) (hi : X.N[i]? = some x) (hx : Loc X.env.scope x) (he : DE X F W C e we) (hs : swapsWith e (some (.Name x pos')) pos.line X.env = pure false := by rfl) (hf : X.fn x = true ∨ X.env.scope.names.lookup x = some .local := by first | exact .inl rfl | exact .inr rfl | assumption) :
    DS X F W C (.Assign [.Name x pos'] e pos) (wSet i we) := ps_wk (ps_set hN hi hx he hs hf) fun D σ H h => tSet_wk h
def wPar (i j : Nat) (wa wb : WE) : WS := fun B ρ => wa ρ (fun d => wb ρ (fun e => B.nx ((ρ.set i (.val d)).set j (.val e))) (B.ex ρ)) (B.ex ρ)
theorem ds_par {i j : Nat} {x y : Str} {a b : Expr} {wa wb : WE} {px py pt : Pos} {kt k2 pt2} (hc : X.calm = true) (hN : X.N.Nodup) (hi : X.N[i]? = some x) (hj : X.N[j]? = some y) (hij : i ≠ j)
    (hx : X.env.scope.names.lookup x = some .local) (hy : X.env.scope.names.lookup y = some .local) (ha : DE X F W C1 a wa) (hb : DE X F W C2 b wb)
    (hw : swappedStores [.Tuple [.Name x px, .Name y py] kt pt] (.Tuple [a, b] k2 pt2) X.env = pure (some [x, y]))
    (hs : swapsWithSole [.Tuple [.Name x px, .Name y py] kt pt] (.Tuple [a, b] k2 pt2) pos.line X.env = pure false := by rfl)
    (h1 : starEach [a, b] X.env = (false, eval a X.env) :: starEach [b] X.env := by rfl) (h2 : starEach [b] X.env = (false, eval b X.env) :: starEach [] X.env := by rfl) :
    DS X F W (C1 + (C2 + 0)) (.Assign [.Tuple [.Name x px, .Name y py] kt pt] (.Tuple [a, b] k2 pt2) pos) (wPar i j wa wb) := ps_wk (ps_par hc hN hi hj hij hx hy (da_cons ha (da_cons hb da_nil h2) h1) hw hs) fun D σ H h => by
  obtain ⟨os, ρ, B, f, bd, hw, k, kb, kc, kr, kx⟩ := h
  refine ⟨os, ρ, (fun ds => ∃ d e, ds = [d, e] ∧ B.nx ((ρ.set i (.val d)).set j (.val e))), B.ex ρ, f, bd, ?_, fun H' vs ds f' g' r' h' => ?_, fun H' c d as f' g' x' h' => kx os ρ σ H' c d as f' (.kp f g') x' h'⟩
  · show wa ρ (fun d => wb ρ (fun e => ∃ d' e', [d, e] = [d', e'] ∧ B.nx ((ρ.set i (.val d')).set j (.val e'))) (B.ex ρ)) (B.ex ρ)
    have e1 : (fun d => wb ρ (fun e => B.nx ((ρ.set i (.val d)).set j (.val e))) (B.ex ρ)) = (fun d => wb ρ (fun e => ∃ d' e', [d, e] = [d', e'] ∧ B.nx ((ρ.set i (.val d')).set j (.val e'))) (B.ex ρ)) := by
      funext d
      congr 1
      funext e
      exact propext ⟨fun h => ⟨d, e, rfl, h⟩, fun ⟨d', e', q, h⟩ => by cases q; exact h⟩
    rw [← e1]; exact hw
  · obtain ⟨d, e, rfl, h'⟩ := h'
    obtain ⟨x1, xs1, rfl, r1, r2⟩ := r'.cons_inv
    obtain ⟨x2, xs2, rfl, r3, r4⟩ := r2.cons_inv
    rw [r4.nil_inv]
    exact ⟨x1, x2, rfl, k _ _ _ H' ((f'.set i r1).set j (r3.mono2 g2_set)) ((((Af.kp f g').trans (.of g2_set)).trans (.of g2_set)).le (by omega)) h'⟩
end
end PL
set_option Elab.async false
set_option linter.all false
set_option maxRecDepth 100000
set_option maxHeartbeats 2000000
namespace PL
open PySem L2
/-! ## what is walked -/
/-- the iterator yields these, one by one -/
def ItOk (K : PySem.W.Frag) (p : Addr) (J : It) (m : Addr → Prop) (H : Hp) (ds : List D) : Prop := ∀ m' H', G2 m H m' H' → (∀ a, H' a = none → ¬ m' a) → ∀ i, i ≤ ds.length → (i = ds.length → J.stop i H') ∧ ∀ d, ds[i]? = some d → J.go i H' ∧ ∀ x H'', J.yld i H' x H'' → Same H' H'' ∧ Rel K p m' H'' x d
def tWI (K : PySem.W.Frag) (F : Fc) (W : WX) (C : Nat) (w : WA) : TI := fun σ H R => ∃ os ρ P Rx, Fm K F os ρ σ H ∧ Bd C F H ∧ w ρ P Rx ∧ (∀ H' J ds, Fm K F os ρ σ H' → Kp C F H H' → ItOk K F.p J (mm F os) H' ds → P ds → R J H') ∧
  ∀ H' c d as, Fm K F os ρ σ H' → Kp C F H H' → XnAt K F.p (mm F os) H' d as → Rx c as → W c d σ H'
abbrev DI (X : Cx) (F : Fc) (W : WX) (C : Nat) (tg e : Expr) (w : WA) : Prop := PI X tg e (tWI X.K F W C w)
theorem pi_wk {X : Cx} {tg e : Expr} {t t' : TI} (h : PI X tg e t) (k : ∀ σ H R, t' σ H R → t σ H R) : PI X tg e t' := ⟨fun pins s σ H R I q => h.run pins s σ H R I (k _ _ _ q)⟩
section
variable {K : PySem.W.Frag} {p : Addr} {m m' : Addr → Prop} {H H' : Hp}
def NdL (K : PySem.W.Frag) (m : Addr → Prop) (H : Hp) (a : Addr) (vs : List V) : Prop := (Rd H a (.lst vs) ∧ ¬ m a) ∨ KL K a vs
def NdT (K : PySem.W.Frag) (m : Addr → Prop) (H : Hp) (a : Addr) (vs : List V) : Prop := (Rd H a (.tup vs) ∧ ¬ m a) ∨ KT K a vs
theorem NdL.sq {a : Addr} {vs : List V} (h : NdL K m H a vs) : SqL K H a vs := h.elim (fun z => .inl z.1) KL.sq
theorem NdT.sq {a : Addr} {vs : List V} (h : NdT K m H a vs) : SqT K H a vs := h.elim (fun z => .inl z.1) .inr
theorem NdL.g2 {a : Addr} {vs : List V} (h : NdL K m H a vs) (g : G2 m H m' H') : NdL K m' H' a vs := h.imp (fun z => g.rd z.2 z.1) id
theorem NdT.g2 {a : Addr} {vs : List V} (h : NdT K m H a vs) (g : G2 m H m' H') : NdT K m' H' a vs := h.imp (fun z => g.rd z.2 z.1) id
theorem Rel.lstNd {v : V} {ds : List D} (r : Rel K p m H v (.lst ds)) : ∃ a vs, v = .ref a ∧ NdL K m H a vs ∧ RelL K p m H vs ds := by
  cases r with
  | lst h r => exact ⟨_, _, rfl, h, r⟩
theorem Rel.tupNd {v : V} {ds : List D} (r : Rel K p m H v (.tup ds)) : ∃ a vs, v = .ref a ∧ NdT K m H a vs ∧ RelL K p m H vs ds := by
  cases r with
  | tup h r => exact ⟨_, _, rfl, h, r⟩
end
section
variable {X : Cx} {F : Fc} {W : WX} {C C1 C2 C3 : Nat} {tg : Expr} {pos : Pos}
theorem itOk_list {K : PySem.W.Frag} {p a : Addr} {m : Addr → Prop} {H : Hp} {vs : List V} {ds : List D} (n : NdL K m H a vs) (r : RelL K p m H vs ds) : ItOk K p (Itl K a) m H ds := fun m' H' g _ i hi => by
  have n' := (n.g2 g).sq
  have r' := r.mono2 g
  refine ⟨fun e => ⟨vs, n', by rw [r.length]; omega⟩, fun d hd => ?_⟩
  obtain ⟨v, e1, r1⟩ := r'.get' hd
  refine ⟨⟨vs, v, n', e1⟩, fun x H'' y => ?_⟩
  obtain ⟨rfl, y⟩ := y
  have e2 := y vs n'
  rw [e1] at e2; cases e2
  exact ⟨Same.refl _, r1⟩
theorem itOk_tup {K : PySem.W.Frag} {p a : Addr} {m : Addr → Prop} {H : Hp} {vs : List V} {ds : List D} (n : NdT K m H a vs) (r : RelL K p m H vs ds) : ItOk K p (Itt K a) m H ds := fun m' H' g _ i hi => by
  have n' := (n.g2 g).sq
  have r' := r.mono2 g
  refine ⟨fun e => ⟨vs, n', by rw [r.length]; omega⟩, fun d hd => ?_⟩
  obtain ⟨v, e1, r1⟩ := r'.get' hd
  refine ⟨⟨vs, v, n', e1⟩, fun x H'' y => ?_⟩
  obtain ⟨rfl, y⟩ := y
  have e2 := y vs n'
  rw [e1] at e2; cases e2
  exact ⟨Same.refl _, r1⟩
def signs (z : Str) : List D := z.cps.toList.map fun c => D.str ⟨#[c]⟩
theorem itOk_str {K : PySem.W.Frag} {p : Addr} {m : Addr → Prop} {H : Hp} {z : Str} : ItOk K p (Its z) m H (signs z) := fun m' H' g _ i hi => by
  have l : (signs z).length = z.cps.size := by simp [signs]
  refine ⟨fun e => Nat.le_of_eq (by rw [e, l]), fun d hd => ?_⟩
  have hl : i < z.cps.size := by rw [← l]; exact (List.getElem?_eq_some_iff.mp hd).1
  refine ⟨hl, fun x H'' y => ?_⟩
  obtain ⟨rfl, c, e, rfl⟩ := y
  refine ⟨Same.refl _, ?_⟩
  have e2 : d = .str ⟨#[c]⟩ := by
    have : (signs z)[i]? = some (.str ⟨#[c]⟩) := by simp [signs, e]
    rw [this] at hd; exact (Option.some.inj hd).symm
  subst e2
  exact .str _
def rng (lo : Int) (n : Nat) : List D := (List.range n).map fun i => D.int (lo + (i : Nat))
theorem itOk_rng {K : PySem.W.Frag} {p : Addr} {m : Addr → Prop} {H : Hp} {lo : Int} {n : Nat} : ItOk K p (Itr lo n) m H (rng lo n) := fun m' H' g _ i hi => by
  have l : (rng lo n).length = n := by simp [rng]
  refine ⟨fun e => Nat.le_of_eq (by rw [e, l]), fun d hd => ?_⟩
  have hl : i < n := by rw [← l]; exact (List.getElem?_eq_some_iff.mp hd).1
  refine ⟨hl, fun x H'' y => ?_⟩
  obtain ⟨rfl, rfl⟩ := y
  refine ⟨Same.refl _, ?_⟩
  have e2 : d = .int (lo + (i : Nat)) := by
    have : (rng lo n)[i]? = some (.int (lo + (i : Nat))) := by simp [rng, hl]
    rw [this] at hd; exact (Option.some.inj hd).symm
  subst e2
  exact .int _
def wItL (we : WE) : WA := fun ρ P R => we ρ (fun d => ∃ xs, d = .lst xs ∧ P xs) R
def wItT (we : WE) : WA := fun ρ P R => we ρ (fun d => ∃ xs, d = .tup xs ∧ P xs) R
def wItS (we : WE) : WA := fun ρ P R => we ρ (fun d => ∃ z, d = .str z ∧ P (signs z)) R
def wItR1 (wa : WA) : WA := fun ρ P R => wa ρ (fun ds => ∃ j : Int, ds = [.int j] ∧ -(2 ^ 62) ≤ j ∧ j < 2 ^ 62 ∧ P (rng 0 j.toNat)) R
def wItR2 (wa : WA) : WA := fun ρ P R => wa ρ (fun ds => ∃ i j : Int, ds = [.int i, .int j] ∧ (-(2 ^ 62) ≤ i ∧ i < 2 ^ 62 ∧ -(2 ^ 62) ≤ j ∧ j < 2 ^ 62) ∧ P (rng i (j - i).toNat)) R
theorem di_list {e : Expr} {we : WE} (he : DE X F W C e we) : DI X F W C tg e (wItL we) := pi_wk (pi_list he) fun σ H R h => by
  obtain ⟨os, ρ, P, Rx, f, bd, hw, k, kx⟩ := h
  refine ⟨os, ρ, _, _, f, bd, hw, fun H' v d f' g' r' h' => ?_, kx⟩
  obtain ⟨xs, rfl, h'⟩ := h'
  obtain ⟨a, vs, rfl, n, l⟩ := r'.lstNd
  exact ⟨a, rfl, ⟨vs, n.sq⟩, k H' _ xs f' g' (itOk_list n l) h'⟩
theorem di_tup {e : Expr} {we : WE} (he : DE X F W C e we) : DI X F W C tg e (wItT we) := pi_wk (pi_tup he) fun σ H R h => by
  obtain ⟨os, ρ, P, Rx, f, bd, hw, k, kx⟩ := h
  refine ⟨os, ρ, _, _, f, bd, hw, fun H' v d f' g' r' h' => ?_, kx⟩
  obtain ⟨xs, rfl, h'⟩ := h'
  obtain ⟨a, vs, rfl, n, l⟩ := r'.tupNd
  exact ⟨a, rfl, ⟨vs, n.sq⟩, k H' _ xs f' g' (itOk_tup n l) h'⟩
theorem di_str {e : Expr} {we : WE} (he : DE X F W C e we) : DI X F W C tg e (wItS we) := pi_wk (pi_str he) fun σ H R h => by
  obtain ⟨os, ρ, P, Rx, f, bd, hw, k, kx⟩ := h
  refine ⟨os, ρ, _, _, f, bd, hw, fun H' v d f' g' r' h' => ?_, kx⟩
  obtain ⟨xs, rfl, h'⟩ := h'
  cases r'
  exact ⟨xs, rfl, k H' _ _ f' g' itOk_str h'⟩
theorem di_range1 {a : Expr} {wa : WA} {p : Pos} (hg : Gl X "range") (hm : X.mg "range" = none) (ha : DA X F W C [a] wa) (hs : starEach [a] X.env = [(false, eval a X.env)] := by rfl) : DI X F W C tg (.Call (.Name "range" p) [a] [] pos) (wItR1 wa) := pi_wk (pi_range1 hg hm ha hs) fun σ H R h => by
  obtain ⟨os, ρ, P, Rx, f, bd, hw, k, kx⟩ := h
  refine ⟨os, ρ, _, _, f, bd, hw, fun H' v d f' g' r' h' => ?_, kx⟩
  obtain ⟨j, rfl, h1, h2, h'⟩ := h'
  obtain ⟨x, xs, rfl, r1, r2⟩ := r'.cons_inv
  cases r1; rw [r2.nil_inv]
  exact ⟨j, rfl, h1, h2, k H' _ _ f' g' itOk_rng h'⟩
theorem di_range2 {a b : Expr} {wa : WA} {p : Pos} (hg : Gl X "range") (hm : X.mg "range" = none) (ha : DA X F W C [a, b] wa) (hs : starEach [a, b] X.env = [(false, eval a X.env), (false, eval b X.env)] := by rfl) (hs2 : starEach [b] X.env = [(false, eval b X.env)] := by rfl) : DI X F W C tg (.Call (.Name "range" p) [a, b] [] pos) (wItR2 wa) := pi_wk (pi_range2 hg hm ha hs hs2) fun σ H R h => by
  obtain ⟨os, ρ, P, Rx, f, bd, hw, k, kx⟩ := h
  refine ⟨os, ρ, _, _, f, bd, hw, fun H' v d f' g' r' h' => ?_, kx⟩
  obtain ⟨i, j, rfl, hb, h'⟩ := h'
  obtain ⟨x, xs, rfl, r1, r2⟩ := r'.cons_inv
  obtain ⟨y, ys, rfl, r3, r4⟩ := r2.cons_inv
  cases r1; cases r3; rw [r4.nil_inv]
  exact ⟨i, j, rfl, hb, k H' _ _ f' g' itOk_rng h'⟩

/-! ## for -/
def wLoop (wg : WG) (body : WS) : List D → WS
  | [] => fun B ρ => B.nx ρ
  | x :: xs => fun B ρ => wg x ρ fun ρ' => body { B with nx := wLoop wg body xs B, ct := wLoop wg body xs B, bk := B.nx } ρ'
def wFor (L : Nat) (wi : WA) (wg : WG) (body : WS) : WS := fun B ρ => wi ρ (fun xs => xs.length ≤ L ∧ wLoop wg body xs B ρ) (B.ex ρ)
/-- a body that draws nothing -/
def wFor0 (wi : WA) (wg : WG) (body : WS) : WS := fun B ρ => wi ρ (fun xs => wLoop wg body xs B ρ) (B.ex ρ)
theorem drop_get {α : Type} {l : List α} {i : Nat} (h : i < l.length) : ∃ d, l[i]? = some d ∧ l.drop i = d :: l.drop (i + 1) := ⟨l[i], by simp [h], by rw [List.drop_eq_getElem_cons h]⟩
theorem tFor_wk {is : List Nat} {wi : WA} {wg : WG} {wb : WS} {L : Nat} {Lk : List D → Prop} (hL : ∀ xs, Lk xs → xs.length * C2 ≤ L) {D : Ends} {σ : St} {H : Hp} (h : tWS X.K F W (C1 + L) (fun B ρ => wi ρ (fun xs => Lk xs ∧ wLoop wg wb xs B ρ) (B.ex ρ)) D σ H) : tFor (tWI X.K F W C1 wi) (tWG X.K F is wg) (tWS X.K F W C2 wb) D σ H := by
  obtain ⟨os, ρ, B, f, bd, hw, k, kb, kc, kr, kx⟩ := h
  refine ⟨os, ρ, _, _, f, bd.l, hw, fun H1 J ds f1 g1 it h1 => ?_, fun H' c d as f' g' x' h' => kx os ρ σ H' c d as f' ((Af.kp f g').le (by omega)) x' h'⟩
  obtain ⟨hlk, h1⟩ := h1
  have hn := hL ds hlk
  have bd1 := bd.r g1
  have step : ∀ i : Nat, i < ds.length → i * C2 + C2 ≤ L := fun i hi => by
    have a : (i + 1) * C2 ≤ ds.length * C2 := Nat.mul_le_mul_right _ hi
    rw [Nat.succ_mul] at a; omega
  have upto : ∀ i : Nat, i ≤ ds.length → i * C2 ≤ L := fun i hi => Nat.le_trans (Nat.mul_le_mul_right _ hi) hn
  refine ⟨fun i m σ' H' => i ≤ ds.length ∧ m = ds.length - i ∧ ∃ os' ρ', Fm X.K F os' ρ' σ' H' ∧ Af (i * C2) F os H1 os' H' ∧ wLoop wg wb (ds.drop i) B ρ', ⟨ds.length, Nat.zero_le _, rfl, os, ρ, f1, (Af.refl).le (by omega), by simpa using h1⟩, ?_⟩
  rintro i m σ' H' ⟨hi, rfl, os', ρ', f', g', h'⟩
  obtain ⟨st, go⟩ := it (mm F os') H' g'.g (fun a => f'.new) i hi
  have tot : ∀ {os2 : List (Option Addr)} {H2 : Hp} {n : Nat}, n ≤ L → Af n F os H1 os2 H2 → Af (C1 + L) F os H os2 H2 := fun hn a => ((Af.kp f g1).trans a).le (by omega)
  rcases Nat.eq_or_lt_of_le hi with e | hl
  · refine .inl ⟨st e, ?_⟩
    rw [e, List.drop_length] at h'
    exact k os' ρ' σ' H' f' (tot (upto i hi) g') h'
  · obtain ⟨d, e1, e2⟩ := drop_get hl
    obtain ⟨hgo, hy⟩ := go d e1
    rw [e2] at h'
    refine .inr ⟨hgo, fun σ2 H2 => ∃ os2 ρ2, Fm X.K F os2 ρ2 σ2 H2 ∧ Af ((i + 1) * C2) F os H1 os2 H2 ∧ wLoop wg wb (ds.drop (i + 1)) B ρ2, fun σ2 H2 ⟨os2, ρ2, f2, g2, h2⟩ => ⟨ds.length - (i + 1), by omega, hl, rfl, os2, ρ2, f2, g2, h2⟩, fun x H'' y => ?_⟩
    obtain ⟨sm, rx⟩ := hy x H'' y
    have f3 := f'.same sm
    have g3 : Af (i * C2) F os H1 os' H'' := (g'.trans (Af.kp f' (.of f'.b.st sm))).le (by omega)
    have hs := step i hl
    have es : (i + 1) * C2 = i * C2 + C2 := Nat.succ_mul i C2
    refine ⟨os', ρ', _, d, f3, rx, h', fun os4 ρ4 σ4 f4 g4 _ h4 => ?_⟩
    have g5 : Af (i * C2) F os H1 os4 H'' := (g3.trans (.of g4)).le (by omega)
    refine ⟨os4, ρ4, _, f4, by have := bd1; have := g5.tb; unfold Bd at *; omega, h4, fun o r s h a b c => ⟨o, r, a, (g5.trans b).le (by omega), c⟩, fun o r s h a b c => k o r s h a (tot hs (g5.trans b)) c, fun o r s h a b c => ⟨o, r, a, (g5.trans b).le (by omega), c⟩, fun h v d a b => kr h v d a (by have := g5.tb; have := g1.tb; omega), fun o r s h c d as a b => kx o r s h c d as a (tot hs (g5.trans b))⟩
theorem ds_for {is : List Nat} {iter : Expr} {body : List Stmt} {wi : WA} {wg : WG} {wb : WS} (L : Nat) (hp : PassesOwn (model X.prog X.w) X.A X.env X.xe) (hc : X.calm = true) (hi : DI X F W C1 tg iter wi) (hg : DG X F tg is wg) (hb : DSs X F W C2 body wb) (hs : ∀ x, foldedSetIterable iter X.env x = pure x := by intro _; rfl) :
    DS X F W (C1 + L * C2) (.For tg iter body [] pos) (wFor L wi wg wb) := ps_wk (ps_for hp hc hi hg hb hs) fun D σ H h => tFor_wk (Lk := fun xs => xs.length ≤ L) (fun xs hx => Nat.mul_le_mul_right _ hx) h
theorem ds_for0 {is : List Nat} {iter : Expr} {body : List Stmt} {wi : WA} {wg : WG} {wb : WS} (hp : PassesOwn (model X.prog X.w) X.A X.env X.xe) (hc : X.calm = true) (hi : DI X F W C1 tg iter wi) (hg : DG X F tg is wg) (hb : DSs X F W C2 body wb) (h0 : C2 = 0 := by rfl) (hs : ∀ x, foldedSetIterable iter X.env x = pure x := by intro _; rfl) :
    DS X F W (C1 + 0) (.For tg iter body [] pos) (wFor0 wi wg wb) := ps_wk (ps_for hp hc hi hg hb hs) fun D σ H h => tFor_wk (L := 0) (Lk := fun _ => True) (fun xs hx => by subst h0; simp) (by
      obtain ⟨os, ρ, B, f, bd, hw, r⟩ := h
      have e : (fun xs => True ∧ wLoop wg wb xs B ρ) = (fun xs => wLoop wg wb xs B ρ) := by funext xs; simp
      exact ⟨os, ρ, B, f, bd, by show wi ρ (fun xs => True ∧ wLoop wg wb xs B ρ) (B.ex ρ); rw [e]; exact hw, r⟩)
/-! ## while -/
def wWhile (wt : WT) (body : WS) : WS := fun B ρ => ∃ I : Nat → Rho → Prop, (∃ n, I n ρ) ∧ ∀ n ρ, I n ρ → wt ρ (fun b => if b = true then body { B with nx := fun ρ' => ∃ n', n' < n ∧ I n' ρ', ct := fun ρ' => ∃ n', n' < n ∧ I n' ρ', bk := B.nx } ρ else B.nx ρ) (B.ex ρ)
theorem ds_while {c : Expr} {body : List Stmt} {wt : WT} {wb : WS} (hp : PassesOwn (model X.prog X.w) X.A X.env X.xe) (hc : DT X F W C1 c wt) (hb : DSs X F W C2 body wb) (h1 : C1 = 0 := by rfl) (h2 : C2 = 0 := by rfl) : DS X F W 0 (.While c body [] pos) (wWhile wt wb) := ps_wk (ps_while hp hc hb) fun D σ H h => by
  subst h1 h2
  obtain ⟨os, ρ, B, f, bd, ⟨I, ⟨n0, i0⟩, hI⟩, k, kb, kc, kr, kx⟩ := h
  refine ⟨fun n σ' H' => ∃ os' ρ', Fm X.K F os' ρ' σ' H' ∧ Af 0 F os H os' H' ∧ I n ρ', ⟨n0, os, ρ, f, .refl, i0⟩, ?_⟩
  rintro n σ' H' ⟨os', ρ', f', g', hn⟩
  have bd' : Bd 0 F H' := Bd.af (C := 0) (bd.le (by omega)) g'
  refine ⟨os', ρ', _, _, f', bd', hI n ρ' hn, fun H2 b f2 g2 h2 => ?_, fun H2 c d as f2 g2 x2 h2 => kx os' ρ' σ' H2 c d as f2 ((g'.trans (.kp f' g2)).le (by omega)) x2 h2⟩
  have g3 : Af 0 F os H os' H2 := (g'.trans (.kp f' g2)).le (by omega)
  have bd2 : Bd 0 F H2 := Bd.af (C := 0) (bd.le (by omega)) g3
  cases b with
  | true =>
    refine iteT ⟨fun σ4 H4 => ∃ n', n' < n ∧ ∃ os4 ρ4, Fm X.K F os4 ρ4 σ4 H4 ∧ Af 0 F os H os4 H4 ∧ I n' ρ4, fun σ4 H4 h => h, ?_⟩
    exact ⟨os', ρ', _, f2, bd2, h2, fun o r s h a b ⟨n', hn', c⟩ => ⟨n', hn', o, r, a, (g3.trans b).le (by omega), c⟩, fun o r s h a b c => k o r s h a ((g3.trans b).le (by omega)) c, fun o r s h a b ⟨n', hn', c⟩ => ⟨n', hn', o, r, a, (g3.trans b).le (by omega), c⟩, fun h v d a b => kr h v d a (by have := g3.tb; omega), fun o r s h c d as a b => kx o r s h c d as a ((g3.trans b).le (by omega))⟩
  | false => exact iteF (k os' ρ' σ' H2 f2 g3 h2)
end
end PL
set_option Elab.async false
set_option linter.all false
set_option maxRecDepth 100000
set_option maxHeartbeats 2000000
namespace PL
open PySem L2
/-! ## comprehensions -/
def Fc.ext (F : Fc) (D : Addr) (acc : HO) : Fc := { F with m0 := fun a => F.m0 a ∨ a = D, H0 := upd F.H0 D acc }
section
variable {K : PySem.W.Frag} {F : Fc} {W : WX} {os : List (Option Addr)} {ρ : Rho} {σ : St} {H H' : Hp} {Da : Addr} {acc acc' : HO}
theorem mm_ext {a : Addr} : mm (F.ext Da acc) os a ↔ mm F os a ∨ a = Da := by
  constructor
  · rintro ((h | h) | h)
    · exact .inl (.inl h)
    · exact .inr h
    · exact .inl (.inr h)
  · rintro ((h | h) | h)
    · exact .inl (.inl h)
    · exact .inr h
    · exact .inl (.inr h)
theorem Base.ne (b : PL.Base F H) {a : Addr} (h : F.H0 a = none) : a ≠ F.p ∧ a ≠ F.g ∧ a ≠ F.c := by
  refine ⟨fun z => ?_, fun z => ?_, fun z => ?_⟩
  · obtain ⟨u, q⟩ := b.st0.some (.inl z); rw [h] at q; cases q
  · obtain ⟨u, q⟩ := b.st0.some (.inr (.inl z)); rw [h] at q; cases q
  · obtain ⟨u, q⟩ := b.st0.some (.inr (.inr z)); rw [h] at q; cases q
/-- the frame within a comprehension that fills the list at Da; the heap differs at Da alone -/
theorem Fm.ext (f : Fm K F os ρ σ H) (h0 : F.H0 Da = none) (hd : ∀ i : Nat, os[i]? ≠ some (some Da)) (hH : ∀ b u, b ≠ Da → H b = some u → H' b = some u) (hD : H' Da = some acc)
    (rel : ∀ v d, Rel K F.p (mm F os) H v d → Rel K F.p (mm (F.ext Da acc) os) H' v d) (rell : ∀ v d, RelL K F.p (mm F os) H v d → RelL K F.p (mm (F.ext Da acc) os) H' v d) : Fm K (F.ext Da acc) os ρ σ H' := by
  obtain ⟨np, ng, nc⟩ := f.b.ne h0
  have o0 : ∀ b u, F.H0 b = some u → b ≠ Da := fun b u e z => by rw [z, h0] at e; cases e
  refine ⟨⟨f.b.st.keep fun b u e h => hH b u (by rcases h with rfl | rfl | rfl <;> first | exact np.symm | exact ng.symm | exact nc.symm) e, f.b.st0.keep fun b u e h => ?_, fun b u e h1 h2 => ?_, fun b h => ?_, .inl f.b.mp, .inl f.b.mg, ?_⟩, fun i e h => ?_, fun i a h => ?_, fun i a h => ?_, f.inj, f.len, f.leno⟩
  · show upd F.H0 Da acc b = some u
    rw [upd_ne (o0 b u e)]; exact e
  · have e' : upd F.H0 Da acc b = some u := e
    by_cases hb : b = Da
    · subst hb; rw [upd_same] at e'; cases e'; exact hD
    · rw [upd_ne hb] at e'
      exact hH b u hb (f.b.keep b u e' h1 h2)
  · show ∃ u, upd F.H0 Da acc b = some u
    rcases h with h | h
    · obtain ⟨u, e⟩ := f.b.mt b h
      exact ⟨u, by rw [upd_ne (o0 b u e)]; exact e⟩
    · exact ⟨_, by rw [h]; exact upd_same⟩
  · rintro (h | h)
    · exact f.b.mc h
    · exact nc h.symm
  · have q := f.slots i e h
    cases e with
    | un => exact q
    | val d => obtain ⟨⟨x, h1, h2⟩, h3⟩ := q; exact ⟨⟨x, h1, rel _ _ h2⟩, h3⟩
    | own xs =>
      obtain ⟨a, vs, h1, h2, h3, h4⟩ := q
      exact ⟨a, vs, h1, h2, hH a _ (fun z => hd i (by rw [← z]; exact h2)) h3, rell _ _ h4⟩
  · show upd F.H0 Da acc a = none
    rw [upd_ne (show a ≠ Da from fun z => hd i (by rw [← z]; exact h))]; exact f.fresh i a h
  · obtain ⟨vs, q⟩ := f.own i a h
    exact ⟨vs, hH a _ (fun z => hd i (by rw [← z]; exact h)) q⟩
/-- one more item -/
theorem Fm.more (f : Fm K (F.ext Da acc) os ρ σ H) (h0 : F.H0 Da = none) (hd : ∀ i : Nat, os[i]? ≠ some (some Da)) (b0 : StateAt F.H0 F.p F.g F.c) : Fm K (F.ext Da acc') os ρ σ (upd H Da acc') := by
  have nn : Da ≠ F.p ∧ Da ≠ F.g ∧ Da ≠ F.c := by
    refine ⟨fun z => ?_, fun z => ?_, fun z => ?_⟩
    · obtain ⟨u, q⟩ := b0.some (.inl z); rw [h0] at q; cases q
    · obtain ⟨u, q⟩ := b0.some (.inr (.inl z)); rw [h0] at q; cases q
    · obtain ⟨u, q⟩ := b0.some (.inr (.inr z)); rw [h0] at q; cases q
  obtain ⟨np, ng, nc⟩ := nn
  have o0 : ∀ b u, F.H0 b = some u → b ≠ Da := fun b u e z => by rw [z, h0] at e; cases e
  have em : ∀ a, mm (F.ext Da acc') os a → mm (F.ext Da acc) os a := fun a z => mm_ext.mpr (mm_ext.mp z)
  have g2 : G2 (mm (F.ext Da acc) os) H (mm (F.ext Da acc') os) (upd H Da acc') := fun b u e n => by
    have hb : b ≠ Da := fun z => n (mm_ext.mpr (.inr z))
    exact ⟨by rw [upd_ne hb]; exact e, fun z => n (em b z)⟩
  refine ⟨⟨f.b.st.keep fun b u e h => ?_, b0.keep fun b u e h => ?_, fun b u e h1 h2 => ?_, fun b h => ?_, f.b.mp, f.b.mg, f.b.mc⟩, fun i e h => ?_, fun i a h => ?_, fun i a h => ?_, f.inj, f.len, f.leno⟩
  · have hb : b ≠ Da := by rcases h with rfl | rfl | rfl <;> first | exact np.symm | exact ng.symm | exact nc.symm
    rw [upd_ne hb]; exact e
  · show upd F.H0 Da acc' b = some u
    rw [upd_ne (o0 b u e)]; exact e
  · have e' : upd F.H0 Da acc' b = some u := e
    by_cases hb : b = Da
    · subst hb; rw [upd_same] at e' ⊢; exact e'
    · rw [upd_ne hb] at e' ⊢
      refine f.b.keep b u ?_ h1 h2
      show upd F.H0 Da acc b = some u
      rw [upd_ne hb]; exact e'
  · show ∃ u, upd F.H0 Da acc' b = some u
    by_cases hb : b = Da
    · exact ⟨_, by rw [hb]; exact upd_same⟩
    · obtain ⟨u, q⟩ := f.b.mt b h
      have q' : upd F.H0 Da acc b = some u := q
      rw [upd_ne hb] at q' ⊢
      exact ⟨u, q'⟩
  · have q := f.slots i e h
    cases e with
    | un => exact q
    | val d => obtain ⟨⟨x, h1, h2⟩, h3⟩ := q; exact ⟨⟨x, h1, h2.mono2 g2⟩, h3⟩
    | own xs =>
      obtain ⟨a, vs, h1, h2, h3, h4⟩ := q
      exact ⟨a, vs, h1, h2, by rw [upd_ne (show a ≠ Da from fun z => hd i (by rw [← z]; exact h2))]; exact h3, h4.mono2 g2⟩
  · show upd F.H0 Da acc' a = none
    have q : upd F.H0 Da acc a = none := f.fresh i a h
    have hb : a ≠ Da := fun z => hd i (by rw [← z]; exact h)
    rw [upd_ne hb] at q ⊢; exact q
  · obtain ⟨vs, q⟩ := f.own i a h
    exact ⟨vs, by rw [upd_ne (show a ≠ Da from fun z => hd i (by rw [← z]; exact h))]; exact q⟩
def wipeR (ρ : Rho) : List Nat → Rho
  | [] => ρ
  | v :: vs => (wipeR ρ vs).set v .un
def noOwn (ρ : Rho) (vs : List Nat) : Bool := vs.all fun v => match ρ[v]? with | some (.own _) => false | some _ => true | none => false
theorem noOwn_os (f : Fm K F os ρ σ H) {vs : List Nat} (h : noOwn ρ vs = true) : ∀ v ∈ vs, os[v]? = some none := fun v hv => by
  have q := List.all_eq_true.mp h v hv
  cases e : ρ[v]? with
  | none => rw [e] at q; cases q
  | some x =>
    rw [e] at q
    have s := f.slots v x e
    cases x with
    | un => exact s
    | val d => exact s.2
    | own xs => cases q
theorem Fm.un1 (f : Fm K F os ρ σ H) {v : Nat} (hv : os[v]? = some none) : Fm K F os (ρ.set v .un) (σ.set v none) H := by
  refine ⟨f.b, fun i e h => ?_, f.fresh, f.own, f.inj, by simpa using f.len, by simpa using f.leno⟩
  by_cases e1 : i = v
  · subst e1
    have hj := (List.getElem?_eq_some_iff.mp h).1
    rw [List.getElem?_set_self (by simpa using hj)] at h
    cases h
    exact hv
  · rw [List.getElem?_set_ne (Ne.symm e1)] at h
    rw [List.getElem?_set_ne (Ne.symm e1)]
    exact f.slots i e h
theorem Fm.wipe (f : Fm K F os ρ σ H) : ∀ {vs : List Nat}, (∀ v ∈ vs, os[v]? = some none) → Fm K F os (wipeR ρ vs) (L2.wipe σ vs) H
  | [], _ => f
  | v :: vs, h => (Fm.wipe f (vs := vs) fun w hw => h w (List.mem_cons_of_mem _ hw)).un1 (h v List.mem_cons_self)
theorem wipe_get {σ : St} {i : Nat} : ∀ {vs : List Nat}, i ∈ vs → i < σ.length → (L2.wipe σ vs)[i]? = some none
  | [], h, _ => by cases h
  | v :: vs, h, hl => by
    show ((L2.wipe σ vs).set v none)[i]? = some none
    by_cases e : i = v
    · subst e; rw [List.getElem?_set_self (by rw [wipe_length]; exact hl)]
    · rw [List.getElem?_set_ne (Ne.symm e)]
      exact wipe_get ((List.mem_cons.mp h).resolve_left e) hl
theorem wipe_get_ne {σ : St} {i : Nat} : ∀ {vs : List Nat}, i ∉ vs → (L2.wipe σ vs)[i]? = σ[i]?
  | [], h => rfl
  | v :: vs, h => by
    show ((L2.wipe σ vs).set v none)[i]? = σ[i]?
    rw [List.getElem?_set_ne (fun z => h (by simp [z]))]
    exact wipe_get_ne fun z => h (List.mem_cons_of_mem _ z)
theorem wipe_ch {is vs : List Nat} {σ σ' : St} {o o' : List (Option Addr)} (hs : ∀ i ∈ is, i ∈ vs) (c : Ch is (L2.wipe σ vs) σ' o o') : L2.wipe σ' vs = L2.wipe σ vs := by
  have hl : σ'.length = σ.length := by rw [c.ls, wipe_length]
  refine List.ext_getElem? fun i => ?_
  by_cases hi : i ∈ vs
  · by_cases h : i < σ.length
    · rw [wipe_get hi h, wipe_get hi (by omega)]
    · rw [List.getElem?_eq_none (by rw [wipe_length]; omega), List.getElem?_eq_none (by rw [wipe_length]; omega)]
  · rw [wipe_get_ne hi, wipe_get_ne hi, (c.at_ i fun z => hi (hs i z)).1, wipe_get_ne hi]
end
/-- what it makes -/
def wLcL (wg : WG) (wt : WT) (we : WE) (ρw : Rho) : List D → (List D → Prop) → Prop
  | [], k => k []
  | x :: xs, k => wg x ρw fun ρ' => wt ρ' (fun b => if b = true then we ρ' (fun d => wLcL wg wt we ρw xs (fun ds => k (d :: ds))) (fun _ _ => False) else wLcL wg wt we ρw xs k) (fun _ _ => False)
def wLc (wi : WA) (wg : WG) (wt : WT) (we : WE) (vs : List Nat) : WE := fun ρ P R => wi ρ (fun xs => noOwn ρ vs = true ∧ xs.length ≤ sizeLine ∧ wLcL wg wt we (wipeR ρ vs) xs (fun ds => P (.lst ds))) R
def wYes : WT := fun _ P _ => P true
abbrev WF : WX := fun _ _ _ _ => False
abbrev DTs (X : Cx) (F : Fc) (W : WX) (C : Nat) (ifs : List Expr) (w : WT) : Prop := PTs X ifs (tWT X.K F W C w)
section
variable {X : Cx} {F : Fc} {W : WX} {C C1 C2 C3 : Nat} {pos : Pos}
theorem pts_wk {ifs : List Expr} {t t' : TT} (h : PTs X ifs t) (k : ∀ σ H Q, t' σ H Q → t σ H Q) : PTs X ifs t' := ⟨fun pins s σ H Q I q => h.run pins s σ H Q I (k _ _ _ q)⟩
theorem dts_nil : DTs X F W 0 [] wYes := pts_wk pts_nil fun σ H Q h => by
  obtain ⟨os, ρ, P, R, f, bd, hw, k, kx⟩ := h
  exact k H true f f.id hw
theorem dts_one {c : Expr} {w : WT} (h : DT X F W C c w) : DTs X F W C [c] w := pts_one h
/-- readings of a block's parts, at some frame -/
def anyG (K : PySem.W.Frag) (is : List Nat) (wg : WG) : TG := fun v σ H Q => ∃ F', tWG K F' is wg v σ H Q
def anyT (K : PySem.W.Frag) (C : Nat) (wt : WT) : TT := fun σ H Q => ∃ F', tWT K F' WF C wt σ H Q
def anyE (K : PySem.W.Frag) (C : Nat) (we : WE) : TE := fun σ H Q => ∃ F', tW K F' WF C we σ H Q
theorem tLc_wk {is vs : List Nat} {wi : WA} {wg : WG} {wt : WT} {we : WE} (his : ∀ i ∈ is, i ∈ vs) {σ : L2.St} {H : Hp} {Q : VK} (h : tW X.K F W (C1 + sizeLine * (C2 + C3)) (wLc wi wg wt we vs) σ H Q) : tLc (tWI X.K F W C1 wi) (anyG X.K is wg) (anyT X.K C2 wt) (anyE X.K C3 we) vs σ H Q := by
  obtain ⟨os, ρ, P, R, f, bd, hw, k, kx⟩ := h
  refine ⟨os, ρ, _, _, f, bd.l, hw, fun H1 J ds f1 k1 it h1 => ?_, fun H' c d as f' g' => kx H' c d as f' (g'.le (by omega))⟩
  obtain ⟨hno, hz, h1⟩ := h1
  intro Da hDa
  have bd1 := bd.r k1
  have step : ∀ i : Nat, i < ds.length → i * (C2 + C3) + (C2 + C3) ≤ sizeLine * (C2 + C3) := fun i hi => by
    have a : (i + 1) * (C2 + C3) ≤ sizeLine * (C2 + C3) := Nat.mul_le_mul_right _ (by omega)
    rw [Nat.succ_mul] at a; exact a
  have hos := noOwn_os f1 hno
  have hd0 : F.H0 Da = none := Fm.new0 f1.b hDa
  have hdo : ∀ i : Nat, os[i]? ≠ some (some Da) := fun i z => by
    obtain ⟨vs, q⟩ := f1.own i Da z
    rw [hDa] at q; cases q
  obtain ⟨np, ng, nc⟩ := f1.b.ne hd0
  refine ⟨fun i n H' => i ≤ ds.length ∧ n = ds.length - i ∧ ∃ acc ads, H' Da = some (.lst acc) ∧ Fm X.K (F.ext Da (.lst acc)) os ρ σ H' ∧ (∀ b u, H1 b = some u → b ≠ F.p → b ≠ F.g → H' b = some u) ∧ tn F.p H' ≤ tn F.p H1 + i * (C2 + C3) ∧ RelL X.K F.p (mm (F.ext Da (.lst acc)) os) H' acc ads ∧ acc.length ≤ i ∧ wLcL wg wt we (wipeR ρ vs) (ds.drop i) (fun r => P (.lst (ads ++ r))), ?_, ?_⟩
  · have g : G2 (mm F os) H1 (mm (F.ext Da (.lst [])) os) (upd H1 Da (.lst [])) := fun b u e n => ⟨same_new hDa b u e, fun z => by
      rcases mm_ext.mp z with z | z
      · exact n z
      · rw [z, hDa] at e; cases e⟩
    exact ⟨ds.length, Nat.zero_le _, rfl, [], [], upd_same, f1.ext hd0 hdo (fun b u hb e => by rw [upd_ne hb]; exact e) upd_same (fun v d r => r.mono2 g) (fun v d r => r.mono2 g), fun b u e _ _ => same_new hDa b u e, Nat.le_trans (Nat.le_of_eq (f1.b.st.tn_keep fun b u e _ => same_new hDa b u e)) (Nat.le_add_right _ _), .nil, Nat.le_refl _, by simpa using h1⟩
  · rintro i n H' ⟨hi, rfl, acc, ads, hD, f', kp, ht0, ra, hl, h'⟩
    have g2 : G2 (mm F os) H1 (mm (F.ext Da (.lst acc)) os) H' := fun b u e nb => ⟨kp b u e (fun z => nb (.inl (z ▸ f1.b.mp))) (fun z => nb (.inl (z ▸ f1.b.mg))), fun z => by
      rcases mm_ext.mp z with z | z
      · exact nb z
      · rw [z, hDa] at e; cases e⟩
    obtain ⟨st, go⟩ := it _ H' g2 (fun a => f'.new) i hi
    rcases Nat.eq_or_lt_of_le hi with e | hlt
    · refine .inl ⟨st e, ?_⟩
      rw [e, List.drop_length] at h'
      have h2 : P (.lst (ads ++ [])) := h'
      rw [List.append_nil] at h2
      have kk : Kp (sizeLine * (C2 + C3)) F H1 H' := ⟨f'.b.st, kp, Nat.le_trans ht0 (Nat.add_le_add_left (Nat.mul_le_mul_right _ (by omega)) _)⟩
      have nD : ¬ mm F os Da := fun z => by
        obtain ⟨u, q⟩ := f1.tr z
        rw [hDa] at q; cases q
      refine k H' _ _ (f1.kp kk) (k1.trans kk) (.lst (.inl ⟨.inl hD, nD⟩) (ra.mono2 (G2.less fun a z => mm_ext.mpr (.inl z)))) h2
    · obtain ⟨d, e1, e2⟩ := drop_get hlt
      obtain ⟨hgo, hy⟩ := go d e1
      rw [e2] at h'
      refine .inr ⟨hgo, fun H2 => ∃ acc ads, H2 Da = some (.lst acc) ∧ Fm X.K (F.ext Da (.lst acc)) os ρ σ H2 ∧ (∀ b u, H1 b = some u → b ≠ F.p → b ≠ F.g → H2 b = some u) ∧ tn F.p H2 ≤ tn F.p H1 + (i + 1) * (C2 + C3) ∧ RelL X.K F.p (mm (F.ext Da (.lst acc)) os) H2 acc ads ∧ acc.length ≤ i + 1 ∧ wLcL wg wt we (wipeR ρ vs) (ds.drop (i + 1)) (fun r => P (.lst (ads ++ r))), fun H2 q => ⟨ds.length - (i + 1), by omega, hlt, rfl, q⟩, fun x H'' y => ?_⟩
      obtain ⟨sm, rx⟩ := hy x H'' y
      have f'' := f'.same sm
      have ht1 : tn F.p H'' = tn F.p H' := f'.b.st.tn_keep fun b u e _ => sm b u e
      have hs1 := step i hlt
      have es : (i + 1) * (C2 + C3) = i * (C2 + C3) + (C2 + C3) := Nat.succ_mul i _
      have hD2 : H'' Da = some (.lst acc) := sm _ _ hD
      have nDp : Da ≠ (F.ext Da (.lst acc)).p := np
      have nDg : Da ≠ (F.ext Da (.lst acc)).g := ng
      refine ⟨F.ext Da (.lst acc), os, _, _, d, f''.wipe hos, rx, h', fun os2 ρ2 σ2 f2 g2' ch h2 => ⟨wipe_ch his ch, ?_⟩⟩
      refine ⟨F.ext Da (.lst acc), os2, ρ2, _, _, f2, by have := bd1; unfold Bd at *; show tn F.p H'' + C2 ≤ MAXT; omega, h2, fun H3 b f3 k3 h3 => ?_, fun _ _ _ _ _ _ _ z => z⟩
      have ht3 : tn F.p H3 ≤ tn F.p H'' + C2 := k3.tb
      have f3' := f''.kp k3
      have hD3 := k3.k _ _ hD2 nDp nDg
      have kp3 : ∀ b u, H1 b = some u → b ≠ F.p → b ≠ F.g → H3 b = some u := fun b u e h1 h2 => k3.k b u (sm b u (kp b u e h1 h2)) h1 h2
      have ra3 := (ra.gr (Gr.of sm)).gr (f''.gr k3)
      cases b with
      | false =>
        refine iteF ⟨acc, ads, hD3, f3', kp3, by omega, ra3, Nat.le_succ_of_le hl, ?_⟩
        exact h3
      | true =>
        refine iteT ⟨F.ext Da (.lst acc), os2, ρ2, _, _, f3, by have := bd1; unfold Bd at *; show tn F.p H3 + C3 ≤ MAXT; omega, h3, fun H4 v4 d4 f4 k4 r4 h4 => ?_, fun _ _ _ _ _ _ _ z => z⟩
        have ht4 : tn F.p H4 ≤ tn F.p H3 + C3 := k4.tb
        have f4' := f3'.kp k4
        have hD4 := k4.k _ _ hD3 nDp nDg
        have em : ∀ a, mm (F.ext Da (.lst (acc ++ [v4]))) os a → mm (F.ext Da (.lst acc)) os a := fun a z => mm_ext.mpr (mm_ext.mp z)
        have em2 : ∀ a, mm (F.ext Da (.lst acc)) os a → mm (F.ext Da (.lst acc)) os2 a := fun a z => by
          rcases z with z | z
          · exact .inl z
          · obtain ⟨j, e⟩ := mem_os z
            refine .inr (os_mem (i := j) ?_)
            rw [← e]
            refine (ch.at_ j fun hj => ?_).2
            rw [hos j (his j hj)] at e; cases e
        have gm : ∀ b u, H4 b = some u → b ≠ Da → upd H4 Da (.lst (acc ++ [v4])) b = some u := fun b u e hb => by rw [upd_ne hb]; exact e
        have g4 : G2 (mm (F.ext Da (.lst acc)) os) H4 (mm (F.ext Da (.lst (acc ++ [v4]))) os) (upd H4 Da (.lst (acc ++ [v4]))) := fun b u e n => ⟨gm b u e fun z => n (mm_ext.mpr (.inr z)), fun z => n (em b z)⟩
        have g5 : G2 (mm (F.ext Da (.lst acc)) os2) H4 (mm (F.ext Da (.lst (acc ++ [v4]))) os) (upd H4 Da (.lst (acc ++ [v4]))) := fun b u e n => ⟨gm b u e fun z => n (.inl (.inr z)), fun z => n (em2 b (em b z))⟩
        refine ⟨acc, hD4, by omega, acc ++ [v4], ads ++ [d4], upd_same, f4'.more hd0 hdo f1.b.st0, fun b u e h1 h2 => ?_, by rw [show tn F.p (upd H4 Da (.lst (acc ++ [v4]))) = tn F.p H4 from tn_eq (upd_ne np.symm)]; omega, ((ra3.gr (f3'.gr k4)).mono2 g4).append (.cons (r4.mono2 g5) .nil), by rw [List.length_append]; show acc.length + 1 ≤ i + 1; omega, ?_⟩
        · exact gm b u (k4.k b u (kp3 b u e h1 h2) h1 h2) fun z => by rw [z, hDa] at e; cases e
        · have e3 : (fun r => P (.lst (ads ++ [d4] ++ r))) = fun r => P (.lst (ads ++ d4 :: r)) := by
            funext r; rw [List.append_assoc]; rfl
          rw [e3]; exact h4
theorem d_lc {elt tg iter : Expr} {ifs : List Expr} {scope : Scope} {own : List (Str × Nat)} {is : List Nat} {wi : WA} {wg : WG} {wt : WT} {we : WE} (hc : X.calm = true) (hN : X.N.Nodup) (hi : DI X F W C1 tg iter wi) (ok : BlkOk X.N X.env.scope scope own) (his : ∀ i ∈ is, i ∈ own.map (·.2))
    (hg : ∀ (F' : Fc) (s : Shared) (H : Hp) (C : Addr) (cl : List (Str × Addr)) (fp : List Addr), DG (X.blk s H scope (compEnvC scope cl C X.env) fp) F' tg is wg)
    (ht : ∀ (F' : Fc) (s : Shared) (H : Hp) (C : Addr) (cl : List (Str × Addr)) (fp : List Addr), DTs (X.blk s H scope (compEnvC scope cl C X.env) fp) F' WF C2 ifs wt)
    (he : ∀ (F' : Fc) (s : Shared) (H : Hp) (C : Addr) (cl : List (Str × Addr)) (fp : List Addr), DE (X.blk s H scope (compEnvC scope cl C X.env) fp) F' WF C3 elt we)
    (hs : ∀ x, foldedSetIterable iter X.env x = pure x := by intro _; rfl) : DE X F W (C1 + sizeLine * (C2 + C3)) (.ListComp elt [⟨tg, iter, ifs, 0⟩] scope pos) (wLc wi wg wt we (own.map (·.2))) := by
  exact pe_wk (pe_lc (g := anyG X.K is wg) (tt := anyT X.K C2 wt) (te := anyE X.K C3 we) hc hN hi ok
    (fun s H C cl fp => ⟨fun pins s σ H v u Q I r ⟨F', q⟩ => (hg F' _ _ _ _ _).run pins s σ H v u Q I r q⟩) (fun s H C cl fp => ⟨fun pins s σ H Q I ⟨F', q⟩ => (ht F' _ _ _ _ _).run pins s σ H Q I q⟩) (fun s H C cl fp => ⟨fun pins s σ H Q I ⟨F', q⟩ => (he F' _ _ _ _ _).run pins s σ H Q I q⟩) hs) fun σ H Q h => tLc_wk his h
/-- y = [..] -/
theorem ds_setLc {i : Nat} {y : Str} {py : Pos} {spos : Pos} {elt tg iter : Expr} {ifs : List Expr} {scope : Scope} {own : List (Str × Nat)} {is : List Nat} {wi : WA} {wg : WG} {wt : WT} {we : WE} (hc : X.calm = true) (hN : X.N.Nodup) (hy : X.N[i]? = some y) (hyl : X.env.scope.names.lookup y = some .local)
    (hsw : swapsWith (.ListComp elt [⟨tg, iter, ifs, 0⟩] scope pos) (some (.Name y py)) spos.line X.env = pure true) (hi : DI X F W C1 tg iter wi) (ok : BlkOk X.N X.env.scope scope own) (his : ∀ i ∈ is, i ∈ own.map (·.2))
    (hg : ∀ (F' : Fc) (s : Shared) (H : Hp) (C : Addr) (cl : List (Str × Addr)) (fp : List Addr), DG (X.blk s H scope (compEnvC scope cl C X.env) fp) F' tg is wg)
    (ht : ∀ (F' : Fc) (s : Shared) (H : Hp) (C : Addr) (cl : List (Str × Addr)) (fp : List Addr), DTs (X.blk s H scope (compEnvC scope cl C X.env) fp) F' WF C2 ifs wt)
    (he : ∀ (F' : Fc) (s : Shared) (H : Hp) (C : Addr) (cl : List (Str × Addr)) (fp : List Addr), DE (X.blk s H scope (compEnvC scope cl C X.env) fp) F' WF C3 elt we)
    (hs : ∀ x, foldedSetIterable iter X.env x = pure x := by intro _; rfl) : DS X F W (C1 + sizeLine * (C2 + C3)) (.Assign [.Name y py] (.ListComp elt [⟨tg, iter, ifs, 0⟩] scope pos) spos) (wSet i (wLc wi wg wt we (own.map (·.2)))) :=
  ps_wk (ps_setLc (g := anyG X.K is wg) (tt := anyT X.K C2 wt) (te := anyE X.K C3 we) hc hN hy hyl hsw hi ok
    (fun s H C cl fp => ⟨fun pins s σ H v u Q I r ⟨F', q⟩ => (hg F' _ _ _ _ _).run pins s σ H v u Q I r q⟩) (fun s H C cl fp => ⟨fun pins s σ H Q I ⟨F', q⟩ => (ht F' _ _ _ _ _).run pins s σ H Q I q⟩) (fun s H C cl fp => ⟨fun pins s σ H Q I ⟨F', q⟩ => (he F' _ _ _ _ _).run pins s σ H Q I q⟩) hs) fun D σ H h => tLc_wk his (tSet_wk h)
end
end PL
set_option Elab.async false
set_option linter.all false
set_option maxRecDepth 100000
set_option maxHeartbeats 2000000
namespace PL
open PySem L2
/-! ## promises over data -/
abbrev Sg := List D → (D → Prop) → Xr → Prop
def SpD (K : PySem.W.Frag) (C : Nat) (Γ : Sg) : Sp := fun vs H Q E => ∃ (F : Fc) (ds : List D) (P : D → Prop) (R : Xr), PL.Base F H ∧ F.H0 = H ∧ Bd C F H ∧ RelL K F.p F.m0 H vs ds ∧ Γ ds P R ∧
  (∀ v H' d, Kp C F H H' → Rel K F.p F.m0 H' v d → P d → Q v H') ∧ ∀ H' c dd as, Kp C F H H' → XnAt K F.p F.m0 H' dd as → R c as → E c dd H'
/-- a call at a frame, seen by the one that is called -/
def Fm.callee {K : PySem.W.Frag} {F : Fc} {os : List (Option Addr)} {ρ : Rho} {σ : St} {H : Hp} (f : Fm K F os ρ σ H) : Fc := ⟨F.p, F.g, F.c, mm F os, H⟩
theorem Fm.calleeB {K : PySem.W.Frag} {F : Fc} {os : List (Option Addr)} {ρ : Rho} {σ : St} {H : Hp} (f : Fm K F os ρ σ H) : PL.Base f.callee H where
  st := f.b.st
  st0 := f.b.st
  keep := fun b u e _ _ => e
  mt := fun b h => f.tr h
  mp := .inl f.b.mp
  mg := .inl f.b.mg
  mc := by
    rintro (h | h)
    · exact f.b.mc h
    · obtain ⟨i, e⟩ := mem_os h
      have q := f.fresh i _ e
      exact (f.b.ne q).2.2 rfl
section
variable {X : Cx} {F : Fc} {W : WX} {C C1 C2 : Nat} {pos : Pos}
def wCall (Γ : Sg) (wa : WA) : WE := fun ρ P R => wa ρ (fun ds => Γ ds P R) R
/-- that calls nothing that raises -/
def wCall0 (Γ : Sg) (wa : WA) : WE := fun ρ P R => wa ρ (fun ds => Γ ds P fun _ _ => False) R
theorem spD_of {K : PySem.W.Frag} {C : Nat} {Γ : Sg} {os : List (Option Addr)} {ρ : Rho} {σ : St} {H : Hp} {vs : List V} {ds : List D} {P : D → Prop} {R : Xr} {Q : VK} {E : XK} (f : Fm K F os ρ σ H) (bd : Bd C F H) (r : RelL K F.p (mm F os) H vs ds) (h : Γ ds P R)
    (k : ∀ H' v d, Fm K F os ρ σ H' → Kp C F H H' → Rel K F.p (mm F os) H' v d → P d → Q v H') (kx : ∀ H' c d as, Fm K F os ρ σ H' → Kp C F H H' → XnAt K F.p (mm F os) H' d as → R c as → E c d H') : SpD K C Γ vs H Q E :=
  ⟨f.callee, ds, P, R, f.calleeB, rfl, bd, r, h, fun v H' d kp rv hp => k H' v d (f.kp ⟨kp.st, kp.k, kp.tb⟩) ⟨kp.st, kp.k, kp.tb⟩ rv hp, fun H' c dd as kp ra hr => kx H' c dd as (f.kp ⟨kp.st, kp.k, kp.tb⟩) ⟨kp.st, kp.k, kp.tb⟩ ra hr⟩
/-! ## defs where nothing is being shown (no repr is under way) -/
structure RoomG (k : Nat) (A : Around) : Prop extends Room k A where
  gd : A.guards = some []
theorem RoomG.mono {j k : Nat} {A : Around} (r : RoomG k A) (h : j ≤ k) : RoomG j A := ⟨r.toRoom.mono h, r.gd⟩
theorem RoomG.deeper {k : Nat} {A : Around} (r : RoomG (k + 1) A) (env : Env) : RoomG k (A.deeper env) := ⟨r.toRoom.deeper env, r.gd⟩
/-- as FnOk, called where nothing is being shown -/
structure FnG (P : Program) (w : World) (K : PySem.W.Frag) (mg : Str → Option Value) (base : Heap) (k : Nat) (f : Addr) (fd : FuncData) (ps : List Str) (sp : Sp) : Prop where
  len : ∀ vs H Q E, sp vs H Q E → vs.length = ps.length
  run : ∀ {A : Around} {outer : List Env} {s : Shared} {H : Hp} {args : Args} {us : List Value} {vs : List V} {Q : VK} {E : XK}, RoomG k A → Env0 P w K mg base A outer s H → BindsTo s fd args (ps.zip us) → Vals vs us → sp vs H Q E → codeAny (model P w) A (.call (.ref f) args) (CR CX0 outer P w H s Q E) s
section
variable {P : Program} {w : World} {K : PySem.W.Frag} {mg : Str → Option Value} {base : Heap}
theorem FnG.of {k : Nat} {f : Addr} {fd : FuncData} {ps : List Str} {sp : Sp} (F : FnOk P w K mg base CX0 k f fd ps sp) : FnG P w K mg base k f fd ps sp := ⟨F.len, fun r e b v h => F.run _ _ _ _ _ _ _ _ _ r.toRoom e b v h⟩
theorem FnG.mono {j k : Nat} {f : Addr} {fd : FuncData} {ps : List Str} {sp : Sp} (F : FnG P w K mg base j f fd ps sp) (h : j ≤ k) : FnG P w K mg base k f fd ps sp := ⟨F.len, fun r => F.run (r.mono h)⟩
/-- a def by its body -/
theorem fnG_body {x qual : Str} {st : Stmt} {f : Addr} {fd : FuncData} {N ps : List Str} {k : Nat} {sp : Sp} (FF : Fun K x qual st f fd) (S : FnScope N ps (defScope st)) (hlen : ∀ vs H Q E, sp vs H Q E → vs.length = ps.length)
    (hb : ∀ (cdv : Value) (A : Around) (outer : List Env) (s : Shared) (H : Hp) (vs : List V) (Q : VK) (E : XK), RoomG k (A.deeper (PyProof.Rows.envOfC qual (defScope st) s.heap.objs.size f cdv)) → sp vs H Q E →
      ∃ t, PSs (cxOf CX0 P w K mg base N qual (defScope st) f cdv A outer s H E).nox (defBody st) t ∧ t { nx := fun _ H' => Q .non H', rt := Q } (L2.start N vs) H) : FnG P w K mg base (k + 1) f fd ps sp := by
  obtain ⟨oc, od, kV, doc, pm, an, cdv, ct, osl, rfl, lk, hcd⟩ := FF.ex
  constructor
  · exact hlen
  intro A outer s H args us vs Q E room e0 bd rv hsp
  have old : ∀ b o, base.get? b = some o → s.heap.get? b = some o := fun b o e => (e0.bs b o e).1
  have kin : K.In s.heap := e0.mod.kin.keeps old
  refine codeAny_call_function room.toRoom.depth (kin _ _ lk) rfl S.co S.gen rfl (PySem.W.codeRec_of kin hcd) (bd _ _ _ _ ?_)
  refine PySem.wpAny_newFunctionEnv_cells S.kind (fun y hy => ?_) ?_
  · rcases S.par y.1 (List.of_mem_zip (a := y.1) (b := y.2) hy).1 with q | q
    · exact .inl q
    · exact .inr ⟨q, PySem.W.cellsFrom_some _ _ _ (.inl q)⟩
  · rintro env rfl s1 made
    obtain ⟨t, ht, start⟩ := hb cdv A outer s H vs Q E (room.deeper _) hsp
    have inv := inv_start (mg := mg) (base := base) (CX := CX0) (P := P) (w := w) (K := K) (E := E) S room.toRoom.hd e0 (hlen _ _ _ _ hsp) rv made
    refine ⟨(e0.mod.nolimit.keeps old).keeps made.toInCall.keep, codeAny_func (wpAny_mono (ht.nox.run [] s1 _ H _ inv start) (fun fl s' end_ => ?_) fun _ _ z => z)⟩
    have fin : ∀ {σ' : L2.St} {H' : Hp} {v : V} {u : Value}, Inv (cxOf CX0 P w K mg base N qual (defScope st) f cdv A outer s H E) [] σ' H' s' → RelV v u → Q v H' → CE outer P w H s Q u s' :=
      fun J r q => ⟨_, _, J.os, J.bare, J.base, J.hok, r, q⟩
    match fl, end_ with
    | .ret _, ⟨_, _, _, J, r, q⟩ => exact fin J r q
    | .next, ⟨_, _, J, q⟩ => exact fin (v := .non) (u := .none) J rfl q
    | .brk, ⟨_, _, _, q⟩ => exact q.elim
    | .cont, ⟨_, _, _, q⟩ => exact q.elim
end
/-- how arguments by position, then by name come to the parameters -/
def Kws (fd : FuncData) (ps : List Str) : Prop := ∀ (s : Shared) (us ws : List Value), (us ++ ws).length = ps.length → BindsTo s fd ⟨us, (ps.drop us.length).zip ws⟩ (ps.zip (us ++ ws))
theorem Kws.binds {K : PySem.W.Frag} {fd : FuncData} {ps : List Str} (h : Kws fd ps) : Binds K fd ps [] := fun s us _ hl => by
  have q := h s us [] hl
  rw [List.zip_nil_right] at q
  exact q
theorem kws_of {K : PySem.W.Frag} {x qual : Str} {st : Stmt} {f : Addr} {fd : FuncData} {ps : List Str} (F : Fun K x qual st f fd)
    (h : ∀ (kV doc pm : Value) (an : Option Addr) (cdv ct : Value) (us ws : List Value), (us ++ ws).length = ps.length → bindArgs (PySem.W.fnOf x qual (defArgs st) (defBody st) (defScope st) .none kV doc pm an cdv ct) ⟨us, (ps.drop us.length).zip ws⟩ = pure (ps.zip (us ++ ws))) : Kws fd ps := by
  obtain ⟨oc, od, kV, doc, pm, an, cdv, ct, osl, rfl, lk, hcd⟩ := F.ex
  exact fun s us ws hl => .of_eq (h kV doc pm an cdv ct us ws hl)
/-- the def at an address, that raises nothing -/
structure CalAt (P : Program) (w : World) (K : PySem.W.Frag) (mg : Str → Option Value) (base : Heap) (k : Nat) (f : Addr) (ps : List Str) (C : Nat) (Γ : Sg) : Prop where
  ex : ∃ (fd : FuncData), FnG P w K mg base k f fd ps (SpD K C Γ) ∧ PySem.W.keepIn K (.ref f) = true ∧ Kws fd ps
/-- .. under its name -/
structure Cal (P : Program) (w : World) (K : PySem.W.Frag) (mg : Str → Option Value) (base : Heap) (k : Nat) (x : Str) (a : Addr) (ps : List Str) (C : Nat) (Γ : Sg) : Prop where
  m : mg x = some (.ref a)
  c : CalAt P w K mg base k a ps C Γ
theorem CalAt.mono {P : Program} {w : World} {K : PySem.W.Frag} {mg : Str → Option Value} {base : Heap} {k j : Nat} {a : Addr} {ps : List Str} {C : Nat} {Γ : Sg} (c : CalAt P w K mg base k a ps C Γ) (h : k ≤ j) : CalAt P w K mg base j a ps C Γ := by
  obtain ⟨fd, F, r⟩ := c.ex
  exact ⟨fd, F.mono h, r⟩
theorem Cal.mono {P : Program} {w : World} {K : PySem.W.Frag} {mg : Str → Option Value} {base : Heap} {k j : Nat} {x : Str} {a : Addr} {ps : List Str} {C : Nat} {Γ : Sg} (c : Cal P w K mg base k x a ps C Γ) (h : k ≤ j) : Cal P w K mg base j x a ps C Γ := ⟨c.m, c.c.mono h⟩
theorem kws_run {k : Nat} {f : Addr} {fd : FuncData} {ps : List Str} {sp : Sp} {pins : List (Addr × Obj)} {σ : L2.St} {H : Hp} {s : Shared} {Q : VK} {us ws : List Value} {vs : List V} (FF : FnG X.prog X.w X.K X.mg X.base k f fd ps sp) (hr : RoomG k X.A) (hk : Kws fd ps)
    (I : L2.Inv X pins σ H s) (r : Vals vs (us ++ ws)) (h : sp vs H Q E0) : wpAny (model X.prog X.w) X.A (call (.ref f) us ((ps.drop us.length).zip ws)) (EP X pins σ Q) X.xe s := by
  have hl : (us ++ ws).length = ps.length := by rw [← r.length]; exact FF.len _ _ _ _ h
  refine wpAny_call (codeAny_mono (FF.run (args := ⟨us, (ps.drop us.length).zip ws⟩) (us := us ++ ws) (vs := vs) (Q := Q) (E := E0) hr I.env0 (hk s us ws hl) r h) fun r s' hq => ?_)
  cases r with
  | error e => exact hq.elim
  | ok fl =>
    cases fl with
    | ret u => exact I.after hq
    | next => exact hq.elim
    | brk => exact hq.elim
    | cont => exact hq.elim
theorem d_call {k : Nat} {x : Str} {af : Addr} {ps : List Str} {Γ : Sg} {p : Pos} {e : Expr} {es : List Expr} {wa : WA} (c : Cal X.prog X.w X.K X.mg X.base k x af ps C2 Γ) (hr : RoomG k X.A) (hg : Gl X x) (ha : DA X F W C1 (e :: es) wa)
    (hdb : (x == ("__debug__" : Str)) = false := by decide) (he : starEach (e :: es) X.env = (false, eval e X.env) :: starEach es X.env := by rfl) (hpl : (backTo pos (starEach es X.env)).any (·.1) = false := by rfl) :
    DE X F W (C1 + C2) (.Call (.Name x p) (e :: es) [] pos) (wCall0 Γ wa) := by
  obtain ⟨fd, FF, hk, hb⟩ := c.c.ex
  refine ⟨fun pins s σ H Q I h => ?_⟩
  obtain ⟨os, ρ, P, R, fm, bd, hw, k, kx⟩ := h
  have ht : tWA X.K F W C1 wa σ H (fun vs H2 => SpD X.K C2 Γ vs H2 Q E0) := ⟨os, ρ, _, R, fm, bd.l, hw, fun H1 vs ds f1 k1 r1 h1 => spD_of f1 (bd.r k1) r1 h1 (fun H' v d f' k' => k H' v d f' (k1.trans k')) (fun _ _ _ _ _ _ _ z => z), fun H' c d as f' g' => kx H' c d as f' (g'.le (by omega))⟩
  refine wpAny_Call_Name_kw (ld_glob I hg c.m ?_ hdb)
  refine PySem.W.callWith_K (h₀ := X.base) I.ok.mod.kin hk (thn (ha.run pos pins s σ H _ I ht) fun us s1 ⟨vs, H1, I1, r, q⟩ => ⟨I1.kIn, ?_⟩) he hpl
  have hq := kws_run (us := us) (ws := []) FF hr hb I1 (by rw [List.append_nil]; exact r) q
  rw [List.zip_nil_right] at hq
  exact hq
/-- f() -/
theorem d_call00 {k : Nat} {x : Str} {af : Addr} {ps : List Str} {Γ : Sg} {p : Pos} (c : Cal X.prog X.w X.K X.mg X.base k x af ps C Γ) (hr : RoomG k X.A) (hg : Gl X x) (hdb : (x == ("__debug__" : Str)) = false := by decide) :
    DE X F W C (.Call (.Name x p) [] [] pos) (wCall0 Γ wNil) := by
  obtain ⟨fd, FF, hk, hb⟩ := c.c.ex
  refine ⟨fun pins s σ H Q I h => ?_⟩
  obtain ⟨os, ρ, P, R, fm, bd, hw, k, kx⟩ := h
  refine wpAny_Call_Name_kw (ld_glob I hg c.m ?_ hdb)
  refine PySem.W.callWith_K0 I.kIn hk ?_
  have hq := kws_run (us := []) (ws := []) (vs := []) (Q := Q) FF hr hb I .nil (spD_of fm bd .nil hw (fun H' v d f' k' => k H' v d f' k') (fun _ _ _ _ _ _ _ z => z))
  rw [List.zip_nil_right] at hq
  exact hq
end
/-! ## a def's body -/
def startR (n : Nat) (ds : List D) : Rho := ds.map En.val ++ List.replicate (n - ds.length) En.un
theorem fm_start {K : PySem.W.Frag} {F : Fc} {N : List Str} {vs : List V} {ds : List D} {H : Hp} (b : PL.Base F H) (r : RelL K F.p F.m0 H vs ds) (hl : vs.length ≤ N.length) : Fm K F (List.replicate N.length none) (startR N.length ds) (L2.start N vs) H := by
  have hl2 : ds.length = vs.length := r.length.symm
  have nom : ∀ a, mm F (List.replicate N.length none) a → F.m0 a := fun a h => by
    rcases h with h | h
    · exact h
    · have := List.eq_of_mem_replicate h; cases this
  have no : ∀ (i : Nat) (a : Addr), (List.replicate N.length (none : Option Addr))[i]? ≠ some (some a) := fun i a h => by
    have := List.eq_of_mem_replicate (List.mem_of_getElem? h); cases this
  refine ⟨b, fun i e h => ?_, fun i a h => (no i a h).elim, fun i a h => (no i a h).elim, fun i j a h => (no i a h).elim, by simp [startR, L2.start, hl2], by simp [L2.start]; omega⟩
  have hi : i < N.length := by
    have := (List.getElem?_eq_some_iff.mp h).1
    simp [startR] at this; omega
  have ho : (List.replicate N.length (none : Option Addr))[i]? = some none := by simp [hi]
  rw [ho]
  by_cases h1 : i < ds.length
  · have e1 : (startR N.length ds)[i]? = some (.val ds[i]) := by
      unfold startR
      rw [List.getElem?_append_left (by simpa using h1)]; simp [h1]
    rw [e1] at h; cases h
    obtain ⟨v, q1, q2⟩ := r.get' (show ds[i]? = some ds[i] by simp [h1])
    refine ⟨⟨v, ?_, q2.mono Gr.refl nom⟩, rfl⟩
    unfold L2.start
    rw [List.getElem?_append_left (by simp; omega)]; simp [q1]
  · have e1 : (startR N.length ds)[i]? = some .un := by
      unfold startR
      rw [List.getElem?_append_right (by simpa using h1), List.getElem?_replicate, if_pos (by simp; omega)]
    rw [e1] at h; cases h
    rfl
/-- THE RULE for a def that raises nothing -/
theorem fn_ok {P : Program} {w : World} {K : PySem.W.Frag} {mg : Str → Option Value} {base : Heap} {x qual : Str} {st : Stmt} {f : Addr} {fd : FuncData} {N ps : List Str} {k C : Nat} {Γ : Sg} (FF : Fun K x qual st f fd) (S : FnScope N ps (defScope st)) (hN : ps.length ≤ N.length) (hlen : ∀ ds Pd R, Γ ds Pd R → ds.length = ps.length)
    (hb : ∀ (cdv : Value) (A : Around) (outer : List Env) (s : Shared) (H : Hp) (E : XK) (F : Fc), RoomG k (A.deeper (PyProof.Rows.envOfC qual (defScope st) s.heap.objs.size f cdv)) →
      ∃ (C' : Nat) (ws : WS), DSs (cxOf CX0 P w K mg base N qual (defScope st) f cdv A outer s H E).nox F WF C' (defBody st) ws ∧ C' ≤ C ∧ ∀ ds Pd R, Γ ds Pd R → ws ⟨fun _ => Pd .non, Pd, fun _ _ _ => False, fun _ => False, fun _ => False⟩ (startR N.length ds)) :
    FnG P w K mg base (k + 1) f fd ps (SpD K C Γ) := by
  refine fnG_body FF S (fun vs H Q E h => let ⟨_, ds, Pd, R, _, _, _, r, hΓ, _⟩ := h; r.length.trans (hlen ds Pd R hΓ)) (fun cdv A outer s H vs Q E hr h => ?_)
  obtain ⟨F, ds, Pd, R, b, h0, bd, r, hΓ, kq, kx⟩ := h
  have hn := r.length.trans (hlen ds Pd R hΓ)
  obtain ⟨C', ws, hd, hC, hw⟩ := hb cdv A outer s H E F hr
  refine ⟨_, hd, ?_⟩
  have out : ∀ H', PL.Base F H' → tn F.p H' ≤ tn F.p H + C' → Kp C F H H' := fun H' b' ht => ⟨b'.st, fun c u e h1 h2 => b'.keep c u (by rw [h0]; exact e) h1 h2, by omega⟩
  refine ⟨List.replicate N.length none, startR N.length ds, _, fm_start b r (by rw [hn]; exact hN), bd.le hC, hw ds Pd R hΓ, ?_, ?_, ?_, ?_, ?_⟩
  · intro os' ρ' σ' H' f' a' q
    exact kq .non H' .non (out H' f'.b a'.tb) .non q
  · intro _ _ _ _ _ _ z; exact z.elim
  · intro _ _ _ _ _ _ z; exact z.elim
  · intro H' v d b' ht rv q
    exact kq v H' d (out H' b' ht) rv q
  · intro _ _ _ _ _ _ _ _ _ _ z; exact z.elim
/-! the slots at the start, one by one -/
def sR : Nat → List D → Rho
  | 0, _ => []
  | n + 1, [] => .un :: sR n []
  | n + 1, d :: ds => .val d :: sR n ds
theorem sR_eq : ∀ {n : Nat} {ds : List D}, ds.length ≤ n → startR n ds = sR n ds
  | 0, [], _ => rfl
  | n + 1, [], h => by
    have := sR_eq (n := n) (ds := []) (Nat.zero_le _)
    show En.un :: _ = En.un :: _
    rw [← this]; rfl
  | n + 1, d :: ds, h => by
    have hl : ds.length ≤ n := by simpa using h
    have := sR_eq (n := n) (ds := ds) hl
    show En.val d :: (ds.map En.val ++ List.replicate (n + 1 - (ds.length + 1)) En.un) = En.val d :: _
    rw [← this, Nat.add_sub_add_right]; rfl
/-- .. a def of n slots -/
theorem fn_okN {P : Program} {w : World} {K : PySem.W.Frag} {mg : Str → Option Value} {base : Heap} {x qual : Str} {st : Stmt} {f : Addr} {fd : FuncData} {N ps : List Str} {k C : Nat} {Γ : Sg} (n : Nat) (FF : Fun K x qual st f fd) (S : FnScope N ps (defScope st)) (hlen : ∀ ds Pd R, Γ ds Pd R → ds.length = ps.length)
    (hb : ∀ (cdv : Value) (A : Around) (outer : List Env) (s : Shared) (H : Hp) (E : XK) (F : Fc), RoomG k (A.deeper (PyProof.Rows.envOfC qual (defScope st) s.heap.objs.size f cdv)) →
      ∃ (C' : Nat) (ws : WS), DSs (cxOf CX0 P w K mg base N qual (defScope st) f cdv A outer s H E).nox F WF C' (defBody st) ws ∧ C' ≤ C ∧ ∀ ds Pd R, Γ ds Pd R → ws ⟨fun _ => Pd .non, Pd, fun _ _ _ => False, fun _ => False, fun _ => False⟩ (sR n ds)) (hn : N.length = n := by rfl) (hN : ps.length ≤ N.length := by decide) :
    FnG P w K mg base (k + 1) f fd ps (SpD K C Γ) := fn_ok FF S hN hlen fun cdv A outer s H E F hr => by
  obtain ⟨C', ws, hd, hC, hw⟩ := hb cdv A outer s H E F hr
  refine ⟨C', ws, hd, hC, fun ds Pd R h => ?_⟩
  rw [hn, sR_eq (by rw [hlen ds Pd R h, ← hn]; exact hN)]
  exact hw ds Pd R h
end PL
set_option Elab.async false
set_option linter.all false
set_option maxRecDepth 100000
set_option maxHeartbeats 2000000
namespace PL
open PySem L2
section
variable {X : Cx} {K : PySem.W.Frag}
theorem OpR.or {f : Value → Value → Sem Value} {r r' : R2} (h : OpR X f r) (h' : OpR X f r') : OpR X f (fun x y H Q => r x y H Q ∨ r' x y H Q) := fun pins s σ H x y v u Q I rx ry q => q.elim (h pins s σ H x y v u Q I rx ry) (h' pins s σ H x y v u Q I rx ry)
theorem CallR.or {f : Value} {r r' : List V → Hp → VK → Prop} (h : CallR X f r) (h' : CallR X f r') : CallR X f (fun xs H Q => r xs H Q ∨ r' xs H Q) := fun pins s σ H xs us Q I rx q => q.elim (h pins s σ H xs us Q I rx) (h' pins s σ H xs us Q I rx)
/-! ### ints -/
def wI (C : Int → Int → Prop) (g : Int → Int → D) : D → D → (D → Prop) → Prop := fun d e P => match d, e with
  | .int i, .int j => C i j ∧ P (g i j)
  | _, _ => False
theorem sv_I0 {gv : Int → Int → V} {g : Int → Int → D} (h : ∀ i j p m H, Rel K p m H (gv i j) (g i j)) : SvOp K (rI0 gv) (wI (fun _ _ => True) g) := fun p m H x y d e P Q r1 r2 _ hw k => by
  cases d <;> first | exact hw.elim | (cases e <;> first | exact hw.elim | skip)
  cases r1; cases r2
  exact ⟨_, _, rfl, rfl, k _ _ _ (Same.refl H) (h _ _ _ _ _) hw.2⟩
theorem sv_I {C : Int → Int → Prop} {gv : Int → Int → V} {g : Int → Int → D} (h : ∀ i j p m H, Rel K p m H (gv i j) (g i j)) : SvOp K (rI C gv) (wI C g) := fun p m H x y d e P Q r1 r2 _ hw k => by
  cases d <;> first | exact hw.elim | (cases e <;> first | exact hw.elim | skip)
  cases r1; cases r2
  exact ⟨_, _, rfl, rfl, hw.1, k _ _ _ (Same.refl H) (h _ _ _ _ _) hw.2⟩
abbrev wSub := wI (fun _ _ => True) fun i j => .int (i - j)
theorem sv_sub : SvOp K (rI0 fun i j => .int (i - j)) wSub := sv_I0 fun _ _ _ _ _ => .int _
abbrev wMul := wI CMul fun i j => .int (i * j)
theorem sv_mul : SvOp K (rI CMul fun i j => .int (i * j)) wMul := sv_I fun _ _ _ _ _ => .int _
abbrev wPow := wI CPow fun i j => .int (i ^ j.toNat)
theorem sv_pow : SvOp K (rI CPow fun i j => .int (i ^ j.toNat)) wPow := sv_I fun _ _ _ _ _ => .int _
abbrev wMod := wI (fun _ j => 0 < j) fun i j => .int (i % j)
theorem sv_mod : SvOp K (rI (fun _ j => 0 < j) fun i j => .int (i % j)) wMod := sv_I fun _ _ _ _ _ => .int _
abbrev wDivW := wI CDivW fun i j => .int (i / j)
theorem sv_divW : SvOp K (rI CDivW fun i j => .int (i / j)) wDivW := sv_I fun _ _ _ _ _ => .int _
abbrev wMulW := wI CMulW fun i j => .int (i * j)
theorem sv_mulW : SvOp K (rI CMulW fun i j => .int (i * j)) wMulW := sv_I fun _ _ _ _ _ => .int _
abbrev wLt := wI (fun _ _ => True) fun i j => .bl (decide (i < j))
theorem sv_lt : SvOp K (rI0 fun i j => .bl (decide (i < j))) wLt := sv_I0 fun _ _ _ _ _ => .bl _
abbrev wLe := wI (fun _ _ => True) fun i j => .bl (decide (i ≤ j))
theorem sv_le : SvOp K (rI0 fun i j => .bl (decide (i ≤ j))) wLe := sv_I0 fun _ _ _ _ _ => .bl _
abbrev wGt := wI (fun _ _ => True) fun i j => .bl (decide (j < i))
theorem sv_gt : SvOp K (rI0 fun i j => .bl (decide (j < i))) wGt := sv_I0 fun _ _ _ _ _ => .bl _
abbrev wGe := wI (fun _ _ => True) fun i j => .bl (decide (j ≤ i))
theorem sv_ge : SvOp K (rI0 fun i j => .bl (decide (j ≤ i))) wGe := sv_I0 fun _ _ _ _ _ => .bl _
def wNeg : D → (D → Prop) → Prop := fun d P => match d with
  | .int i => P (.int (-i))
  | _ => False
theorem sv_neg : SvUn K (rU fun i => .int (-i)) wNeg := fun p m H x d P Q r _ hw k => by
  cases d <;> first | exact hw.elim | skip
  cases r
  exact ⟨_, rfl, k _ _ _ (Same.refl H) (.int _) hw⟩
/-! ### + -/
theorem inv_rdL {pins : List (Addr × Obj)} {σ : L2.St} {H : Hp} {s : Shared} {a : Addr} {xs : List V} (I : Inv X pins σ H s) (h : Rd H a (.lst xs) ∨ KL X.K a xs) : ∃ (its : List Value) (n : Nat), Vals xs its ∧ s.heap.get? a = some { cls := .type "list", data := .seq its.toArray n } ∧ xs.length ≤ sizeLine := by
  rcases h with h | ⟨its, n, h1, h2, h3⟩
  · obtain ⟨z, its, n, r, e⟩ := h.ok I.hok
    exact ⟨its, n, r, e, z⟩
  · exact ⟨its, n, h3, I.kIn _ _ h1, by rw [h3.length]; exact h2⟩
def rCatR (K : PySem.W.Frag) : R2 := fun x y H Q => ∃ l b xs zs, x = .ref l ∧ y = .ref b ∧ (Rd H l (.lst xs) ∨ KL K l xs) ∧ (Rd H b (.lst zs) ∨ KL K b zs) ∧ xs.length + zs.length ≤ sizeLine ∧ ∀ p, H p = none → Q (.ref p) (upd H p (.lst (xs ++ zs)))
theorem op_catR : OpR X (binaryOp .Add) (rCatR X.K) := fun pins s σ H x y v u Q I rx ry ⟨l, b, xs, zs, ex, ey, hl, hb, hz, q⟩ => by
  subst ex ey
  cases rx; cases ry
  obtain ⟨i1, n1, r1, e1, _⟩ := inv_rdL I hl
  obtain ⟨i2, n2, r2, e2, _⟩ := inv_rdL I hb
  have hs : i1.length + i2.length ≤ sizeLine := by rw [← r1.length, ← r2.length]; exact hz
  refine PySem.P.add_list e1 e2 ?_ (by simpa using hs)
  have ee : i1.toArray ++ i2.toArray = (i1 ++ i2).toArray := by simp
  rw [ee]
  have nf : H s.heap.objs.size = none := I.hok.fresh (Nat.le_refl _)
  exact ⟨.ref s.heap.objs.size, upd H s.heap.objs.size (.lst (xs ++ zs)), I.laid (t' := s.toks) (fun c o e => Heap.get?_push_of_some _ e) (Nat.le_refl _) ⟨by rw [List.length_append]; exact hz, _, 0, r1.append r2, Heap.get?_push_size _ rfl⟩, rfl, q _ nf⟩
def wAdd : D → D → (D → Prop) → Prop := fun d e P => match d, e with
  | .int i, .int j => P (.int (i + j))
  | .str x, .str y => x.length + y.length ≤ sizeLine ∧ P (.str (x ++ y))
  | .tup x, .tup y => x.length + y.length ≤ sizeLine ∧ P (.tup (x ++ y))
  | .lst x, .lst y => x.length + y.length ≤ sizeLine ∧ P (.lst (x ++ y))
  | _, _ => False
def rAddAny (K : PySem.W.Frag) : R2 := fun x y H Q => ((rI0 fun i j => .int (i + j)) x y H Q ∨ (∃ i j, x = .str i ∧ y = .str j ∧ i.length + j.length ≤ sizeLine ∧ Q (.str (i ++ j)) H)) ∨ (rCatA K x y H Q ∨ rCatR K x y H Q)
theorem op_addAny : OpR X (binaryOp .Add) (rAddAny X.K) := OpR.or (OpR.or op_add op_add_str) (OpR.or op_catA op_catR)
theorem sv_add : SvOp K (rAddAny K) wAdd := fun p m H x y d e P Q r1 r2 nm hw k => by
  cases d <;> first | exact hw.elim | (cases e <;> first | exact hw.elim | skip)
  · cases r1; cases r2
    exact .inl (.inl ⟨_, _, rfl, rfl, k _ _ _ (Same.refl H) (.int _) hw⟩)
  · cases r1; cases r2
    exact .inl (.inr ⟨_, _, rfl, rfl, hw.1, k _ _ _ (Same.refl H) (.str _) hw.2⟩)
  · obtain ⟨a, vs, rfl, n1, l1⟩ := r1.tupNd
    obtain ⟨b, ws, rfl, n2, l2⟩ := r2.tupNd
    refine .inr (.inl ⟨a, b, vs, ws, rfl, rfl, n1.sq, n2.sq, by rw [l1.length, l2.length]; exact hw.1, fun e => ?_, fun e1 e => ?_, fun e1 e2 q hq => ?_⟩)
    · subst e; cases l1
      exact k _ _ _ (Same.refl H) r2 (by simpa using hw.2)
    · subst e; cases l2
      exact k _ _ _ (Same.refl H) r1 (by simpa using hw.2)
    · have sm : Same H (upd H q (.tup (vs ++ ws))) := same_new hq
      exact k _ _ _ sm (.tup (.inl ⟨.inl upd_same, nm q hq⟩) ((l1.append l2).gr (Gr.of sm))) hw.2
  · obtain ⟨a, vs, rfl, n1, l1⟩ := r1.lstNd
    obtain ⟨b, ws, rfl, n2, l2⟩ := r2.lstNd
    refine .inr (.inr ⟨a, b, vs, ws, rfl, rfl, n1.imp And.left id, n2.imp And.left id, by rw [l1.length, l2.length]; exact hw.1, fun q hq => ?_⟩)
    have sm : Same H (upd H q (.lst (vs ++ ws))) := same_new hq
    exact k _ _ _ sm (.lst (.inl ⟨.inl upd_same, nm q hq⟩) ((l1.append l2).gr (Gr.of sm))) hw.2
end
end PL
set_option Elab.async false
set_option linter.all false
set_option maxRecDepth 100000
set_option maxHeartbeats 2000000
namespace PL
open PySem L2
/-! ## == -/
mutual
def pdOf : D → Option PyData
  | .non => some .none
  | .bl b => some (.bool b)
  | .int i => some (.int i)
  | .str x => some (.str x)
  | .tup xs => (pdL xs).map .tuple
  | .lst xs => (pdL xs).map .list
  | .dic _ => none
  | .tok => none
  | .fn _ => none
  | .ty _ => none
  | .exc _ _ => none
def pdL : List D → Option (List PyData)
  | [] => some []
  | x :: xs => match pdOf x, pdL xs with
    | some a, some as => some (a :: as)
    | _, _ => none
end
section
variable {K : PySem.W.Frag} {p : Addr} {m : Addr → Prop} {H : Hp}
mutual
theorem Rel.dp : ∀ {v : V} {d : D} {a : PyData}, Rel K p m H v d → pdOf d = some a → Dp K H v a
  | _, _, _, .non, e => by cases e; exact .non
  | _, _, _, .bl b, e => by cases e; exact .bl b
  | _, _, _, .int i, e => by cases e; exact .int i
  | _, _, _, .str x, e => by cases e; exact .str x
  | _, _, _, .tup (ds := ds) h r, e => by
    cases q : pdL ds with
    | none => simp [pdOf, q] at e
    | some as =>
      simp [pdOf, q] at e
      subst e
      exact .tup (h.elim (fun z => .inl z.1) .inr) (RelL.dp r q)
  | _, _, _, .lst (ds := ds) h r, e => by
    cases q : pdL ds with
    | none => simp [pdOf, q] at e
    | some as =>
      simp [pdOf, q] at e
      subst e
      exact .lst (h.elim (fun z => .inl z.1) KL.sq) (RelL.dp r q)
  | _, _, _, .dic _ _ _, e => by simp [pdOf] at e
  | _, _, _, .tok, e => by simp [pdOf] at e
  | _, _, _, .fn _, e => by simp [pdOf] at e
  | _, _, _, .ty _, e => by simp [pdOf] at e
  | _, _, _, .exc _ _, e => by simp [pdOf] at e
theorem RelL.dp : ∀ {vs : List V} {ds : List D} {as : List PyData}, RelL K p m H vs ds → pdL ds = some as → DpAll K H vs as
  | _, _, _, .nil, e => by simp [pdL] at e; subst e; exact .nil
  | _, _, _, .cons (d := d) (ds := ds) r t, e => by
    cases q1 : pdOf d with
    | none => simp [pdL, q1] at e
    | some a =>
      cases q2 : pdL ds with
      | none => simp [pdL, q1, q2] at e
      | some as =>
        simp [pdL, q1, q2] at e
        subst e
        exact .cons (Rel.dp r q1) (RelL.dp t q2)
end
end
/-- an answer, turned or not -/
def neg (n b : Bool) : Bool := if n then !b else b
def wEqs (n : Bool) : D → D → (D → Prop) → Prop := fun d e P => match d, e with
  | .str x, .str y => P (.bl (neg n (decide (x = y))))
  | .int x, .int y => P (.bl (neg n (decide (x = y))))
  | .bl x, .bl y => P (.bl (neg n (decide (x = y))))
  | .tup xs, .tup [] => P (.bl (neg n xs.isEmpty))
  | .lst xs, .lst [] => P (.bl (neg n xs.isEmpty))
  | d, e => ∃ a b, pdOf d = some a ∧ pdOf e = some b ∧ SeqAt.shaped a = true ∧ SeqAt.shaped b = true ∧ P (.bl (neg n (PyData.eqv a b)))
def rE0 (K : PySem.W.Frag) (n : Bool) : R2 := fun x y H Q => ∃ a b xs, x = .ref a ∧ y = .ref b ∧ ((SqT K H a xs ∧ SqT K H b []) ∨ (SqL K H a xs ∧ SqL K H b [])) ∧ Q (.bl (neg n xs.isEmpty)) H
section
variable {X : Cx}
theorem plainL_isList {h : Heap} {a : Addr} {its : Array Value} (p : PySem.PlainL h a its) : h.IsList a its := by
  obtain ⟨o, n, e, c, d, q⟩ := p
  exact ⟨o, e, c, n, q⟩
theorem op_eq0 (hu : X.A.units + 64 < cLine) : OpR X (compareOp .Eq) (rE0 X.K false) := fun pins s σ H x y v u Q I rx ry ⟨a, b, xs, ex, ey, h, q⟩ => by
  subst ex ey
  cases rx; cases ry
  rcases h with ⟨h1, h2⟩ | ⟨h1, h2⟩
  · obtain ⟨i1, r1, p1, _⟩ := I.tuple h1
    obtain ⟨i2, r2, p2, _⟩ := I.tuple h2
    cases r2
    refine SeqAt.eq_tupleAt (e := fun _ => true) p1 p2 (by omega) (fun j h1 h2 => by simp at h2) ⟨.bl _, H, I, rfl, ?_⟩
    have e : ((List.range (min i1.toArray.size ([] : List Value).toArray.size)).all (fun _ => true) && i1.toArray.size == ([] : List Value).toArray.size) = xs.isEmpty := by
      cases r1 <;> simp
    rw [e]; exact q
  · obtain ⟨i1, r1, p1, _⟩ := I.list h1
    obtain ⟨i2, r2, p2, _⟩ := I.list h2
    cases r2
    have l1 := plainL_isList p1
    have l2 := plainL_isList p2
    cases r1 with
    | nil =>
      refine SeqAt.eq_listAt (e := fun _ => true) l1 l2 rfl (by omega) (fun j h1 h2 => by simp at h2) ⟨.bl _, H, I, rfl, ?_⟩
      exact q
    | cons r1 r2 => exact SeqAt.eq_list_lengthsAt l1 l2 (by simp) (by omega) ⟨.bl _, H, I, rfl, q⟩
theorem op_ne0 (hu : X.A.units + 64 < cLine) : OpR X (compareOp .NotEq) (rE0 X.K true) := fun pins s σ H x y v u Q I rx ry ⟨a, b, xs, ex, ey, h, q⟩ => by
  subst ex ey
  cases rx; cases ry
  rcases h with ⟨h1, h2⟩ | ⟨h1, h2⟩
  · obtain ⟨i1, r1, p1, _⟩ := I.tuple h1
    obtain ⟨i2, r2, p2, _⟩ := I.tuple h2
    cases r2
    refine SeqAt.RcNeAt.tuples (e := fun _ => true) p1 p2 (by omega) (fun j h1 h2 => by simp at h2) _ _ _ _ ⟨.bl _, H, I, rfl, ?_⟩
    have e : (!((List.range (min i1.toArray.size ([] : List Value).toArray.size)).all (fun _ => true) && i1.toArray.size == ([] : List Value).toArray.size)) = neg true xs.isEmpty := by
      cases r1 <;> simp [neg]
    rw [e]; exact q
  · obtain ⟨i1, r1, p1, _⟩ := I.list h1
    obtain ⟨i2, r2, p2, _⟩ := I.list h2
    cases r2
    have l1 := plainL_isList p1
    have l2 := plainL_isList p2
    cases r1 with
    | nil => exact SeqAt.RcNeAt.lists (e := fun _ => true) l1 l2 rfl (by omega) (fun j h1 h2 => by simp at h2) _ _ _ _ ⟨.bl _, H, I, rfl, q⟩
    | cons r1 r2 => exact SeqAt.RcNeAt.lists_lengths l1 l2 (by simp) (by omega) _ _ _ _ ⟨.bl _, H, I, rfl, q⟩
def rEqAny (K : PySem.W.Frag) : R2 := fun x y H Q => rEq x y H Q ∨ (rE0 K false x y H Q ∨ rEqD K x y H Q)
def rNeAny (K : PySem.W.Frag) : R2 := fun x y H Q => rNe x y H Q ∨ (rE0 K true x y H Q ∨ rNeD K x y H Q)
theorem op_eqAny (hu : X.A.units + 64 < cLine) : OpR X (compareOp .Eq) (rEqAny X.K) := OpR.or op_eq (OpR.or (op_eq0 hu) (op_eqD hu))
theorem op_neAny (hu : X.A.units + 64 < cLine) : OpR X (compareOp .NotEq) (rNeAny X.K) := OpR.or op_ne (OpR.or (op_ne0 hu) (op_neD hu))
theorem eqs_inv {n : Bool} {d e : D} {P : D → Prop} (h : wEqs n d e P) : (∃ x y, d = .str x ∧ e = .str y ∧ P (.bl (neg n (decide (x = y))))) ∨ (∃ x y, d = .int x ∧ e = .int y ∧ P (.bl (neg n (decide (x = y))))) ∨ (∃ x y, d = .bl x ∧ e = .bl y ∧ P (.bl (neg n (decide (x = y))))) ∨
    (∃ xs, d = .tup xs ∧ e = .tup [] ∧ P (.bl (neg n xs.isEmpty))) ∨ (∃ xs, d = .lst xs ∧ e = .lst [] ∧ P (.bl (neg n xs.isEmpty))) ∨ ∃ a b, pdOf d = some a ∧ pdOf e = some b ∧ SeqAt.shaped a = true ∧ SeqAt.shaped b = true ∧ P (.bl (neg n (PyData.eqv a b))) := by
  unfold wEqs at h
  split at h
  · exact .inl ⟨_, _, rfl, rfl, h⟩
  · exact .inr (.inl ⟨_, _, rfl, rfl, h⟩)
  · exact .inr (.inr (.inl ⟨_, _, rfl, rfl, h⟩))
  · exact .inr (.inr (.inr (.inl ⟨_, rfl, rfl, h⟩)))
  · exact .inr (.inr (.inr (.inr (.inl ⟨_, rfl, rfl, h⟩))))
  · exact .inr (.inr (.inr (.inr (.inr h))))
theorem sv_eqs {K : PySem.W.Frag} (n : Bool) : SvOp K (if n then rNeAny K else rEqAny K) (wEqs n) := fun p m H x y d e P Q r1 r2 nm hw k => by
  have k' : ∀ b, P (.bl b) → Q (.bl b) H := fun b h => k _ _ _ (Same.refl H) (.bl b) h
  rcases eqs_inv hw with ⟨a, b, rfl, rfl, h⟩ | ⟨a, b, rfl, rfl, h⟩ | ⟨a, b, rfl, rfl, h⟩ | ⟨xs, rfl, rfl, h⟩ | ⟨xs, rfl, rfl, h⟩ | ⟨a, b, e1, e2, s1, s2, h⟩
  · cases r1; cases r2
    cases n with
    | false => exact .inl ⟨rfl, by rw [show decide (V.str a = V.str b) = decide (a = b) by simp]; exact k' _ h⟩
    | true => exact .inl ⟨rfl, by rw [show decide (V.str a = V.str b) = decide (a = b) by simp]; exact k' _ h⟩
  · cases r1; cases r2
    cases n with
    | false => exact .inl ⟨rfl, by rw [show decide (V.int a = V.int b) = decide (a = b) by simp]; exact k' _ h⟩
    | true => exact .inl ⟨rfl, by rw [show decide (V.int a = V.int b) = decide (a = b) by simp]; exact k' _ h⟩
  · cases r1; cases r2
    cases n with
    | false => exact .inl ⟨rfl, by rw [show decide (V.bl a = V.bl b) = decide (a = b) by simp]; exact k' _ h⟩
    | true => exact .inl ⟨rfl, by rw [show decide (V.bl a = V.bl b) = decide (a = b) by simp]; exact k' _ h⟩
  · obtain ⟨a, vs, rfl, n1, l1⟩ := r1.tupNd
    obtain ⟨b, ws, rfl, n2, l2⟩ := r2.tupNd
    cases l2
    have e : vs.isEmpty = xs.isEmpty := by cases l1 <;> rfl
    rw [← e] at h
    cases n with
    | false => exact .inr (.inl ⟨a, b, vs, rfl, rfl, .inl ⟨n1.sq, n2.sq⟩, k' _ h⟩)
    | true => exact .inr (.inl ⟨a, b, vs, rfl, rfl, .inl ⟨n1.sq, n2.sq⟩, k' _ h⟩)
  · obtain ⟨a, vs, rfl, n1, l1⟩ := r1.lstNd
    obtain ⟨b, ws, rfl, n2, l2⟩ := r2.lstNd
    cases l2
    have e : vs.isEmpty = xs.isEmpty := by cases l1 <;> rfl
    rw [← e] at h
    cases n with
    | false => exact .inr (.inl ⟨a, b, vs, rfl, rfl, .inr ⟨n1.sq, n2.sq⟩, k' _ h⟩)
    | true => exact .inr (.inl ⟨a, b, vs, rfl, rfl, .inr ⟨n1.sq, n2.sq⟩, k' _ h⟩)
  · cases n with
    | false => exact .inr (.inr ⟨a, b, r1.dp e1, r2.dp e2, s1, s2, k' _ h⟩)
    | true => exact .inr (.inr ⟨a, b, r1.dp e1, r2.dp e2, s1, s2, k' _ h⟩)
abbrev wEq := wEqs false
abbrev wNe := wEqs true
theorem sv_eq {K : PySem.W.Frag} : SvOp K (rEqAny K) wEq := sv_eqs false
theorem sv_ne {K : PySem.W.Frag} : SvOp K (rNeAny K) wNe := sv_eqs true
end
end PL
set_option Elab.async false
set_option linter.all false
set_option maxRecDepth 100000
set_option maxHeartbeats 2000000
namespace PL
open PySem L2
section
variable {X : Cx} {F : Fc} {W : WX} {C C1 C2 C3 : Nat} {pos : Pos} {K : PySem.W.Frag}
/-! ## is -/
def isNon : D → Bool
  | .non => true
  | _ => false
theorem dec_non {p : Addr} {m : Addr → Prop} {H : Hp} {v : V} {d : D} (r : Rel K p m H v d) : decide (v = V.non) = isNon d := by cases r <;> simp [isNon]
def wIss (n : Bool) : D → D → (D → Prop) → Prop := fun d e P => match e with
  | .non => P (.bl (neg n (isNon d)))
  | .bl b => match d with
    | .bl a => P (.bl (neg n (decide (a = b))))
    | _ => False
  | _ => False
def rIsAny : R2 := fun x y H Q => (y = .non ∧ Q (.bl (decide (x = .non))) H) ∨ rIsB x y H Q
def rNotAny : R2 := fun x y H Q => (y = .non ∧ Q (.bl (!decide (x = .non))) H) ∨ rNotB x y H Q
theorem op_isAny : OpR X (compareOp .Is) rIsAny := OpR.or op_isN op_isBl
theorem op_notAny : OpR X (compareOp .IsNot) rNotAny := OpR.or op_notN op_notBl
theorem sv_is : SvOp K rIsAny (wIss false) := fun p m H x y d e P Q r1 r2 nm hw k => by
  cases e <;> first | exact False.elim hw | skip
  · cases r2
    exact .inl ⟨rfl, by rw [dec_non r1]; exact k _ _ _ (Same.refl H) (.bl _) hw⟩
  · cases d <;> first | exact False.elim hw | skip
    cases r1; cases r2
    exact .inr ⟨_, _, rfl, rfl, k _ _ _ (Same.refl H) (.bl _) hw⟩
theorem sv_isnot : SvOp K rNotAny (wIss true) := fun p m H x y d e P Q r1 r2 nm hw k => by
  cases e <;> first | exact False.elim hw | skip
  · cases r2
    exact .inl ⟨rfl, by rw [dec_non r1]; exact k _ _ _ (Same.refl H) (.bl _) hw⟩
  · cases d <;> first | exact False.elim hw | skip
    cases r1; cases r2
    exact .inr ⟨_, _, rfl, rfl, k _ _ _ (Same.refl H) (.bl _) hw⟩
/-! ## in -/
def flatD : D → Bool
  | .non => true
  | .bl _ => true
  | .int _ => true
  | .str _ => true
  | _ => false
def eqF : D → D → Bool
  | .non, .non => true
  | .bl a, .bl b => a == b
  | .bl a, .int b => (if a then 1 else 0) == b
  | .int a, .bl b => a == (if b then 1 else 0)
  | .int a, .int b => a == b
  | .str a, .str b => a == b
  | _, _ => false
theorem flat_of {p : Addr} {m : Addr → Prop} {H : Hp} {v : V} {d : D} (r : Rel K p m H v d) : flatV v = flatD d := by cases r <;> rfl
theorem eqF_of {p : Addr} {m : Addr → Prop} {H : Hp} {v u : V} {d e : D} (r : Rel K p m H v d) (r' : Rel K p m H u e) : eqV v u = eqF d e := by cases r <;> cases r' <;> rfl
theorem flats_of {p : Addr} {m : Addr → Prop} {H : Hp} {vs : List V} {ds : List D} (r : RelL K p m H vs ds) : vs.all flatV = ds.all flatD := by
  induction ds generalizing vs with
  | nil => cases r; rfl
  | cons d ds ih =>
    cases r with
    | cons h t => rw [List.all_cons, List.all_cons, flat_of h, ih t]
theorem in_of {p : Addr} {m : Addr → Prop} {H : Hp} {v : V} {d : D} (q : Rel K p m H v d) {vs : List V} {ds : List D} (r : RelL K p m H vs ds) : inV v vs = ds.any fun y => eqF y d := by
  unfold inV
  induction ds generalizing vs with
  | nil => cases r; rfl
  | cons e ds ih =>
    cases r with
    | cons h t => rw [List.any_cons, List.any_cons, eqF_of h q, ih t]
def wIns (n : Bool) : D → D → (D → Prop) → Prop := fun d e P => match e with
  | .str z => ∃ c, d = .str ⟨#[c]⟩ ∧ P (.bl (neg n (decide (c ∈ z.cps.toList))))
  | .lst xs => flatD d = true ∧ xs.all flatD = true ∧ P (.bl (neg n (xs.any fun y => eqF y d)))
  | .tup xs => flatD d = true ∧ xs.all flatD = true ∧ P (.bl (neg n (xs.any fun y => eqF y d)))
  | _ => False
def rInSg (n : Bool) : R2 := fun x y H Q => ∃ c z, x = .str ⟨#[c]⟩ ∧ y = .str z ∧ Q (.bl (neg n (decide (c ∈ z.cps.toList)))) H
def rInAny (K : PySem.W.Frag) (n : Bool) : R2 := fun x y H Q => rInSg n x y H Q ∨ rIn K n x y H Q
theorem op_inAny : OpR X (compareOp .In) (rInAny X.K false) := OpR.or (r := rInSg false) op_in_sign op_in_seq
theorem op_ninAny : OpR X (compareOp .NotIn) (rInAny X.K true) := OpR.or (r := rInSg true) op_notIn_sign op_notIn_seq
theorem sv_in (n : Bool) : SvOp K (rInAny K n) (wIns n) := fun p m H x y d e P Q r1 r2 nm hw k => by
  have fin : ∀ b b', b = b' → P (.bl b') → Q (.bl b) H := fun b b' e h => by subst e; exact k _ _ _ (Same.refl H) (.bl _) h
  cases e <;> first | exact False.elim hw | skip
  · obtain ⟨c, rfl, h⟩ := hw
    cases r1; cases r2
    exact .inl ⟨c, _, rfl, rfl, fin _ _ rfl h⟩
  · obtain ⟨a, vs, rfl, n1, l1⟩ := r2.tupNd
    refine .inr ⟨a, vs, rfl, .inr n1.sq, by rw [flat_of r1]; exact hw.1, by rw [flats_of l1]; exact hw.2.1, fin _ _ ?_ hw.2.2⟩
    rw [in_of r1 l1]; cases n <;> rfl
  · obtain ⟨a, vs, rfl, n1, l1⟩ := r2.lstNd
    refine .inr ⟨a, vs, rfl, .inl n1.sq, by rw [flat_of r1]; exact hw.1, by rw [flats_of l1]; exact hw.2.1, fin _ _ ?_ hw.2.2⟩
    rw [in_of r1 l1]; cases n <;> rfl
/-! ## items -/
def wIx : D → D → (D → Prop) → Prop := fun d e P => match d, e with
  | .lst xs, .int i => ∃ z, atI xs i = some z ∧ P z
  | .tup xs, .int i => ∃ z, atI xs i = some z ∧ P z
  | .str x, .int i => x.length ≤ sizeLine ∧ ∃ c, atI x.cps.toList i = some c ∧ P (.str ⟨#[c]⟩)
  | _, _ => False
theorem at_of {p : Addr} {m : Addr → Prop} {H : Hp} {vs : List V} {ds : List D} (r : RelL K p m H vs ds) {i : Int} {z : D} (h : atI ds i = some z) : ∃ v, atI vs i = some v ∧ Rel K p m H v z := by
  unfold atI at h ⊢
  rw [r.length]
  cases e : ixN ds.length i with
  | none => rw [e] at h; cases h
  | some j =>
    rw [e] at h
    obtain ⟨v, h1, h2⟩ := r.get' (show ds[j]? = some z from h)
    exact ⟨v, h1, h2⟩
theorem sv_ix : SvOp K (rIx K) wIx := fun p m H x y d e P Q r1 r2 nm hw k => by
  cases d <;> first | exact False.elim hw | (cases e <;> first | exact False.elim hw | skip)
  · cases r1; cases r2
    obtain ⟨hz, c, e, h⟩ := hw
    exact .inr (.inr ⟨_, _, c, rfl, rfl, hz, e, k _ _ _ (Same.refl H) (.str _) h⟩)
  · cases r2
    obtain ⟨z, e, h⟩ := hw
    obtain ⟨a, vs, rfl, n1, l1⟩ := r1.tupNd
    obtain ⟨v, e1, r⟩ := at_of l1 e
    exact .inr (.inl ⟨a, vs, _, v, rfl, rfl, n1.sq, e1, k _ _ _ (Same.refl H) r h⟩)
  · cases r2
    obtain ⟨z, e, h⟩ := hw
    obtain ⟨a, vs, rfl, n1, l1⟩ := r1.lstNd
    obtain ⟨v, e1, r⟩ := at_of l1 e
    exact .inl ⟨a, vs, _, v, rfl, rfl, n1.sq, e1, k _ _ _ (Same.refl H) r h⟩
def keyD : D → Option Key
  | .int i => some (.inl i)
  | .str x => some (.inr x)
  | _ => none
theorem key_of {p : Addr} {m : Addr → Prop} {H : Hp} {v : V} {d : D} (r : Rel K p m H v d) {k : Key} (h : keyD d = some k) : v = kV k := by
  cases r <;> simp [keyD] at h <;> subst h <;> rfl
def wDGet (wa wb : WE) : WE := fun ρ P R => wa ρ (fun d => wb ρ (fun e => ∃ kvs k z, d = .dic kvs ∧ keyD e = some k ∧ getK kvs k = some z ∧ P z) R) R
theorem d_dget {o i : Expr} {wa wb : WE} (hu : X.A.units + 1 < cLine) (ho : DE X F W C1 o wa) (hi : DE X F W C2 i wb) (hs : NoSl i) : DE X F W (C1 + C2) (.Subscript o i pos) (wDGet wa wb) := pe_wk (pe_dget hu ho hi hs) fun σ H Q h => by
  obtain ⟨os, ρ, P, R, f, bd, hw, k, kx⟩ := h
  refine ⟨os, ρ, _, R, f, bd.l, hw, fun H1 v1 d1 f1 g1 r1 h1 => ?_, fun H' c d as f' g' => kx H' c d as f' (g'.le (by omega))⟩
  refine ⟨os, ρ, _, R, f1, bd.r g1, h1, fun H2 v2 d2 f2 g2 r2 h2 => ?_, fun H' c d as f' g' => kx H' c d as f' (g1.trans g')⟩
  obtain ⟨kvs, ky, z, rfl, e1, e2, h2⟩ := h2
  have r1' := r1.gr (f1.gr g2)
  cases r1' with
  | @dic a vs _ n nm l =>
    rcases l.get ky with ⟨q, q'⟩ | ⟨v, d, q1, q2, q3⟩
    · rw [e2] at q'; cases q'
    · rw [e2] at q2; cases q2
      refine ⟨a, v, rfl, ?_, k H2 v z f2 (g1.trans g2) q3 h2⟩
      rw [key_of r2 e1, ← q1]
      exact DGet.k n
/-! ## slices -/
abbrev WO := Rho → (Option Int → Prop) → Xr → Prop
def tWO (K : PySem.W.Frag) (F : Fc) (W : WX) (C : Nat) (w : WO) : TO := fun σ H Q => ∃ os ρ P R, Fm K F os ρ σ H ∧ Bd C F H ∧ w ρ P R ∧ (∀ H' o, Fm K F os ρ σ H' → Kp C F H H' → P o → Q o H') ∧
  ∀ H' c d as, Fm K F os ρ σ H' → Kp C F H H' → XnAt K F.p (mm F os) H' d as → R c as → W c d σ H'
abbrev DO (X : Cx) (F : Fc) (W : WX) (C : Nat) (e : Option Expr) (w : WO) : Prop := PO X e (tWO X.K F W C w)
theorem po_wk {e : Option Expr} {t t' : TO} (h : PO X e t) (k : ∀ σ H Q, t' σ H Q → t σ H Q) : PO X e t' := ⟨fun pins s σ H Q I q => h.run pins s σ H Q I (k _ _ _ q)⟩
def wNoPart : WO := fun _ P _ => P none
def wPart (wa : WE) : WO := fun ρ P R => wa ρ (fun d => ∃ i, d = .int i ∧ P (some i)) R
theorem do_none : DO X F W 0 none wNoPart := po_wk po_none fun σ H Q h => by
  obtain ⟨os, ρ, P, R, f, bd, hw, k, kx⟩ := h
  exact k H none f f.id hw
theorem do_some {e : Expr} {wa : WE} (he : DE X F W C e wa) : DO X F W C (some e) (wPart wa) := po_wk (po_some he) fun σ H Q h => by
  obtain ⟨os, ρ, P, R, f, bd, hw, k, kx⟩ := h
  refine ⟨os, ρ, _, R, f, bd, hw, fun H1 v1 d1 f1 g1 r1 h1 => ?_, kx⟩
  obtain ⟨i, rfl, h1⟩ := h1
  cases r1
  exact ⟨i, rfl, k H1 _ f1 g1 h1⟩
def cutD (xs : List D) (lo hi : Option Int) : List D := (xs.drop (HT.sIx xs.length 0 lo)).take (HT.sIx xs.length xs.length hi - HT.sIx xs.length 0 lo)
theorem RelL.cut {p : Addr} {m : Addr → Prop} {H : Hp} {vs : List V} {ds : List D} (r : RelL K p m H vs ds) (lo hi : Option Int) : RelL K p m H (cutV vs lo hi) (cutD ds lo hi) := by
  unfold cutV cutD
  rw [r.length]
  exact (r.drop _).take _
def wSlice (lo hi : Option Int) : D → (D → Prop) → Prop := fun d P => match d with
  | .tup xs => P (.tup (cutD xs lo hi))
  | .lst xs => P (.lst (cutD xs lo hi))
  | .str z => z.length ≤ sizeLine ∧ P (.str (Txt.slice z lo hi))
  | _ => False
def rSlAny (K : PySem.W.Frag) : V → Option Int → Option Int → Hp → VK → Prop := fun x lo hi H Q => rSlA K x lo hi H Q ∨ (rSlL K x lo hi H Q ∨ C8.rSlX x lo hi H Q)
theorem sl_any : SlR X (rSlAny X.K) := SlR.or sl_tupA (SlR.or sl_list C8.sl_txt)
theorem cut_whole {ds : List D} {lo hi : Option Int} (h : HT.sIx ds.length 0 lo = 0 ∧ HT.sIx ds.length ds.length hi = ds.length) : cutD ds lo hi = ds := by
  unfold cutD
  rw [h.1, h.2]; simp
theorem sv_slice {p : Addr} {m : Addr → Prop} {H : Hp} {x : V} {d : D} {lo hi : Option Int} {P : D → Prop} {Q : VK} (r : Rel K p m H x d) (nm : ∀ a, H a = none → ¬ m a) (hw : wSlice lo hi d P) (k : ∀ v H' z, Same H H' → Rel K p m H' v z → P z → Q v H') : rSlAny K x lo hi H Q := by
  cases d <;> first | exact False.elim hw | skip
  · cases r
    exact .inr (.inr ⟨_, rfl, hw.1, k _ _ _ (Same.refl H) (.str _) hw.2⟩)
  · obtain ⟨a, vs, rfl, n1, l1⟩ := r.tupNd
    refine .inl ⟨a, vs, rfl, n1.sq, fun e => ?_, fun _ q hq => ?_⟩
    · rw [l1.length] at e
      have hw' : P (.tup (cutD _ lo hi)) := hw
      rw [cut_whole e] at hw'
      exact k _ _ _ (Same.refl H) r hw'
    · have sm : Same H (upd H q (.tup (cutV vs lo hi))) := same_new hq
      exact k _ _ _ sm (.tup (.inl ⟨.inl upd_same, nm q hq⟩) ((l1.cut lo hi).gr (Gr.of sm))) hw
  · obtain ⟨a, vs, rfl, n1, l1⟩ := r.lstNd
    refine .inr (.inl ⟨a, vs, rfl, n1.sq, fun q hq => ?_⟩)
    have sm : Same H (upd H q (.lst (cutV vs lo hi))) := same_new hq
    exact k _ _ _ sm (.lst (.inl ⟨.inl upd_same, nm q hq⟩) ((l1.cut lo hi).gr (Gr.of sm))) hw
def wSl (we : WE) (wl wh : WO) : WE := fun ρ P R => we ρ (fun d => wl ρ (fun l => wh ρ (fun u => wSlice l u d P) R) R) R
theorem d_slice {e : Expr} {lo hi : Option Expr} {we : WE} {wl wh : WO} {p2 : Pos} (he : DE X F W C1 e we) (hl : DO X F W C2 lo wl) (hh : DO X F W C3 hi wh) : DE X F W (C1 + C2 + C3) (.Subscript e (.Slice lo hi none p2) pos) (wSl we wl wh) := pe_wk (pe_slice sl_any he hl hh) fun σ H Q h => by
  obtain ⟨os, ρ, P, R, f, bd, hw, k, kx⟩ := h
  refine ⟨os, ρ, _, R, f, bd.l.l, hw, fun H1 v1 d1 f1 g1 r1 h1 => ?_, fun H' c d as f' g' => kx H' c d as f' (g'.le (by omega))⟩
  refine ⟨os, ρ, _, R, f1, bd.l.r g1, h1, fun H2 l f2 g2 h2 => ?_, fun H' c d as f' g' => kx H' c d as f' ((g1.trans g').le (by omega))⟩
  refine ⟨os, ρ, _, R, f2, bd.r (g1.trans g2), h2, fun H3 u f3 g3 h3 => ?_, fun H' c d as f' g' => kx H' c d as f' ((g1.trans g2).trans g')⟩
  exact sv_slice ((r1.gr (f1.gr g2)).gr (f2.gr g3)) (fun a => f3.new) h3 fun v H' z sm rz hz => k H' v z (f3.same sm) (((g1.trans g2).trans g3).trans0 (.of f3.b.st sm)) rz hz
/-! ## len, isinstance, all, any, list, tuple, min, max, abs, int -/
def wLen : List D → (D → Prop) → Prop := fun ds P => match ds with
  | [.lst xs] => P (.int xs.length)
  | [.tup xs] => P (.int xs.length)
  | [.str x] => x.length ≤ sizeLine ∧ P (.int x.length)
  | [.dic kvs] => P (.int kvs.length)
  | _ => False
def rLenSq (K : PySem.W.Frag) : List V → Hp → VK → Prop := fun xs H Q => ∃ p ys, xs = [.ref p] ∧ (SqL K H p ys ∨ SqT K H p ys) ∧ Q (.int ys.length) H
def rLenSt : List V → Hp → VK → Prop := fun xs H Q => ∃ z, xs = [.str z] ∧ z.length ≤ sizeLine ∧ Q (.int z.length) H
def rLenDc : List V → Hp → VK → Prop := fun xs H Q => ∃ (d : Addr) (kvs : List (Key × V)), xs = [.ref d] ∧ H d = some (.dK kvs) ∧ Q (.int kvs.length) H
def rLenAny (K : PySem.W.Frag) : List V → Hp → VK → Prop := fun xs H Q => rLenSq K xs H Q ∨ (rLenSt xs H Q ∨ rLenDc xs H Q)
theorem call_lenAny : CallR X (.builtin "len") (rLenAny X.K) := CallR.or (r := rLenSq X.K) call_len_seq (CallR.or (r := rLenSt) (r' := rLenDc) call_len_str call_lenD)
theorem one_inv {p : Addr} {m : Addr → Prop} {H : Hp} {vs : List V} {d : D} (r : RelL K p m H vs [d]) : ∃ v, vs = [v] ∧ Rel K p m H v d := by
  obtain ⟨x, xs, rfl, r1, r2⟩ := r.cons_inv
  rw [r2.nil_inv]; exact ⟨x, rfl, r1⟩
theorem two_inv {p : Addr} {m : Addr → Prop} {H : Hp} {vs : List V} {d e : D} (r : RelL K p m H vs [d, e]) : ∃ v u, vs = [v, u] ∧ Rel K p m H v d ∧ Rel K p m H u e := by
  obtain ⟨x, xs, rfl, r1, r2⟩ := r.cons_inv
  obtain ⟨y, rfl, r3⟩ := one_inv r2
  exact ⟨x, y, rfl, r1, r3⟩
theorem lenK {p : Addr} {m : Addr → Prop} {H : Hp} : ∀ {vs : List (Key × V)} {ds : List (Key × D)}, RelK K p m H vs ds → vs.length = ds.length
  | _, _, .nil => rfl
  | _, _, .cons _ t => congrArg (· + 1) (lenK t)
theorem sv_len : SvC K (rLenAny K) wLen := fun p m H xs ds P Q r nm hw k => by
  have k' : ∀ i, P (.int i) → Q (.int i) H := fun i h => k _ _ _ (Same.refl H) (.int i) h
  unfold wLen at hw
  split at hw
  · obtain ⟨v, rfl, r1⟩ := one_inv r
    obtain ⟨a, vs, rfl, n1, l1⟩ := r1.lstNd
    exact .inl ⟨a, vs, rfl, .inl n1.sq, k' _ (by rw [l1.length]; exact hw)⟩
  · obtain ⟨v, rfl, r1⟩ := one_inv r
    obtain ⟨a, vs, rfl, n1, l1⟩ := r1.tupNd
    exact .inl ⟨a, vs, rfl, .inr n1.sq, k' _ (by rw [l1.length]; exact hw)⟩
  · obtain ⟨v, rfl, r1⟩ := one_inv r
    cases r1
    exact .inr (.inl ⟨_, rfl, hw.1, k' _ hw.2⟩)
  · obtain ⟨v, rfl, r1⟩ := one_inv r
    cases r1 with
    | @dic a vs es n _ l => exact .inr (.inr ⟨_, _, rfl, n, k' _ (by rw [lenK l]; exact hw)⟩)
  · exact hw.elim
/-- isinstance with a built-in type -/
def tyD : D → Option String
  | .non => some "NoneType"
  | .bl _ => some "bool"
  | .int _ => some "int"
  | .str _ => some "str"
  | .tup _ => some "tuple"
  | .lst _ => some "list"
  | .dic _ => some "dict"
  | _ => none
def isiD (a b : String) : Option Bool :=
  if b = "int" then (if a = "int" ∨ a = "bool" then some true else if a ∈ ["NoneType", "str", "tuple", "list", "dict"] then some false else none)
  else if b ∈ ["bool", "str", "tuple", "list", "dict"] then (if a = b then some true else if a ∈ ["NoneType", "bool", "int", "str", "tuple", "list", "dict"] then some false else none)
  else none
theorem isi_kit {a b : String} {r : Bool} (h : isiD a b = some r) : kitB a b = some r := by
  unfold isiD at h
  split at h
  · subst b
    split at h
    · rename_i h1
      rcases h1 with rfl | rfl <;> (cases h; decide +kernel)
    · split at h
      · rename_i h1
        simp only [List.mem_cons, List.not_mem_nil, or_false] at h1
        rcases h1 with rfl | rfl | rfl | rfl | rfl <;> (cases h; decide +kernel)
      · cases h
  · split at h
    · rename_i h1
      simp only [List.mem_cons, List.not_mem_nil, or_false] at h1
      split at h
      · rename_i h2
        subst h2
        cases h
        rcases h1 with rfl | rfl | rfl | rfl | rfl <;> decide +kernel
      · rename_i h2
        split at h
        · rename_i h3
          simp only [List.mem_cons, List.not_mem_nil, or_false] at h3
          cases h
          rcases h1 with rfl | rfl | rfl | rfl | rfl <;> rcases h3 with rfl | rfl | rfl | rfl | rfl | rfl | rfl <;> first | exact absurd rfl h2 | decide +kernel
        · cases h
    · cases h
theorem ty_of {p : Addr} {m : Addr → Prop} {H : Hp} {v : V} {d : D} (r : Rel K p m H v d) {n : String} (h : tyD d = some n) : TyX K H v (.type n) := by
  cases r <;> simp [tyD] at h <;> subst h
  · exact .base .non
  · exact .base (.bl _)
  · exact .base (.int _)
  · exact .base (.str _)
  · rename_i n _
    rcases n with ⟨q | ⟨o, q⟩, _⟩ | ⟨o, its, n, q1, q2, _⟩
    · exact .base (.tup q)
    · exact .fTuple q
    · exact .kTuple q1 q2
  · rename_i n _
    rcases n with ⟨q | ⟨o, q⟩, _⟩ | n
    · exact .base (.lst q)
    · exact .base (.frz q)
    · obtain ⟨_, _, q1, _⟩ := n
      exact .kList q1 rfl
  · rename_i q _ _
    exact .base (.dK q)
def wIsi : List D → (D → Prop) → Prop := fun ds P => match ds with
  | [d, .ty n] => ∃ t b, tyD d = some t ∧ isiD t n = some b ∧ P (.bl b)
  | _ => False
theorem sv_isi : SvC K (rIsi K) wIsi := fun p m H xs ds P Q r nm hw k => by
  unfold wIsi at hw
  split at hw
  · obtain ⟨v, u, rfl, r1, r2⟩ := two_inv r
    obtain ⟨t, b, e1, e2, h⟩ := hw
    cases r2
    exact ⟨v, .ty _, _, _, b, rfl, .ty _, ty_of r1 e1, kit_ty (isi_kit e2), k _ _ _ (Same.refl H) (.bl _) h⟩
  · exact hw.elim
def wAll : List D → (D → Prop) → Prop := fun ds P => ∃ bs : List Bool, ds = [.lst (bs.map .bl)] ∧ P (.bl (bs.all id))
def wAny : List D → (D → Prop) → Prop := fun ds P => ∃ bs : List Bool, ds = [.lst (bs.map .bl)] ∧ P (.bl (bs.any id))
theorem bls_of {p : Addr} {m : Addr → Prop} {H : Hp} {bs : List Bool} : ∀ {vs : List V}, RelL K p m H vs (bs.map D.bl) → vs = bs.map V.bl := by
  induction bs with
  | nil => intro vs r; cases r; rfl
  | cons b bs ih => intro vs r; cases r with | cons h t => cases h; rw [ih t]; rfl
theorem sv_all : SvC K (rAll K) wAll := fun p m H xs ds P Q r nm hw k => by
  obtain ⟨bs, rfl, h⟩ := hw
  obtain ⟨v, rfl, r1⟩ := one_inv r
  obtain ⟨a, vs, rfl, n1, l1⟩ := r1.lstNd
  exact ⟨a, bs, rfl, by rw [← bls_of l1]; exact n1.sq, k _ _ _ (Same.refl H) (.bl _) h⟩
theorem sv_any : SvC K (rAny K) wAny := fun p m H xs ds P Q r nm hw k => by
  obtain ⟨bs, rfl, h⟩ := hw
  obtain ⟨v, rfl, r1⟩ := one_inv r
  obtain ⟨a, vs, rfl, n1, l1⟩ := r1.lstNd
  exact ⟨a, bs, rfl, by rw [← bls_of l1]; exact n1.sq, k _ _ _ (Same.refl H) (.bl _) h⟩
def wListOf : List D → (D → Prop) → Prop := fun ds P => match ds with
  | [.lst xs] => P (.lst xs)
  | [.tup xs] => P (.lst xs)
  | _ => False
def rListOf (K : PySem.W.Frag) : List V → Hp → VK → Prop := fun xs H Q => ∃ p ys, xs = [.ref p] ∧ (SqL K H p ys ∨ SqT K H p ys) ∧ ∀ l, H l = none → Q (.ref l) (upd H l (.lst ys))
theorem call_listOf : CallR X (.type "list") (rListOf X.K) := call_list_of
theorem sv_listOf : SvC K (rListOf K) wListOf := fun p m H xs ds P Q r nm hw k => by
  unfold wListOf at hw
  split at hw
  · obtain ⟨v, rfl, r1⟩ := one_inv r
    obtain ⟨a, vs, rfl, n1, l1⟩ := r1.lstNd
    refine ⟨a, vs, rfl, .inl n1.sq, fun l hl => ?_⟩
    have sm : Same H (upd H l (.lst vs)) := same_new hl
    exact k _ _ _ sm (.lst (.inl ⟨.inl upd_same, nm l hl⟩) (l1.gr (Gr.of sm))) hw
  · obtain ⟨v, rfl, r1⟩ := one_inv r
    obtain ⟨a, vs, rfl, n1, l1⟩ := r1.tupNd
    refine ⟨a, vs, rfl, .inr n1.sq, fun l hl => ?_⟩
    have sm : Same H (upd H l (.lst vs)) := same_new hl
    exact k _ _ _ sm (.lst (.inl ⟨.inl upd_same, nm l hl⟩) (l1.gr (Gr.of sm))) hw
  · exact hw.elim
def wTupOf : List D → (D → Prop) → Prop := fun ds P => match ds with
  | [.lst xs] => P (.tup xs)
  | [.tup xs] => P (.tup xs)
  | _ => False
def rTupOf (K : PySem.W.Frag) : List V → Hp → VK → Prop := fun xs H Q => ∃ p ys, xs = [.ref p] ∧ ((SqL K H p ys ∧ ∀ l, H l = none → Q (.ref l) (upd H l (.tup ys))) ∨ (SqT K H p ys ∧ Q (.ref p) H))
theorem call_tupOf : CallR X (.type "tuple") (rTupOf X.K) := call_tuple_of
theorem sv_tupOf : SvC K (rTupOf K) wTupOf := fun p m H xs ds P Q r nm hw k => by
  unfold wTupOf at hw
  split at hw
  · obtain ⟨v, rfl, r1⟩ := one_inv r
    obtain ⟨a, vs, rfl, n1, l1⟩ := r1.lstNd
    refine ⟨a, vs, rfl, .inl ⟨n1.sq, fun l hl => ?_⟩⟩
    have sm : Same H (upd H l (.tup vs)) := same_new hl
    exact k _ _ _ sm (.tup (.inl ⟨.inl upd_same, nm l hl⟩) (l1.gr (Gr.of sm))) hw
  · obtain ⟨v, rfl, r1⟩ := one_inv r
    obtain ⟨a, vs, rfl, n1, l1⟩ := r1.tupNd
    exact ⟨a, vs, rfl, .inr ⟨n1.sq, k _ _ _ (Same.refl H) r1 hw⟩⟩
  · exact hw.elim
def wMin2 : List D → (D → Prop) → Prop := fun ds P => match ds with
  | [.int i, .int j] => P (.int (if j < i then j else i))
  | _ => False
def wMax2 : List D → (D → Prop) → Prop := fun ds P => match ds with
  | [.int i, .int j] => P (.int (if j > i then j else i))
  | _ => False
def wAbs : List D → (D → Prop) → Prop := fun ds P => match ds with
  | [.int i] => P (.int (if i < 0 then -i else i))
  | _ => False
def wInt1 : List D → (D → Prop) → Prop := fun ds P => match ds with
  | [.int i] => P (.int i)
  | [.bl b] => P (.int (if b = true then 1 else 0))
  | _ => False
theorem sv_min2 : SvC K (fun xs H Q => ∃ i j, xs = [.int i, .int j] ∧ Q (.int (if j < i then j else i)) H) wMin2 := fun p m H xs ds P Q r nm hw k => by
  unfold wMin2 at hw
  split at hw
  · obtain ⟨v, u, rfl, r1, r2⟩ := two_inv r
    cases r1; cases r2
    exact ⟨_, _, rfl, k _ _ _ (Same.refl H) (.int _) hw⟩
  · exact hw.elim
theorem sv_max2 : SvC K (fun xs H Q => ∃ i j, xs = [.int i, .int j] ∧ Q (.int (if j > i then j else i)) H) wMax2 := fun p m H xs ds P Q r nm hw k => by
  unfold wMax2 at hw
  split at hw
  · obtain ⟨v, u, rfl, r1, r2⟩ := two_inv r
    cases r1; cases r2
    exact ⟨_, _, rfl, k _ _ _ (Same.refl H) (.int _) hw⟩
  · exact hw.elim
theorem sv_abs : SvC K (fun xs H Q => ∃ i, xs = [.int i] ∧ Q (.int (if i < 0 then -i else i)) H) wAbs := fun p m H xs ds P Q r nm hw k => by
  unfold wAbs at hw
  split at hw
  · obtain ⟨v, rfl, r1⟩ := one_inv r
    cases r1
    exact ⟨_, rfl, k _ _ _ (Same.refl H) (.int _) hw⟩
  · exact hw.elim
theorem sv_int1 : SvC K (fun xs H Q => (∃ i, xs = [.int i] ∧ Q (.int i) H) ∨ ∃ k, xs = [.bl k] ∧ Q (.int (if k = true then 1 else 0)) H) wInt1 := fun p m H xs ds P Q r nm hw k => by
  unfold wInt1 at hw
  split at hw
  · obtain ⟨v, rfl, r1⟩ := one_inv r
    cases r1
    exact .inl ⟨_, rfl, k _ _ _ (Same.refl H) (.int _) hw⟩
  · obtain ⟨v, rfl, r1⟩ := one_inv r
    cases r1
    exact .inr ⟨_, rfl, k _ _ _ (Same.refl H) (.int _) hw⟩
  · exact hw.elim
end
end PL
set_option Elab.async false
set_option linter.all false
set_option maxRecDepth 100000
set_option maxHeartbeats 4000000
namespace PL
open PySem PySem.Spec PyProof.Rows L2 PySem.Calls HT
/-! ## a tuple, turned round -/
theorem adj_rev (n : Nat) : Builtin.Slice.sliceAdjust none none (-1) (n : Int) = ((n : Int) - 1, -1) := by
  unfold Builtin.Slice.sliceAdjust
  simp
theorem plc_rev (n : Nat) : Builtin.Slice.slicePlaces ((n : Int) - 1) (-1) (-1) = n := by
  unfold Builtin.Slice.slicePlaces
  have h1 : ¬ ((-1 : Int) > 0) := by omega
  simp only [h1, if_false]
  have e : ((n : Int) - 1 - -1 - 1) / (- -1) = (n : Int) - 1 := by rw [show (- -1 : Int) = 1 by decide, Int.ediv_one]; omega
  split
  · first | omega | (rw [e]; omega)
  · omega
theorem pick_rev (xs : Array Value) : ((List.range xs.size).filterMap fun (m : Nat) => xs[(((xs.size : Int) - 1) + (m : Int) * (-1)).toNat]?).toArray = xs.toList.reverse.toArray := by
  congr 1
  have e : ∀ m ∈ List.range xs.size, xs[(((xs.size : Int) - 1) + (m : Int) * (-1)).toNat]? = some (xs[xs.size - 1 - m]?.getD .none) := fun m hm => by
    have hm := List.mem_range.mp hm
    have : (((xs.size : Int) - 1) + (m : Int) * (-1)).toNat = xs.size - 1 - m := by omega
    rw [this, Array.getElem?_eq_getElem (by omega)]; rfl
  have e2 : ((List.range xs.size).filterMap fun (m : Nat) => xs[(((xs.size : Int) - 1) + (m : Int) * (-1)).toNat]?) = (List.range xs.size).map fun m => xs[xs.size - 1 - m]?.getD .none := by
    have g : ∀ l : List Nat, (∀ m ∈ l, xs[(((xs.size : Int) - 1) + (m : Int) * (-1)).toNat]? = some (xs[xs.size - 1 - m]?.getD .none)) → (l.filterMap fun (m : Nat) => xs[(((xs.size : Int) - 1) + (m : Int) * (-1)).toNat]?) = l.map fun m => xs[xs.size - 1 - m]?.getD .none := fun l => by
      induction l with
      | nil => intro _; rfl
      | cons a l ih => intro h; rw [List.filterMap_cons, h a List.mem_cons_self, ih fun m hm => h m (List.mem_cons_of_mem _ hm)]; rfl
    exact g _ e
  rw [e2]
  refine List.ext_getElem (by simp) fun i h1 h2 => ?_
  have hi : i < xs.size := by simpa using h1
  rw [List.getElem_map, List.getElem_range, List.getElem_reverse, Array.getElem?_eq_getElem (by omega)]
  simp
section
variable {prog : Program} {w : World} {A : Around} {E : Value → Shared → Prop} {s : Shared}
theorem applied_rev {sl : Addr} {tk : Tok} {n : Nat} {Q : Int × Int × Nat → Shared → Prop} (hs : s.heap.IsSliceOf sl .none .none (.int (-1) tk)) (h : Q ((n : Int) - 1, -1, n) s) : wpAny (model prog w) A (Builtin.Slice.sliceApplied (.ref sl) (pure (n : Int))) Q E s := by
  obtain ⟨ob, e1, e2, e3⟩ := id hs
  unfold Builtin.Slice.sliceApplied Builtin.Slice.sliceFields
  refine wpAny_bind (wpAny_bind (wpAny_field e1 e3 (x := .none) rfl (wpAny_bind (wpAny_field e1 e3 (x := .none) rfl (wpAny_bind (wpAny_field e1 e3 (x := .int (-1) tk) rfl (wpAny_pure ?_)))))))
  refine wpAny_bind (slicePart_int ?_)
  show wpAny _ _ (if ((-1 : Int) == 0) = true then _ else _) _ _ s
  rw [if_neg (show ¬ ((-1 : Int) == 0) = true by decide)]
  refine wpAny_bind (slicePart_none (wpAny_bind (slicePart_none (wpAny_bind (wpAny_pure ?_)))))
  show wpAny _ _ (match Builtin.Slice.sliceAdjust none none (-1) (n : Int) with | (lo, hi) => pure (lo, (-1 : Int), Builtin.Slice.slicePlaces lo hi (-1))) _ _ s
  rw [adj_rev n]
  show wpAny _ _ (pure ((n : Int) - 1, (-1 : Int), Builtin.Slice.slicePlaces ((n : Int) - 1) (-1) (-1))) _ _ s
  rw [plc_rev]
  exact wpAny_pure h
theorem item_rev {t sl : Addr} {tk : Tok} {items : Array Value} {Q : Value → Shared → Prop} (ht : IsTup s.heap t items) (hs : s.heap.IsSliceOf sl .none .none (.int (-1) tk)) (hz : items.size ≤ sizeLine)
    (h : Q (.ref s.heap.objs.size) { s with heap := s.heap.push { cls := .type "tuple", data := .seq items.toList.reverse.toArray } }) : wpAny (model prog w) A (getItem (.ref t) (.ref sl)) Q E s := by
  have hok : sizeOk (.seq items.toList.reverse.toArray) := by
    show items.toList.reverse.toArray.size ≤ sizeLine
    simpa using hz
  obtain ⟨ob, e1, e2, e3⟩ := id hs
  have isS : s.TypeIs (.ref sl) "slice" := ⟨ob, e1, e2⟩
  unfold getItem
  try with_reducible refine wpAny_holding ?_
  first | refine wpAny_bind (wpAny_pure ?_) | skip
  refine wpAny_bind (wpAny_sequenceKey ht.typeIs (by decide) (wpAny_bind (wpAny_callSpecial?_slot (name := Str.ofString "__getitem__") ht.typeIs PyProof.Rows.slot_tuple_getitem (wpAny_call_entry PyProof.Rows.slot_tuple_getitem ht.typeIs entry_tuple_getitem ?_ (args_tuple_getitem _ _)))))
  show wpAny _ _ (Builtin.Tuple.tupleItemsOf (.ref t) >>= _) _ _ s
  refine wpAny_bind (tupleItemsOf_ ht (wpAny_bind (wpAny_typeOf isS ?_)))
  rw [if_pos (by decide)]
  refine wpAny_bind (applied_rev hs ?_)
  have hno : ¬ ((((items.size : Int) - 1) == 0 && (-1 : Int) == 1 && items.size == items.size) = true) := by simp
  show wpAny _ _ (if ((((items.size : Int) - 1) == 0 && (-1 : Int) == 1 && items.size == items.size)) = true then _ else _) _ _ s
  rw [if_neg hno, pick_rev]
  first
    | exact wpAny_bind (m := Builtin.Tuple.tupleExact _) (wpAny_newObj_type (wpAny_pure ⟨_, rfl, wpAny_pure h⟩) hok)
    | exact wpAny_bind (m := Builtin.Tuple.tupleExact _) (wpAny_newObj_type (wpAny_bind (wpAny_pure (wpAny_pure ⟨_, rfl, wpAny_pure h⟩))) hok)
    | exact wpAny_bind (wpAny_bind (m := Builtin.Tuple.tupleExact _) (wpAny_newObj_type (wpAny_pure (wpAny_pure ⟨_, rfl, wpAny_pure h⟩)) hok))
    | exact wpAny_bind (wpAny_bind (m := Builtin.Tuple.tupleExact _) (wpAny_newObj_type (wpAny_pure ⟨_, rfl, wpAny_pure h⟩) hok))
end
end PL
set_option Elab.async false
set_option linter.all false
set_option maxRecDepth 100000
set_option maxHeartbeats 4000000
namespace PL
open PySem L2
section
variable {X : Cx} {F : Fc} {W : WX} {C C1 C2 C3 : Nat} {pos : Pos} {K : PySem.W.Frag}
/-! ## dicts written -/
theorem d_dnew : DE X F W 0 (.Dict [] [] pos) (wC (.dic [])) := pe_wk pe_dnewK fun σ H Q h => by
  obtain ⟨os, ρ, P, R, f, bd, hw, k, kx⟩ := h
  intro p hp
  have sm : Same H (upd H p (.dK [])) := same_new hp
  exact k _ _ _ (f.same sm) (.of f.b.st sm) (.dic upd_same (f.new hp) .nil) hw
/-- the values under written keys -/
def tWP (K : PySem.W.Frag) (C : Nat) (ks : List Key) (wa : WA) : St → Hp → (List (V × V) → Hp → Prop) → Prop := fun σ H Q => ∃ F os ρ P, Fm K F os ρ σ H ∧ Bd C F H ∧ wa ρ P (fun _ _ => False) ∧ ∀ H' vs ds, Fm K F os ρ σ H' → Kp C F H H' → RelL K F.p (mm F os) H' vs ds → P ds → vs.length = ks.length ∧ Q ((ks.zip vs).map fun kv => (kV kv.1, kv.2)) H'
structure DPs (X : Cx) (C : Nat) (pos : Pos) (keys : List (Option Expr)) (values : List Expr) (ks : List Key) (wa : WA) : Prop where
  ex : ∃ trs, PPs X pos keys values trs ∧ ∀ σ H Q, tWP X.K C ks wa σ H Q → tPairs trs σ H Q
theorem dp_nil : DPs X 0 pos [] [] [] wNil := ⟨⟨_, pps_nil, fun σ H Q ⟨F, os, ρ, P, f, bd, hw, k⟩ => (k H [] [] f f.id .nil hw).2⟩⟩
theorem dp_cons {k v : Expr} {ks : List (Option Expr)} {vs : List Expr} {ky : Key} {kys : List Key} {wv : WE} {wr : WA} (hk : PE X k (tC (kV ky))) (hv : ∀ F, DE X F WF C1 v wv) (hr : DPs X C2 pos ks vs kys wr) : DPs X (C1 + C2) pos (some k :: ks) (v :: vs) (ky :: kys) (wCons wv wr) := by
  obtain ⟨trs, hp, himp⟩ := hr.ex
  refine ⟨⟨_, pps_cons hk (tv := fun σ H Q => ∃ F, tW X.K F WF C1 wv σ H Q) ⟨fun pins s σ H Q I ⟨F, q⟩ => (hv F).run pins s σ H Q I q⟩ hp, fun σ H Q ⟨F, os, ρ, P, f, bd, hw, q⟩ => ?_⟩⟩
  show ∃ F, tW X.K F WF C1 wv σ H _
  refine ⟨F, os, ρ, _, _, f, bd.l, hw, fun H1 v1 d1 f1 g1 r1 h1 => himp _ _ _ ⟨F, os, ρ, _, f1, bd.r g1, h1, fun H2 vs ds f2 g2 r2 h2 => ?_⟩, fun _ _ _ _ _ _ _ z => z⟩
  obtain ⟨hl, hq⟩ := q H2 (v1 :: vs) (d1 :: ds) f2 (g1.trans g2) (.cons (r1.gr (f1.gr g2)) r2) h2
  exact ⟨by simpa using hl, hq⟩
def wDic (ks : List Key) (wa : WA) : WE := fun ρ P R => wa ρ (fun ds => ds.length = ks.length ∧ P (.dic (ks.zip ds))) (fun _ _ => False)
theorem mergeK_nodup : ∀ (kvs acc : List (Key × V)), ((acc ++ kvs).map (·.1)).Nodup → mergeK acc kvs = acc ++ kvs
  | [], acc, _ => by simp [mergeK]
  | (k, v) :: r, acc, h => by
    show mergeK (putK acc k v) r = _
    have hk : (acc.any fun kv => decide (kv.1 = k)) = false := by
      rw [List.any_eq_false]
      intro kv hkv
      have h2 : k ∉ acc.map (·.1) := fun hm => by
        rw [List.map_append, List.nodup_append] at h
        exact h.2.2 k hm k (by simp) rfl
      simp only [decide_eq_true_eq]
      exact fun e => h2 (List.mem_map.mpr ⟨kv, hkv, e⟩)
    have e : putK acc k v = acc ++ [(k, v)] := by unfold putK; rw [if_neg (by rw [hk]; decide)]
    rw [e, mergeK_nodup r (acc ++ [(k, v)]) (by simpa using h)]
    simp
theorem relK_zip {p : Addr} {m : Addr → Prop} {H : Hp} : ∀ {ks : List Key} {vs : List V} {ds : List D}, RelL K p m H vs ds → RelK K p m H (ks.zip vs) (ks.zip ds)
  | [], _, _, _ => by simp; exact .nil
  | _ :: _, _, _, .nil => by simp; exact .nil
  | _ :: _, _, _, .cons r t => .cons r (relK_zip t)
theorem d_dic {keys : List (Option Expr)} {values : List Expr} {ks : List Key} {wa : WA} (h : DPs X C pos keys values ks wa) (hn : ks.Nodup) (hall : keys.all (·.isSome) = true) (hl : keys.length = values.length) (h0 : keys ≠ []) (h15 : keys.length ≤ 15) (hk15 : ks.length ≤ 15) : DE X F W C (.Dict keys values pos) (wDic ks wa) := by
  obtain ⟨trs, hp, himp⟩ := h.ex
  refine pe_wk (pe_disp hp hall hl h0 h15) fun σ H Q h => ?_
  obtain ⟨os, ρ, P, R, f, bd, hw, k, kx⟩ := h
  intro Da hDa
  have sm : Same H (upd H Da (.dK [])) := same_new hDa
  have f1 := f.same sm
  have hd0 : F.H0 Da = none := Fm.new0 f.b hDa
  have hdo : ∀ i : Nat, os[i]? ≠ some (some Da) := fun i z => by
    obtain ⟨vs, q⟩ := f.own i Da z
    rw [hDa] at q; cases q
  obtain ⟨np, ng, nc⟩ := f.b.ne hd0
  have g : G2 (mm F os) H (mm (F.ext Da (.dK [])) os) (upd H Da (.dK [])) := fun b u e n => ⟨sm b u e, fun z => by
    rcases mm_ext.mp z with z | z
    · exact n z
    · rw [z, hDa] at e; cases e⟩
  have fe : Fm X.K (F.ext Da (.dK [])) os ρ σ (upd H Da (.dK [])) := f.ext hd0 hdo (fun b u hb e => by rw [upd_ne hb]; exact e) upd_same (fun v d r => r.mono2 g) (fun v d r => r.mono2 g)
  have t0 : tn F.p (upd H Da (.dK [])) = tn F.p H := tn_eq (upd_ne np.symm)
  refine himp _ _ _ ⟨F.ext Da (.dK []), os, ρ, _, fe, by unfold Bd at *; show tn F.p _ + C ≤ _; rw [t0]; exact bd, hw, fun H2 vs ds f2 g2 r2 h2 => ⟨by rw [r2.length]; exact h2.1, ?_⟩⟩
  have hl2 : vs.length = ks.length := by rw [r2.length]; exact h2.1
  refine ⟨g2.k _ _ upd_same np ng, ks.zip vs, rfl, by rw [List.length_zip]; omega, ?_⟩
  rw [mergeK_nodup _ [] (by rw [List.nil_append, List.map_fst_zip (by omega)]; exact hn), List.nil_append]
  have hn2 : ¬ mm F os Da := f.new hDa
  have em : ∀ a, mm F os a → mm (F.ext Da (.dK [])) os a := fun a z => mm_ext.mpr (.inl z)
  have g3 : G2 (mm (F.ext Da (.dK [])) os) H2 (mm F os) (upd H2 Da (.dK (ks.zip vs))) := fun b u e n => ⟨by rw [upd_ne (show b ≠ Da from fun z => n (mm_ext.mpr (.inr z)))]; exact e, fun z => n (em b z)⟩
  have k1 : Kp C F H (upd H2 Da (.dK (ks.zip vs))) := ⟨g2.st.keep fun b u e hb => by
      have : b ≠ Da := by rcases hb with rfl | rfl | rfl <;> first | exact np.symm | exact ng.symm | exact nc.symm
      rw [upd_ne this]; exact e, fun b u e h1 h2 => by rw [upd_ne (ne_of_none e hDa)]; exact g2.k b u (sm b u e) h1 h2, by
      have e1 : tn F.p (upd H2 Da (.dK (ks.zip vs))) = tn F.p H2 := tn_eq (upd_ne np.symm)
      have e2 : tn F.p H2 ≤ tn F.p (upd H Da (.dK [])) + C := g2.tb
      rw [e1]; rw [t0] at e2; exact e2⟩
  exact k _ _ _ (f.kp k1) k1 (.dic upd_same hn2 (relK_zip (r2.mono2 g3))) h2.2
/-! ## calls with keywords; of a def that a name holds -/
abbrev DKw (X : Cx) (F : Fc) (W : WX) (C : Nat) (kws : List Keyword) (w : WA) : Prop := PK X kws (tWA X.K F W C w)
theorem pk_wk {e : List Keyword} {t t' : TA} (h : PK X e t) (k : ∀ σ H Q, t' σ H Q → t σ H Q) : PK X e t' := ⟨fun pos pins s σ H Q I q => h.run pos pins s σ H Q I (k _ _ _ q)⟩
theorem dk_nil : DKw X F W 0 [] wNil := pk_wk pk_nil fun σ H Q h => by
  obtain ⟨os, ρ, P, R, f, bd, hw, k, _⟩ := h
  exact k H [] [] f f.id .nil hw
theorem dk_cons {e : Expr} {kws : List Keyword} {nm : Option Str} {kpos : Pos} {wa : WE} {wr : WA} (ha : DE X F W C1 e wa) (hr : DKw X F W C2 kws wr) : DKw X F W (C1 + C2) (⟨nm, e, kpos⟩ :: kws) (wCons wa wr) :=
  pk_wk (pk_cons ha hr) fun σ H Q h => tCons_wk h
/-- what a name may hold -/
def wVarF (i : Nat) (S : Addr → Option Sg) (wa : WA) : WE := fun ρ P R => ∃ a Γ, ρ[i]? = some (.val (.fn a)) ∧ S a = some Γ ∧ wa ρ (fun ds => Γ ds P fun _ _ => False) R
theorem fn_slot {os : List (Option Addr)} {ρ : Rho} {σ : L2.St} {H : Hp} {i : Nat} {a : Addr} (f : Fm K F os ρ σ H) (h : ρ[i]? = some (.val (.fn a))) : σ[i]? = some (some (.ref a)) := by
  obtain ⟨⟨x, e, r⟩, _⟩ := f.slots i _ h
  cases r; exact e
/-- f(e, ..), f a name of the def -/
theorem d_callV {k i : Nat} {x : Str} {p : Pos} {e : Expr} {es : List Expr} {S : Addr → Option Sg} {wa : WA} (hS : ∀ a Γ, S a = some Γ → ∃ ps, CalAt X.prog X.w X.K X.mg X.base k a ps C2 Γ) (hr : RoomG k X.A) (hN : X.N[i]? = some x) (hv : Vis X.env.scope x) (ha : DA X F W C1 (e :: es) wa)
    (hdb : (x == ("__debug__" : Str)) = false := by decide) (hcd : (x == ("__classdict__" : Str)) = false := by decide) (he : starEach (e :: es) X.env = (false, eval e X.env) :: starEach es X.env := by rfl) (hpl : (backTo pos (starEach es X.env)).any (·.1) = false := by rfl) :
    DE X F W (C1 + C2) (.Call (.Name x p) (e :: es) [] pos) (wVarF i S wa) := by
  refine ⟨fun pins s σ H Q I h => ?_⟩
  obtain ⟨os, ρ, P, R, f, bd, ⟨a, Γ, h1, h2, hw⟩, k, kx⟩ := h
  obtain ⟨ps, c⟩ := hS a Γ h2
  obtain ⟨fd, FF, hk, hb⟩ := c.ex
  have hN' : (X.N)[i]? = some x := hN
  refine wpAny_Call_Name_kw (thn ((pe_var (pos := p) hN hv hdb hcd).run pins s σ H (fun v H1 => v = .ref a ∧ H1 = H) I ⟨.ref a, fn_slot f h1, rfl, rfl⟩) fun u s1 ⟨v, H1, I1, r1, q1⟩ => ?_)
  obtain ⟨rfl, rfl⟩ := q1
  cases r1
  have ht : tWA X.K F W C1 wa σ H1 (fun vs H2 => SpD X.K C2 Γ vs H2 Q E0) := ⟨os, ρ, _, R, f, bd.l, hw, fun H2 vs ds f2 k2 r2 h3 => spD_of f2 (bd.r k2) r2 h3 (fun H' v d f' k' => k H' v d f' (k2.trans k')) (fun _ _ _ _ _ _ _ z => z), fun H' c d as f' g' => kx H' c d as f' (g'.le (by omega))⟩
  refine PySem.W.callWith_K (h₀ := X.base) I.ok.mod.kin hk (thn (ha.run pos pins s1 σ _ _ I1 ht) fun us s2 ⟨vs, H2, I2, r, q⟩ => ⟨I2.kIn, ?_⟩) he hpl
  have hq := kws_run (us := us) (ws := []) FF hr hb I2 (by rw [List.append_nil]; exact r) q
  rw [List.zip_nil_right] at hq
  exact hq
/-- f(x = e, ..), f a name of the def -/
theorem d_callVK {k i : Nat} {x : Str} {p : Pos} {kws : List Keyword} {S : Addr → Option Sg} {wa : WA} (ks : List Str) (hS : ∀ a Γ, S a = some Γ → CalAt X.prog X.w X.K X.mg X.base k a ks C2 Γ) (hr : RoomG k X.A) (hN : X.N[i]? = some x) (hv : Vis X.env.scope x) (ha : DKw X F W C1 kws wa)
    (hall : (backToKw pos (keywordEach kws X.env)).all (·.1.isSome) = true := by rfl) (hks : (backToKw pos (keywordEach kws X.env)).filterMap (·.1) = ks := by rfl)
    (hdb : (x == ("__debug__" : Str)) = false := by decide) (hcd : (x == ("__classdict__" : Str)) = false := by decide) (hpl : ((backTo pos (starEach [] X.env)).any (·.1) || (backToKw pos (keywordEach kws X.env)).any (·.1.isNone)) = false := by rfl) :
    DE X F W (C1 + C2) (.Call (.Name x p) [] kws pos) (wVarF i S wa) := by
  refine ⟨fun pins s σ H Q I h => ?_⟩
  obtain ⟨os, ρ, P, R, f, bd, ⟨a, Γ, h1, h2, hw⟩, k, kx⟩ := h
  obtain ⟨fd, FF, hk, hb⟩ := (hS a Γ h2).ex
  refine wpAny_Call_Name_kw (thn ((pe_var (pos := p) hN hv hdb hcd).run pins s σ H (fun v H1 => v = .ref a ∧ H1 = H) I ⟨.ref a, fn_slot f h1, rfl, rfl⟩) fun u s1 ⟨v, H1, I1, r1, q1⟩ => ?_)
  obtain ⟨rfl, rfl⟩ := q1
  cases r1
  have ht : tWA X.K F W C1 wa σ H1 (fun vs H2 => SpD X.K C2 Γ vs H2 Q E0) := ⟨os, ρ, _, R, f, bd.l, hw, fun H2 vs ds f2 k2 r2 h3 => spD_of f2 (bd.r k2) r2 h3 (fun H' v d f' k' => k H' v d f' (k2.trans k')) (fun _ _ _ _ _ _ _ z => z), fun H' c d as f' g' => kx H' c d as f' (g'.le (by omega))⟩
  refine PySem.W.callWith_KW0 (h₀ := X.base) I.ok.mod.kin hk hall (thn (ha.run pos pins s1 σ _ _ I1 ht) fun us s2 ⟨vs, H2, I2, r, q⟩ => ⟨I2.kIn, ?_⟩) hpl
  rw [hks]
  exact kws_run (us := []) (ws := us) FF hr hb I2 r q
/-- f(x = e, ..), f of the module -/
theorem d_callK0 {k : Nat} {x : Str} {af : Addr} {p : Pos} {kws : List Keyword} {Γ : Sg} {wa : WA} (ks : List Str) (c : Cal X.prog X.w X.K X.mg X.base k x af ks C2 Γ) (hr : RoomG k X.A) (hg : Gl X x) (ha : DKw X F W C1 kws wa)
    (hall : (backToKw pos (keywordEach kws X.env)).all (·.1.isSome) = true := by rfl) (hks : (backToKw pos (keywordEach kws X.env)).filterMap (·.1) = ks := by rfl)
    (hdb : (x == ("__debug__" : Str)) = false := by decide) (hpl : ((backTo pos (starEach [] X.env)).any (·.1) || (backToKw pos (keywordEach kws X.env)).any (·.1.isNone)) = false := by rfl) :
    DE X F W (C1 + C2) (.Call (.Name x p) [] kws pos) (wCall0 Γ wa) := by
  refine ⟨fun pins s σ H Q I h => ?_⟩
  obtain ⟨os, ρ, P, R, f, bd, hw, k, kx⟩ := h
  obtain ⟨fd, FF, hk, hb⟩ := c.c.ex
  have ht : tWA X.K F W C1 wa σ H (fun vs H2 => SpD X.K C2 Γ vs H2 Q E0) := ⟨os, ρ, _, R, f, bd.l, hw, fun H2 vs ds f2 k2 r2 h3 => spD_of f2 (bd.r k2) r2 h3 (fun H' v d f' k' => k H' v d f' (k2.trans k')) (fun _ _ _ _ _ _ _ z => z), fun H' c d as f' g' => kx H' c d as f' (g'.le (by omega))⟩
  refine wpAny_Call_Name_kw (ld_glob I hg c.m ?_ hdb)
  refine PySem.W.callWith_KW0 (h₀ := X.base) I.ok.mod.kin hk hall (thn (ha.run pos pins s σ _ _ I ht) fun us s2 ⟨vs, H2, I2, r, q⟩ => ⟨I2.kIn, ?_⟩) hpl
  rw [hks]
  exact kws_run (us := []) (ws := us) FF hr hb I2 r q
end
end PL
set_option Elab.async false
set_option linter.all false
set_option maxRecDepth 100000
set_option maxHeartbeats 4000000
namespace PL
open PySem PySem.Spec PyProof.Rows L2 PySem.Calls HT
section
variable {X : Cx} {F : Fc} {W : WX} {C C1 C2 C3 : Nat} {pos : Pos} {K : PySem.W.Frag}
/-- t[::-1] -/
def tRevT (K : PySem.W.Frag) (te : TE) : TE := fun σ H Q => te σ H fun x H1 => ∃ a xs, x = .ref a ∧ SqT K H1 a xs ∧ ∀ p, H1 p = none → Q (.ref p) (upd H1 p (.tup xs.reverse))
theorem pe_revT {e : Expr} {te : TE} {k : Nat} {p1 p2 p3 : Pos} (he : PE X e te) : PE X (.Subscript e (.Slice none none (some (.UnaryOp .USub (.Constant (.int 1) k p1) p2)) p3) pos) (tRevT X.K te) := by
  refine ⟨fun pins s σ H Q I h => ?_⟩
  refine Subscript_ (thn (he.run pins s σ H _ I h) fun v s1 ⟨x, H1, I1, r1, a, xs, ex, hx, q⟩ => ?_)
  subst ex
  cases r1
  have st : PO X (some (.UnaryOp .USub (.Constant (.int 1) k p1) p2)) (tPart (tUn (rU fun i => .int (-i)) (tC (.int 1)))) := po_some (pe_un un_neg pe_int)
  refine wpAny_Slice (thn (po_none.run pins s1 σ H1 (fun o G => o = none ∧ G = H1) I1 ⟨rfl, rfl⟩) fun vl s2 ⟨l, H2, I2, pl, el, e2⟩ => thn (po_none.run pins s2 σ H2 (fun o G => o = none ∧ G = H2) I2 ⟨rfl, rfl⟩) fun vu s3 ⟨u, H3, I3, pu, eu, e3⟩ => thn (st.run pins s3 σ H3 (fun o G => o = some (-1) ∧ G = H3) I3 ⟨1, rfl, -1, rfl, rfl, rfl⟩) fun vs s4 ⟨o, H4, I4, ps, eo, e4⟩ => ?_)
  subst el e2 eu e3 eo e4
  have I5 : L2.Inv X pins σ H4 { s4 with heap := s4.heap.push { cls := .type "slice", data := .fields #[vl, vu, vs] } } := I4.kept (t' := s4.toks) fun b ob q => Heap.get?_push_of_some _ q
  obtain ⟨its, r, ht, hz⟩ := I5.tuple hx
  cases pl; cases pu
  cases ps with
  | int i tk =>
    show wpAny (model X.prog X.w) X.A (subscriptTail e (.Slice none none (some (.UnaryOp .USub (.Constant (.int 1) k p1) p2)) p3) (.ref a) (.ref s4.heap.objs.size)) (EP X pins σ Q) X.xe { s4 with heap := s4.heap.push { cls := .type "slice", data := .fields #[.none, .none, .int (-1) tk] } }
    refine tail_any (ops := [.ref a, .ref s4.heap.objs.size]) ht.typeIs (PyProof.Rows.slot_tuple_getitem.lookup) ?_ (by with_unfolding_all rfl)
    refine item_rev ht (Heap.IsSliceOf.new _ _ _ _) (by rw [List.size_toArray, ← r.length]; exact hz) ?_
    refine ⟨.ref _, _, I5.laid (t' := s4.toks) (o := .tup xs.reverse) (fun b ob q => Heap.get?_push_of_some _ q) (Nat.le_refl _) ?_, rfl, q _ (I5.hok.fresh (Nat.le_refl _))⟩
    exact ⟨by rw [List.length_reverse]; exact hz, _, by simpa using r.reverse, IsTup.new _ _⟩
def wRev (we : WE) : WE := fun ρ P R => we ρ (fun d => ∃ xs, d = .tup xs ∧ P (.tup xs.reverse)) R
theorem RelL.reverse {p : Addr} {m : Addr → Prop} {H : Hp} {vs : List V} {ds : List D} (r : RelL K p m H vs ds) : RelL K p m H vs.reverse ds.reverse := by
  induction ds generalizing vs with
  | nil => cases r; exact .nil
  | cons d ds ih =>
    cases r with
    | cons h t => rw [List.reverse_cons, List.reverse_cons]; exact (ih t).append (.cons h .nil)
theorem d_revT {e : Expr} {we : WE} {k : Nat} {p1 p2 p3 : Pos} (he : DE X F W C e we) : DE X F W C (.Subscript e (.Slice none none (some (.UnaryOp .USub (.Constant (.int 1) k p1) p2)) p3) pos) (wRev we) := pe_wk (pe_revT he) fun σ H Q h => by
  obtain ⟨os, ρ, P, R, f, bd, hw, k, kx⟩ := h
  refine ⟨os, ρ, _, R, f, bd, hw, fun H1 v1 d1 f1 g1 r1 h1 => ?_, kx⟩
  obtain ⟨xs, rfl, h1⟩ := h1
  obtain ⟨a, vs, rfl, n1, l1⟩ := r1.tupNd
  refine ⟨a, vs, rfl, n1.sq, fun q hq => ?_⟩
  have sm : Same H1 (upd H1 q (.tup vs.reverse)) := same_new hq
  exact k _ _ _ (f1.same sm) (g1.trans0 (.of f1.b.st sm)) (.tup (.inl ⟨.inl upd_same, f1.new hq⟩) ((RelL.reverse l1).gr (Gr.of sm))) h1
/-- (x, ..) * n -/
def rRepW (K : PySem.W.Frag) : R2 := fun x y H Q => ∃ l k xs, x = .ref l ∧ y = .int k ∧ SqT K H l xs ∧ xs ≠ [] ∧ 2 ≤ k ∧ k ≤ 100000 ∧ xs.length ≤ 10 ∧ ∀ p, H p = none → Q (.ref p) (upd H p (.tup (List.replicate k.toNat xs).flatten))
theorem op_repW : OpR X (binaryOp .Mult) (rRepW X.K) := fun pins s σ H x y v u Q I rx ry ⟨l, k, xs, ex, ey, hT, hne, h1, h2, hz, q⟩ => by
  subst ex ey
  cases rx
  obtain ⟨t, rfl⟩ := ry
  obtain ⟨its, r, ⟨⟨cls, dd, data, sl⟩, ho, hc, n, hd⟩, hs⟩ := I.tuple hT
  simp only at hc hd
  subst hc hd
  have hle : its.length = xs.length := r.length.symm
  have hx0 : 0 < its.length := by rw [hle]; exact List.length_pos_iff.mpr hne
  have hi : its.toArray.isEmpty = false := by cases its <;> simp at hx0 ⊢
  have hsz0 : its.toArray.size = xs.length := by rw [List.size_toArray, hle]
  have hm : ((its.toArray.size : Nat) : Int) * k ≤ 1000000 := by
    rw [hsz0]
    have a1 : ((xs.length : Nat) : Int) * k ≤ 10 * k := Int.mul_le_mul_of_nonneg_right (by omega) (by omega)
    omega
  have hm0 : 0 ≤ ((its.toArray.size : Nat) : Int) * k := Int.mul_nonneg (by omega) (by omega)
  have line : (1000000 : Nat) ≤ sizeLine := by decide
  have a1 : k.toNat * xs.length ≤ 1000000 := Nat.le_trans (Nat.mul_le_mul (by omega : k.toNat ≤ 100000) hz) (by decide)
  have flen : (List.replicate k.toNat its).flatten.length ≤ sizeLine := by
    rw [PyProof.Rows.lm_len_rep_flat, hle]; omega
  have c0 : (decide (k < -(2 ^ 63)) || decide (k ≥ 2 ^ 63)) = false := by simp; omega
  have c1 : (its.toArray.isEmpty || k == 1) = false := by rw [hi]; simp; omega
  have c2 : (decide (k ≤ 0) || its.toArray.isEmpty) = false := by rw [hi]; simp; omega
  have c4 : Builtin.Tuple.tupleTooMany (((its.toArray.size : Nat) : Int) * k) = false := by
    unfold Builtin.Tuple.tupleTooMany
    rw [sizeLine_eq]
    exact decide_eq_false (by omega)
  have er := size_rep its k.toNat
  refine wpAny_binaryOp_repeat_ref (T := "tuple") (U := "int") (by decide) ⟨_, ho, rfl⟩ (fun s' => typeIs_int s' k t) noFill_tuple_mul F.fills_int_mul F.slot_int_rmul repeat_tuple F.slot_int_index.lookup
    (call_meets F.slot_int_rmul (typeIs_int s k t) F.entry_int_rmul (F.args_int_rmul_2 _ _) (int_rmul_tuple k t l its.toArray n dd sl)
      ⟨ho, rfl, ⟨_, ho, rfl⟩, call_meets F.slot_tuple_mul ⟨_, ho, rfl⟩ F.entry_tuple_mul (F.args_tuple_mul_2 _ _) (tuple_mulW l its.toArray n dd sl k t c0 c1 c2 (by omega) c4 (by rw [er]; simpa using flen)) ⟨ho, ?_⟩⟩)
  rw [er]
  refine ⟨.ref s.heap.objs.size, _, I.laid (t' := s.toks) (o := .tup (List.replicate k.toNat xs).flatten) (fun b ob q => Heap.get?_push_of_some _ q) (Nat.le_refl _) ?_, rfl, q _ (I.hok.fresh (Nat.le_refl _))⟩
  exact ⟨by rw [PyProof.Rows.lm_len_rep_flat]; omega, _, r.rep k.toNat, IsTup.new _ _⟩
def rMulAny (K : PySem.W.Frag) : R2 := fun x y H Q => (rI CMul fun i j => .int (i * j)) x y H Q ∨ rRepW K x y H Q
theorem op_mulAny : OpR X (binaryOp .Mult) (rMulAny X.K) := OpR.or op_mul op_repW
def wMulA : D → D → (D → Prop) → Prop := fun d e P => match d, e with
  | .int i, .int j => CMul i j ∧ P (.int (i * j))
  | .tup xs, .int k => xs ≠ [] ∧ 2 ≤ k ∧ k ≤ 100000 ∧ xs.length ≤ 10 ∧ P (.tup (List.replicate k.toNat xs).flatten)
  | _, _ => False
theorem RelL.rep {p : Addr} {m : Addr → Prop} {H : Hp} {vs : List V} {ds : List D} (r : RelL K p m H vs ds) : ∀ n : Nat, RelL K p m H (List.replicate n vs).flatten (List.replicate n ds).flatten
  | 0 => .nil
  | n + 1 => by
    rw [List.replicate_succ, List.flatten_cons, List.replicate_succ, List.flatten_cons]
    exact r.append (RelL.rep r n)
theorem sv_mulA : SvOp K (rMulAny K) wMulA := fun p m H x y d e P Q r1 r2 nm hw k => by
  cases d <;> first | exact hw.elim | (cases e <;> first | exact hw.elim | skip)
  · cases r1; cases r2
    exact .inl ⟨_, _, rfl, rfl, hw.1, k _ _ _ (Same.refl H) (.int _) hw.2⟩
  · obtain ⟨a, vs, rfl, n1, l1⟩ := r1.tupNd
    cases r2
    rename_i ys i
    obtain ⟨h1, h2, h3, h4, h5⟩ := hw
    refine .inr ⟨a, _, vs, rfl, rfl, n1.sq, fun e => h1 (by subst e; cases l1; rfl), h2, h3, by rw [l1.length]; exact h4, fun q hq => ?_⟩
    have sm : Same H (upd H q (.tup (List.replicate i.toNat vs).flatten)) := same_new hq
    exact k _ _ _ sm (.tup (.inl ⟨.inl upd_same, nm q hq⟩) ((RelL.rep l1 _).gr (Gr.of sm))) h5
end
end PL
set_option Elab.async false
set_option linter.all false
set_option maxRecDepth 100000
set_option maxHeartbeats 2000000
namespace PL
open PySem L2
/-! ## comprehensions of two clauses (no draws within) -/
def wLcI (wg : WG) (wt : WT) (we : WE) (ρw : Rho) : List D → List D → (List D → Prop) → Prop
  | acc, [], k => k acc
  | acc, y :: ys, k => wg y ρw fun ρ' => wt ρ' (fun b => if b = true then we ρ' (fun d => acc.length < sizeLine ∧ wLcI wg wt we ρw (acc ++ [d]) ys k) (fun _ _ => False) else wLcI wg wt we ρw acc ys k) (fun _ _ => False)
def wLcO (wg : WG) (wt : WT) (wi1 : WA) (wg1 : WG) (wt1 : WT) (we : WE) (vs1 : List Nat) (ρw : Rho) : List D → List D → (List D → Prop) → Prop
  | acc, [], k => k acc
  | acc, x :: xs, k => wg x ρw fun ρ' => wt ρ' (fun b => if b = true then wi1 ρ' (fun ys => noOwn ρ' vs1 = true ∧ wLcI wg1 wt1 we (wipeR ρ' vs1) acc ys (fun acc' => wLcO wg wt wi1 wg1 wt1 we vs1 ρw acc' xs k)) (fun _ _ => False) else wLcO wg wt wi1 wg1 wt1 we vs1 ρw acc xs k) (fun _ _ => False)
def wLc2 (wi : WA) (wg : WG) (wt : WT) (wi1 : WA) (wg1 : WG) (wt1 : WT) (we : WE) (vs vs1 : List Nat) : WE := fun ρ P R => wi ρ (fun xs => noOwn ρ vs = true ∧ wLcO wg wt wi1 wg1 wt1 we vs1 (wipeR ρ vs) [] xs (fun ds => P (.lst ds))) R
def anyI (K : PySem.W.Frag) (C : Nat) (wi : WA) : TI := fun σ H R => ∃ F', tWI K F' WF C wi σ H R
/-- where the walk stands: the list at Da, the frame ahead of it -/
structure Lx (K : PySem.W.Frag) (F : Fc) (os : List (Option Addr)) (ρ : Rho) (σ : St) (H1 : Hp) (Da : Addr) (ads : List D) (acc : List V) (H : Hp) : Prop where
  at_ : H Da = some (.lst acc)
  fm : Fm K (F.ext Da (.lst acc)) os ρ σ H
  kp : ∀ b u, H1 b = some u → b ≠ F.p → b ≠ F.g → H b = some u
  tb : tn F.p H ≤ tn F.p H1
  rl : RelL K F.p (mm (F.ext Da (.lst acc)) os) H acc ads
section
variable {K : PySem.W.Frag} {F : Fc} {os os2 : List (Option Addr)} {ρ ρ2 : Rho} {σ σ2 : St} {H1 H H' : Hp} {Da : Addr} {ads : List D} {acc : List V} {v : V} {d : D}
theorem Lx.same (l : Lx K F os ρ σ H1 Da ads acc H) (s : Same H H') : Lx K F os ρ σ H1 Da ads acc H' :=
  ⟨s _ _ l.at_, l.fm.same s, fun b u e h1 h2 => s _ _ (l.kp b u e h1 h2), Nat.le_trans (Nat.le_of_eq (l.fm.b.st.tn_keep fun b u e _ => s b u e)) l.tb, l.rl.gr (Gr.of s)⟩
theorem Lx.kept (l : Lx K F os ρ σ H1 Da ads acc H) (h0 : F.H0 Da = none) (b0 : PL.Base F H1) (k : Kp 0 (F.ext Da (.lst acc)) H H') : Lx K F os ρ σ H1 Da ads acc H' := by
  obtain ⟨np, ng, nc⟩ := b0.ne h0
  have np' : Da ≠ (F.ext Da (.lst acc)).p := np
  have ng' : Da ≠ (F.ext Da (.lst acc)).g := ng
  have tb : tn F.p H' ≤ tn F.p H + 0 := k.tb
  have tl := l.tb
  exact ⟨k.k _ _ l.at_ np' ng', l.fm.kp k, fun b u e h1 h2 => k.k b u (l.kp b u e h1 h2) h1 h2, by omega, l.rl.gr (l.fm.gr k)⟩
theorem Fm.noDa (f : Fm K (F.ext Da (.lst acc)) os ρ σ H) : ∀ i : Nat, os[i]? ≠ some (some Da) := fun i z => by
  have q : upd F.H0 Da (.lst acc) Da = none := f.fresh i Da z
  rw [upd_same] at q; cases q
theorem Lx.app (l : Lx K F os ρ σ H1 Da ads acc H) (h0 : F.H0 Da = none) (hn : H1 Da = none) (b0 : PL.Base F H1) (r : Rel K F.p (mm (F.ext Da (.lst acc)) os) H v d) : Lx K F os ρ σ H1 Da (ads ++ [d]) (acc ++ [v]) (upd H Da (.lst (acc ++ [v]))) := by
  obtain ⟨np, ng, nc⟩ := b0.ne h0
  have em : ∀ a, mm (F.ext Da (.lst (acc ++ [v]))) os a → mm (F.ext Da (.lst acc)) os a := fun a z => mm_ext.mpr (mm_ext.mp z)
  have gm : ∀ b u, H b = some u → b ≠ Da → upd H Da (.lst (acc ++ [v])) b = some u := fun b u e hb => by rw [upd_ne hb]; exact e
  have g4 : G2 (mm (F.ext Da (.lst acc)) os) H (mm (F.ext Da (.lst (acc ++ [v]))) os) (upd H Da (.lst (acc ++ [v]))) := fun b u e n => ⟨gm b u e fun z => n (mm_ext.mpr (.inr z)), fun z => n (em b z)⟩
  refine ⟨upd_same, l.fm.more h0 l.fm.noDa b0.st0, fun b u e h1 h2 => ?_, by rw [show tn F.p (upd H Da (.lst (acc ++ [v]))) = tn F.p H from tn_eq (upd_ne np.symm)]; exact l.tb, (l.rl.mono2 g4).append (.cons (r.mono2 g4) .nil)⟩
  exact gm b u (l.kp b u e h1 h2) fun z => by rw [z, hn] at e; cases e
/-- what is mutable in the walk's own frame is so in the turn's -/
theorem mm_wiped {is vs : List Nat} (his : ∀ i ∈ is, i ∈ vs) (hos : ∀ v ∈ vs, os[v]? = some none) (ch : Ch is σ σ2 os os2) : ∀ a, mm F os a → mm F os2 a := fun a z => by
  rcases z with z | z
  · exact .inl z
  · obtain ⟨j, e⟩ := mem_os z
    refine .inr (os_mem (i := j) ?_)
    rw [← e]
    refine (ch.at_ j fun hj => ?_).2
    rw [hos j (his j hj)] at e; cases e
end
section
variable {X : Cx} {F : Fc} {W : WX} {C C1 : Nat} {pos : Pos}
theorem tLc2_wk {is is1 vs vs1 : List Nat} {wi wi1 : WA} {wg wg1 : WG} {wt wt1 : WT} {we : WE} (his : ∀ i ∈ is, i ∈ vs) (his1 : ∀ i ∈ is1, i ∈ vs1) {σ : L2.St} {H : Hp} {Q : VK} (h : tW X.K F W C1 (wLc2 wi wg wt wi1 wg1 wt1 we vs vs1) σ H Q) :
    tLc2 (tWI X.K F W C1 wi) (anyG X.K is wg) (anyT X.K 0 wt) (anyI X.K 0 wi1) (anyG X.K is1 wg1) (anyT X.K 0 wt1) (anyE X.K 0 we) vs vs1 σ H Q := by
  obtain ⟨os, ρ, P, R, f, bd, hw, k, kx⟩ := h
  refine ⟨os, ρ, _, _, f, bd, hw, fun H1 J ds f1 k1 it h1 => ?_, fun H' c d as f' g' => kx H' c d as f' g'⟩
  obtain ⟨hno, h1⟩ := h1
  intro Da hDa
  have hos := noOwn_os f1 hno
  have hd0 : F.H0 Da = none := Fm.new0 f1.b hDa
  have hdo : ∀ i : Nat, os[i]? ≠ some (some Da) := fun i z => by
    obtain ⟨vs, q⟩ := f1.own i Da z
    rw [hDa] at q; cases q
  have b1 : PL.Base F H1 := f1.b
  have bd1 : Bd 0 F H1 := by
    have tb := k1.tb
    unfold Bd at *; omega
  have bd0 : ∀ {H2 : Hp} {acc : List V} {ads : List D}, Lx X.K F os ρ σ H1 Da ads acc H2 → Bd 0 (F.ext Da (.lst acc)) H2 := fun {H2 acc ads} l => by
    have := l.tb
    unfold Bd at *
    show tn F.p H2 + 0 ≤ MAXT
    omega
  refine ⟨fun i n H' => i ≤ ds.length ∧ n = ds.length - i ∧ ∃ acc ads, Lx X.K F os ρ σ H1 Da ads acc H' ∧ wLcO wg wt wi1 wg1 wt1 we vs1 (wipeR ρ vs) ads (ds.drop i) (fun r => P (.lst r)), ?_, ?_⟩
  · have g : G2 (mm F os) H1 (mm (F.ext Da (.lst [])) os) (upd H1 Da (.lst [])) := fun b u e n => ⟨same_new hDa b u e, fun z => by
      rcases mm_ext.mp z with z | z
      · exact n z
      · rw [z, hDa] at e; cases e⟩
    exact ⟨ds.length, Nat.zero_le _, rfl, [], [], ⟨upd_same, f1.ext hd0 hdo (fun b u hb e => by rw [upd_ne hb]; exact e) upd_same (fun v d r => r.mono2 g) (fun v d r => r.mono2 g), fun b u e _ _ => same_new hDa b u e, Nat.le_of_eq (f1.b.st.tn_keep fun b u e _ => same_new hDa b u e), .nil⟩, by simpa using h1⟩
  · rintro i n H' ⟨hi, rfl, acc, ads, l, h'⟩
    have g2 : G2 (mm F os) H1 (mm (F.ext Da (.lst acc)) os) H' := fun b u e nb => ⟨l.kp b u e (fun z => nb (.inl (z ▸ f1.b.mp))) (fun z => nb (.inl (z ▸ f1.b.mg))), fun z => by
      rcases mm_ext.mp z with z | z
      · exact nb z
      · rw [z, hDa] at e; cases e⟩
    obtain ⟨st, go⟩ := it _ H' g2 (fun a => l.fm.new) i hi
    rcases Nat.eq_or_lt_of_le hi with e | hlt
    · refine .inl ⟨st e, ?_⟩
      rw [e, List.drop_length] at h'
      have kk : Kp C1 F H1 H' := ⟨l.fm.b.st, l.kp, Nat.le_trans l.tb (Nat.le_add_right _ _)⟩
      have kk0 : Kp 0 F H1 H' := ⟨l.fm.b.st, l.kp, l.tb⟩
      have nD : ¬ mm F os Da := fun z => by
        obtain ⟨u, q⟩ := f1.tr z
        rw [hDa] at q; cases q
      exact k H' _ _ (f1.kp kk) (k1.trans kk0) (.lst (.inl ⟨.inl l.at_, nD⟩) (l.rl.mono2 (G2.less fun a z => mm_ext.mpr (.inl z)))) h'
    · obtain ⟨d, e1, e2⟩ := drop_get hlt
      obtain ⟨hgo, hy⟩ := go d e1
      rw [e2] at h'
      refine .inr ⟨hgo, fun H2 => ∃ acc ads, Lx X.K F os ρ σ H1 Da ads acc H2 ∧ wLcO wg wt wi1 wg1 wt1 we vs1 (wipeR ρ vs) ads (ds.drop (i + 1)) (fun r => P (.lst r)), fun H2 q => ⟨ds.length - (i + 1), by omega, hlt, rfl, q⟩, fun x H'' y => ?_⟩
      obtain ⟨sm, rx⟩ := hy x H'' y
      have l2 := l.same sm
      refine ⟨F.ext Da (.lst acc), os, _, _, d, l2.fm.wipe hos, rx, h', fun os2 ρ2 σ2 f2 g2' ch h2 => ⟨wipe_ch his ch, ?_⟩⟩
      refine ⟨F.ext Da (.lst acc), os2, ρ2, _, _, f2, bd0 l2, h2, fun H3 b f3 k3 h3 => ?_, fun _ _ _ _ _ _ _ z => z⟩
      have l3 := l2.kept hd0 b1 k3
      cases b with
      | false =>
        refine iteF ⟨acc, ads, l3, ?_⟩
        exact h3
      | true =>
        refine iteT ⟨F.ext Da (.lst acc), os2, ρ2, _, _, f3, bd0 l3, h3, fun H4 J1 ys f4 k4 it1 h4 => ?_, fun _ _ _ _ _ _ _ z => z⟩
        have l4 := l3.kept hd0 b1 k4
        obtain ⟨hno1, h4⟩ := h4
        have hos1 := noOwn_os f4 hno1
        refine ⟨fun j n H5 => j ≤ ys.length ∧ n = ys.length - j ∧ ∃ acc ads, Lx X.K F os ρ σ H1 Da ads acc H5 ∧ Fm X.K (F.ext Da (.lst acc)) os2 ρ2 σ2 H5 ∧ (∀ b u, H4 b = some u → b ≠ F.p → b ≠ F.g → b ≠ Da → H5 b = some u) ∧ wLcI wg1 wt1 we (wipeR ρ2 vs1) ads (ys.drop j) (fun acc' => wLcO wg wt wi1 wg1 wt1 we vs1 (wipeR ρ vs) acc' (ds.drop (i + 1)) fun r => P (.lst r)),
          ⟨ys.length, Nat.zero_le _, rfl, acc, ads, l4, f4, fun b u e _ _ _ => e, by simpa using h4⟩, ?_⟩
        rintro j n5 H5 ⟨hj, rfl, acc5, ads5, l5, f5, kp5, h5⟩
        have g5 : G2 (mm (F.ext Da (.lst acc)) os2) H4 (mm (F.ext Da (.lst acc5)) os2) H5 := fun b u e nb => ⟨kp5 b u e (fun z => nb (.inl (z ▸ f4.b.mp))) (fun z => nb (.inl (z ▸ f4.b.mg))) (fun z => nb (mm_ext.mpr (.inr z))), fun z => nb (mm_ext.mpr (mm_ext.mp z))⟩
        obtain ⟨st5, go5⟩ := it1 _ H5 g5 (fun a => f5.new) j hj
        rcases Nat.eq_or_lt_of_le hj with e5 | hlt5
        · refine .inl ⟨st5 e5, acc5, ads5, l5, ?_⟩
          rw [e5, List.drop_length] at h5
          exact h5
        · obtain ⟨d5, e6, e7⟩ := drop_get hlt5
          obtain ⟨hgo5, hy5⟩ := go5 d5 e6
          rw [e7] at h5
          refine .inr ⟨hgo5, fun H6 => ∃ acc ads, Lx X.K F os ρ σ H1 Da ads acc H6 ∧ Fm X.K (F.ext Da (.lst acc)) os2 ρ2 σ2 H6 ∧ (∀ b u, H4 b = some u → b ≠ F.p → b ≠ F.g → b ≠ Da → H6 b = some u) ∧ wLcI wg1 wt1 we (wipeR ρ2 vs1) ads (ys.drop (j + 1)) (fun acc' => wLcO wg wt wi1 wg1 wt1 we vs1 (wipeR ρ vs) acc' (ds.drop (i + 1)) fun r => P (.lst r)), fun H6 q => ⟨ys.length - (j + 1), by omega, hlt5, rfl, q⟩, fun x6 H6 y6 => ?_⟩
          obtain ⟨sm6, rx6⟩ := hy5 x6 H6 y6
          have l6 := l5.same sm6
          have f6 := f5.same sm6
          refine ⟨F.ext Da (.lst acc5), os2, _, _, d5, f6.wipe hos1, rx6, h5, fun os3 ρ3 σ3 f7 g7 ch7 h7 => ⟨wipe_ch his1 ch7, ?_⟩⟩
          refine ⟨F.ext Da (.lst acc5), os3, ρ3, _, _, f7, bd0 l6, h7, fun H8 b8 f8 k8 h8 => ?_, fun _ _ _ _ _ _ _ z => z⟩
          have l8 := l6.kept hd0 b1 k8
          have f8' := f6.kp k8
          have kp8 : ∀ b u, H4 b = some u → b ≠ F.p → b ≠ F.g → b ≠ Da → H8 b = some u := fun b u e h1 h2 h3 => k8.k b u (sm6 b u (kp5 b u e h1 h2 h3)) h1 h2
          cases b8 with
          | false => exact iteF ⟨acc5, ads5, l8, f8', kp8, h8⟩
          | true =>
            refine iteT ⟨F.ext Da (.lst acc5), os3, ρ3, _, _, f8, bd0 l8, h8, fun H9 v9 d9 f9 k9 r9 h9 => ?_, fun _ _ _ _ _ _ _ z => z⟩
            have l9 := l8.kept hd0 b1 k9
            have f9' := f8'.kp k9
            obtain ⟨hl9, h9⟩ := h9
            have em : ∀ a, mm (F.ext Da (.lst acc5)) os a → mm (F.ext Da (.lst acc5)) os3 a := fun a z => mm_wiped his1 hos1 ch7 a (mm_wiped (F := F.ext Da (.lst acc5)) his hos ch a z)
            have kp9 : ∀ b u, H4 b = some u → b ≠ F.p → b ≠ F.g → b ≠ Da → upd H9 Da (.lst (acc5 ++ [v9])) b = some u := fun b u e h1 h2 h3 => by
              rw [upd_ne h3]; exact k9.k b u (kp8 b u e h1 h2 h3) h1 h2
            refine ⟨acc5, l9.at_, by rw [l9.rl.length]; exact hl9, acc5 ++ [v9], ads5 ++ [d9], l9.app hd0 hDa b1 (r9.mono Gr.refl em), f9'.more hd0 f9'.noDa f1.b.st0, kp9, h9⟩
theorem d_lc2 {Ca Cb Cc Cd : Nat} {elt tg iter tg1 iter1 : Expr} {ifs ifs1 : List Expr} {scope : Scope} {own : List (Str × Nat)} {is is1 vs1 : List Nat} {wi wi1 : WA} {wg wg1 : WG} {wt wt1 : WT} {we : WE} (hc : X.calm = true) (hN : X.N.Nodup) (hi : DI X F W C1 tg iter wi) (ok : BlkOk X.N X.env.scope scope own) (hv : ∀ i ∈ vs1, i ∈ own.map (·.2)) (his : ∀ i ∈ is, i ∈ own.map (·.2)) (his1 : ∀ i ∈ is1, i ∈ vs1)
    (hg : ∀ (F' : Fc) (s : Shared) (H : Hp) (C : Addr) (cl : List (Str × Addr)) (fp : List Addr), DG (X.blk s H scope (compEnvC scope cl C X.env) fp) F' tg is wg)
    (ht : ∀ (F' : Fc) (s : Shared) (H : Hp) (C : Addr) (cl : List (Str × Addr)) (fp : List Addr), DTs (X.blk s H scope (compEnvC scope cl C X.env) fp) F' WF Ca ifs wt)
    (hi1 : ∀ (F' : Fc) (s : Shared) (H : Hp) (C : Addr) (cl : List (Str × Addr)) (fp : List Addr), DI (X.blk s H scope (compEnvC scope cl C X.env) fp) F' WF Cb tg1 iter1 wi1)
    (hg1 : ∀ (F' : Fc) (s : Shared) (H : Hp) (C : Addr) (cl : List (Str × Addr)) (fp : List Addr), DG (X.blk s H scope (compEnvC scope cl C X.env) fp) F' tg1 is1 wg1)
    (ht1 : ∀ (F' : Fc) (s : Shared) (H : Hp) (C : Addr) (cl : List (Str × Addr)) (fp : List Addr), DTs (X.blk s H scope (compEnvC scope cl C X.env) fp) F' WF Cc ifs1 wt1)
    (he : ∀ (F' : Fc) (s : Shared) (H : Hp) (C : Addr) (cl : List (Str × Addr)) (fp : List Addr), DE (X.blk s H scope (compEnvC scope cl C X.env) fp) F' WF Cd elt we)
    (ea : Ca = 0 := by rfl) (eb : Cb = 0 := by rfl) (ec : Cc = 0 := by rfl) (ed : Cd = 0 := by rfl)
    (hs : ∀ x, foldedSetIterable iter X.env x = pure x := by intro _; rfl) (hs1 : ∀ env x, foldedSetIterable iter1 env x = pure x := by intro _ _; rfl) : DE X F W C1 (.ListComp elt [⟨tg, iter, ifs, 0⟩, ⟨tg1, iter1, ifs1, 0⟩] scope pos) (wLc2 wi wg wt wi1 wg1 wt1 we (own.map (·.2)) vs1) := by
  subst ea eb ec ed
  exact pe_wk (pe_lc2 (g := anyG X.K is wg) (tt := anyT X.K 0 wt) (wi1 := anyI X.K 0 wi1) (g1 := anyG X.K is1 wg1) (tt1 := anyT X.K 0 wt1) (te := anyE X.K 0 we) hc hN hi ok hv
    (fun s H C cl fp => ⟨fun pins s σ H v u Q I r ⟨F', q⟩ => (hg F' _ _ _ _ _).run pins s σ H v u Q I r q⟩) (fun s H C cl fp => ⟨fun pins s σ H Q I ⟨F', q⟩ => (ht F' _ _ _ _ _).run pins s σ H Q I q⟩)
    (fun s H C cl fp => ⟨fun pins s σ H R I ⟨F', q⟩ => (hi1 F' _ _ _ _ _).run pins s σ H R I q⟩) (fun s H C cl fp => ⟨fun pins s σ H v u Q I r ⟨F', q⟩ => (hg1 F' _ _ _ _ _).run pins s σ H v u Q I r q⟩) (fun s H C cl fp => ⟨fun pins s σ H Q I ⟨F', q⟩ => (ht1 F' _ _ _ _ _).run pins s σ H Q I q⟩)
    (fun s H C cl fp => ⟨fun pins s σ H Q I ⟨F', q⟩ => (he F' _ _ _ _ _).run pins s σ H Q I q⟩) hs hs1) fun σ H Q h => tLc2_wk his his1 h
end
/-! a def that is never called right -/
theorem fn_never {P : Program} {w : World} {K : PySem.W.Frag} {mg : Str → Option Value} {base : Heap} {x qual : Str} {st : Stmt} {f : Addr} {fd : FuncData} {N ps : List Str} {k C : Nat} {Γ : Sg} (FF : Fun K x qual st f fd) (S : FnScope N ps (defScope st)) (hn : ∀ ds Pd R, ¬ Γ ds Pd R) :
    FnG P w K mg base (k + 1) f fd ps (SpD K C Γ) :=
  fnG_body FF S (fun vs H Q E h => let ⟨_, ds, Pd, R, _, _, _, r, hΓ, _⟩ := h; (hn _ _ _ hΓ).elim) (fun cdv A outer s H vs Q E hr h => (let ⟨_, ds, Pd, R, _, _, _, r, hΓ, _⟩ := h; (hn _ _ _ hΓ).elim))
end PL
set_option Elab.async false
set_option linter.all false
set_option maxRecDepth 100000
set_option maxHeartbeats 2000000
namespace PL
open PySem L2
/-! ## promises by the number of parameters -/
def sg0 (f : (D → Prop) → Prop) : Sg := fun ds P _ => match ds with | [] => f P | _ => False
def sg1 (f : D → (D → Prop) → Prop) : Sg := fun ds P _ => match ds with | [a] => f a P | _ => False
def sg2 (f : D → D → (D → Prop) → Prop) : Sg := fun ds P _ => match ds with | [a, b] => f a b P | _ => False
def sg3 (f : D → D → D → (D → Prop) → Prop) : Sg := fun ds P _ => match ds with | [a, b, c] => f a b c P | _ => False
def sg4 (f : D → D → D → D → (D → Prop) → Prop) : Sg := fun ds P _ => match ds with | [a, b, c, d] => f a b c d P | _ => False
def sg5 (f : D → D → D → D → D → (D → Prop) → Prop) : Sg := fun ds P _ => match ds with | [a, b, c, d, e] => f a b c d e P | _ => False
def sg6 (f : D → D → D → D → D → D → (D → Prop) → Prop) : Sg := fun ds P _ => match ds with | [a, b, c, d, e, g] => f a b c d e g P | _ => False
section
variable {ds : List D} {P : D → Prop} {R : Xr}
theorem sg0_inv {f} (h : sg0 f ds P R) : ds = [] ∧ f P := by unfold sg0 at h; split at h <;> first | exact h.elim | exact ⟨rfl, h⟩
theorem sg1_inv {f} (h : sg1 f ds P R) : ∃ a, ds = [a] ∧ f a P := by unfold sg1 at h; split at h <;> first | exact h.elim | exact ⟨_, rfl, h⟩
theorem sg2_inv {f} (h : sg2 f ds P R) : ∃ a b, ds = [a, b] ∧ f a b P := by unfold sg2 at h; split at h <;> first | exact h.elim | exact ⟨_, _, rfl, h⟩
theorem sg3_inv {f} (h : sg3 f ds P R) : ∃ a b c, ds = [a, b, c] ∧ f a b c P := by unfold sg3 at h; split at h <;> first | exact h.elim | exact ⟨_, _, _, rfl, h⟩
theorem sg4_inv {f} (h : sg4 f ds P R) : ∃ a b c d, ds = [a, b, c, d] ∧ f a b c d P := by unfold sg4 at h; split at h <;> first | exact h.elim | exact ⟨_, _, _, _, rfl, h⟩
theorem sg5_inv {f} (h : sg5 f ds P R) : ∃ a b c d e, ds = [a, b, c, d, e] ∧ f a b c d e P := by unfold sg5 at h; split at h <;> first | exact h.elim | exact ⟨_, _, _, _, _, rfl, h⟩
theorem sg6_inv {f} (h : sg6 f ds P R) : ∃ a b c d e g, ds = [a, b, c, d, e, g] ∧ f a b c d e g P := by unfold sg6 at h; split at h <;> first | exact h.elim | exact ⟨_, _, _, _, _, _, rfl, h⟩
end
theorem sg0_len {f} (ds : List D) (P : D → Prop) (R : Xr) (h : sg0 f ds P R) : ds.length = 0 := by obtain ⟨rfl, _⟩ := sg0_inv h; rfl
theorem sg1_len {f} (ds : List D) (P : D → Prop) (R : Xr) (h : sg1 f ds P R) : ds.length = 1 := by obtain ⟨_, rfl, _⟩ := sg1_inv h; rfl
theorem sg2_len {f} (ds : List D) (P : D → Prop) (R : Xr) (h : sg2 f ds P R) : ds.length = 2 := by obtain ⟨_, _, rfl, _⟩ := sg2_inv h; rfl
theorem sg3_len {f} (ds : List D) (P : D → Prop) (R : Xr) (h : sg3 f ds P R) : ds.length = 3 := by obtain ⟨_, _, _, rfl, _⟩ := sg3_inv h; rfl
theorem sg4_len {f} (ds : List D) (P : D → Prop) (R : Xr) (h : sg4 f ds P R) : ds.length = 4 := by obtain ⟨_, _, _, _, rfl, _⟩ := sg4_inv h; rfl
theorem sg5_len {f} (ds : List D) (P : D → Prop) (R : Xr) (h : sg5 f ds P R) : ds.length = 5 := by obtain ⟨_, _, _, _, _, rfl, _⟩ := sg5_inv h; rfl
theorem sg6_len {f} (ds : List D) (P : D → Prop) (R : Xr) (h : sg6 f ds P R) : ds.length = 6 := by obtain ⟨_, _, _, _, _, _, rfl, _⟩ := sg6_inv h; rfl
/-! ## data: no state, no def, no type; of bounded width -/
mutual
def dat (N : Nat) : D → Bool
  | .non => true
  | .bl _ => true
  | .int _ => true
  | .str x => decide (x.length ≤ N)
  | .tup xs => decide (xs.length ≤ N) && datL N xs
  | .lst xs => decide (xs.length ≤ N) && datL N xs
  | .dic xs => xs.isEmpty
  | .tok => false
  | .fn _ => false
  | .ty _ => false
  | .exc _ _ => false
def datL (N : Nat) : List D → Bool
  | [] => true
  | x :: xs => dat N x && datL N xs
end
theorem datL_all {N : Nat} : ∀ {xs : List D}, datL N xs = true ↔ ∀ x ∈ xs, dat N x = true
  | [] => by simp [datL]
  | x :: xs => by simp [datL, datL_all (xs := xs)]
mutual
theorem dat_mono {N M : Nat} (h : N ≤ M) : ∀ {d : D}, dat N d = true → dat M d = true
  | .non, _ => rfl
  | .bl _, _ => rfl
  | .int _, _ => rfl
  | .str x, q => by simp [dat] at q ⊢; omega
  | .tup xs, q => by simp [dat] at q ⊢; exact ⟨by omega, datL_mono h q.2⟩
  | .lst xs, q => by simp [dat] at q ⊢; exact ⟨by omega, datL_mono h q.2⟩
  | .dic xs, q => q
  | .tok, q => by simp [dat] at q
  | .fn _, q => by simp [dat] at q
  | .ty _, q => by simp [dat] at q
  | .exc _ _, q => by simp [dat] at q
theorem datL_mono {N M : Nat} (h : N ≤ M) : ∀ {d : List D}, datL N d = true → datL M d = true
  | [], _ => rfl
  | x :: xs, q => by simp [datL] at q ⊢; exact ⟨dat_mono h q.1, datL_mono h q.2⟩
end
/-- what isinstance tells of data -/
def isiB (d : D) (n : String) : Bool := match d, n with
  | .bl _, "int" => true
  | .bl _, "bool" => true
  | .int _, "int" => true
  | .str _, "str" => true
  | .tup _, "tuple" => true
  | .lst _, "list" => true
  | .dic _, "dict" => true
  | _, _ => false
theorem isi_int {N : Nat} {d : D} {P : D → Prop} (h : dat N d = true) : wIsi [d, .ty "int"] P = P (.bl (match d with | .bl _ => true | .int _ => true | _ => false)) := by
  cases d <;> first | (simp [dat] at h; done) | (simp [wIsi, tyD, isiD])
theorem isi_bool {N : Nat} {d : D} {P : D → Prop} (h : dat N d = true) : wIsi [d, .ty "bool"] P = P (.bl (match d with | .bl _ => true | _ => false)) := by
  cases d <;> first | (simp [dat] at h; done) | (simp [wIsi, tyD, isiD])
theorem isi_str {N : Nat} {d : D} {P : D → Prop} (h : dat N d = true) : wIsi [d, .ty "str"] P = P (.bl (match d with | .str _ => true | _ => false)) := by
  cases d <;> first | (simp [dat] at h; done) | (simp [wIsi, tyD, isiD])
theorem isi_tuple {N : Nat} {d : D} {P : D → Prop} (h : dat N d = true) : wIsi [d, .ty "tuple"] P = P (.bl (match d with | .tup _ => true | _ => false)) := by
  cases d <;> first | (simp [dat] at h; done) | (simp [wIsi, tyD, isiD])
theorem isi_list {N : Nat} {d : D} {P : D → Prop} (h : dat N d = true) : wIsi [d, .ty "list"] P = P (.bl (match d with | .lst _ => true | _ => false)) := by
  cases d <;> first | (simp [dat] at h; done) | (simp [wIsi, tyD, isiD])
/-! ## lists read -/
theorem atI_nat {α : Type} {xs : List α} {i : Nat} {x : α} (h : xs[i]? = some x) : atI xs (i : Int) = some x := by
  have hl := (List.getElem?_eq_some_iff.mp h).1
  unfold atI ixN
  rw [if_pos (by omega), if_pos (by omega)]
  simpa using h
theorem atI_0 {α : Type} {x : α} {xs : List α} : atI (x :: xs) 0 = some x := atI_nat (i := 0) rfl
theorem atI_1 {α : Type} {x y : α} {xs : List α} : atI (x :: y :: xs) 1 = some y := atI_nat (i := 1) rfl
theorem atI_2 {α : Type} {x y z : α} {xs : List α} : atI (x :: y :: z :: xs) 2 = some z := atI_nat (i := 2) rfl
theorem atI_3 {α : Type} {x y z w : α} {xs : List α} : atI (x :: y :: z :: w :: xs) 3 = some w := atI_nat (i := 3) rfl
/-! ## comprehensions read -/
theorem lcL_fm {wg : WG} {wt : WT} {we : WE} {ρw : Rho} (f : D → Option D) : ∀ {xs : List D} {k : List D → Prop}, (∀ x ∈ xs, ∀ (kT : D → Prop) (kF : Prop), (match f x with | some d => kT d | none => kF) → wg x ρw fun ρ' => wt ρ' (fun b => if b = true then we ρ' kT (fun _ _ => False) else kF) (fun _ _ => False)) → k (xs.filterMap f) → wLcL wg wt we ρw xs k
  | [], k, _, h => h
  | x :: xs, k, hx, h => by
    refine hx x List.mem_cons_self _ _ ?_
    rw [List.filterMap_cons] at h
    have ht : ∀ y ∈ xs, _ := fun y hy => hx y (List.mem_cons_of_mem _ hy)
    cases e : f x with
    | none => rw [e] at h; exact lcL_fm f ht h
    | some d => rw [e] at h; exact lcL_fm f (k := fun ds => k (d :: ds)) ht h
theorem lcL_map {wg : WG} {wt : WT} {we : WE} {ρw : Rho} (f : D → D) {xs : List D} {k : List D → Prop} (hx : ∀ x ∈ xs, ∀ (kT : D → Prop) (kF : Prop), kT (f x) → wg x ρw fun ρ' => wt ρ' (fun b => if b = true then we ρ' kT (fun _ _ => False) else kF) (fun _ _ => False)) (h : k (xs.map f)) : wLcL wg wt we ρw xs k := by
  refine lcL_fm (fun x => some (f x)) (fun x m kT kF q => hx x m kT kF q) ?_
  rw [List.filterMap_eq_map']; exact h
theorem lcI_fm {wg : WG} {wt : WT} {we : WE} {ρw : Rho} (f : D → Option D) : ∀ {xs acc : List D} {k : List D → Prop}, (∀ x ∈ xs, ∀ (kT : D → Prop) (kF : Prop), (match f x with | some d => kT d | none => kF) → wg x ρw fun ρ' => wt ρ' (fun b => if b = true then we ρ' kT (fun _ _ => False) else kF) (fun _ _ => False)) → acc.length + xs.length ≤ sizeLine → k (acc ++ xs.filterMap f) → wLcI wg wt we ρw acc xs k
  | [], acc, k, _, _, h => by
    have h' : k acc := by simpa using h
    exact h'
  | x :: xs, acc, k, hx, hl, h => by
    refine hx x List.mem_cons_self _ _ ?_
    rw [List.filterMap_cons] at h
    have ht : ∀ y ∈ xs, _ := fun y hy => hx y (List.mem_cons_of_mem _ hy)
    rw [List.length_cons] at hl
    cases e : f x with
    | none => rw [e] at h; exact lcI_fm f ht (by omega) h
    | some d =>
      rw [e] at h
      refine ⟨by omega, lcI_fm f ht (by rw [List.length_append]; show acc.length + 1 + _ ≤ _; omega) ?_⟩
      rw [List.append_assoc]; exact h
theorem lcO_fm {wg : WG} {wt : WT} {wi1 : WA} {wg1 : WG} {wt1 : WT} {we : WE} {vs1 : List Nat} {ρw : Rho} (f : D → List D) : ∀ {xs acc : List D} {k : List D → Prop},
    (∀ x ∈ xs, ∀ (acc : List D) (kT : List D → Prop) (kF : Prop), acc.length + (f x).length ≤ sizeLine → kT (acc ++ f x) → (f x = [] → kF) → wg x ρw fun ρ' => wt ρ' (fun b => if b = true then wi1 ρ' (fun ys => noOwn ρ' vs1 = true ∧ wLcI wg1 wt1 we (wipeR ρ' vs1) acc ys kT) (fun _ _ => False) else kF) (fun _ _ => False)) → acc.length + (xs.flatMap f).length ≤ sizeLine → k (acc ++ xs.flatMap f) → wLcO wg wt wi1 wg1 wt1 we vs1 ρw acc xs k
  | [], acc, k, _, _, h => by
    have h' : k acc := by simpa using h
    exact h'
  | x :: xs, acc, k, hx, hl, h => by
    have ht : ∀ y ∈ xs, _ := fun y hy => hx y (List.mem_cons_of_mem _ hy)
    rw [List.flatMap_cons, List.length_append] at hl
    rw [List.flatMap_cons] at h
    refine hx x List.mem_cons_self acc _ _ (by omega) ?_ ?_
    · exact lcO_fm f ht (by rw [List.length_append]; omega) (by rw [List.append_assoc]; exact h)
    · intro e
      rw [e] at h hl
      exact lcO_fm f ht (by simpa using hl) (by simpa using h)
theorem slice1 {x : Str} {c : Nat} {r : List Nat} (h : x.cps.toList = c :: r) : Txt.slice x (some 1) none = ⟨r.toArray⟩ := by
  have hl : x.length = r.length + 1 := by
    have : x.cps.toList.length = r.length + 1 := by rw [h]; rfl
    simpa [Str.length] using this
  rw [PyProof.Rows.slice_from_eq (i := 1) (b := x.length) (by decide) (by omega) rfl, h]
  have e : ((x.length : Int) - 1).toNat = r.length := by omega
  rw [e]
  simp
theorem isi_non_int {P : D → Prop} : wIsi [.non, .ty "int"] P = P (.bl false) := by simp [wIsi, tyD, isiD]
theorem isi_non_bool {P : D → Prop} : wIsi [.non, .ty "bool"] P = P (.bl false) := by simp [wIsi, tyD, isiD]
theorem isi_non_str {P : D → Prop} : wIsi [.non, .ty "str"] P = P (.bl false) := by simp [wIsi, tyD, isiD]
theorem isi_non_tuple {P : D → Prop} : wIsi [.non, .ty "tuple"] P = P (.bl false) := by simp [wIsi, tyD, isiD]
theorem isi_non_list {P : D → Prop} : wIsi [.non, .ty "list"] P = P (.bl false) := by simp [wIsi, tyD, isiD]
theorem isi_non_dict {P : D → Prop} : wIsi [.non, .ty "dict"] P = P (.bl false) := by simp [wIsi, tyD, isiD]
theorem isi_bl_int {b : Bool} {P : D → Prop} : wIsi [.bl b, .ty "int"] P = P (.bl true) := by simp [wIsi, tyD, isiD]
theorem isi_bl_bool {b : Bool} {P : D → Prop} : wIsi [.bl b, .ty "bool"] P = P (.bl true) := by simp [wIsi, tyD, isiD]
theorem isi_bl_str {b : Bool} {P : D → Prop} : wIsi [.bl b, .ty "str"] P = P (.bl false) := by simp [wIsi, tyD, isiD]
theorem isi_bl_tuple {b : Bool} {P : D → Prop} : wIsi [.bl b, .ty "tuple"] P = P (.bl false) := by simp [wIsi, tyD, isiD]
theorem isi_bl_list {b : Bool} {P : D → Prop} : wIsi [.bl b, .ty "list"] P = P (.bl false) := by simp [wIsi, tyD, isiD]
theorem isi_bl_dict {b : Bool} {P : D → Prop} : wIsi [.bl b, .ty "dict"] P = P (.bl false) := by simp [wIsi, tyD, isiD]
theorem isi_int_int {i : Int} {P : D → Prop} : wIsi [.int i, .ty "int"] P = P (.bl true) := by simp [wIsi, tyD, isiD]
theorem isi_int_bool {i : Int} {P : D → Prop} : wIsi [.int i, .ty "bool"] P = P (.bl false) := by simp [wIsi, tyD, isiD]
theorem isi_int_str {i : Int} {P : D → Prop} : wIsi [.int i, .ty "str"] P = P (.bl false) := by simp [wIsi, tyD, isiD]
theorem isi_int_tuple {i : Int} {P : D → Prop} : wIsi [.int i, .ty "tuple"] P = P (.bl false) := by simp [wIsi, tyD, isiD]
theorem isi_int_list {i : Int} {P : D → Prop} : wIsi [.int i, .ty "list"] P = P (.bl false) := by simp [wIsi, tyD, isiD]
theorem isi_int_dict {i : Int} {P : D → Prop} : wIsi [.int i, .ty "dict"] P = P (.bl false) := by simp [wIsi, tyD, isiD]
theorem isi_str_int {x : Str} {P : D → Prop} : wIsi [.str x, .ty "int"] P = P (.bl false) := by simp [wIsi, tyD, isiD]
theorem isi_str_bool {x : Str} {P : D → Prop} : wIsi [.str x, .ty "bool"] P = P (.bl false) := by simp [wIsi, tyD, isiD]
theorem isi_str_str {x : Str} {P : D → Prop} : wIsi [.str x, .ty "str"] P = P (.bl true) := by simp [wIsi, tyD, isiD]
theorem isi_str_tuple {x : Str} {P : D → Prop} : wIsi [.str x, .ty "tuple"] P = P (.bl false) := by simp [wIsi, tyD, isiD]
theorem isi_str_list {x : Str} {P : D → Prop} : wIsi [.str x, .ty "list"] P = P (.bl false) := by simp [wIsi, tyD, isiD]
theorem isi_str_dict {x : Str} {P : D → Prop} : wIsi [.str x, .ty "dict"] P = P (.bl false) := by simp [wIsi, tyD, isiD]
theorem isi_tup_int {xs : List D} {P : D → Prop} : wIsi [.tup xs, .ty "int"] P = P (.bl false) := by simp [wIsi, tyD, isiD]
theorem isi_tup_bool {xs : List D} {P : D → Prop} : wIsi [.tup xs, .ty "bool"] P = P (.bl false) := by simp [wIsi, tyD, isiD]
theorem isi_tup_str {xs : List D} {P : D → Prop} : wIsi [.tup xs, .ty "str"] P = P (.bl false) := by simp [wIsi, tyD, isiD]
theorem isi_tup_tuple {xs : List D} {P : D → Prop} : wIsi [.tup xs, .ty "tuple"] P = P (.bl true) := by simp [wIsi, tyD, isiD]
theorem isi_tup_list {xs : List D} {P : D → Prop} : wIsi [.tup xs, .ty "list"] P = P (.bl false) := by simp [wIsi, tyD, isiD]
theorem isi_tup_dict {xs : List D} {P : D → Prop} : wIsi [.tup xs, .ty "dict"] P = P (.bl false) := by simp [wIsi, tyD, isiD]
theorem isi_lst_int {xs : List D} {P : D → Prop} : wIsi [.lst xs, .ty "int"] P = P (.bl false) := by simp [wIsi, tyD, isiD]
theorem isi_lst_bool {xs : List D} {P : D → Prop} : wIsi [.lst xs, .ty "bool"] P = P (.bl false) := by simp [wIsi, tyD, isiD]
theorem isi_lst_str {xs : List D} {P : D → Prop} : wIsi [.lst xs, .ty "str"] P = P (.bl false) := by simp [wIsi, tyD, isiD]
theorem isi_lst_tuple {xs : List D} {P : D → Prop} : wIsi [.lst xs, .ty "tuple"] P = P (.bl false) := by simp [wIsi, tyD, isiD]
theorem isi_lst_list {xs : List D} {P : D → Prop} : wIsi [.lst xs, .ty "list"] P = P (.bl true) := by simp [wIsi, tyD, isiD]
theorem isi_lst_dict {xs : List D} {P : D → Prop} : wIsi [.lst xs, .ty "dict"] P = P (.bl false) := by simp [wIsi, tyD, isiD]
theorem isi_dic_int {es : List (Key × D)} {P : D → Prop} : wIsi [.dic es, .ty "int"] P = P (.bl false) := by simp [wIsi, tyD, isiD]
theorem isi_dic_bool {es : List (Key × D)} {P : D → Prop} : wIsi [.dic es, .ty "bool"] P = P (.bl false) := by simp [wIsi, tyD, isiD]
theorem isi_dic_str {es : List (Key × D)} {P : D → Prop} : wIsi [.dic es, .ty "str"] P = P (.bl false) := by simp [wIsi, tyD, isiD]
theorem isi_dic_tuple {es : List (Key × D)} {P : D → Prop} : wIsi [.dic es, .ty "tuple"] P = P (.bl false) := by simp [wIsi, tyD, isiD]
theorem isi_dic_list {es : List (Key × D)} {P : D → Prop} : wIsi [.dic es, .ty "list"] P = P (.bl false) := by simp [wIsi, tyD, isiD]
theorem isi_dic_dict {es : List (Key × D)} {P : D → Prop} : wIsi [.dic es, .ty "dict"] P = P (.bl true) := by simp [wIsi, tyD, isiD]
theorem lcG_fm {α : Type} {wg : WG} {wt : WT} {we : WE} {ρw : Rho} (g : α → D) (f : α → Option D) : ∀ {xs : List α} {k : List D → Prop}, (∀ x ∈ xs, ∀ (kT : D → Prop) (kF : Prop), (match f x with | some d => kT d | none => kF) → wg (g x) ρw fun ρ' => wt ρ' (fun b => if b = true then we ρ' kT (fun _ _ => False) else kF) (fun _ _ => False)) → k (xs.filterMap f) → wLcL wg wt we ρw (xs.map g) k
  | [], k, _, h => h
  | x :: xs, k, hx, h => by
    refine hx x List.mem_cons_self _ _ ?_
    rw [List.filterMap_cons] at h
    have ht : ∀ y ∈ xs, _ := fun y hy => hx y (List.mem_cons_of_mem _ hy)
    cases e : f x with
    | none => rw [e] at h; exact lcG_fm g f ht h
    | some d => rw [e] at h; exact lcG_fm g f (k := fun ds => k (d :: ds)) ht h
theorem lcG_map {α : Type} {wg : WG} {wt : WT} {we : WE} {ρw : Rho} (g : α → D) (f : α → D) {xs : List α} {k : List D → Prop} (hx : ∀ x ∈ xs, ∀ (kT : D → Prop) (kF : Prop), kT (f x) → wg (g x) ρw fun ρ' => wt ρ' (fun b => if b = true then we ρ' kT (fun _ _ => False) else kF) (fun _ _ => False)) (h : k (xs.map f)) : wLcL wg wt we ρw (xs.map g) k := by
  refine lcG_fm g (fun x => some (f x)) (fun x m kT kF q => hx x m kT kF q) ?_
  rw [List.filterMap_eq_map']; exact h
/-! ## strings -/
theorem sg_inj {c d : Nat} : (((⟨#[c]⟩ : Str) = ⟨#[d]⟩)) = (c = d) := by simp
theorem str_nil {x : Str} : x = Str.ofString "" ↔ x.cps.toList = [] := by
  constructor
  · intro h; subst h; rfl
  · intro h
    cases x with | mk a =>
    have : a = #[] := by cases a; simp at h; subst h; rfl
    subst this; rfl
theorem cps_len {x : Str} : x.length = x.cps.toList.length := by simp [Str.length]
theorem line_of {n : Nat} (h : n ≤ 1000000) : n ≤ sizeLine := Nat.le_trans h (by decide)
theorem ite3 {c : Bool} {A B : Prop} (ha : c = true → A) (hb : c = false → B) : if c = true then A else B := by cases c <;> simp_all
/-- a walk, by what holds ahead of each turn -/
theorem wLoop_ind {wg : WG} {body : WS} {B : WEnds} (I : List D → Rho → Prop) (h0 : ∀ ρ, I [] ρ → B.nx ρ) (hs : ∀ x xs ρ (N : Rho → Prop), (∀ ρ', I xs ρ' → N ρ') → I (x :: xs) ρ → wg x ρ fun ρ' => body { B with nx := N, ct := N, bk := B.nx } ρ') : ∀ {xs : List D} {ρ : Rho}, I xs ρ → wLoop wg body xs B ρ
  | [], ρ, h => h0 ρ h
  | x :: xs, ρ, h => hs x xs ρ _ (fun ρ' h' => wLoop_ind I h0 hs h') h
theorem fm_isEmpty {α β : Type} (q : α → Bool) (c : β) : ∀ {xs : List α}, (xs.filterMap fun x => if q x = true then none else some c).isEmpty = xs.all q
  | [] => rfl
  | x :: xs => by
    have ih := fm_isEmpty q c (xs := xs)
    cases e : q x with
    | true => rw [List.filterMap_cons_none (by simp [e]), ih]; simp [e]
    | false => rw [List.filterMap_cons_some (b := c) (by simp [e])]; simp [e]
theorem eqF_str {a b : Str} : eqF (.str a) (.str b) = decide (b = a) := by
  by_cases h : b = a
  · subst h; simp [eqF]
  · have h' : ¬ a = b := fun z => h z.symm
    simp [eqF, h, h']
theorem eqF_int {a b : Int} : eqF (.int a) (.int b) = decide (b = a) := by
  by_cases h : b = a
  · subst h; simp [eqF]
  · have h' : ¬ a = b := fun z => h z.symm
    simp [eqF, h, h']
theorem ln0 : (0 ≤ sizeLine) = True := eq_true (by decide)
theorem ln1 : (1 ≤ sizeLine) = True := eq_true (by decide)
theorem ln2 : (2 ≤ sizeLine) = True := eq_true (by decide)
theorem ln3 : (3 ≤ sizeLine) = True := eq_true (by decide)
theorem ln4 : (4 ≤ sizeLine) = True := eq_true (by decide)
theorem ln5 : (5 ≤ sizeLine) = True := eq_true (by decide)
theorem ln6 : (6 ≤ sizeLine) = True := eq_true (by decide)
theorem ln7 : (7 ≤ sizeLine) = True := eq_true (by decide)
theorem ln8 : (8 ≤ sizeLine) = True := eq_true (by decide)
theorem ln9 : (9 ≤ sizeLine) = True := eq_true (by decide)
theorem ln10 : (10 ≤ sizeLine) = True := eq_true (by decide)
theorem ln11 : (11 ≤ sizeLine) = True := eq_true (by decide)
theorem ln12 : (12 ≤ sizeLine) = True := eq_true (by decide)
theorem ln13 : (13 ≤ sizeLine) = True := eq_true (by decide)
theorem ln14 : (14 ≤ sizeLine) = True := eq_true (by decide)
theorem ln15 : (15 ≤ sizeLine) = True := eq_true (by decide)
theorem ln16 : (16 ≤ sizeLine) = True := eq_true (by decide)
theorem cutD_to {xs : List D} {i : Nat} : cutD xs none (some (i : Int)) = xs.take i := by
  unfold cutD
  rw [HT.sIx_none, HT.sIx_nat, List.drop_zero, Nat.sub_zero]
  rcases Nat.le_total i xs.length with h | h
  · rw [Nat.min_eq_left h]
  · rw [Nat.min_eq_right h, List.take_length, List.take_of_length_le h]
theorem cutD_from {xs : List D} {i : Nat} : cutD xs (some (i : Int)) none = xs.drop i := by
  unfold cutD
  rw [HT.sIx_none, HT.sIx_nat]
  rcases Nat.le_total i xs.length with h | h
  · rw [Nat.min_eq_left h, List.take_of_length_le (by rw [List.length_drop]; omega)]
  · rw [Nat.min_eq_right h, Nat.sub_self, List.take_zero, List.drop_of_length_le h]
theorem cutD_mid {xs : List D} {i j : Nat} : cutD xs (some (i : Int)) (some (j : Int)) = (xs.drop i).take (j - i) := by
  unfold cutD
  rw [HT.sIx_nat, HT.sIx_nat]
  rcases Nat.le_total i xs.length with h | h
  · rw [Nat.min_eq_left h]
    rcases Nat.le_total j xs.length with h2 | h2
    · rw [Nat.min_eq_left h2]
    · rw [Nat.min_eq_right h2, List.take_of_length_le (by rw [List.length_drop]; omega), List.take_of_length_le (by rw [List.length_drop]; omega)]
  · rw [Nat.min_eq_right h, List.drop_length, List.drop_of_length_le h, List.take_nil, List.take_nil]
theorem cut_split {xs : List D} {i : Nat} (h : i < xs.length) : xs = xs.take i ++ xs[i] :: xs.drop (i + 1) := by
  rw [← List.drop_eq_getElem_cons h, List.take_append_drop]
theorem ix1 {i : Nat} : (i : Int) + 1 = ((i + 1 : Nat) : Int) := rfl
end PL
set_option Elab.async false
set_option linter.all false
set_option maxRecDepth 100000
set_option maxHeartbeats 2000000
namespace PL
open PySem L2
/-- a comprehension whose items are any that fit -/
theorem lcG_any {α : Type} {wg : WG} {wt : WT} {we : WE} {ρw : Rho} (g : α → D) (Q : D → Prop) : ∀ {xs : List α} {k : List D → Prop}, (∀ x ∈ xs, ∀ (kT : D → Prop) (kF : Prop), (∀ t, Q t → kT t) → wg (g x) ρw fun ρ' => wt ρ' (fun b => if b = true then we ρ' kT (fun _ _ => False) else kF) (fun _ _ => False)) → (∀ ds : List D, ds.length = xs.length → (∀ d ∈ ds, Q d) → k ds) → wLcL wg wt we ρw (xs.map g) k
  | [], k, _, h => h [] rfl fun d hd => by cases hd
  | x :: xs, k, hx, h => by
    refine hx x List.mem_cons_self _ _ fun t ht => ?_
    refine lcG_any g Q (fun y hy => hx y (List.mem_cons_of_mem _ hy)) fun ds hl hq => h (t :: ds) (by simp [hl]) fun d hd => ?_
    rcases List.mem_cons.mp hd with rfl | hd
    · exact ht
    · exact hq d hd
theorem lcL_any {wg : WG} {wt : WT} {we : WE} {ρw : Rho} (Q : D → Prop) {xs : List D} {k : List D → Prop} (hx : ∀ x ∈ xs, ∀ (kT : D → Prop) (kF : Prop), (∀ t, Q t → kT t) → wg x ρw fun ρ' => wt ρ' (fun b => if b = true then we ρ' kT (fun _ _ => False) else kF) (fun _ _ => False)) (h : ∀ ds : List D, ds.length = xs.length → (∀ d ∈ ds, Q d) → k ds) : wLcL wg wt we ρw xs k := by
  have q := lcG_any (α := D) id Q (k := k) hx h
  rw [List.map_id] at q
  exact q
theorem rng_len {lo : Int} {n : Nat} : (rng lo n).length = n := by simp [rng]
/-! one statement at a time: the rest stands as a variable -/
theorem st_set {i : Nat} {we : WE} {w2 : WS} {B : WEnds} {ρ : Rho} (h : ∀ W2 : WS, W2 = w2 → we ρ (fun d => W2 B (ρ.set i (.val d))) (B.ex ρ)) : wSeq (wSet i we) w2 B ρ := h w2 rfl
theorem st_asg {we : WE} {wg : WG} {w2 : WS} {B : WEnds} {ρ : Rho} (h : ∀ W2 : WS, W2 = w2 → we ρ (fun d => wg d ρ (W2 B)) (B.ex ρ)) : wSeq (wAsg we wg) w2 B ρ := h w2 rfl
theorem st_if {wt : WT} {wa wb w2 : WS} {B : WEnds} {ρ : Rho} (h : ∀ W2 : WS, W2 = w2 → wt ρ (fun b => if b = true then wa { B with nx := W2 B } ρ else wb { B with nx := W2 B } ρ) (B.ex ρ)) : wSeq (wIfS wt wa wb) w2 B ρ := h w2 rfl
theorem st_any {w1 w2 : WS} {B : WEnds} {ρ : Rho} (h : ∀ W2 : WS, W2 = w2 → w1 { B with nx := W2 B } ρ) : wSeq w1 w2 B ρ := h w2 rfl
end PL
set_option Elab.async false
set_option linter.all false
set_option maxRecDepth 100000
set_option maxHeartbeats 2000000
namespace PL
open PySem PySem.Spec PyProof.Rows L2
/-! ## repr of tuples and lists -/
mutual
/-- can be shown: no dict; ints of at most twelve figures -/
def shw : D → Bool
  | .non => true
  | .bl _ => true
  | .int i => decide (-999999999999 ≤ i) && decide (i ≤ 999999999999)
  | .str x => x.cps.toList.all fun c => decide (c < 16 ^ 8)
  | .tup xs => shwL xs
  | .lst xs => shwL xs
  | _ => false
def shwL : List D → Bool
  | [] => true
  | x :: xs => shw x && shwL xs
end
mutual
def blk : D → Nat
  | .str x => x.cps.size
  | .tup xs => blkL xs
  | .lst xs => blkL xs
  | _ => 0
def blkL : List D → Nat
  | [] => 0
  | x :: xs => blk x + 1 + blkL xs
end
mutual
def dph : D → Nat
  | .tup xs => dphL xs + 1
  | .lst xs => dphL xs + 1
  | _ => 0
def dphL : List D → Nat
  | [] => 0
  | x :: xs => max (dph x) (dphL xs)
end
structure Shd (d : D) (a : PyData) : Prop where
  e : pdOf d = some a
  sh : a.showable = true
  hd : a.hasDict = false
  lf : a.leavesShort 13 = true
  bk : a.bulk = blk d
  dp : a.depth = dph d
structure ShdL (d : List D) (a : List PyData) : Prop where
  e : pdL d = some a
  sh : PyData.showableAll a = true
  hd : PyData.hasDictAll a = false
  lf : PyData.leavesShortAll 13 a = true
  bk : PyData.bulkAll a = blkL d
  dp : PyData.depthAll a = dphL d
theorem log_small {i : Int} (h1 : -999999999999 ≤ i) (h2 : i ≤ 999999999999) : i.natAbs.log2 < 1920 := by
  have : i.natAbs < 2 ^ 40 := by omega
  exact Nat.lt_trans (PySem.Flt.log2_lt_of (by decide) this) (by decide)
mutual
theorem shd_of : ∀ {d : D}, shw d = true → ∃ a, Shd d a
  | .non, _ => ⟨_, rfl, rfl, rfl, rfl, rfl, rfl⟩
  | .bl _, _ => ⟨_, rfl, rfl, rfl, rfl, rfl, rfl⟩
  | .int i, h => by
    simp only [shw, Bool.and_eq_true, decide_eq_true_eq] at h
    exact ⟨_, rfl, by simp only [PyData.showable, decide_eq_true_eq]; exact log_small h.1 h.2, rfl, by simp only [PyData.leavesShort, decide_eq_true_eq]; exact PyData.shown_int_le2 h.1 h.2, rfl, rfl⟩
  | .str x, h => ⟨_, rfl, rfl, rfl, by simpa only [PyData.leavesShort, shw] using h, rfl, rfl⟩
  | .tup xs, h => by
    obtain ⟨a, q⟩ := shdL_of (d := xs) (by simpa only [shw] using h)
    exact ⟨.tuple a, by simp only [pdOf, q.e, Option.map], by simp only [PyData.showable]; exact q.sh, by simp only [PyData.hasDict]; exact q.hd, by simp only [PyData.leavesShort]; exact q.lf, by simp only [PyData.bulk, blk]; exact q.bk, by simp only [PyData.depth, dph, q.dp]⟩
  | .lst xs, h => by
    obtain ⟨a, q⟩ := shdL_of (d := xs) (by simpa only [shw] using h)
    exact ⟨.list a, by simp only [pdOf, q.e, Option.map], by simp only [PyData.showable]; exact q.sh, by simp only [PyData.hasDict]; exact q.hd, by simp only [PyData.leavesShort]; exact q.lf, by simp only [PyData.bulk, blk]; exact q.bk, by simp only [PyData.depth, dph, q.dp]⟩
  | .dic _, h => by simp [shw] at h
  | .tok, h => by simp [shw] at h
  | .fn _, h => by simp [shw] at h
  | .ty _, h => by simp [shw] at h
  | .exc _ _, h => by simp [shw] at h
theorem shdL_of : ∀ {d : List D}, shwL d = true → ∃ a, ShdL d a
  | [], _ => ⟨[], rfl, rfl, rfl, rfl, rfl, rfl⟩
  | x :: xs, h => by
    simp only [shwL, Bool.and_eq_true] at h
    obtain ⟨a, q⟩ := shd_of h.1
    obtain ⟨as, qs⟩ := shdL_of h.2
    exact ⟨a :: as, by simp only [pdL, q.e, qs.e], by simp only [PyData.showableAll, q.sh, qs.sh, Bool.and_self], by simp only [PyData.hasDictAll, q.hd, qs.hd, Bool.or_self], by simp only [PyData.leavesShortAll, q.lf, qs.lf, Bool.and_self], by simp only [PyData.bulkAll, blkL, q.bk, qs.bk], by simp only [PyData.depthAll, dphL, q.dp, qs.dp]⟩
end
/-- the text that shows data -/
def shownD (d : D) : Str := match pdOf d with | some a => a.shown | none => ⟨#[]⟩
def isSeq : D → Bool | .tup _ => true | .lst _ => true | _ => false
section
variable {X : Cx} {K : PySem.W.Frag}
def rRepr (K : PySem.W.Frag) : List V → Hp → VK → Prop := fun xs H Q => ∃ l a, xs = [.ref l] ∧ Dp K H (.ref l) a ∧ a.hasDict = false ∧ a.showable = true ∧ a.leavesShort 13 = true ∧ a.bulk ≤ 2 ^ 20 ∧ a.depth ≤ 60 ∧ Q (.str a.shown) H
theorem call_repr {k : Nat} (hr : RoomG k X.A) : CallR X (.builtin "repr") (rRepr X.K) := by
  intro pins s σ H xs us Q I r ⟨l, a, e, hd, h0, h1, h2, h3, h4, q⟩
  subst e
  obtain ⟨u, rfl, ru⟩ := vals1 r
  obtain ⟨as, rd⟩ := Dp.reads I _ _ _ hd ru
  cases ru
  have hu := hr.toRoom.units
  exact repr_of_reads' rd h1 (PyData.noDict_hsm h0) hr.gd (by omega) (fun _ _ z => z) (fun h' u tk hk => ⟨.str a.shown, H, I.kept (t' := tk) hk, ⟨u, rfl⟩, q⟩) (PyData.shown_fits_bulk (by decide) (by decide) h2 h3)
def wRepr : List D → (D → Prop) → Prop := fun ds P => match ds with
  | [d] => isSeq d = true ∧ shw d = true ∧ blk d ≤ 1000000 ∧ dph d ≤ 60 ∧ P (.str (shownD d))
  | _ => False
theorem sv_repr : SvC K (rRepr K) wRepr := fun p m H xs ds P Q r nm hw k => by
  match ds, hw with
  | [d], ⟨hs, h1, h2, h3, h4⟩ =>
    obtain ⟨x, ys, rfl, r1, r2⟩ := r.cons_inv
    obtain rfl := r2.nil_inv
    obtain ⟨a, q⟩ := shd_of h1
    have e : shownD d = a.shown := by unfold shownD; rw [q.e]
    rw [e] at h4
    have dp := r1.dp q.e
    have hl : ∃ l, x = .ref l := by
      cases r1 <;> first | exact ⟨_, rfl⟩ | cases hs
    obtain ⟨l, rfl⟩ := hl
    exact ⟨l, a, rfl, dp, q.hd, q.sh, q.lf, by rw [q.bk]; omega, by rw [q.dp]; exact h3, k _ _ _ (Same.refl H) (.str _) h4⟩
end
end PL
set_option Elab.async false
set_option linter.all false
set_option maxRecDepth 100000
set_option maxHeartbeats 2000000
namespace PL
open PySem PySem.Spec PyProof.Rows L2
/-! ## the law's own def -/
def spLaw (K : PySem.W.Frag) : Sp := fun vs H Q _ => ∃ (a : Addr) (ns : List Int), vs = [.ref a] ∧ (Rd H a (.lst (ns.map V.int)) ∨ KL K a (ns.map V.int)) ∧ ns.length ≤ 63 ∧ ∀ H', Q (.bl true) H'
/-- the source begins -/
def spBegun (K : PySem.W.Frag) : Sp := fun vs H Q _ => ∃ (a : Addr) (ns : List Int), vs = [.ref a] ∧ SqL K H a (ns.map V.int) ∧ ns.length ≤ 63 ∧
  ∀ p g c H', H p = none → H g = none → H c = none → Same H H' → StateAt H' p g c → tn p H' = 0 → Q (.ref p) H'
def tEx (K : PySem.W.Frag) (C : Nat) (ws : WS) : TS := fun D σ H => ∃ F, tWS K F WF C ws D σ H
theorem pss_ex {X : Cx} {C : Nat} {b : List Stmt} {ws : WS} (h : ∀ F, DSs X F WF C b ws) : PSs X b (tEx X.K C ws) := ⟨fun pins s σ H D I ⟨F, q⟩ => (h F).run pins s σ H D I q⟩
theorem relL_ints {K : PySem.W.Frag} {p : Addr} {m : Addr → Prop} {H : Hp} (ns : List Int) : RelL K p m H (ns.map V.int) (ns.map D.int) := RelL.ints ns
/-- on from where the source stands -/
theorem law_go {K : PySem.W.Frag} {C : Nat} {ws : WS} {N : List Str} {n : Nat} {ns : List Int} {a p g c : Addr} {H H1 : Hp} {Z : Ends} {σ : L2.St} (hN : 2 ≤ N.length) (hσ : σ = L2.start N [.ref a, .ref p])
    (hS : Rd H a (.lst (ns.map V.int)) ∨ KL K a (ns.map V.int)) (hp : H p = none) (hg : H g = none) (sm : Same H H1) (st : StateAt H1 p g c) (ht : tn p H1 = 0) (hC : C ≤ MAXT) (hq : ∀ H', Z.rt (.bl true) H')
    (hw : ws ⟨fun _ => False, fun d => d = .bl true, fun _ _ _ => False, fun _ => False, fun _ => False⟩ (sR n [.lst (ns.map .int), .tok])) (hn : N.length = n := by rfl) : tEx K C ws Z σ H1 := by
  subst hn
  subst hσ
  let F : Fc := ⟨p, g, c, fun b => b = p ∨ b = g, H1⟩
  have b : PL.Base F H1 := by
    refine ⟨st, st, fun b u e _ _ => e, fun b h => ?_, .inl rfl, .inr rfl, ?_⟩
    · rcases h with rfl | rfl
      · exact st.some (.inl rfl)
      · exact st.some (.inr (.inl rfl))
    · rintro (h | h)
      · exact st.p_ne_c h.symm
      · exact st.gc h.symm
  have ra : (Rd H1 a (.lst (ns.map V.int)) ∧ ¬ F.m0 a) ∨ KL K a (ns.map V.int) := hS.imp (fun h => ⟨?_, ?_⟩) id
  rotate_left
  · rcases h with h | ⟨o, h⟩
    · exact .inl (sm _ _ h)
    · exact .inr ⟨o, sm _ _ h⟩
  · have : H a ≠ none := by rcases h with h | ⟨o, h⟩ <;> rw [h] <;> simp
    rintro (rfl | rfl)
    · exact this hp
    · exact this hg
  have r : RelL K F.p F.m0 H1 [.ref a, .ref p] [.lst (ns.map .int), .tok] := .cons (.lst ra (relL_ints ns)) (.cons .tok .nil)
  have fm := fm_start (N := N) b r hN
  rw [sR_eq (show ([.lst (ns.map .int), .tok] : List D).length ≤ N.length from hN)] at fm
  refine ⟨F, _, _, _, fm, by unfold Bd; show tn p H1 + C ≤ MAXT; omega, hw, ?_, ?_, ?_, ?_, ?_⟩
  · intro _ _ _ _ _ _ z; exact z.elim
  · intro _ _ _ _ _ _ z; exact z.elim
  · intro _ _ _ _ _ _ z; exact z.elim
  · intro H' v d _ _ rv z
    subst z
    cases rv
    exact hq _
  · intro _ _ _ _ _ _ _ _ _ _ z; exact z.elim
/-! ## the law's call, behind the top -/
theorem room0 {k : Nat} (h : Room k callerA) : RoomG k callerA := ⟨h, rfl⟩
/-- what is tracked at the start: the script, where it is no object of the module -/
def trk0 (K : PySem.W.Frag) (a : Addr) (o : Obj) (xs : List V) : Hp := fun b => if b = a ∧ K.lookup a = none then some (.frz o (.lst xs)) else none
theorem trk0_inv {K : PySem.W.Frag} {a b : Addr} {o : Obj} {xs : List V} {u : HO} (h : trk0 K a o xs b = some u) : b = a ∧ K.lookup a = none ∧ u = .frz o (.lst xs) := by
  unfold trk0 at h
  split at h
  · rename_i q
    exact ⟨q.1, q.2, (Option.some.inj h).symm⟩
  · cases h
theorem trk0_no {K : PySem.W.Frag} {a b : Addr} {o : Obj} {xs : List V} (h : b = a → K.lookup a ≠ none) : trk0 K a o xs b = none := by
  unfold trk0
  rw [if_neg fun q => h q.1 q.2]
theorem call_law {P : Program} {w : World} {K : PySem.W.Frag} {mg mb : Str → Option Value} {k : Nat} {fa a : Addr} {fd : FuncData} {s : Shared} {vs : List Value} {ns : List Int}
    (kin : K.In s.heap) (glob : s.heap.Ns mainGlobals mg) (blt : s.heap.Ns builtinsNs mb) (boot : ∀ x : Str, x ≠ "__name__" → mb x = bootBuiltins x) (nolim : s.heap.NoLimit) (gens : s.gens = #[])
    (obj : s.heap.get? a = some { cls := .type "list", data := .seq vs.toArray }) (hi : IntsAre vs ns) (len : ns.length ≤ 63) (room : RoomG k callerA)
    (F : ∀ base : Heap, K.In base → base.Ns mainGlobals mg → FnG P w K mg base k fa fd ["script"] (spLaw K)) (bind : ∀ (s : Shared) (u : Value), BindsTo s fd ⟨[u], []⟩ [("script", u)]) :
    codeAny (model P w) callerA (.call (.ref fa) ⟨[.ref a], []⟩) (fun r s' => r = .ok (.ret (.bool true)) ∧ OldK s.heap s'.heap ∧ s'.os = s.os ∧ AllBare s'.gens) s := by
  have vals := vals_ints hi
  have line : ns.length ≤ sizeLine := Nat.le_trans len (by decide)
  have vlen : vs.length = ns.length := hi.length
  let o : Obj := { cls := .type "list", data := .seq vs.toArray }
  let T : Hp := trk0 K a o (ns.map V.int)
  have told : HOk P w T s.heap := fun b u z => by
    obtain ⟨rfl, _, rfl⟩ := trk0_inv z
    exact ⟨obj, by rw [List.length_map]; exact line, vs, _, vals, obj⟩
  have keepNs : ∀ {b : Addr} {m : Str → Option Value}, s.heap.Ns b m → (hidT s.heap T).Ns b m := fun {b m} ⟨ob, es, ep, e, d, r⟩ => by
    refine ⟨ob, es, ep, hidT_get e (trk0_no fun z _ => ?_), d, r⟩
    subst z
    have e' := Option.some.inj (e.symm.trans obj)
    rw [e'] at d
    cases d
  have kin2 : K.In (hidT s.heap T) := fun b ob e => hidT_get (kin b ob e) (trk0_no fun z y => by rw [z, y] at e; cases e)
  have nolim2 : (hidT s.heap T).NoLimit := let ⟨mc, h1, h2⟩ := nolim; ⟨mc, keepNs h1, h2⟩
  have env : Env0 P w K mg (hidT s.heap T) callerA [] s T := ⟨rfl, ⟨kin2, keepNs glob, ⟨mb, keepNs blt, boot⟩, nolim2⟩, fun b ob e => of_hidT e, Nat.le_of_eq (hidT_size _ _), trivial, (fun b hb => by have z : b ∈ ([] : List Addr) := hb; cases z), told, .of_eq gens⟩
  have rd : Rd T a (.lst (ns.map V.int)) ∨ KL K a (ns.map V.int) := by
    cases e : K.lookup a with
    | none => exact .inl (.inr ⟨o, if_pos ⟨rfl, e⟩⟩)
    | some ob =>
      have e2 := kin a ob e
      rw [obj] at e2
      cases e2
      exact .inr ⟨vs, _, e, by rw [vlen]; exact line, vals⟩
  refine codeAny_mono ((F _ kin2 (keepNs glob)).run (args := ⟨[.ref a], []⟩) (us := [.ref a]) (vs := [.ref a]) (Q := fun v _ => v = .bl true) (E := fun _ _ _ => False) room env (bind s (.ref a)) (.cons rfl .nil) ⟨a, ns, rfl, rd, len, fun _ => rfl⟩) fun r s' h => ?_
  match r, h with
  | .error _, h => exact h.elim
  | .ok .next, h => exact False.elim h
  | .ok .brk, h => exact False.elim h
  | .ok .cont, h => exact False.elim h
  | .ok (.ret u), ⟨v, H', os, bare, un, hok', r', q⟩ =>
    have qv : v = .bl true := q
    subst qv
    have ru : u = Value.bool true := r'
    subst ru
    refine ⟨rfl, OldK.of_keep fun b ob e => ?_, os, bare⟩
    cases z : T b with
    | none => exact un.keep b ob e z (by intro m; have y : b ∈ ([] : List Addr) := m; cases y) (by simp)
    | some u =>
      obtain ⟨rfl, _, rfl⟩ := trk0_inv z
      have z2 := un.frzs b o _ z
      have e2 := (hok' b _ z2).1
      rw [obj] at e
      cases e
      exact e2
/-- the walk of a law, by the promises of its defs -/
theorem walk_law {l : PySem.W.OpenLaw} {k : Nat} {q : Program} {loose : List Str} {XP : (Str → Option Value) → Heap → Prop} {YP : World → Heap → Prop} {d : DefRec}
    (most : l.most = some 63) (dflt : d.params.defaults = []) (room : Room k callerA)
    (F : ∀ (w : World) (mg : Str → Option Value) (fa : Addr) (h : Heap), YP w h → h.Ns mainGlobals mg → mg d.name = some (.ref fa) →
      ∃ (K : PySem.W.Frag) (fd : FuncData), K.In h ∧ (∀ (s : Shared) (u : Value), BindsTo s fd ⟨[u], []⟩ [("script", u)]) ∧
        ∀ base : Heap, K.In base → base.Ns mainGlobals mg → FnG l.prog w K mg base k fa fd ["script"] (spLaw K)) :
    PySem.W.WalkO q loose XP YP l.row.toRowW d [] (fun f vs => PySem.call f vs) :=
  Att.attach_call most dflt fun w s₀ s₁ mg mb fa o pm cd doc a vs ns G Y ho hd hcd hmg hobj hints hlen hg => by
    obtain ⟨K, fd, kin, hb, hF⟩ := F w mg fa _ Y G.T.g hmg
    exact call_law kin G.T.g G.T.b G.T.builtins G.T.nolimit hg hobj hints hlen (room0 room) hF hb
/-! ## what the head tells -/
theorem fun_of {K : PySem.W.Frag} {x q : Str} {st : Stmt} {f : Addr} {fd : FuncData} (D : FunD K x q (defArgs st) (defBody st) (defScope st) [] [] f fd) : Fun K x q st f fd := by
  obtain ⟨⟨oc, od, dV, kV, doc, pm, an, cdv, ct, osl, h1, h2, h3, h4, _⟩, kp⟩ := D
  rcases h4 with ⟨_, rfl⟩ | ⟨h, _⟩
  · exact ⟨⟨oc, od, kV, doc, pm, an, cdv, ct, osl, h1, h2, h3⟩, kp⟩
  · exact absurd rfl h
theorem Fun_ne {K : PySem.W.Frag} {x y q q' : Str} {st st' : Stmt} {a b : Addr} {fd fd' : FuncData} (F : Fun K x q st a fd) (F' : Fun K y q' st' b fd') (h : x ≠ y) : a ≠ b := by
  rintro rfl
  obtain ⟨oc, od, kV, doc, pm, an, cdv, ct, osl, h1, h2, _⟩ := F.ex
  obtain ⟨oc', od', kV', doc', pm', an', cdv', ct', osl', h1', h2', _⟩ := F'.ex
  rw [h2] at h2'
  have e : fd = fd' := by
    have z := Option.some.inj h2'
    injection z with _ _ z _
    injection z
  rw [h1, h1'] at e
  exact h (congrArg FuncData.name e)
end PL
set_option Elab.async false
set_option linter.all false
set_option maxRecDepth 100000
set_option maxHeartbeats 4000000
namespace PL
open PySem L2 PX
/-! ## own exceptions as data -/
/-- what is asked of the object -/
def isObj (H : Hp) (a C : Addr) : Prop := (∃ dx fs, H a = some (exo a C (some dx)) ∧ H dx = some (exd dx fs)) ∨ H a = some (ExO (.ref C) a)
def rIsX (K : PySem.W.Frag) : List V → Hp → VK → Prop := fun xs H Q => ∃ (a C : Addr) (c : V) (cv : Value) (b : Bool), xs = [.ref a, c] ∧ isObj H a C ∧ ExcC K C ∧ (∀ u, L2.RelV c u → u = cv) ∧ PySem.W.kitOne K (.ref C) cv = some b ∧ Q (.bl b) H
theorem cls_some {K : PySem.W.Frag} {C : Addr} (h : PySem.W.hasDictIn K C = true) : (PySem.W.clsIn K C).isSome = true := by
  obtain ⟨cd, e, _⟩ := PySem.W.any_some h
  rw [e]; rfl
theorem call_isX {X : Cx} : CallR X (.builtin "isinstance") (rIsX X.K) := by
  intro pins s σ H xs us Q I r h
  obtain ⟨a, C, c, cv, b, rfl, ho, T, hcv, e, q⟩ := h
  cases r with
  | cons rx rr =>
    cases rr with
    | cons rt rr =>
      cases rr
      cases rx
      have ec := hcv _ rt
      subst ec
      have J : ∃ (ox : Obj) (od : Option Obj), PySem.W.InstAt s.heap a ox C od := by
        rcases ho with ⟨dx, fs, ha, hd⟩ | ha
        · obtain ⟨t1, h1⟩ := exo_at I.hok ha
          obtain ⟨mA, hns, _⟩ := exd_at I.hok hd
          obtain ⟨od, h2, _⟩ := lookIn_ns hns
          exact ⟨_, some od, h1, rfl, rfl, h2⟩
        · obtain ⟨⟨oe, vs, h1, h2, h3, _⟩, _, _⟩ := I.hok a _ ha
          obtain ⟨oc, od, oda, osl⟩ := oe
          obtain ⟨z1, z2⟩ := h2
          dsimp only at z1 z2 h3
          subst z1 z2 h3
          exact ⟨_, none, h1, rfl, rfl, trivial⟩
      obtain ⟨ox, od, J⟩ := J
      exact PySem.W.kia_one (PySem.W.kitx_exc (cls_some T.hd) T.hg T.hk T.hs T.ha T.hn T.ht T.hm) I.kIn J e (fun z => nomatch z) fun tk => ⟨.bl b, H, I.kept (t' := tk) fun _ _ z => z, rfl, q⟩
section
variable {X : Cx} {F : Fc} {W : WX} {C C1 C2 : Nat} {pos p p2 : Pos} {K : PySem.W.Frag}
theorem Rel.excInv {pp : Addr} {m : Addr → Prop} {H : Hp} {v : V} {c : Str} {ds : List (Str × D)} (r : Rel K pp m H v (.exc c ds)) : ∃ a vs, v = .ref a ∧ XAt K m H a c vs ∧ RelX K pp m H vs ds := by
  cases r with
  | exc h r => exact ⟨_, _, rfl, h, r⟩
theorem XAt.obj {m : Addr → Prop} {H : Hp} {a : Addr} {c : Str} {vs : List (Str × V)} (h : XAt K m H a c vs) : isObj H a (He.ga K c) := by
  rcases h with ⟨dx, h1, h2, _⟩ | ⟨_, h1, _⟩
  · exact .inl ⟨dx, _, h1, h2⟩
  · exact .inr h1
/-- isinstance(e, c'): T tells of the classes that may come -/
def wIsx (T : Str → Option Bool) (we : WE) : WE := fun ρ P R => we ρ (fun d => ∃ c fs b, d = .exc c fs ∧ T c = some b ∧ P (.bl b)) R
theorem isx_wk {T : Str → Option Bool} {we : WE} {cv : V} {cval : Value} (hcv : ∀ u, L2.RelV cv u → u = cval) (hT : ∀ c b, T c = some b → ExcC K (He.ga K c) ∧ PySem.W.kitOne K (.ref (He.ga K c)) cval = some b)
    {σ : L2.St} {H : Hp} {Q : VK} (h : tW K F W C (wIsx T we) σ H Q) : tCB (rIsX K) (tCons (tW K F W C we) (tCons (tC cv) tNil)) σ H Q := by
  obtain ⟨os, ρ, P, R, f, bd, hw, k, kx⟩ := h
  refine ⟨os, ρ, _, R, f, bd, hw, fun H1 v d f1 g1 r1 h1 => ?_, kx⟩
  obtain ⟨c, fs, b, rfl, e, hP⟩ := h1
  obtain ⟨a, vs, rfl, xa, _⟩ := r1.excInv
  obtain ⟨t1, t2⟩ := hT c b e
  exact ⟨a, _, cv, cval, b, rfl, xa.obj, t1, hcv, t2, k H1 (.bl b) (.bl b) f1 g1 (.bl b) hP⟩
theorem d_isx {c' : Str} {e : Expr} {we : WE} {T : Str → Option Bool} (he : DE X F W C e we) (hg : Gl X "isinstance") (hm : X.mg "isinstance" = none) (hgc : Gl X c') (hmc : X.mg c' = some (.ref (He.ga X.K c')))
    (hT : ∀ c b, T c = some b → ExcC X.K (He.ga X.K c) ∧ PySem.W.kitOne X.K (.ref (He.ga X.K c)) (.ref (He.ga X.K c')) = some b) (hs : starEach [e, .Name c' p2] X.env = (false, eval e X.env) :: starEach [.Name c' p2] X.env := by rfl)
    (hdb : (c' == ("__debug__" : Str)) = false := by decide) : DE X F W C (.Call (.Name "isinstance" p) [e, .Name c' p2] [] pos) (wIsx T we) :=
  pe_wk (pe_callB call_isX hg hm (by rfl) (pa_cons he (pa_cons (pe_glob (v := .ref (He.ga X.K c')) hgc hmc rfl hdb) pa_nil) hs) (by decide) (by decide) hs (by rfl)) fun σ H Q h => isx_wk (cv := .ref (He.ga X.K c')) (cval := .ref (He.ga X.K c')) (fun u z => z) hT h
theorem d_isxT {n : String} {x : Str} {e : Expr} {we : WE} {T : Str → Option Bool} (he : DE X F W C e we) (hg : Gl X "isinstance") (hm : X.mg "isinstance" = none) (hgc : Gl X x) (hmc : X.mg x = none) (hv : bootBuiltins x = some (.type n))
    (hT : ∀ c b, T c = some b → ExcC X.K (He.ga X.K c) ∧ PySem.W.kitOne X.K (.ref (He.ga X.K c)) (.type n) = some b) (hs : starEach [e, .Name x p2] X.env = (false, eval e X.env) :: starEach [.Name x p2] X.env := by rfl)
    (hn : x ≠ "__name__" := by decide) (hdb : (x == ("__debug__" : Str)) = false := by decide) : DE X F W C (.Call (.Name "isinstance" p) [e, .Name x p2] [] pos) (wIsx T we) :=
  pe_wk (pe_callB call_isX hg hm (by rfl) (pa_cons he (pa_cons (pe_bltn (v := .ty n) hgc hmc hv rfl hn hdb) pa_nil) hs) (by decide) (by decide) hs (by rfl)) fun σ H Q h => isx_wk (cv := .ty n) (cval := .type n) (fun u z => z) hT h
/-- e.f: S tells of the classes that may come -/
def wFld (S : Str → Bool) (f : Str) (we : WE) : WE := fun ρ P R => we ρ (fun d => ∃ c fs u, d = .exc c fs ∧ S c = true ∧ fs.lookup f = some u ∧ P u) R
def FldC (K : PySem.W.Frag) (f : Str) (c : Str) : Prop := XfC K (He.ga K c) ∧ PySem.W.findIn K (.ref (He.ga K c)) f = some none
theorem d_fld {S : Str → Bool} {f : Str} {e : Expr} {we : WE} (he : DE X F W C e we) (hS : ∀ c, S c = true → FldC X.K f c) (hb : attributeBase e f X.env (eval e X.env) = eval e X.env := by rfl) : DE X F W C (.Attribute e f pos) (wFld S f we) :=
  pe_wk (PX.pe_fld he hb) fun σ H Q h => by
    obtain ⟨os, ρ, P, R, fm, bd, hw, k, kx⟩ := h
    refine ⟨os, ρ, _, R, fm, bd, hw, fun H1 v d f1 g1 r1 h1 => ?_, kx⟩
    obtain ⟨c, fs, u, rfl, hc, l, hP⟩ := h1
    obtain ⟨a, vs, rfl, xa, rx⟩ := r1.excInv
    obtain ⟨y, ly, ry⟩ := rx.look l
    obtain ⟨t1, t2⟩ := hS c hc
    rcases xa with ⟨dx, h1, h2, _⟩ | ⟨rfl, _⟩
    · exact ⟨a, _, dx, vs, y, rfl, t1, t2, h1, h2, ly, k H1 y u f1 g1 ry hP⟩
    · cases ly
/-! made -/
theorem RelX.app {pp : Addr} {m : Addr → Prop} {H : Hp} : ∀ {a c : List (Str × V)} {b d : List (Str × D)}, RelX K pp m H a b → RelX K pp m H c d → RelX K pp m H (a ++ c) (b ++ d)
  | _, _, _, _, .nil, s => s
  | _, _, _, _, .cons r t, s => .cons r (RelX.app t s)
theorem RelX.rev {pp : Addr} {m : Addr → Prop} {H : Hp} : ∀ {a : List (Str × V)} {b : List (Str × D)}, RelX K pp m H a b → RelX K pp m H a.reverse b.reverse
  | _, _, .nil => .nil
  | _, _, .cons r t => by
    rw [List.reverse_cons, List.reverse_cons]
    exact RelX.app (RelX.rev t) (.cons r .nil)
theorem RelX.zip {pp : Addr} {m : Addr → Prop} {H : Hp} : ∀ (ns : List Str) {vs : List V} {ds : List D}, RelL K pp m H vs ds → RelX K pp m H (ns.zip vs) (ns.zip ds)
  | [], _, _, _ => .nil
  | _ :: _, _, _, .nil => .nil
  | _ :: ns, _, _, .cons r t => .cons r (RelX.zip ns t)
theorem relL_at {pp : Addr} {m : Addr → Prop} {H : Hp} : ∀ {vs : List V} {ds : List D}, RelL K pp m H vs ds → ∀ i : Nat, (vs[i]? = none ∧ ds[i]? = none) ∨ ∃ v d, vs[i]? = some v ∧ ds[i]? = some d ∧ Rel K pp m H v d
  | _, _, .nil, i => .inl ⟨by simp, by simp⟩
  | _, _, .cons r t, 0 => .inr ⟨_, _, rfl, rfl, r⟩
  | _, _, .cons r t, i + 1 => by simpa using relL_at t i
theorem relL_pick {pp : Addr} {m : Addr → Prop} {H : Hp} {vs : List V} {ds : List D} (r : RelL K pp m H vs ds) : ∀ ix : List Nat, RelL K pp m H (pick ix vs) (pick ix ds)
  | [] => .nil
  | i :: ix => by
    unfold pick
    rw [List.filterMap_cons, List.filterMap_cons]
    rcases relL_at r i with ⟨a, b⟩ | ⟨v, u, a, b, c⟩
    · rw [a, b]; exact relL_pick r ix
    · rw [a, b]; exact .cons c (relL_pick r ix)
/-- C(..), C an own class that stores its arguments -/
def wSup (c : Str) (flds : List Str) (n : Nat) (ix : List Nat) (wa : WA) : WE := fun ρ P R => wa ρ (fun ds => ds.length = n ∧ P (.exc c (flds.zip (pick ix ds)).reverse)) R
theorem sup_wk {c : Str} {flds ks : List Str} {n : Nat} {ix : List Nat} {wa : WA} {σ : L2.St} {H : Hp} {Q : VK} (h : tW K F W C (wSup c flds (n + ks.length) ix wa) σ H Q) : tSup (He.ga K c) flds n ks ix (tWA K F W C wa) σ H Q := by
  obtain ⟨os, ρ, P, R, f, bd, hw, k, kx⟩ := h
  refine ⟨os, ρ, _, R, f, bd, hw, fun H1 vs ds f1 g1 r1 h1 => ⟨by rw [r1.length]; exact h1.1, fun a dx ha hd ne => ?_⟩, kx⟩
  have sm : Same H1 (upd (upd H1 dx (exd dx (flds.zip (pick ix vs)).reverse)) a (exo a (He.ga K c) (some dx))) := fun b u e => by rw [upd_ne (ne_of_none e ha), upd_ne (ne_of_none e hd)]; exact e
  exact k _ _ _ (f1.same sm) (g1.trans0 (.of f1.b.st sm)) (.exc (.inl ⟨dx, upd_same, by rw [upd_ne ne]; exact upd_same, f1.new ha, f1.new hd⟩) ((RelX.zip flds (relL_pick (r1.gr (.of sm)) ix)).rev)) h1.2
theorem d_sup {c : Str} {flds : List Str} {n : Nat} {ix : List Nat} {k : Nat} {e : Expr} {es : List Expr} {wa : WA} (T : SupK X.prog X.K (He.ga X.K c) flds [] n ix) (hr : Room (k + 1) X.A) (kC : PySem.W.keepIn X.K (.ref (He.ga X.K c)) = true) (hg : Gl X c) (hm : X.mg c = some (.ref (He.ga X.K c))) (ha : DA X F W C (e :: es) wa)
    (hdb : (c == ("__debug__" : Str)) = false := by decide) (he : starEach (e :: es) X.env = (false, eval e X.env) :: starEach es X.env := by rfl) (hpl : (backTo pos (starEach es X.env)).any (·.1) = false := by rfl) : DE X F W C (.Call (.Name c p) (e :: es) [] pos) (wSup c flds n ix wa) :=
  pe_wk (pe_sup T hr kC hg hm ha hdb he hpl) fun σ H Q h => sup_wk (ks := []) h
theorem d_supK {c : Str} {flds ks : List Str} {ix : List Nat} {k : Nat} {kws : List Keyword} {wa : WA} (T : SupK X.prog X.K (He.ga X.K c) flds ks 0 ix) (hr : Room (k + 1) X.A) (kC : PySem.W.keepIn X.K (.ref (He.ga X.K c)) = true) (hg : Gl X c) (hm : X.mg c = some (.ref (He.ga X.K c))) (ha : DKw X F W C kws wa)
    (hall : (backToKw pos (keywordEach kws X.env)).all (·.1.isSome) = true := by rfl) (hks : (backToKw pos (keywordEach kws X.env)).filterMap (·.1) = ks := by rfl) (hdb : (c == ("__debug__" : Str)) = false := by decide)
    (hpl : ((backTo pos (starEach [] X.env)).any (·.1) || (backToKw pos (keywordEach kws X.env)).any (·.1.isNone)) = false := by rfl) : DE X F W C (.Call (.Name c p) [] kws pos) (wSup c flds ks.length ix wa) :=
  pe_wk (pe_supK T hr kC hg hm ha hall hks hdb hpl) fun σ H Q h => sup_wk (n := 0) (by rw [Nat.zero_add]; exact h)
/-- C(e), C an own class that stores nothing -/
def wExc (c : Str) (we : WE) : WE := fun ρ P R => we ρ (fun _ => P (.exc c [])) R
theorem d_exc {c : Str} {e : Expr} {we : WE} (q : PySem.W.excIn X.K (He.ga X.K c) He.veBase "ValueError.__new__" = true) (kC : PySem.W.keepIn X.K (.ref (He.ga X.K c)) = true) (hg : Gl X c) (hm : X.mg c = some (.ref (He.ga X.K c))) (he : DE X F W C e we)
    (hs : starEach [e] X.env = (false, eval e X.env) :: starEach [] X.env := by rfl) (hdb : (c == ("__debug__" : Str)) = false := by decide) : DE X F W C (.Call (.Name c p) [e] [] pos) (wExc c we) :=
  pe_wk (pe_exc1 PySem.F.excBase_ValueError q hm kC hg he hs hdb) fun σ H Q h => by
    obtain ⟨os, ρ, P, R, f, bd, hw, k, kx⟩ := h
    refine ⟨os, ρ, _, R, f, bd, hw, fun H1 v d f1 g1 r1 h1 => fun a ha => ?_, kx⟩
    have sm : Same H1 (upd H1 a (ExO (.ref (He.ga X.K c)) a)) := same_new ha
    exact k _ _ _ (f1.same sm) (g1.trans0 (.of f1.b.st sm)) (.exc (.inr ⟨rfl, upd_same, f1.new ha⟩) .nil) h1
/-! isinstance(ValueError(e), C) -/
def rIsV (K : PySem.W.Frag) : List V → Hp → VK → Prop := fun xs H Q => ∃ (a : Addr) (c : V) (cv : Value) (b : Bool), xs = [.ref a, c] ∧ H a = some (ExO (.type "ValueError") a) ∧ (∀ u, L2.RelV c u → u = cv) ∧ PySem.W.kitOne K (.type "ValueError") cv = some b ∧ Q (.bl b) H
theorem call_isV : CallR X (.builtin "isinstance") (rIsV X.K) := by
  intro pins s σ H xs us Q I r h
  obtain ⟨a, c, cv, b, rfl, ha, hcv, e, q⟩ := h
  cases r with
  | cons rx rr =>
    cases rr with
    | cons rt rr =>
      cases rr
      cases rx
      have ec := hcv _ rt
      subst ec
      obtain ⟨⟨oe, vs, h1, h2, _⟩, _, _⟩ := I.hok a _ ha
      exact PySem.W.kia_one (PySem.W.kitx_bexc PySem.F.excAttr_ValueError PySem.F.lkClass_ValueError PySem.F.soClass_ValueError (by decide)) I.kIn ⟨oe, h1, h2.1⟩ e (fun z => nomatch z) fun tk => ⟨.bl b, H, I.kept (t' := tk) fun _ _ z => z, rfl, q⟩
theorem pe_ve {e : Expr} {te : TE} (hg : Gl X "ValueError") (hm : X.mg "ValueError" = none) (he : PE X e te) (hs : starEach [e] X.env = (false, eval e X.env) :: starEach [] X.env := by rfl) :
    PE X (.Call (.Name "ValueError" p) [e] [] pos) (fun σ H Q => te σ H fun x H1 => [x].length = 1 ∧ ∀ a, H1 a = none → Q (.ref a) (upd H1 a (ExO (.type "ValueError") a))) := by
  refine ⟨fun pins s σ H Q I h => ?_⟩
  refine wpAny_Call_Name_kw (ld_blt I hg hm boot_ValueError ?_ (by decide) (by decide))
  have ha : PA X [e] (tCons te tNil) := pa_cons he pa_nil hs
  refine PyProof.Rows.callWith_type1 (thn (ha.run pos pins s σ H (fun vs H1 => vs.length = 1 ∧ ∀ a, H1 a = none → Q (.ref a) (upd H1 a (ExO (.type "ValueError") a))) I ?_) fun us s1 hh => ?_) hs (by rfl)
  · exact h
  · obtain ⟨vs, H1, I1, r1, q0, q1⟩ := hh
    obtain ⟨hp1, g1, d1, tk1, os1⟩ := s1
    refine wpAny_call_exc PySem.F.excCall_ValueError (fun h' a mk => ?_) (by rw [← r1.length, q0, sizeLine_eq]; omega)
    have hn : H1 a = none := I1.hok.gone mk.new
    obtain ⟨t, ht, _, _⟩ := mk.there
    exact ⟨.ref a, upd H1 a (ExO (.type "ValueError") a), I1.laidN mk.keeps mk.new hn (exO_ok ht ⟨rfl, rfl⟩ rfl rfl rfl (show 4 < 6 by decide)), rfl, q1 a hn⟩
/-- isinstance(ValueError(e), c'), b its answer -/
def wIsv (b : Bool) (we : WE) : WE := fun ρ P R => we ρ (fun _ => P (.bl b)) R
theorem d_isv {c' : Str} {b : Bool} {e : Expr} {we : WE} {p3 pos2 : Pos} (he : DE X F W C e we) (hg : Gl X "isinstance") (hm : X.mg "isinstance" = none) (hgv : Gl X "ValueError") (hmv : X.mg "ValueError" = none) (hgc : Gl X c') (hmc : X.mg c' = some (.ref (He.ga X.K c')))
    (hT : PySem.W.kitOne X.K (.type "ValueError") (.ref (He.ga X.K c')) = some b) (hs : starEach [e] X.env = (false, eval e X.env) :: starEach [] X.env := by rfl)
    (hdb : (c' == ("__debug__" : Str)) = false := by decide) : DE X F W C (.Call (.Name "isinstance" p) [.Call (.Name "ValueError" p3) [e] [] pos2, .Name c' p2] [] pos) (wIsv b we) :=
  pe_wk (pe_callB call_isV hg hm (by rfl) (pa_cons (pe_ve hgv hmv he hs) (pa_cons (pe_glob (v := .ref (He.ga X.K c')) hgc hmc rfl hdb) pa_nil) rfl) (by decide) (by decide) rfl (by rfl)) fun σ H Q h => by
    obtain ⟨os, ρ, P, R, f, bd, hw, k, kx⟩ := h
    refine ⟨os, ρ, _, R, f, bd, hw, fun H1 v d f1 g1 r1 h1 => ⟨rfl, fun a ha => ?_⟩, kx⟩
    have sm : Same H1 (upd H1 a (ExO (.type "ValueError") a)) := same_new ha
    exact ⟨a, _, _, b, rfl, upd_same, fun u z => z, hT, k _ _ _ (f1.same sm) (g1.trans0 (.of f1.b.st sm)) (.bl b) h1⟩
end
end PL
namespace PL
open PySem L2 PX
/-! ## for at, x in enumerate(xs) -/
def enumL (n : Nat) : List D → List D
  | [] => []
  | d :: ds => .tup [.int (n : Nat), d] :: enumL (n + 1) ds
theorem enumL_get : ∀ {n i : Nat} {ds : List D}, (enumL n ds)[i]? = (ds[i]?).map fun d => D.tup [.int ((n + i : Nat) : Int), d]
  | n, i, [] => by simp [enumL]
  | n, 0, d :: ds => by simp [enumL]
  | n, i + 1, d :: ds => by
    have := enumL_get (n := n + 1) (i := i) (ds := ds)
    simp only [enumL, List.getElem?_cons_succ, this]
    congr 1; funext z; congr 3; omega
theorem enumL_len : ∀ {n : Nat} {ds : List D}, (enumL n ds).length = ds.length
  | _, [] => rfl
  | n, _ :: ds => by simp [enumL, enumL_len (n := n + 1) (ds := ds)]
theorem itOk_enum {K : PySem.W.Frag} {p a : Addr} {m : Addr → Prop} {H : Hp} {vs : List V} {ds : List D} (n : NdL K m H a vs) (r : RelL K p m H vs ds) : ItOk K p (Ite K a) m H (enumL 0 ds) := fun m' H' g nf i hi => by
  have n' := (n.g2 g).sq
  have r' := r.mono2 g
  refine ⟨fun e => ⟨vs, n', by rw [r.length, e, enumL_len]; exact Nat.le_refl _⟩, fun d hd => ?_⟩
  rw [enumL_get] at hd
  obtain ⟨z, hz, rfl⟩ := Option.map_eq_some_iff.mp hd
  obtain ⟨v, e1, r1⟩ := r'.get' hz
  refine ⟨⟨vs, v, n', e1⟩, fun x H'' y => ?_⟩
  obtain ⟨T, y1, rfl, hT, rfl, y2⟩ := y
  have e2 := y2 vs n'
  rw [e1] at e2; cases e2
  have sm : Same H' (upd H' T (.tup [.int (i : Nat), v])) := same_new hT
  refine ⟨sm, ?_⟩
  rw [Nat.zero_add]
  exact .tup (.inl ⟨.inl upd_same, nf T hT⟩) (.cons (.int _) (.cons (r1.gr (.of sm)) .nil))
def wItE (wa : WA) : WA := fun ρ P R => wa ρ (fun ds => ∃ xs, ds = [.lst xs] ∧ P (enumL 0 xs)) R
section
variable {X : Cx} {F : Fc} {W : WX} {C C1 C2 : Nat} {pos p tpos : Pos} {elts : List Expr} {kk : Nat}
theorem di_enum {e : Expr} {wa : WA} (hg : Gl X "enumerate") (hm : X.mg "enumerate" = none) (ha : DA X F W C [e] wa) (hs : starEach [e] X.env = [(false, eval e X.env)] := by rfl) : DI X F W C (.Tuple elts kk tpos) (.Call (.Name "enumerate" p) [e] [] pos) (wItE wa) := pi_wk (pi_enum hg hm ha hs) fun σ H R h => by
  obtain ⟨os, ρ, P, Rx, f, bd, hw, k, kx⟩ := h
  refine ⟨os, ρ, _, _, f, bd, hw, fun H' v d f' g' r' h' => ?_, kx⟩
  obtain ⟨xs, rfl, h'⟩ := h'
  obtain ⟨y, ys, rfl, r1, r2⟩ := r'.cons_inv
  rw [r2.nil_inv]
  obtain ⟨a, vs, rfl, n, l⟩ := r1.lstNd
  exact ⟨a, vs, rfl, n.sq, k H' _ _ f' g' (itOk_enum n l) h'⟩
/-- [e, ..] * n -/
def wRepL (wa : WA) (n : Nat) : WE := fun ρ P R => wa ρ (fun ds => ds.length ≤ 1000 ∧ n ≤ 1000 ∧ P (.lst (List.replicate n ds).flatten)) R
theorem d_repL {es : List Expr} {wa : WA} {n : Nat} {j : Nat} {p2 : Pos} (ha : DA X F W C es wa) : DE X F W C (.BinOp (.List es p2) .Mult (.Constant (.int (n : Nat)) j p) pos) (wRepL wa n) :=
  pe_wk (pe_op op_rep (pe_lst ha) pe_int) fun σ H Q h => by
    obtain ⟨os, ρ, P, R, f, bd, hw, k, kx⟩ := h
    refine ⟨os, ρ, _, R, f, bd, hw, fun H1 vs ds f1 g1 r1 h1 => ?_, kx⟩
    obtain ⟨l1, l2, hP⟩ := h1
    have s1 : 1000000 ≤ sizeLine := by decide
    refine ⟨by rw [r1.length]; omega, fun l hl => ?_⟩
    have sm : Same H1 (upd H1 l (.lst vs)) := same_new hl
    have lv : vs.length = ds.length := r1.length
    have mu : vs.length * n ≤ 1000 * 1000 := Nat.mul_le_mul (by omega) l2
    refine ⟨l, (n : Int), vs, rfl, rfl, upd_same, by omega, by omega, by rw [Int.toNat_natCast]; omega, fun q hq => ?_⟩
    rw [Int.toNat_natCast]
    have sm2 : Same (upd H1 l (.lst vs)) (upd (upd H1 l (.lst vs)) q (.lst (List.replicate n vs).flatten)) := same_new hq
    have f2 := f1.same sm
    exact k _ _ _ (f2.same sm2) ((g1.trans0 (.of f1.b.st sm)).trans0 (.of f2.b.st sm2)) (.lst (.inl ⟨.inl upd_same, f2.new hq⟩) (((RelL.rep r1 n).gr (.of sm)).gr (.of sm2))) hP
/-- x, y, z = a, b, c -/
def wPar3 (i j l : Nat) (wa : WA) : WS := fun B ρ => wa ρ (fun ds => ∃ d e g, ds = [d, e, g] ∧ B.nx (((ρ.set i (.val d)).set j (.val e)).set l (.val g))) (B.ex ρ)
theorem ds_par3 {i j l : Nat} {x y z : Str} {a b c : Expr} {wa : WA} {px py pz pt : Pos} {kt k2 pt2} (hc : X.calm = true) (hN : X.N.Nodup) (hi : X.N[i]? = some x) (hj : X.N[j]? = some y) (hl : X.N[l]? = some z) (hij : i ≠ j) (hil : i ≠ l) (hjl : j ≠ l)
    (hx : X.env.scope.names.lookup x = some .local) (hy : X.env.scope.names.lookup y = some .local) (hz : X.env.scope.names.lookup z = some .local) (ha : DA X F W C [a, b, c] wa)
    (hw : swappedStores [.Tuple [.Name x px, .Name y py, .Name z pz] kt pt] (.Tuple [a, b, c] k2 pt2) X.env = pure (some [x, y, z]))
    (hs : swapsWithSole [.Tuple [.Name x px, .Name y py, .Name z pz] kt pt] (.Tuple [a, b, c] k2 pt2) pos.line X.env = pure false := by rfl) :
    DS X F W C (.Assign [.Tuple [.Name x px, .Name y py, .Name z pz] kt pt] (.Tuple [a, b, c] k2 pt2) pos) (wPar3 i j l wa) := ps_wk (ps_par3 hc hN hi hj hl hij hil hjl hx hy hz ha hw hs) fun D σ H h => by
  obtain ⟨os, ρ, B, f, bd, hw, k, kb, kc, kr, kx⟩ := h
  refine ⟨os, ρ, _, B.ex ρ, f, bd, hw, fun H' vs ds f' g' r' h' => ?_, fun H' c d as f' g' x' h' => kx os ρ σ H' c d as f' (.kp f g') x' h'⟩
  obtain ⟨d, e, g, rfl, h'⟩ := h'
  obtain ⟨x1, xs1, rfl, r1, r2⟩ := r'.cons_inv
  obtain ⟨x2, xs2, rfl, r3, r4⟩ := r2.cons_inv
  obtain ⟨x3, xs3, rfl, r5, r6⟩ := r4.cons_inv
  rw [r6.nil_inv]
  exact ⟨x1, x2, x3, rfl, k _ _ _ H' (((f'.set i r1).set j (r3.mono2 g2_set)).set l ((r5.mono2 g2_set).mono2 g2_set)) (((((Af.kp f g').trans (.of g2_set)).trans (.of g2_set)).trans (.of g2_set)).le (by omega)) h'⟩
end
end PL
set_option Elab.async false
set_option linter.all false
set_option maxRecDepth 100000
set_option maxHeartbeats 4000000
namespace PL
open PySem L2 PX
/-! ## the facts of own exception classes, read off the written part -/
abbrev ba {a b : Bool} (h : (a && b) = true) : a = true ∧ b = true := Bool.and_eq_true_iff.mp h
/-- the class's shape -/
def shpB (K : PySem.W.Frag) (C : Addr) : Bool := match K.lookup C with
  | some ⟨.type t, _, .cls cd, sl⟩ => decide (t = "type") && (cd.hasDict && (!cd.hasDel && ((match cd.mro with | .ref C' :: bm => decide (C' = C) && PySem.HandSPX.refsVE bm | _ => false) && (match sl.toList with | [_, _, _, _, some (.builtin n), _] => decide (n = "ValueError.__new__") | _ => false))))
  | _ => false
theorem shpB_ok {K : PySem.W.Frag} {C : Addr} (h : shpB K C = true) :
    ∃ nm q N bs bm sn sub ab col dd k0 k1 k2 k3 k5, K.lookup C = some (excClassObj nm q C N bs bm true sn sub ab col dd k0 k1 k2 k3 k5 "ValueError.__new__") ∧ PySem.HandSPX.refsVE bm = true := by
  unfold shpB at h
  split at h
  · rename_i t dd cd sl ho
    obtain ⟨h1, y1⟩ := ba h
    obtain ⟨h2, y2⟩ := ba y1
    obtain ⟨h3, y3⟩ := ba y2
    obtain ⟨h4, h5⟩ := ba y3
    clear h y1 y2 y3
    obtain ⟨nm, bs, mro, ns, qn, hd, sn, sub, ab, col, del⟩ := cd
    obtain ⟨l⟩ := sl
    dsimp only at h2 h3 h4 h5
    split at h4
    · rename_i C' bm
      obtain ⟨h6, h7⟩ := ba h4
      split at h5
      · rename_i k0 k1 k2 k3 n k5
        have e1 : t = "type" := of_decide_eq_true h1
        have e2 : C' = C := of_decide_eq_true h6
        have e3 : n = "ValueError.__new__" := of_decide_eq_true h5
        have e4 : del = false := by simpa using h3
        subst e1 e2 e3 e4 h2
        exact ⟨nm, qn, ns, bs, bm, sn, sub, ab, col, dd, k0, k1, k2, k3, k5, ho, h7⟩
      · cases h5
    · cases h4
  · cases h
def oexB (K : PySem.W.Frag) (C : Addr) : Bool := shpB K C && (He.eqO (PySem.W.findIn K (.ref C) "__setattr__") (some (some (.builtin "object.__setattr__"))) && (decide (PySem.W.subIn K (.ref C) (.type "BaseException") = some true) && (decide (PySem.W.typeIn K (.ref C) = some (.type "type")) && PySem.W.keepIn K (.ref C))))
theorem oexB_ok {K : PySem.W.Frag} {C : Addr} (h : oexB K C = true) : OexC K C := by
  obtain ⟨h1, h⟩ := ba h
  obtain ⟨h2, h⟩ := ba h
  obtain ⟨h3, h⟩ := ba h
  obtain ⟨h4, h5⟩ := ba h
  exact ⟨shpB_ok h1, He.eqO_ok h2, of_decide_eq_true h3, of_decide_eq_true h4, h5⟩
/-- isinstance may ask its instances -/
def excB (K : PySem.W.Frag) (D : Addr) : Bool := He.eqO (PySem.W.findIn K (.ref D) "__getattribute__") (some (some (.builtin "BaseException.__getattribute__"))) && (He.eqO (PySem.W.findIn K (.ref D) "__getattr__") (some none) && (decide (PySem.W.subIn K (.ref D) (.type "BaseException") = some true) && (PySem.W.hasDictIn K D &&
  (He.eqO (PySem.W.findIn K (.ref D) "__class__") (some (some (.builtin "object.__class__"))) && (He.eqO (PySem.W.specialIn K (.builtin "object.__class__") "__get__") (some (some (.builtin "getset_descriptor.__get__"))) && (decide (PySem.W.takesIn K (.builtin "object.__class__") = some true) && decide (PySem.W.mroIn K D (.type "object") = some true)))))))
theorem excB_ok {K : PySem.W.Frag} {D : Addr} (h : excB K D = true) : ExcC K D := by
  obtain ⟨h1, h⟩ := ba h
  obtain ⟨h2, h⟩ := ba h
  obtain ⟨h3, h⟩ := ba h
  obtain ⟨h4, h⟩ := ba h
  obtain ⟨h5, h⟩ := ba h
  obtain ⟨h6, h⟩ := ba h
  obtain ⟨h7, h8⟩ := ba h
  exact ⟨He.eqO_ok h1, He.eqO_ok h2, of_decide_eq_true h3, h4, He.eqO_ok h5, He.eqO_ok h6, of_decide_eq_true h7, of_decide_eq_true h8⟩
/-- the __init__'s cell, code -/
def cellOf (K : PySem.W.Frag) (f : Addr) : Addr := match K.lookup f with
  | some ⟨_, _, .func fd, _⟩ => (match fd.closure with | [(_, cc)] => cc | _ => 0)
  | _ => 0
def cellB (K : PySem.W.Frag) (cc C : Addr) : Bool := match K.lookup cc with
  | some ⟨_, _, .cell (some (.ref D)), _⟩ => decide (D = C)
  | _ => false
theorem cellB_ok {K : PySem.W.Frag} {cc C : Addr} (h : cellB K cc C = true) : ∃ cl cld csl, K.lookup cc = some ⟨cl, cld, .cell (some (.ref C)), csl⟩ := by
  unfold cellB at h
  split at h
  · rename_i cl cld D csl e
    have : D = C := of_decide_eq_true h
    subst this
    exact ⟨_, _, _, e⟩
  · cases h
def codB (K : PySem.W.Frag) (cd : Value) (q file : Str) : Bool := match cd with
  | .ref a => PySem.W.codeIn K (.ref a) q && (match K.lookup a with
    | some ⟨_, _, .fields vs, _⟩ => (match (vs[2]? : Option Value) with | some (Value.str f _) => decide (f = file) | _ => false)
    | _ => false)
  | _ => false
theorem codB_ok {K : PySem.W.Frag} {cd : Value} {q file : Str} (h : codB K cd q file = true) : ∃ cda ccl cdd vs ccs tf, cd = .ref cda ∧ PySem.W.codeIn K (.ref cda) q = true ∧ K.lookup cda = some ⟨ccl, cdd, .fields vs, ccs⟩ ∧ vs[2]? = some (.str file tf) := by
  unfold codB at h
  split at h
  · rename_i a
    obtain ⟨h1, h2⟩ := ba h
    clear h
    split at h2
    · rename_i ccl cdd vs ccs e
      split at h2
      · rename_i f tf e2
        have : f = file := of_decide_eq_true h2
        subst this
        exact ⟨a, _, _, vs, _, tf, rfl, h1, e, e2⟩
      · cases h2
    · cases h2
  · cases h
/-- an own class and its __init__: what is looked at as a whole -/
abbrev IniW : Type := Option (Str × Str × Arguments × FuncBody × Scope × Addr × List Str × Addr)
def iniAt (K : PySem.W.Frag) (c : Str) : Addr := He.ma K (He.ga K c) "__init__"
def iniW (K : PySem.W.Frag) (c : Str) : IniW := match K.lookup (iniAt K c) with
  | some ⟨_, _, .func fd, _⟩ => some (fd.name, fd.qualname, fd.params, fd.body, fd.scope, fd.globals, fd.closure.map (·.1), fd.builtins)
  | _ => none
/-- one such class: its name, its fields, its __init__ -/
structure SupD where
  c : Str
  q : Str
  flds : List Str
  st : Stmt
def SupD.val (d : SupD) : IniW := some ("__init__", d.q, defArgs d.st, .stmts (defBody d.st), defScope d.st, mainGlobals, ["__class__"], builtinsNs)
def SupD.ok (file : Str) (K : PySem.W.Frag) (d : SupD) : Bool := oexB K (He.ga K d.c) && (He.eqO (PySem.W.findIn K (.ref (He.ga K d.c)) "__init__") (some (some (.ref (iniAt K d.c)))) && (decide (PySem.W.typeIn K (.ref (iniAt K d.c)) = some (.type "function")) && (He.eqO (PySem.W.nsIn K cStatics "thirdparty.any") (some none) &&
  (decide (PySem.W.ks_superIn K (He.ga K d.c) (He.ga K d.c) "__init__" = some (some (.builtin "ValueError.__init__"))) && (decide (PySem.W.subIn K (.ref (He.ga K d.c)) (.type "ValueError") = some true) && (decide (PySem.W.mroIn K (He.ga K d.c) (.ref (He.ga K d.c)) = some true) && (cellB K (cellOf K (iniAt K d.c)) (He.ga K d.c) &&
  (He.eqO (PySem.W.nsIn K mainGlobals "super") (some none) && ((d.flds.all fun f => He.eqO (PySem.W.findIn K (.ref (He.ga K d.c)) f) (some none)) && (match K.lookup (iniAt K d.c) with
    | some ⟨_, _, .func fd, _⟩ => codB K fd.code d.q file && He.dflB K fd.defaults []
    | _ => false))))))))))
theorem SupD.facts {P : Program} {K : PySem.W.Frag} {d : SupD} (e : iniW K d.c = d.val) (h : d.ok P.main.file K = true) (top : (P.main.scope.names.lookup ("super" : Str)).isSome = false) :
    SupC P K (He.ga K d.c) (iniAt K d.c) (cellOf K (iniAt K d.c)) ∧ (∀ f ∈ d.flds, PySem.W.findIn K (.ref (He.ga K d.c)) f = some none) ∧
    ∃ (oc : Value) (od : Option Addr) (kV doc pm : Value) (an : Option Addr) (cda : Addr) (ct : Value) (osl : Array (Option Value)) (ccl : Value) (cdd : Option Addr) (vs : Array Value) (ccs : Array (Option Value)) (tf : Tok),
      K.lookup (iniAt K d.c) = some ⟨oc, od, .func (PySem.W.ksFn "__init__" d.q (defArgs d.st) (defBody d.st) (defScope d.st) .none kV doc pm an (.ref cda) ct (cellOf K (iniAt K d.c))), osl⟩ ∧ PySem.W.codeIn K (.ref cda) d.q = true ∧ K.lookup cda = some ⟨ccl, cdd, .fields vs, ccs⟩ ∧ vs[2]? = some (.str P.main.file tf) := by
  obtain ⟨h1, h⟩ := ba h
  obtain ⟨h2, h⟩ := ba h
  obtain ⟨h3, h⟩ := ba h
  obtain ⟨h4, h⟩ := ba h
  obtain ⟨h5, h⟩ := ba h
  obtain ⟨h6, h⟩ := ba h
  obtain ⟨h7, h⟩ := ba h
  obtain ⟨h8, h⟩ := ba h
  obtain ⟨h9, h⟩ := ba h
  obtain ⟨h10, h11⟩ := ba h
  refine ⟨⟨oexB_ok h1, He.eqO_ok h2, of_decide_eq_true h3, He.eqO_ok h4, of_decide_eq_true h5, of_decide_eq_true h6, of_decide_eq_true h7, cellB_ok h8, He.eqO_ok h9, top⟩, fun f hf => He.eqO_ok (List.all_eq_true.mp h10 f hf), ?_⟩
  have ec : cellOf K (iniAt K d.c) = cellOf K (iniAt K d.c) := rfl
  unfold iniW at e
  cases q : K.lookup (iniAt K d.c) with
  | none => rw [q] at h11; cases h11
  | some o =>
    obtain ⟨oc, od, dt, osl⟩ := o
    rw [q] at h11 e
    cases dt with
    | func fd =>
      obtain ⟨n1, n2, n3, n4, n5, n6, n7, n8, n9, n10, n11, n12, n13, n14, n15⟩ := fd
      have e2 : (some (n1, n2, n3, n4, n5, n6, n7.map (·.1), n15) : IniW) = some (("__init__" : Str), d.q, defArgs d.st, FuncBody.stmts (defBody d.st), defScope d.st, mainGlobals, [("__class__" : Str)], builtinsNs) := e
      simp only [Option.some.injEq, Prod.mk.injEq] at e2
      obtain ⟨g1, g2, g3, g4, g5, g6, g7, g8⟩ := e2
      have h12 : (codB K n13 d.q P.main.file && He.dflB K n8 []) = true := h11
      obtain ⟨k1, k2⟩ := ba h12
      obtain ⟨cda, ccl, cdd, vs, ccs, tf, rfl, m1, m2, m3⟩ := codB_ok k1
      have e8 : n8 = .none := by
        cases n8 with
        | none => rfl
        | _ => cases k2
      match n7, g7 with
      | [(x, cc)], g7 =>
        have ex : x = ("__class__" : Str) := by simpa using g7
        have ecc : cellOf K (iniAt K d.c) = cc := by unfold cellOf; rw [q]
        subst g1 g2 g3 g4 g5 g6 g8 e8 ex
        rw [ecc]
        exact ⟨oc, od, n9, n10, n11, n12, cda, n14, osl, ccl, cdd, vs, ccs, tf, rfl, m1, m2, m3⟩
      | [], g7 => simp at g7
      | _ :: _ :: _, g7 => simp at g7
    | _ => cases h11
/-! a call of such a class, from the facts -/
structure SupS (sc : Scope) (flds : List Str) : Prop where
  co : sc.isCoroutine = false
  gen : sc.isGenerator = false
  kind : sc.kind = .function
  nocell : ∀ x ∈ sc.names, x.2 ≠ .cell
  ks : sc.names.lookup ("super" : Str) = some .globalImplicit
  kc : sc.names.lookup ("__class__" : Str) = some .free
  kself : sc.names.lookup ("self" : Str) = some .local
  fl : ∀ y ∈ flds, sc.names.lookup y = some .local ∧ (y == ("__debug__" : Str)) = false
theorem supK_of {P : Program} {K : PySem.W.Frag} {d : SupD} {ks : List Str} {n : Nat} {ix : List Nat} {msg : Str} {rest : List Stmt} (e : iniW K d.c = d.val) (h : d.ok P.main.file K = true) (top : (P.main.scope.names.lookup ("super" : Str)).isSome = false)
    (B : SupBody (defBody d.st) msg rest) (S : SupS (defScope d.st) d.flds) (hd : ∃ ar, ((defArgs d.st).posonlyargs ++ (defArgs d.st).args).head? = some ar ∧ ar.arg = ("self" : Str))
    (hb : ∀ (kV doc pm : Value) (an : Option Addr) (cdv ct : Value) (cc : Addr) (u : Value) (us ws : List Value), us.length = n → ws.length = ks.length →
      bindArgs (PySem.W.ksFn "__init__" d.q (defArgs d.st) (defBody d.st) (defScope d.st) .none kV doc pm an cdv ct cc) ⟨u :: us, ks.zip ws⟩ = pure ((("self" : Str), u) :: d.flds.zip (pick ix (us ++ ws))))
    (st : ∀ (m : Str → Option Value) (us : List Value), us.length = d.flds.length → (∀ z ∈ d.flds.zip us, m z.1 = some z.2) → Sets m rest (d.flds.zip us)) (ne : d.flds ≠ []) (nn : n ≤ 1000) (few : d.flds.length ≤ 800) (nd : (("self" : Str) :: d.flds).Nodup)
    (l1 : ∀ l : List Value, l.length = n + ks.length → (pick ix l).length = d.flds.length) (l2 : ∀ l : List V, l.length = n + ks.length → (pick ix l).length = d.flds.length) : SupK P K (He.ga K d.c) d.flds ks n ix := by
  obtain ⟨T, fl, oc, od, kV, doc, pm, an, cda, ct, osl, ccl, cdd, vs, ccs, tf, q1, q2, q3, q4⟩ := SupD.facts e h top
  refine ⟨⟨_, _, d.q, msg, defArgs d.st, defBody d.st, rest, defScope d.st, _, T, ⟨⟨oc, od, kV, doc, pm, an, cda, ct, osl, ccl, cdd, vs, ccs, tf, rfl, q1, q2, q3, q4⟩, hd, S.co, S.gen, S.kind, S.nocell, S.ks, S.kc, S.kself⟩, B, ?_, ?_, st⟩, ne, nn, few, nd, l1, l2⟩
  · intro s u us ws h1 h2
    exact .of_eq (hb kV doc pm an (.ref cda) ct _ u us ws h1 h2)
  · exact fun y hy => ⟨(S.fl y hy).1, fl y hy, (S.fl y hy).2⟩
/-! classes among each other -/
def mroB (K : PySem.W.Frag) (base : Str) (c : Str) : Bool := decide ((PySem.W.clsIn K (He.ga K c)).map (·.mro) = some (if c = base then .ref (He.ga K c) :: PySem.HandSPX.veTail else .ref (He.ga K c) :: .ref (He.ga K base) :: PySem.HandSPX.veTail)) && decide (PySem.W.typeIn K (.ref (He.ga K c)) = some (.type "type"))
def isT (names : List Str) (base c' c : Str) : Option Bool := if names.contains c then some (decide (c = c') || decide (c' = base)) else none
theorem ga_inj {K : PySem.W.Frag} : ∀ {names : List Str}, (names.map (He.ga K)).Nodup → ∀ {c c' : Str}, c ∈ names → c' ∈ names → He.ga K c = He.ga K c' → c = c'
  | n :: ns, hn, c, c', h, h', e => by
    rw [List.map_cons, List.nodup_cons] at hn
    rcases List.mem_cons.mp h with y1 | y1
    · rcases List.mem_cons.mp h' with y2 | y2
      · exact y1.trans y2.symm
      · exact (hn.1 (List.mem_map.mpr ⟨c', y2, by rw [← e, y1]⟩)).elim
    · rcases List.mem_cons.mp h' with y2 | y2
      · exact (hn.1 (List.mem_map.mpr ⟨c, y1, by rw [e, y2]⟩)).elim
      · exact ga_inj hn.2 y1 y2 e
theorem kit_own {K : PySem.W.Frag} {names : List Str} {base c c' : Str} (nd : (names.map (He.ga K)).Nodup) (hb : base ∈ names) (h : ∀ x ∈ names, mroB K base x = true) (hc : c ∈ names) (hc' : c' ∈ names) :
    PySem.W.kitOne K (.ref (He.ga K c)) (.ref (He.ga K c')) = some (decide (c = c') || decide (c' = base)) := by
  unfold PySem.W.kitOne
  by_cases e : c = c'
  · subst e
    rw [if_pos (by simp)]; simp
  · have ne : He.ga K c ≠ He.ga K c' := fun z => e (ga_inj nd hc hc' z)
    rw [if_neg (by simpa using ne)]
    obtain ⟨h1, _⟩ := ba (h c hc)
    obtain ⟨h3, h4⟩ := ba (h c' hc')
    have m1 := of_decide_eq_true h1
    have m3 := of_decide_eq_true h3
    have m4 := of_decide_eq_true h4
    obtain ⟨cd, k1, k2⟩ := Option.map_eq_some_iff.mp m1
    obtain ⟨cd', k3, _⟩ := Option.map_eq_some_iff.mp m3
    unfold PySem.W.kitCls
    dsimp only
    rw [if_pos (by rw [k3, m4]; rfl)]
    show PySem.W.mroIn K (He.ga K c) (.ref (He.ga K c')) = _
    unfold PySem.W.mroIn
    rw [k1, Option.bind_some, k2]
    by_cases eb : c = base
    · subst eb
      have ecb : ¬ c' = c := fun z => e z.symm
      rw [if_pos rfl]
      simp [e, ecb, PySem.HandSPX.veTail, ne]
      exact fun z => ne z.symm
    · rw [if_neg eb]
      by_cases eb' : c' = base
      · subst eb'
        simp [PySem.HandSPX.veTail]
      · have ne2 : He.ga K c' ≠ He.ga K base := fun z => eb' (ga_inj nd hc' hb z)
        simp [e, eb', PySem.HandSPX.veTail]
        exact ⟨fun z => ne z.symm, ne2⟩
/-! the Hook -/
/-- own classes: those that store fields; those that do not; all, the base among them; the base -/
structure XD where
  sups : List SupD
  plain : List Str
  names : List Str
  base : Str
def XD.ok (x : XD) (file : Str) (K : PySem.W.Frag) : Bool := x.sups.all (fun d => d.ok file K && (xfB K (He.ga K d.c) && x.names.contains d.c)) && (x.plain.all (fun c => (He.Fa.exc c).ok K) && (x.names.all (fun c => He.eqO (PySem.W.nsIn K mainGlobals c) (some (some (.ref (He.ga K c)))) && (PySem.W.keepIn K (.ref (He.ga K c)) && (excB K (He.ga K c) && (mroB K x.base c && decide (PySem.W.kitOne K (.ref (He.ga K c)) (.type "ValueError") = some true))))) &&
  (decide ((x.names.map (He.ga K)).Nodup) && (x.names.contains x.base && decide (PySem.W.kitOne K (.type "ValueError") (.ref (He.ga K x.base)) = some false)))))
abbrev AlX : Type := He.AlD × List IniW × Bool
def asX (g : Addr → Option Obj) : Nat → List Addr
  | 0 => [mainGlobals, cStatics]
  | n + 1 => He.growD g (asX g n)
def obsX (fa : List He.Fa) (fn : List He.DefD) (x : XD) (file : Str) (K : PySem.W.Frag) : AlX := (He.obsD fa fn K, x.sups.map (fun d => iniW K d.c), x.ok file K)
def valX (fn : List He.DefD) (x : XD) : AlX := (He.valD fn, x.sups.map SupD.val, true)
def SaysX (fa : List He.Fa) (fn : List He.DefD) (x : XD) (file : Str) (K : PySem.W.Frag) : Prop := obsX fa fn x file K = valX fn x
def obsXG (n : Nat) (fa : List He.Fa) (fn : List He.DefD) (x : XD) (file : Str) (g : Addr → Option Obj) : AlX := obsX fa fn x file (He.frG g (asX g n))
def hookX (n : Nat) (fa : List He.Fa) (fn : List He.DefD) (x : XD) (file : Str) : PySem.W.Hook where
  α := AlX
  obs := fun s => obsXG n fa fn x file s.heap.get?
  val := fun _ => valX fn x
  says := fun _ h => ∃ K : PySem.W.Frag, K.In h ∧ SaysX fa fn x file K
  of := fun _ _ e => ⟨_, He.frG_in, e⟩
  keeps := fun _ _ _ ⟨K, hK, c⟩ k => ⟨K, hK.keeps k, c⟩
theorem obsXG_eq {n : Nat} {fa : List He.Fa} {fn : List He.DefD} {x : XD} {file : Str} {g : Addr → Option Obj} {s : Shared} (h : ∀ a, g a = s.heap.get? a) : obsXG n fa fn x file g = (hookX n fa fn x file).obs s := by
  have e : g = s.heap.get? := funext h
  rw [e] <;> rfl
/-- what the classes are good for -/
structure ExF (P : Program) (K : PySem.W.Frag) (mg : Str → Option Value) (x : XD) : Prop where
  m : ∀ c, x.names.contains c = true → mg c = some (.ref (He.ga K c))
  kp : ∀ c, x.names.contains c = true → PySem.W.keepIn K (.ref (He.ga K c)) = true
  pl : ∀ c, x.plain.contains c = true → PySem.W.excIn K (He.ga K c) He.veBase "ValueError.__new__" = true
  su : ∀ (i : Nat) (d : SupD), x.sups[i]? = some d → iniW K d.c = d.val ∧ d.ok P.main.file K = true
  fl : ∀ f c, (x.sups.any fun d => decide (d.c = c) && d.flds.contains f) = true → FldC K f c
  is : ∀ c', x.names.contains c' = true → ∀ c b, isT x.names x.base c' c = some b → ExcC K (He.ga K c) ∧ PySem.W.kitOne K (.ref (He.ga K c)) (.ref (He.ga K c')) = some b
  isV : ∀ c b, isT x.names x.base x.base c = some b → ExcC K (He.ga K c) ∧ PySem.W.kitOne K (.ref (He.ga K c)) (.type "ValueError") = some b
  ve : PySem.W.kitOne K (.type "ValueError") (.ref (He.ga K x.base)) = some false
  top : (P.main.scope.names.lookup ("super" : Str)).isSome = false
theorem SaysX.d {fa : List He.Fa} {fn : List He.DefD} {x : XD} {file : Str} {K : PySem.W.Frag} (c : SaysX fa fn x file K) : He.SaysD fa fn K := congrArg (fun z : AlX => z.1) c
theorem SaysX.ex {fa : List He.Fa} {fn : List He.DefD} {x : XD} {P : Program} {K : PySem.W.Frag} {h : Heap} {mg : Str → Option Value} (X : K.In h) (G : h.Ns mainGlobals mg) (c : SaysX fa fn x P.main.file K) (top : (P.main.scope.names.lookup ("super" : Str)).isSome = false) : ExF P K mg x := by
  have c2 : x.sups.map (fun d => iniW K d.c) = x.sups.map SupD.val := congrArg (fun z : AlX => z.2.1) c
  have c3 : x.ok P.main.file K = true := congrArg (fun z : AlX => z.2.2) c
  obtain ⟨a1, y1⟩ := ba c3
  obtain ⟨a2, y2⟩ := ba y1
  obtain ⟨a3, y3⟩ := ba y2
  obtain ⟨a4, y4⟩ := ba y3
  obtain ⟨a5, a6⟩ := ba y4
  have nd := of_decide_eq_true a4
  have bin : x.base ∈ x.names := by simpa using a5
  have al : ∀ c, x.names.contains c = true → He.eqO (PySem.W.nsIn K mainGlobals c) (some (some (.ref (He.ga K c)))) = true ∧ PySem.W.keepIn K (.ref (He.ga K c)) = true ∧ excB K (He.ga K c) = true ∧ mroB K x.base c = true ∧ PySem.W.kitOne K (.ref (He.ga K c)) (.type "ValueError") = some true := fun c hc => by
    have z := List.all_eq_true.mp a3 c (by simpa using hc)
    obtain ⟨z1, z⟩ := ba z
    obtain ⟨z2, z⟩ := ba z
    obtain ⟨z3, z⟩ := ba z
    obtain ⟨z4, z5⟩ := ba z
    exact ⟨z1, z2, z3, z4, of_decide_eq_true z5⟩
  have nm : ∀ c b c', isT x.names x.base c' c = some b → x.names.contains c = true ∧ b = (decide (c = c') || decide (c' = x.base)) := fun c b c' h => by
    unfold isT at h
    split at h
    · exact ⟨by assumption, (Option.some.inj h).symm⟩
    · cases h
  refine ⟨fun c hc => PySem.W.mg_of X G (He.eqO_ok (al c hc).1), fun c hc => (al c hc).2.1, fun c hc => ?_, fun i d hd => ?_, fun f c hf => ?_, fun c' hc' c b hb => ?_, fun c b hb => ?_, of_decide_eq_true a6, top⟩
  · have z := List.all_eq_true.mp a2 c (by simpa using hc)
    exact (He.exc_ok z).1
  · have z := List.all_eq_true.mp a1 d (List.mem_of_getElem? hd)
    refine ⟨?_, (ba z).1⟩
    have e2 : (x.sups.map fun d => iniW K d.c)[i]? = (x.sups.map SupD.val)[i]? := by rw [c2]
    rw [List.getElem?_map, List.getElem?_map, hd] at e2
    exact Option.some.inj e2
  · obtain ⟨d, hd, z⟩ := List.any_eq_true.mp hf
    obtain ⟨z1, z2⟩ := ba z
    have ec : d.c = c := of_decide_eq_true z1
    subst ec
    have y := List.all_eq_true.mp a1 d hd
    obtain ⟨y1, y2⟩ := ba y
    refine ⟨xfB_ok (ba y2).1, ?_⟩
    obtain ⟨_, w⟩ := ba y1
    obtain ⟨_, w⟩ := ba w
    obtain ⟨_, w⟩ := ba w
    obtain ⟨_, w⟩ := ba w
    obtain ⟨_, w⟩ := ba w
    obtain ⟨_, w⟩ := ba w
    obtain ⟨_, w⟩ := ba w
    obtain ⟨_, w⟩ := ba w
    obtain ⟨_, w⟩ := ba w
    exact He.eqO_ok (List.all_eq_true.mp (ba w).1 f (by simpa using z2))
  · obtain ⟨hc, rfl⟩ := nm c b c' hb
    exact ⟨excB_ok (al c hc).2.2.1, kit_own nd bin (fun y hy => (al y (by simpa using hy)).2.2.2.1) (by simpa using hc) (by simpa using hc')⟩
  · obtain ⟨hc, rfl⟩ := nm c b x.base hb
    refine ⟨excB_ok (al c hc).2.2.1, ?_⟩
    rw [(al c hc).2.2.2.2]; simp
end PL
set_option Elab.async false
set_option linter.all false
set_option maxRecDepth 100000
set_option maxHeartbeats 4000000
namespace K00
open PySem L2 PL PX
abbrev pw := PySem.Challenge.pw_alwaysastep_k00_errors_apart
def top (i : Nat) : Stmt := pw.main.body.getD i (.Pass ⟨0, 0, 0, 0⟩)
abbrev s_law_begun : Stmt := top 54
abbrev N_law_begun : List Str := ["script", "great", "cell"]
theorem sc_law_begun : FnScope N_law_begun ["script"] (defScope s_law_begun) := ⟨rfl, rfl, rfl, by decide +kernel, rfl, by decide +kernel, by decide +kernel⟩
abbrev s_law_blended : Stmt := top 55
abbrev N_law_blended : List Str := ["state", "prime", "turn", "found", "blend", "cell"]
theorem sc_law_blended : FnScope N_law_blended ["state"] (defScope s_law_blended) := ⟨rfl, rfl, rfl, by decide +kernel, rfl, by decide +kernel, by decide +kernel⟩
abbrev s_law_draw : Stmt := top 56
abbrev N_law_draw : List Str := ["state", "size_here", "found"]
theorem sc_law_draw : FnScope N_law_draw ["state", "size_here"] (defScope s_law_draw) := ⟨rfl, rfl, rfl, by decide +kernel, rfl, by decide +kernel, by decide +kernel⟩
abbrev s_law_pick : Stmt := top 57
abbrev N_law_pick : List Str := ["state", "several"]
theorem sc_law_pick : FnScope N_law_pick ["state", "several"] (defScope s_law_pick) := ⟨rfl, rfl, rfl, by decide +kernel, rfl, by decide +kernel, by decide +kernel⟩
abbrev s_law_k00_flags : Stmt := top 58
abbrev N_law_k00_flags : List Str := ["error", "found"]
theorem sc_law_k00_flags : FnScope N_law_k00_flags ["error"] (defScope s_law_k00_flags) := ⟨rfl, rfl, rfl, by decide +kernel, rfl, by decide +kernel, by decide +kernel⟩
abbrev s_law : Stmt := top 59
abbrev N_law : List Str := ["script", "state", "turn", "made", "base", "told", "both", "text", "number", "other", "at", "error", "place"]
theorem sc_law : FnScope N_law ["script"] (defScope s_law) := ⟨rfl, rfl, rfl, by decide +kernel, rfl, by decide +kernel, by decide +kernel⟩
def clsIni (j : Nat) (s : Stmt) : Stmt := match s with
  | .ClassDef _ _ _ b _ _ _ _ _ _ _ => b.getD j (.Pass ⟨0, 0, 0, 0⟩)
  | _ => .Pass ⟨0, 0, 0, 0⟩
abbrev i_BadCodeText : Stmt := clsIni 0 (top 3)
def sd_BadCodeText : SupD := ⟨"BadCodeText", "BadCodeText.__init__", ["number"], i_BadCodeText⟩
theorem ss_BadCodeText : SupS (defScope i_BadCodeText) ["number"] := ⟨rfl, rfl, rfl, by decide +kernel, by decide +kernel, by decide +kernel, by decide +kernel, by decide +kernel⟩
abbrev i_BadDefinition : Stmt := clsIni 0 (top 6)
def sd_BadDefinition : SupD := ⟨"BadDefinition", "BadDefinition.__init__", ["number"], i_BadDefinition⟩
theorem ss_BadDefinition : SupS (defScope i_BadDefinition) ["number"] := ⟨rfl, rfl, rfl, by decide +kernel, by decide +kernel, by decide +kernel, by decide +kernel, by decide +kernel⟩
abbrev i_BadNotation : Stmt := clsIni 0 (top 16)
def sd_BadNotation : SupD := ⟨"BadNotation", "BadNotation.__init__", ["word", "place"], i_BadNotation⟩
theorem ss_BadNotation : SupS (defScope i_BadNotation) ["word", "place"] := ⟨rfl, rfl, rfl, by decide +kernel, by decide +kernel, by decide +kernel, by decide +kernel, by decide +kernel⟩
abbrev i_BadRule : Stmt := clsIni 0 (top 23)
def sd_BadRule : SupD := ⟨"BadRule", "BadRule.__init__", ["name"], i_BadRule⟩
theorem ss_BadRule : SupS (defScope i_BadRule) ["name"] := ⟨rfl, rfl, rfl, by decide +kernel, by decide +kernel, by decide +kernel, by decide +kernel, by decide +kernel⟩
abbrev i_BadText : Stmt := clsIni 0 (top 30)
def sd_BadText : SupD := ⟨"BadText", "BadText.__init__", ["at"], i_BadText⟩
theorem ss_BadText : SupS (defScope i_BadText) ["at"] := ⟨rfl, rfl, rfl, by decide +kernel, by decide +kernel, by decide +kernel, by decide +kernel, by decide +kernel⟩
abbrev i_BadTrail : Stmt := clsIni 0 (top 32)
def sd_BadTrail : SupD := ⟨"BadTrail", "BadTrail.__init__", ["number"], i_BadTrail⟩
theorem ss_BadTrail : SupS (defScope i_BadTrail) ["number"] := ⟨rfl, rfl, rfl, by decide +kernel, by decide +kernel, by decide +kernel, by decide +kernel, by decide +kernel⟩
abbrev i_BrokenLead : Stmt := clsIni 0 (top 34)
def sd_BrokenLead : SupD := ⟨"BrokenLead", "BrokenLead.__init__", ["number"], i_BrokenLead⟩
theorem ss_BrokenLead : SupS (defScope i_BrokenLead) ["number"] := ⟨rfl, rfl, rfl, by decide +kernel, by decide +kernel, by decide +kernel, by decide +kernel, by decide +kernel⟩
abbrev i_CannotDo : Stmt := clsIni 0 (top 35)
def sd_CannotDo : SupD := ⟨"CannotDo", "CannotDo.__init__", ["word"], i_CannotDo⟩
theorem ss_CannotDo : SupS (defScope i_CannotDo) ["word"] := ⟨rfl, rfl, rfl, by decide +kernel, by decide +kernel, by decide +kernel, by decide +kernel, by decide +kernel⟩
abbrev i_Clash : Stmt := clsIni 0 (top 36)
def sd_Clash : SupD := ⟨"Clash", "Clash.__init__", ["word", "name"], i_Clash⟩
theorem ss_Clash : SupS (defScope i_Clash) ["word", "name"] := ⟨rfl, rfl, rfl, by decide +kernel, by decide +kernel, by decide +kernel, by decide +kernel, by decide +kernel⟩
abbrev i_NoName : Stmt := clsIni 0 (top 37)
def sd_NoName : SupD := ⟨"NoName", "NoName.__init__", ["name", "at"], i_NoName⟩
theorem ss_NoName : SupS (defScope i_NoName) ["name", "at"] := ⟨rfl, rfl, rfl, by decide +kernel, by decide +kernel, by decide +kernel, by decide +kernel, by decide +kernel⟩
abbrev i_NoStep : Stmt := clsIni 0 (top 38)
def sd_NoStep : SupD := ⟨"NoStep", "NoStep.__init__", ["word"], i_NoStep⟩
theorem ss_NoStep : SupS (defScope i_NoStep) ["word"] := ⟨rfl, rfl, rfl, by decide +kernel, by decide +kernel, by decide +kernel, by decide +kernel, by decide +kernel⟩
abbrev i_NoSuch : Stmt := clsIni 0 (top 39)
def sd_NoSuch : SupD := ⟨"NoSuch", "NoSuch.__init__", ["name"], i_NoSuch⟩
theorem ss_NoSuch : SupS (defScope i_NoSuch) ["name"] := ⟨rfl, rfl, rfl, by decide +kernel, by decide +kernel, by decide +kernel, by decide +kernel, by decide +kernel⟩
abbrev i_TooMany : Stmt := clsIni 0 (top 45)
def sd_TooMany : SupD := ⟨"TooMany", "TooMany.__init__", ["many"], i_TooMany⟩
theorem ss_TooMany : SupS (defScope i_TooMany) ["many"] := ⟨rfl, rfl, rfl, by decide +kernel, by decide +kernel, by decide +kernel, by decide +kernel, by decide +kernel⟩
abbrev i_TooWide : Stmt := clsIni 0 (top 46)
def sd_TooWide : SupD := ⟨"TooWide", "TooWide.__init__", ["word"], i_TooWide⟩
theorem ss_TooWide : SupS (defScope i_TooWide) ["word"] := ⟨rfl, rfl, rfl, by decide +kernel, by decide +kernel, by decide +kernel, by decide +kernel, by decide +kernel⟩
abbrev i_TreeTooWide : Stmt := clsIni 0 (top 47)
def sd_TreeTooWide : SupD := ⟨"TreeTooWide", "TreeTooWide.__init__", ["name"], i_TreeTooWide⟩
theorem ss_TreeTooWide : SupS (defScope i_TreeTooWide) ["name"] := ⟨rfl, rfl, rfl, by decide +kernel, by decide +kernel, by decide +kernel, by decide +kernel, by decide +kernel⟩
abbrev i_Unjoined : Stmt := clsIni 0 (top 49)
def sd_Unjoined : SupD := ⟨"Unjoined", "Unjoined.__init__", ["kind", "name"], i_Unjoined⟩
theorem ss_Unjoined : SupS (defScope i_Unjoined) ["kind", "name"] := ⟨rfl, rfl, rfl, by decide +kernel, by decide +kernel, by decide +kernel, by decide +kernel, by decide +kernel⟩
abbrev i_Unlinked : Stmt := clsIni 0 (top 50)
def sd_Unlinked : SupD := ⟨"Unlinked", "Unlinked.__init__", ["names"], i_Unlinked⟩
theorem ss_Unlinked : SupS (defScope i_Unlinked) ["names"] := ⟨rfl, rfl, rfl, by decide +kernel, by decide +kernel, by decide +kernel, by decide +kernel, by decide +kernel⟩
abbrev i_Untyped : Stmt := clsIni 0 (top 51)
def sd_Untyped : SupD := ⟨"Untyped", "Untyped.__init__", ["name"], i_Untyped⟩
theorem ss_Untyped : SupS (defScope i_Untyped) ["name"] := ⟨rfl, rfl, rfl, by decide +kernel, by decide +kernel, by decide +kernel, by decide +kernel, by decide +kernel⟩
abbrev i_Wide : Stmt := clsIni 0 (top 52)
def sd_Wide : SupD := ⟨"Wide", "Wide.__init__", ["name"], i_Wide⟩
theorem ss_Wide : SupS (defScope i_Wide) ["name"] := ⟨rfl, rfl, rfl, by decide +kernel, by decide +kernel, by decide +kernel, by decide +kernel, by decide +kernel⟩
theorem sk_BadCodeText {P : Program} {K : PySem.W.Frag} (h : iniW K sd_BadCodeText.c = sd_BadCodeText.val ∧ sd_BadCodeText.ok P.main.file K = true) (top : (P.main.scope.names.lookup ("super" : Str)).isSome = false) : SupK P K (He.ga K "BadCodeText") ["number"] [] 1 [0] :=
  supK_of (d := sd_BadCodeText) h.1 h.2 top (.mk _ _ _ _ _ _ _ _ _ (by rfl)) ss_BadCodeText ⟨_, rfl, by rfl⟩ (fun _ _ _ _ _ _ _ _ us ws h1 h2 => match us, ws, h1, h2 with | [_], [], _, _ => rfl)
    (fun m us h1 h2 => match us, h1, h2 with | [u0], _, h2 => .cons (h2 (("number" : Str), u0) List.mem_cons_self) .nil) (by decide) (by decide) (by decide) (by decide) (fun l h => match l, h with | [_], _ => rfl) (fun l h => match l, h with | [_], _ => rfl)
theorem sk_BadDefinition {P : Program} {K : PySem.W.Frag} (h : iniW K sd_BadDefinition.c = sd_BadDefinition.val ∧ sd_BadDefinition.ok P.main.file K = true) (top : (P.main.scope.names.lookup ("super" : Str)).isSome = false) : SupK P K (He.ga K "BadDefinition") ["number"] [] 1 [0] :=
  supK_of (d := sd_BadDefinition) h.1 h.2 top (.mk _ _ _ _ _ _ _ _ _ (by rfl)) ss_BadDefinition ⟨_, rfl, by rfl⟩ (fun _ _ _ _ _ _ _ _ us ws h1 h2 => match us, ws, h1, h2 with | [_], [], _, _ => rfl)
    (fun m us h1 h2 => match us, h1, h2 with | [u0], _, h2 => .cons (h2 (("number" : Str), u0) List.mem_cons_self) .nil) (by decide) (by decide) (by decide) (by decide) (fun l h => match l, h with | [_], _ => rfl) (fun l h => match l, h with | [_], _ => rfl)
theorem sk_BadNotation {P : Program} {K : PySem.W.Frag} (h : iniW K sd_BadNotation.c = sd_BadNotation.val ∧ sd_BadNotation.ok P.main.file K = true) (top : (P.main.scope.names.lookup ("super" : Str)).isSome = false) : SupK P K (He.ga K "BadNotation") ["word", "place"] [] 2 [0, 1] :=
  supK_of (d := sd_BadNotation) h.1 h.2 top (.mk _ _ _ _ _ _ _ _ _ (by rfl)) ss_BadNotation ⟨_, rfl, by rfl⟩ (fun _ _ _ _ _ _ _ _ us ws h1 h2 => match us, ws, h1, h2 with | [_, _], [], _, _ => rfl)
    (fun m us h1 h2 => match us, h1, h2 with | [u0, u1], _, h2 => .cons (h2 (("word" : Str), u0) List.mem_cons_self) (.cons (h2 (("place" : Str), u1) (List.mem_cons_of_mem _ List.mem_cons_self)) .nil)) (by decide) (by decide) (by decide) (by decide) (fun l h => match l, h with | [_, _], _ => rfl) (fun l h => match l, h with | [_, _], _ => rfl)
theorem sk_BadRule {P : Program} {K : PySem.W.Frag} (h : iniW K sd_BadRule.c = sd_BadRule.val ∧ sd_BadRule.ok P.main.file K = true) (top : (P.main.scope.names.lookup ("super" : Str)).isSome = false) : SupK P K (He.ga K "BadRule") ["name"] [] 1 [0] :=
  supK_of (d := sd_BadRule) h.1 h.2 top (.mk _ _ _ _ _ _ _ _ _ (by rfl)) ss_BadRule ⟨_, rfl, by rfl⟩ (fun _ _ _ _ _ _ _ _ us ws h1 h2 => match us, ws, h1, h2 with | [_], [], _, _ => rfl)
    (fun m us h1 h2 => match us, h1, h2 with | [u0], _, h2 => .cons (h2 (("name" : Str), u0) List.mem_cons_self) .nil) (by decide) (by decide) (by decide) (by decide) (fun l h => match l, h with | [_], _ => rfl) (fun l h => match l, h with | [_], _ => rfl)
theorem sk_BadText {P : Program} {K : PySem.W.Frag} (h : iniW K sd_BadText.c = sd_BadText.val ∧ sd_BadText.ok P.main.file K = true) (top : (P.main.scope.names.lookup ("super" : Str)).isSome = false) : SupK P K (He.ga K "BadText") ["at"] [] 1 [0] :=
  supK_of (d := sd_BadText) h.1 h.2 top (.mk _ _ _ _ _ _ _ _ _ (by rfl)) ss_BadText ⟨_, rfl, by rfl⟩ (fun _ _ _ _ _ _ _ _ us ws h1 h2 => match us, ws, h1, h2 with | [_], [], _, _ => rfl)
    (fun m us h1 h2 => match us, h1, h2 with | [u0], _, h2 => .cons (h2 (("at" : Str), u0) List.mem_cons_self) .nil) (by decide) (by decide) (by decide) (by decide) (fun l h => match l, h with | [_], _ => rfl) (fun l h => match l, h with | [_], _ => rfl)
theorem sk_BadTrail {P : Program} {K : PySem.W.Frag} (h : iniW K sd_BadTrail.c = sd_BadTrail.val ∧ sd_BadTrail.ok P.main.file K = true) (top : (P.main.scope.names.lookup ("super" : Str)).isSome = false) : SupK P K (He.ga K "BadTrail") ["number"] [] 1 [0] :=
  supK_of (d := sd_BadTrail) h.1 h.2 top (.mk _ _ _ _ _ _ _ _ _ (by rfl)) ss_BadTrail ⟨_, rfl, by rfl⟩ (fun _ _ _ _ _ _ _ _ us ws h1 h2 => match us, ws, h1, h2 with | [_], [], _, _ => rfl)
    (fun m us h1 h2 => match us, h1, h2 with | [u0], _, h2 => .cons (h2 (("number" : Str), u0) List.mem_cons_self) .nil) (by decide) (by decide) (by decide) (by decide) (fun l h => match l, h with | [_], _ => rfl) (fun l h => match l, h with | [_], _ => rfl)
theorem sk_BrokenLead {P : Program} {K : PySem.W.Frag} (h : iniW K sd_BrokenLead.c = sd_BrokenLead.val ∧ sd_BrokenLead.ok P.main.file K = true) (top : (P.main.scope.names.lookup ("super" : Str)).isSome = false) : SupK P K (He.ga K "BrokenLead") ["number"] [] 1 [0] :=
  supK_of (d := sd_BrokenLead) h.1 h.2 top (.mk _ _ _ _ _ _ _ _ _ (by rfl)) ss_BrokenLead ⟨_, rfl, by rfl⟩ (fun _ _ _ _ _ _ _ _ us ws h1 h2 => match us, ws, h1, h2 with | [_], [], _, _ => rfl)
    (fun m us h1 h2 => match us, h1, h2 with | [u0], _, h2 => .cons (h2 (("number" : Str), u0) List.mem_cons_self) .nil) (by decide) (by decide) (by decide) (by decide) (fun l h => match l, h with | [_], _ => rfl) (fun l h => match l, h with | [_], _ => rfl)
theorem sk_CannotDo {P : Program} {K : PySem.W.Frag} (h : iniW K sd_CannotDo.c = sd_CannotDo.val ∧ sd_CannotDo.ok P.main.file K = true) (top : (P.main.scope.names.lookup ("super" : Str)).isSome = false) : SupK P K (He.ga K "CannotDo") ["word"] [] 1 [0] :=
  supK_of (d := sd_CannotDo) h.1 h.2 top (.mk _ _ _ _ _ _ _ _ _ (by rfl)) ss_CannotDo ⟨_, rfl, by rfl⟩ (fun _ _ _ _ _ _ _ _ us ws h1 h2 => match us, ws, h1, h2 with | [_], [], _, _ => rfl)
    (fun m us h1 h2 => match us, h1, h2 with | [u0], _, h2 => .cons (h2 (("word" : Str), u0) List.mem_cons_self) .nil) (by decide) (by decide) (by decide) (by decide) (fun l h => match l, h with | [_], _ => rfl) (fun l h => match l, h with | [_], _ => rfl)
theorem sk_Clash {P : Program} {K : PySem.W.Frag} (h : iniW K sd_Clash.c = sd_Clash.val ∧ sd_Clash.ok P.main.file K = true) (top : (P.main.scope.names.lookup ("super" : Str)).isSome = false) : SupK P K (He.ga K "Clash") ["word", "name"] [] 2 [0, 1] :=
  supK_of (d := sd_Clash) h.1 h.2 top (.mk _ _ _ _ _ _ _ _ _ (by rfl)) ss_Clash ⟨_, rfl, by rfl⟩ (fun _ _ _ _ _ _ _ _ us ws h1 h2 => match us, ws, h1, h2 with | [_, _], [], _, _ => rfl)
    (fun m us h1 h2 => match us, h1, h2 with | [u0, u1], _, h2 => .cons (h2 (("word" : Str), u0) List.mem_cons_self) (.cons (h2 (("name" : Str), u1) (List.mem_cons_of_mem _ List.mem_cons_self)) .nil)) (by decide) (by decide) (by decide) (by decide) (fun l h => match l, h with | [_, _], _ => rfl) (fun l h => match l, h with | [_, _], _ => rfl)
theorem sk_NoName {P : Program} {K : PySem.W.Frag} (h : iniW K sd_NoName.c = sd_NoName.val ∧ sd_NoName.ok P.main.file K = true) (top : (P.main.scope.names.lookup ("super" : Str)).isSome = false) : SupK P K (He.ga K "NoName") ["name", "at"] [] 2 [0, 1] :=
  supK_of (d := sd_NoName) h.1 h.2 top (.mk _ _ _ _ _ _ _ _ _ (by rfl)) ss_NoName ⟨_, rfl, by rfl⟩ (fun _ _ _ _ _ _ _ _ us ws h1 h2 => match us, ws, h1, h2 with | [_, _], [], _, _ => rfl)
    (fun m us h1 h2 => match us, h1, h2 with | [u0, u1], _, h2 => .cons (h2 (("name" : Str), u0) List.mem_cons_self) (.cons (h2 (("at" : Str), u1) (List.mem_cons_of_mem _ List.mem_cons_self)) .nil)) (by decide) (by decide) (by decide) (by decide) (fun l h => match l, h with | [_, _], _ => rfl) (fun l h => match l, h with | [_, _], _ => rfl)
theorem sk_NoStep {P : Program} {K : PySem.W.Frag} (h : iniW K sd_NoStep.c = sd_NoStep.val ∧ sd_NoStep.ok P.main.file K = true) (top : (P.main.scope.names.lookup ("super" : Str)).isSome = false) : SupK P K (He.ga K "NoStep") ["word"] [] 1 [0] :=
  supK_of (d := sd_NoStep) h.1 h.2 top (.mk _ _ _ _ _ _ _ _ _ (by rfl)) ss_NoStep ⟨_, rfl, by rfl⟩ (fun _ _ _ _ _ _ _ _ us ws h1 h2 => match us, ws, h1, h2 with | [_], [], _, _ => rfl)
    (fun m us h1 h2 => match us, h1, h2 with | [u0], _, h2 => .cons (h2 (("word" : Str), u0) List.mem_cons_self) .nil) (by decide) (by decide) (by decide) (by decide) (fun l h => match l, h with | [_], _ => rfl) (fun l h => match l, h with | [_], _ => rfl)
theorem sk_NoSuch {P : Program} {K : PySem.W.Frag} (h : iniW K sd_NoSuch.c = sd_NoSuch.val ∧ sd_NoSuch.ok P.main.file K = true) (top : (P.main.scope.names.lookup ("super" : Str)).isSome = false) : SupK P K (He.ga K "NoSuch") ["name"] [] 1 [0] :=
  supK_of (d := sd_NoSuch) h.1 h.2 top (.mk _ _ _ _ _ _ _ _ _ (by rfl)) ss_NoSuch ⟨_, rfl, by rfl⟩ (fun _ _ _ _ _ _ _ _ us ws h1 h2 => match us, ws, h1, h2 with | [_], [], _, _ => rfl)
    (fun m us h1 h2 => match us, h1, h2 with | [u0], _, h2 => .cons (h2 (("name" : Str), u0) List.mem_cons_self) .nil) (by decide) (by decide) (by decide) (by decide) (fun l h => match l, h with | [_], _ => rfl) (fun l h => match l, h with | [_], _ => rfl)
theorem sk_TooMany {P : Program} {K : PySem.W.Frag} (h : iniW K sd_TooMany.c = sd_TooMany.val ∧ sd_TooMany.ok P.main.file K = true) (top : (P.main.scope.names.lookup ("super" : Str)).isSome = false) : SupK P K (He.ga K "TooMany") ["many"] [] 1 [0] :=
  supK_of (d := sd_TooMany) h.1 h.2 top (.mk _ _ _ _ _ _ _ _ _ (by rfl)) ss_TooMany ⟨_, rfl, by rfl⟩ (fun _ _ _ _ _ _ _ _ us ws h1 h2 => match us, ws, h1, h2 with | [_], [], _, _ => rfl)
    (fun m us h1 h2 => match us, h1, h2 with | [u0], _, h2 => .cons (h2 (("many" : Str), u0) List.mem_cons_self) .nil) (by decide) (by decide) (by decide) (by decide) (fun l h => match l, h with | [_], _ => rfl) (fun l h => match l, h with | [_], _ => rfl)
theorem sk_TooWide {P : Program} {K : PySem.W.Frag} (h : iniW K sd_TooWide.c = sd_TooWide.val ∧ sd_TooWide.ok P.main.file K = true) (top : (P.main.scope.names.lookup ("super" : Str)).isSome = false) : SupK P K (He.ga K "TooWide") ["word"] [] 1 [0] :=
  supK_of (d := sd_TooWide) h.1 h.2 top (.mk _ _ _ _ _ _ _ _ _ (by rfl)) ss_TooWide ⟨_, rfl, by rfl⟩ (fun _ _ _ _ _ _ _ _ us ws h1 h2 => match us, ws, h1, h2 with | [_], [], _, _ => rfl)
    (fun m us h1 h2 => match us, h1, h2 with | [u0], _, h2 => .cons (h2 (("word" : Str), u0) List.mem_cons_self) .nil) (by decide) (by decide) (by decide) (by decide) (fun l h => match l, h with | [_], _ => rfl) (fun l h => match l, h with | [_], _ => rfl)
theorem sk_TreeTooWide {P : Program} {K : PySem.W.Frag} (h : iniW K sd_TreeTooWide.c = sd_TreeTooWide.val ∧ sd_TreeTooWide.ok P.main.file K = true) (top : (P.main.scope.names.lookup ("super" : Str)).isSome = false) : SupK P K (He.ga K "TreeTooWide") ["name"] [] 1 [0] :=
  supK_of (d := sd_TreeTooWide) h.1 h.2 top (.mk _ _ _ _ _ _ _ _ _ (by rfl)) ss_TreeTooWide ⟨_, rfl, by rfl⟩ (fun _ _ _ _ _ _ _ _ us ws h1 h2 => match us, ws, h1, h2 with | [_], [], _, _ => rfl)
    (fun m us h1 h2 => match us, h1, h2 with | [u0], _, h2 => .cons (h2 (("name" : Str), u0) List.mem_cons_self) .nil) (by decide) (by decide) (by decide) (by decide) (fun l h => match l, h with | [_], _ => rfl) (fun l h => match l, h with | [_], _ => rfl)
theorem sk_Unjoined {P : Program} {K : PySem.W.Frag} (h : iniW K sd_Unjoined.c = sd_Unjoined.val ∧ sd_Unjoined.ok P.main.file K = true) (top : (P.main.scope.names.lookup ("super" : Str)).isSome = false) : SupK P K (He.ga K "Unjoined") ["kind", "name"] [] 2 [0, 1] :=
  supK_of (d := sd_Unjoined) h.1 h.2 top (.mk _ _ _ _ _ _ _ _ _ (by rfl)) ss_Unjoined ⟨_, rfl, by rfl⟩ (fun _ _ _ _ _ _ _ _ us ws h1 h2 => match us, ws, h1, h2 with | [_, _], [], _, _ => rfl)
    (fun m us h1 h2 => match us, h1, h2 with | [u0, u1], _, h2 => .cons (h2 (("kind" : Str), u0) List.mem_cons_self) (.cons (h2 (("name" : Str), u1) (List.mem_cons_of_mem _ List.mem_cons_self)) .nil)) (by decide) (by decide) (by decide) (by decide) (fun l h => match l, h with | [_, _], _ => rfl) (fun l h => match l, h with | [_, _], _ => rfl)
theorem sk_Unlinked {P : Program} {K : PySem.W.Frag} (h : iniW K sd_Unlinked.c = sd_Unlinked.val ∧ sd_Unlinked.ok P.main.file K = true) (top : (P.main.scope.names.lookup ("super" : Str)).isSome = false) : SupK P K (He.ga K "Unlinked") ["names"] [] 1 [0] :=
  supK_of (d := sd_Unlinked) h.1 h.2 top (.mk _ _ _ _ _ _ _ _ _ (by rfl)) ss_Unlinked ⟨_, rfl, by rfl⟩ (fun _ _ _ _ _ _ _ _ us ws h1 h2 => match us, ws, h1, h2 with | [_], [], _, _ => rfl)
    (fun m us h1 h2 => match us, h1, h2 with | [u0], _, h2 => .cons (h2 (("names" : Str), u0) List.mem_cons_self) .nil) (by decide) (by decide) (by decide) (by decide) (fun l h => match l, h with | [_], _ => rfl) (fun l h => match l, h with | [_], _ => rfl)
theorem sk_Untyped {P : Program} {K : PySem.W.Frag} (h : iniW K sd_Untyped.c = sd_Untyped.val ∧ sd_Untyped.ok P.main.file K = true) (top : (P.main.scope.names.lookup ("super" : Str)).isSome = false) : SupK P K (He.ga K "Untyped") ["name"] [] 1 [0] :=
  supK_of (d := sd_Untyped) h.1 h.2 top (.mk _ _ _ _ _ _ _ _ _ (by rfl)) ss_Untyped ⟨_, rfl, by rfl⟩ (fun _ _ _ _ _ _ _ _ us ws h1 h2 => match us, ws, h1, h2 with | [_], [], _, _ => rfl)
    (fun m us h1 h2 => match us, h1, h2 with | [u0], _, h2 => .cons (h2 (("name" : Str), u0) List.mem_cons_self) .nil) (by decide) (by decide) (by decide) (by decide) (fun l h => match l, h with | [_], _ => rfl) (fun l h => match l, h with | [_], _ => rfl)
theorem sk_Wide {P : Program} {K : PySem.W.Frag} (h : iniW K sd_Wide.c = sd_Wide.val ∧ sd_Wide.ok P.main.file K = true) (top : (P.main.scope.names.lookup ("super" : Str)).isSome = false) : SupK P K (He.ga K "Wide") ["name"] [] 1 [0] :=
  supK_of (d := sd_Wide) h.1 h.2 top (.mk _ _ _ _ _ _ _ _ _ (by rfl)) ss_Wide ⟨_, rfl, by rfl⟩ (fun _ _ _ _ _ _ _ _ us ws h1 h2 => match us, ws, h1, h2 with | [_], [], _, _ => rfl)
    (fun m us h1 h2 => match us, h1, h2 with | [u0], _, h2 => .cons (h2 (("name" : Str), u0) List.mem_cons_self) .nil) (by decide) (by decide) (by decide) (by decide) (fun l h => match l, h with | [_], _ => rfl) (fun l h => match l, h with | [_], _ => rfl)
theorem sk_BadCodeText_number {P : Program} {K : PySem.W.Frag} (h : iniW K sd_BadCodeText.c = sd_BadCodeText.val ∧ sd_BadCodeText.ok P.main.file K = true) (top : (P.main.scope.names.lookup ("super" : Str)).isSome = false) : SupK P K (He.ga K "BadCodeText") ["number"] ["number"] 0 [0] :=
  supK_of (d := sd_BadCodeText) h.1 h.2 top (.mk _ _ _ _ _ _ _ _ _ (by rfl)) ss_BadCodeText ⟨_, rfl, by rfl⟩ (fun _ _ _ _ _ _ _ _ us ws h1 h2 => match us, ws, h1, h2 with | [], [_], _, _ => rfl)
    (fun m us h1 h2 => match us, h1, h2 with | [u0], _, h2 => .cons (h2 (("number" : Str), u0) List.mem_cons_self) .nil) (by decide) (by decide) (by decide) (by decide) (fun l h => match l, h with | [_], _ => rfl) (fun l h => match l, h with | [_], _ => rfl)
theorem sk_BadDefinition_number {P : Program} {K : PySem.W.Frag} (h : iniW K sd_BadDefinition.c = sd_BadDefinition.val ∧ sd_BadDefinition.ok P.main.file K = true) (top : (P.main.scope.names.lookup ("super" : Str)).isSome = false) : SupK P K (He.ga K "BadDefinition") ["number"] ["number"] 0 [0] :=
  supK_of (d := sd_BadDefinition) h.1 h.2 top (.mk _ _ _ _ _ _ _ _ _ (by rfl)) ss_BadDefinition ⟨_, rfl, by rfl⟩ (fun _ _ _ _ _ _ _ _ us ws h1 h2 => match us, ws, h1, h2 with | [], [_], _, _ => rfl)
    (fun m us h1 h2 => match us, h1, h2 with | [u0], _, h2 => .cons (h2 (("number" : Str), u0) List.mem_cons_self) .nil) (by decide) (by decide) (by decide) (by decide) (fun l h => match l, h with | [_], _ => rfl) (fun l h => match l, h with | [_], _ => rfl)
theorem sk_BadRule_name {P : Program} {K : PySem.W.Frag} (h : iniW K sd_BadRule.c = sd_BadRule.val ∧ sd_BadRule.ok P.main.file K = true) (top : (P.main.scope.names.lookup ("super" : Str)).isSome = false) : SupK P K (He.ga K "BadRule") ["name"] ["name"] 0 [0] :=
  supK_of (d := sd_BadRule) h.1 h.2 top (.mk _ _ _ _ _ _ _ _ _ (by rfl)) ss_BadRule ⟨_, rfl, by rfl⟩ (fun _ _ _ _ _ _ _ _ us ws h1 h2 => match us, ws, h1, h2 with | [], [_], _, _ => rfl)
    (fun m us h1 h2 => match us, h1, h2 with | [u0], _, h2 => .cons (h2 (("name" : Str), u0) List.mem_cons_self) .nil) (by decide) (by decide) (by decide) (by decide) (fun l h => match l, h with | [_], _ => rfl) (fun l h => match l, h with | [_], _ => rfl)
theorem sk_BadText_at {P : Program} {K : PySem.W.Frag} (h : iniW K sd_BadText.c = sd_BadText.val ∧ sd_BadText.ok P.main.file K = true) (top : (P.main.scope.names.lookup ("super" : Str)).isSome = false) : SupK P K (He.ga K "BadText") ["at"] ["at"] 0 [0] :=
  supK_of (d := sd_BadText) h.1 h.2 top (.mk _ _ _ _ _ _ _ _ _ (by rfl)) ss_BadText ⟨_, rfl, by rfl⟩ (fun _ _ _ _ _ _ _ _ us ws h1 h2 => match us, ws, h1, h2 with | [], [_], _, _ => rfl)
    (fun m us h1 h2 => match us, h1, h2 with | [u0], _, h2 => .cons (h2 (("at" : Str), u0) List.mem_cons_self) .nil) (by decide) (by decide) (by decide) (by decide) (fun l h => match l, h with | [_], _ => rfl) (fun l h => match l, h with | [_], _ => rfl)
theorem sk_BadTrail_number {P : Program} {K : PySem.W.Frag} (h : iniW K sd_BadTrail.c = sd_BadTrail.val ∧ sd_BadTrail.ok P.main.file K = true) (top : (P.main.scope.names.lookup ("super" : Str)).isSome = false) : SupK P K (He.ga K "BadTrail") ["number"] ["number"] 0 [0] :=
  supK_of (d := sd_BadTrail) h.1 h.2 top (.mk _ _ _ _ _ _ _ _ _ (by rfl)) ss_BadTrail ⟨_, rfl, by rfl⟩ (fun _ _ _ _ _ _ _ _ us ws h1 h2 => match us, ws, h1, h2 with | [], [_], _, _ => rfl)
    (fun m us h1 h2 => match us, h1, h2 with | [u0], _, h2 => .cons (h2 (("number" : Str), u0) List.mem_cons_self) .nil) (by decide) (by decide) (by decide) (by decide) (fun l h => match l, h with | [_], _ => rfl) (fun l h => match l, h with | [_], _ => rfl)
theorem sk_BrokenLead_number {P : Program} {K : PySem.W.Frag} (h : iniW K sd_BrokenLead.c = sd_BrokenLead.val ∧ sd_BrokenLead.ok P.main.file K = true) (top : (P.main.scope.names.lookup ("super" : Str)).isSome = false) : SupK P K (He.ga K "BrokenLead") ["number"] ["number"] 0 [0] :=
  supK_of (d := sd_BrokenLead) h.1 h.2 top (.mk _ _ _ _ _ _ _ _ _ (by rfl)) ss_BrokenLead ⟨_, rfl, by rfl⟩ (fun _ _ _ _ _ _ _ _ us ws h1 h2 => match us, ws, h1, h2 with | [], [_], _, _ => rfl)
    (fun m us h1 h2 => match us, h1, h2 with | [u0], _, h2 => .cons (h2 (("number" : Str), u0) List.mem_cons_self) .nil) (by decide) (by decide) (by decide) (by decide) (fun l h => match l, h with | [_], _ => rfl) (fun l h => match l, h with | [_], _ => rfl)
theorem sk_CannotDo_word {P : Program} {K : PySem.W.Frag} (h : iniW K sd_CannotDo.c = sd_CannotDo.val ∧ sd_CannotDo.ok P.main.file K = true) (top : (P.main.scope.names.lookup ("super" : Str)).isSome = false) : SupK P K (He.ga K "CannotDo") ["word"] ["word"] 0 [0] :=
  supK_of (d := sd_CannotDo) h.1 h.2 top (.mk _ _ _ _ _ _ _ _ _ (by rfl)) ss_CannotDo ⟨_, rfl, by rfl⟩ (fun _ _ _ _ _ _ _ _ us ws h1 h2 => match us, ws, h1, h2 with | [], [_], _, _ => rfl)
    (fun m us h1 h2 => match us, h1, h2 with | [u0], _, h2 => .cons (h2 (("word" : Str), u0) List.mem_cons_self) .nil) (by decide) (by decide) (by decide) (by decide) (fun l h => match l, h with | [_], _ => rfl) (fun l h => match l, h with | [_], _ => rfl)
theorem sk_NoStep_word {P : Program} {K : PySem.W.Frag} (h : iniW K sd_NoStep.c = sd_NoStep.val ∧ sd_NoStep.ok P.main.file K = true) (top : (P.main.scope.names.lookup ("super" : Str)).isSome = false) : SupK P K (He.ga K "NoStep") ["word"] ["word"] 0 [0] :=
  supK_of (d := sd_NoStep) h.1 h.2 top (.mk _ _ _ _ _ _ _ _ _ (by rfl)) ss_NoStep ⟨_, rfl, by rfl⟩ (fun _ _ _ _ _ _ _ _ us ws h1 h2 => match us, ws, h1, h2 with | [], [_], _, _ => rfl)
    (fun m us h1 h2 => match us, h1, h2 with | [u0], _, h2 => .cons (h2 (("word" : Str), u0) List.mem_cons_self) .nil) (by decide) (by decide) (by decide) (by decide) (fun l h => match l, h with | [_], _ => rfl) (fun l h => match l, h with | [_], _ => rfl)
theorem sk_NoSuch_name {P : Program} {K : PySem.W.Frag} (h : iniW K sd_NoSuch.c = sd_NoSuch.val ∧ sd_NoSuch.ok P.main.file K = true) (top : (P.main.scope.names.lookup ("super" : Str)).isSome = false) : SupK P K (He.ga K "NoSuch") ["name"] ["name"] 0 [0] :=
  supK_of (d := sd_NoSuch) h.1 h.2 top (.mk _ _ _ _ _ _ _ _ _ (by rfl)) ss_NoSuch ⟨_, rfl, by rfl⟩ (fun _ _ _ _ _ _ _ _ us ws h1 h2 => match us, ws, h1, h2 with | [], [_], _, _ => rfl)
    (fun m us h1 h2 => match us, h1, h2 with | [u0], _, h2 => .cons (h2 (("name" : Str), u0) List.mem_cons_self) .nil) (by decide) (by decide) (by decide) (by decide) (fun l h => match l, h with | [_], _ => rfl) (fun l h => match l, h with | [_], _ => rfl)
theorem sk_TooMany_many {P : Program} {K : PySem.W.Frag} (h : iniW K sd_TooMany.c = sd_TooMany.val ∧ sd_TooMany.ok P.main.file K = true) (top : (P.main.scope.names.lookup ("super" : Str)).isSome = false) : SupK P K (He.ga K "TooMany") ["many"] ["many"] 0 [0] :=
  supK_of (d := sd_TooMany) h.1 h.2 top (.mk _ _ _ _ _ _ _ _ _ (by rfl)) ss_TooMany ⟨_, rfl, by rfl⟩ (fun _ _ _ _ _ _ _ _ us ws h1 h2 => match us, ws, h1, h2 with | [], [_], _, _ => rfl)
    (fun m us h1 h2 => match us, h1, h2 with | [u0], _, h2 => .cons (h2 (("many" : Str), u0) List.mem_cons_self) .nil) (by decide) (by decide) (by decide) (by decide) (fun l h => match l, h with | [_], _ => rfl) (fun l h => match l, h with | [_], _ => rfl)
theorem sk_TooWide_word {P : Program} {K : PySem.W.Frag} (h : iniW K sd_TooWide.c = sd_TooWide.val ∧ sd_TooWide.ok P.main.file K = true) (top : (P.main.scope.names.lookup ("super" : Str)).isSome = false) : SupK P K (He.ga K "TooWide") ["word"] ["word"] 0 [0] :=
  supK_of (d := sd_TooWide) h.1 h.2 top (.mk _ _ _ _ _ _ _ _ _ (by rfl)) ss_TooWide ⟨_, rfl, by rfl⟩ (fun _ _ _ _ _ _ _ _ us ws h1 h2 => match us, ws, h1, h2 with | [], [_], _, _ => rfl)
    (fun m us h1 h2 => match us, h1, h2 with | [u0], _, h2 => .cons (h2 (("word" : Str), u0) List.mem_cons_self) .nil) (by decide) (by decide) (by decide) (by decide) (fun l h => match l, h with | [_], _ => rfl) (fun l h => match l, h with | [_], _ => rfl)
theorem sk_TreeTooWide_name {P : Program} {K : PySem.W.Frag} (h : iniW K sd_TreeTooWide.c = sd_TreeTooWide.val ∧ sd_TreeTooWide.ok P.main.file K = true) (top : (P.main.scope.names.lookup ("super" : Str)).isSome = false) : SupK P K (He.ga K "TreeTooWide") ["name"] ["name"] 0 [0] :=
  supK_of (d := sd_TreeTooWide) h.1 h.2 top (.mk _ _ _ _ _ _ _ _ _ (by rfl)) ss_TreeTooWide ⟨_, rfl, by rfl⟩ (fun _ _ _ _ _ _ _ _ us ws h1 h2 => match us, ws, h1, h2 with | [], [_], _, _ => rfl)
    (fun m us h1 h2 => match us, h1, h2 with | [u0], _, h2 => .cons (h2 (("name" : Str), u0) List.mem_cons_self) .nil) (by decide) (by decide) (by decide) (by decide) (fun l h => match l, h with | [_], _ => rfl) (fun l h => match l, h with | [_], _ => rfl)
theorem sk_Unlinked_names {P : Program} {K : PySem.W.Frag} (h : iniW K sd_Unlinked.c = sd_Unlinked.val ∧ sd_Unlinked.ok P.main.file K = true) (top : (P.main.scope.names.lookup ("super" : Str)).isSome = false) : SupK P K (He.ga K "Unlinked") ["names"] ["names"] 0 [0] :=
  supK_of (d := sd_Unlinked) h.1 h.2 top (.mk _ _ _ _ _ _ _ _ _ (by rfl)) ss_Unlinked ⟨_, rfl, by rfl⟩ (fun _ _ _ _ _ _ _ _ us ws h1 h2 => match us, ws, h1, h2 with | [], [_], _, _ => rfl)
    (fun m us h1 h2 => match us, h1, h2 with | [u0], _, h2 => .cons (h2 (("names" : Str), u0) List.mem_cons_self) .nil) (by decide) (by decide) (by decide) (by decide) (fun l h => match l, h with | [_], _ => rfl) (fun l h => match l, h with | [_], _ => rfl)
theorem sk_Untyped_name {P : Program} {K : PySem.W.Frag} (h : iniW K sd_Untyped.c = sd_Untyped.val ∧ sd_Untyped.ok P.main.file K = true) (top : (P.main.scope.names.lookup ("super" : Str)).isSome = false) : SupK P K (He.ga K "Untyped") ["name"] ["name"] 0 [0] :=
  supK_of (d := sd_Untyped) h.1 h.2 top (.mk _ _ _ _ _ _ _ _ _ (by rfl)) ss_Untyped ⟨_, rfl, by rfl⟩ (fun _ _ _ _ _ _ _ _ us ws h1 h2 => match us, ws, h1, h2 with | [], [_], _, _ => rfl)
    (fun m us h1 h2 => match us, h1, h2 with | [u0], _, h2 => .cons (h2 (("name" : Str), u0) List.mem_cons_self) .nil) (by decide) (by decide) (by decide) (by decide) (fun l h => match l, h with | [_], _ => rfl) (fun l h => match l, h with | [_], _ => rfl)
theorem sk_Wide_name {P : Program} {K : PySem.W.Frag} (h : iniW K sd_Wide.c = sd_Wide.val ∧ sd_Wide.ok P.main.file K = true) (top : (P.main.scope.names.lookup ("super" : Str)).isSome = false) : SupK P K (He.ga K "Wide") ["name"] ["name"] 0 [0] :=
  supK_of (d := sd_Wide) h.1 h.2 top (.mk _ _ _ _ _ _ _ _ _ (by rfl)) ss_Wide ⟨_, rfl, by rfl⟩ (fun _ _ _ _ _ _ _ _ us ws h1 h2 => match us, ws, h1, h2 with | [], [_], _, _ => rfl)
    (fun m us h1 h2 => match us, h1, h2 with | [u0], _, h2 => .cons (h2 (("name" : Str), u0) List.mem_cons_self) .nil) (by decide) (by decide) (by decide) (by decide) (fun l h => match l, h with | [_], _ => rfl) (fun l h => match l, h with | [_], _ => rfl)
theorem sk_BadNotation_place_word {P : Program} {K : PySem.W.Frag} (h : iniW K sd_BadNotation.c = sd_BadNotation.val ∧ sd_BadNotation.ok P.main.file K = true) (top : (P.main.scope.names.lookup ("super" : Str)).isSome = false) : SupK P K (He.ga K "BadNotation") ["word", "place"] ["place", "word"] 0 [1, 0] :=
  supK_of (d := sd_BadNotation) h.1 h.2 top (.mk _ _ _ _ _ _ _ _ _ (by rfl)) ss_BadNotation ⟨_, rfl, by rfl⟩ (fun _ _ _ _ _ _ _ _ us ws h1 h2 => match us, ws, h1, h2 with | [], [_, _], _, _ => rfl)
    (fun m us h1 h2 => match us, h1, h2 with | [u0, u1], _, h2 => .cons (h2 (("word" : Str), u0) List.mem_cons_self) (.cons (h2 (("place" : Str), u1) (List.mem_cons_of_mem _ List.mem_cons_self)) .nil)) (by decide) (by decide) (by decide) (by decide) (fun l h => match l, h with | [_, _], _ => rfl) (fun l h => match l, h with | [_, _], _ => rfl)
theorem sk_Clash_name_word {P : Program} {K : PySem.W.Frag} (h : iniW K sd_Clash.c = sd_Clash.val ∧ sd_Clash.ok P.main.file K = true) (top : (P.main.scope.names.lookup ("super" : Str)).isSome = false) : SupK P K (He.ga K "Clash") ["word", "name"] ["name", "word"] 0 [1, 0] :=
  supK_of (d := sd_Clash) h.1 h.2 top (.mk _ _ _ _ _ _ _ _ _ (by rfl)) ss_Clash ⟨_, rfl, by rfl⟩ (fun _ _ _ _ _ _ _ _ us ws h1 h2 => match us, ws, h1, h2 with | [], [_, _], _, _ => rfl)
    (fun m us h1 h2 => match us, h1, h2 with | [u0, u1], _, h2 => .cons (h2 (("word" : Str), u0) List.mem_cons_self) (.cons (h2 (("name" : Str), u1) (List.mem_cons_of_mem _ List.mem_cons_self)) .nil)) (by decide) (by decide) (by decide) (by decide) (fun l h => match l, h with | [_, _], _ => rfl) (fun l h => match l, h with | [_, _], _ => rfl)
theorem sk_NoName_at_name {P : Program} {K : PySem.W.Frag} (h : iniW K sd_NoName.c = sd_NoName.val ∧ sd_NoName.ok P.main.file K = true) (top : (P.main.scope.names.lookup ("super" : Str)).isSome = false) : SupK P K (He.ga K "NoName") ["name", "at"] ["at", "name"] 0 [1, 0] :=
  supK_of (d := sd_NoName) h.1 h.2 top (.mk _ _ _ _ _ _ _ _ _ (by rfl)) ss_NoName ⟨_, rfl, by rfl⟩ (fun _ _ _ _ _ _ _ _ us ws h1 h2 => match us, ws, h1, h2 with | [], [_, _], _, _ => rfl)
    (fun m us h1 h2 => match us, h1, h2 with | [u0, u1], _, h2 => .cons (h2 (("name" : Str), u0) List.mem_cons_self) (.cons (h2 (("at" : Str), u1) (List.mem_cons_of_mem _ List.mem_cons_self)) .nil)) (by decide) (by decide) (by decide) (by decide) (fun l h => match l, h with | [_, _], _ => rfl) (fun l h => match l, h with | [_, _], _ => rfl)
theorem sk_Unjoined_name_kind {P : Program} {K : PySem.W.Frag} (h : iniW K sd_Unjoined.c = sd_Unjoined.val ∧ sd_Unjoined.ok P.main.file K = true) (top : (P.main.scope.names.lookup ("super" : Str)).isSome = false) : SupK P K (He.ga K "Unjoined") ["kind", "name"] ["name", "kind"] 0 [1, 0] :=
  supK_of (d := sd_Unjoined) h.1 h.2 top (.mk _ _ _ _ _ _ _ _ _ (by rfl)) ss_Unjoined ⟨_, rfl, by rfl⟩ (fun _ _ _ _ _ _ _ _ us ws h1 h2 => match us, ws, h1, h2 with | [], [_, _], _, _ => rfl)
    (fun m us h1 h2 => match us, h1, h2 with | [u0, u1], _, h2 => .cons (h2 (("kind" : Str), u0) List.mem_cons_self) (.cons (h2 (("name" : Str), u1) (List.mem_cons_of_mem _ List.mem_cons_self)) .nil)) (by decide) (by decide) (by decide) (by decide) (fun l h => match l, h with | [_, _], _ => rfl) (fun l h => match l, h with | [_, _], _ => rfl)
def xnames : List Str := (["RulesError", "BadCode", "BadCodeText", "BadCount", "BadDeed", "BadDefinition", "BadDefinitions", "BadEdit", "BadFilling", "BadGiven", "BadHouse", "BadKey", "BadLanguage", "BadLaw", "BadName", "BadNotation", "BadNumber", "BadPattern", "BadPlace", "BadProgram"] : List Str) ++ (["BadRoad", "BadRow", "BadRule", "BadRuleWord", "BadScheme", "BadState", "BadStep", "BadSum", "BadTerm", "BadText", "BadThing", "BadTrail", "BadType", "BrokenLead", "CannotDo", "Clash", "NoName", "NoStep", "NoSuch", "NotSayable"] : List Str) ++ (["NothingDone", "NothingUndone", "TooLarge", "TooLong", "TooMany", "TooWide", "TreeTooWide", "Uneditable", "Unjoined", "Unlinked", "Untyped", "Wide"] : List Str)
abbrev xbase : Str := "RulesError"
def xplain : List Str := (["BadCode", "BadCount", "BadDeed", "BadDefinitions", "BadEdit", "BadFilling", "BadGiven", "BadHouse", "BadKey", "BadLanguage", "BadLaw", "BadName", "BadNumber", "BadPattern", "BadPlace", "BadProgram", "BadRoad", "BadRow", "BadRuleWord", "BadScheme"] : List Str) ++ (["BadState", "BadStep", "BadSum", "BadTerm", "BadThing", "BadType", "NotSayable", "NothingDone", "NothingUndone", "TooLarge", "TooLong", "Uneditable", "RulesError"] : List Str)
def xd : XD := ⟨[sd_BadCodeText, sd_BadDefinition, sd_BadNotation, sd_BadRule, sd_BadText, sd_BadTrail, sd_BrokenLead, sd_CannotDo, sd_Clash, sd_NoName, sd_NoStep, sd_NoSuch, sd_TooMany, sd_TooWide, sd_TreeTooWide, sd_Unjoined, sd_Unlinked, sd_Untyped, sd_Wide], xplain, xnames, xbase⟩
end K00
set_option Elab.async false
set_option linter.all false
set_option maxRecDepth 100000
set_option maxHeartbeats 0
namespace K00
open PySem L2 PL PX
theorem kws_law_begun {K : PySem.W.Frag} {a : Addr} {fd : FuncData} (F : Fun K "_law_begun" "_law_begun" s_law_begun a fd) : Kws fd ["script"] := kws_of F fun _ _ _ _ _ _ us ws hl => match us, ws, hl with | [], [_], _ => rfl | [_], [], _ => rfl
theorem kws_law_blended {K : PySem.W.Frag} {a : Addr} {fd : FuncData} (F : Fun K "_law_blended" "_law_blended" s_law_blended a fd) : Kws fd ["state"] := kws_of F fun _ _ _ _ _ _ us ws hl => match us, ws, hl with | [], [_], _ => rfl | [_], [], _ => rfl
theorem kws_law_draw {K : PySem.W.Frag} {a : Addr} {fd : FuncData} (F : Fun K "_law_draw" "_law_draw" s_law_draw a fd) : Kws fd ["state", "size_here"] := kws_of F fun _ _ _ _ _ _ us ws hl => match us, ws, hl with | [], [_, _], _ => rfl | [_], [_], _ => rfl | [_, _], [], _ => rfl
theorem kws_law_pick {K : PySem.W.Frag} {a : Addr} {fd : FuncData} (F : Fun K "_law_pick" "_law_pick" s_law_pick a fd) : Kws fd ["state", "several"] := kws_of F fun _ _ _ _ _ _ us ws hl => match us, ws, hl with | [], [_, _], _ => rfl | [_], [_], _ => rfl | [_, _], [], _ => rfl
theorem kws_law_k00_flags {K : PySem.W.Frag} {a : Addr} {fd : FuncData} (F : Fun K "_law_k00_flags" "_law_k00_flags" s_law_k00_flags a fd) : Kws fd ["error"] := kws_of F fun _ _ _ _ _ _ us ws hl => match us, ws, hl with | [], [_], _ => rfl | [_], [], _ => rfl
theorem kws_law {K : PySem.W.Frag} {a : Addr} {fd : FuncData} (F : Fun K "law" "law" s_law a fd) : Kws fd ["script"] := kws_of F fun _ _ _ _ _ _ us ws hl => match us, ws, hl with | [], [_], _ => rfl | [_], [], _ => rfl
def d_law_begun : He.DefD := ⟨("_law_begun", none), "_law_begun", "_law_begun", defArgs s_law_begun, defBody s_law_begun, defScope s_law_begun, [], []⟩
def d_law_blended : He.DefD := ⟨("_law_blended", none), "_law_blended", "_law_blended", defArgs s_law_blended, defBody s_law_blended, defScope s_law_blended, [], []⟩
def d_law_draw : He.DefD := ⟨("_law_draw", none), "_law_draw", "_law_draw", defArgs s_law_draw, defBody s_law_draw, defScope s_law_draw, [], []⟩
def d_law_pick : He.DefD := ⟨("_law_pick", none), "_law_pick", "_law_pick", defArgs s_law_pick, defBody s_law_pick, defScope s_law_pick, [], []⟩
def d_law_k00_flags : He.DefD := ⟨("_law_k00_flags", none), "_law_k00_flags", "_law_k00_flags", defArgs s_law_k00_flags, defBody s_law_k00_flags, defScope s_law_k00_flags, [], []⟩
def d_law : He.DefD := ⟨("law", none), "law", "law", defArgs s_law, defBody s_law, defScope s_law, [], []⟩
def hfn0 : List He.DefD := [d_law_begun, d_law_blended, d_law_draw, d_law_pick, d_law_k00_flags, d_law]
def hfn : List He.DefD := hfn0
def hfa0 : List He.Fa := [.glo "_law_begun", .glo "_law_blended", .glo "_law_draw", .glo "_law_pick", .glo "_law_k00_flags", .glo "law", .free "abs", .free "int", .free "len", .free "isinstance", .free "range", .free "enumerate", .free "min", .free "repr", .free "ValueError"]
def hfa : List He.Fa := hfa0
def hnames0 : List PySem.Str := ["RulesError", "BadCode", "BadCodeText", "BadCount", "BadDeed", "BadDefinition", "BadDefinitions", "BadEdit", "BadFilling", "BadGiven", "BadHouse", "BadKey", "BadLanguage", "BadLaw", "BadName", "BadNotation", "BadNumber", "BadPattern", "BadPlace", "BadProgram", "BadRoad", "BadRow", "BadRule", "BadRuleWord", "BadScheme", "BadState", "BadStep", "BadSum", "BadTerm", "BadText"]
def hnames1 : List PySem.Str := ["BadThing", "BadTrail", "BadType", "BrokenLead", "CannotDo", "Clash", "NoName", "NoStep", "NoSuch", "NotSayable", "NothingDone", "NothingUndone", "TooLarge", "TooLong", "TooMany", "TooWide", "TreeTooWide", "Uneditable", "Unjoined", "Unlinked", "Untyped", "Wide", "_law_begun", "_law_blended", "_law_draw", "_law_pick", "_law_k00_flags"]
def hnames : List PySem.Str := hnames0 ++ hnames1
abbrev R : PySem.W.OpenRow := PySem.W.OpenLaw.row PySem.Challenge.rw_alwaysastep_k00_errors_apart
abbrev hk : PySem.W.Hook := hookX 4 hfa hfn xd R.prog.main.file
def ob (s : PySem.W.SharedT) : AlX := obsXG 4 hfa hfn xd R.prog.main.file (HandSHeadRun.getT s)
theorem ob_eq (s : PySem.W.SharedT) : ob s = hk.obs s.abs := obsXG_eq (HandSHeadRun.getT_eq s)
theorem run (w : World) : HandSHeadRun.RunEq R (PySem.W.view R.prog [59]) hk ob 60000 hnames w := by
  intro os
  kernel_rfl
end K00
set_option Elab.async false
set_option linter.all false
set_option maxRecDepth 100000
set_option maxHeartbeats 4000000
namespace K00
open PySem L2 PL
abbrev sBegun : Stmt := s_law_begun
abbrev sBlended : Stmt := s_law_blended
abbrev sDraw : Stmt := s_law_draw
section
variable {P : Program} {w : World} {K : PySem.W.Frag} {mg : Str → Option Value} {base : Heap} {f : Addr} {fd : FuncData}
theorem scBegun : FnScope ["script", "great", "cell"] ["script"] (defScope sBegun) := ⟨rfl, rfl, rfl, by decide +kernel, rfl, by decide +kernel, by decide +kernel⟩
theorem ok_begun (FF : Fun K "_law_begun" "_law_begun" sBegun f fd) (hAbs : mg "abs" = none) : FnOk P w K mg base CX0 1 f fd ["script"] (spBegun K) := by
  refine FF.ok scBegun (fun vs H Q E h => ?_) (fun cdv A outer s H vs Q E hr h => ?_)
  · obtain ⟨a, ns, rfl, _⟩ := h
    rfl
  · obtain ⟨a, ns, rfl, hS, hl, k⟩ := h
    refine ⟨_, pss_cons (ps_setLc (i := 1) (own := [("cell", 2)]) (g := gName 2) rfl scBegun.nd rfl rfl (sw_true rfl rfl rfl (by decide +kernel)) (pi_list (pv 0)) (blkOk_by (own := [("cell", 2)]) (N := ["script", "great", "cell"]) (sc := defScope sBegun) (by decide +kernel))
        (fun _ _ _ _ _ => pg_name (i := 2) scBegun.nd rfl (Or.inl rfl))
        (fun _ _ _ _ _ => pts_one (pt_cmpR op_ge (pe_callB call_abs (by rfl) hAbs (by decide +kernel) (pa_cons (pv 2) pa_nil)) (pe_op op_pow pe_int pe_int) (nomark _)))
        (fun _ _ _ _ _ => pe_op op_sub (pe_callB call_abs (by rfl) hAbs (by decide +kernel) (pa_cons (pv 2) pa_nil)) (pe_op op_pow pe_int pe_int)))
      (pss_one (ps_ret (pe_disp (pps_cons pe_str (pv 1) (pps_cons pe_str (pe_lc (own := [("cell", 2)]) (g := gName 2) (tt := tYes) rfl scBegun.nd (pi_list (pv 0)) (blkOk_by (own := [("cell", 2)]) (N := ["script", "great", "cell"]) (sc := defScope sBegun) (by decide +kernel))
          (fun _ _ _ _ _ => pg_name (i := 2) scBegun.nd rfl (Or.inl rfl)) (fun _ _ _ _ _ => pts_nil) (fun _ _ _ _ _ => pe_callB call_abs (by rfl) hAbs (by decide +kernel) (pa_cons (pv 2) pa_nil)))
        (pps_cons pe_str pe_int (pps_cons pe_str pe_int pps_nil)))) (by rfl) (by rfl) (fun z => by cases z) (by decide)))), ?_⟩
    have int_of : ∀ {i : Nat} {x : V}, (ns.map V.int)[i]? = some x → ∃ z, x = V.int z ∧ i < ns.length := fun {i x} hi => by
      rw [List.getElem?_map] at hi
      cases e : ns[i]? with
      | none => rw [e] at hi; cases hi
      | some z => rw [e] at hi; exact ⟨z, (Option.some.inj hi).symm, (List.getElem?_eq_some_iff.mp e).1⟩
    refine ⟨_, rfl, a, rfl, ⟨_, hS⟩, fun g hg => lc_list (xs := ns.map V.int) (fun i H' => Same H H' ∧ ∃ gs : List Int, H' g = some (.lst (gs.map V.int)) ∧ gs.length ≤ i) ⟨same_new hg, [], upd_same, Nat.le_refl _⟩ (fun i H' _ p => p.1.seq hS) ?_ ?_⟩
    · rintro i x H2 hi ⟨sm, gs, h1, h3⟩
      obtain ⟨z, rfl, hlt⟩ := int_of hi
      refine ⟨rfl, _, rfl, z, rfl, 10, 18, rfl, rfl, ⟨by decide, by decide, by decide⟩, _, _, rfl, rfl, _, rfl, ?_⟩
      refine ite2 (fun hc => ?_) (fun hc => ⟨sm, gs, h1, Nat.le_succ_of_le h3⟩)
      refine ⟨_, rfl, z, rfl, 10, 18, rfl, rfl, ⟨by decide, by decide, by decide⟩, _, _, rfl, rfl, _, h1, by rw [List.length_map]; exact small1000 (by omega), ?_⟩
      have hc' := of_decide_eq_true hc
      refine ⟨fun b o e => by rw [upd_ne (ne_of_none e hg)]; exact sm b o e, gs ++ [(if z < 0 then -z else z) - 10 ^ (18 : Int).toNat], by rw [upd_same, List.map_append]; rfl, by rw [List.length_append]; show gs.length + 1 ≤ i + 1; omega⟩
    · rintro H2 ⟨sm, gs, h1, h3⟩
      have hgl : gs.length ≤ 63 := by rw [List.length_map] at h3; omega
      intro p hp
      have gp : g ≠ p := fun z => by rw [z, hp] at h1; cases h1
      have sm2 : Same H (upd H2 p (.dK [])) := fun b o e => by rw [upd_ne (ne_of_none (sm b o e) hp)]; exact sm b o e
      refine ⟨_, rfl, _, rfl, a, rfl, ⟨_, sm2.seq hS⟩, fun c hc => ?_⟩
      have pc : p ≠ c := fun z => by rw [← z, upd_same] at hc; cases hc
      have gc : g ≠ c := fun z => by rw [← z, upd_ne gp, h1] at hc; cases hc
      refine lc_list (xs := ns.map V.int) (fun i H' => Same H H' ∧ H' p = some (.dK []) ∧ H' g = some (.lst (gs.map V.int)) ∧ ∃ cs : List Int, H' c = some (.lst (cs.map V.int)) ∧ cs.length ≤ i) ⟨fun b o e => by rw [upd_ne (ne_of_none (sm2 b o e) hc)]; exact sm2 b o e, by rw [upd_ne pc, upd_same], by rw [upd_ne gc, upd_ne gp]; exact h1, [], upd_same, Nat.le_refl _⟩ (fun i H' _ p => p.1.seq hS) ?_ ?_
      · rintro i x H3 hi ⟨sm3, e1, e2, cs, e3, e5⟩
        obtain ⟨z, rfl, hlt⟩ := int_of hi
        refine ⟨rfl, ?_⟩
        dsimp only [tYes]

        rw [if_pos rfl]
        refine ⟨_, rfl, z, rfl, _, e3, by rw [List.length_map]; exact small1000 (by omega), ?_⟩
        have hcH : H c = none := by
          cases q : H c with
          | none => rfl
          | some u => rw [sm2 c u q] at hc; cases hc
        refine ⟨fun b o e => by rw [upd_ne (ne_of_none e hcH)]; exact sm3 b o e, by rw [upd_ne pc]; exact e1, by rw [upd_ne gc]; exact e2, cs ++ [if z < 0 then -z else z], by rw [upd_same, List.map_append]; rfl, by rw [List.length_append]; show cs.length + 1 ≤ i + 1; omega⟩
      · rintro H3 ⟨sm3, e1, e2, cs, e3, e5⟩
        refine ⟨e1, [(Sum.inr ("great" : Str), .ref g), (Sum.inr ("cells" : Str), .ref c), (Sum.inr ("left" : Str), .int 0), (Sum.inr ("turn" : Str), .int 0)], rfl, (by show 4 ≤ 15; decide), ?_⟩
        have em : mergeK [] ([(Sum.inr ("great" : Str), .ref g), (Sum.inr ("cells" : Str), .ref c), (Sum.inr ("left" : Str), .int 0), (Sum.inr ("turn" : Str), .int 0)] : List (Key × V)) = stK g c 0 0 := by
          have n1 : ¬ (("great" : Str) = "cells") := by decide +kernel
          have n2 : ¬ (("great" : Str) = "left") := by decide +kernel
          have n3 : ¬ (("great" : Str) = "turn") := by decide +kernel
          have n4 : ¬ (("cells" : Str) = "left") := by decide +kernel
          have n5 : ¬ (("cells" : Str) = "turn") := by decide +kernel
          have n6 : ¬ (("left" : Str) = "turn") := by decide +kernel
          simp [mergeK, putK, stK, n1, n2, n3, n4, n5, n6]
        have hpH : H p = none := by
          cases q : H p with
          | none => rfl
          | some u => rw [sm p u q] at hp; cases hp
        have hcH : H c = none := by
          cases q : H c with
          | none => rfl
          | some u => rw [sm2 c u q] at hc; cases hc
        rw [em]
        refine k p g c _ hpH hg hcH (fun b o e => by rw [upd_ne (ne_of_none e hpH)]; exact sm3 b o e) ⟨⟨gs, cs, 0, 0, upd_same, by rw [upd_ne gp]; exact e2, by rw [upd_ne pc.symm]; exact e3, Int.le_refl _, hgl, by rw [List.length_map] at e5; omega⟩, gc⟩ ?_
        unfold tn
        rw [upd_same]
        rfl
/-! ### the source is blended -/
theorem bits_le {i : Int} {b : Nat} (h : i.natAbs < 2 ^ b) (h0 : 0 < b) : Builtin.Int.intBits i ≤ b := by
  have x := PySem.Flt.log2_lt_of h0 h
  unfold Builtin.Int.intBits
  split <;> omega
def CPowW (i j : Int) : Prop := 0 ≤ j ∧ (Builtin.Int.intBits i : Int) * j ≤ 2 ^ 27
theorem op_powW {X : Cx} : OpR X (binaryOp .Pow) (rI CPowW fun i j => .int (i ^ j.toNat)) := opI fun _ _ _ _ _ _ _ hc q => PyProof.Rows.pow_int hc.1 hc.2 q
theorem put_turn {g c : Addr} {l t u : Int} : putK (stK g c l t) (Sum.inr ("turn" : Str) : Key) (.int u) = stK g c l u := by
  have n3 : ¬ (("great" : Str) = "turn") := by decide +kernel
  have n5 : ¬ (("cells" : Str) = "turn") := by decide +kernel
  have n6 : ¬ (("left" : Str) = "turn") := by decide +kernel
  simp [putK, stK, n3, n5, n6]
theorem put_left {g c : Addr} {l t u : Int} : putK (stK g c l t) (Sum.inr ("left" : Str) : Key) (.int u) = stK g c u t := by
  have n3 : ¬ (("great" : Str) = "left") := by decide +kernel
  have n5 : ¬ (("cells" : Str) = "left") := by decide +kernel
  have n6 : ¬ (("turn" : Str) = "left") := by decide +kernel
  simp [putK, stK, n3, n5, n6]
theorem get_turn {g c : Addr} {l t : Int} : valV (stK g c l t) (Sum.inr ("turn" : Str) : Key) = some (.int t) := by
  have n3 : ¬ (("great" : Str) = "turn") := by decide +kernel
  have n5 : ¬ (("cells" : Str) = "turn") := by decide +kernel
  have n6 : ¬ (("left" : Str) = "turn") := by decide +kernel
  simp [valV, stK, n3, n5, n6]
theorem get_left {g c : Addr} {l t : Int} : valV (stK g c l t) (Sum.inr ("left" : Str) : Key) = some (.int l) := by
  have n3 : ¬ (("great" : Str) = "left") := by decide +kernel
  have n5 : ¬ (("cells" : Str) = "left") := by decide +kernel
  simp [valV, stK, n3, n5]
theorem get_great {g c : Addr} {l t : Int} : valV (stK g c l t) (Sum.inr ("great" : Str) : Key) = some (.ref g) := by
  simp [valV, stK]
theorem get_cells {g c : Addr} {l t : Int} : valV (stK g c l t) (Sum.inr ("cells" : Str) : Key) = some (.ref c) := by
  have n3 : ¬ (("great" : Str) = "cells") := by decide +kernel
  simp [valV, stK, n3]
def spBlended (K : PySem.W.Frag) : Sp := fun vs H Q _ => ∃ (p g c : Addr) (gs cs : List Int) (l t : Int), vs = [.ref p] ∧ H p = some (.dK (stK g c l t)) ∧ H c = some (.lst (cs.map V.int)) ∧ 0 ≤ t ∧ t.toNat < MAXT ∧
  ∀ z H', (∀ b u, H b = some u → b ≠ p → H' b = some u) → H' p = some (.dK (stK g c l (t + 1))) → Q (.int z) H'
theorem scBlended : FnScope ["state", "turn", "found", "prime", "blend", "cell"] ["state"] (defScope sBlended) := ⟨rfl, rfl, rfl, by decide +kernel, rfl, by decide +kernel, by decide +kernel⟩
theorem big_lt : (2 : Nat) ^ 1000000 ≤ 2 ^ 1000020 := Nat.pow_le_pow_right (by decide) (by decide)
theorem ok_blended (FF : Fun K "_law_blended" "_law_blended" sBlended f fd) (hInt : mg "int" = none) : FnOk P w K mg base CX0 1 f fd ["state"] (spBlended K) := by
  refine FF.ok scBlended (fun vs H Q E h => ?_) (fun cdv A outer s H vs Q E hr h => ?_)
  · obtain ⟨p, g, c, gs, cs, l, t, rfl, _⟩ := h
    rfl
  · obtain ⟨p, g, c, gs, cs, l, t, rfl, hp, hc, ht0, ht, k⟩ := h
    have hu := hu_of hr
    have nd := scBlended.nd
    refine ⟨_, pss_cons (ps_par (i := 1) (j := 2) rfl nd rfl rfl (by decide) rfl rfl (pa_cons (pe_op op_add (pe_dget hu (pv 0) pe_str (fun _ _ => rfl)) pe_int) (pa_cons pe_int pa_nil)) (by rfl))
      (pss_cons (ps_dput hu (pv 0) pe_str (pv 1) rfl)
      (pss_cons (ps_for PassesOwn.never rfl (pi_list (pe_lst (pa_cons pe_int (pa_cons pe_int (pa_cons pe_int pa_nil))))) (pg_name (i := 3) nd rfl (Or.inl rfl))
        (pss_cons (ps_set (i := 4) nd rfl (Or.inl rfl) (pe_op op_add (pe_op op_mul pe_int (pv 1)) (pe_op op_fdiv (pv 3) pe_int)))
        (pss_cons (ps_for PassesOwn.never rfl (pi_list (pe_dget hu (pv 0) pe_str (fun _ _ => rfl))) (pg_name (i := 5) nd rfl (Or.inl rfl))
          (pss_one (ps_set (i := 4) nd rfl (Or.inl rfl) (pe_op op_mod (pe_callTy call_int1 (by rfl) hInt (by decide +kernel) (pa_cons (pe_op op_add (pe_op op_add (pe_op op_mul (pv 4) pe_int) (pv 5)) (pv 1)) pa_nil)) (pv 3)))))
        (pss_one (ps_set (i := 2) nd rfl (Or.inl rfl) (pe_op op_add (pe_op op_mul (pv 2) pe_int) (pe_op op_mod (pe_callTy call_int1 (by rfl) hInt (by decide +kernel) (pa_cons (pe_op op_powW (pv 4) pe_int) pa_nil)) (pv 3))))))))
      (pss_one (ps_ret (pv 2))))), ?_⟩
    refine ⟨_, rfl, p, .int t, rfl, by rw [← get_turn (g := g) (c := c) (l := l)]; exact DGet.k (k := (Sum.inr ("turn" : Str) : Key)) hp, _, _, rfl, rfl, _, _, rfl, ?_⟩
    refine ⟨_, rfl, _, rfl, p, _, rfl, DPut.k (k := (Sum.inr ("turn" : Str) : Key)) hp (by show 4 < sizeLine; decide), ?_⟩
    rw [put_turn]
    have pc : p ≠ c := ne_of hp hc (by intro z; cases z)
    refine ⟨by show 3 ≤ sizeLine; decide, fun L hL => ?_⟩
    have Lp : L ≠ p := fun z => by rw [z, upd_same] at hL; cases hL
    have Lc : L ≠ c := fun z => by rw [z, upd_ne pc.symm, hc] at hL; cases hL
    have LH : H L = none := by rw [← upd_ne (H := H) (o := .dK (stK g c l (t + 1))) Lp]; exact hL
    let H1 := upd (upd H p (.dK (stK g c l (t + 1)))) L (.lst [.int 2147481883, .int 2147481863, .int 2147481827])
    have e1 : H1 p = some (.dK (stK g c l (t + 1))) := by show upd _ L _ p = _; rw [upd_ne Lp.symm, upd_same]
    have e2 : H1 c = some (.lst (cs.map V.int)) := by show upd _ L _ c = _; rw [upd_ne Lc.symm, upd_ne pc.symm]; exact hc
    have e3 : H1 L = some (.lst [.int 2147481883, .int 2147481863, .int 2147481827]) := upd_same
    have kk : ∀ b u, H b = some u → b ≠ p → H1 b = some u := fun b u e hb => by show upd _ L _ b = _; rw [upd_ne (ne_of_none e LH), upd_ne hb]; exact e
    refine ⟨L, rfl, ⟨_, SqL.of e3⟩, for_list (K := K) (a := L) (xs := [.int 2147481883, .int 2147481863, .int 2147481827]) (fun i σ H' => H' = H1 ∧ ∃ (fo : Int) (x y z : Option V), σ = [some (.ref p), some (.int (t + 1)), some (.int fo), x, y, z])
      ⟨rfl, 0, _, _, _, rfl⟩ (fun i σ H' _ q => by rw [q.1]; exact SqL.of e3) ?_ ?_⟩
    · rintro i x σ H' hx ⟨rfl, fo, y1, y2, y3, rfl⟩
      obtain ⟨pr, rfl, pr0, pr1⟩ : ∃ pr : Int, x = .int pr ∧ 0 < pr ∧ pr < 2 ^ 31 := by
        match i, hx with
        | 0, hx => cases hx; exact ⟨_, rfl, by decide, by decide⟩
        | 1, hx => cases hx; exact ⟨_, rfl, by decide, by decide⟩
        | 2, hx => cases hx; exact ⟨_, rfl, by decide, by decide⟩
      refine ⟨_, rfl, _, _, rfl, rfl, .inl ⟨by decide, by decide⟩, _, rfl, _, _, rfl, rfl, ⟨by decide, by decide⟩, _, _, rfl, rfl, ?_⟩
      have bt : (43789 * (t + 1) + pr / 73).natAbs < 2 ^ 1000020 := by
        have h1 : t.toNat < 2 ^ 1000000 := ht
        have h2 : (2 : Nat) ^ 1000020 = 2 ^ 1000000 * 2 ^ 20 := by rw [← Nat.pow_add]
        have h3 : pr / 73 < 2 ^ 25 := by omega
        have h4 : 0 ≤ pr / 73 := by omega
        have h5 : (2 : Nat) ^ 12 ≤ 2 ^ 1000000 := Nat.pow_le_pow_right (by decide) (by decide)
        rw [h2]
        generalize (2 : Nat) ^ 1000000 = M at h1 h5 ⊢
        omega
      have bq : ∀ q : Int, (q % pr).natAbs < 2 ^ 1000020 := fun q => by
        have h1 := Int.emod_nonneg q (show pr ≠ 0 by omega)
        have h2 := Int.emod_lt_of_pos q pr0
        have h5 : (2 : Nat) ^ 31 ≤ 2 ^ 1000020 := Nat.pow_le_pow_right (by decide) (by decide)
        generalize (2 : Nat) ^ 1000020 = M at h5 ⊢
        omega
      refine ⟨_, rfl, p, .ref c, rfl, by rw [← get_cells (g := g) (c := c) (l := l) (t := t + 1)]; exact DGet.k (k := (Sum.inr ("cells" : Str) : Key)) e1, c, rfl, ⟨_, SqL.of e2⟩, for_list (K := K) (a := c) (xs := cs.map V.int) (fun i σ H' => H' = H1 ∧ ∃ (bl : Int) (z : Option V), bl.natAbs < 2 ^ 1000020 ∧ σ = [some (.ref p), some (.int (t + 1)), some (.int fo), some (.int pr), some (.int bl), z])
        ⟨rfl, _, _, bt, rfl⟩ (fun i σ H' _ q => by rw [q.1]; exact SqL.of e2) ?_ ?_⟩
      · rintro i x σ H' hx ⟨rfl, bl, z, hb, rfl⟩
        obtain ⟨ce, rfl⟩ : ∃ ce : Int, x = .int ce := by
          rw [List.getElem?_map] at hx
          cases e : cs[i]? with
          | none => rw [e] at hx; cases hx
          | some ce => rw [e] at hx; exact ⟨ce, (Option.some.inj hx).symm⟩
        refine ⟨_, rfl, _, _, rfl, rfl, .inr ⟨by decide, by decide⟩, _, rfl, _, _, rfl, rfl, _, rfl, _, _, rfl, rfl, .inl ⟨_, rfl, _, rfl, _, _, rfl, rfl, pr0, ?_⟩⟩
        exact ⟨rfl, _, _, bq _, rfl⟩
      · rintro σ H' ⟨rfl, bl, z, hb, rfl⟩
        refine ⟨_, rfl, _, _, rfl, rfl, .inr ⟨by decide, by decide⟩, _, rfl, _, _, rfl, rfl, ⟨by decide, ?_⟩, .inl ⟨_, rfl, _, rfl, _, _, rfl, rfl, pr0, _, _, rfl, rfl, ?_⟩⟩
        · have := bits_le hb (by decide)
          omega
        · exact ⟨rfl, _, _, _, _, rfl⟩
    · rintro σ H' ⟨rfl, fo, y1, y2, y3, rfl⟩
      exact ⟨_, rfl, k fo H1 kk e1⟩
/-! ### a draw -/
def gDraw : Sg := sg2 fun s k P => s = .tok ∧ match k with | .int n => 0 < n ∧ n < 2 ^ 64 ∧ ∀ k : Int, 0 ≤ k → k < n → P (.int k) | _ => False
theorem gDraw_of {ds : List D} {Pd : D → Prop} {R : Xr} (h : gDraw ds Pd R) : ∃ n : Int, ds = [.tok, .int n] ∧ 0 < n ∧ n < 2 ^ 64 ∧ ∀ k : Int, 0 ≤ k → k < n → Pd (.int k) := by
  obtain ⟨a, b, rfl, rfl, h2⟩ := sg2_inv h
  cases b with
  | int n => exact ⟨n, rfl, h2⟩
  | _ => exact h2.elim
theorem scDraw : FnScope ["state", "size_here", "found"] ["state", "size_here"] (defScope sDraw) := ⟨rfl, rfl, rfl, by decide +kernel, rfl, by decide +kernel, by decide +kernel⟩
theorem ok_draw {fB : Addr} {fdB : FuncData} (FF : Fun K "_law_draw" "_law_draw" sDraw f fd) (hInt : mg "int" = none) (GB : FnOk P w K mg base CX0 1 fB fdB ["state"] (spBlended K)) (mB : mg "_law_blended" = some (.ref fB)) (kB : PySem.W.keepIn K (.ref fB) = true) (bB : Binds K fdB ["state"] []) :
    FnOk P w K mg base CX0 2 f fd ["state", "size_here"] (SpD K 1 gDraw) := by
  refine FF.ok scDraw (fun vs H Q E h => ?_) (fun cdv A outer s H vs Q E hr h => ?_)
  · obtain ⟨F, ds, Pd, R, b, h0, bd, r, hg, _⟩ := h
    obtain ⟨n, rfl, _⟩ := gDraw_of hg
    exact r.length
  · obtain ⟨F, ds, Pd, R, b, h0, bd, r, hg, kq, kx⟩ := h
    obtain ⟨n, rfl, n0, n1, hP⟩ := gDraw_of hg
    obtain ⟨v, u, rfl, r1, r2⟩ := two_inv r
    cases r1; cases r2
    have hu := hu_of hr
    have nd := scDraw.nd
    obtain ⟨gs, cs, l, t, e1, e2, e3, ht, hg, hc⟩ := b.st.ex
    have pg := b.st.p_ne_g
    have pc := b.st.p_ne_c
    have gc := b.st.gc
    have tn0 : tn F.p H = t.toNat := by unfold tn; rw [e1]; rfl
    have tb : t.toNat + 1 ≤ MAXT := by have := bd; unfold Bd at this; rw [tn0] at this; exact this
    refine ⟨_, C8.pss_cut (ps_if (pt_cmpR op_eq (pe_dget hu (pv 0) pe_str (fun _ _ => rfl)) pe_int (nomark _))
        (pss_one (ps_dput hu (pv 0) pe_str (pe_ifExp (pt_cmpR (op_ne0 hr.units) (pe_dget hu (pv 0) pe_str (fun _ _ => rfl)) (pe_lst pa_nil) (nomark _))
            (pe_bm PySem.F.plainAttrs_list PySem.F.slot_list_pop PySem.F.type_list_pop mt_popAt (pe_dget hu (pv 0) pe_str (fun _ _ => rfl)) (pa_cons pe_int pa_nil))
            (pe_call GB hr rfl mB kB bB .nil pass0 (pa_cons (pv 0) pa_nil))) rfl)) pss_nil)
      (pss_cons (ps_set (i := 2) nd rfl (Or.inl rfl) (pe_op op_mod (pe_callTy call_int1 (by rfl) hInt (by decide +kernel) (pa_cons (pe_dget hu (pv 0) pe_str (fun _ _ => rfl)) pa_nil)) (pv 1)))
      (pss_cons (ps_dput hu (pv 0) pe_str (pe_op op_fdivW (pe_dget hu (pv 0) pe_str (fun _ _ => rfl)) (pv 1)) rfl)
      (pss_one (ps_ret (pv 2))))), ?_⟩
    have gL : ∀ {H1 : Hp} {g c : Addr} {l t : Int}, H1 F.p = some (.dK (stK g c l t)) → DGet H1 F.p (.str ("left" : Str)) (some (.int l)) := fun {H1 g c l t} e => by rw [← get_left (g := g) (c := c) (l := l) (t := t)]; exact DGet.k (k := (Sum.inr ("left" : Str) : Key)) e
    have gG : ∀ {H1 : Hp} {g c : Addr} {l t : Int}, H1 F.p = some (.dK (stK g c l t)) → DGet H1 F.p (.str ("great" : Str)) (some (.ref g)) := fun {H1 g c l t} e => by rw [← get_great (g := g) (c := c) (l := l) (t := t)]; exact DGet.k (k := (Sum.inr ("great" : Str) : Key)) e
    have pL : ∀ {H1 : Hp} {g c : Addr} {l t : Int} (u : Int), H1 F.p = some (.dK (stK g c l t)) → DPut H1 F.p (.str ("left" : Str)) (.int u) (upd H1 F.p (.dK (stK g c u t))) := fun {H1 g c l t} u e => by rw [← put_left (g := g) (c := c) (l := l) (t := t) (u := u)]; exact DPut.k (k := (Sum.inr ("left" : Str) : Key)) e (by show 4 < sizeLine; decide)
    refine ⟨fun σ H1 => σ = [some (.ref F.p), some (.int n), none] ∧ ∃ (gs' : List Int) (l' t' : Int), H1 F.p = some (.dK (stK F.g F.c l' t')) ∧ H1 F.g = some (.lst (gs'.map V.int)) ∧ H1 F.c = some (.lst (cs.map V.int)) ∧ 0 ≤ t' ∧ t'.toNat ≤ t.toNat + 1 ∧ gs'.length ≤ 63 ∧ (∀ b u, H b = some u → b ≠ F.p → b ≠ F.g → H1 b = some u), ?_, ?_⟩
    · refine ⟨_, rfl, F.p, _, rfl, gL e1, rfl, _, rfl, ?_⟩
      refine ite2 (fun hl => ?_) (fun hl => ⟨rfl, gs, l, t, e1, e2, e3, ht, by omega, hg, fun b u e _ _ => e⟩)
      -- nothing is left
      refine ⟨_, rfl, F.p, _, rfl, gG e1, by show 0 ≤ sizeLine; decide, fun L hL => ?_⟩
      have Lp : F.p ≠ L := fun z => by rw [← z, e1] at hL; cases hL
      have Lg : F.g ≠ L := fun z => by rw [← z, e2] at hL; cases hL
      have Lc : F.c ≠ L := fun z => by rw [← z, e3] at hL; cases hL
      have q1 : upd H L (.lst []) F.p = some (.dK (stK F.g F.c l t)) := by rw [upd_ne Lp]; exact e1
      have q2 : upd H L (.lst []) F.g = some (.lst (gs.map V.int)) := by rw [upd_ne Lg]; exact e2
      have q3 : upd H L (.lst []) F.c = some (.lst (cs.map V.int)) := by rw [upd_ne Lc]; exact e3
      have sm : Same H (upd H L (.lst [])) := same_new hL
      refine ⟨F.g, L, gs.map V.int, rfl, rfl, .inr ⟨SqL.of q2, SqL.of upd_same⟩, _, rfl, ?_⟩
      cases gs with
      | cons x gs =>
        refine iteT ⟨_, rfl, F.p, _, rfl, gG q1, .inl ⟨rfl, _, .inl (.inl q2)⟩, F.g, _, 0, 0, .int x, rfl, rfl, q2, by decide, by decide, by simp [seqIndex?], rfl, ?_⟩
        refine ⟨_, rfl, _, _, rfl, pL x (by rw [upd_ne pg]; exact q1), rfl, gs, x, t, upd_same, ?_, ?_, ht, by omega, by simp at hg; omega, fun b u e h1 h2 => ?_⟩
        · rw [upd_ne pg.symm, upd_same]; rfl
        · rw [upd_ne pc.symm, upd_ne gc.symm]; exact q3
        · rw [upd_ne h1, upd_ne h2]; exact sm b u e
      | nil =>
        refine iteF ⟨_, rfl, F.p, F.g, F.c, [], cs, l, t, rfl, q1, q3, ht, by omega, fun z H' kp hp' => ?_⟩
        refine ⟨_, rfl, _, _, rfl, pL z hp', rfl, [], z, t + 1, upd_same, ?_, ?_, by omega, by omega, by decide, fun b u e h1 h2 => ?_⟩
        · rw [upd_ne pg.symm]; exact kp _ _ q2 pg.symm
        · rw [upd_ne pc.symm]; exact kp _ _ q3 pc.symm
        · rw [upd_ne h1]; exact kp _ _ (sm b u e) h1
    · rintro σ H1 ⟨rfl, gs', l', t', f1, f2, f3, ht', htt, hg', kk⟩
      refine ⟨_, rfl, F.p, _, rfl, gL f1, .inl ⟨l', rfl, _, rfl, _, _, rfl, rfl, n0, ?_⟩⟩
      have hn : n.natAbs < 2 ^ 64 := by omega
      refine ⟨_, rfl, F.p, _, rfl, gL f1, _, rfl, _, _, rfl, rfl, wide_div n0 hn (by decide) (by decide), _, rfl, _, _, rfl, pL _ f1, _, rfl, ?_⟩
      refine kq _ _ (.int (l' % n)) ⟨⟨⟨gs', cs, _, t', upd_same, by rw [upd_ne pg.symm]; exact f2, by rw [upd_ne pc.symm]; exact f3, ht', hg', hc⟩, gc⟩, fun b u e h1 h2 => by rw [upd_ne h1]; exact kk b u e h1 h2, ?_⟩ (.int _) (hP _ (Int.emod_nonneg _ (by omega)) (Int.emod_lt_of_pos _ n0))
      have e : tn F.p (upd H1 F.p (.dK (stK F.g F.c (l' / n) t'))) = t'.toNat := by unfold tn; rw [upd_same]; rfl
      rw [e, tn0]; exact htt
end
end K00
set_option Elab.async false
set_option linter.all false
set_option maxRecDepth 100000
set_option maxHeartbeats 8000000
namespace K00
open PySem L2 PL PX
section
variable {P : Program} {w : World} {K : PySem.W.Frag} {mg : Str → Option Value} {base : Heap} {a : Addr} {fd : FuncData}
def g_pick : Sg := sg2 fun s xs P => s = .tok ∧ match xs with | .lst ds => ds ≠ [] ∧ ds.length < 2 ^ 60 ∧ ∀ d ∈ ds, P d | _ => False
def xord : List Str := xnames.filter fun c => c != xbase
def flags (c : Str) : List D := xord.map fun c' => .bl (decide (c = c'))
def g_flags : Sg := sg1 fun d P => ∃ c fs, d = .exc c fs ∧ xnames.contains c = true ∧ P (.lst (flags c))
theorem ok_law_pick (FF : Fun K "_law_pick" "_law_pick" s_law_pick a fd) {a_law_draw : Addr} (c_law_draw : Cal P w K mg base (2) "_law_draw" a_law_draw ["state", "size_here"] (1) (gDraw)) (hb_len : mg "len" = none)  : FnG P w K mg base (3) a fd ["state", "several"] (SpD K (1) (g_pick)) := by
  refine fn_okN 2 FF sc_law_pick (sg2_len) fun cdv A outer s H E F hr => ⟨_, _, (dss_one (ds_ret (d_ix ix_seq sv_ix (dv 1) (d_call c_law_draw (hr.mono (by omega)) rfl (da_cons (dv 0) (da_cons (d_callB call_lenAny sv_len rfl hb_len (by decide +kernel) (da_cons (dv 1) da_nil)) da_nil))) (fun _ _ => rfl)))), by first | (simp; done) | decide | omega | (simp only [Nat.zero_add, Nat.add_zero]; omega), fun ds Pd R h0 => ?_⟩
  obtain ⟨x_state, x_several, rfl, h⟩ := sg2_inv h0
  clear h0

  obtain ⟨rfl, h⟩ := h
  cases x_several with
  | lst ds =>
    obtain ⟨h1, h2, h3⟩ := h
    simp only [PL.wVar, PL.wC, PL.wOp, PL.wUn, PL.wNil, PL.wCons, PL.wCB, PL.wTup, PL.wLst, PL.wAndV, PL.wOrV, PL.wNotV, PL.wIfE, PL.wAnd, PL.wOr, PL.wNot, PL.wTest, PL.wTru, PL.wChain, PL.wNext, PL.wSeq, PL.wBreak, PL.wCont, PL.wDrop, PL.wRet, PL.wRetN, PL.wIfS, PL.wgName, PL.wgNil, PL.wgCons, PL.wgTup, PL.wAsg, PL.wSet, PL.wPar, PL.wItL, PL.wItT, PL.wItS, PL.wItR1, PL.wItR2, PL.wFor, PL.wFor0, PL.wLc, PL.wYes, PL.wNeg, PL.wAdd, PL.wIx, PL.wDGet, PL.wNoPart, PL.wPart, PL.wSlice, PL.wSl, PL.wLen, PL.wAll, PL.wAny, PL.wListOf, PL.wTupOf, PL.wMin2, PL.wMax2, PL.wAbs, PL.wInt1, PL.wDic, PL.wVarF, PL.wRev, PL.wMulA, PL.wCall, PL.wCall0, gDraw, sg2]
    simp only [List.getElem?_cons_zero, List.getElem?_cons_succ, List.getElem?_nil, List.set_cons_zero, List.set_cons_succ, Option.some.injEq, En.val.injEq, D.bl.injEq, D.int.injEq, D.str.injEq, D.tup.injEq, D.lst.injEq, reduceCtorEq, exists_eq_left, exists_eq_left', exists_eq_right, exists_eq_right', exists_and_left, exists_eq, true_and, and_true, if_true, Bool.false_eq_true, if_false, ↓reduceIte, false_and, and_false, Bool.not_true, Bool.not_false, List.cons.injEq, exists_false, exists_const, isi_non_int, isi_non_bool, isi_non_str, isi_non_tuple, isi_non_list, isi_non_dict, isi_bl_int, isi_bl_bool, isi_bl_str, isi_bl_tuple, isi_bl_list, isi_bl_dict, isi_int_int, isi_int_bool, isi_int_str, isi_int_tuple, isi_int_list, isi_int_dict, isi_str_int, isi_str_bool, isi_str_str, isi_str_tuple, isi_str_list, isi_str_dict, isi_tup_int, isi_tup_bool, isi_tup_str, isi_tup_tuple, isi_tup_list, isi_tup_dict, isi_lst_int, isi_lst_bool, isi_lst_str, isi_lst_tuple, isi_lst_list, isi_lst_dict, isi_dic_int, isi_dic_bool, isi_dic_str, isi_dic_tuple, isi_dic_list, isi_dic_dict, truth, wEq, wNe, wEqs, wIss, wIns, wI, wPow, wSub, wLt, wLe, wGt, wGe, wMod, wMul, PL.wIx, neg, isNon, sg_inj, String.reduceEq, flatD, eqF_str, eqF_int, List.all_cons, List.all_nil, List.any_cons, List.any_nil, Bool.and_true, Bool.true_and, Bool.or_false, Bool.false_or, Int.reduceLT, Int.reduceLE, ln0, ln1, ln2, ln3, ln4, ln5, ln6, ln7, ln8, ln9, ln10, ln11, ln12, ln13, ln14, ln15, ln16, or_false, or_true, false_or, true_or, List.mem_cons, List.not_mem_nil, Nat.reduceAdd, List.length_cons, List.length_nil, Nat.reduceEqDiff, Int.reduceEq, Int.cast_ofNat_Int, decide_true, decide_false, atI_0, atI_1, atI_2, atI_3, List.isEmpty_cons, List.isEmpty_nil, Int.reduceAdd, Int.reduceSub, sR]
    have hp : 0 < ds.length := List.length_pos_iff.mpr h1
    refine ⟨by omega, by omega, fun k k0 k1 => ?_⟩
    obtain ⟨i, rfl⟩ : ∃ i : Nat, k = i := ⟨k.toNat, by omega⟩
    have hi : i < ds.length := by omega
    exact ⟨ds[i], PL.atI_nat (by simp [hi]), h3 _ (List.getElem_mem hi)⟩
  | _ => exact h.elim
def isq (c c' : Str) : D := .bl (decide (c = c') || decide (c' = xbase))
theorem isT_at {c c' : Str} (hc : xnames.contains c = true) : isT xnames xbase c' c = some (decide (c = c') || decide (c' = xbase)) := if_pos hc
theorem isx_at {c c' : Str} {fs : List (Str × D)} {r : Rho} {P : D → Prop} {R : Xr} (hc : xnames.contains c = true) (h : P (isq c c')) : wIsx (isT xnames xbase c') (wVar 0) (.val (.exc c fs) :: r) P R := ⟨_, rfl, c, fs, _, rfl, isT_at hc, h⟩
theorem cons_isx {c c' : Str} {fs : List (Str × D)} {r : Rho} {wr : WA} {P : List D → Prop} {R : Xr} (hc : xnames.contains c = true) (h : wr (.val (.exc c fs) :: r) (fun ds => P (isq c c' :: ds)) R) : wCons (wIsx (isT xnames xbase c') (wVar 0)) wr (.val (.exc c fs) :: r) P R := isx_at hc h
theorem lst_isx {r : Rho} {wa : WA} {P : D → Prop} {R : Xr} (h : wa r (fun ds => ds.length ≤ sizeLine ∧ P (.lst ds)) R) : wLst wa r P R := h
theorem fl_first {c c1 c2 c3 c4 : Str} {fs : List (Str × D)} {w2 : WS} {B : WEnds} (hc : xnames.contains c = true)
    (h : w2 B [.val (.exc c fs), .val (.lst [isq c c1, isq c c2, isq c c3, isq c c4])]) :
    wSeq (wSet 1 (wLst (wCons (wIsx (isT xnames xbase c1) (wVar 0)) (wCons (wIsx (isT xnames xbase c2) (wVar 0)) (wCons (wIsx (isT xnames xbase c3) (wVar 0)) (wCons (wIsx (isT xnames xbase c4) (wVar 0)) wNil)))))) w2 B [.val (.exc c fs), .un] :=
  st_set fun W2 e2 => by
    subst e2
    refine lst_isx (cons_isx hc (cons_isx hc (cons_isx hc (cons_isx hc ?_))))
    exact ⟨by show 4 ≤ sizeLine; decide, h⟩
theorem fl_step {c c1 c2 c3 c4 : Str} {fs : List (Str × D)} {xs : List D} {w2 : WS} {B : WEnds} (hc : xnames.contains c = true) (hl : xs.length ≤ 100)
    (h : w2 B [.val (.exc c fs), .val (.lst (xs ++ [isq c c1, isq c c2, isq c c3, isq c c4]))]) :
    wSeq (wSet 1 (wOp wAdd (wVar 1) (wLst (wCons (wIsx (isT xnames xbase c1) (wVar 0)) (wCons (wIsx (isT xnames xbase c2) (wVar 0)) (wCons (wIsx (isT xnames xbase c3) (wVar 0)) (wCons (wIsx (isT xnames xbase c4) (wVar 0)) wNil))))))) w2 B [.val (.exc c fs), .val (.lst xs)] :=
  st_set fun W2 e2 => by
    subst e2
    have sl : 1000 ≤ sizeLine := by decide
    refine ⟨_, rfl, ?_⟩
    refine lst_isx (cons_isx hc (cons_isx hc (cons_isx hc (cons_isx hc ?_))))
    exact ⟨by show 4 ≤ sizeLine; decide, by show xs.length + 4 ≤ sizeLine; omega, h⟩
theorem flags_eq (c : Str) : flags c = xord.map (isq c) := by
  unfold flags
  refine List.map_congr_left fun c' hc' => ?_
  have ne : (c' != xbase) = true := (List.mem_filter.mp hc').2
  have n2 : ¬ c' = xbase := by simpa using ne
  unfold isq
  rw [decide_eq_false n2, Bool.or_false]
theorem xord_eq : xord = ((["BadCode", "BadCodeText", "BadCount", "BadDeed", "BadDefinition", "BadDefinitions", "BadEdit", "BadFilling", "BadGiven", "BadHouse", "BadKey", "BadLanguage", "BadLaw", "BadName", "BadNotation", "BadNumber", "BadPattern", "BadPlace", "BadProgram", "BadRoad"] : List Str) ++ (["BadRow", "BadRule", "BadRuleWord", "BadScheme", "BadState", "BadStep", "BadSum", "BadTerm", "BadText", "BadThing", "BadTrail", "BadType", "BrokenLead", "CannotDo", "Clash", "NoName", "NoStep", "NoSuch", "NotSayable", "NothingDone"] : List Str) ++ (["NothingUndone", "TooLarge", "TooLong", "TooMany", "TooWide", "TreeTooWide", "Uneditable", "Unjoined", "Unlinked", "Untyped", "Wide"] : List Str)) := by kernel_rfl
theorem xord_map (c : Str) : xord.map (isq c) = [isq c "BadCode", isq c "BadCodeText", isq c "BadCount", isq c "BadDeed"] ++ [isq c "BadDefinition", isq c "BadDefinitions", isq c "BadEdit", isq c "BadFilling"] ++ [isq c "BadGiven", isq c "BadHouse", isq c "BadKey", isq c "BadLanguage"] ++ [isq c "BadLaw", isq c "BadName", isq c "BadNotation", isq c "BadNumber"] ++ [isq c "BadPattern", isq c "BadPlace", isq c "BadProgram", isq c "BadRoad"] ++ [isq c "BadRow", isq c "BadRule", isq c "BadRuleWord", isq c "BadScheme"] ++ [isq c "BadState", isq c "BadStep", isq c "BadSum", isq c "BadTerm"] ++ [isq c "BadText", isq c "BadThing", isq c "BadTrail", isq c "BadType"] ++ [isq c "BrokenLead", isq c "CannotDo", isq c "Clash", isq c "NoName"] ++ [isq c "NoStep", isq c "NoSuch", isq c "NotSayable", isq c "NothingDone"] ++ [isq c "NothingUndone", isq c "TooLarge", isq c "TooLong", isq c "TooMany"] ++ [isq c "TooWide", isq c "TreeTooWide", isq c "Uneditable", isq c "Unjoined"] ++ [isq c "Unlinked", isq c "Untyped", isq c "Wide"] := by rw [xord_eq]; rfl
theorem ok_law_k00_flags (FF : Fun K "_law_k00_flags" "_law_k00_flags" s_law_k00_flags a fd) (hb_isinstance : mg "isinstance" = none) (hX : ExF P K mg xd)  : FnG P w K mg base (1) a fd ["error"] (SpD K (0) (g_flags)) := by
  refine fn_okN 2 FF sc_law_k00_flags (sg1_len) fun cdv A outer s H E F hr => ⟨_, _, (dss_cons (ds_set (i := 1) sc_law_k00_flags.nd rfl (by first | exact Or.inl rfl | exact Or.inr rfl) (d_lst (da_cons (d_isx (T := isT xnames xbase "BadCode") (dv 0) rfl hb_isinstance rfl (hX.m _ (by decide +kernel)) (hX.is _ (by decide +kernel))) (da_cons (d_isx (T := isT xnames xbase "BadCodeText") (dv 0) rfl hb_isinstance rfl (hX.m _ (by decide +kernel)) (hX.is _ (by decide +kernel))) (da_cons (d_isx (T := isT xnames xbase "BadCount") (dv 0) rfl hb_isinstance rfl (hX.m _ (by decide +kernel)) (hX.is _ (by decide +kernel))) (da_cons (d_isx (T := isT xnames xbase "BadDeed") (dv 0) rfl hb_isinstance rfl (hX.m _ (by decide +kernel)) (hX.is _ (by decide +kernel))) da_nil))))))
    (dss_cons (ds_set (i := 1) sc_law_k00_flags.nd rfl (by first | exact Or.inl rfl | exact Or.inr rfl) (d_op op_addAny sv_add (dv 1) (d_lst (da_cons (d_isx (T := isT xnames xbase "BadDefinition") (dv 0) rfl hb_isinstance rfl (hX.m _ (by decide +kernel)) (hX.is _ (by decide +kernel))) (da_cons (d_isx (T := isT xnames xbase "BadDefinitions") (dv 0) rfl hb_isinstance rfl (hX.m _ (by decide +kernel)) (hX.is _ (by decide +kernel))) (da_cons (d_isx (T := isT xnames xbase "BadEdit") (dv 0) rfl hb_isinstance rfl (hX.m _ (by decide +kernel)) (hX.is _ (by decide +kernel))) (da_cons (d_isx (T := isT xnames xbase "BadFilling") (dv 0) rfl hb_isinstance rfl (hX.m _ (by decide +kernel)) (hX.is _ (by decide +kernel))) da_nil)))))))
    (dss_cons (ds_set (i := 1) sc_law_k00_flags.nd rfl (by first | exact Or.inl rfl | exact Or.inr rfl) (d_op op_addAny sv_add (dv 1) (d_lst (da_cons (d_isx (T := isT xnames xbase "BadGiven") (dv 0) rfl hb_isinstance rfl (hX.m _ (by decide +kernel)) (hX.is _ (by decide +kernel))) (da_cons (d_isx (T := isT xnames xbase "BadHouse") (dv 0) rfl hb_isinstance rfl (hX.m _ (by decide +kernel)) (hX.is _ (by decide +kernel))) (da_cons (d_isx (T := isT xnames xbase "BadKey") (dv 0) rfl hb_isinstance rfl (hX.m _ (by decide +kernel)) (hX.is _ (by decide +kernel))) (da_cons (d_isx (T := isT xnames xbase "BadLanguage") (dv 0) rfl hb_isinstance rfl (hX.m _ (by decide +kernel)) (hX.is _ (by decide +kernel))) da_nil)))))))
    (dss_cons (ds_set (i := 1) sc_law_k00_flags.nd rfl (by first | exact Or.inl rfl | exact Or.inr rfl) (d_op op_addAny sv_add (dv 1) (d_lst (da_cons (d_isx (T := isT xnames xbase "BadLaw") (dv 0) rfl hb_isinstance rfl (hX.m _ (by decide +kernel)) (hX.is _ (by decide +kernel))) (da_cons (d_isx (T := isT xnames xbase "BadName") (dv 0) rfl hb_isinstance rfl (hX.m _ (by decide +kernel)) (hX.is _ (by decide +kernel))) (da_cons (d_isx (T := isT xnames xbase "BadNotation") (dv 0) rfl hb_isinstance rfl (hX.m _ (by decide +kernel)) (hX.is _ (by decide +kernel))) (da_cons (d_isx (T := isT xnames xbase "BadNumber") (dv 0) rfl hb_isinstance rfl (hX.m _ (by decide +kernel)) (hX.is _ (by decide +kernel))) da_nil)))))))
    (dss_cons (ds_set (i := 1) sc_law_k00_flags.nd rfl (by first | exact Or.inl rfl | exact Or.inr rfl) (d_op op_addAny sv_add (dv 1) (d_lst (da_cons (d_isx (T := isT xnames xbase "BadPattern") (dv 0) rfl hb_isinstance rfl (hX.m _ (by decide +kernel)) (hX.is _ (by decide +kernel))) (da_cons (d_isx (T := isT xnames xbase "BadPlace") (dv 0) rfl hb_isinstance rfl (hX.m _ (by decide +kernel)) (hX.is _ (by decide +kernel))) (da_cons (d_isx (T := isT xnames xbase "BadProgram") (dv 0) rfl hb_isinstance rfl (hX.m _ (by decide +kernel)) (hX.is _ (by decide +kernel))) (da_cons (d_isx (T := isT xnames xbase "BadRoad") (dv 0) rfl hb_isinstance rfl (hX.m _ (by decide +kernel)) (hX.is _ (by decide +kernel))) da_nil)))))))
    (dss_cons (ds_set (i := 1) sc_law_k00_flags.nd rfl (by first | exact Or.inl rfl | exact Or.inr rfl) (d_op op_addAny sv_add (dv 1) (d_lst (da_cons (d_isx (T := isT xnames xbase "BadRow") (dv 0) rfl hb_isinstance rfl (hX.m _ (by decide +kernel)) (hX.is _ (by decide +kernel))) (da_cons (d_isx (T := isT xnames xbase "BadRule") (dv 0) rfl hb_isinstance rfl (hX.m _ (by decide +kernel)) (hX.is _ (by decide +kernel))) (da_cons (d_isx (T := isT xnames xbase "BadRuleWord") (dv 0) rfl hb_isinstance rfl (hX.m _ (by decide +kernel)) (hX.is _ (by decide +kernel))) (da_cons (d_isx (T := isT xnames xbase "BadScheme") (dv 0) rfl hb_isinstance rfl (hX.m _ (by decide +kernel)) (hX.is _ (by decide +kernel))) da_nil)))))))
    (dss_cons (ds_set (i := 1) sc_law_k00_flags.nd rfl (by first | exact Or.inl rfl | exact Or.inr rfl) (d_op op_addAny sv_add (dv 1) (d_lst (da_cons (d_isx (T := isT xnames xbase "BadState") (dv 0) rfl hb_isinstance rfl (hX.m _ (by decide +kernel)) (hX.is _ (by decide +kernel))) (da_cons (d_isx (T := isT xnames xbase "BadStep") (dv 0) rfl hb_isinstance rfl (hX.m _ (by decide +kernel)) (hX.is _ (by decide +kernel))) (da_cons (d_isx (T := isT xnames xbase "BadSum") (dv 0) rfl hb_isinstance rfl (hX.m _ (by decide +kernel)) (hX.is _ (by decide +kernel))) (da_cons (d_isx (T := isT xnames xbase "BadTerm") (dv 0) rfl hb_isinstance rfl (hX.m _ (by decide +kernel)) (hX.is _ (by decide +kernel))) da_nil)))))))
    (dss_cons (ds_set (i := 1) sc_law_k00_flags.nd rfl (by first | exact Or.inl rfl | exact Or.inr rfl) (d_op op_addAny sv_add (dv 1) (d_lst (da_cons (d_isx (T := isT xnames xbase "BadText") (dv 0) rfl hb_isinstance rfl (hX.m _ (by decide +kernel)) (hX.is _ (by decide +kernel))) (da_cons (d_isx (T := isT xnames xbase "BadThing") (dv 0) rfl hb_isinstance rfl (hX.m _ (by decide +kernel)) (hX.is _ (by decide +kernel))) (da_cons (d_isx (T := isT xnames xbase "BadTrail") (dv 0) rfl hb_isinstance rfl (hX.m _ (by decide +kernel)) (hX.is _ (by decide +kernel))) (da_cons (d_isx (T := isT xnames xbase "BadType") (dv 0) rfl hb_isinstance rfl (hX.m _ (by decide +kernel)) (hX.is _ (by decide +kernel))) da_nil)))))))
    (dss_cons (ds_set (i := 1) sc_law_k00_flags.nd rfl (by first | exact Or.inl rfl | exact Or.inr rfl) (d_op op_addAny sv_add (dv 1) (d_lst (da_cons (d_isx (T := isT xnames xbase "BrokenLead") (dv 0) rfl hb_isinstance rfl (hX.m _ (by decide +kernel)) (hX.is _ (by decide +kernel))) (da_cons (d_isx (T := isT xnames xbase "CannotDo") (dv 0) rfl hb_isinstance rfl (hX.m _ (by decide +kernel)) (hX.is _ (by decide +kernel))) (da_cons (d_isx (T := isT xnames xbase "Clash") (dv 0) rfl hb_isinstance rfl (hX.m _ (by decide +kernel)) (hX.is _ (by decide +kernel))) (da_cons (d_isx (T := isT xnames xbase "NoName") (dv 0) rfl hb_isinstance rfl (hX.m _ (by decide +kernel)) (hX.is _ (by decide +kernel))) da_nil)))))))
    (dss_cons (ds_set (i := 1) sc_law_k00_flags.nd rfl (by first | exact Or.inl rfl | exact Or.inr rfl) (d_op op_addAny sv_add (dv 1) (d_lst (da_cons (d_isx (T := isT xnames xbase "NoStep") (dv 0) rfl hb_isinstance rfl (hX.m _ (by decide +kernel)) (hX.is _ (by decide +kernel))) (da_cons (d_isx (T := isT xnames xbase "NoSuch") (dv 0) rfl hb_isinstance rfl (hX.m _ (by decide +kernel)) (hX.is _ (by decide +kernel))) (da_cons (d_isx (T := isT xnames xbase "NotSayable") (dv 0) rfl hb_isinstance rfl (hX.m _ (by decide +kernel)) (hX.is _ (by decide +kernel))) (da_cons (d_isx (T := isT xnames xbase "NothingDone") (dv 0) rfl hb_isinstance rfl (hX.m _ (by decide +kernel)) (hX.is _ (by decide +kernel))) da_nil)))))))
    (dss_cons (ds_set (i := 1) sc_law_k00_flags.nd rfl (by first | exact Or.inl rfl | exact Or.inr rfl) (d_op op_addAny sv_add (dv 1) (d_lst (da_cons (d_isx (T := isT xnames xbase "NothingUndone") (dv 0) rfl hb_isinstance rfl (hX.m _ (by decide +kernel)) (hX.is _ (by decide +kernel))) (da_cons (d_isx (T := isT xnames xbase "TooLarge") (dv 0) rfl hb_isinstance rfl (hX.m _ (by decide +kernel)) (hX.is _ (by decide +kernel))) (da_cons (d_isx (T := isT xnames xbase "TooLong") (dv 0) rfl hb_isinstance rfl (hX.m _ (by decide +kernel)) (hX.is _ (by decide +kernel))) (da_cons (d_isx (T := isT xnames xbase "TooMany") (dv 0) rfl hb_isinstance rfl (hX.m _ (by decide +kernel)) (hX.is _ (by decide +kernel))) da_nil)))))))
    (dss_cons (ds_set (i := 1) sc_law_k00_flags.nd rfl (by first | exact Or.inl rfl | exact Or.inr rfl) (d_op op_addAny sv_add (dv 1) (d_lst (da_cons (d_isx (T := isT xnames xbase "TooWide") (dv 0) rfl hb_isinstance rfl (hX.m _ (by decide +kernel)) (hX.is _ (by decide +kernel))) (da_cons (d_isx (T := isT xnames xbase "TreeTooWide") (dv 0) rfl hb_isinstance rfl (hX.m _ (by decide +kernel)) (hX.is _ (by decide +kernel))) (da_cons (d_isx (T := isT xnames xbase "Uneditable") (dv 0) rfl hb_isinstance rfl (hX.m _ (by decide +kernel)) (hX.is _ (by decide +kernel))) (da_cons (d_isx (T := isT xnames xbase "Unjoined") (dv 0) rfl hb_isinstance rfl (hX.m _ (by decide +kernel)) (hX.is _ (by decide +kernel))) da_nil)))))))
    (dss_one (ds_ret (d_op op_addAny sv_add (dv 1) (d_lst (da_cons (d_isx (T := isT xnames xbase "Unlinked") (dv 0) rfl hb_isinstance rfl (hX.m _ (by decide +kernel)) (hX.is _ (by decide +kernel))) (da_cons (d_isx (T := isT xnames xbase "Untyped") (dv 0) rfl hb_isinstance rfl (hX.m _ (by decide +kernel)) (hX.is _ (by decide +kernel))) (da_cons (d_isx (T := isT xnames xbase "Wide") (dv 0) rfl hb_isinstance rfl (hX.m _ (by decide +kernel)) (hX.is _ (by decide +kernel))) da_nil))))))))))))))))))), by first | (simp; done) | decide | omega | (simp only [Nat.zero_add, Nat.add_zero]; omega), fun ds Pd R h0 => ?_⟩
  obtain ⟨x_error, rfl, h⟩ := sg1_inv h0
  clear h0

  obtain ⟨c, fs, rfl, hc, h⟩ := h
  refine fl_first hc ?_
  iterate 11 refine fl_step hc (by simp only [List.length_append, List.length_cons, List.length_nil]; omega) ?_
  have sl : 1000 ≤ sizeLine := by decide
  refine ⟨_, rfl, ?_⟩
  refine lst_isx (cons_isx hc (cons_isx hc (cons_isx hc ?_)))
  refine ⟨by show 3 ≤ sizeLine; decide, ?_, ?_⟩
  · simp only [List.length_append, List.length_cons, List.length_nil]; omega
  · show Pd _
    rw [flags_eq] at h
    have e : xord.map (isq c) = _ := xord_map c
    rw [e] at h
    exact h
end
end K00
set_option Elab.async false
set_option linter.all false
set_option maxRecDepth 100000
set_option maxHeartbeats 8000000
namespace K00
open PySem L2 PL PX
section
variable {ρ : Rho} {wr : WA} {P : List D → Prop} {R : Xr} {c f f1 f2 : Str} {t n o d e u : D} {k i j : Nat} {ix : List Nat} {S : Str → Bool}
theorem nil_ok (h : P []) : wNil ρ P R := h
theorem cons_exc (h7 : ρ[7]? = some (.val t)) (h : wr ρ (fun ds => P (.exc c [] :: ds)) R) : wCons (wExc c (wVar 7)) wr ρ P R := ⟨t, h7, h⟩
theorem cons_sup1 (h8 : ρ[8]? = some (.val n)) (hk : 1 = k) (h : wr ρ (fun ds => P (.exc c [(f, n)] :: ds)) R) : wCons (wSup c [f] k [0] (wCons (wVar 8) wNil)) wr ρ P R := ⟨n, h8, hk, h⟩
theorem cons_sup2 (h8 : ρ[8]? = some (.val n)) (h9 : ρ[9]? = some (.val o)) (hk : 2 = k) (h : wr ρ (fun ds => P (.exc c [(f2, o), (f1, n)] :: ds)) R) : wCons (wSup c [f1, f2] k [0, 1] (wCons (wVar 8) (wCons (wVar 9) wNil))) wr ρ P R := ⟨n, h8, o, h9, hk, h⟩
theorem cons_fld (h8 : ρ[8]? = some (.val n)) (hk : 1 = k) (hS : S c = true) (h : wr ρ (fun ds => P (n :: ds)) R) : wCons (wFld S f (wSup c [f] k [0] (wCons (wVar 8) wNil))) wr ρ P R :=
  ⟨n, h8, hk, c, _, n, rfl, hS, by show List.lookup f [(f, n)] = some n; simp [List.lookup], h⟩
theorem cons_fld2 (hi : ρ[i]? = some (.val d)) (hj : ρ[j]? = some (.val e)) (hk : 2 = k) (hS : S c = true) (hl : (([f1, f2] : List Str).zip (pick ix [d, e])).reverse.lookup f = some u) (h : wr ρ (fun ds => P (u :: ds)) R) :
    wCons (wFld S f (wSup c [f1, f2] k ix (wCons (wVar i) (wCons (wVar j) wNil)))) wr ρ P R := ⟨d, hi, e, hj, hk, c, _, u, rfl, hS, hl, h⟩
theorem cons_tup {wa : WA} (h : wa ρ (fun xs => xs.length ≤ sizeLine ∧ wr ρ (fun ds => P (.tup xs :: ds)) R) R) : wCons (wTup wa) wr ρ P R := h
theorem mk_first {s : Nat} {wa : WA} {w2 : WS} {B : WEnds} (h : wa ρ (fun ds => ds.length ≤ sizeLine ∧ w2 B (ρ.set s (.val (.lst ds)))) (B.ex ρ)) : wSeq (wSet s (wLst wa)) w2 B ρ := h
theorem mk_step {s : Nat} {wa : WA} {w2 : WS} {B : WEnds} {xs : List D} (h3 : ρ[s]? = some (.val (.lst xs))) (h : wa ρ (fun ds => ds.length ≤ sizeLine ∧ xs.length + ds.length ≤ sizeLine ∧ w2 B (ρ.set s (.val (.lst (xs ++ ds))))) (B.ex ρ)) :
    wSeq (wSet s (wOp wAdd (wVar s) (wLst wa))) w2 B ρ := ⟨.lst xs, h3, h⟩
end
/-- the errors made, in order -/
abbrev PR : Type := List (Str × List (Str × D))
def mkd (n o : D) : PR := ([("BadCode", []), ("BadCodeText", [("number", n)]), ("BadCount", []), ("BadDeed", []), ("BadDefinition", [("number", n)]), ("BadDefinitions", [])] : PR) ++ ([("BadEdit", []), ("BadFilling", []), ("BadGiven", []), ("BadHouse", []), ("BadKey", []), ("BadLanguage", [])] : PR) ++ ([("BadLaw", []), ("BadName", []), ("BadNotation", [("place", o), ("word", n)]), ("BadNumber", []), ("BadPattern", []), ("BadPlace", [])] : PR) ++ ([("BadProgram", []), ("BadRoad", []), ("BadRow", []), ("BadRule", [("name", n)]), ("BadRuleWord", []), ("BadScheme", [])] : PR) ++ ([("BadState", []), ("BadStep", []), ("BadSum", []), ("BadTerm", []), ("BadText", [("at", n)]), ("BadThing", [])] : PR) ++ ([("BadTrail", [("number", n)]), ("BadType", []), ("BrokenLead", [("number", n)]), ("CannotDo", [("word", n)]), ("Clash", [("name", o), ("word", n)]), ("NoName", [("at", o), ("name", n)])] : PR) ++ ([("NoStep", [("word", n)]), ("NoSuch", [("name", n)]), ("NotSayable", []), ("NothingDone", []), ("NothingUndone", []), ("TooLarge", [])] : PR) ++ ([("TooLong", []), ("TooMany", [("many", n)]), ("TooWide", [("word", n)]), ("TreeTooWide", [("name", n)]), ("Uneditable", []), ("Unjoined", [("name", o), ("kind", n)])] : PR) ++ ([("Unlinked", [("names", n)]), ("Untyped", [("name", n)]), ("Wide", [("name", n)])] : PR)
def made (n o : D) : List D := (mkd n o).map fun q => .exc q.1 q.2
def chk (c : Str) (k : Nat) : Bool := match pdOf (.lst (flags c)), pdOf (.lst ((List.range 51).map fun i => D.bl (decide (i = k)))) with
  | some a, some b => SeqAt.shaped a && (SeqAt.shaped b && PyData.eqv a b)
  | _, _ => false
theorem chk_all : ∀ k, k < 51 → chk (xord.getD k "") k = true := by decide +kernel
theorem mkd_fst (n o : D) : (mkd n o).map (·.1) = xord := by rw [xord_eq]; rfl
theorem mkd_len (n o : D) : (mkd n o).length = 51 := rfl
theorem made_at {n o : D} {k : Nat} (hk : k < 51) : ∃ fs, (made n o)[k]? = some (.exc (xord.getD k "") fs) := by
  have h1 : k < (mkd n o).length := by rw [mkd_len]; exact hk
  have e : xord.getD k "" = ((mkd n o)[k]).1 := by
    rw [← mkd_fst n o, List.getD_eq_getElem?_getD, List.getElem?_map, List.getElem?_eq_getElem h1]; rfl
  refine ⟨((mkd n o)[k]).2, ?_⟩
  unfold made
  rw [List.getElem?_map, List.getElem?_eq_getElem h1, e]; rfl
theorem ne_lists {xs ys : List D} {P : D → Prop} (hy : ys ≠ []) (h : (match pdOf (.lst xs), pdOf (.lst ys) with | some a, some b => SeqAt.shaped a && (SeqAt.shaped b && PyData.eqv a b) | _, _ => false) = true) (hP : P (.bl false)) : wEqs true (.lst xs) (.lst ys) P := by
  split at h
  · rename_i a b e1 e2
    obtain ⟨h1, h⟩ := ba h
    obtain ⟨h2, h3⟩ := ba h
    cases ys with
    | nil => exact absurd rfl hy
    | cons y ys => exact ⟨a, b, e1, e2, h1, h2, by rw [h3]; exact hP⟩
  · cases h
theorem rep_ne {xs ys : List D} {P : D → Prop} (h : xs = ys) (hP : P (.bl false)) : wEqs true (.str (shownD (.lst xs))) (.str (shownD (.lst ys))) P := by
  subst h
  show P (.bl (neg true (decide (_ = _))))
  rw [decide_eq_true rfl]; exact hP
theorem base_flags : (flags "RulesError").all flatD = true ∧ ((flags "RulesError").any fun y => eqF y (.bl true)) = false ∧ xnames.contains "RulesError" = true := by decide +kernel
theorem names_in : ∀ k, k < 51 → xnames.contains (xord.getD k "") = true ∧ (decide (xord.getD k "" = ("RulesError" : Str)) || decide (("RulesError" : Str) = xbase)) = true := by decide +kernel
section
variable {P : Program} {w : World} {K : PySem.W.Frag} {mg : Str → Option Value} {base : Heap} {a : Addr} {fd : FuncData}
end
end K00
set_option Elab.async false
set_option linter.all false
set_option maxRecDepth 100000
set_option maxHeartbeats 8000000
namespace K00
open PySem L2 PL PX
theorem for_any {L : Nat} {wi : WA} {wg : WG} {body : WS} {B : WEnds} {ρ : Rho} (h : ∀ bd : WS, bd = body → wi ρ (fun xs => xs.length ≤ L ∧ wLoop wg bd xs B ρ) (B.ex ρ)) : wFor L wi wg body B ρ := h body rfl
theorem tgt2 {i j : Nat} {d e : D} {ρ : Rho} {k : Rho → Prop} (h : k ((ρ.set i (.val d)).set j (.val e))) : wgTup 2 (wgCons (wgName i) (wgCons (wgName j) wgNil)) (.tup [d, e]) ρ k := ⟨[d, e], rfl, rfl, d, [e], rfl, e, [], rfl, rfl, h⟩
theorem for0_any {wi : WA} {wg : WG} {body : WS} {B : WEnds} {ρ : Rho} (h : ∀ bd : WS, bd = body → wi ρ (fun xs => wLoop wg bd xs B ρ) (B.ex ρ)) : wFor0 wi wg body B ρ := h body rfl
section
variable {P : Program} {w : World} {K : PySem.W.Frag} {mg : Str → Option Value} {base : Heap} {a : Addr} {fd : FuncData}
theorem ok_law {a_begun : Addr} {fdb : FuncData} (FF : Fun K "law" "law" s_law a fd) (mB : mg "_law_begun" = some (.ref a_begun)) (GB : FnOk P w K mg base CX0 1 a_begun fdb ["script"] (spBegun K)) (kB : PySem.W.keepIn K (.ref a_begun) = true) (bB : Binds K fdb ["script"] []) (hb_range : mg "range" = none) (hb_enumerate : mg "enumerate" = none) (hX : ExF P K mg xd) (hb_min : mg "min" = none) {a_law_pick : Addr} (c_law_pick : Cal P w K mg base (3) "_law_pick" a_law_pick ["state", "several"] (1) (g_pick)) {a_law_draw : Addr} (c_law_draw : Cal P w K mg base (2) "_law_draw" a_law_draw ["state", "size_here"] (1) (gDraw)) (hb_isinstance : mg "isinstance" = none) (hb_repr : mg "repr" = none) (hb_len : mg "len" = none) {a_law_k00_flags : Addr} (c_law_k00_flags : Cal P w K mg base (1) "_law_k00_flags" a_law_k00_flags ["error"] (0) (g_flags)) (hb_ValueError : mg "ValueError" = none)  : FnG P w K mg base 5 a fd ["script"] (spLaw K) := by
  refine fnG_body FF sc_law (fun vs H Q E h => by obtain ⟨_, _, rfl, _⟩ := h; rfl) (fun cdv A outer s H vs Q E hr h => ?_)
  obtain ⟨sa, ns, rfl, hS, hl, q⟩ := h
  refine ⟨_, pss_cons (ps_set (i := 1) sc_law.nd rfl (.inl rfl) (pe_call GB (hr.toRoom.mono (by omega)) (by rfl) mB kB bB .nil pass0 (pa_cons (pv 0) pa_nil))) (pss_ex fun F => (dss_cons (ds_for (100000) PassesOwn.never rfl (di_range1 rfl hb_range (da_cons (d_op op_addAny sv_add d_int (d_callB (call_min2 rfl) sv_min2 rfl hb_min (by decide +kernel) (da_cons (d_callB call_lenAny sv_len rfl hb_len (by decide +kernel) (da_cons (dv 0) da_nil)) (da_cons d_int da_nil)))) da_nil)) (dg_name (i := 2) sc_law.nd rfl (by first | exact Or.inl rfl | exact Or.inr rfl))
    (dss_cons (ds_par3 (i := 7) (j := 8) (l := 9) rfl sc_law.nd rfl rfl rfl (by decide) (by decide) (by decide) rfl rfl rfl (da_cons (d_call c_law_pick (hr.mono (by omega)) rfl (da_cons (dv 1) (da_cons (d_lst (da_cons d_str (da_cons d_str (da_cons d_str da_nil)))) da_nil))) (da_cons (d_call c_law_draw (hr.mono (by omega)) rfl (da_cons (dv 1) (da_cons d_int da_nil))) (da_cons (d_call c_law_draw (hr.mono (by omega)) rfl (da_cons (dv 1) (da_cons d_int da_nil))) da_nil))) (by rfl))
    (dss_cons (ds_set (i := 3) sc_law.nd rfl (by first | exact Or.inl rfl | exact Or.inr rfl) (d_lst (da_cons (d_exc (hX.pl _ (by decide +kernel)) (hX.kp _ (by decide +kernel)) rfl (hX.m _ (by decide +kernel)) (dv 7)) (da_cons (d_sup (sk_BadCodeText (hX.su 0 sd_BadCodeText rfl) hX.top) (k := 0) (hr.toRoom.mono (by omega)) (hX.kp _ (by decide +kernel)) rfl (hX.m _ (by decide +kernel)) (da_cons (dv 8) da_nil)) (da_cons (d_exc (hX.pl _ (by decide +kernel)) (hX.kp _ (by decide +kernel)) rfl (hX.m _ (by decide +kernel)) (dv 7)) (da_cons (d_exc (hX.pl _ (by decide +kernel)) (hX.kp _ (by decide +kernel)) rfl (hX.m _ (by decide +kernel)) (dv 7)) (da_cons (d_sup (sk_BadDefinition (hX.su 1 sd_BadDefinition rfl) hX.top) (k := 0) (hr.toRoom.mono (by omega)) (hX.kp _ (by decide +kernel)) rfl (hX.m _ (by decide +kernel)) (da_cons (dv 8) da_nil)) (da_cons (d_exc (hX.pl _ (by decide +kernel)) (hX.kp _ (by decide +kernel)) rfl (hX.m _ (by decide +kernel)) (dv 7)) da_nil))))))))
    (dss_cons (ds_set (i := 3) sc_law.nd rfl (by first | exact Or.inl rfl | exact Or.inr rfl) (d_op op_addAny sv_add (dv 3) (d_lst (da_cons (d_exc (hX.pl _ (by decide +kernel)) (hX.kp _ (by decide +kernel)) rfl (hX.m _ (by decide +kernel)) (dv 7)) (da_cons (d_exc (hX.pl _ (by decide +kernel)) (hX.kp _ (by decide +kernel)) rfl (hX.m _ (by decide +kernel)) (dv 7)) (da_cons (d_exc (hX.pl _ (by decide +kernel)) (hX.kp _ (by decide +kernel)) rfl (hX.m _ (by decide +kernel)) (dv 7)) (da_cons (d_exc (hX.pl _ (by decide +kernel)) (hX.kp _ (by decide +kernel)) rfl (hX.m _ (by decide +kernel)) (dv 7)) (da_cons (d_exc (hX.pl _ (by decide +kernel)) (hX.kp _ (by decide +kernel)) rfl (hX.m _ (by decide +kernel)) (dv 7)) (da_cons (d_exc (hX.pl _ (by decide +kernel)) (hX.kp _ (by decide +kernel)) rfl (hX.m _ (by decide +kernel)) (dv 7)) da_nil)))))))))
    (dss_cons (ds_set (i := 3) sc_law.nd rfl (by first | exact Or.inl rfl | exact Or.inr rfl) (d_op op_addAny sv_add (dv 3) (d_lst (da_cons (d_exc (hX.pl _ (by decide +kernel)) (hX.kp _ (by decide +kernel)) rfl (hX.m _ (by decide +kernel)) (dv 7)) (da_cons (d_exc (hX.pl _ (by decide +kernel)) (hX.kp _ (by decide +kernel)) rfl (hX.m _ (by decide +kernel)) (dv 7)) (da_cons (d_sup (sk_BadNotation (hX.su 2 sd_BadNotation rfl) hX.top) (k := 0) (hr.toRoom.mono (by omega)) (hX.kp _ (by decide +kernel)) rfl (hX.m _ (by decide +kernel)) (da_cons (dv 8) (da_cons (dv 9) da_nil))) (da_cons (d_exc (hX.pl _ (by decide +kernel)) (hX.kp _ (by decide +kernel)) rfl (hX.m _ (by decide +kernel)) (dv 7)) (da_cons (d_exc (hX.pl _ (by decide +kernel)) (hX.kp _ (by decide +kernel)) rfl (hX.m _ (by decide +kernel)) (dv 7)) (da_cons (d_exc (hX.pl _ (by decide +kernel)) (hX.kp _ (by decide +kernel)) rfl (hX.m _ (by decide +kernel)) (dv 7)) da_nil)))))))))
    (dss_cons (ds_set (i := 3) sc_law.nd rfl (by first | exact Or.inl rfl | exact Or.inr rfl) (d_op op_addAny sv_add (dv 3) (d_lst (da_cons (d_exc (hX.pl _ (by decide +kernel)) (hX.kp _ (by decide +kernel)) rfl (hX.m _ (by decide +kernel)) (dv 7)) (da_cons (d_exc (hX.pl _ (by decide +kernel)) (hX.kp _ (by decide +kernel)) rfl (hX.m _ (by decide +kernel)) (dv 7)) (da_cons (d_exc (hX.pl _ (by decide +kernel)) (hX.kp _ (by decide +kernel)) rfl (hX.m _ (by decide +kernel)) (dv 7)) (da_cons (d_sup (sk_BadRule (hX.su 3 sd_BadRule rfl) hX.top) (k := 0) (hr.toRoom.mono (by omega)) (hX.kp _ (by decide +kernel)) rfl (hX.m _ (by decide +kernel)) (da_cons (dv 8) da_nil)) (da_cons (d_exc (hX.pl _ (by decide +kernel)) (hX.kp _ (by decide +kernel)) rfl (hX.m _ (by decide +kernel)) (dv 7)) (da_cons (d_exc (hX.pl _ (by decide +kernel)) (hX.kp _ (by decide +kernel)) rfl (hX.m _ (by decide +kernel)) (dv 7)) da_nil)))))))))
    (dss_cons (ds_set (i := 3) sc_law.nd rfl (by first | exact Or.inl rfl | exact Or.inr rfl) (d_op op_addAny sv_add (dv 3) (d_lst (da_cons (d_exc (hX.pl _ (by decide +kernel)) (hX.kp _ (by decide +kernel)) rfl (hX.m _ (by decide +kernel)) (dv 7)) (da_cons (d_exc (hX.pl _ (by decide +kernel)) (hX.kp _ (by decide +kernel)) rfl (hX.m _ (by decide +kernel)) (dv 7)) (da_cons (d_exc (hX.pl _ (by decide +kernel)) (hX.kp _ (by decide +kernel)) rfl (hX.m _ (by decide +kernel)) (dv 7)) (da_cons (d_exc (hX.pl _ (by decide +kernel)) (hX.kp _ (by decide +kernel)) rfl (hX.m _ (by decide +kernel)) (dv 7)) (da_cons (d_sup (sk_BadText (hX.su 4 sd_BadText rfl) hX.top) (k := 0) (hr.toRoom.mono (by omega)) (hX.kp _ (by decide +kernel)) rfl (hX.m _ (by decide +kernel)) (da_cons (dv 8) da_nil)) (da_cons (d_exc (hX.pl _ (by decide +kernel)) (hX.kp _ (by decide +kernel)) rfl (hX.m _ (by decide +kernel)) (dv 7)) da_nil)))))))))
    (dss_cons (ds_set (i := 3) sc_law.nd rfl (by first | exact Or.inl rfl | exact Or.inr rfl) (d_op op_addAny sv_add (dv 3) (d_lst (da_cons (d_sup (sk_BadTrail (hX.su 5 sd_BadTrail rfl) hX.top) (k := 0) (hr.toRoom.mono (by omega)) (hX.kp _ (by decide +kernel)) rfl (hX.m _ (by decide +kernel)) (da_cons (dv 8) da_nil)) (da_cons (d_exc (hX.pl _ (by decide +kernel)) (hX.kp _ (by decide +kernel)) rfl (hX.m _ (by decide +kernel)) (dv 7)) (da_cons (d_sup (sk_BrokenLead (hX.su 6 sd_BrokenLead rfl) hX.top) (k := 0) (hr.toRoom.mono (by omega)) (hX.kp _ (by decide +kernel)) rfl (hX.m _ (by decide +kernel)) (da_cons (dv 8) da_nil)) (da_cons (d_sup (sk_CannotDo (hX.su 7 sd_CannotDo rfl) hX.top) (k := 0) (hr.toRoom.mono (by omega)) (hX.kp _ (by decide +kernel)) rfl (hX.m _ (by decide +kernel)) (da_cons (dv 8) da_nil)) (da_cons (d_sup (sk_Clash (hX.su 8 sd_Clash rfl) hX.top) (k := 0) (hr.toRoom.mono (by omega)) (hX.kp _ (by decide +kernel)) rfl (hX.m _ (by decide +kernel)) (da_cons (dv 8) (da_cons (dv 9) da_nil))) (da_cons (d_sup (sk_NoName (hX.su 9 sd_NoName rfl) hX.top) (k := 0) (hr.toRoom.mono (by omega)) (hX.kp _ (by decide +kernel)) rfl (hX.m _ (by decide +kernel)) (da_cons (dv 8) (da_cons (dv 9) da_nil))) da_nil)))))))))
    (dss_cons (ds_set (i := 3) sc_law.nd rfl (by first | exact Or.inl rfl | exact Or.inr rfl) (d_op op_addAny sv_add (dv 3) (d_lst (da_cons (d_sup (sk_NoStep (hX.su 10 sd_NoStep rfl) hX.top) (k := 0) (hr.toRoom.mono (by omega)) (hX.kp _ (by decide +kernel)) rfl (hX.m _ (by decide +kernel)) (da_cons (dv 8) da_nil)) (da_cons (d_sup (sk_NoSuch (hX.su 11 sd_NoSuch rfl) hX.top) (k := 0) (hr.toRoom.mono (by omega)) (hX.kp _ (by decide +kernel)) rfl (hX.m _ (by decide +kernel)) (da_cons (dv 8) da_nil)) (da_cons (d_exc (hX.pl _ (by decide +kernel)) (hX.kp _ (by decide +kernel)) rfl (hX.m _ (by decide +kernel)) (dv 7)) (da_cons (d_exc (hX.pl _ (by decide +kernel)) (hX.kp _ (by decide +kernel)) rfl (hX.m _ (by decide +kernel)) (dv 7)) (da_cons (d_exc (hX.pl _ (by decide +kernel)) (hX.kp _ (by decide +kernel)) rfl (hX.m _ (by decide +kernel)) (dv 7)) (da_cons (d_exc (hX.pl _ (by decide +kernel)) (hX.kp _ (by decide +kernel)) rfl (hX.m _ (by decide +kernel)) (dv 7)) da_nil)))))))))
    (dss_cons (ds_set (i := 3) sc_law.nd rfl (by first | exact Or.inl rfl | exact Or.inr rfl) (d_op op_addAny sv_add (dv 3) (d_lst (da_cons (d_exc (hX.pl _ (by decide +kernel)) (hX.kp _ (by decide +kernel)) rfl (hX.m _ (by decide +kernel)) (dv 7)) (da_cons (d_sup (sk_TooMany (hX.su 12 sd_TooMany rfl) hX.top) (k := 0) (hr.toRoom.mono (by omega)) (hX.kp _ (by decide +kernel)) rfl (hX.m _ (by decide +kernel)) (da_cons (dv 8) da_nil)) (da_cons (d_sup (sk_TooWide (hX.su 13 sd_TooWide rfl) hX.top) (k := 0) (hr.toRoom.mono (by omega)) (hX.kp _ (by decide +kernel)) rfl (hX.m _ (by decide +kernel)) (da_cons (dv 8) da_nil)) (da_cons (d_sup (sk_TreeTooWide (hX.su 14 sd_TreeTooWide rfl) hX.top) (k := 0) (hr.toRoom.mono (by omega)) (hX.kp _ (by decide +kernel)) rfl (hX.m _ (by decide +kernel)) (da_cons (dv 8) da_nil)) (da_cons (d_exc (hX.pl _ (by decide +kernel)) (hX.kp _ (by decide +kernel)) rfl (hX.m _ (by decide +kernel)) (dv 7)) (da_cons (d_sup (sk_Unjoined (hX.su 15 sd_Unjoined rfl) hX.top) (k := 0) (hr.toRoom.mono (by omega)) (hX.kp _ (by decide +kernel)) rfl (hX.m _ (by decide +kernel)) (da_cons (dv 8) (da_cons (dv 9) da_nil))) da_nil)))))))))
    (dss_cons (ds_set (i := 3) sc_law.nd rfl (by first | exact Or.inl rfl | exact Or.inr rfl) (d_op op_addAny sv_add (dv 3) (d_lst (da_cons (d_sup (sk_Unlinked (hX.su 16 sd_Unlinked rfl) hX.top) (k := 0) (hr.toRoom.mono (by omega)) (hX.kp _ (by decide +kernel)) rfl (hX.m _ (by decide +kernel)) (da_cons (dv 8) da_nil)) (da_cons (d_sup (sk_Untyped (hX.su 17 sd_Untyped rfl) hX.top) (k := 0) (hr.toRoom.mono (by omega)) (hX.kp _ (by decide +kernel)) rfl (hX.m _ (by decide +kernel)) (da_cons (dv 8) da_nil)) (da_cons (d_sup (sk_Wide (hX.su 18 sd_Wide rfl) hX.top) (k := 0) (hr.toRoom.mono (by omega)) (hX.kp _ (by decide +kernel)) rfl (hX.m _ (by decide +kernel)) (da_cons (dv 8) da_nil)) da_nil))))))
    (dss_cons (ds_for0 PassesOwn.never rfl (di_enum rfl hb_enumerate (da_cons (dv 3) da_nil)) (dg_tup (n := 2) rfl (dgs_cons (dg_name (i := 10) sc_law.nd rfl (by first | exact Or.inl rfl | exact Or.inr rfl)) (dgs_cons (dg_name (i := 11) sc_law.nd rfl (by first | exact Or.inl rfl | exact Or.inr rfl)) dgs_nil)))
    (dss_cons (ds_if (dt_cmp (op_neAny hr.units) sv_ne (d_call c_law_k00_flags (hr.mono (by omega)) rfl (da_cons (dv 11) da_nil)) (d_lc (own := [("place", 12)]) rfl sc_law.nd (di_range1 rfl hb_range (da_cons (d_callB call_lenAny sv_len rfl hb_len (by decide +kernel) (da_cons (dv 3) da_nil)) da_nil)) (blkOk_by (own := [("place", 12)]) (N := N_law) (sc := defScope s_law) (by decide +kernel)) (by decide) (fun _ _ _ _ _ _ => (dg_name (i := 12) sc_law.nd rfl (by first | exact Or.inl rfl | exact Or.inr rfl))) (fun _ _ _ _ _ _ => dts_nil) (fun _ _ _ _ _ _ => (d_cmp (op_eqAny hr.units) sv_eq (dv 12) (dv 10) (nomark _)))) (nomark _))
    (dss_one (ds_ret d_bl))
    dss_nil)
    (dss_one (ds_if (dt_w (dt_or (dt_not (dt_tru (d_isx (T := isT xnames xbase "RulesError") (dv 11) rfl hb_isinstance rfl (hX.m _ (by decide +kernel)) (hX.is _ (by decide +kernel))))) (dt_or1 (dt_not (dt_tru (d_isxT (n := "ValueError") (T := isT xnames xbase xbase) (dv 11) rfl hb_isinstance rfl hb_ValueError (by decide +kernel) hX.isV))))))
    (dss_one (ds_ret d_bl))
    dss_nil))))
    (dss_cons (ds_set (i := 4) sc_law.nd rfl (by first | exact Or.inl rfl | exact Or.inr rfl) (d_exc (hX.pl _ (by decide +kernel)) (hX.kp _ (by decide +kernel)) rfl (hX.m _ (by decide +kernel)) (dv 7)))
    (dss_cons (ds_if (dt_w (dt_or (dt_cmp op_inAny (sv_in false) d_bl (d_call c_law_k00_flags (hr.mono (by omega)) rfl (da_cons (dv 4) da_nil)) (by rfl)) (dt_or (dt_not (dt_tru (d_isxT (n := "ValueError") (T := isT xnames xbase xbase) (dv 4) rfl hb_isinstance rfl hb_ValueError (by decide +kernel) hX.isV))) (dt_or1 (dt_tru (d_isv (dv 7) rfl hb_isinstance rfl hb_ValueError rfl (hX.m _ (by decide +kernel)) hX.ve))))))
    (dss_one (ds_ret d_bl))
    dss_nil)
    (dss_cons (ds_set (i := 5) sc_law.nd rfl (by first | exact Or.inl rfl | exact Or.inr rfl) (d_lst (da_cons (d_fld (S := fun c => xd.sups.any fun d => decide (d.c = c) && d.flds.contains "number") (d_sup (sk_BadCodeText (hX.su 0 sd_BadCodeText rfl) hX.top) (k := 0) (hr.toRoom.mono (by omega)) (hX.kp _ (by decide +kernel)) rfl (hX.m _ (by decide +kernel)) (da_cons (dv 8) da_nil)) (hX.fl "number")) (da_cons (d_fld (S := fun c => xd.sups.any fun d => decide (d.c = c) && d.flds.contains "number") (d_supK (sk_BadCodeText_number (hX.su 0 sd_BadCodeText rfl) hX.top) (k := 0) (hr.toRoom.mono (by omega)) (hX.kp _ (by decide +kernel)) rfl (hX.m _ (by decide +kernel)) (dk_cons (dv 8) dk_nil)) (hX.fl "number")) (da_cons (d_fld (S := fun c => xd.sups.any fun d => decide (d.c = c) && d.flds.contains "number") (d_sup (sk_BadDefinition (hX.su 1 sd_BadDefinition rfl) hX.top) (k := 0) (hr.toRoom.mono (by omega)) (hX.kp _ (by decide +kernel)) rfl (hX.m _ (by decide +kernel)) (da_cons (dv 8) da_nil)) (hX.fl "number")) (da_cons (d_fld (S := fun c => xd.sups.any fun d => decide (d.c = c) && d.flds.contains "number") (d_supK (sk_BadDefinition_number (hX.su 1 sd_BadDefinition rfl) hX.top) (k := 0) (hr.toRoom.mono (by omega)) (hX.kp _ (by decide +kernel)) rfl (hX.m _ (by decide +kernel)) (dk_cons (dv 8) dk_nil)) (hX.fl "number")) (da_cons (d_fld (S := fun c => xd.sups.any fun d => decide (d.c = c) && d.flds.contains "name") (d_sup (sk_BadRule (hX.su 3 sd_BadRule rfl) hX.top) (k := 0) (hr.toRoom.mono (by omega)) (hX.kp _ (by decide +kernel)) rfl (hX.m _ (by decide +kernel)) (da_cons (dv 8) da_nil)) (hX.fl "name")) (da_cons (d_fld (S := fun c => xd.sups.any fun d => decide (d.c = c) && d.flds.contains "name") (d_supK (sk_BadRule_name (hX.su 3 sd_BadRule rfl) hX.top) (k := 0) (hr.toRoom.mono (by omega)) (hX.kp _ (by decide +kernel)) rfl (hX.m _ (by decide +kernel)) (dk_cons (dv 8) dk_nil)) (hX.fl "name")) da_nil))))))))
    (dss_cons (ds_set (i := 5) sc_law.nd rfl (by first | exact Or.inl rfl | exact Or.inr rfl) (d_op op_addAny sv_add (dv 5) (d_lst (da_cons (d_fld (S := fun c => xd.sups.any fun d => decide (d.c = c) && d.flds.contains "at") (d_sup (sk_BadText (hX.su 4 sd_BadText rfl) hX.top) (k := 0) (hr.toRoom.mono (by omega)) (hX.kp _ (by decide +kernel)) rfl (hX.m _ (by decide +kernel)) (da_cons (dv 8) da_nil)) (hX.fl "at")) (da_cons (d_fld (S := fun c => xd.sups.any fun d => decide (d.c = c) && d.flds.contains "at") (d_supK (sk_BadText_at (hX.su 4 sd_BadText rfl) hX.top) (k := 0) (hr.toRoom.mono (by omega)) (hX.kp _ (by decide +kernel)) rfl (hX.m _ (by decide +kernel)) (dk_cons (dv 8) dk_nil)) (hX.fl "at")) (da_cons (d_fld (S := fun c => xd.sups.any fun d => decide (d.c = c) && d.flds.contains "number") (d_sup (sk_BadTrail (hX.su 5 sd_BadTrail rfl) hX.top) (k := 0) (hr.toRoom.mono (by omega)) (hX.kp _ (by decide +kernel)) rfl (hX.m _ (by decide +kernel)) (da_cons (dv 8) da_nil)) (hX.fl "number")) (da_cons (d_fld (S := fun c => xd.sups.any fun d => decide (d.c = c) && d.flds.contains "number") (d_supK (sk_BadTrail_number (hX.su 5 sd_BadTrail rfl) hX.top) (k := 0) (hr.toRoom.mono (by omega)) (hX.kp _ (by decide +kernel)) rfl (hX.m _ (by decide +kernel)) (dk_cons (dv 8) dk_nil)) (hX.fl "number")) (da_cons (d_fld (S := fun c => xd.sups.any fun d => decide (d.c = c) && d.flds.contains "number") (d_sup (sk_BrokenLead (hX.su 6 sd_BrokenLead rfl) hX.top) (k := 0) (hr.toRoom.mono (by omega)) (hX.kp _ (by decide +kernel)) rfl (hX.m _ (by decide +kernel)) (da_cons (dv 8) da_nil)) (hX.fl "number")) (da_cons (d_fld (S := fun c => xd.sups.any fun d => decide (d.c = c) && d.flds.contains "number") (d_supK (sk_BrokenLead_number (hX.su 6 sd_BrokenLead rfl) hX.top) (k := 0) (hr.toRoom.mono (by omega)) (hX.kp _ (by decide +kernel)) rfl (hX.m _ (by decide +kernel)) (dk_cons (dv 8) dk_nil)) (hX.fl "number")) da_nil)))))))))
    (dss_cons (ds_set (i := 5) sc_law.nd rfl (by first | exact Or.inl rfl | exact Or.inr rfl) (d_op op_addAny sv_add (dv 5) (d_lst (da_cons (d_fld (S := fun c => xd.sups.any fun d => decide (d.c = c) && d.flds.contains "word") (d_sup (sk_CannotDo (hX.su 7 sd_CannotDo rfl) hX.top) (k := 0) (hr.toRoom.mono (by omega)) (hX.kp _ (by decide +kernel)) rfl (hX.m _ (by decide +kernel)) (da_cons (dv 8) da_nil)) (hX.fl "word")) (da_cons (d_fld (S := fun c => xd.sups.any fun d => decide (d.c = c) && d.flds.contains "word") (d_supK (sk_CannotDo_word (hX.su 7 sd_CannotDo rfl) hX.top) (k := 0) (hr.toRoom.mono (by omega)) (hX.kp _ (by decide +kernel)) rfl (hX.m _ (by decide +kernel)) (dk_cons (dv 8) dk_nil)) (hX.fl "word")) (da_cons (d_fld (S := fun c => xd.sups.any fun d => decide (d.c = c) && d.flds.contains "word") (d_sup (sk_NoStep (hX.su 10 sd_NoStep rfl) hX.top) (k := 0) (hr.toRoom.mono (by omega)) (hX.kp _ (by decide +kernel)) rfl (hX.m _ (by decide +kernel)) (da_cons (dv 8) da_nil)) (hX.fl "word")) (da_cons (d_fld (S := fun c => xd.sups.any fun d => decide (d.c = c) && d.flds.contains "word") (d_supK (sk_NoStep_word (hX.su 10 sd_NoStep rfl) hX.top) (k := 0) (hr.toRoom.mono (by omega)) (hX.kp _ (by decide +kernel)) rfl (hX.m _ (by decide +kernel)) (dk_cons (dv 8) dk_nil)) (hX.fl "word")) (da_cons (d_fld (S := fun c => xd.sups.any fun d => decide (d.c = c) && d.flds.contains "name") (d_sup (sk_NoSuch (hX.su 11 sd_NoSuch rfl) hX.top) (k := 0) (hr.toRoom.mono (by omega)) (hX.kp _ (by decide +kernel)) rfl (hX.m _ (by decide +kernel)) (da_cons (dv 8) da_nil)) (hX.fl "name")) (da_cons (d_fld (S := fun c => xd.sups.any fun d => decide (d.c = c) && d.flds.contains "name") (d_supK (sk_NoSuch_name (hX.su 11 sd_NoSuch rfl) hX.top) (k := 0) (hr.toRoom.mono (by omega)) (hX.kp _ (by decide +kernel)) rfl (hX.m _ (by decide +kernel)) (dk_cons (dv 8) dk_nil)) (hX.fl "name")) da_nil)))))))))
    (dss_cons (ds_set (i := 5) sc_law.nd rfl (by first | exact Or.inl rfl | exact Or.inr rfl) (d_op op_addAny sv_add (dv 5) (d_lst (da_cons (d_fld (S := fun c => xd.sups.any fun d => decide (d.c = c) && d.flds.contains "many") (d_sup (sk_TooMany (hX.su 12 sd_TooMany rfl) hX.top) (k := 0) (hr.toRoom.mono (by omega)) (hX.kp _ (by decide +kernel)) rfl (hX.m _ (by decide +kernel)) (da_cons (dv 8) da_nil)) (hX.fl "many")) (da_cons (d_fld (S := fun c => xd.sups.any fun d => decide (d.c = c) && d.flds.contains "many") (d_supK (sk_TooMany_many (hX.su 12 sd_TooMany rfl) hX.top) (k := 0) (hr.toRoom.mono (by omega)) (hX.kp _ (by decide +kernel)) rfl (hX.m _ (by decide +kernel)) (dk_cons (dv 8) dk_nil)) (hX.fl "many")) (da_cons (d_fld (S := fun c => xd.sups.any fun d => decide (d.c = c) && d.flds.contains "word") (d_sup (sk_TooWide (hX.su 13 sd_TooWide rfl) hX.top) (k := 0) (hr.toRoom.mono (by omega)) (hX.kp _ (by decide +kernel)) rfl (hX.m _ (by decide +kernel)) (da_cons (dv 8) da_nil)) (hX.fl "word")) (da_cons (d_fld (S := fun c => xd.sups.any fun d => decide (d.c = c) && d.flds.contains "word") (d_supK (sk_TooWide_word (hX.su 13 sd_TooWide rfl) hX.top) (k := 0) (hr.toRoom.mono (by omega)) (hX.kp _ (by decide +kernel)) rfl (hX.m _ (by decide +kernel)) (dk_cons (dv 8) dk_nil)) (hX.fl "word")) (da_cons (d_fld (S := fun c => xd.sups.any fun d => decide (d.c = c) && d.flds.contains "name") (d_sup (sk_TreeTooWide (hX.su 14 sd_TreeTooWide rfl) hX.top) (k := 0) (hr.toRoom.mono (by omega)) (hX.kp _ (by decide +kernel)) rfl (hX.m _ (by decide +kernel)) (da_cons (dv 8) da_nil)) (hX.fl "name")) (da_cons (d_fld (S := fun c => xd.sups.any fun d => decide (d.c = c) && d.flds.contains "name") (d_supK (sk_TreeTooWide_name (hX.su 14 sd_TreeTooWide rfl) hX.top) (k := 0) (hr.toRoom.mono (by omega)) (hX.kp _ (by decide +kernel)) rfl (hX.m _ (by decide +kernel)) (dk_cons (dv 8) dk_nil)) (hX.fl "name")) da_nil)))))))))
    (dss_cons (ds_set (i := 5) sc_law.nd rfl (by first | exact Or.inl rfl | exact Or.inr rfl) (d_op op_addAny sv_add (dv 5) (d_lst (da_cons (d_fld (S := fun c => xd.sups.any fun d => decide (d.c = c) && d.flds.contains "names") (d_sup (sk_Unlinked (hX.su 16 sd_Unlinked rfl) hX.top) (k := 0) (hr.toRoom.mono (by omega)) (hX.kp _ (by decide +kernel)) rfl (hX.m _ (by decide +kernel)) (da_cons (dv 8) da_nil)) (hX.fl "names")) (da_cons (d_fld (S := fun c => xd.sups.any fun d => decide (d.c = c) && d.flds.contains "names") (d_supK (sk_Unlinked_names (hX.su 16 sd_Unlinked rfl) hX.top) (k := 0) (hr.toRoom.mono (by omega)) (hX.kp _ (by decide +kernel)) rfl (hX.m _ (by decide +kernel)) (dk_cons (dv 8) dk_nil)) (hX.fl "names")) (da_cons (d_fld (S := fun c => xd.sups.any fun d => decide (d.c = c) && d.flds.contains "name") (d_sup (sk_Untyped (hX.su 17 sd_Untyped rfl) hX.top) (k := 0) (hr.toRoom.mono (by omega)) (hX.kp _ (by decide +kernel)) rfl (hX.m _ (by decide +kernel)) (da_cons (dv 8) da_nil)) (hX.fl "name")) (da_cons (d_fld (S := fun c => xd.sups.any fun d => decide (d.c = c) && d.flds.contains "name") (d_supK (sk_Untyped_name (hX.su 17 sd_Untyped rfl) hX.top) (k := 0) (hr.toRoom.mono (by omega)) (hX.kp _ (by decide +kernel)) rfl (hX.m _ (by decide +kernel)) (dk_cons (dv 8) dk_nil)) (hX.fl "name")) (da_cons (d_fld (S := fun c => xd.sups.any fun d => decide (d.c = c) && d.flds.contains "name") (d_sup (sk_Wide (hX.su 18 sd_Wide rfl) hX.top) (k := 0) (hr.toRoom.mono (by omega)) (hX.kp _ (by decide +kernel)) rfl (hX.m _ (by decide +kernel)) (da_cons (dv 8) da_nil)) (hX.fl "name")) (da_cons (d_fld (S := fun c => xd.sups.any fun d => decide (d.c = c) && d.flds.contains "name") (d_supK (sk_Wide_name (hX.su 18 sd_Wide rfl) hX.top) (k := 0) (hr.toRoom.mono (by omega)) (hX.kp _ (by decide +kernel)) rfl (hX.m _ (by decide +kernel)) (dk_cons (dv 8) dk_nil)) (hX.fl "name")) da_nil)))))))))
    (dss_cons (ds_if (dt_cmp (op_neAny hr.units) sv_ne (d_callB (call_repr hr) sv_repr rfl hb_repr (by decide +kernel) (da_cons (dv 5) da_nil)) (d_callB (call_repr hr) sv_repr rfl hb_repr (by decide +kernel) (da_cons (d_repL (n := 30) (da_cons (dv 8) da_nil)) da_nil)) (nomark _))
    (dss_one (ds_ret d_bl))
    dss_nil)
    (dss_cons (ds_set (i := 6) sc_law.nd rfl (by first | exact Or.inl rfl | exact Or.inr rfl) (d_lst (da_cons (d_tup (da_cons (d_fld (S := fun c => xd.sups.any fun d => decide (d.c = c) && d.flds.contains "word") (d_sup (sk_BadNotation (hX.su 2 sd_BadNotation rfl) hX.top) (k := 0) (hr.toRoom.mono (by omega)) (hX.kp _ (by decide +kernel)) rfl (hX.m _ (by decide +kernel)) (da_cons (dv 8) (da_cons (dv 9) da_nil))) (hX.fl "word")) (da_cons (d_fld (S := fun c => xd.sups.any fun d => decide (d.c = c) && d.flds.contains "place") (d_sup (sk_BadNotation (hX.su 2 sd_BadNotation rfl) hX.top) (k := 0) (hr.toRoom.mono (by omega)) (hX.kp _ (by decide +kernel)) rfl (hX.m _ (by decide +kernel)) (da_cons (dv 8) (da_cons (dv 9) da_nil))) (hX.fl "place")) da_nil))) (da_cons (d_tup (da_cons (d_fld (S := fun c => xd.sups.any fun d => decide (d.c = c) && d.flds.contains "word") (d_supK (sk_BadNotation_place_word (hX.su 2 sd_BadNotation rfl) hX.top) (k := 0) (hr.toRoom.mono (by omega)) (hX.kp _ (by decide +kernel)) rfl (hX.m _ (by decide +kernel)) (dk_cons (dv 9) (dk_cons (dv 8) dk_nil))) (hX.fl "word")) (da_cons (d_fld (S := fun c => xd.sups.any fun d => decide (d.c = c) && d.flds.contains "place") (d_supK (sk_BadNotation_place_word (hX.su 2 sd_BadNotation rfl) hX.top) (k := 0) (hr.toRoom.mono (by omega)) (hX.kp _ (by decide +kernel)) rfl (hX.m _ (by decide +kernel)) (dk_cons (dv 9) (dk_cons (dv 8) dk_nil))) (hX.fl "place")) da_nil))) da_nil))))
    (dss_cons (ds_set (i := 6) sc_law.nd rfl (by first | exact Or.inl rfl | exact Or.inr rfl) (d_op op_addAny sv_add (dv 6) (d_lst (da_cons (d_tup (da_cons (d_fld (S := fun c => xd.sups.any fun d => decide (d.c = c) && d.flds.contains "word") (d_sup (sk_Clash (hX.su 8 sd_Clash rfl) hX.top) (k := 0) (hr.toRoom.mono (by omega)) (hX.kp _ (by decide +kernel)) rfl (hX.m _ (by decide +kernel)) (da_cons (dv 8) (da_cons (dv 9) da_nil))) (hX.fl "word")) (da_cons (d_fld (S := fun c => xd.sups.any fun d => decide (d.c = c) && d.flds.contains "name") (d_sup (sk_Clash (hX.su 8 sd_Clash rfl) hX.top) (k := 0) (hr.toRoom.mono (by omega)) (hX.kp _ (by decide +kernel)) rfl (hX.m _ (by decide +kernel)) (da_cons (dv 8) (da_cons (dv 9) da_nil))) (hX.fl "name")) da_nil))) (da_cons (d_tup (da_cons (d_fld (S := fun c => xd.sups.any fun d => decide (d.c = c) && d.flds.contains "word") (d_supK (sk_Clash_name_word (hX.su 8 sd_Clash rfl) hX.top) (k := 0) (hr.toRoom.mono (by omega)) (hX.kp _ (by decide +kernel)) rfl (hX.m _ (by decide +kernel)) (dk_cons (dv 9) (dk_cons (dv 8) dk_nil))) (hX.fl "word")) (da_cons (d_fld (S := fun c => xd.sups.any fun d => decide (d.c = c) && d.flds.contains "name") (d_supK (sk_Clash_name_word (hX.su 8 sd_Clash rfl) hX.top) (k := 0) (hr.toRoom.mono (by omega)) (hX.kp _ (by decide +kernel)) rfl (hX.m _ (by decide +kernel)) (dk_cons (dv 9) (dk_cons (dv 8) dk_nil))) (hX.fl "name")) da_nil))) da_nil)))))
    (dss_cons (ds_set (i := 6) sc_law.nd rfl (by first | exact Or.inl rfl | exact Or.inr rfl) (d_op op_addAny sv_add (dv 6) (d_lst (da_cons (d_tup (da_cons (d_fld (S := fun c => xd.sups.any fun d => decide (d.c = c) && d.flds.contains "name") (d_sup (sk_NoName (hX.su 9 sd_NoName rfl) hX.top) (k := 0) (hr.toRoom.mono (by omega)) (hX.kp _ (by decide +kernel)) rfl (hX.m _ (by decide +kernel)) (da_cons (dv 8) (da_cons (dv 9) da_nil))) (hX.fl "name")) (da_cons (d_fld (S := fun c => xd.sups.any fun d => decide (d.c = c) && d.flds.contains "at") (d_sup (sk_NoName (hX.su 9 sd_NoName rfl) hX.top) (k := 0) (hr.toRoom.mono (by omega)) (hX.kp _ (by decide +kernel)) rfl (hX.m _ (by decide +kernel)) (da_cons (dv 8) (da_cons (dv 9) da_nil))) (hX.fl "at")) da_nil))) (da_cons (d_tup (da_cons (d_fld (S := fun c => xd.sups.any fun d => decide (d.c = c) && d.flds.contains "name") (d_supK (sk_NoName_at_name (hX.su 9 sd_NoName rfl) hX.top) (k := 0) (hr.toRoom.mono (by omega)) (hX.kp _ (by decide +kernel)) rfl (hX.m _ (by decide +kernel)) (dk_cons (dv 9) (dk_cons (dv 8) dk_nil))) (hX.fl "name")) (da_cons (d_fld (S := fun c => xd.sups.any fun d => decide (d.c = c) && d.flds.contains "at") (d_supK (sk_NoName_at_name (hX.su 9 sd_NoName rfl) hX.top) (k := 0) (hr.toRoom.mono (by omega)) (hX.kp _ (by decide +kernel)) rfl (hX.m _ (by decide +kernel)) (dk_cons (dv 9) (dk_cons (dv 8) dk_nil))) (hX.fl "at")) da_nil))) da_nil)))))
    (dss_cons (ds_set (i := 6) sc_law.nd rfl (by first | exact Or.inl rfl | exact Or.inr rfl) (d_op op_addAny sv_add (dv 6) (d_lst (da_cons (d_tup (da_cons (d_fld (S := fun c => xd.sups.any fun d => decide (d.c = c) && d.flds.contains "kind") (d_sup (sk_Unjoined (hX.su 15 sd_Unjoined rfl) hX.top) (k := 0) (hr.toRoom.mono (by omega)) (hX.kp _ (by decide +kernel)) rfl (hX.m _ (by decide +kernel)) (da_cons (dv 8) (da_cons (dv 9) da_nil))) (hX.fl "kind")) (da_cons (d_fld (S := fun c => xd.sups.any fun d => decide (d.c = c) && d.flds.contains "name") (d_sup (sk_Unjoined (hX.su 15 sd_Unjoined rfl) hX.top) (k := 0) (hr.toRoom.mono (by omega)) (hX.kp _ (by decide +kernel)) rfl (hX.m _ (by decide +kernel)) (da_cons (dv 8) (da_cons (dv 9) da_nil))) (hX.fl "name")) da_nil))) (da_cons (d_tup (da_cons (d_fld (S := fun c => xd.sups.any fun d => decide (d.c = c) && d.flds.contains "kind") (d_supK (sk_Unjoined_name_kind (hX.su 15 sd_Unjoined rfl) hX.top) (k := 0) (hr.toRoom.mono (by omega)) (hX.kp _ (by decide +kernel)) rfl (hX.m _ (by decide +kernel)) (dk_cons (dv 9) (dk_cons (dv 8) dk_nil))) (hX.fl "kind")) (da_cons (d_fld (S := fun c => xd.sups.any fun d => decide (d.c = c) && d.flds.contains "name") (d_supK (sk_Unjoined_name_kind (hX.su 15 sd_Unjoined rfl) hX.top) (k := 0) (hr.toRoom.mono (by omega)) (hX.kp _ (by decide +kernel)) rfl (hX.m _ (by decide +kernel)) (dk_cons (dv 9) (dk_cons (dv 8) dk_nil))) (hX.fl "name")) da_nil))) da_nil)))))
    (dss_one (ds_if (dt_cmp (op_neAny hr.units) sv_ne (d_callB (call_repr hr) sv_repr rfl hb_repr (by decide +kernel) (da_cons (dv 6) da_nil)) (d_callB (call_repr hr) sv_repr rfl hb_repr (by decide +kernel) (da_cons (d_repL (n := 8) (da_cons (d_tup (da_cons (dv 8) (da_cons (dv 9) da_nil))) da_nil)) da_nil)) (nomark _))
    (dss_one (ds_ret d_bl))
    dss_nil))))))))))))))))))))))))))
    (dss_one (ds_ret d_bl)))), ?_⟩
  refine ⟨.ref sa, rfl, sa, ns, rfl, hS.elim .inl (fun z => z.sq), hl, fun p g c H1 hp hg hc sm st ht => law_go (N := N_law) (n := 13) (by decide) rfl hS hp hg sm st ht (by decide +kernel) q ?_⟩

  generalize hB : (⟨fun _ => False, fun d => d = .bl true, fun _ _ _ => False, fun _ => False, fun _ => False⟩ : WEnds) = B
  refine st_any fun W2 e2 => ?_
  have R2 : ∀ ρ', W2 B ρ' := fun ρ' => by
    subst e2 hB
    rfl
  refine for_any fun bd ebd => ?_
  simp only [PL.wVar, PL.wC, PL.wOp, PL.wUn, PL.wNil, PL.wCons, PL.wCB, PL.wTup, PL.wLst, PL.wAndV, PL.wOrV, PL.wNotV, PL.wIfE, PL.wAnd, PL.wOr, PL.wNot, PL.wTest, PL.wTru, PL.wChain, PL.wNext, PL.wSeq, PL.wBreak, PL.wCont, PL.wDrop, PL.wRet, PL.wRetN, PL.wIfS, PL.wgName, PL.wgNil, PL.wgCons, PL.wgTup, PL.wAsg, PL.wSet, PL.wPar, PL.wItL, PL.wItT, PL.wItS, PL.wItR1, PL.wItR2, PL.wFor, PL.wFor0, PL.wLc, PL.wYes, PL.wNeg, PL.wAdd, PL.wIx, PL.wDGet, PL.wNoPart, PL.wPart, PL.wSlice, PL.wSl, PL.wLen, PL.wAll, PL.wAny, PL.wListOf, PL.wTupOf, PL.wMin2, PL.wMax2, PL.wAbs, PL.wInt1, PL.wDic, PL.wVarF, PL.wRev, PL.wMulA, PL.wCall, PL.wCall0]
  simp only [List.getElem?_cons_zero, List.getElem?_cons_succ, List.getElem?_nil, List.set_cons_zero, List.set_cons_succ, Option.some.injEq, En.val.injEq, D.bl.injEq, D.int.injEq, D.str.injEq, D.tup.injEq, D.lst.injEq, reduceCtorEq, exists_eq_left, exists_eq_left', exists_eq_right, exists_eq_right', exists_and_left, exists_eq, true_and, and_true, if_true, Bool.false_eq_true, if_false, ↓reduceIte, false_and, and_false, Bool.not_true, Bool.not_false, List.cons.injEq, exists_false, exists_const, isi_non_int, isi_non_bool, isi_non_str, isi_non_tuple, isi_non_list, isi_non_dict, isi_bl_int, isi_bl_bool, isi_bl_str, isi_bl_tuple, isi_bl_list, isi_bl_dict, isi_int_int, isi_int_bool, isi_int_str, isi_int_tuple, isi_int_list, isi_int_dict, isi_str_int, isi_str_bool, isi_str_str, isi_str_tuple, isi_str_list, isi_str_dict, isi_tup_int, isi_tup_bool, isi_tup_str, isi_tup_tuple, isi_tup_list, isi_tup_dict, isi_lst_int, isi_lst_bool, isi_lst_str, isi_lst_tuple, isi_lst_list, isi_lst_dict, isi_dic_int, isi_dic_bool, isi_dic_str, isi_dic_tuple, isi_dic_list, isi_dic_dict, truth, wEq, wNe, wEqs, wIss, wIns, wI, wPow, wSub, wLt, wLe, wGt, wGe, wMod, wMul, PL.wIx, neg, isNon, sg_inj, String.reduceEq, flatD, eqF_str, eqF_int, List.all_cons, List.all_nil, List.any_cons, List.any_nil, Bool.and_true, Bool.true_and, Bool.or_false, Bool.false_or, Int.reduceLT, Int.reduceLE, ln0, ln1, ln2, ln3, ln4, ln5, ln6, ln7, ln8, ln9, ln10, ln11, ln12, ln13, ln14, ln15, ln16, or_false, or_true, false_or, true_or, List.mem_cons, List.not_mem_nil, Nat.reduceAdd, List.length_cons, List.length_nil, Nat.reduceEqDiff, Int.reduceEq, Int.cast_ofNat_Int, decide_true, decide_false, atI_0, atI_1, atI_2, atI_3, List.isEmpty_cons, List.isEmpty_nil, Int.reduceAdd, Int.reduceSub, sR]
  have Rb : ∀ (e2 e3 e4 e5 e6 e7 e8 e9 e10 e11 : En) (N : Rho → Prop) (x : D), (∀ (e2 e3 e4 e5 e6 e7 e8 e9 e10 e11 : En), N [.val (.lst (ns.map .int)), .val .tok, e2, e3, e4, e5, e6, e7, e8, e9, e10, e11, .un]) →
      bd { B with nx := N, ct := N, bk := W2 B } [.val (.lst (ns.map .int)), .val .tok, .val x, e3, e4, e5, e6, e7, e8, e9, e10, e11, .un] := by
    intro e2 e3' e4' e5' e6' e7' e8' e9' e10' e11' N x hN
    subst ebd
    generalize hB2 : ({ B with nx := N, ct := N, bk := W2 B } : WEnds) = B2
    refine st_any fun W3 e3 => ?_
    simp only [PL.wVar, PL.wC, PL.wOp, PL.wUn, PL.wNil, PL.wCons, PL.wCB, PL.wTup, PL.wLst, PL.wAndV, PL.wOrV, PL.wNotV, PL.wIfE, PL.wAnd, PL.wOr, PL.wNot, PL.wTest, PL.wTru, PL.wChain, PL.wNext, PL.wSeq, PL.wBreak, PL.wCont, PL.wDrop, PL.wRet, PL.wRetN, PL.wIfS, PL.wgName, PL.wgNil, PL.wgCons, PL.wgTup, PL.wAsg, PL.wSet, PL.wPar, PL.wItL, PL.wItT, PL.wItS, PL.wItR1, PL.wItR2, PL.wFor, PL.wFor0, PL.wLc, PL.wYes, PL.wNeg, PL.wAdd, PL.wIx, PL.wDGet, PL.wNoPart, PL.wPart, PL.wSlice, PL.wSl, PL.wLen, PL.wAll, PL.wAny, PL.wListOf, PL.wTupOf, PL.wMin2, PL.wMax2, PL.wAbs, PL.wInt1, PL.wDic, PL.wVarF, PL.wRev, PL.wMulA, PL.wCall, PL.wCall0, PL.wPar3, g_pick, gDraw, sg2]
    simp only [List.getElem?_cons_zero, List.getElem?_cons_succ, List.getElem?_nil, List.set_cons_zero, List.set_cons_succ, Option.some.injEq, En.val.injEq, D.bl.injEq, D.int.injEq, D.str.injEq, D.tup.injEq, D.lst.injEq, reduceCtorEq, exists_eq_left, exists_eq_left', exists_eq_right, exists_eq_right', exists_and_left, exists_eq, true_and, and_true, if_true, Bool.false_eq_true, if_false, ↓reduceIte, false_and, and_false, Bool.not_true, Bool.not_false, List.cons.injEq, exists_false, exists_const, isi_non_int, isi_non_bool, isi_non_str, isi_non_tuple, isi_non_list, isi_non_dict, isi_bl_int, isi_bl_bool, isi_bl_str, isi_bl_tuple, isi_bl_list, isi_bl_dict, isi_int_int, isi_int_bool, isi_int_str, isi_int_tuple, isi_int_list, isi_int_dict, isi_str_int, isi_str_bool, isi_str_str, isi_str_tuple, isi_str_list, isi_str_dict, isi_tup_int, isi_tup_bool, isi_tup_str, isi_tup_tuple, isi_tup_list, isi_tup_dict, isi_lst_int, isi_lst_bool, isi_lst_str, isi_lst_tuple, isi_lst_list, isi_lst_dict, isi_dic_int, isi_dic_bool, isi_dic_str, isi_dic_tuple, isi_dic_list, isi_dic_dict, truth, wEq, wNe, wEqs, wIss, wIns, wI, wPow, wSub, wLt, wLe, wGt, wGe, wMod, wMul, PL.wIx, neg, isNon, sg_inj, String.reduceEq, flatD, eqF_str, eqF_int, List.all_cons, List.all_nil, List.any_cons, List.any_nil, Bool.and_true, Bool.true_and, Bool.or_false, Bool.false_or, Int.reduceLT, Int.reduceLE, ln0, ln1, ln2, ln3, ln4, ln5, ln6, ln7, ln8, ln9, ln10, ln11, ln12, ln13, ln14, ln15, ln16, or_false, or_true, false_or, true_or, List.mem_cons, List.not_mem_nil, Nat.reduceAdd, List.length_cons, List.length_nil, Nat.reduceEqDiff, Int.reduceEq, Int.cast_ofNat_Int, decide_true, decide_false, atI_0, atI_1, atI_2, atI_3, List.isEmpty_cons, List.isEmpty_nil, Int.reduceAdd, Int.reduceSub, sR]
    refine ⟨by simp, by decide, fun t _ => ⟨by decide, fun k k0 k1 => ⟨by decide, fun l l0 l1 => ⟨_, _, _, ⟨rfl, rfl, rfl⟩, ?_⟩⟩⟩⟩
    clear e2
    have sl : 1000 ≤ sizeLine := by decide
    have a1 : shw (D.int k) = true ∧ blk (D.int k) = 0 ∧ dph (D.int k) = 0 := ⟨by simp [shw]; omega, rfl, rfl⟩
    have a2 : shw (D.int l) = true ∧ blk (D.int l) = 0 ∧ dph (D.int l) = 0 := ⟨by simp [shw]; omega, rfl, rfl⟩
    generalize D.int k = n at a1 ⊢
    generalize D.int l = o at a2 ⊢
    obtain ⟨n1, n2, n3⟩ := a1
    obtain ⟨o1, o2, o3⟩ := a2
    have s1 : shw (.lst (List.replicate 30 [n]).flatten) = true := by simp [shw, shwL, n1, List.replicate]
    have s2 : blk (.lst (List.replicate 30 [n]).flatten) ≤ 1000000 := by simp [blk, blkL, n2, List.replicate]
    have s3 : dph (.lst (List.replicate 30 [n]).flatten) ≤ 60 := by simp [dph, dphL, n3, List.replicate]
    have s4 : shw (.lst (List.replicate 8 [D.tup [n, o]]).flatten) = true := by simp [shw, shwL, n1, o1, List.replicate]
    have s5 : blk (.lst (List.replicate 8 [D.tup [n, o]]).flatten) ≤ 1000000 := by simp [blk, blkL, n2, o2, List.replicate]
    have s6 : dph (.lst (List.replicate 8 [D.tup [n, o]]).flatten) ≤ 60 := by simp [dph, dphL, n3, o3, List.replicate]
    subst e3
    refine mk_first ?_
    repeat (first | refine cons_exc rfl ?_ | refine cons_sup1 rfl rfl ?_ | refine cons_sup2 rfl rfl rfl ?_)
    refine nil_ok ⟨by show 6 ≤ sizeLine; decide, ?_⟩
    refine mk_step rfl ?_
    repeat (first | refine cons_exc rfl ?_ | refine cons_sup1 rfl rfl ?_ | refine cons_sup2 rfl rfl rfl ?_)
    refine nil_ok ⟨by show 6 ≤ sizeLine; decide, by simp only [List.length_append, List.length_cons, List.length_nil]; omega, ?_⟩
    refine mk_step rfl ?_
    repeat (first | refine cons_exc rfl ?_ | refine cons_sup1 rfl rfl ?_ | refine cons_sup2 rfl rfl rfl ?_)
    refine nil_ok ⟨by show 6 ≤ sizeLine; decide, by simp only [List.length_append, List.length_cons, List.length_nil]; omega, ?_⟩
    refine mk_step rfl ?_
    repeat (first | refine cons_exc rfl ?_ | refine cons_sup1 rfl rfl ?_ | refine cons_sup2 rfl rfl rfl ?_)
    refine nil_ok ⟨by show 6 ≤ sizeLine; decide, by simp only [List.length_append, List.length_cons, List.length_nil]; omega, ?_⟩
    refine mk_step rfl ?_
    repeat (first | refine cons_exc rfl ?_ | refine cons_sup1 rfl rfl ?_ | refine cons_sup2 rfl rfl rfl ?_)
    refine nil_ok ⟨by show 6 ≤ sizeLine; decide, by simp only [List.length_append, List.length_cons, List.length_nil]; omega, ?_⟩
    refine mk_step rfl ?_
    repeat (first | refine cons_exc rfl ?_ | refine cons_sup1 rfl rfl ?_ | refine cons_sup2 rfl rfl rfl ?_)
    refine nil_ok ⟨by show 6 ≤ sizeLine; decide, by simp only [List.length_append, List.length_cons, List.length_nil]; omega, ?_⟩
    refine mk_step rfl ?_
    repeat (first | refine cons_exc rfl ?_ | refine cons_sup1 rfl rfl ?_ | refine cons_sup2 rfl rfl rfl ?_)
    refine nil_ok ⟨by show 6 ≤ sizeLine; decide, by simp only [List.length_append, List.length_cons, List.length_nil]; omega, ?_⟩
    refine mk_step rfl ?_
    repeat (first | refine cons_exc rfl ?_ | refine cons_sup1 rfl rfl ?_ | refine cons_sup2 rfl rfl rfl ?_)
    refine nil_ok ⟨by show 6 ≤ sizeLine; decide, by simp only [List.length_append, List.length_cons, List.length_nil]; omega, ?_⟩
    refine mk_step rfl ?_
    repeat (first | refine cons_exc rfl ?_ | refine cons_sup1 rfl rfl ?_ | refine cons_sup2 rfl rfl rfl ?_)
    refine nil_ok ⟨by show 3 ≤ sizeLine; decide, by simp only [List.length_append, List.length_cons, List.length_nil]; omega, ?_⟩
    refine st_any fun W4 e4 => ?_
    have R4 : ∀ e10 e11 : En, W4 B2 [.val (.lst (ns.map .int)), .val .tok, .val x, .val (.lst (made n o)), e4', e5', e6', .val t, .val n, .val o, e10, e11, .un] := by
      intro e10 e11
      subst e4
      refine st_any fun W6 e6 => ?_
      refine ⟨t, rfl, ?_⟩
      show W6 B2 [.val (.lst (ns.map .int)), .val .tok, .val x, .val (.lst (made n o)), .val (.exc "RulesError" []), e5', e6', .val t, .val n, .val o, e10, e11, .un]
      subst e6
      refine st_any fun W7 e7 => ?_
      have R7 : W7 B2 [.val (.lst (ns.map .int)), .val .tok, .val x, .val (.lst (made n o)), .val (.exc "RulesError" []), e5', e6', .val t, .val n, .val o, e10, e11, .un] := by
        subst e7
        refine mk_first ?_
        repeat refine cons_fld rfl rfl (by decide +kernel) ?_
        refine nil_ok ⟨by show 6 ≤ sizeLine; decide, ?_⟩
        refine mk_step rfl ?_
        repeat refine cons_fld rfl rfl (by decide +kernel) ?_
        refine nil_ok ⟨by show 6 ≤ sizeLine; decide, by simp only [List.length_append, List.length_cons, List.length_nil]; omega, ?_⟩
        refine mk_step rfl ?_
        repeat refine cons_fld rfl rfl (by decide +kernel) ?_
        refine nil_ok ⟨by show 6 ≤ sizeLine; decide, by simp only [List.length_append, List.length_cons, List.length_nil]; omega, ?_⟩
        refine mk_step rfl ?_
        repeat refine cons_fld rfl rfl (by decide +kernel) ?_
        refine nil_ok ⟨by show 6 ≤ sizeLine; decide, by simp only [List.length_append, List.length_cons, List.length_nil]; omega, ?_⟩
        refine mk_step rfl ?_
        repeat refine cons_fld rfl rfl (by decide +kernel) ?_
        refine nil_ok ⟨by show 6 ≤ sizeLine; decide, by simp only [List.length_append, List.length_cons, List.length_nil]; omega, ?_⟩
        refine st_any fun W8 e8 => ?_
        have R8 : W8 B2 [.val (.lst (ns.map .int)), .val .tok, .val x, .val (.lst (made n o)), .val (.exc "RulesError" []), .val (.lst (List.replicate 30 [n]).flatten), e6', .val t, .val n, .val o, e10, e11, .un] := by
          subst e8
          refine mk_first ?_
          repeat refine cons_tup (cons_fld2 rfl rfl rfl (by decide +kernel) rfl (cons_fld2 rfl rfl rfl (by decide +kernel) rfl (nil_ok ⟨by show 2 ≤ sizeLine; decide, ?_⟩)))
          refine nil_ok ⟨by show 2 ≤ sizeLine; decide, ?_⟩
          refine mk_step rfl ?_
          repeat refine cons_tup (cons_fld2 rfl rfl rfl (by decide +kernel) rfl (cons_fld2 rfl rfl rfl (by decide +kernel) rfl (nil_ok ⟨by show 2 ≤ sizeLine; decide, ?_⟩)))
          refine nil_ok ⟨by show 2 ≤ sizeLine; decide, by simp only [List.length_append, List.length_cons, List.length_nil]; omega, ?_⟩
          refine mk_step rfl ?_
          repeat refine cons_tup (cons_fld2 rfl rfl rfl (by decide +kernel) rfl (cons_fld2 rfl rfl rfl (by decide +kernel) rfl (nil_ok ⟨by show 2 ≤ sizeLine; decide, ?_⟩)))
          refine nil_ok ⟨by show 2 ≤ sizeLine; decide, by simp only [List.length_append, List.length_cons, List.length_nil]; omega, ?_⟩
          refine mk_step rfl ?_
          repeat refine cons_tup (cons_fld2 rfl rfl rfl (by decide +kernel) rfl (cons_fld2 rfl rfl rfl (by decide +kernel) rfl (nil_ok ⟨by show 2 ≤ sizeLine; decide, ?_⟩)))
          refine nil_ok ⟨by show 2 ≤ sizeLine; decide, by simp only [List.length_append, List.length_cons, List.length_nil]; omega, ?_⟩
          refine ⟨.lst (List.replicate 8 [D.tup [n, o]]).flatten, rfl, rfl, s4, s5, s6, n, rfl, o, rfl, by show 2 ≤ sizeLine; decide, by show 1 ≤ 1000; decide, by decide, rfl, s4, s5, s6, rep_ne rfl ⟨false, rfl, ?_⟩⟩
          rw [← hB2]
          exact hN _ _ _ _ _ _ _ _ _ _
        refine ⟨.lst (List.replicate 30 [n]).flatten, rfl, rfl, s1, s2, s3, n, rfl, by show 1 ≤ 1000; decide, by decide, rfl, s1, s2, s3, rep_ne rfl ⟨false, rfl, ?_⟩⟩
        exact R8
      simp only [PL.wVar, PL.wC, PL.wOp, PL.wUn, PL.wNil, PL.wCons, PL.wCB, PL.wTup, PL.wLst, PL.wAndV, PL.wOrV, PL.wNotV, PL.wIfE, PL.wAnd, PL.wOr, PL.wNot, PL.wTest, PL.wTru, PL.wChain, PL.wNext, PL.wSeq, PL.wBreak, PL.wCont, PL.wDrop, PL.wRet, PL.wRetN, PL.wIfS, PL.wgName, PL.wgNil, PL.wgCons, PL.wgTup, PL.wAsg, PL.wSet, PL.wPar, PL.wItL, PL.wItT, PL.wItS, PL.wItR1, PL.wItR2, PL.wFor, PL.wFor0, PL.wLc, PL.wYes, PL.wNeg, PL.wAdd, PL.wIx, PL.wDGet, PL.wNoPart, PL.wPart, PL.wSlice, PL.wSl, PL.wLen, PL.wAll, PL.wAny, PL.wListOf, PL.wTupOf, PL.wMin2, PL.wMax2, PL.wAbs, PL.wInt1, PL.wDic, PL.wVarF, PL.wRev, PL.wMulA, PL.wCall, PL.wCall0, PL.wIsx, PL.wIsv, g_flags, sg1, isT_at base_flags.2.2]
      simp only [List.getElem?_cons_zero, List.getElem?_cons_succ, List.getElem?_nil, List.set_cons_zero, List.set_cons_succ, Option.some.injEq, En.val.injEq, D.bl.injEq, D.int.injEq, D.str.injEq, D.tup.injEq, D.lst.injEq, reduceCtorEq, exists_eq_left, exists_eq_left', exists_eq_right, exists_eq_right', exists_and_left, exists_eq, true_and, and_true, if_true, Bool.false_eq_true, if_false, ↓reduceIte, false_and, and_false, Bool.not_true, Bool.not_false, List.cons.injEq, exists_false, exists_const, isi_non_int, isi_non_bool, isi_non_str, isi_non_tuple, isi_non_list, isi_non_dict, isi_bl_int, isi_bl_bool, isi_bl_str, isi_bl_tuple, isi_bl_list, isi_bl_dict, isi_int_int, isi_int_bool, isi_int_str, isi_int_tuple, isi_int_list, isi_int_dict, isi_str_int, isi_str_bool, isi_str_str, isi_str_tuple, isi_str_list, isi_str_dict, isi_tup_int, isi_tup_bool, isi_tup_str, isi_tup_tuple, isi_tup_list, isi_tup_dict, isi_lst_int, isi_lst_bool, isi_lst_str, isi_lst_tuple, isi_lst_list, isi_lst_dict, isi_dic_int, isi_dic_bool, isi_dic_str, isi_dic_tuple, isi_dic_list, isi_dic_dict, truth, wEq, wNe, wEqs, wIss, wIns, wI, wPow, wSub, wLt, wLe, wGt, wGe, wMod, wMul, PL.wIx, neg, isNon, sg_inj, String.reduceEq, flatD, eqF_str, eqF_int, List.all_cons, List.all_nil, List.any_cons, List.any_nil, Bool.and_true, Bool.true_and, Bool.or_false, Bool.false_or, Int.reduceLT, Int.reduceLE, ln0, ln1, ln2, ln3, ln4, ln5, ln6, ln7, ln8, ln9, ln10, ln11, ln12, ln13, ln14, ln15, ln16, or_false, or_true, false_or, true_or, List.mem_cons, List.not_mem_nil, Nat.reduceAdd, List.length_cons, List.length_nil, Nat.reduceEqDiff, Int.reduceEq, Int.cast_ofNat_Int, decide_true, decide_false, atI_0, atI_1, atI_2, atI_3, List.isEmpty_cons, List.isEmpty_nil, Int.reduceAdd, Int.reduceSub, sR, D.exc.injEq, and_assoc]
      refine ⟨base_flags.2.2, base_flags.1, ?_⟩
      rw [base_flags.2.1, if_neg (by decide)]
      refine ⟨true, (isT_at base_flags.2.2).trans (by simp), ?_⟩
      rw [if_neg (by decide)]
      exact R7
    refine for0_any fun bd2 eb2 => ?_
    refine ⟨.lst (made n o), rfl, made n o, rfl, ?_⟩
    refine wLoop_ind (fun xs ρ => ∃ (k : Nat) (e10 e11 : En), k ≤ 51 ∧ xs = enumL k ((made n o).drop k) ∧ ρ = [.val (.lst (ns.map .int)), .val .tok, .val x, .val (.lst (made n o)), e4', e5', e6', .val t, .val n, .val o, e10, e11, .un]) ?_ ?_ ⟨0, _, _, by omega, rfl, rfl⟩
    · rintro ρ ⟨k, e10, e11, hk, _, rfl⟩
      exact R4 e10 e11
    · rintro x' xs' ρ N' hN' ⟨k, e10, e11, hk, hx, rfl⟩
      have hl : (made n o).length = 51 := by unfold made; rw [List.length_map]; exact mkd_len n o
      have hk2 : k < 51 := by
        rcases Nat.lt_or_ge k 51 with z | z
        · exact z
        · rw [List.drop_eq_nil_of_le (by omega)] at hx; cases hx
      obtain ⟨fs, hf⟩ := made_at (n := n) (o := o) hk2
      have hd : (made n o).drop k = .exc (xord.getD k "") fs :: (made n o).drop (k + 1) := by
        have h1 : k < (made n o).length := by omega
        rw [List.drop_eq_getElem_cons h1]
        rw [List.getElem?_eq_getElem h1] at hf
        rw [Option.some.inj hf]
      rw [hd] at hx
      simp only [enumL, List.cons.injEq] at hx
      obtain ⟨rfl, rfl⟩ := hx
      obtain ⟨hc, hr⟩ := names_in k hk2
      have hch := chk_all k hk2
      generalize xord.getD k "" = c at *
      have Rn : N' [.val (.lst (ns.map .int)), .val .tok, .val x, .val (.lst (made n o)), e4', e5', e6', .val t, .val n, .val o, .val (.int k), .val (.exc c fs), .un] := hN' _ ⟨k + 1, _, _, by omega, rfl, rfl⟩
      refine tgt2 ?_
      show bd2 _ [.val (.lst (ns.map .int)), .val .tok, .val x, .val (.lst (made n o)), e4', e5', e6', .val t, .val n, .val o, .val (.int k), .val (.exc c fs), .un]
      subst eb2
      refine st_any fun W5 e5 => ?_
      have R5 : ∀ B3 : WEnds, B3.nx = N' → W5 B3 [.val (.lst (ns.map .int)), .val .tok, .val x, .val (.lst (made n o)), e4', e5', e6', .val t, .val n, .val o, .val (.int k), .val (.exc c fs), .un] := by
        intro B3 h3
        subst e5
        simp only [PL.wVar, PL.wC, PL.wOp, PL.wUn, PL.wNil, PL.wCons, PL.wCB, PL.wTup, PL.wLst, PL.wAndV, PL.wOrV, PL.wNotV, PL.wIfE, PL.wAnd, PL.wOr, PL.wNot, PL.wTest, PL.wTru, PL.wChain, PL.wNext, PL.wSeq, PL.wBreak, PL.wCont, PL.wDrop, PL.wRet, PL.wRetN, PL.wIfS, PL.wgName, PL.wgNil, PL.wgCons, PL.wgTup, PL.wAsg, PL.wSet, PL.wPar, PL.wItL, PL.wItT, PL.wItS, PL.wItR1, PL.wItR2, PL.wFor, PL.wFor0, PL.wLc, PL.wYes, PL.wNeg, PL.wAdd, PL.wIx, PL.wDGet, PL.wNoPart, PL.wPart, PL.wSlice, PL.wSl, PL.wLen, PL.wAll, PL.wAny, PL.wListOf, PL.wTupOf, PL.wMin2, PL.wMax2, PL.wAbs, PL.wInt1, PL.wDic, PL.wVarF, PL.wRev, PL.wMulA, PL.wCall, PL.wCall0, PL.wIsx, isT_at hc]
        simp only [List.getElem?_cons_zero, List.getElem?_cons_succ, List.getElem?_nil, List.set_cons_zero, List.set_cons_succ, Option.some.injEq, En.val.injEq, D.bl.injEq, D.int.injEq, D.str.injEq, D.tup.injEq, D.lst.injEq, reduceCtorEq, exists_eq_left, exists_eq_left', exists_eq_right, exists_eq_right', exists_and_left, exists_eq, true_and, and_true, if_true, Bool.false_eq_true, if_false, ↓reduceIte, false_and, and_false, Bool.not_true, Bool.not_false, List.cons.injEq, exists_false, exists_const, isi_non_int, isi_non_bool, isi_non_str, isi_non_tuple, isi_non_list, isi_non_dict, isi_bl_int, isi_bl_bool, isi_bl_str, isi_bl_tuple, isi_bl_list, isi_bl_dict, isi_int_int, isi_int_bool, isi_int_str, isi_int_tuple, isi_int_list, isi_int_dict, isi_str_int, isi_str_bool, isi_str_str, isi_str_tuple, isi_str_list, isi_str_dict, isi_tup_int, isi_tup_bool, isi_tup_str, isi_tup_tuple, isi_tup_list, isi_tup_dict, isi_lst_int, isi_lst_bool, isi_lst_str, isi_lst_tuple, isi_lst_list, isi_lst_dict, isi_dic_int, isi_dic_bool, isi_dic_str, isi_dic_tuple, isi_dic_list, isi_dic_dict, truth, wEq, wNe, wEqs, wIss, wIns, wI, wPow, wSub, wLt, wLe, wGt, wGe, wMod, wMul, PL.wIx, neg, isNon, sg_inj, String.reduceEq, flatD, eqF_str, eqF_int, List.all_cons, List.all_nil, List.any_cons, List.any_nil, Bool.and_true, Bool.true_and, Bool.or_false, Bool.false_or, Int.reduceLT, Int.reduceLE, ln0, ln1, ln2, ln3, ln4, ln5, ln6, ln7, ln8, ln9, ln10, ln11, ln12, ln13, ln14, ln15, ln16, or_false, or_true, false_or, true_or, List.mem_cons, List.not_mem_nil, Nat.reduceAdd, List.length_cons, List.length_nil, Nat.reduceEqDiff, Int.reduceEq, Int.cast_ofNat_Int, decide_true, decide_false, atI_0, atI_1, atI_2, atI_3, List.isEmpty_cons, List.isEmpty_nil, Int.reduceAdd, Int.reduceSub, sR, D.exc.injEq, and_assoc]
        refine ⟨true, (isT_at hc).trans (congrArg some hr), ?_⟩
        rw [if_neg (by decide)]
        refine ⟨true, (isT_at hc).trans (by simp), ?_⟩
        rw [if_neg (by decide), h3]
        exact Rn
      refine ⟨.exc c fs, rfl, c, fs, rfl, hc, .lst (made n o), rfl, 51, rfl, by decide, by decide, rfl, by decide, ?_⟩
      refine lcG_fm (α := Nat) (xs := List.range 51) (fun i => D.int (0 + (i : Nat))) (fun i => some (.bl (decide (i = k)))) (fun i _ kT kF q => ?_) ?_
      · show wOp wEq (wVar 12) (wVar 10) _ kT _
        refine ⟨.int (0 + (i : Nat)), rfl, .int k, rfl, ?_⟩
        have e : decide ((0 : Int) + (i : Nat) = (k : Int)) = decide (i = k) := by
          refine decide_eq_decide.mpr ⟨fun z => by omega, fun z => by omega⟩
        show kT (.bl (neg false (decide ((0 : Int) + (i : Nat) = (k : Int)))))
        rw [e]; exact q
      · have e : ((List.range 51).filterMap fun i => some (D.bl (decide (i = k)))) = (List.range 51).map fun i => D.bl (decide (i = k)) := by rw [List.filterMap_eq_map']
        rw [e]
        refine ne_lists (by intro z; exact absurd (congrArg List.length z) (by simp)) hch ⟨false, rfl, ?_⟩
        exact R5 _ rfl
  generalize hm : (1 + if 3 < ((ns.map D.int).length : Int) then 3 else ((ns.map D.int).length : Int)) = m
  have hm0 : 0 ≤ m ∧ m ≤ 4 := by
    subst hm
    split <;> omega
  refine ⟨by omega, by omega, by rw [rng_len]; omega, ?_⟩
  refine wLoop_ind (fun xs ρ => ∃ e2 e3 e4 e5 e6 e7 e8 e9 e10 e11 : En, ρ = [.val (.lst (ns.map .int)), .val .tok, e2, e3, e4, e5, e6, e7, e8, e9, e10, e11, .un]) ?_ ?_ ⟨_, _, _, _, _, _, _, _, _, _, rfl⟩
  · rintro ρ ⟨e2, e3, e4, e5, e6, e7, e8, e9, e10, e11, rfl⟩
    exact R2 _
  · rintro x xs ρ N hN ⟨e2, e3, e4, e5, e6, e7, e8, e9, e10, e11, rfl⟩
    exact Rb e2 e3 e4 e5 e6 e7 e8 e9 e10 e11 N x fun e2 e3 e4 e5 e6 e7 e8 e9 e10 e11 => hN _ ⟨e2, e3, e4, e5, e6, e7, e8, e9, e10, e11, rfl⟩
end
end K00
set_option Elab.async false
set_option linter.all false
set_option maxRecDepth 100000
set_option maxHeartbeats 0
namespace K00
open PySem L2 PL PX
theorem facts {P : Program} {w : World} {K : PySem.W.Frag} {h : Heap} {mg : Str → Option Value} {f : Addr} (X : K.In h) (G : h.Ns mainGlobals mg) (hfa0 : mg ("law" : Str) = some (.ref f)) (cx : SaysX hfa hfn xd P.main.file K) (top : (P.main.scope.names.lookup ("super" : Str)).isSome = false) :
    ∃ fd : FuncData, (∀ (s : Shared) (v : Value), BindsTo s fd ⟨[v], []⟩ [("script", v)]) ∧ ∀ base : Heap, K.In base → base.Ns mainGlobals mg → FnG P w K mg base 5 f fd ["script"] (spLaw K) := by
  have hX : ExF P K mg xd := SaysX.ex X G cx top
  have c := SaysX.d cx
  obtain ⟨fd_law_begun, D_law_begun⟩ := c.def_ 0 (d := d_law_begun) rfl
  have F_law_begun : Fun K "_law_begun" "_law_begun" s_law_begun (He.ga K "_law_begun") fd_law_begun := fun_of D_law_begun
  have m_law_begun : mg "_law_begun" = some (.ref (He.ga K "_law_begun")) := He.glo_ok X G (c.fact 0 (f := .glo "_law_begun") rfl)
  obtain ⟨fd_law_blended, D_law_blended⟩ := c.def_ 1 (d := d_law_blended) rfl
  have F_law_blended : Fun K "_law_blended" "_law_blended" s_law_blended (He.ga K "_law_blended") fd_law_blended := fun_of D_law_blended
  have m_law_blended : mg "_law_blended" = some (.ref (He.ga K "_law_blended")) := He.glo_ok X G (c.fact 1 (f := .glo "_law_blended") rfl)
  obtain ⟨fd_law_draw, D_law_draw⟩ := c.def_ 2 (d := d_law_draw) rfl
  have F_law_draw : Fun K "_law_draw" "_law_draw" s_law_draw (He.ga K "_law_draw") fd_law_draw := fun_of D_law_draw
  have m_law_draw : mg "_law_draw" = some (.ref (He.ga K "_law_draw")) := He.glo_ok X G (c.fact 2 (f := .glo "_law_draw") rfl)
  obtain ⟨fd_law_pick, D_law_pick⟩ := c.def_ 3 (d := d_law_pick) rfl
  have F_law_pick : Fun K "_law_pick" "_law_pick" s_law_pick (He.ga K "_law_pick") fd_law_pick := fun_of D_law_pick
  have m_law_pick : mg "_law_pick" = some (.ref (He.ga K "_law_pick")) := He.glo_ok X G (c.fact 3 (f := .glo "_law_pick") rfl)
  obtain ⟨fd_law_k00_flags, D_law_k00_flags⟩ := c.def_ 4 (d := d_law_k00_flags) rfl
  have F_law_k00_flags : Fun K "_law_k00_flags" "_law_k00_flags" s_law_k00_flags (He.ga K "_law_k00_flags") fd_law_k00_flags := fun_of D_law_k00_flags
  have m_law_k00_flags : mg "_law_k00_flags" = some (.ref (He.ga K "_law_k00_flags")) := He.glo_ok X G (c.fact 4 (f := .glo "_law_k00_flags") rfl)
  obtain ⟨fd_law, D_law⟩ := c.def_ 5 (d := d_law) rfl
  have F_law : Fun K "law" "law" s_law (He.ga K "law") fd_law := fun_of D_law
  have m_law : mg "law" = some (.ref (He.ga K "law")) := He.glo_ok X G (c.fact 5 (f := .glo "law") rfl)
  have hb_abs : mg "abs" = none := He.free_ok X G (c.fact 6 (f := .free "abs") rfl)
  have hb_int : mg "int" = none := He.free_ok X G (c.fact 7 (f := .free "int") rfl)
  have hb_len : mg "len" = none := He.free_ok X G (c.fact 8 (f := .free "len") rfl)
  have hb_isinstance : mg "isinstance" = none := He.free_ok X G (c.fact 9 (f := .free "isinstance") rfl)
  have hb_range : mg "range" = none := He.free_ok X G (c.fact 10 (f := .free "range") rfl)
  have hb_enumerate : mg "enumerate" = none := He.free_ok X G (c.fact 11 (f := .free "enumerate") rfl)
  have hb_min : mg "min" = none := He.free_ok X G (c.fact 12 (f := .free "min") rfl)
  have hb_repr : mg "repr" = none := He.free_ok X G (c.fact 13 (f := .free "repr") rfl)
  have hb_ValueError : mg "ValueError" = none := He.free_ok X G (c.fact 14 (f := .free "ValueError") rfl)
  have ef : f = He.ga K "law" := by have q := hfa0.symm.trans m_law; simpa using q
  subst ef
  refine ⟨fd_law, fun s v => kws_law F_law s [v] [] rfl, fun base _ _ => ?_⟩
  have c_law_draw : Cal P w K mg base (2) "_law_draw" (He.ga K "_law_draw") ["state", "size_here"] (1) (gDraw) := ⟨m_law_draw, ⟨_, FnG.of (ok_draw F_law_draw hb_int (ok_blended F_law_blended hb_int) m_law_blended F_law_blended.kp (kws_law_blended F_law_blended).binds), F_law_draw.kp, kws_law_draw F_law_draw⟩⟩
  have c_law_pick : Cal P w K mg base (3) "_law_pick" (He.ga K "_law_pick") ["state", "several"] (1) (g_pick) := ⟨m_law_pick, ⟨_, ok_law_pick (FF := F_law_pick) (c_law_draw := c_law_draw) (hb_len := hb_len), F_law_pick.kp, kws_law_pick F_law_pick⟩⟩
  have c_law_k00_flags : Cal P w K mg base (1) "_law_k00_flags" (He.ga K "_law_k00_flags") ["error"] (0) (g_flags) := ⟨m_law_k00_flags, ⟨_, ok_law_k00_flags (FF := F_law_k00_flags) (hb_isinstance := hb_isinstance) (hX := hX), F_law_k00_flags.kp, kws_law_k00_flags F_law_k00_flags⟩⟩
  exact ok_law (FF := F_law) (mB := m_law_begun) (GB := ok_begun F_law_begun hb_abs) (kB := F_law_begun.kp) (bB := (kws_law_begun F_law_begun).binds) (hb_range := hb_range) (hb_enumerate := hb_enumerate) (hX := hX) (hb_min := hb_min) (c_law_pick := c_law_pick) (c_law_draw := c_law_draw) (hb_isinstance := hb_isinstance) (hb_repr := hb_repr) (hb_len := hb_len) (c_law_k00_flags := c_law_k00_flags) (hb_ValueError := hb_ValueError)
end K00
open PySem PySem.W PySem.Calls PyProof.Rows
theorem PySem.Challenge.cw_alwaysastep_k00_errors_apart_holds : PySem.Challenge.rw_alwaysastep_k00_errors_apart.Holds := by
  w_on; o_law
  refine HandSHeadRun.head_any (r := OpenLaw.row PySem.Challenge.rw_alwaysastep_k00_errors_apart) (q := view (OpenLaw.row PySem.Challenge.rw_alwaysastep_k00_errors_apart).prog [59]) (H := K00.hk) (ob := K00.ob) (M := 60000) (loose := K00.hnames) (d := HandSHeadRun.topDef (OpenLaw.row PySem.Challenge.rw_alwaysastep_k00_errors_apart).prog 59) (kwd := []) K00.ob_eq
    (by kernel_rfl) (fun s => by kernel_rfl) K00.run (by kernel_rfl) (by kernel_rfl) (by kernel_rfl) (by rfl) (by first | assumption | decide +kernel) (by decide +kernel) ⟨rfl, rfl, rfl, rfl, rfl, by decide +kernel⟩ ?hw ?hc
  case hw => w_witness2
  case hc =>
    refine PL.walk_law (l := PySem.Challenge.rw_alwaysastep_k00_errors_apart) (k := 5) rfl (by kernel_rfl) ⟨rfl, by decide, by decide⟩ ?F
    intro w mg fa h Y G hmg0
    obtain ⟨K, KX, c⟩ := Y
    have hmg : mg ("law" : PySem.Str) = some (.ref fa) := by
      have e : (HandSHeadRun.topDef (OpenLaw.row PySem.Challenge.rw_alwaysastep_k00_errors_apart).prog 59).name = ("law" : PySem.Str) := by kernel_rfl
      rw [← e]
      exact hmg0
    obtain ⟨fd, hb, hF⟩ := K00.facts (P := (PySem.Challenge.rw_alwaysastep_k00_errors_apart).prog) (w := w) KX G hmg c (by kernel_rfl)
    exact ⟨K, fd, KX, hb, hF⟩
