import PyProof.Rows.All
import HandS.ForMost
import HandS.Exc
import KE.KExcSuper
import KE.KExcInit
import KE.KSuper
import HandS.ExcOwn
import HandS.ExcValue
import HandS.CallSlots
import KE.KTryMore
import HandS.IsInst
import HandS.ExcField
import KE.KExcIs
import HandS.Style
import HandS.TupMul
import HandS.HeadHook1
import HandS.TupAny
import HandS.Flow
import HandS.Walk
import HandS.Zip
import HandS.SetFor
import HandS.Strs
import HandS.Codes
import HandS.Defaults
import HandS.HeadHook2
import HandS.HeadEnd
import HandS.Head2
import PySem.Challenge.RW_comeby_k05_logins_closed_files_and_withi
import HandS.HeadWalk
import Wide.FinOn
set_option Elab.async false
set_option linter.all false
set_option maxRecDepth 100000
set_option maxHeartbeats 2000000
/-! GX1: the __init__ of an own error: super().__init__(x); self.x = x. -/
namespace G
open PySem PySem.W PySem.Calls PyProof.Rows
/-- the body of such an __init__ -/
def xBody (x : Str) : List Stmt → Bool
  | [.Expr (.Call (.Attribute (.Call (.Name a _) [] [] _) b p2) [.Name c _] [] p4) _, .Assign [.Attribute (.Name d _) e _] (.Name f _) _] =>
      a == ("super" : Str) && b == ("__init__" : Str) && c == x && d == ("self" : Str) && e == x && f == x && p2.endLine == p4.line
  | _ => false
theorem xBody_of {x : Str} {l : List Stmt} (h : xBody x l = true) : ∃ p0 p1 p2 p3 p4 p5 p6 p7 p8 p9,
    (p2.endLine == p4.line) = true ∧ l = [.Expr (.Call (.Attribute (.Call (.Name "super" p0) [] [] p1) "__init__" p2) [.Name x p3] [] p4) p5, .Assign [.Attribute (.Name "self" p6) x p7] (.Name x p8) p9] := by
  unfold xBody at h
  split at h
  · rw [Bool.and_eq_true] at h
    obtain ⟨h, hp⟩ := h
    simp only [Bool.and_eq_true, beq_iff_eq] at h
    obtain ⟨⟨⟨⟨⟨rfl, rfl⟩, rfl⟩, rfl⟩, rfl⟩, rfl⟩ := h
    exact ⟨_, _, _, _, _, _, _, _, _, _, hp, rfl⟩
  · cases h
/-- what the head must tell of such a class -/
structure XIn (K : Frag) (prog : Program) (C : Addr) (x : Str) (B newId i : String) (bmB : List Value) : Prop where
  fac : ExcBaseFacts B newId i bmB
  kxs : KxsFacts B i
  sto : StoreFacts B bmB "object.__setattr__" "object"
  fn : ∃ (f cc cda : Addr) (nm qual : Str) (params : Arguments) (body : List Stmt) (scope : Scope) (dV kV doc pm ct oc ccl cl : Value) (an od cdd cld : Option Addr) (osl ccs csl : Array (Option Value)) (vs : Array Value) (file : Str) (tf : Tok) (cd : ClassData) (ar : Arg),
    findIn K (.ref C) "__init__" = some (some (.ref f)) ∧ isFn K (.ref f) = true ∧ K.lookup f = some ⟨oc, od, .func (ksFn nm qual params body scope dV kV doc pm an (.ref cda) ct cc), osl⟩ ∧ codeIn K (.ref cda) qual = true ∧
    xBody x body = true ∧ (params.posonlyargs ++ params.args).head? = some ar ∧ ar.arg = "self" ∧ (∀ a u, bindArgs (ksFn nm qual params body scope dV kV doc pm an (.ref cda) ct cc) ⟨[a, u], []⟩ = pure [(("self" : Str), a), (x, u)]) ∧
    scope.names.lookup ("self" : Str) = some .local ∧ scope.names.lookup x = some .local ∧ scope.names.lookup ("super" : Str) = some .globalImplicit ∧ scope.names.lookup ("__class__" : Str) = some .free ∧ (∀ y ∈ scope.names, y.2 ≠ .cell) ∧ scope.kind = .function ∧ scope.isCoroutine = false ∧ scope.isGenerator = false ∧
    K.lookup cda = some ⟨ccl, cdd, .fields vs, ccs⟩ ∧ vs[2]? = some (.str file tf) ∧ ((prog.main.file : Str) == file) = true ∧ K.lookup cc = some ⟨cl, cld, .cell (some (.ref C)), csl⟩ ∧ clsIn K C = some cd
  q : excInitIn K C bmB newId = true
  mro : mroIn K C (.ref C) = some true
  sup : nsIn K mainGlobals "super" = some none
  top : (prog.main.scope.names.lookup ("super" : Str)).isSome = false
  tp : nsIn K cStatics "thirdparty.any" = some none
  hm : ks_superIn K C C "__init__" = some (some (.builtin i))
  hB : subIn K (.ref C) (.type B) = some true
  sa : findIn K (.ref C) "__setattr__" = some (some (.builtin "object.__setattr__"))
  ov : excOver K C bmB = true
  tk : takerIn K C x = some none
  hd : hasDictIn K C = true
  bex : subIn K (.ref C) (.type "BaseException") = some true
  ty : typeIn K (.ref C) = some (.type "type")
  ne : x ≠ "self"
  xd : (x == ("__debug__" : Str)) = false

section
variable {prog : Program} {w : World} {A : Around} {s : Shared} {K : Frag} {C e t u0 : Addr} {x : Str} {B newId i : String} {bmB : List Value} {base : Heap} {mg : Str → Option Value} {R : Result → Shared → Prop} {u : Value}
theorem frag_hide {h : Heap} (X : K.In base) (bs : ∀ b o, base.get? b = some o → h.get? b = some o) (ne : base.get? e = none) : K.In (hideAll h [e]) := fun b o lk => by
  have q := X b o lk
  refine hideAll_get _ (bs b o q) fun z => ?_
  rw [List.mem_singleton] at z
  rw [z, ne] at q
  cases q
theorem init_ok (T : XIn K prog C x B newId i bmB) {f : Addr} (hi : findIn K (.ref C) "__init__" = some (some (.ref f))) (hroom : A.depth < recursionLimit)
    (X : K.In base) (G : base.Ns mainGlobals mg) (Bt : ∃ mb, base.Ns builtinsNs mb ∧ ∀ y : Str, y ≠ "__name__" → mb y = bootBuiltins y) (lim : base.NoLimit) (bs : ∀ b o, base.get? b = some o → s.heap.get? b = some o) (ne : base.get? e = none)
    (he : s.heap.get? e = some (excObj C t none .none))
    (hR : ∀ h' t' dx tk', (∀ b o, b ≠ e → s.heap.get? b = some o → h'.get? b = some o) → h'.get? e = some (excObj C t' (some dx) .none) → s.heap.get? dx = none → dx ≠ e → h'.Ns1 dx (fun y => if y = x then some u else none) → R (.ok (.ret .none)) { s with heap := h', toks := tk' }) :
    codeAny (model prog w) A (.call (.ref f) ⟨[.ref e, u], []⟩) R s := by
  obtain ⟨f', cc, cda, nm, qual, params, body, scope, dV, kV, doc, pm, ct, oc, ccl, cl, an, od, cdd, cld, osl, ccs, csl, vs, file, tf, cd, ar, h1, h2, h3, h4, h5, h6, h7, h8, h9, h10, h11, h12, h13, h14, h15, h16, h17, h18, h19, h20, h21⟩ := T.fn
  rw [hi] at h1
  cases h1
  obtain ⟨p0, p1, p2, p3, p4, p5, p6, p7, p8, p9, hp, rfl⟩ := xBody_of h5
  obtain ⟨mb, hb1, hb2⟩ := Bt
  have XS : K.In s.heap := X.keeps bs
  have hb : BindsTo s (ksFn nm qual params _ scope dV kV doc pm an (.ref cda) ct cc) ⟨[.ref e, u], []⟩ [(("self" : Str), .ref e), (x, u)] := .of_eq (h8 (.ref e) u)
  refine ks_codeAny_call_defAt (binds := [(("self" : Str), .ref e), (x, u)]) hroom (XS _ _ h3) rfl (lim.keeps bs) (codeRec_of XS h4) rfl hb h13 (fun y hy => ?_) (fun h₁ hns hk₁ => ?_) h15 h16 h14
  · simp only [List.mem_cons, List.mem_nil_iff, or_false] at hy
    rcases hy with rfl | rfl
    · exact h9
    · exact h10
  have eL : e ≠ s.heap.objs.size := Nat.ne_of_lt (Heap.lt_size he)
  have F : Fr (hideAll s.heap [e]) s.heap.objs.size h₁ (fun y => ([(("self" : Str), Value.ref e), (x, u)].reverse).lookup y) := ⟨hns, fun b o z => hk₁ b o (of_hideAll _ z), Nat.le_of_eq (hideAll_size _ _)⟩
  have XG : K.In (hideAll s.heap [e]) := frag_hide X bs ne
  have N : News (hideAll s.heap [e]) s.heap.objs.size h₁ [(e, excObj C t none .none)] := fun p hp => by
    rw [List.mem_singleton] at hp
    subst hp
    exact ⟨hk₁ _ _ he, eL, hideAll_none _ (List.mem_singleton.mpr rfl)⟩
  have gk : ∀ {y : Str} {m : Str → Option Value} {a : Addr}, base.Ns a m → (hideAll s.heap [e]).Ns a m := fun {y m a} q => q.at fun o z => hideAll_get _ (bs _ _ z) fun k => by
    rw [List.mem_singleton] at k
    rw [k, ne] at z
    cases z
  have self_v : (([(("self" : Str), Value.ref e), (x, u)].reverse).lookup ("self" : Str)) = some (.ref e) := by
    show ([(x, u), (("self" : Str), Value.ref e)] : List (Str × Value)).lookup ("self" : Str) = _
    rw [List.lookup_cons, show (("self" : Str) == x) = false from beq_eq_false_iff_ne.mpr (Ne.symm T.ne)]
    rfl
  have x_v : (([(("self" : Str), Value.ref e), (x, u)].reverse).lookup x) = some u := by
    show ([(x, u), (("self" : Str), Value.ref e)] : List (Str × Value)).lookup x = _
    rw [List.lookup_cons, beq_self_eq_true]
  generalize hm : (fun y => ([(("self" : Str), Value.ref e), (x, u)].reverse).lookup y) = m at F
  have self_v : m "self" = some (.ref e) := by rw [← hm]; exact self_v
  have x_v : m x = some u := by rw [← hm]; exact x_v
  have hmp : ∀ (few : Bool) (o : Expr) (en : PySem.Env), methodCallPos few o en p2 p4 = pure p4 := fun few o en => by
    unfold methodCallPos
    rw [hp, Bool.or_true, if_pos rfl]
  generalize hbd : ([.Expr (.Call (.Attribute (.Call (.Name "super" p0) [] [] p1) "__init__" p2) [.Name x p3] [] p4) p5, .Assign [.Attribute (.Name "self" p6) x p7] (.Name x p8) p9] : List Stmt) = bd at h3 hb ⊢
  have quiet : interactive (callEnv (ksFn nm qual params bd scope dV kV doc pm an (.ref cda) ct cc) s.heap.objs.size f) = false := by
    unfold interactive
    rw [show (callEnv (ksFn nm qual params bd scope dV kV doc pm an (.ref cda) ct cc) s.heap.objs.size f).scope.kind = .function from h14]
    rfl
  have X1 : K.In h₁ := XG.keeps F.keep
  obtain ⟨oD, hD1, hD2⟩ : ∃ oD, h₁.get? C = some oD ∧ oD.data = .cls cd := by
    unfold clsIn at h21
    split at h21
    · rename_i c d cd' sl ho
      cases h21
      exact ⟨_, X1 _ _ ho, rfl⟩
    · cases h21
  have I1 : InstAt h₁ e (excObj C t none .none) C none := ⟨(N _ (List.mem_singleton.mpr rfl)).1, rfl, rfl, trivial⟩
  rw [← hbd]
  refine ks_wpAt_execs_cons (ks_wpAt_Expr_any (ks_wpAt_MethodCall (pl := pure (((some false : Option Bool)).getD true)) ?_ ?_) quiet rfl)
  · refine ks_wpAt_super_base (env := callEnv (ksFn nm qual params bd scope dV kV doc pm an (.ref cda) ct cc) s.heap.objs.size f) h11 h12 (by decide) rfl (X1 _ _ h3) rfl h6 rfl (X1 _ _ h17) rfl h18 h19 T.top ?_
    refine ks_loadName_global h14 h11 (loadGlobal_builtin (env := callEnv (ksFn nm qual params bd scope dV kV doc pm an (.ref cda) ct cc) s.heap.objs.size f) ((gk (y := x) G).keeps F.keep) (mg_none_of X G T.sup) ((gk (y := x) hb1).keeps F.keep) ((hb2 _ (by decide +kernel)).trans (by decide +kernel : bootBuiltins "super" = some (.type "super"))) ⟨rfl, ?_⟩)
    refine wpAny_loadName_free h14 h12 rfl ⟨_, X1 _ _ h20, rfl⟩ ?_
    refine wpAny_loadName_local h14 (by rw [h7]; exact h9) F.ns (by rw [h7]; exact self_v) ?_
    refine ks_wpAny_isType_cls hD1 hD2 ⟨rfl, ?_⟩
    refine ks_wpAny_call_super hD1 hD2 I1.at_ I1.cls (fun c e => ?_) (looks_mroIn X1 T.mro) (fun h2 e2 k2 => ?_)
    · cases e
    obtain ⟨F2, N2, l2⟩ := ks_newsPush (s := { s with heap := h₁, toks := s.toks + 2 }) F N rfl e2 k2
    have I2 : InstAt h2 e (excObj C t none .none) C none := ⟨k2 _ _ I1.at_, rfl, rfl, trivial⟩
    refine kxs_method (s := { s with heap := h2, toks := s.toks + 2 }) T.kxs F2 XG N2 List.mem_cons_self I2 T.tp T.hm T.hB (by decide) fun q3 h3' F3 N3 l3 => ?_
    refine kxs_callWith1 (i := i) (x := e) N3 List.mem_cons_self ?_ rfl rfl
    refine Calls.spliced_cons (wpAny_Name (wpAny_loadName_local h14 h10 F3.ns x_v ?_) T.xd)
    refine Calls.spliced_nil ⟨kxs_at N3 List.mem_cons_self, ?_⟩
    have U : UpdF e (excObj C t none .none) ((q3, kxs_mw i e) :: (h₁.objs.size, ks_superObj C e C) :: [(e, excObj C t none .none)]) (fun o => (q3, kxs_mw i e) :: (h₁.objs.size, ks_superObj C e C) :: [(e, o)]) :=
      .tail (fun z => absurd (l3 (e, excObj C t none .none) (List.mem_cons_of_mem _ (List.mem_singleton.mpr rfl))) (by rw [show q3 = e from z]; exact Nat.lt_irrefl _))
        (.tail (fun z => absurd (l2 (e, excObj C t none .none) (List.mem_singleton.mpr rfl)) (by rw [show h₁.objs.size = e from z]; exact Nat.lt_irrefl _)) (.head fun p hp => nomatch hp))
    refine kxs_call F3 XG N3 T.fac T.q List.mem_cons_self U (by rw [sizeLine_eq]; show 1 ≤ _; decide) fun t4 h4 F4 N4 l4 => ?_
    refine ks_wpAt_execs_cons (ks_wpAt_Assign_Attr (wpAt_of_wpAny (wpAny_Name (wpAny_loadName_local h14 h10 F4.ns x_v ?_) T.xd)) rfl)
    refine wpAny_Name (wpAny_loadName_local h14 h9 F4.ns self_v ?_) (by decide)
    have U4 : UpdF e (excObj C t4 none .none) ((t4, excTup [u]) :: (q3, kxs_mw i e) :: (h₁.objs.size, ks_superObj C e C) :: [(e, excObj C t4 none .none)]) (fun o => (t4, excTup [u]) :: (q3, kxs_mw i e) :: (h₁.objs.size, ks_superObj C e C) :: [(e, o)]) := by
      refine .tail (fun z => ?_) (.tail (fun z => absurd (l3 (e, excObj C t none .none) (List.mem_cons_of_mem _ (List.mem_singleton.mpr rfl))) (by rw [show q3 = e from z]; exact Nat.lt_irrefl _))
        (.tail (fun z => absurd (l2 (e, excObj C t none .none) (List.mem_singleton.mpr rfl)) (by rw [show h₁.objs.size = e from z]; exact Nat.lt_irrefl _)) (.head fun p hp => nomatch hp)))
      have q := l4 (e, excObj C t none .none) (List.mem_cons_of_mem _ (List.mem_cons_of_mem _ (List.mem_singleton.mpr rfl)))
      rw [show t4 = e from z] at q
      exact absurd q (Nat.lt_irrefl _)
    refine set_exc0 T.sto F4 XG N4 (by simp) T.sa T.ov T.tk T.hd rfl U4 (by show 1 ≤ 1000; decide) fun dx h5 F5 N5 l5 => ?_
    have me : (e, excObj C t4 (some dx) .none) ∈ ((dx, dictOf (putL x (PyData.keyHash w.params x) (.str x (s.toks + 2 + 1 + 1)) u []) (putN x [] 0)) :: (t4, excTup [u]) :: (q3, kxs_mw i e) :: (h₁.objs.size, ks_superObj C e C) :: [(e, excObj C t4 (some dx) .none)]) := by simp
    have hdx : e < dx := l5 (e, excObj C t4 none .none) (by simp)
    have d0 := N5 _ List.mem_cons_self
    refine wpAt_of_wpAny (wpAny_execs_nil (hR h5 t4 dx _ (fun b o hb z => F5.keep b o (hideAll_get _ z fun k => hb (List.mem_singleton.mp k))) (N5 _ me).1 ?_ (Nat.ne_of_gt hdx) ⟨_, _, _, d0.1, rfl, ?_, ?_, fun y => ?_⟩))
    · cases z : s.heap.get? dx with
      | none => rfl
      | some o =>
        have q := hideAll_get [e] z fun k => Nat.ne_of_gt hdx (List.mem_singleton.mp k)
        rw [show (hideAll s.heap [e]).get? dx = none from d0.2.2] at q
        cases q
    · intro en hen
      simp [putL] at hen
      exact ⟨x, _, by rw [hen]⟩
    · simp [UniqKeys, putL]
    · show findBy _ _ _ = _
      simp only [putL, findBy, Value.isStr]
      by_cases hy : y = x
      · subst hy
        simp
      · have hy' : (x == y) = false := beq_eq_false_iff_ne.mpr (Ne.symm hy)
        simp [hy, hy']
  · show (do
      let ov ← attributeBase _ _ _ _
      standAt _
      methodCall _ _ _ _ _ ov _ _ _) = _
    unfold methodCall
    simp only [hmp, pure_bind]
    rfl
end
end G
set_option Elab.async false
set_option linter.all false
set_option maxRecDepth 100000
set_option maxHeartbeats 2000000
/-! GX2: an own error made. -/
namespace G
open PySem L2
section
variable {X : Cx} {C : Addr} {x c : Str} {B newId i : String} {bmB : List Value}
/-- what stands behind C(u): the error at e, its dict at dx -/
theorem run_x {pins : List (Addr × Obj)} {σ : L2.St} {H : Hp} {s : Shared} {u : Value} {v : V} {Q : Value → Shared → Prop} (T : XIn X.K X.prog C x B newId i bmB) (hr : Room 2 X.A) (I : Inv X pins σ H s) (r : RelV v u)
    (q : ∀ h' e t dx tk, (∀ b o, s.heap.get? b = some o → h'.get? b = some o) → s.heap.get? e = none → s.heap.get? dx = none → dx ≠ e → h'.get? e = some (PySem.W.excObj C t (some dx) .none) → h'.Ns1 dx (fun y => if y = x then some u else none) → Q (.ref e) { s with heap := h', toks := tk }) :
    wpAny (model X.prog X.w) X.A (call (.ref C) [u]) Q X.xe s := by
  obtain ⟨f', cc, cda, nm, qual, params, body, scope, dV, kV, doc, pm, ct, oc, ccl, cl, an, od, cdd, cld, osl, ccs, csl, vs, file, tf, cd, ar, h1, h2, h3, hrest⟩ := T.fn
  clear hrest
  have K1 := I.kIn
  obtain ⟨nm', N', qn, bs, bm, hdct, sn, sub, ab, col, dd, k0, k1, k2, k3, k5, hC, hT⟩ := PySem.W.excInit_of K1 T.q
  obtain ⟨oI, hoI, hcI⟩ : ∃ oI, s.heap.get? f' = some oI ∧ oI.cls = .type "function" := by
    obtain ⟨o, ho, hc⟩ := Option.map_eq_some_iff.mp (show (X.K.lookup f').map (·.cls) = some (.type "function") from beq_iff_eq.mp h2)
    exact ⟨o, K1 _ _ ho, hc⟩
  have hi' : PySem.W.Looks (model X.prog X.w) s.heap (typeLookup (.ref C) "__init__") (some (.ref f')) := PySem.W.looks_findIn K1 h1
  have bsk : ∀ b o, X.base.get? b = some o → s.heap.get? b = some o := fun b o z => (I.bs b o z).1
  have MD := I.ok.mod
  have bsz : X.base.objs.size ≤ s.heap.objs.size := Nat.le_trans I.ok.bsz I.sz
  obtain ⟨hh, g, d, tk, os⟩ := s
  refine wpAny_call (HandSPX.call_own T.fac hT hC hi' (fun self => PySem.W.exc_bind hoI hcI self) (by rw [sizeLine_eq]; show 1 ≤ _; decide) ?_)
  have up : ∀ b o, hh.get? b = some o → ((hh.push (PySem.W.kdv_tup [u])).push (HandSPX.excO C hh.objs.size)).get? b = some o := fun b o z => Heap.get?_push_of_some _ (Heap.get?_push_of_some _ z)
  have fresh : ∀ {h : Heap} {n : Nat}, h.objs.size ≤ n → h.get? n = none := fun {h n} hn => by
    cases z : h.get? n with
    | none => rfl
    | some o => exact absurd (Heap.lt_size z) (Nat.not_lt.mpr hn)
  refine init_ok (s := ⟨(hh.push (PySem.W.kdv_tup [u])).push (HandSPX.excO C hh.objs.size), g, d, tk, os⟩) (e := hh.objs.size + 1) (t := hh.objs.size) (base := X.base) (mg := X.mg) T h1 (by have := hr.dp; rw [make_depth]; omega) MD.kin MD.glob MD.blt MD.nolimit (fun b o z => up b o (bsk b o z)) ?_ ?_ ?_
  · exact fresh (by have : X.base.objs.size ≤ hh.objs.size := bsz; omega)
  · heap_get
  · intro h' t' dx tk' k1 k2 k3 k4 k5
    refine ⟨rfl, q h' _ t' dx tk' (fun b o z => k1 b o (fun e => ?_) (up b o z)) (fresh (Nat.le_succ _)) ?_ k4 k2 k5⟩
    · exact absurd (Heap.lt_size (show hh.get? b = some o from z)) (by rw [e]; exact Nat.not_lt.mpr (Nat.le_succ _))
    · cases z : hh.get? dx with
      | none => rfl
      | some o =>
        have z' := up _ _ z
        rw [show ((hh.push (PySem.W.kdv_tup [u])).push (HandSPX.excO C hh.objs.size)).get? dx = none from k3] at z'
        cases z'
/-- raise C(e) -/
theorem pmk_x {e : Expr} {te : TE} {p pos : Pos} (T : XIn X.K X.prog C x B newId i bmB) (hr : Room 2 X.A) (gC : X.mg c = some (.ref C)) (kC : PySem.W.keepIn X.K (.ref C) = true) (hg : Gl X c) (he : PE X e te)
    (hs : starEach [e] X.env = (false, eval e X.env) :: starEach [] X.env) (hdb : (c == ("__debug__" : Str)) = false) :
    PMk X (.Call (.Name c p) [e] [] pos) (fun σ H Q => te σ H fun v H1 => ∀ dx, H1 dx = none → Q (.ref C) (some dx) (upd H1 dx (.xd [(x, v)]))) := by
  intro pins s σ H Q I h
  refine wpAny_Call_Name_kw (ld_glob I hg gC ?_ hdb)
  refine PySem.W.callWith_K (h₀ := X.base) I.ok.mod.kin kC ?_ hs (by rfl)
  rw [hs]
  show wpAny _ _ (spliced ((false, eval e X.env) :: backTo pos (starEach [] X.env))) _ _ s
  refine Calls.spliced_cons (thn (he.run pins s σ H _ I h) fun u s1 ⟨v, H1, I1, r1, q1⟩ => ?_)
  refine Calls.spliced_nil ⟨I1.kIn, ?_⟩
  show wpAny _ _ (call (.ref C) [u]) _ _ _
  refine run_x T hr I1 r1 fun h' e t dx tk k1 k2 k3 k4 k5 k6 => ?_
  obtain ⟨G, g1, g2⟩ := restrict h' fun b => decide (b ≠ e)
  have gk : ∀ b o, b ≠ e → h'.get? b = some o → G.get? b = some o := fun b o hb z => by
    rw [g1 b (decide_eq_true hb)]
    exact z
  have ge : G.get? e = none := g2 e (decide_eq_false fun z => z rfl)
  have gs : ∀ b o, G.get? b = some o → h'.get? b = some o := fun b o z => by
    by_cases hb : b = e
    · rw [hb, ge] at z
      cases z
    · rw [← g1 b (decide_eq_true hb)]
      exact z
  have hn : H1 dx = none := I1.hok.gone k3
  have hne : H1 e = none := I1.hok.gone k2
  have J : Inv X pins σ (upd H1 dx (.xd [(x, v)])) { s1 with heap := G, toks := tk } := by
    refine I1.laidN (fun b o z => gk b o (fun z' => by rw [z', k2] at z; cases z) (k1 b o z)) k3 hn ⟨_, k6.at fun o z => gk dx o k4 z, fun f => ?_⟩
    by_cases hf : f = x
    · subst hf
      rw [List.lookup_cons, beq_self_eq_true, if_pos rfl]
      exact r1
    · rw [List.lookup_cons, beq_eq_false_iff_ne.mpr hf, if_neg hf]
      exact True.intro
  exact ⟨e, _, _, _, upd H1 dx (.xd [(x, v)]), .ref C, some dx, rfl, J, gs, ge, k5, ⟨rfl, rfl⟩, rfl, rfl, by rw [upd_ne (Ne.symm k4)]; exact hne, rfl, I1.bare, raises_own T.bex T.ty, q1 dx hn⟩
end
end G
set_option Elab.async false
set_option linter.all false
set_option maxRecDepth 100000
set_option maxHeartbeats 2000000
/-! GX3: except (A, B, ..) as n: y = n; the error is tracked behind the suite. -/
namespace PySem.W
open PySem PySem.Calls PyProof.Rows
section
variable {M : Model} {K : Frag}
theorem loop_all {β : Type} {h : Heap} {z : β} {f : Value → β → Sem (ForInStep β)} : ∀ cs : List Value, (∀ c ∈ cs, Looks M h (f c z) (.yield z)) → Looks M h (forIn cs z f) z
  | [], _ => fun A Q E s k q => by
    simp only [List.forIn_nil]
    exact wpAny_pure q
  | c :: cs, hx => fun A Q E s k q => by
    rw [List.forIn_cons]
    refine wpAny_bind (((hx c (List.mem_cons_self ..)).keeps k).here ?_)
    exact loop_all cs (fun d hd => hx d (List.mem_cons_of_mem _ hd)) A Q E s k q
theorem loop_any {cls : Value} {h : Heap} (X : K.In h) {β : Type} {z y : β} {f : Value → β → Sem (ForInStep β)} (hf : ∀ (c : Value) (v : Bool), exmOne K cls c = some v → Looks M h (f c z) (if v = true then .done y else .yield z)) : ∀ (cs : List Value) (b : Bool), exmAny K cls cs = some b → Looks M h (forIn cs z f) (if b = true then y else z)
  | [], b, hx => fun A Q E s k q => by
    simp only [List.forIn_nil]
    cases hx
    exact wpAny_pure q
  | c :: cs, b, hx => fun A Q E s k q => by
    obtain ⟨b1, d1, x1, y1, z1⟩ := exmAny_cons hx
    rw [List.forIn_cons]
    refine wpAny_bind (((hf c b1 x1).keeps k).here ?_)
    cases b1 with
    | true =>
      subst z1
      exact wpAny_pure q
    | false =>
      have z2 : d1 = b := z1.symm
      rw [z2] at y1
      exact loop_any X hf cs b y1 A Q E s k q
theorem exmAny_mem {cls : Value} : ∀ (cs : List Value) (b : Bool), exmAny K cls cs = some b → ∀ c ∈ cs, ∃ v, exmOne K cls c = some v
  | [], _, _, c, hc => nomatch hc
  | d :: cs, b, hx, c, hc => by
    obtain ⟨b1, d1, x1, y1, z1⟩ := exmAny_cons hx
    rcases List.mem_cons.mp hc with rfl | hc
    · exact ⟨b1, x1⟩
    · exact exmAny_mem cs d1 y1 c hc
theorem exm_tup {cs : List Value} {cls : Value} {tp e : Addr} {b : Bool} {h : Heap} (X : K.In h) (LT : Looks M h (typeOf (.ref e)) cls) (hp : h.get? tp = some { cls := .type "tuple", data := .seq cs.toArray }) (hx : exmAny K cls cs = some b) :
    Looks M h (excMatches (.ref e) (.ref tp)) b := by
  intro A Q E s k₀ q
  have k : ∀ b o, h.get? b = some o → s.heap.get? b = some o := k₀
  have LT0 : Looks M h (isInstance (.ref tp) (.type "tuple")) true := ((Looks.ld hp).andThen .now).andThen (Looks.of_pure isSubtype_tuple_tuple)
  have LT0 := LT0.keeps k
  unfold excMatches
  refine wpAny_bind (LT0.here ?_)
  dsimp only
  rw [if_pos rfl]
  obtain ⟨hh, g, d, tk, os⟩ := s
  first
    | refine wpAny_bind (wpAny_seqItems (k _ _ hp) rfl ?_)
    | refine wpAny_bind (wpAny_bind (wpAny_seqItems (k _ _ hp) rfl (wpAny_pure ?_)))
  dsimp only [Option.getD_some, Option.getD]
  refine wpAny_bind (wpAny_pure ?_)
  refine wpAny_bind ((Looks.keeps (h := h) (loop_all cs fun c hc => ?_) k).here ?_)
  · obtain ⟨v, hv⟩ := exmAny_mem cs b hx c hc
    have e1 := (exm_cls (M := M) X hv).1
    intro A Q E s k q
    refine wpAny_bind ((e1.keeps k).here ?_)
    rw [if_neg (by decide)]
    exact wpAny_pure q
  · refine wpAny_bind ((LT.keeps k).here ?_)
    refine wpAny_bind ((Looks.keeps (h := h) (loop_any (y := (some true, ())) X (fun c v hv => ?_) cs b hx) k).here ?_)
    · have e2 := (exm_cls (M := M) X hv).2
      intro A Q E s k q
      refine wpAny_bind ((e2.keeps k).here ?_)
      cases v with
      | true => exact wpAny_pure q
      | false => exact wpAny_pure q
    · cases b with
      | true => exact wpAny_pure q
      | false => exact wpAny_pure q
end
end PySem.W
namespace G
open PySem L2 PyProof.Rows
/-- an error that lies at a, of a class, with a dict -/
def ExK (cls : Value) (d : Option Addr) (a : Addr) : HO := .ext fun h => ∃ (oe : Obj) (vs : Array Value), h.get? a = some oe ∧ Zc cls d oe ∧ oe.data = .fields vs
theorem exK_ok {P : Program} {w : World} {H : Hp} {h : Heap} {a : Addr} {cls : Value} {d : Option Addr} {oe : Obj} {vs : Array Value} (e : h.get? a = some oe) (z : Zc cls d oe) (hd : oe.data = .fields vs) : ObjOk P w H h a (ExK cls d a) :=
  ⟨⟨oe, vs, e, z, hd⟩, ⟨oe, e⟩, fun _ _ ⟨o, v, q, r⟩ k => ⟨o, v, k o q, r⟩⟩
/-- the classes that a clause names -/
def NamesL (X : Cx) : List Expr → List Value → Prop
  | [], [] => True
  | .Name x _ :: es, c :: cs => Names X x c ∧ NamesL X es cs
  | _, _ => False
def TestOf (X : Cx) : Expr → List Value → Prop
  | .Name x _, [c] => Names X x c
  | .Tuple es _ _, cs => NamesL X es cs ∧ cs.length ≤ sizeLine
  | _, _ => False
section
variable {X : Cx} {pins : List (Addr × Obj)} {σ : L2.St} {H : Hp} {s : Shared} {E : Value → Shared → Prop}
theorem name_run {x : Str} {c : Value} {np : Pos} {Q : Value → Shared → Prop} (I : Inv X pins σ H s) (hc : Names X x c) (q : Q c s) : wpAny (model X.prog X.w) X.A (eval (.Name x np) X.env) Q E s := by
  obtain ⟨hg, hdbg, hm | ⟨hm, hv, hnn⟩⟩ := hc
  · exact ld_glob I hg hm q hdbg
  · exact ld_blt I hg hm hv q hnn hdbg
theorem names_run {pos : Pos} (I : Inv X pins σ H s) : ∀ (es : List Expr) (cs : List Value) (Q : List Value → Shared → Prop), NamesL X es cs → Q cs s → wpAny (model X.prog X.w) X.A (spliced (backTo pos (starEach es X.env))) Q E s
  | [], [], Q, _, q => Calls.spliced_nil q
  | [], _ :: _, Q, h, _ => h.elim
  | e :: es, cs, Q, h, q => by
    cases e with
    | Name x np =>
      cases cs with
      | nil => exact h.elim
      | cons c cs =>
        obtain ⟨h1, h2⟩ := h
        show wpAny _ _ (spliced ((false, eval (.Name x np) X.env) :: backTo pos (starEach es X.env))) _ _ s
        exact Calls.spliced_cons (name_run I h1 (names_run I es cs _ h2 q))
    | _ => cases cs <;> exact h.elim
theorem test_run {test : Expr} {cs : List Value} {cls : Value} {a : Addr} {b : Bool} {Q : Value → Shared → Prop} (I : Inv X pins σ H s) (ht : TestOf X test cs) (LT : PySem.W.Looks (model X.prog X.w) s.heap (typeOf (.ref a)) cls) (hx : PySem.W.exmAny X.K cls cs = some b)
    (q : ∀ v h', (∀ b o, s.heap.get? b = some o → h'.get? b = some o) → PySem.W.Looks (model X.prog X.w) h' (excMatches (.ref a) v) b → Q v { s with heap := h' }) : wpAny (model X.prog X.w) X.A (eval test X.env) Q E s := by
  cases test with
  | Name x np =>
    match cs, ht with
    | [c], ht =>
      refine name_run I ht (q c s.heap (fun _ _ z => z) (PySem.W.exm_one I.kIn LT ?_))
      obtain ⟨b1, d1, x1, y1, z1⟩ := PySem.W.exmAny_cons hx
      cases y1
      rw [x1, z1, Bool.or_false]
  | Tuple es k pos =>
    refine wpAny_Tuple_spliced (names_run I es cs _ ht.1 ⟨ht.2, ?_⟩)
    have up : ∀ b o, s.heap.get? b = some o → (s.heap.push { cls := .type "tuple", data := .seq cs.toArray }).get? b = some o := fun b o z => Heap.get?_push_of_some _ z
    exact q _ _ up (PySem.W.exm_tup (I.kIn.keeps up) (LT.keeps up) (Heap.get?_push_size _ rfl) hx)
  | _ => exact ht.elim
/-- a pinned error is tracked from now on -/
theorem _root_.L2.Inv.track {a : Addr} {oe : Obj} {vs : Array Value} {cls : Value} {d : Option Addr} (I : Inv X ((a, oe) :: pins) σ H s) (hz : Zc cls d oe) (hd : oe.data = .fields vs) (h0 : X.s_0.heap.get? a = none) (hp : ∀ p ∈ X.pn ++ pins, p.1 ≠ a) : Inv X pins σ (upd H a (ExK cls d a)) s := by
  obtain ⟨ha, na, nL, nF, nc⟩ := I.pin (a, oe) (by simp)
  have na : H a = none := na
  have ne0 : ∀ b o, X.s_0.heap.get? b = some o → b ≠ a := fun b o z e => by rw [e, h0] at z; cases z
  refine ⟨I.ok, I.os, I.bare, ⟨I.base.keep, I.base.slot, fun b o z n hx => ?_, I.base.there, fun b xs z => ?_, fun b o u z => ?_, fun b ps z => ?_⟩, I.loc, I.cell, ?_, fun x c e => ?_, fun p hpp => ?_, fun b u z => ?_, I.len⟩
  · rw [upd_ne (ne0 b o z)]; exact I.base.free b o z n hx
  · have q := I.base.tups b xs z
    rw [upd_ne (ne_of_none q na)]; exact q
  · have q := I.base.frzs b o u z
    rw [upd_ne (ne_of_none q na)]; exact q
  · obtain ⟨m, q⟩ := I.base.tbls b ps z
    exact ⟨m, by rw [upd_ne (ne_of_none q na)]; exact q⟩
  · rw [upd_ne (Ne.symm nL)]; exact I.free
  · obtain ⟨v, o, ho, hv⟩ := I.cell x c e
    have hc : c ≠ a := fun z => by
      rw [z] at ho
      have ha' : s.heap.get? a = some oe := ha
      rw [ha'] at ho
      cases ho
      rw [hd] at hv
      cases hv
    rw [upd_ne hc]; exact I.freeC x c e
  · obtain ⟨e, n, r⟩ := I.pin p (by
      rcases List.mem_append.mp hpp with h | h
      · exact List.mem_append_left _ h
      · exact List.mem_append_right _ (List.mem_cons_of_mem _ h))
    exact ⟨e, by rw [upd_ne (hp p hpp)]; exact n, r⟩
  · by_cases hb : b = a
    · subst hb
      rw [upd_same] at z
      cases z
      exact exK_ok ha hz hd
    · rw [upd_ne hb] at z
      exact (I.hok b u z).stay (fun c v _ q => q) (fun c q => by rw [upd_ne (ne_of_none q na)]; exact q) fun c xs q => by rw [upd_ne (ne_of_none q na)]; exact q
end
end G
set_option Elab.async false
set_option linter.all false
set_option maxRecDepth 100000
set_option maxHeartbeats 2000000
/-! GX4: the rule of try .. except (..) as n: y = n. -/
namespace G
open PySem L2 PyProof.Rows
theorem flying_keeps {B h h' : Heap} {l : List PySem.Env} {a : Addr} {Z : Obj → Prop} (f : HandSPX.FlyingZ B l a Z h) (k : ∀ b o, h.get? b = some o → h'.get? b = some o) : HandSPX.FlyingZ B l a Z h' := by
  obtain ⟨f1, f2, f3, oe, vs, T, oT, ts, g1, g2, g3, g4, g5, g6, g7, g8, g9⟩ := f
  exact ⟨fun b o z => k b o (f1 b o z), f2, Heap.FunFrames.of_keeps (fun b o z _ => ⟨o, k b o z, rfl⟩) f3, oe, vs, T, oT, ts, k _ _ g1, g2, g3, g4, g5, g6, k _ _ g7, g8, g9⟩
theorem namesL_to {X Y : Cx} (he : Y.env = X.env) (hm : Y.mg = X.mg) : ∀ (es : List Expr) (cs : List Value), NamesL X es cs → NamesL Y es cs
  | [], [], h => h
  | [], _ :: _, h => h
  | e :: es, cs, h => by
    cases e with
    | Name x np =>
      cases cs with
      | nil => exact h.elim
      | cons c cs =>
        refine ⟨?_, namesL_to he hm es cs h.2⟩
        have h1 := h.1
        unfold Names Gl at h1 ⊢
        rw [he, hm]
        exact h1
    | _ => cases cs <;> exact h.elim
theorem testOf_to {X Y : Cx} (he : Y.env = X.env) (hm : Y.mg = X.mg) {test : Expr} {cs : List Value} (h : TestOf X test cs) : TestOf Y test cs := by
  cases test with
  | Name x np =>
    match cs, h with
    | [c], h =>
      unfold TestOf Names Gl at h ⊢
      rw [he, hm]
      exact h
  | Tuple es k pos => exact ⟨namesL_to he hm es cs h.1, h.2⟩
  | _ => exact h.elim
/-- what the clause wishes of an error of the body: n in slot i, y in slot j -/
def wX (K : PySem.W.Frag) (cs : List Value) (i j : Nat) (Wout : WX) (D : Ends) : WX := fun cls d σ H =>
  ∃ b, PySem.W.exmAny K cls cs = some b ∧ (b = true → ∀ a, H a = none → D.nx (((σ.set i (some (.ref a))).set j (some (.ref a))).set i none) (upd H a (ExK cls d a))) ∧ (b = false → Wout cls d σ H)
section
variable {X : Cx} {n y : Str} {cs : List Value} {i j : Nat} {body : List Stmt} {test : Expr} {py pn pa pos pos' : Pos} {tb : WX → TS} {Wout : WX}
theorem ps_tryX (hs : X.stack = X.env :: X.outer) (hf : X.env.frame = some X.env.locals) (hex : X.ex = []) (hN : X.N.Nodup) (hi : X.N[i]? = some n) (hj : X.N[j]? = some y) (hln : X.env.kindOf n = some .local) (hly : X.env.kindOf y = some .local) (ndb : (n == ("__debug__" : Str)) = false) (ncd : (n == ("__classdict__" : Str)) = false) (ht : TestOf X test cs) (tk : Takes X Wout)
    (hb : ∀ (W : WX) (pn : List (Addr × Obj)) (xe : Value → Shared → Prop), Takes (X.tr pn xe) W → PassesOwn (model X.prog X.w) X.A X.env xe → PSs (X.tr pn xe) body (tb W)) :
    PS X (.Try body [.ExceptHandler (some test) (some n) [.Assign [.Name y py] (.Name n pn) pa] pos'] [] [] pos) (fun D σ H => tb (wX X.K cs i j Wout D) D σ H) := by
  refine ⟨fun pins s σ H D I h => ?_⟩
  have ok := I.ok
  have hfr : X.A.frames = some (X.env :: X.outer) := by rw [ok.frames, hs]
  have hloc : Loc X.env.scope n := .inl hln
  have hlocy : Loc X.env.scope y := .inl hly
  refine wpAny_Try_except ?_
  refine wpAny_mono ((hb (wX X.K cs i j Wout D) (X.pn ++ pins) (fun e s₁ => wpAny (model X.prog X.w) X.A (noteFrame e X.env) (fun _ s₂ => wpAny (model X.prog X.w) X.A (setFlight e none) (fun _ s₃ =>
    wpAny (model X.prog X.w) X.A (handleBy e X.env [.ExceptHandler (some test) (some n) [.Assign [.Name y py] (.Name n pn) pa] pos']) (SP X pins D) X.xe s₃) X.xe s₂) X.xe s₁) (fun u s' xx => ?_) PassesOwn.looking).run [] s σ H D (I.toTry _) h) (fun f s1 hsp => ?_) (fun e s1 he => he)
  · obtain ⟨a, B, sI, pins', σ', H', cls, d, rfl, J', nb, up, sky, na, os, ag, b, hb1, hyes, hno⟩ := xx
    have J : Inv X pins σ' H' sI := J'.ofTry ok
    have sky' : Sky B (X.env :: X.outer) a (Zc cls d) X.env.locals s'.heap := by rw [← hs]; exact sky
    show wpAny (model X.prog X.w) X.A (noteFrame (.ref a) X.env) _ _ _
    refine Sky.land Zc.steady hfr hf sky' fun h3 fl3 up3 => ?_
    have J3 : Inv X pins σ' H' { s' with heap := h3 } := J.landed nb fl3.1 (up.trans up3) os ag
    obtain ⟨oe3, vs3, he3, hz3, hd3⟩ := fl3.there
    have notFr : ∀ {h : Heap} {o : Obj} {vs : Array Value}, h.FunFrames B (X.env :: X.outer) → h.get? a = some o → o.data = .fields vs → a ∉ frs (X.env :: X.outer) := fun {h o vs} ff e dd hm => by
      obtain ⟨_, o', e', hnf⟩ := ff.mem hm
      rw [e] at e'; cases e'
      exact hnf _ dd
    have nfr := notFr fl3.2.2.1 he3 hd3
    have nL : a ≠ X.env.locals := fun z => nfr (List.mem_filterMap.mpr ⟨X.env, List.mem_cons_self, by rw [hf, z]⟩)
    have nF : a ∉ X.fs := fun hm => by
      obtain ⟨e, he, q⟩ := List.mem_filterMap.mp hm
      exact nfr (List.mem_filterMap.mpr ⟨e, List.mem_cons_of_mem _ he, q⟩)
    have nI : sI.heap.get? a = none := by
      cases z : sI.heap.get? a with
      | none => rfl
      | some o =>
        have q := nb a o z (by rw [hs]; exact nfr)
        rw [fl3.2.1] at q
        cases q
    have n0 : X.s_0.heap.get? a = none := by
      cases z : X.s_0.heap.get? a with
      | none => rfl
      | some o =>
        obtain ⟨o', q⟩ := J.base.there a o z (by rw [hex]; exact fun z => nomatch z)
        rw [nI] at q
        cases q
    have nP : ∀ p ∈ X.pn ++ pins, p.1 ≠ a := fun p hp z => by
      have q := (J.pin p hp).1
      rw [z, nI] at q
      cases q
    have S3 := J3.suite he3 hd3 na nL nF
    refine wpAny_handleBy_cons (codeAny_handlers_test ?_) (by intro q; cases q)
    have LT : PySem.W.Looks (model X.prog X.w) h3 (typeOf (.ref a)) cls := fun A Q E s k q => wpAny_typeOf_ref (k _ _ he3) (by rw [hz3.1]; exact q)
    refine test_run (X := X.suite a ((a, oe3) :: (X.pn ++ pins))) (s := { s' with heap := h3 }) (cs := cs) (a := a) (b := b) S3 ?_ LT hb1 fun v h4 k4 LM => ?_
    · exact testOf_to (X := X) (Y := X.suite a ((a, oe3) :: (X.pn ++ pins))) rfl rfl ht
    have fl4 : HandSPX.FlyingZ B (X.env :: X.outer) a (Zc cls d) h4 := flying_keeps fl3 k4
    have up4 : sI.heap.UpToSlots h4 := (up.trans up3).trans (Heap.UpToSlots.of_keeps k4)
    refine LM.here ?_
    cases b with
    | true =>
      refine codeAny_handlers_suite_as ?_
      refine HandSPX.lands_againZ fl4 fun h5 fl5 up5 => ?_
      have J5 : Inv X pins σ' H' { s' with heap := h5 } := J.landed nb fl5.1 (up4.trans up5) os ag
      obtain ⟨oe5, vs5, he5, hz5, hd5⟩ := fl5.there
      have S5 := J5.suite he5 hd5 na nL nF
      have nij : X.N.Nodup := hN
      refine store_ok (X := X.suite a ((a, oe5) :: (X.pn ++ pins))) (v := .ref a) S5 hN hi hloc rfl (fun s6 S6 => ?_) (.inr hln)
      have suite : PSs (X.suite a ((a, oe5) :: (X.pn ++ pins))) [.Assign [.Name y py] (.Name n pn) pa] (tSeq (tAsg (tVar i) (gName j)) tNext) :=
        pss_cons (ps_set hN hj hlocy (pe_var hi (.inl hln) ndb ncd) rfl (.inr hly)) pss_nil
      have hlt : i < σ'.length := by rw [J5.len]; exact (List.getElem?_eq_some_iff.mp hi).1
      refine wpAny_mono (suite.run [] s6 _ H' { nx := fun σ7 H7 => σ7 = (σ'.set i (some (.ref a))).set j (some (.ref a)) ∧ H7 = H', rt := fun _ _ => False, bk := fun _ _ => False, ct := fun _ _ => False } S6 ⟨.ref a, List.getElem?_set_self hlt, rfl, rfl⟩) (fun f s7 hsp => ?_) (fun _ _ z => False.elim z)
      cases f with
      | next =>
        obtain ⟨σ7, H7, S7, rfl, rfl⟩ := hsp
        have P7 : Inv X ((a, oe5) :: pins) ((σ'.set i (some (.ref a))).set j (some (.ref a))) H7 s7 := ⟨ok, S7.os, S7.bare, S7.base, S7.loc, S7.cell, S7.free, S7.freeC, fun p hp => S7.pin p (by
          rw [List.append_nil]
          rcases List.mem_append.mp hp with z | z
          · exact List.mem_cons_of_mem _ (List.mem_append_left _ z)
          · rcases List.mem_cons.mp z with z | z
            · rw [z]; exact List.mem_cons_self
            · exact List.mem_cons_of_mem _ (List.mem_append_right _ z)), S7.hok, S7.len⟩
        refine gone_ok P7 hN hi hln fun s8 J8 => ?_
        exact ⟨_, _, J8.track hz5 hd5 n0 nP, hyes rfl a na⟩
      | brk => obtain ⟨_, _, _, q⟩ := hsp; exact q.elim
      | cont => obtain ⟨_, _, _, q⟩ := hsp; exact q.elim
      | ret u => obtain ⟨_, _, _, _, _, q⟩ := hsp; exact q.elim
    | false =>
      show wpAny _ X.A (handleBy (.ref a) X.env []) _ _ _
      refine wpAny_handleBy_nil ?_
      obtain ⟨k1, k2, k3, oe, vs, T, oT, ts', he, hz, hd, h1, hr⟩ := id fl4
      unfold PySem.passOn
      refine wpAny_bind (wpAny_field he hd h1 ?_)
      rw [if_neg (show ¬ ((Value.ref T == Value.none) = true) from by simp)]
      have fin : wpAny (model X.prog X.w) X.A (setFlight (.ref a) X.env.frame) (fun _ s4 => wpAny (model X.prog X.w) X.A (throw (.ref a) : Sem Flow) (SP X pins D) X.xe s4) X.xe { s' with heap := h4 } := by
        rw [hf]
        refine HandSPX.setFlight_upZ fl4 fun h5 hh5 up5 => wpAny_throw (tk _ _ ?_)
        exact ⟨a, B, sI, pins, σ', H', cls, d, rfl, J, nb, up4.trans up5, .inr (.inr (by rw [hs]; exact hh5)), na, os, ag, hno rfl⟩
      first
        | exact wpAny_bind (wpAny_pure (wpAny_bind fin))
        | exact wpAny_bind fin
  · cases f with
    | next =>
      obtain ⟨σ', H', J', q⟩ := hsp
      exact wpAny_execs_nil ⟨σ', H', J'.ofTry ok, q⟩
    | brk =>
      obtain ⟨σ', H', J', q⟩ := hsp
      exact ⟨σ', H', J'.ofTry ok, q⟩
    | cont =>
      obtain ⟨σ', H', J', q⟩ := hsp
      exact ⟨σ', H', J'.ofTry ok, q⟩
    | ret u =>
      obtain ⟨v, σ', H', J', r, q⟩ := hsp
      exact ⟨v, σ', H', J'.ofTry ok, r, q⟩
end
end G
set_option Elab.async false
set_option linter.all false
set_option maxRecDepth 100000
set_option maxHeartbeats 2000000
/-! GX5: a tracked error asked: isinstance, its field. -/
namespace G
open PySem L2 PyProof.Rows
/-- what the head must tell of a class of errors -/
structure XCl (K : PySem.W.Frag) (C : Addr) : Prop where
  cl : (PySem.W.clsIn K C).isSome = true
  ga : PySem.W.findIn K (.ref C) "__getattribute__" = some (some (.builtin "BaseException.__getattribute__"))
  gt : PySem.W.findIn K (.ref C) "__getattr__" = some none
  bex : PySem.W.subIn K (.ref C) (.type "BaseException") = some true
  ca : PySem.W.findIn K (.ref C) "__class__" = some (some (.builtin "object.__class__"))
  cn : PySem.W.specialIn K (.builtin "object.__class__") "__get__" = some (some (.builtin "getset_descriptor.__get__"))
  ct : PySem.W.takesIn K (.builtin "object.__class__") = some true
  cm : PySem.W.mroIn K C (.type "object") = some true
  hd : PySem.W.hasDictIn K C = true
section
variable {X : Cx} {pins : List (Addr × Obj)} {σ : L2.St} {H : Hp} {s : Shared}
theorem exK_at {a C : Addr} {d : Option Addr} (I : Inv X pins σ H s) (h : H a = some (ExK (.ref C) d a)) : ∃ (oe : Obj) (vs : Array Value), s.heap.get? a = some oe ∧ Zc (.ref C) d oe ∧ oe.data = .fields vs := by
  obtain ⟨q, _, _⟩ := I.hok a _ h
  exact q
/-- .. its dict -/
def DdOk (H : Hp) (d : Option Addr) : Prop := ∀ p, d = some p → ∃ fs, H p = some (.xd fs)
theorem exK_inst {a C : Addr} {d : Option Addr} (I : Inv X pins σ H s) (h : H a = some (ExK (.ref C) d a)) (hd : DdOk H d) : ∃ (oe : Obj) (od : Option Obj), PySem.W.InstAt s.heap a oe C od := by
  obtain ⟨oe, vs, e1, e2, e3⟩ := exK_at I h
  have nc : PySem.W.notCls oe = true := by unfold PySem.W.notCls; rw [e3] <;> rfl
  cases d with
  | none => exact ⟨oe, none, e1, e2.1, nc, by rw [e2.2]; trivial⟩
  | some p =>
    obtain ⟨fs, hp⟩ := hd p rfl
    obtain ⟨mA, hns, _⟩ := I.hok p _ hp
    obtain ⟨od, ho, _⟩ := lookIn_ns hns
    exact ⟨oe, some od, e1, e2.1, nc, by rw [e2.2]; exact ho⟩
/-- isinstance(e, C) -/
def rIsX (K : PySem.W.Frag) : List V → Hp → VK → Prop := fun xs H Q => ∃ (a C : Addr) (d : Option Addr) (c : V) (u : Value) (b : Bool), xs = [.ref a, c] ∧ (∀ v, RelV c v → v = u) ∧ H a = some (ExK (.ref C) d a) ∧ DdOk H d ∧ XCl K C ∧ PySem.W.kitOne K (.ref C) u = some b ∧ Q (.bl b) H
/-- isinstance(e, (C, ..)) -/
def rIsXT (K : PySem.W.Frag) : List V → Hp → VK → Prop := fun xs H Q => ∃ (a C : Addr) (d : Option Addr) (tp : Addr) (cs : List V) (us : List Value) (b : Bool), xs = [.ref a, .ref tp] ∧ H tp = some (.tup cs) ∧ (∀ vs, Vals cs vs → vs = us) ∧ H a = some (ExK (.ref C) d a) ∧ DdOk H d ∧ XCl K C ∧ PySem.W.kitAny K (.ref C) us = some b ∧ Q (.bl b) H
theorem call_isX : CallR X (.builtin "isinstance") (rIsX X.K) := by
  intro pins s σ H xs us Q I r h
  obtain ⟨a, C, d, c, u, b, rfl, hu, ha, hd, T, e, q⟩ := h
  cases r with
  | cons rx rr =>
    cases rr with
    | cons rt rr =>
      cases rr
      cases rx
      have eu := hu _ rt
      subst eu
      obtain ⟨oe, od, J⟩ := exK_inst I ha hd
      exact PySem.W.kia_one (PySem.W.kitx_exc T.cl T.ga T.gt T.bex T.ca T.cn T.ct T.cm) I.kIn J e (fun z => nomatch z) fun tk => ⟨.bl b, H, I.kept (t' := tk) fun _ _ z => z, rfl, q⟩
theorem call_isXT : CallR X (.builtin "isinstance") (rIsXT X.K) := by
  intro pins s σ H xs us Q I r h
  obtain ⟨a, C, d, tp, cs, ws, b, rfl, ht, hu, ha, hd, T, e, q⟩ := h
  cases r with
  | cons rx rr =>
    cases rr with
    | cons rt rr =>
      cases rr
      cases rx
      cases rt
      obtain ⟨oe, od, J⟩ := exK_inst I ha hd
      obtain ⟨_, its, rv, o, ho, hc, n, hdt⟩ := I.hok tp _ ht
      have ei := hu _ rv
      subst ei
      obtain ⟨oc, odd, oda, osl⟩ := o
      dsimp only at hc hdt
      subst hc hdt
      exact PySem.W.kia_tup (PySem.W.kitx_exc T.cl T.ga T.gt T.bex T.ca T.cn T.ct T.cm) I.kIn J ho e (fun z => nomatch z) fun tk => ⟨.bl b, H, I.kept (t' := tk) fun _ _ z => z, rfl, q⟩
/-- e.f -/
def tXF (K : PySem.W.Frag) (f : Str) (te : TE) : TE := fun σ H Q => te σ H fun x H1 => ∃ (a C dd : Addr) (fs : List (Str × V)) (v : V), x = .ref a ∧ H1 a = some (ExK (.ref C) (some dd) a) ∧ XCl K C ∧ PySem.W.findIn K (.ref C) f = some none ∧ H1 dd = some (.xd fs) ∧ fs.lookup f = some v ∧ Q v H1
theorem pe_XF {e : Expr} {te : TE} {pos : Pos} {n : Str} (he : PE X e te) (hb : attributeBase e n X.env (eval e X.env) = eval e X.env) : PE X (.Attribute e n pos) (tXF X.K n te) := by
  refine ⟨fun pins s σ H Q I h => ?_⟩
  refine attr_of hb (thn (he.run pins s σ H _ I h) fun u s1 hh => ?_)
  obtain ⟨x, H1, I1, rx, a, C, dd, fs, v, ex, ea, T, hno, ed, l, q⟩ := hh
  subst ex
  obtain rfl : u = Value.ref a := rx
  obtain ⟨oe, vs, e1, e2, e3⟩ := exK_at I1 ea
  have hx : ObjOk X.prog X.w H1 s1.heap dd (.xd fs) := I1.hok dd _ ed
  obtain ⟨mA, hns, hr⟩ := hx
  obtain ⟨od, ho, hl⟩ := lookIn_ns hns
  obtain ⟨u, hu, ru⟩ := RelO.some_of (v := v) (o := mA n) (by rw [← l]; exact hr n)
  have J : PySem.W.InstAt s1.heap a oe C (some od) := ⟨e1, e2.1, by unfold PySem.W.notCls; rw [e3] <;> rfl, by rw [e2.2]; exact ho⟩
  exact HandSPX.exc_get I1.kIn J T.ga T.gt T.bex (PySem.W.findObj_own T.hd hno rfl (by rw [hl, hu])) (handed_of ru) ⟨v, H1, I1.tok _, ru, q⟩
end
end G
set_option Elab.async false
set_option linter.all false
/-! G1: the IR, its data, its evaluator. -/
namespace G
open PySem

/-- data: None, bools, ints, texts, tuples, lists that nobody changes any more, the law's own argument -/
inductive D where
  | non | bl (b : Bool) | int (i : Int) | str (x : Str) | tup (ds : List D) | lst (ds : List D) | frz (ds : List D)
instance : Inhabited D := ⟨.non⟩
/-- a value: data, or a place in the store -/
inductive Val where
  | dat (d : D)
  | ref (n : Nat)
  | exc (c f : Str) (ds : List D)
instance : Inhabited Val := ⟨.dat .non⟩

inductive Cell where
  | dead
  | lst (ds : List D)
instance : Inhabited Cell := ⟨.dead⟩
abbrev Sto := List Cell

/-- an exception: its class by name, what it keeps -/
structure Exc where
  cls : Str
  fld : Str
  args : List D
inductive Out (α : Type) where
  | ok (a : α)
  | er (x : Exc)
def M (α : Type) : Type := Sto → Option (Out α × Sto)
def M.pure {α : Type} (a : α) : M α := fun μ => some (.ok a, μ)
def M.bind {α β : Type} (x : M α) (f : α → M β) : M β := fun μ => match x μ with
  | none => none
  | some (.er e, μ') => some (.er e, μ')
  | some (.ok a, μ') => f a μ'
def M.fail {α : Type} : M α := fun _ => none
/-- no exception may leave -/
def M.nox {α : Type} (x : M α) : M α := fun μ => match x μ with
  | some (.ok a, μ') => some (.ok a, μ')
  | _ => none
def M.ofOpt {α : Type} : Option α → M α
  | some a => M.pure a
  | none => M.fail
/-- b, or nothing -/
def M.when {α : Type} (b : Bool) (x : M α) : M α := match b with
  | true => x
  | false => M.fail
def M.dat (d : D) : M Val := M.pure (.dat d)

abbrev LINE : Nat := 16777216

def cellAt (n : Nat) : M Cell := fun μ => match μ[n]? with
  | some c => some (.ok c, μ)
  | none => none
def setCell (n : Nat) (c : Cell) : M Unit := fun μ => some (.ok (), μ.set n c)
def newCell (c : Cell) : M Val := fun μ => some (.ok (.ref μ.length), μ ++ [c])

def toD : Val → M D
  | .dat d => M.pure d
  | _ => M.fail
/-- the items of a sequence, and whether it is a list -/
def view : Val → M (Bool × List D)
  | .dat (.tup ds) => M.pure (false, ds)
  | .dat (.lst ds) => M.pure (true, ds)
  | .ref n => M.bind (cellAt n) fun
    | .lst ds => M.pure (true, ds)
    | _ => M.fail
  | _ => M.fail
def truth : Val → M Bool
  | .dat .non => M.pure false
  | .dat (.bl b) => M.pure b
  | .dat (.int i) => M.pure (i != 0)
  | .dat (.str x) => M.pure (!x.cps.isEmpty)
  | .dat (.tup ds) => M.pure (!ds.isEmpty)
  | .dat (.lst ds) => M.pure (!ds.isEmpty)
  | .dat (.frz _) => M.fail
  | .ref n => M.bind (cellAt n) fun
    | .lst ds => M.pure (!ds.isEmpty)
    | _ => M.fail
  | .exc _ _ _ => M.fail

inductive Bop where
  | add | sub | mul | fdiv | mod | pow | shl | shr | band | bor
  deriving DecidableEq
inductive Cop where
  | eq | ne | lt | le | gt | ge | isin | notin | iss | isnot
  deriving DecidableEq
inductive Ty where
  | int | bool | str | tuple | list
  deriving DecidableEq
inductive Blt where
  | len | abs | int | str | tuple | list | clist | all | any | sum | sorted
  deriving DecidableEq
inductive Mth where
  | append | pop | popAt
  deriving DecidableEq

/-- targets -/
inductive Tg where
  | nm (i : Nat)
  | tp (ts : Tg)
  | nil
  | cons (t ts : Tg)

/-- expressions; argument lists (nil, cons) and what a loop walks (sSeq ..) are of the same type -/
inductive Ex where
  | var (i : Nat)
  | cst (d : D)
  | glo (x : Str) (d : D)
  | nil
  | cons (e es : Ex)
  | tup (es : Ex)
  | lst (es : Ex)
  | clst (es : Ex)
  | bin (o : Bop) (a b : Ex)
  | inv (a : Ex)
  | neg (a : Ex)
  | cmp (o : Cop) (a b : Ex)
  | chn (o o' : Cop) (a b c : Ex)
  | and (a b : Ex)
  | or (a b : Ex)
  | not (a : Ex)
  | ite (c a b : Ex)
  | idx (a i : Ex)
  | slc (a lo hi : Ex)
  | call (f : Str) (es : Ex)
  | blt (b : Blt) (es : Ex)
  | mth (m : Mth) (o es : Ex)
  | isi (a : Ex) (ts : List Ty)
  | comp (elt : Ex) (tg : Tg) (src cond : Ex) (own : List Nat)
  | sset (e : Ex)
  | callk (f : Str) (ks : List Str) (perm : List Nat) (es : Ex)
  | cadd (a b : Ex)
  | snap (e : Ex)
  | rev (e : Ex)
  | isx (a : Ex) (ns : List Str) (tab : List (Str × Bool))
  | fld (a : Ex) (f : Str) (cs : List Str)
  | sSeq (e : Ex)
  | sRng (e : Ex)
  | sEnum (e : Ex)
  | sZip (a b : Ex)

abbrev Env := List (Option Val)
def look (ρ : Env) (i : Nat) : M Val := fun μ => match ρ[i]? with
  | some (some d) => some (.ok d, μ)
  | _ => none
/-- the block's own names forgotten -/
def wipeD (ρ : Env) : List Nat → Env
  | [] => ρ
  | v :: vs => (wipeD ρ vs).set v none

mutual
/-- an assignment to targets -/
def asg : Tg → Val → Env → Option Env
  | .nm i, d, ρ => some (ρ.set i (some d))
  | .tp ts, .dat (.tup ds), ρ => asgs ts ds ρ
  | _, _, _ => none
def asgs : Tg → List D → Env → Option Env
  | .nil, [], ρ => some ρ
  | .cons t ts, d :: ds, ρ => match asg t (.dat d) ρ with
    | some ρ' => asgs ts ds ρ'
    | none => none
  | _, _, _ => none
end

/-! ### operations -/
mutual
def D.eqv : D → D → Bool
  | .non, .non => true
  | .bl a, .bl b => a == b
  | .bl a, .int j => (if a then 1 else 0) == j
  | .int i, .bl b => i == (if b then 1 else 0)
  | .int i, .int j => i == j
  | .str x, .str y => x == y
  | .lst xs, .lst ys => D.eqvs xs ys
  | .tup xs, .tup ys => D.eqvs xs ys
  | _, _ => false
def D.eqvs : List D → List D → Bool
  | [], [] => true
  | x :: xs, y :: ys => D.eqv x y && D.eqvs xs ys
  | _, _ => false
end
mutual
def D.dep : D → Nat
  | .tup ds => D.deps ds + 1
  | .lst ds => D.deps ds + 1
  | .frz ds => D.deps ds + 1
  | _ => 0
def D.deps : List D → Nat
  | [] => 0
  | d :: ds => max d.dep (D.deps ds)
end
mutual
/-- no part of it is the law's own argument -/
def D.own : D → Bool
  | .tup ds => D.owns ds
  | .lst ds => D.owns ds
  | .frz _ => false
  | _ => true
def D.owns : List D → Bool
  | [] => true
  | d :: ds => d.own && D.owns ds
end
/-- data that can be compared -/
def D.cmpb (d : D) : Bool := d.own && Nat.ble d.dep 64

/-- what a value is as data, for a comparison -/
def asD : Val → M D
  | .dat d => M.pure d
  | .ref n => M.bind (cellAt n) fun
    | .lst ds => M.pure (.lst ds)
    | _ => M.fail
  | .exc _ _ _ => M.fail

def isW (i : Int) : Bool := decide (-(2 ^ 64) < i) && decide (i < 2 ^ 64)
def isP (i j : Int) : Bool := decide (0 ≤ j) && decide (j ≤ 1000000) && decide (i.natAbs < 2 ^ 64)
def ints2 (a b : Val) (f : Int → Int → M Val) : M Val := match a, b with
  | .dat (.int i), .dat (.int j) => f i j
  | _, _ => M.fail
def opAdd (a b : Val) : M Val := match a, b with
  | .dat (.int i), .dat (.int j) => M.dat (.int (i + j))
  | .dat (.str x), .dat (.str y) => M.when (Nat.ble (x.length + y.length) LINE) (M.dat (.str (x ++ y)))
  | .dat (.tup xs), .dat (.tup ys) => M.when (Nat.ble (xs.length + ys.length) LINE) (M.dat (.tup (xs ++ ys)))
  | a, b => M.bind (view a) fun p => M.bind (view b) fun q => M.when (p.1 && q.1 && Nat.ble (p.2.length + q.2.length) LINE) (M.dat (.lst (p.2 ++ q.2)))
def opMul (a b : Val) : M Val := match a, b with
  | .dat (.int i), .dat (.int j) => M.when (isW i || isW j) (M.dat (.int (i * j)))
  | .dat (.tup ds), .dat (.int j) => M.when (!ds.isEmpty && decide (2 ≤ j) && decide (j ≤ 1000) && Nat.ble ds.length 1000) (M.dat (.tup (List.replicate j.toNat ds).flatten))
  | .dat (.lst ds), .dat (.int j) => M.when (decide (0 ≤ j) && decide (j ≤ 1000) && Nat.ble ds.length 1000) (M.dat (.lst (List.replicate j.toNat ds).flatten))
  | _, _ => M.fail
def opBin : Bop → Val → Val → M Val
  | .add, a, b => opAdd a b
  | .sub, a, b => ints2 a b fun i j => M.dat (.int (i - j))
  | .mul, a, b => opMul a b
  | .fdiv, a, b => ints2 a b fun i j => M.when (decide (0 < j) && decide (j < 1073741824)) (M.dat (.int (i / j)))
  | .mod, a, b => ints2 a b fun i j => M.when (decide (0 < j)) (M.dat (.int (i % j)))
  | .pow, a, b => ints2 a b fun i j => M.when (isP i j) (M.dat (.int (i ^ j.toNat)))
  | .shl, a, b => ints2 a b fun i j => M.when (isP i j) (M.dat (.int (i * 2 ^ j.toNat)))
  | .shr, a, b => ints2 a b fun i j => M.when (decide (0 ≤ j)) (M.dat (.int (i / 2 ^ j.toNat)))
  | .band, a, b => ints2 a b fun i j => M.dat (.int (Builtin.bitAnd i j))
  | .bor, a, b => ints2 a b fun i j => M.dat (.int (Builtin.bitOr i j))

def eqM (a b : Val) (f : Bool → Bool) : M Val := M.bind (asD a) fun x => M.bind (asD b) fun y => M.when (x.cmpb && y.cmpb) (M.dat (.bl (f (D.eqv x y))))
def hasStr (j i : Str) : Bool := !(Builtin.Str.occurrences j i 0 j.length 1).isEmpty
def inM (a b : Val) (f : Bool → Bool) : M Val := match a, b with
  | .dat (.str i), .dat (.str j) => M.dat (.bl (f (hasStr j i)))
  | a, b => M.bind (asD a) fun x => M.bind (view b) fun p => M.when (x.cmpb && p.2.all D.cmpb) (M.dat (.bl (f (p.2.any fun y => D.eqv y x))))
def strLt (i j : Str) : Bool := Spec.ltCps i.cps.toList j.cps.toList
def ltM (a b : Val) (f : Int → Int → Bool) (g : Option (Str → Str → Bool)) : M Val := match a, b with
  | .dat (.int i), .dat (.int j) => M.dat (.bl (f i j))
  | .dat (.str i), .dat (.str j) => match g with
    | some g => M.dat (.bl (g i j))
    | none => M.fail
  | _, _ => M.fail
def isNone : Val → Bool
  | .dat .non => true
  | _ => false
def isM (a b : Val) (f : Bool → Bool) : M Val := match a, b with
  | .dat (.bl i), .dat (.bl j) => M.dat (.bl (f (decide (i = j))))
  | a, b => M.when (isNone b) (M.dat (.bl (f (isNone a))))
def opCmp : Cop → Val → Val → M Val
  | .eq, a, b => eqM a b id
  | .ne, a, b => eqM a b not
  | .lt, a, b => ltM a b (fun i j => decide (i < j)) (some strLt)
  | .le, a, b => ltM a b (fun i j => decide (i ≤ j)) none
  | .gt, a, b => ltM a b (fun i j => decide (j < i)) none
  | .ge, a, b => ltM a b (fun i j => decide (j ≤ i)) none
  | .isin, a, b => inM a b id
  | .notin, a, b => inM a b not
  | .iss, a, b => isM a b id
  | .isnot, a, b => isM a b not

def opIdx (a i : Val) : M Val := match a, i with
  | .dat (.str z), .dat (.int k) => M.bind (M.ofOpt (L2.atI z.cps.toList k)) fun c => M.dat (.str ⟨#[c]⟩)
  | .dat (.frz ds), .dat (.int k) => M.bind (M.ofOpt (L2.atI ds k)) M.dat
  | a, .dat (.int k) => M.bind (view a) fun p => M.bind (M.ofOpt (L2.atI p.2 k)) M.dat
  | _, _ => M.fail
def cut {α : Type} (xs : List α) (lo hi : Option Int) : List α := (xs.drop (HT.sIx xs.length 0 lo)).take (HT.sIx xs.length xs.length hi - HT.sIx xs.length 0 lo)
def opCut (a : Val) (lo hi : Option Int) : M Val := match a with
  | .dat (.tup ds) => M.dat (.tup (cut ds lo hi))
  | .dat (.frz ds) => M.dat (.lst (cut ds lo hi))
  | a => M.bind (view a) fun p => M.when p.1 (M.dat (.lst (cut p.2 lo hi)))
def part? : List Val → M (Option Int)
  | [] => M.pure none
  | [.dat (.int i)] => M.pure (some i)
  | _ => M.fail

def boolsOf : List D → Option (List Bool)
  | [] => some []
  | .bl b :: r => match boolsOf r with
    | some bs => some (b :: bs)
    | none => none
  | _ :: _ => none
def intsOf : List D → Option (List Int)
  | [] => some []
  | .int b :: r => match intsOf r with
    | some bs => some (b :: bs)
    | none => none
  | _ :: _ => none
def strsOf : List D → Option (List Str)
  | [] => some []
  | .str b :: r => match strsOf r with
    | some bs => some (b :: bs)
    | none => none
  | _ :: _ => none
def ins {α : Type} (le : α → α → Bool) (x : α) : List α → List α
  | [] => [x]
  | y :: r => if le x y then x :: y :: r else y :: ins le x r
def isort {α : Type} (le : α → α → Bool) : List α → List α
  | [] => []
  | x :: r => ins le x (isort le r)
def strLe (i j : Str) : Bool := !strLt j i
def sortD (ds : List D) : Option (List D) := match intsOf ds with
  | some ns => some ((isort (fun i j => decide (i ≤ j)) ns).map .int)
  | none => match strsOf ds with
    | some xs => some ((isort strLe xs).map .str)
    | none => none

def bLen (a : Val) : M Val := match a with
  | .dat (.str z) => M.dat (.int z.length)
  | .dat (.frz ds) => M.dat (.int ds.length)
  | a => M.bind (view a) fun p => M.dat (.int p.2.length)
def bAbs (a : Val) : M Val := match a with
  | .dat (.int i) => M.dat (.int (if i < 0 then -i else i))
  | _ => M.fail
def bInt (a : Val) : M Val := match a with
  | .dat (.int i) => M.dat (.int i)
  | .dat (.bl k) => M.dat (.int (if k then 1 else 0))
  | _ => M.fail
def bStr (a : Val) : M Val := match a with
  | .dat (.int i) => M.when (decide (i.natAbs.log2 < 1920)) (M.dat (.str (toString i)))
  | _ => M.fail
def opB1 : Blt → Val → M Val
  | .len, a => bLen a
  | .abs, a => bAbs a
  | .int, a => bInt a
  | .str, a => bStr a
  | .tuple, a => M.bind (view a) fun p => M.dat (.tup p.2)
  | .list, a => M.bind (view a) fun p => M.dat (.lst p.2)
  | .clist, a => M.bind (view a) fun p => newCell (.lst p.2)
  | .all, a => M.bind (view a) fun p => M.when p.1 (M.bind (M.ofOpt (boolsOf p.2)) fun bs => M.dat (.bl (bs.all id)))
  | .any, a => M.bind (view a) fun p => M.when p.1 (M.bind (M.ofOpt (boolsOf p.2)) fun bs => M.dat (.bl (bs.any id)))
  | .sum, a => M.bind (view a) fun p => M.when p.1 (M.bind (M.ofOpt (intsOf p.2)) fun bs => M.dat (.int bs.sum))
  | .sorted, a => M.bind (view a) fun p => M.when (p.1 && Nat.blt p.2.length 64) (M.bind (M.ofOpt (sortD p.2)) fun ds => M.dat (.lst ds))
def opBlt (b : Blt) (ws : List Val) : M Val := match ws with
  | [a] => opB1 b a
  | _ => M.fail

/-- a list of the store -/
def liveL : Val → M Unit
  | .ref n => M.bind (cellAt n) fun
    | .lst _ => M.pure ()
    | _ => M.fail
  | _ => M.fail
def opMth : Mth → Val → List Val → M Val
  | .append, .ref n, [.dat d] => M.bind (cellAt n) fun
    | .lst ds => M.when (Nat.blt ds.length LINE) (M.bind (setCell n (.lst (ds ++ [d]))) fun _ => M.dat .non)
    | _ => M.fail
  | .pop, .ref n, [] => M.bind (cellAt n) fun
    | .lst ds => M.bind (M.ofOpt (ds[ds.length - 1]?)) fun d => M.bind (setCell n (.lst ds.dropLast)) fun _ => M.dat d
    | _ => M.fail
  | .popAt, .ref n, [.dat (.int i)] => M.bind (cellAt n) fun
    | .lst ds => M.when (decide (0 ≤ i) && decide (i < 2 ^ 62)) (M.bind (M.ofOpt (ds[i.toNat]?)) fun d => M.bind (setCell n (.lst (ds.eraseIdx i.toNat))) fun _ => M.dat d)
    | _ => M.fail
  | _, _, _ => M.fail

def isTy : Val → Ty → Option Bool
  | .dat (.bl _), t => some (t == .bool || t == .int)
  | .dat (.int _), t => some (t == .int)
  | .dat (.str _), t => some (t == .str)
  | .dat .non, _ => some false
  | .dat (.tup _), t => some (t == .tuple)
  | .dat (.lst _), t => some (t == .list)
  | .dat (.frz _), _ => none
  | .ref _, _ => none
  | .exc _ _ _, _ => none
def isTys (a : Val) : List Ty → Option Bool
  | [] => some false
  | t :: ts => match isTy a t with
    | some true => some true
    | some false => isTys a ts
    | none => none

/-- the elements of a comprehension -/
def compM (tg : Tg) (cond : Env → M Bool) (elt : Env → M Val) (ρ : Env) : List D → M (List D)
  | [] => M.pure []
  | x :: r => M.bind (M.ofOpt (asg tg (.dat x) ρ)) fun ρ' => M.bind (cond ρ') fun c => match c with
    | true => M.bind (elt ρ') fun v => M.bind (toD v) fun y => M.bind (compM tg cond elt ρ r) fun ys => M.pure (y :: ys)
    | false => compM tg cond elt ρ r
def enumFrom (k : Nat) : List D → List D
  | [] => []
  | d :: ds => .tup [.int k, d] :: enumFrom (k + 1) ds
def zipD : List D → List D → List D
  | x :: xs, y :: ys => .tup [x, y] :: zipD xs ys
  | _, _ => []
def signs (z : Str) : List D := z.cps.toList.map fun c => .str ⟨#[c]⟩
def rangeD (n : Nat) : List D := (List.range n).map fun (i : Nat) => D.int (i : Int)
def seqItems : Val → M (List D)
  | .dat (.tup ds) => M.pure ds
  | .dat (.lst ds) => M.pure ds
  | .dat (.str z) => M.pure (signs z)
  | _ => M.fail
/-- of a sequence that nobody changes -/
def snapItems : Val → M (Bool × List D)
  | .dat (.tup ds) => M.pure (false, ds)
  | .dat (.lst ds) => M.pure (true, ds)
  | _ => M.fail
def toDs : List Val → M (List D)
  | [] => M.pure []
  | v :: vs => M.bind (toD v) fun d => M.bind (toDs vs) fun ds => M.pure (d :: ds)

def chnM (o o' : Cop) (fc : Env → M Val) (ρ : Env) (x y : Val) : M Val := M.bind (opCmp o x y) fun p => match p with
  | .dat (.bl true) => M.bind (fc ρ) fun z => opCmp o' y z
  | .dat (.bl false) => M.dat (.bl false)
  | _ => M.fail
def andM (fa fb : Env → M Val) (ρ : Env) : M Val := M.bind (fa ρ) fun x => M.bind (truth x) fun t => match t with
  | true => fb ρ
  | false => M.pure x
def orM (fa fb : Env → M Val) (ρ : Env) : M Val := M.bind (fa ρ) fun x => M.bind (truth x) fun t => match t with
  | true => M.pure x
  | false => fb ρ
def iteM (fc fa fb : Env → M Val) (ρ : Env) : M Val := M.bind (fc ρ) fun x => M.bind (truth x) fun t => match t with
  | true => fa ρ
  | false => fb ρ
def rngM (v : Val) : M (List Val) := match v with
  | .dat (.int j) => M.when (decide (j ≤ 16777216) && decide (-16777216 ≤ j)) (M.pure ((rangeD j.toNat).map .dat))
  | _ => M.fail
def dedupS (ns : List Str) : List Str := ns.foldl (fun ks k => if k ∈ ks then ks else k :: ks) []
/-- sorted(set(t)) -/
def ssetM (v : Val) : M Val := match v with
  | .dat (.tup ds) => M.bind (M.ofOpt (strsOf ds)) fun ss => M.when (Nat.blt ss.length 64) (M.dat (.lst ((isort strLe (dedupS ss)).map .str)))
  | _ => M.fail
def permL {α : Type} (perm : List Nat) (vs : List α) : List α := perm.filterMap fun i => vs[i]?
/-- list + list, a new list that will change -/
def caddM (a b : Val) : M Val := M.bind (view a) fun p => M.bind (view b) fun q => M.when (p.1 && q.1 && Nat.ble (p.2.length + q.2.length) LINE) (newCell (.lst (p.2 ++ q.2)))
/-- nobody changes it from now on -/
def snapM (v : Val) : M Val := match v with
  | .dat d => M.dat d
  | .ref n => M.bind (cellAt n) fun
    | .lst ds => M.bind (setCell n .dead) fun _ => M.dat (.lst ds)
    | _ => M.fail
  | .exc _ _ _ => M.fail
def revM (v : Val) : M Val := match v with
  | .dat (.tup ds) => M.dat (.tup ds.reverse)
  | v => M.bind (view v) fun p => M.when p.1 (M.dat (.lst p.2.reverse))
/-- isinstance of an error -/
def isxM (tab : List (Str × Bool)) (v : Val) : M Val := match v with
  | .exc c _ _ => M.bind (M.ofOpt (tab.lookup c)) fun b => M.dat (.bl b)
  | _ => M.fail
/-- what an error keeps -/
def fldM (f : Str) (cs : List Str) (v : Val) : M Val := match v with
  | .exc c g [d] => M.when (g == f && cs.contains c) (M.dat d)
  | _ => M.fail
section
variable (φ : Str → List Val → M Val)
mutual
def ev : Ex → Env → M Val
  | .var i, ρ => look ρ i
  | .cst d, _ => M.dat d
  | .glo _ d, _ => M.dat d
  | .tup es, ρ => M.bind (evL es ρ) fun vs => M.bind (toDs vs) fun ds => M.when (Nat.ble ds.length LINE) (M.dat (.tup ds))
  | .lst es, ρ => M.bind (evL es ρ) fun vs => M.bind (toDs vs) fun ds => M.when (Nat.ble ds.length LINE) (M.dat (.lst ds))
  | .clst es, ρ => M.bind (evL es ρ) fun vs => M.bind (toDs vs) fun ds => M.when (Nat.ble ds.length LINE) (newCell (.lst ds))
  | .bin o a b, ρ => M.bind (ev a ρ) fun x => M.bind (ev b ρ) fun y => opBin o x y
  | .inv a, ρ => M.bind (ev a ρ) fun x => match x with
    | .dat (.int i) => M.dat (.int (Builtin.bitNot i))
    | _ => M.fail
  | .neg a, ρ => M.bind (ev a ρ) fun x => match x with
    | .dat (.int i) => M.dat (.int (-i))
    | _ => M.fail
  | .cmp o a b, ρ => M.bind (ev a ρ) fun x => M.bind (ev b ρ) fun y => opCmp o x y
  | .chn o o' a b c, ρ => M.bind (ev a ρ) fun x => M.bind (ev b ρ) fun y => chnM o o' (fun ρ' => ev c ρ') ρ x y
  | .and a b, ρ => andM (fun ρ' => ev a ρ') (fun ρ' => ev b ρ') ρ
  | .or a b, ρ => orM (fun ρ' => ev a ρ') (fun ρ' => ev b ρ') ρ
  | .not a, ρ => M.bind (ev a ρ) fun x => M.bind (truth x) fun t => M.dat (.bl (!t))
  | .ite c a b, ρ => iteM (fun ρ' => ev c ρ') (fun ρ' => ev a ρ') (fun ρ' => ev b ρ') ρ
  | .idx a i, ρ => M.bind (ev a ρ) fun x => M.bind (ev i ρ) fun y => opIdx x y
  | .slc a lo hi, ρ => M.bind (ev a ρ) fun x => M.bind (evL lo ρ) fun l => M.bind (part? l) fun l => M.bind (evL hi ρ) fun h => M.bind (part? h) fun h => opCut x l h
  | .call f es, ρ => M.bind (evL es ρ) fun vs => φ f vs
  | .blt b es, ρ => M.bind (evL es ρ) fun vs => opBlt b vs
  | .mth m o es, ρ => M.bind (ev o ρ) fun x => M.bind (liveL x) fun _ => M.bind (evL es ρ) fun vs => opMth m x vs
  | .isi a ts, ρ => M.bind (ev a ρ) fun x => M.bind (M.ofOpt (isTys x ts)) fun b => M.dat (.bl b)
  | .comp elt tg src cond own, ρ => M.bind (evL src ρ) fun xs => M.bind (toDs xs) fun ds => M.nox (M.bind (compM tg (fun ρ' => M.bind (ev cond ρ') truth) (fun ρ' => ev elt ρ') (wipeD ρ own) ds) fun ys => M.dat (.lst ys))
  | .sset e, ρ => M.bind (ev e ρ) ssetM
  | .callk f ks perm es, ρ => M.bind (evL es ρ) fun vs => M.when (Nat.beq vs.length ks.length) (φ f (permL perm vs))
  | .cadd a b, ρ => M.bind (ev a ρ) fun x => M.bind (ev b ρ) fun y => caddM x y
  | .snap e, ρ => M.bind (ev e ρ) snapM
  | .rev e, ρ => M.bind (ev e ρ) revM
  | .isx a _ tab, ρ => M.bind (ev a ρ) (isxM tab)
  | .fld a f cs, ρ => M.bind (ev a ρ) (fldM f cs)
  | _, _ => M.fail
def evL : Ex → Env → M (List Val)
  | .nil, _ => M.pure []
  | .cons e es, ρ => M.bind (ev e ρ) fun v => M.bind (evL es ρ) fun vs => M.pure (v :: vs)
  | .sSeq e, ρ => M.bind (ev e ρ) fun v => M.bind (seqItems v) fun ds => M.pure (ds.map .dat)
  | .sRng e, ρ => M.bind (ev e ρ) rngM
  | .sEnum e, ρ => M.bind (ev e ρ) fun v => M.bind (snapItems v) fun q => M.when q.1 (M.pure ((enumFrom 0 q.2).map .dat))
  | .sZip a b, ρ => M.bind (ev a ρ) fun v => M.bind (ev b ρ) fun w => M.bind (snapItems v) fun p => M.bind (snapItems w) fun q => M.when (p.1 == q.1) (M.pure ((zipD p.2 q.2).map .dat))
  | _, _ => M.fail
end
end

/-! ### statements -/
inductive St where
  | skip
  | seq (a b : St)
  | set (t : Tg) (e : Ex)
  | ret (e : Ex)
  | ite (c : Ex) (a b : St)
  | exp (e : Ex)
  | fr (t : Tg) (src : Ex) (body : St)
  | wh (c : Ex) (body : St)
  | brk
  | cnt
  | setIx (o i v : Ex)
  | par (i j : Nat) (es : Ex)
  | par3 (i j l : Nat) (es : Ex)
  | rse (c f : Str) (es : Ex)
  | tryx (b : St) (ns : List Str) (tab : List (Str × Bool)) (i j : Nat)
  | never
inductive Fl where
  | nx (ρ : Env) | rt (v : Val) | bk (ρ : Env) | ct (ρ : Env)

def forM (t : Tg) (body : Env → M Fl) : List D → Env → M Fl
  | [], ρ => M.pure (.nx ρ)
  | x :: r, ρ => M.bind (M.ofOpt (asg t (.dat x) ρ)) fun ρ' => M.bind (body ρ') fun fl => match fl with
    | .nx ρ2 => forM t body r ρ2
    | .ct ρ2 => forM t body r ρ2
    | .bk ρ2 => M.pure (.nx ρ2)
    | .rt v => M.pure (.rt v)
def whileM (c : Env → M Bool) (body : Env → M Fl) : Nat → Env → M Fl
  | 0, _ => M.fail
  | n + 1, ρ => M.bind (c ρ) fun t => match t with
    | true => M.bind (body ρ) fun fl => match fl with
      | .nx ρ2 => whileM c body n ρ2
      | .ct ρ2 => whileM c body n ρ2
      | .bk ρ2 => M.pure (.nx ρ2)
      | .rt v => M.pure (.rt v)
    | false => M.pure (.nx ρ)
abbrev FUEL : Nat := 100000
def opSetIx (o i v : Val) : M Unit := match o, i, v with
  | .ref n, .dat (.int k), .dat d => M.bind (cellAt n) fun
    | .lst ds => M.bind (M.ofOpt (L2.ixN ds.length k)) fun j => setCell n (.lst (ds.set j d))
    | _ => M.fail
  | _, _, _ => M.fail

section
variable (φ : Str → List Val → M Val)
/-- a, b = x, y -/
def parF (i j : Nat) (ρ : Env) (vs : List Val) : M Fl := match vs with
  | [v, w] => M.pure (.nx ((ρ.set i (some v)).set j (some w)))
  | _ => M.fail
def par3F (i j l : Nat) (ρ : Env) (vs : List Val) : M Fl := match vs with
  | [v, w, x] => M.pure (.nx (((ρ.set i (some v)).set j (some w)).set l (some x)))
  | _ => M.fail
def seqF (g : Env → M Fl) (fl : Fl) : M Fl := match fl with
  | .nx ρ' => g ρ'
  | fl => M.pure fl
def iteF (f g : M Fl) (t : Bool) : M Fl := match t with
  | true => f
  | false => g
def M.raise {α : Type} (e : Exc) : M α := fun μ => some (.er e, μ)
def rseM (c f : Str) (vs : List Val) : M Fl := M.bind (toDs vs) fun ds => M.when (Nat.beq ds.length 1) (M.raise ⟨c, f, ds⟩)
def catchM (tab : List (Str × Bool)) (i j : Nat) (ρ : Env) (e : Exc) : M Fl := match tab.lookup e.cls with
  | some true => M.pure (.nx ((ρ.set j (some (.exc e.cls e.fld e.args))).set i none))
  | some false => M.raise e
  | none => M.fail
def tryM (f : Env → M Fl) (tab : List (Str × Bool)) (i j : Nat) (ρ : Env) : M Fl := fun μ => match f ρ μ with
  | none => none
  | some (.ok fl, μ') => some (.ok fl, μ')
  | some (.er e, μ') => catchM tab i j ρ e μ'
def exec : St → Env → M Fl
  | .skip, ρ => M.pure (.nx ρ)
  | .seq a b, ρ => M.bind (exec a ρ) (seqF fun ρ' => exec b ρ')
  | .set t e, ρ => M.bind (ev φ e ρ) fun v => M.bind (M.ofOpt (asg t v ρ)) fun ρ' => M.pure (.nx ρ')
  | .ret e, ρ => M.bind (ev φ e ρ) fun v => M.pure (.rt v)
  | .ite c a b, ρ => M.bind (ev φ c ρ) fun x => M.bind (truth x) (iteF (exec a ρ) (exec b ρ))
  | .exp e, ρ => M.bind (ev φ e ρ) fun _ => M.pure (.nx ρ)
  | .fr t src body, ρ => M.bind (evL φ src ρ) fun xs => M.bind (toDs xs) fun ds => forM t (fun ρ' => exec body ρ') ds ρ
  | .wh c body, ρ => whileM (fun ρ' => M.bind (ev φ c ρ') truth) (fun ρ' => exec body ρ') FUEL ρ
  | .brk, ρ => M.pure (.bk ρ)
  | .cnt, ρ => M.pure (.ct ρ)
  | .setIx o i v, ρ => M.bind (ev φ v ρ) fun z => M.bind (ev φ o ρ) fun x => M.bind (ev φ i ρ) fun y => M.bind (opSetIx x y z) fun _ => M.pure (.nx ρ)
  | .par i j es, ρ => M.bind (evL φ es ρ) (parF i j ρ)
  | .par3 i j l es, ρ => M.bind (evL φ es ρ) (par3F i j l ρ)
  | .rse c f es, ρ => M.bind (evL φ es ρ) (rseM c f)
  | .tryx b _ tab i j, ρ => tryM (fun ρ' => exec b ρ') tab i j ρ
  | .never, _ => M.fail
end

/-- a def: parameters, slots, whether a cell may leave, the body -/
structure Fn where
  np : Nat
  nn : Nat
  keep : Bool
  body : St
/-- a value leaves: what was a cell of the def's own is a list from now on; the cells behind n are forgotten -/
def sealV (n : Nat) (v : Val) : M Val := fun μ => match v with
  | .dat d => some (.ok (.dat d), μ.take n)
  | .ref k => match μ[k]? with
    | some (.lst ds) => some (.ok (.dat (.lst ds)), (μ.set k .dead).take n)
    | _ => none
  | .exc _ _ _ => none
def flVal : Fl → M Val
  | .rt v => M.pure v
  | .nx _ => M.dat .non
  | _ => M.fail
/-- an error leaves: the cells behind n are forgotten -/
def cutE (n : Nat) (keep : Bool) (x : M Val) : M Val := fun μ => match x μ with
  | some (.er e, μ') => some (.er e, match keep with
    | true => μ'
    | false => μ'.take n)
  | r => r
def callF (φ : Str → List Val → M Val) (f : Fn) (vs : List Val) : M Val := fun μ => match Nat.beq vs.length f.np with
  | true => M.bind (cutE μ.length f.keep (M.bind (exec φ f.body (vs.map some ++ List.replicate (f.nn - vs.length) none)) flVal)) (fun v => match f.keep with
    | true => M.pure v
    | false => sealV μ.length v) μ
  | false => none
abbrev Tab := List (Str × Fn)
def callK (T : Tab) : Nat → Str → List Val → M Val
  | 0, _, _ => M.fail
  | k + 1, f, vs => match T.lookup f with
    | some fn => callF (callK T k) fn vs
    | none => M.fail
end G
set_option Elab.async false
set_option linter.all false
set_option maxRecDepth 100000
set_option maxHeartbeats 1000000
/-! G2: data and the abstract heap. -/
namespace G
open PySem L2

/-- where the cells stand; none: a cell that is dead -/
abbrev Mp := List (Option Addr)
def Live (m : Mp) (a : Addr) : Prop := ∃ n : Nat, m[n]? = some (some a)

/-- the law's own argument: a list that nobody changes -/
def FzL (K : PySem.W.Frag) (H : Hp) (a : Addr) (xs : List V) : Prop := (∃ o, H a = some (.frz o (.lst xs))) ∨
  ∃ (o : Obj) (its : Array Value) (n : Nat), K.lookup a = some o ∧ o.cls = .type "list" ∧ o.dict = none ∧ o.data = .seq its n ∧ its.size ≤ sizeLine ∧ Vals xs its.toList
theorem FzL.sq {K : PySem.W.Frag} {H : Hp} {a : Addr} {xs : List V} (h : FzL K H a xs) : SqL K H a xs := by
  rcases h with ⟨o, h⟩ | h
  · exact .inl (.inr ⟨o, h⟩)
  · exact .inr h
theorem FzL.of {K : PySem.W.Frag} {H H' : Hp} {a : Addr} {xs : List V} (h : FzL K H a xs) (t : ∀ o, H a = some (.frz o (.lst xs)) → H' a = some (.frz o (.lst xs))) : FzL K H' a xs := by
  rcases h with ⟨o, h⟩ | h
  · exact .inl ⟨o, t o h⟩
  · exact .inr h
mutual
inductive RD (K : PySem.W.Frag) (m : Mp) (B : List Addr) (H : Hp) : V → D → Prop
  | non : RD K m B H .non .non
  | bl (b : Bool) : RD K m B H (.bl b) (.bl b)
  | int (i : Int) : RD K m B H (.int i) (.int i)
  | str (x : Str) (h : PyData.strOk x = true) (hl : x.length ≤ LINE) : RD K m B H (.str x) (.str x)
  | tup {a : Addr} {xs : List V} {ds : List D} (h : SqT K H a xs) (hl : xs.length ≤ LINE) (r : RDs K m B H xs ds) : RD K m B H (.ref a) (.tup ds)
  | lst {a : Addr} {xs : List V} {ds : List D} (h : H a = some (.lst xs)) (hl : xs.length ≤ LINE) (nl : ¬ Live m a) (nb : a ∉ B) (r : RDs K m B H xs ds) : RD K m B H (.ref a) (.lst ds)
  | frz {a : Addr} {xs : List V} {ds : List D} (h : FzL K H a xs) (hl : xs.length ≤ LINE) (r : RDs K m B H xs ds) : RD K m B H (.ref a) (.frz ds)
inductive RDs (K : PySem.W.Frag) (m : Mp) (B : List Addr) (H : Hp) : List V → List D → Prop
  | nil : RDs K m B H [] []
  | cons {v : V} {vs : List V} {d : D} {ds : List D} (h : RD K m B H v d) (r : RDs K m B H vs ds) : RDs K m B H (v :: vs) (d :: ds)
end
inductive RVal (K : PySem.W.Frag) (m : Mp) (B : List Addr) (H : Hp) : V → Val → Prop
  | dat {v : V} {d : D} (h : RD K m B H v d) : RVal K m B H v (.dat d)
  | ref {n : Nat} {a : Addr} (h : m[n]? = some (some a) ∨ m[n]? = some none) : RVal K m B H (.ref a) (.ref n)
  | exc0 {a : Addr} {c f : Str} (h : H a = some (ExK (.ref (He.ga K c)) none a)) (nl : ¬ Live m a) : RVal K m B H (.ref a) (.exc c f [])
  | exc1 {a p : Addr} {c f : Str} {v : V} {d : D} (h : H a = some (ExK (.ref (He.ga K c)) (some p) a)) (nl : ¬ Live m a) (hp : H p = some (.xd [(f, v)])) (np : ¬ Live m p) (r : RD K m B H v d) : RVal K m B H (.ref a) (.exc c f [d])
inductive RVals (K : PySem.W.Frag) (m : Mp) (B : List Addr) (H : Hp) : List V → List Val → Prop
  | nil : RVals K m B H [] []
  | cons {v : V} {vs : List V} {w : Val} {ws : List Val} (h : RVal K m B H v w) (r : RVals K m B H vs ws) : RVals K m B H (v :: vs) (w :: ws)

/-- from one state to a later one -/
structure Tra (m : Mp) (H : Hp) (m' : Mp) (H' : Hp) : Prop where
  le : m.length ≤ m'.length
  old : ∀ (n : Nat) a, n < m.length → m'[n]? = some (some a) → m[n]? = some (some a)
  new : ∀ (n : Nat) a, m.length ≤ n → m'[n]? = some (some a) → H a = none
  kep : ∀ a o, H a = some o → ¬ Live m a → H' a = some o
  thr : ∀ a o, H a = some o → ∃ o', H' a = some o'
  tup : ∀ a xs, H a = some (.tup xs) → H' a = some (.tup xs)
  frz : ∀ a o u, H a = some (.frz o u) → H' a = some (.frz o u)

/-- only more -/
def Ext (H H' : Hp) : Prop := ∀ a o, H a = some o → H' a = some o
theorem Ext.refl (H : Hp) : Ext H H := fun _ _ h => h
theorem Ext.trans {H H1 H2 : Hp} (a : Ext H H1) (b : Ext H1 H2) : Ext H H2 := fun x o h => b x o (a x o h)
theorem Ext.new {H : Hp} {p : Addr} {o : HO} (h : H p = none) : Ext H (upd H p o) := fun a u e => by
  rw [upd_ne (ne_of_none e h)]
  exact e

section
variable {K : PySem.W.Frag} {m m' m2 : Mp} {B B' : List Addr} {H H' H2 : Hp}
theorem Tra.live (t : Tra m H m' H') {a : Addr} (l : Live m' a) : Live m a ∨ H a = none := by
  obtain ⟨n, h⟩ := l
  by_cases hn : n < m.length
  · exact .inl ⟨n, t.old n a hn h⟩
  · exact .inr (t.new n a (by omega) h)
theorem Tra.nlive (t : Tra m H m' H') {a : Addr} {o : HO} (h : H a = some o) (n : ¬ Live m a) : ¬ Live m' a := fun l => by
  rcases t.live l with q | q
  · exact n q
  · rw [h] at q; cases q
theorem Tra.of_ext (e : Ext H H') : Tra m H m H' :=
  ⟨Nat.le_refl _, fun _ _ _ h => h, fun n a hn h => by
    have : n < m.length := (List.getElem?_eq_some_iff.mp h).1
    omega, fun a o h _ => e a o h, fun a o h => ⟨o, e a o h⟩, fun a xs h => e a _ h, fun a o u h => e a _ h⟩
theorem Tra.refl : Tra m H m H := .of_ext (Ext.refl H)
theorem Tra.trans (t : Tra m H m' H') (u : Tra m' H' m2 H2) : Tra m H m2 H2 where
  le := Nat.le_trans t.le u.le
  old := fun n a hn h => t.old n a hn (u.old n a (Nat.lt_of_lt_of_le hn t.le) h)
  new := fun n a hn h => by
    by_cases h1 : n < m'.length
    · exact t.new n a hn (u.old n a h1 h)
    · have q := u.new n a (by omega) h
      cases e : H a with
      | none => rfl
      | some o =>
        obtain ⟨o', e'⟩ := t.thr a o e
        rw [e'] at q; cases q
  kep := fun a o h n => u.kep a o (t.kep a o h n) (t.nlive h n)
  thr := fun a o h => by
    obtain ⟨o', h'⟩ := t.thr a o h
    exact u.thr a o' h'
  tup := fun a xs h => u.tup a xs (t.tup a xs h)
  frz := fun a o v h => u.frz a o v (t.frz a o v h)
theorem Tra.sqT (t : Tra m H m' H') {a : Addr} {xs : List V} (h : SqT K H a xs) : SqT K H' a xs := by
  rcases h with (h | ⟨o, h⟩) | h
  · exact .inl (.inl (t.tup a xs h))
  · exact .inl (.inr ⟨o, t.frz a o _ h⟩)
  · exact .inr h

mutual
theorem RD.mono (t : Tra m H m' H') {v : V} : ∀ {d : D}, RD K m B H v d → RD K m' B H' v d
  | _, .non => .non
  | _, .bl b => .bl b
  | _, .int i => .int i
  | _, .str x h hl => .str x h hl
  | _, .tup h hl r => .tup (t.sqT h) hl (RDs.mono t r)
  | _, .lst h hl nl nb r => .lst (t.kep _ _ h nl) hl (t.nlive h nl) nb (RDs.mono t r)
  | _, .frz h hl r => .frz (h.of fun o => t.frz _ o _) hl (RDs.mono t r)
theorem RDs.mono (t : Tra m H m' H') : ∀ {vs : List V} {ds : List D}, RDs K m B H vs ds → RDs K m' B H' vs ds
  | _, _, .nil => .nil
  | _, _, .cons h r => .cons (RD.mono t h) (RDs.mono t r)
end
/-! less is forbidden -/
mutual
theorem RD.less (s : ∀ b, b ∈ B' → b ∈ B) {v : V} : ∀ {d : D}, RD K m B H v d → RD K m B' H v d
  | _, .non => .non
  | _, .bl b => .bl b
  | _, .int i => .int i
  | _, .str x h hl => .str x h hl
  | _, .tup h hl r => .tup h hl (RDs.less s r)
  | _, .lst h hl nl nb r => .lst h hl nl (fun z => nb (s _ z)) (RDs.less s r)
  | _, .frz h hl r => .frz h hl (RDs.less s r)
theorem RDs.less (s : ∀ b, b ∈ B' → b ∈ B) : ∀ {vs : List V} {ds : List D}, RDs K m B H vs ds → RDs K m B' H vs ds
  | _, _, .nil => .nil
  | _, _, .cons h r => .cons (RD.less s h) (RDs.less s r)
end
/-! a new address is forbidden too -/
mutual
theorem RD.more {p : Addr} (hp : H p = none) {v : V} : ∀ {d : D}, RD K m B H v d → RD K m (p :: B) H v d
  | _, .non => .non
  | _, .bl b => .bl b
  | _, .int i => .int i
  | _, .str x h hl => .str x h hl
  | _, .tup h hl r => .tup h hl (RDs.more hp r)
  | _, .lst h hl nl nb r => .lst h hl nl (fun z => by
      rcases List.mem_cons.mp z with z | z
      · rw [z, hp] at h; cases h
      · exact nb z) (RDs.more hp r)
  | _, .frz h hl r => .frz h hl (RDs.more hp r)
theorem RDs.more {p : Addr} (hp : H p = none) : ∀ {vs : List V} {ds : List D}, RDs K m B H vs ds → RDs K m (p :: B) H vs ds
  | _, _, .nil => .nil
  | _, _, .cons h r => .cons (RD.more hp h) (RDs.more hp r)
end
theorem RVal.mono (t : Tra m H m' H') {v : V} {w : Val} : RVal K m B H v w → RVal K m' B H' v w
  | .dat h => .dat (h.mono t)
  | .exc0 h nl => .exc0 (t.kep _ _ h nl) (t.nlive h nl)
  | .exc1 h nl hp np r => .exc1 (t.kep _ _ h nl) (t.nlive h nl) (t.kep _ _ hp np) (t.nlive hp np) (r.mono t)
  | .ref (n := n) (a := a) h => .ref (by
    have hn : n < m.length := by rcases h with h | h <;> exact (List.getElem?_eq_some_iff.mp h).1
    cases e : m'[n]? with
    | none =>
      have := List.getElem?_eq_none_iff.mp e
      have := t.le
      omega
    | some o =>
      cases o with
      | none => exact .inr rfl
      | some b =>
        have q := t.old n b hn e
        rcases h with h | h
        · rw [h] at q; cases q; exact .inl rfl
        · rw [h] at q; cases q)
theorem RVals.mono (t : Tra m H m' H') : ∀ {vs : List V} {ws : List Val}, RVals K m B H vs ws → RVals K m' B H' vs ws
  | _, _, .nil => .nil
  | _, _, .cons h r => .cons (h.mono t) (RVals.mono t r)
theorem RVal.less (s : ∀ b, b ∈ B' → b ∈ B) {v : V} {w : Val} : RVal K m B H v w → RVal K m B' H v w
  | .dat h => .dat (h.less s)
  | .exc0 h nl => .exc0 h nl
  | .exc1 h nl hp np r => .exc1 h nl hp np (r.less s)
  | .ref h => .ref h
theorem RVal.more {p : Addr} (hp : H p = none) {v : V} {w : Val} : RVal K m B H v w → RVal K m (p :: B) H v w
  | .dat h => .dat (h.more hp)
  | .exc0 h nl => .exc0 h nl
  | .exc1 h nl hq np r => .exc1 h nl hq np (r.more hp)
  | .ref h => .ref h
theorem RDs.length : ∀ {vs : List V} {ds : List D}, RDs K m B H vs ds → vs.length = ds.length
  | _, _, .nil => rfl
  | _, _, .cons _ r => by rw [List.length_cons, List.length_cons, RDs.length r]
theorem RVals.length : ∀ {vs : List V} {ws : List Val}, RVals K m B H vs ws → vs.length = ws.length
  | _, _, .nil => rfl
  | _, _, .cons _ r => by rw [List.length_cons, List.length_cons, RVals.length r]
theorem RDs.append : ∀ {xs ys : List V} {ds es : List D}, RDs K m B H xs ds → RDs K m B H ys es → RDs K m B H (xs ++ ys) (ds ++ es)
  | _, _, _, _, .nil, s => s
  | _, _, _, _, .cons h r, s => .cons h (RDs.append r s)
theorem RDs.get : ∀ {xs : List V} {ds : List D} {i : Nat} {d : D}, RDs K m B H xs ds → ds[i]? = some d → ∃ v, xs[i]? = some v ∧ RD K m B H v d
  | _, _, _, _, .nil, e => by simp at e
  | _, _, 0, _, .cons h _, e => by simp at e; subst e; exact ⟨_, rfl, h⟩
  | _, _, i + 1, d, .cons _ r, e => by
    obtain ⟨u, h1, h2⟩ := RDs.get (i := i) (d := d) r (by simpa using e)
    exact ⟨u, by simpa using h1, h2⟩
theorem RDs.get' : ∀ {xs : List V} {ds : List D} {i : Nat} {v : V}, RDs K m B H xs ds → xs[i]? = some v → ∃ d, ds[i]? = some d ∧ RD K m B H v d
  | _, _, _, _, .nil, e => by simp at e
  | _, _, 0, _, .cons h _, e => by simp at e; subst e; exact ⟨_, rfl, h⟩
  | _, _, i + 1, v, .cons _ r, e => by
    obtain ⟨u, h1, h2⟩ := RDs.get' (i := i) (v := v) r (by simpa using e)
    exact ⟨u, by simpa using h1, h2⟩
theorem RVals.get : ∀ {xs : List V} {ds : List Val} {i : Nat} {d : Val}, RVals K m B H xs ds → ds[i]? = some d → ∃ v, xs[i]? = some v ∧ RVal K m B H v d
  | _, _, _, _, .nil, e => by simp at e
  | _, _, 0, _, .cons h _, e => by simp at e; subst e; exact ⟨_, rfl, h⟩
  | _, _, i + 1, d, .cons _ r, e => by
    obtain ⟨u, h1, h2⟩ := RVals.get (i := i) (d := d) r (by simpa using e)
    exact ⟨u, by simpa using h1, h2⟩
theorem RDs.take : ∀ {xs : List V} {ds : List D} (n : Nat), RDs K m B H xs ds → RDs K m B H (xs.take n) (ds.take n)
  | _, _, 0, _ => .nil
  | _, _, _ + 1, .nil => .nil
  | _, _, n + 1, .cons h r => .cons h (RDs.take n r)
theorem RDs.drop : ∀ {xs : List V} {ds : List D} (n : Nat), RDs K m B H xs ds → RDs K m B H (xs.drop n) (ds.drop n)
  | _, _, 0, r => r
  | _, _, _ + 1, .nil => .nil
  | _, _, n + 1, .cons _ r => RDs.drop n r
theorem RDs.set {v : V} {d : D} (h : RD K m B H v d) : ∀ {xs : List V} {ds : List D} (i : Nat), RDs K m B H xs ds → RDs K m B H (xs.set i v) (ds.set i d)
  | _, _, _, .nil => .nil
  | _, _, 0, .cons _ r => .cons h r
  | _, _, i + 1, .cons q r => .cons q (RDs.set h i r)
theorem RDs.eraseIdx : ∀ {xs : List V} {ds : List D} (i : Nat), RDs K m B H xs ds → RDs K m B H (xs.eraseIdx i) (ds.eraseIdx i)
  | _, _, _, .nil => .nil
  | _, _, 0, .cons _ r => r
  | _, _, i + 1, .cons q r => .cons q (RDs.eraseIdx i r)
theorem RDs.dropLast {xs : List V} {ds : List D} (r : RDs K m B H xs ds) : RDs K m B H xs.dropLast ds.dropLast := by
  rw [List.dropLast_eq_take, List.dropLast_eq_take, r.length]
  exact r.take _
end

/-- what a cell holds -/
def CellOk (K : PySem.W.Frag) (m : Mp) (B : List Addr) (H : Hp) (a : Addr) : Cell → Prop
  | .dead => False
  | .lst ds => ∃ xs, H a = some (.lst xs) ∧ xs.length ≤ LINE ∧ RDs K m B H xs ds
structure Rel (K : PySem.W.Frag) (m : Mp) (B : List Addr) (μ : Sto) (H : Hp) : Prop where
  len : m.length = μ.length
  inj : ∀ (i j : Nat) a, m[i]? = some (some a) → m[j]? = some (some a) → i = j
  cel : ∀ (n : Nat) a, m[n]? = some (some a) → ∃ c, μ[n]? = some c ∧ CellOk K m B H a c
  ded : ∀ (n : Nat), m[n]? = some none → μ[n]? = some .dead
  bnd : ∀ b ∈ B, ∃ o, H b = some o
  bnl : ∀ b ∈ B, ¬ Live m b

section
variable {K : PySem.W.Frag} {m m' m2 : Mp} {B B' : List Addr} {H H' H2 : Hp} {μ μ' : Sto}
theorem CellOk.mono_at {a : Addr} {c : Cell} (t : Tra m H m' H') (e : H' a = H a) (h : CellOk K m B H a c) : CellOk K m' B H' a c := by
  cases c with
  | dead => exact h
  | lst ds =>
    obtain ⟨xs, h1, h2, h3⟩ := h
    exact ⟨xs, e.trans h1, h2, h3.mono t⟩
theorem CellOk.there {a : Addr} {c : Cell} (h : CellOk K m B H a c) : ∃ xs, H a = some (.lst xs) := by
  cases c with
  | dead => exact h.elim
  | lst ds =>
    obtain ⟨xs, h1, _⟩ := h
    exact ⟨xs, h1⟩
theorem Rel.alive (r : Rel K m B μ H) {a : Addr} (l : Live m a) : ∃ xs, H a = some (.lst xs) := by
  obtain ⟨n, h⟩ := l
  obtain ⟨c, _, hc⟩ := r.cel n a h
  exact hc.there
theorem Rel.fresh_live (r : Rel K m B μ H) {p : Addr} (hp : H p = none) : ¬ Live m p := fun l => by
  obtain ⟨xs, h⟩ := r.alive l
  rw [hp] at h; cases h
theorem Rel.fresh_B (r : Rel K m B μ H) {p : Addr} (hp : H p = none) : p ∉ B := fun l => by
  obtain ⟨xs, h⟩ := r.bnd p l
  rw [hp] at h; cases h
theorem Rel.ext (r : Rel K m B μ H) (e : Ext H H') : Rel K m B μ H' where
  len := r.len
  inj := r.inj
  cel := fun n a h => by
    obtain ⟨c, h1, h2⟩ := r.cel n a h
    obtain ⟨xs, hx⟩ := h2.there
    exact ⟨c, h1, h2.mono_at (.of_ext e) (by rw [hx]; exact e a _ hx)⟩
  ded := r.ded
  bnd := fun b hb => by
    obtain ⟨o, h⟩ := r.bnd b hb
    exact ⟨o, e b o h⟩
  bnl := r.bnl
/-- a list that is being made is put under the ban -/
theorem Rel.ban (r : Rel K m B μ H) {p : Addr} {o : HO} (hp : H p = none) : Rel K m (p :: B) μ (upd H p o) where
  len := r.len
  inj := r.inj
  cel := fun n a h => by
    obtain ⟨c, h1, h2⟩ := r.cel n a h
    obtain ⟨xs, hx⟩ := h2.there
    refine ⟨c, h1, ?_⟩
    have ne : a ≠ p := ne_of_none hx hp
    cases c with
    | dead => exact h2
    | lst ds =>
      obtain ⟨ys, e1, e2, e3⟩ := h2
      exact ⟨ys, by rw [upd_ne ne]; exact e1, e2, (e3.more hp).mono (.of_ext (Ext.new hp))⟩
  ded := r.ded
  bnd := fun b hb => by
    rcases List.mem_cons.mp hb with z | z
    · subst z; exact ⟨o, upd_same⟩
    · obtain ⟨u, h⟩ := r.bnd b z
      exact ⟨u, Ext.new hp b u h⟩
  bnl := fun b hb => by
    rcases List.mem_cons.mp hb with z | z
    · subst z; exact r.fresh_live hp
    · exact r.bnl b z
theorem Rel.unban {p : Addr} (r : Rel K m (p :: B) μ H) : Rel K m B μ H where
  len := r.len
  inj := r.inj
  cel := fun n a h => by
    obtain ⟨c, h1, h2⟩ := r.cel n a h
    refine ⟨c, h1, ?_⟩
    cases c with
    | dead => exact h2
    | lst ds =>
      obtain ⟨ys, e1, e2, e3⟩ := h2
      exact ⟨ys, e1, e2, e3.less fun b hb => List.mem_cons_of_mem _ hb⟩
  ded := r.ded
  bnd := fun b hb => r.bnd b (List.mem_cons_of_mem _ hb)
  bnl := fun b hb => r.bnl b (List.mem_cons_of_mem _ hb)

/-- a cell is written -/
theorem tra_write {n : Nat} {a : Addr} {xs ys : List V} (hm : m[n]? = some (some a)) (ha : H a = some (.lst xs)) : Tra m H m (upd H a (.lst ys)) where
  le := Nat.le_refl _
  old := fun _ _ _ h => h
  new := fun k b hk h => by
    have : k < m.length := (List.getElem?_eq_some_iff.mp h).1
    omega
  kep := fun b o h nl => by
    have : b ≠ a := fun e => nl (e ▸ ⟨n, hm⟩)
    rw [upd_ne this]; exact h
  thr := fun b o h => by
    by_cases e : b = a
    · exact ⟨.lst ys, by rw [e]; exact upd_same⟩
    · exact ⟨o, by rw [upd_ne e]; exact h⟩
  tup := fun b xs h => by
    have : b ≠ a := fun e => by subst e; rw [ha] at h; cases h
    rw [upd_ne this]; exact h
  frz := fun b o u h => by
    have : b ≠ a := fun e => by subst e; rw [ha] at h; cases h
    rw [upd_ne this]; exact h
theorem Rel.write (r : Rel K m B μ H) {n : Nat} {a : Addr} {xs ys : List V} {ds : List D} (hm : m[n]? = some (some a)) (ha : H a = some (.lst xs)) (hl : ys.length ≤ LINE) (hr : RDs K m B H ys ds) :
    Rel K m B (μ.set n (.lst ds)) (upd H a (.lst ys)) where
  len := by rw [List.length_set]; exact r.len
  inj := r.inj
  cel := fun k b h => by
    by_cases e : k = n
    · subst e
      rw [hm] at h
      cases h
      refine ⟨.lst ds, ?_, ys, upd_same, hl, hr.mono (tra_write hm ha)⟩
      rw [List.getElem?_set_self]
      have := (List.getElem?_eq_some_iff.mp hm).1
      have := r.len
      omega
    · obtain ⟨c, h1, h2⟩ := r.cel k b h
      refine ⟨c, by rw [List.getElem?_set_ne (Ne.symm e)]; exact h1, h2.mono_at (tra_write hm ha) (upd_ne ?_)⟩
      rintro rfl
      exact e (r.inj k n _ h hm)
  ded := fun k h => by
    have e : n ≠ k := fun e => by subst e; rw [hm] at h; cases h
    rw [List.getElem?_set_ne e]
    exact r.ded k h
  bnd := fun b hb => by
    obtain ⟨o, h⟩ := r.bnd b hb
    exact (tra_write hm ha).thr b o h
  bnl := r.bnl
/-- a new cell -/
theorem tra_cell {p : Addr} (hp : H p = none) : Tra m H (m ++ [some p]) (upd H p (.lst ys)) where
  le := by rw [List.length_append]; omega
  old := fun n a hn h => by rw [List.getElem?_append_left hn] at h; exact h
  new := fun n a hn h => by
    rw [List.getElem?_append_right hn] at h
    have : n - m.length = 0 := by
      have := (List.getElem?_eq_some_iff.mp h).1
      simp at this
      omega
    rw [this] at h
    cases h
    exact hp
  kep := fun a o h _ => Ext.new hp a o h
  thr := fun a o h => ⟨o, Ext.new hp a o h⟩
  tup := fun a xs h => Ext.new hp a _ h
  frz := fun a o u h => Ext.new hp a _ h
theorem Rel.cell (r : Rel K m B μ H) {p : Addr} {ys : List V} {ds : List D} (hp : H p = none) (hl : ys.length ≤ LINE) (hr : RDs K m B H ys ds) :
    Rel K (m ++ [some p]) B (μ ++ [.lst ds]) (upd H p (.lst ys)) where
  len := by rw [List.length_append, List.length_append, r.len]; rfl
  inj := fun i j a hi hj => by
    have key : ∀ k : Nat, (m ++ [some p])[k]? = some (some a) → (k < m.length ∧ m[k]? = some (some a)) ∨ (k = m.length ∧ a = p) := fun k hk => by
      by_cases h1 : k < m.length
      · rw [List.getElem?_append_left h1] at hk; exact .inl ⟨h1, hk⟩
      · rw [List.getElem?_append_right (by omega)] at hk
        have : k - m.length = 0 := by
          have := (List.getElem?_eq_some_iff.mp hk).1
          simp at this
          omega
        rw [this] at hk
        cases hk
        exact .inr ⟨by omega, rfl⟩
    rcases key i hi with ⟨_, a1⟩ | ⟨e1, a1⟩
    · rcases key j hj with ⟨_, a2⟩ | ⟨e2, a2⟩
      · exact r.inj i j a a1 a2
      · subst a2; exact absurd ⟨i, a1⟩ (r.fresh_live hp)
    · rcases key j hj with ⟨_, a2⟩ | ⟨e2, a2⟩
      · subst a1; exact absurd ⟨j, a2⟩ (r.fresh_live hp)
      · omega
  cel := fun n a h => by
    by_cases h1 : n < m.length
    · rw [List.getElem?_append_left h1] at h
      obtain ⟨c, e1, e2⟩ := r.cel n a h
      obtain ⟨xs, hx⟩ := e2.there
      refine ⟨c, by rw [List.getElem?_append_left (by rw [← r.len]; exact h1)]; exact e1, e2.mono_at (tra_cell hp) (upd_ne (ne_of_none hx hp))⟩
    · rw [List.getElem?_append_right (by omega)] at h
      have z : n - m.length = 0 := by
        have := (List.getElem?_eq_some_iff.mp h).1
        simp at this
        omega
      rw [z] at h
      cases h
      refine ⟨.lst ds, ?_, ys, upd_same, hl, hr.mono (tra_cell hp)⟩
      rw [List.getElem?_append_right (by rw [← r.len]; omega), ← r.len, z]
      rfl
  ded := fun n h => by
    have h1 : n < m.length := by
      by_cases h1 : n < m.length
      · exact h1
      · rw [List.getElem?_append_right (by omega)] at h
        have z : n - m.length = 0 := by
          have := (List.getElem?_eq_some_iff.mp h).1
          simp at this
          omega
        rw [z] at h
        cases h
    rw [List.getElem?_append_left h1] at h
    rw [List.getElem?_append_left (by rw [← r.len]; exact h1)]
    exact r.ded n h
  bnd := fun b hb => by
    obtain ⟨o, h⟩ := r.bnd b hb
    exact ⟨o, Ext.new hp b o h⟩
  bnl := fun b hb l => by
    rcases (tra_cell (m := m) (ys := ys) hp).live l with q | q
    · exact r.bnl b hb q
    · obtain ⟨o, h⟩ := r.bnd b hb
      rw [q] at h; cases h
/-- a cell dies -/
theorem tra_kill (n : Nat) : Tra m H (m.set n none) H where
  le := by rw [List.length_set]; exact Nat.le_refl _
  old := fun k a hk h => by
    by_cases e : k = n
    · subst e; rw [List.getElem?_set_self hk] at h; cases h
    · rw [List.getElem?_set_ne (Ne.symm e)] at h; exact h
  new := fun k a hk h => by
    have := (List.getElem?_eq_some_iff.mp h).1
    rw [List.length_set] at this
    omega
  kep := fun a o h _ => h
  thr := fun a o h => ⟨o, h⟩
  tup := fun a xs h => h
  frz := fun a o u h => h
theorem Rel.kill (r : Rel K m B μ H) {n : Nat} (hn : n < m.length) : Rel K (m.set n none) B (μ.set n .dead) H where
  len := by rw [List.length_set, List.length_set]; exact r.len
  inj := fun i j a hi hj => r.inj i j a ((tra_kill (H := H) n).old i a (by have := (List.getElem?_eq_some_iff.mp hi).1; rw [List.length_set] at this; exact this) hi)
    ((tra_kill (H := H) n).old j a (by have := (List.getElem?_eq_some_iff.mp hj).1; rw [List.length_set] at this; exact this) hj)
  cel := fun k a h => by
    have e : n ≠ k := fun e => by subst e; rw [List.getElem?_set_self hn] at h; cases h
    rw [List.getElem?_set_ne e] at h
    obtain ⟨c, h1, h2⟩ := r.cel k a h
    exact ⟨c, by rw [List.getElem?_set_ne e]; exact h1, h2.mono_at (tra_kill n) rfl⟩
  ded := fun k h => by
    by_cases e : n = k
    · subst e; rw [List.getElem?_set_self (by rw [← r.len]; exact hn)]
    · rw [List.getElem?_set_ne e] at h
      rw [List.getElem?_set_ne e]
      exact r.ded k h
  bnd := r.bnd
  bnl := fun b hb l => by
    rcases (tra_kill (m := m) (H := H) n).live l with q | q
    · exact r.bnl b hb q
    · obtain ⟨o, h⟩ := r.bnd b hb
      rw [q] at h; cases h
/-- the last cells are forgotten -/
theorem tra_take {m1 : Mp} {H1 : Hp} (t : Tra m H m1 H1) : Tra m H (m1.take m.length) H1 where
  le := by rw [List.length_take]; have := t.le; omega
  old := fun n a hn h => by rw [List.getElem?_take_of_lt hn] at h; exact t.old n a hn h
  new := fun n a hn h => by
    have := (List.getElem?_eq_some_iff.mp h).1
    rw [List.length_take] at this
    omega
  kep := t.kep
  thr := t.thr
  tup := t.tup
  frz := t.frz
theorem nlive_take {n : Nat} {a : Addr} (nl : ¬ Live m a) : ¬ Live (m.take n) a := fun ⟨k, e⟩ => nl ⟨k, by
  have hk : k < n := by
    have := (List.getElem?_eq_some_iff.mp e).1
    rw [List.length_take] at this
    omega
  rw [List.getElem?_take_of_lt hk] at e
  exact e⟩
mutual
theorem RD.take {n : Nat} {v : V} : ∀ {d : D}, RD K m B H v d → RD K (m.take n) B H v d
  | _, .non => .non
  | _, .bl b => .bl b
  | _, .int i => .int i
  | _, .str x h hl => .str x h hl
  | _, .tup h hl r => .tup h hl (RDs.taken r)
  | _, .lst h hl nl nb r => .lst h hl (fun ⟨k, e⟩ => nl ⟨k, by
      have hk : k < n := by
        have := (List.getElem?_eq_some_iff.mp e).1
        rw [List.length_take] at this
        omega
      rw [List.getElem?_take_of_lt hk] at e
      exact e⟩) nb (RDs.taken r)
  | _, .frz h hl r => .frz h hl (RDs.taken r)
theorem RDs.taken {n : Nat} : ∀ {vs : List V} {ds : List D}, RDs K m B H vs ds → RDs K (m.take n) B H vs ds
  | _, _, .nil => .nil
  | _, _, .cons h r => .cons (RD.take h) (RDs.taken r)
end
theorem Rel.take (r : Rel K m B μ H) (n : Nat) : Rel K (m.take n) B (μ.take n) H := by
  have key : ∀ {k : Nat} {o : Option Addr}, (m.take n)[k]? = some o → k < n ∧ m[k]? = some o := fun {k o} e => by
    have hk : k < n := by
      have := (List.getElem?_eq_some_iff.mp e).1
      rw [List.length_take] at this
      omega
    rw [List.getElem?_take_of_lt hk] at e
    exact ⟨hk, e⟩
  refine ⟨by rw [List.length_take, List.length_take, r.len], fun i j a hi hj => r.inj i j a (key hi).2 (key hj).2, fun k a h => ?_, fun k h => ?_, r.bnd, fun b hb ⟨k, e⟩ => r.bnl b hb ⟨k, (key e).2⟩⟩
  · obtain ⟨c, h1, h2⟩ := r.cel k a (key h).2
    refine ⟨c, by rw [List.getElem?_take_of_lt (key h).1]; exact h1, ?_⟩
    cases c with
    | dead => exact h2
    | lst ds =>
      obtain ⟨xs, e1, e2, e3⟩ := h2
      exact ⟨xs, e1, e2, e3.taken⟩
  · rw [List.getElem?_take_of_lt (key h).1]
    exact r.ded k (key h).2
end
end G
set_option Elab.async false
set_option linter.all false
set_option maxRecDepth 100000
set_option maxHeartbeats 1000000
/-! G3: readings by the evaluator. -/
namespace G
open PySem L2

/-- how an exception lies -/
def RX (K : PySem.W.Frag) (B : List Addr) (e : Exc) (c : Value) (dd : Option Addr) (m : Mp) (H : Hp) : Prop := c = .ref (He.ga K e.cls) ∧ match e.args with
  | [] => dd = none
  | [d] => ∃ p v, dd = some p ∧ H p = some (.xd [(e.fld, v)]) ∧ ¬ Live m p ∧ RD K m B H v d
  | _ => False

section
variable {α β γ δ : Type} (K : PySem.W.Frag) (E : XK) (B : List Addr)
def SatO (R : Mp → Hp → β → α → Prop) (m : Mp) (H : Hp) (μ' : Sto) (Q : β → Hp → Prop) : Out α → Prop
  | .ok a => ∀ b H' m', Tra m H m' H' → Rel K m' B μ' H' → R m' H' b a → Q b H'
  | .er e => ∀ c dd H' m', Tra m H m' H' → Rel K m' B μ' H' → RX K B e c dd m' H' → E c dd H'
/-- what x does is wanted -/
def Sat (R : Mp → Hp → β → α → Prop) (m : Mp) (H : Hp) (μ : Sto) (x : M α) (Q : β → Hp → Prop) : Prop :=
  ∃ o μ', x μ = some (o, μ') ∧ SatO K E B R m H μ' Q o
end
abbrev RV (K : PySem.W.Frag) (B : List Addr) : Mp → Hp → V → Val → Prop := fun m H v w => RVal K m B H v w
abbrev RL (K : PySem.W.Frag) (B : List Addr) : Mp → Hp → List V → List Val → Prop := fun m H v w => RVals K m B H v w
abbrev RQ {α : Type} : Mp → Hp → α → α → Prop := fun _ _ b a => b = a

section
variable {α β γ δ : Type} {K : PySem.W.Frag} {E : XK} {B : List Addr} {R : Mp → Hp → β → α → Prop} {R2 : Mp → Hp → δ → γ → Prop} {m : Mp} {H : Hp} {μ : Sto}
theorem Sat.mono {x : M α} {Q Q' : β → Hp → Prop} (h : Sat K E B R m H μ x Q) (q : ∀ b H', Q b H' → Q' b H') : Sat K E B R m H μ x Q' := by
  obtain ⟨o, μ', e, h⟩ := h
  refine ⟨o, μ', e, ?_⟩
  cases o with
  | ok a => exact fun b H' m' t r rr => q _ _ (h b H' m' t r rr)
  | er e => exact h
theorem Sat.bind {x : M α} {k : α → M γ} {Q : δ → Hp → Prop} (h : Sat K E B R2 m H μ (M.bind x k) Q) :
    Sat K E B R m H μ x (fun b H1 => ∃ m1 μ1 a, Tra m H m1 H1 ∧ Rel K m1 B μ1 H1 ∧ R m1 H1 b a ∧ Sat K E B R2 m1 H1 μ1 (k a) Q) := by
  obtain ⟨o, μ', e, h⟩ := h
  unfold M.bind at e
  cases hx : x μ with
  | none => rw [hx] at e; cases e
  | some p =>
    obtain ⟨p1, μ1⟩ := p
    rw [hx] at e
    cases p1 with
    | er z =>
      cases e
      exact ⟨.er z, _, hx, h⟩
    | ok a =>
      refine ⟨.ok a, μ1, hx, fun b H1 m1 t r rr => ⟨m1, μ1, a, t, r, rr, o, μ', e, ?_⟩⟩
      cases o with
      | ok c => exact fun d H' m' t' => h d H' m' (t.trans t')
      | er z => exact fun c dd H' m' t' => h c dd H' m' (t.trans t')
theorem Sat.pure {a : α} {b : β} {Q : β → Hp → Prop} (h : Sat K E B R m H μ (M.pure a) Q) (r : Rel K m B μ H) (rr : R m H b a) : Q b H := by
  obtain ⟨o, μ', e, h⟩ := h
  cases e
  exact h b H m .refl r rr
/-- .. with a larger heap -/
theorem Sat.ext {a : α} {b : β} {H' : Hp} {Q : β → Hp → Prop} (h : Sat K E B R m H μ (M.pure a) Q) (r : Rel K m B μ H) (e : Ext H H') (rr : R m H' b a) : Q b H' := by
  obtain ⟨o, μ', e', h⟩ := h
  cases e'
  exact h b H' m (.of_ext e) (r.ext e) rr
theorem Sat.fail {Q : β → Hp → Prop} (h : Sat K E B R m H μ (M.fail : M α) Q) : False := by
  obtain ⟨o, μ', e, _⟩ := h
  cases e
theorem Sat.when {c : Bool} {x : M α} {Q : β → Hp → Prop} (h : Sat K E B R m H μ (M.when c x) Q) : c = true ∧ Sat K E B R m H μ x Q := by
  cases c with
  | true => exact ⟨rfl, h⟩
  | false => exact h.fail.elim
theorem Sat.ofOpt {o : Option α} {k : α → M γ} {Q : δ → Hp → Prop} (h : Sat K E B R2 m H μ (M.bind (M.ofOpt o) k) Q) : ∃ a, o = some a ∧ Sat K E B R2 m H μ (k a) Q := by
  cases o with
  | none =>
    obtain ⟨o, μ', e, _⟩ := h
    cases e
  | some a => exact ⟨a, rfl, h⟩
theorem Sat.cellAt {n : Nat} {k : Cell → M γ} {Q : δ → Hp → Prop} (h : Sat K E B R2 m H μ (M.bind (cellAt n) k) Q) : ∃ c, μ[n]? = some c ∧ Sat K E B R2 m H μ (k c) Q := by
  obtain ⟨o, μ', e, h⟩ := h
  unfold M.bind G.cellAt at e
  cases hc : μ[n]? with
  | none => simp only [hc] at e; cases e
  | some c =>
    simp only [hc] at e
    exact ⟨c, rfl, o, μ', e, h⟩
theorem Sat.setCell {n : Nat} {c : Cell} {k : Unit → M γ} {Q : δ → Hp → Prop} (h : Sat K E B R2 m H μ (M.bind (setCell n c) k) Q) : ∃ o μ', k () (μ.set n c) = some (o, μ') ∧ SatO K E B R2 m H μ' Q o := h
end

/-- the slots -/
structure REnv (K : PySem.W.Frag) (m : Mp) (B : List Addr) (H : Hp) (σ : L2.St) (ρ : Env) : Prop where
  len : σ.length = ρ.length
  get : ∀ (i : Nat) w, ρ[i]? = some (some w) → ∃ v, σ[i]? = some (some v) ∧ RVal K m B H v w
structure At (K : PySem.W.Frag) (B : List Addr) (σ : L2.St) (ρ : Env) (m : Mp) (μ : Sto) (H : Hp) : Prop where
  env : REnv K m B H σ ρ
  rel : Rel K m B μ H
section
variable {K : PySem.W.Frag} {E : XK} {B : List Addr} {m m' : Mp} {H H' : Hp} {μ μ' : Sto} {σ : L2.St} {ρ : Env}
theorem REnv.mono (e : REnv K m B H σ ρ) (t : Tra m H m' H') : REnv K m' B H' σ ρ :=
  ⟨e.len, fun i w h => by
    obtain ⟨v, h1, h2⟩ := e.get i w h
    exact ⟨v, h1, h2.mono t⟩⟩
theorem REnv.set (e : REnv K m B H σ ρ) {v : V} {w : Val} (r : RVal K m B H v w) (i : Nat) : REnv K m B H (σ.set i (some v)) (ρ.set i (some w)) :=
  ⟨by rw [List.length_set, List.length_set]; exact e.len, fun j u h => by
    by_cases hj : i = j
    · subst hj
      have hi : i < ρ.length := by
        have := (List.getElem?_eq_some_iff.mp h).1
        rw [List.length_set] at this
        exact this
      rw [List.getElem?_set_self hi] at h
      cases h
      exact ⟨v, by rw [List.getElem?_set_self (by rw [e.len]; exact hi)], r⟩
    · rw [List.getElem?_set_ne hj] at h
      rw [List.getElem?_set_ne hj]
      exact e.get j u h⟩
theorem REnv.unset (e : REnv K m B H σ ρ) (i : Nat) : REnv K m B H (σ.set i none) (ρ.set i none) :=
  ⟨by rw [List.length_set, List.length_set]; exact e.len, fun j u h => by
    by_cases hj : i = j
    · subst hj
      have hi : i < ρ.length := by
        have := (List.getElem?_eq_some_iff.mp h).1
        rw [List.length_set] at this
        exact this
      rw [List.getElem?_set_self hi] at h
      cases h
    · rw [List.getElem?_set_ne hj] at h
      rw [List.getElem?_set_ne hj]
      exact e.get j u h⟩
theorem REnv.wipe (e : REnv K m B H σ ρ) : ∀ vs : List Nat, REnv K m B H (L2.wipe σ vs) (wipeD ρ vs)
  | [] => e
  | v :: vs => (REnv.wipe e vs).unset v
end

/-- what is wished of an exception, by the slots -/
abbrev XS := L2.St → XK
abbrev E0s : XS := fun _ => E0
/-- .. the same at all slots -/
def Cst (E : XS) : Prop := ∀ σ σ' : L2.St, E σ = E σ'
def LE (K : PySem.W.Frag) (E : XS) (f : Env → M Val) : TE := fun σ H Q => ∃ ρ m B μ, At K B σ ρ m μ H ∧ Sat K (E σ) B (RV K B) m H μ (f ρ) Q
def LA (K : PySem.W.Frag) (E : XS) (f : Env → M (List Val)) : TA := fun σ H Q => ∃ ρ m B μ, At K B σ ρ m μ H ∧ Sat K (E σ) B (RL K B) m H μ (f ρ) Q
def LT (K : PySem.W.Frag) (E : XS) (f : Env → M Bool) : TT := fun σ H Q => ∃ ρ m B μ, At K B σ ρ m μ H ∧ Sat K (E σ) B RQ m H μ (f ρ) Q
def LO (K : PySem.W.Frag) (E : XS) (f : Env → M (Option Int)) : TO := fun σ H Q => ∃ ρ m B μ, At K B σ ρ m μ H ∧ Sat K (E σ) B RQ m H μ (f ρ) Q

theorem _root_.L2.PE.imp {X : Cx} {e : Expr} {t t' : TE} (h : PE X e t) (i : ∀ σ H Q, t' σ H Q → t σ H Q) : PE X e t' := ⟨fun pins s σ H Q I q => h.run pins s σ H Q I (i σ H Q q)⟩
theorem _root_.L2.PT.imp {X : Cx} {e : Expr} {t t' : TT} (h : PT X e t) (i : ∀ σ H Q, t' σ H Q → t σ H Q) : PT X e t' := ⟨fun pins s σ H Q I q => h.run pins s σ H Q I (i σ H Q q)⟩
theorem _root_.L2.PA.imp {X : Cx} {e : List Expr} {t t' : TA} (h : PA X e t) (i : ∀ σ H Q, t' σ H Q → t σ H Q) : PA X e t' := ⟨fun pos pins s σ H Q I q => h.run pos pins s σ H Q I (i σ H Q q)⟩
theorem _root_.L2.PSs.imp {X : Cx} {e : List Stmt} {t t' : TS} (h : PSs X e t) (i : ∀ Dn σ H, t' Dn σ H → t Dn σ H) : PSs X e t' := ⟨fun pins s σ H Q I q => h.run pins s σ H Q I (i Q σ H q)⟩
theorem _root_.L2.PS.imp {X : Cx} {e : Stmt} {t t' : TS} (h : PS X e t) (i : ∀ Dn σ H, t' Dn σ H → t Dn σ H) : PS X e t' := ⟨fun pins s σ H Q I q => h.run pins s σ H Q I (i Q σ H q)⟩
theorem _root_.L2.PO.imp {X : Cx} {e : Option Expr} {t t' : TO} (h : PO X e t) (i : ∀ σ H Q, t' σ H Q → t σ H Q) : PO X e t' := ⟨fun pins s σ H Q I q => h.run pins s σ H Q I (i σ H Q q)⟩

section
variable {X : Cx} {K : PySem.W.Frag} {E : XS} {B : List Addr} {m m' : Mp} {H H' : Hp} {μ μ' : Sto} {σ : L2.St} {ρ : Env} {δ γ : Type} {R2 : Mp → Hp → δ → γ → Prop} {Q : δ → Hp → Prop}
/-- one step on: f, then k -/
theorem LE.bind {f : Env → M Val} {k : Val → M γ} (a : At K B σ ρ m μ H) (h : Sat K (E σ) B R2 m H μ (M.bind (f ρ) k) Q) {Q' : VK}
    (n : ∀ v H1 m1 μ1 w, Tra m H m1 H1 → At K B σ ρ m1 μ1 H1 → RVal K m1 B H1 v w → Sat K (E σ) B R2 m1 H1 μ1 (k w) Q → Q' v H1) : LE K E f σ H Q' :=
  ⟨ρ, m, B, μ, a, (Sat.bind (R := RV K B) h).mono fun v H1 ⟨m1, μ1, w, t, r, rr, s⟩ => n v H1 m1 μ1 w t ⟨a.env.mono t, r⟩ rr s⟩
theorem LA.bind {f : Env → M (List Val)} {k : List Val → M γ} (a : At K B σ ρ m μ H) (h : Sat K (E σ) B R2 m H μ (M.bind (f ρ) k) Q) {Q' : List V → Hp → Prop}
    (n : ∀ v H1 m1 μ1 w, Tra m H m1 H1 → At K B σ ρ m1 μ1 H1 → RVals K m1 B H1 v w → Sat K (E σ) B R2 m1 H1 μ1 (k w) Q → Q' v H1) : LA K E f σ H Q' :=
  ⟨ρ, m, B, μ, a, (Sat.bind (R := RL K B) h).mono fun v H1 ⟨m1, μ1, w, t, r, rr, s⟩ => n v H1 m1 μ1 w t ⟨a.env.mono t, r⟩ rr s⟩
theorem LT.bind {f : Env → M Bool} {k : Bool → M γ} (a : At K B σ ρ m μ H) (h : Sat K (E σ) B R2 m H μ (M.bind (f ρ) k) Q) {Q' : Bool → Hp → Prop}
    (n : ∀ b H1 m1 μ1, Tra m H m1 H1 → At K B σ ρ m1 μ1 H1 → Sat K (E σ) B R2 m1 H1 μ1 (k b) Q → Q' b H1) : LT K E f σ H Q' :=
  ⟨ρ, m, B, μ, a, (Sat.bind (R := RQ) h).mono fun v H1 ⟨m1, μ1, w, t, r, rr, s⟩ => by
    have rr : v = w := rr
    subst rr
    exact n v H1 m1 μ1 t ⟨a.env.mono t, r⟩ s⟩
theorem LO.bind {f : Env → M (Option Int)} {k : Option Int → M γ} (a : At K B σ ρ m μ H) (h : Sat K (E σ) B R2 m H μ (M.bind (f ρ) k) Q) {Q' : Option Int → Hp → Prop}
    (n : ∀ b H1 m1 μ1, Tra m H m1 H1 → At K B σ ρ m1 μ1 H1 → Sat K (E σ) B R2 m1 H1 μ1 (k b) Q → Q' b H1) : LO K E f σ H Q' :=
  ⟨ρ, m, B, μ, a, (Sat.bind (R := RQ) h).mono fun v H1 ⟨m1, μ1, w, t, r, rr, s⟩ => by
    have rr : v = w := rr
    subst rr
    exact n v H1 m1 μ1 t ⟨a.env.mono t, r⟩ s⟩
/-- the last step: what follows is known of the very state -/
theorem LE.last {f : Env → M Val} (a : At K B σ ρ m μ H) {Q : VK} (h : Sat K (E σ) B (RV K B) m H μ (f ρ) Q) : LE K E f σ H Q := ⟨ρ, m, B, μ, a, h⟩
end

/-! ### names, constants -/
section
variable {X : Cx} {E : XS} {pos : Pos} {j : Nat}
theorem s_var {i : Nat} {x : Str} (hN : X.N[i]? = some x) (hv : Vis X.env.scope x) (hd : (x == ("__debug__" : Str)) = false) (hcd : (x == ("__classdict__" : Str)) = false) : PE X (.Name x pos) (LE X.K E fun ρ => look ρ i) :=
  (pe_var hN hv hd hcd).imp fun σ H Q ⟨ρ, m, B, μ, a, o, μ', e, h⟩ => by
    unfold look at e
    cases hr : ρ[i]? with
    | none => simp only [hr] at e; cases e
    | some w =>
      cases w with
      | none => simp only [hr] at e; cases e
      | some w =>
        simp only [hr] at e
        cases e
        obtain ⟨v, h1, h2⟩ := a.env.get i w hr
        exact ⟨v, h1, h v H m .refl a.rel h2⟩
theorem s_c {e : Expr} {v : V} {d : D} (h : PE X e (tC v)) (r : ∀ m B H, RD X.K m B H v d) : PE X e (LE X.K E fun _ => M.dat d) :=
  h.imp fun σ H Q ⟨ρ, m, B, μ, a, q⟩ => q.pure a.rel (.dat (r m B H))
theorem s_int {i : Int} : PE X (.Constant (.int i) j pos) (LE X.K E fun _ => M.dat (.int i)) := s_c pe_int fun _ _ _ => .int i
theorem s_bl {i : Bool} : PE X (.Constant (.bool i) j pos) (LE X.K E fun _ => M.dat (.bl i)) := s_c pe_bl fun _ _ _ => .bl i
theorem s_non : PE X (.Constant .none j pos) (LE X.K E fun _ => M.dat .non) := s_c pe_non fun _ _ _ => .non
theorem s_str {x : Str} (h : PyData.strOk x = true) (hl : x.length ≤ LINE) : PE X (.Constant (.str x) j pos) (LE X.K E fun _ => M.dat (.str x)) := s_c pe_str fun _ _ _ => .str x h hl
theorem s_glo {x : Str} {v : V} {u : Value} {d : D} (hg : Gl X x) (hm : X.mg x = some u) (r : RelV v u) (hr : ∀ m B H, RD X.K m B H v d) (hd : (x == ("__debug__" : Str)) = false) : PE X (.Name x pos) (LE X.K E fun _ => M.dat d) := s_c (pe_glob hg hm r hd) hr

/-! ### argument lists, displays -/
theorem s_nil : PA X [] (LA X.K E fun _ => M.pure []) := pa_nil.imp fun σ H Q ⟨ρ, m, B, μ, a, q⟩ => q.pure a.rel .nil
theorem s_cons {e : Expr} {es : List Expr} {f : Env → M Val} {g : Env → M (List Val)} (he : PE X e (LE X.K E f)) (hr : PA X es (LA X.K E g)) (hs : starEach (e :: es) X.env = (false, eval e X.env) :: starEach es X.env) :
    PA X (e :: es) (LA X.K E fun ρ => M.bind (f ρ) fun v => M.bind (g ρ) fun vs => M.pure (v :: vs)) :=
  (pa_cons he hr hs).imp fun σ H Q ⟨ρ, m, B, μ, a, h⟩ => LE.bind a h fun v H1 m1 μ1 w t1 a1 r1 h1 => LA.bind a1 h1 fun vs H2 m2 μ2 ws t2 a2 r2 h2 => h2.pure a2.rel (.cons (r1.mono t2) r2)
theorem toDs_sat {E : XK} {K : PySem.W.Frag} {B : List Addr} {m : Mp} {H : Hp} {μ : Sto} {γ δ : Type} {R2 : Mp → Hp → δ → γ → Prop} {k : List D → M γ} {Q : δ → Hp → Prop} : ∀ {ws : List Val} {vs : List V}, RVals K m B H vs ws → Sat K E B R2 m H μ (M.bind (toDs ws) k) Q →
    ∃ ds, RDs K m B H vs ds ∧ ws = ds.map Val.dat ∧ toDs ws = M.pure ds ∧ Sat K E B R2 m H μ (k ds) Q := by
  intro ws
  induction ws generalizing k with
  | nil =>
    intro vs r h
    cases r
    exact ⟨[], .nil, rfl, rfl, h⟩
  | cons w ws ih =>
    intro vs r h
    cases r with
    | cons r1 r2 =>
      cases r1 with
      | ref _ =>
        obtain ⟨o, μ', e, _⟩ := h
        cases e
      | exc0 _ _ =>
        obtain ⟨o, μ', e, _⟩ := h
        cases e
      | exc1 _ _ _ _ _ =>
        obtain ⟨o, μ', e, _⟩ := h
        cases e
      | dat r1 =>
        rename_i v vs d
        have h' : Sat K E B R2 m H μ (M.bind (toDs ws) fun ds => k (d :: ds)) Q := by
          obtain ⟨o, μ', e, h⟩ := h
          refine ⟨o, μ', ?_, h⟩
          rw [← e]
          show M.bind (toDs ws) (fun ds => k (d :: ds)) μ = M.bind (M.bind (toDs ws) fun ds => M.pure (d :: ds)) k μ
          unfold M.bind
          cases toDs ws μ with
          | none => rfl
          | some p =>
            obtain ⟨p1, p2⟩ := p
            cases p1 <;> rfl
        obtain ⟨ds, a1, a2, a3, a4⟩ := ih r2 h'
        refine ⟨d :: ds, .cons r1 a1, by rw [a2]; rfl, ?_, a4⟩
        show M.bind (toDs ws) (fun ds => M.pure (d :: ds)) = _
        rw [a3]
        rfl
theorem s_tup {es : List Expr} {x1 : Nat} {f : Env → M (List Val)} (h : PA X es (LA X.K E f)) : PE X (.Tuple es x1 pos) (LE X.K E fun ρ => M.bind (f ρ) fun vs => M.bind (toDs vs) fun ds => M.when (Nat.ble ds.length LINE) (M.dat (.tup ds))) :=
  (pe_tup h).imp fun σ H Q ⟨ρ, m, B, μ, a, h⟩ => LA.bind a h fun vs H1 m1 μ1 ws t1 a1 r1 h1 => by
    obtain ⟨ds, rd, _, _, h2⟩ := toDs_sat r1 h1
    obtain ⟨hl, h3⟩ := h2.when
    have hl : vs.length ≤ LINE := by rw [rd.length]; exact Nat.le_of_ble_eq_true hl
    refine ⟨by rw [sizeLine_eq]; exact hl, fun p hp => h3.ext a1.rel (Ext.new hp) (.dat (.tup (SqT.of upd_same) hl (rd.mono (.of_ext (Ext.new hp)))))⟩
theorem RD.newLst {K : PySem.W.Frag} {B : List Addr} {m : Mp} {H : Hp} {μ : Sto} {p : Addr} {xs : List V} {ds : List D} (r : Rel K m B μ H) (hp : H p = none) (hl : xs.length ≤ LINE) (rd : RDs K m B H xs ds) : RD K m B (upd H p (.lst xs)) (.ref p) (.lst ds) :=
  .lst upd_same hl (r.fresh_live hp) (r.fresh_B hp) (rd.mono (.of_ext (Ext.new hp)))
theorem s_lst {es : List Expr} {f : Env → M (List Val)} (h : PA X es (LA X.K E f)) : PE X (.List es pos) (LE X.K E fun ρ => M.bind (f ρ) fun vs => M.bind (toDs vs) fun ds => M.when (Nat.ble ds.length LINE) (M.dat (.lst ds))) :=
  (pe_lst h).imp fun σ H Q ⟨ρ, m, B, μ, a, h⟩ => LA.bind a h fun vs H1 m1 μ1 ws t1 a1 r1 h1 => by
    obtain ⟨ds, rd, _, _, h2⟩ := toDs_sat r1 h1
    obtain ⟨hl, h3⟩ := h2.when
    have hl : vs.length ≤ LINE := by rw [rd.length]; exact Nat.le_of_ble_eq_true hl
    refine ⟨by rw [sizeLine_eq]; exact hl, fun p hp => h3.ext a1.rel (Ext.new hp) (.dat (RD.newLst a1.rel hp hl rd))⟩
theorem newCell_sat {E : XK} {K : PySem.W.Frag} {B : List Addr} {m : Mp} {H : Hp} {μ : Sto} {p : Addr} {xs : List V} {ds : List D} {Q : VK} (r : Rel K m B μ H) (hp : H p = none) (hl : xs.length ≤ LINE) (rd : RDs K m B H xs ds)
    (h : Sat K E B (RV K B) m H μ (newCell (.lst ds)) Q) : Q (.ref p) (upd H p (.lst xs)) := by
  obtain ⟨o, μ', e, h⟩ := h
  cases e
  refine h _ _ (m ++ [some p]) (tra_cell hp) (r.cell hp hl rd) (.ref (.inl ?_))
  rw [← r.len, List.getElem?_append_right (Nat.le_refl _), Nat.sub_self]
  rfl
theorem s_clst {es : List Expr} {f : Env → M (List Val)} (h : PA X es (LA X.K E f)) : PE X (.List es pos) (LE X.K E fun ρ => M.bind (f ρ) fun vs => M.bind (toDs vs) fun ds => M.when (Nat.ble ds.length LINE) (newCell (.lst ds))) :=
  (pe_lst h).imp fun σ H Q ⟨ρ, m, B, μ, a, h⟩ => LA.bind a h fun vs H1 m1 μ1 ws t1 a1 r1 h1 => by
    obtain ⟨ds, rd, _, _, h2⟩ := toDs_sat r1 h1
    obtain ⟨hl, h3⟩ := h2.when
    have hl : vs.length ≤ LINE := by rw [rd.length]; exact Nat.le_of_ble_eq_true hl
    exact ⟨by rw [sizeLine_eq]; exact hl, fun p hp => newCell_sat a1.rel hp hl rd h3⟩
end
end G
set_option Elab.async false
set_option linter.all false
set_option maxRecDepth 100000
set_option maxHeartbeats 1000000
/-! G4: operators. -/
namespace G
open PySem L2

section
variable {K : PySem.W.Frag} {E : XK} {B : List Addr} {m : Mp} {H : Hp} {μ : Sto} {v : V}
theorem RVal.int_inv {i : Int} (r : RVal K m B H v (.dat (.int i))) : v = .int i := by
  cases r with
  | dat h => cases h; rfl
theorem RVal.bl_inv {i : Bool} (r : RVal K m B H v (.dat (.bl i))) : v = .bl i := by
  cases r with
  | dat h => cases h; rfl
theorem RVal.str_inv {x : Str} (r : RVal K m B H v (.dat (.str x))) : v = .str x ∧ PyData.strOk x = true ∧ x.length ≤ LINE := by
  cases r with
  | dat h => cases h with
    | str _ a b => exact ⟨rfl, a, b⟩
theorem RVal.tup_inv {ds : List D} (r : RVal K m B H v (.dat (.tup ds))) : ∃ a xs, v = .ref a ∧ SqT K H a xs ∧ xs.length ≤ LINE ∧ RDs K m B H xs ds := by
  cases r with
  | dat h => cases h with
    | tup a b c => exact ⟨_, _, rfl, a, b, c⟩
theorem RVal.lst_inv {ds : List D} (r : RVal K m B H v (.dat (.lst ds))) : ∃ a xs, v = .ref a ∧ H a = some (.lst xs) ∧ xs.length ≤ LINE ∧ RDs K m B H xs ds ∧ ¬ Live m a ∧ a ∉ B := by
  cases r with
  | dat h => cases h with
    | lst a b c d e => exact ⟨_, _, rfl, a, b, e, c, d⟩
theorem RVal.frz_inv {ds : List D} (r : RVal K m B H v (.dat (.frz ds))) : ∃ a xs, v = .ref a ∧ FzL K H a xs ∧ xs.length ≤ LINE ∧ RDs K m B H xs ds := by
  cases r with
  | dat h => cases h with
    | frz a b c => exact ⟨_, _, rfl, a, b, c⟩
theorem RVal.cell_inv {n : Nat} {c : Cell} (rel : Rel K m B μ H) (r : RVal K m B H v (.ref n)) (hc : μ[n]? = some c) (nd : c ≠ .dead) : ∃ a, v = .ref a ∧ m[n]? = some (some a) ∧ CellOk K m B H a c := by
  cases r with
  | ref h =>
    rcases h with h | h
    · obtain ⟨c', e1, e2⟩ := rel.cel n _ h
      rw [hc] at e1
      cases e1
      exact ⟨_, rfl, h, e2⟩
    · rw [rel.ded n h] at hc
      cases hc
      exact absurd rfl nd
theorem RVal.cellL_inv {n : Nat} {ds : List D} (rel : Rel K m B μ H) (r : RVal K m B H v (.ref n)) (hc : μ[n]? = some (.lst ds)) : ∃ a xs, v = .ref a ∧ m[n]? = some (some a) ∧ H a = some (.lst xs) ∧ xs.length ≤ LINE ∧ RDs K m B H xs ds := by
  obtain ⟨a, e1, e2, xs, h1, h2, h3⟩ := r.cell_inv rel hc (by intro z; cases z)
  exact ⟨a, xs, e1, e2, h1, h2, h3⟩
/-- a list or a tuple -/
def SeqAt (K : PySem.W.Frag) (H : Hp) (a : Addr) (l : Bool) (xs : List V) : Prop := match l with
  | true => H a = some (.lst xs)
  | false => SqT K H a xs
theorem view_sat {γ δ : Type} {R2 : Mp → Hp → δ → γ → Prop} {w : Val} {k : Bool × List D → M γ} {Q : δ → Hp → Prop} (rel : Rel K m B μ H) (r : RVal K m B H v w) (h : Sat K E B R2 m H μ (M.bind (view w) k) Q) :
    ∃ l ds a xs, v = .ref a ∧ SeqAt K H a l xs ∧ xs.length ≤ LINE ∧ RDs K m B H xs ds ∧ Sat K E B R2 m H μ (k (l, ds)) Q := by
  cases w with
  | dat d =>
    cases d with
    | tup ds =>
      obtain ⟨a, xs, e, h1, h2, h3⟩ := r.tup_inv
      exact ⟨false, ds, a, xs, e, h1, h2, h3, h⟩
    | lst ds =>
      obtain ⟨a, xs, e, h1, h2, h3, _⟩ := r.lst_inv
      exact ⟨true, ds, a, xs, e, h1, h2, h3, h⟩
    | non => obtain ⟨_, _, e, _⟩ := h; cases e
    | bl _ => obtain ⟨_, _, e, _⟩ := h; cases e
    | int _ => obtain ⟨_, _, e, _⟩ := h; cases e
    | str _ => obtain ⟨_, _, e, _⟩ := h; cases e
    | frz _ => obtain ⟨_, _, e, _⟩ := h; cases e
  | exc _ _ _ => obtain ⟨_, _, e, _⟩ := h; cases e
  | ref n =>
    obtain ⟨o, μ', e, hq⟩ := h
    unfold M.bind view M.bind cellAt at e
    cases hc : μ[n]? with
    | none => simp only [hc] at e; cases e
    | some c =>
      cases c with
      | dead => simp only [hc, M.fail] at e; cases e
      | lst ds =>
        simp only [hc, M.pure] at e
        obtain ⟨a, xs, e1, _, h1, h2, h3⟩ := r.cellL_inv rel hc
        exact ⟨true, ds, a, xs, e1, h1, h2, h3, o, μ', e, hq⟩
end

/-- an operation on values, kept by a rule -/
def OpS (X : Cx) (E : XS) (r : R2) (o : Val → Val → M Val) : Prop :=
  ∀ σ B m H μ x y wx wy Q, Rel X.K m B μ H → RVal X.K m B H x wx → RVal X.K m B H y wy → Sat X.K (E σ) B (RV X.K B) m H μ (o wx wy) Q → r x y H Q
section
variable {X : Cx} {E : XS} {pos : Pos} {a b : Expr} {fa fb : Env → M Val}
theorem s_op {r : R2} {o : Val → Val → M Val} {e : Expr} (hs : OpS X E r o) (h : PE X e (tOp r (LE X.K E fa) (LE X.K E fb))) : PE X e (LE X.K E fun ρ => M.bind (fa ρ) fun x => M.bind (fb ρ) fun y => o x y) :=
  h.imp fun σ H Q ⟨ρ, m, B, μ, a, h⟩ => LE.bind a h fun v H1 m1 μ1 w t1 a1 r1 h1 => LE.bind a1 h1 fun u H2 m2 μ2 w2 t2 a2 r2 h2 => hs σ B m2 H2 μ2 v u w w2 Q a2.rel (r1.mono t2) r2 h2
theorem OpS.or {r : R2} {o : Val → Val → M Val} (r' : R2) (h : OpS X E r o) : OpS X E (fun x y H Q => r x y H Q ∨ r' x y H Q) o := fun σ B m H μ x y wx wy Q h1 h2 h3 h4 => .inl (h σ B m H μ x y wx wy Q h1 h2 h3 h4)

theorem ints2_inv {E : XK} {K : PySem.W.Frag} {B : List Addr} {m : Mp} {H : Hp} {μ : Sto} {x y : V} {wx wy : Val} {f : Int → Int → M Val} {Q : VK} (rx : RVal K m B H x wx) (ry : RVal K m B H y wy) (h : Sat K E B (RV K B) m H μ (ints2 wx wy f) Q) :
    ∃ i j, x = .int i ∧ y = .int j ∧ Sat K E B (RV K B) m H μ (f i j) Q := by
  unfold ints2 at h
  split at h
  · exact ⟨_, _, rx.int_inv, ry.int_inv, h⟩
  · exact h.fail.elim
/-- two ints, a condition -/
theorem opS_I {C : Int → Int → Prop} {g : Int → Int → Int} {c : Int → Int → Bool} (hc : ∀ i j, c i j = true → C i j) : OpS X E (rI C fun i j => .int (g i j)) (fun a b => ints2 a b fun i j => M.when (c i j) (M.dat (.int (g i j)))) := by
  intro σ B m H μ x y wx wy Q rel rx ry h
  obtain ⟨i, j, e1, e2, h⟩ := ints2_inv rx ry h
  obtain ⟨h1, h2⟩ := h.when
  exact ⟨i, j, e1, e2, hc i j h1, h2.pure rel (.dat (.int _))⟩
theorem opS_I0 {g : Int → Int → Int} : OpS X E (rI0 fun i j => .int (g i j)) (fun a b => ints2 a b fun i j => M.dat (.int (g i j))) := by
  intro σ B m H μ x y wx wy Q rel rx ry h
  obtain ⟨i, j, e1, e2, h⟩ := ints2_inv rx ry h
  exact ⟨i, j, e1, e2, h.pure rel (.dat (.int _))⟩
theorem isP_ok {i j : Int} (h : isP i j = true) : CPow i j := by
  unfold isP at h
  simp only [Bool.and_eq_true, decide_eq_true_eq] at h
  exact ⟨h.1.1, h.1.2, h.2⟩
theorem isW_ok {i : Int} (h : isW i = true) : -(2 ^ 64) < i ∧ i < 2 ^ 64 := by
  unfold isW at h
  simpa only [Bool.and_eq_true, decide_eq_true_eq] using h

/-- + -/
def rAddA (K : PySem.W.Frag) : R2 := fun x y H Q => rI0 (fun i j => .int (i + j)) x y H Q ∨ (∃ i j, x = .str i ∧ y = .str j ∧ i.length + j.length ≤ sizeLine ∧ Q (.str (i ++ j)) H) ∨ rCatA K x y H Q ∨ rCat x y H Q
theorem op_addA : OpR X (binaryOp .Add) (rAddA X.K) := op_add.or (op_add_str.or (op_catA.or op_cat))
theorem strOk_append {x y : Str} (hx : PyData.strOk x = true) (hy : PyData.strOk y = true) : PyData.strOk (x ++ y) = true := by
  unfold PyData.strOk at *
  show (x.cps ++ y.cps).all _ = true
  rw [Array.all_append, hx, hy]
  rfl
theorem str_append_length (x y : Str) : (x ++ y).length = x.length + y.length := by
  show (x.cps ++ y.cps).size = _
  rw [Array.size_append]
  rfl
theorem opS_add : OpS X E (rAddA X.K) opAdd := by
  intro σ B m H μ x y wx wy Q rel rx ry h
  unfold opAdd at h
  split at h
  · exact .inl ⟨_, _, rx.int_inv, ry.int_inv, h.pure rel (.dat (.int _))⟩
  · obtain ⟨e1, s1, l1⟩ := rx.str_inv
    obtain ⟨e2, s2, l2⟩ := ry.str_inv
    obtain ⟨hl, h⟩ := h.when
    have hl := Nat.le_of_ble_eq_true hl
    refine .inr (.inl ⟨_, _, e1, e2, by rw [sizeLine_eq]; exact hl, h.pure rel (.dat (.str _ (strOk_append s1 s2) ?_))⟩)
    rw [str_append_length]; exact hl
  · obtain ⟨a, xs, e1, q1, l1, r1⟩ := rx.tup_inv
    obtain ⟨b, ys, e2, q2, l2, r2⟩ := ry.tup_inv
    obtain ⟨hl, h⟩ := h.when
    have hl : xs.length + ys.length ≤ LINE := by rw [r1.length, r2.length]; exact Nat.le_of_ble_eq_true hl
    refine .inr (.inr (.inl ⟨a, b, xs, ys, e1, e2, q1, q2, by rw [sizeLine_eq]; exact hl, fun z => ?_, fun _ z => ?_, fun _ _ p hp => ?_⟩))
    · subst z
      cases r1
      exact h.pure rel (.dat (.tup q2 l2 r2))
    · subst z
      cases r2
      have e : ∀ l : List D, l ++ [] = l := fun l => List.append_nil l
      rw [e] at h
      exact h.pure rel (.dat (.tup q1 l1 r1))
    · exact h.ext rel (Ext.new hp) (.dat (.tup (SqT.of upd_same) (by rw [List.length_append]; exact hl) ((r1.append r2).mono (.of_ext (Ext.new hp)))))
  · obtain ⟨l1, ds, a, xs, e1, q1, z1, r1, h⟩ := view_sat rel rx h
    obtain ⟨l2, es, b, ys, e2, q2, z2, r2, h⟩ := view_sat rel ry h
    obtain ⟨hl, h⟩ := h.when
    simp only [Bool.and_eq_true] at hl
    obtain ⟨⟨hl1, hl2⟩, hl⟩ := hl
    subst hl1 hl2
    have hl : xs.length + ys.length ≤ LINE := by rw [r1.length, r2.length]; exact Nat.le_of_ble_eq_true hl
    exact .inr (.inr (.inr ⟨a, b, xs, ys, e1, e2, q1, q2, by rw [sizeLine_eq]; exact hl, fun p hp => h.ext rel (Ext.new hp) (.dat (RD.newLst rel hp (by rw [List.length_append]; exact hl) (r1.append r2)))⟩))

def rMulA (K : PySem.W.Frag) : R2 := fun x y H Q => rI CMul (fun i j => .int (i * j)) x y H Q ∨ rRepT K x y H Q ∨ rRep x y H Q
theorem op_mulA : OpR X (binaryOp .Mult) (rMulA X.K) := op_mul.or (op_repT.or op_rep)
theorem rep_len {α : Type} (n : Nat) (xs : List α) : (List.replicate n xs).flatten.length = n * xs.length := by
  rw [List.length_flatten, List.map_replicate, List.sum_replicate_nat]
theorem RDs.rep {K : PySem.W.Frag} {m : Mp} {B : List Addr} {H : Hp} {xs : List V} {ds : List D} (r : RDs K m B H xs ds) : ∀ n : Nat, RDs K m B H (List.replicate n xs).flatten (List.replicate n ds).flatten
  | 0 => .nil
  | n + 1 => by
    rw [List.replicate_succ, List.replicate_succ, List.flatten_cons, List.flatten_cons]
    exact r.append (RDs.rep r n)
theorem rep_small {n k : Nat} (h1 : n ≤ 1000) (h2 : k ≤ 1000) : n * k ≤ LINE := Nat.le_trans (Nat.mul_le_mul h1 h2) (by decide)
theorem opS_mul : OpS X E (rMulA X.K) opMul := by
  intro σ B m H μ x y wx wy Q rel rx ry h
  unfold opMul at h
  split at h
  · obtain ⟨h1, h2⟩ := h.when
    refine .inl ⟨_, _, rx.int_inv, ry.int_inv, ?_, h2.pure rel (.dat (.int _))⟩
    simp only [Bool.or_eq_true] at h1
    rcases h1 with h1 | h1
    · exact .inl (isW_ok h1)
    · exact .inr (isW_ok h1)
  · obtain ⟨h1, h2⟩ := h.when
    simp only [Bool.and_eq_true, decide_eq_true_eq] at h1
    obtain ⟨⟨⟨n1, n2⟩, n3⟩, n4⟩ := h1
    have n4 := Nat.le_of_ble_eq_true n4
    obtain ⟨a, xs, e1, q1, l1, r1⟩ := rx.tup_inv
    rw [← r1.length] at n4
    refine .inr (.inl ⟨a, _, xs, e1, ry.int_inv, q1, fun z => ?_, n2, n3, n4, fun p hp => h2.ext rel (Ext.new hp) (.dat (.tup (SqT.of upd_same) ?_ ((r1.rep _).mono (.of_ext (Ext.new hp)))))⟩)
    · subst z
      cases r1
      cases n1
    · rw [rep_len]
      exact rep_small (by omega) n4
  · obtain ⟨h1, h2⟩ := h.when
    simp only [Bool.and_eq_true, decide_eq_true_eq] at h1
    obtain ⟨⟨n2, n3⟩, n4⟩ := h1
    have n4 := Nat.le_of_ble_eq_true n4
    obtain ⟨a, xs, e1, q1, l1, r1, _⟩ := rx.lst_inv
    rw [← r1.length] at n4
    refine .inr (.inr ⟨a, _, xs, e1, ry.int_inv, q1, by omega, by omega, ?_, fun p hp => h2.ext rel (Ext.new hp) (.dat (RD.newLst rel hp ?_ (r1.rep _)))⟩)
    · rw [sizeLine_eq, Nat.mul_comm]; exact rep_small (by omega) n4
    · rw [rep_len]
      exact rep_small (by omega) n4
  · exact h.fail.elim

def opOf : Bop → Operator
  | .add => .Add | .sub => .Sub | .mul => .Mult | .fdiv => .FloorDiv | .mod => .Mod | .pow => .Pow | .shl => .LShift | .shr => .RShift | .band => .BitAnd | .bor => .BitOr
theorem s_bin (o : Bop) (ha : PE X a (LE X.K E fa)) (hb : PE X b (LE X.K E fb)) : PE X (.BinOp a (opOf o) b pos) (LE X.K E fun ρ => M.bind (fa ρ) fun x => M.bind (fb ρ) fun y => opBin o x y) := by
  cases o with
  | add => exact s_op opS_add (pe_op op_addA ha hb)
  | sub => exact s_op opS_I0 (pe_op op_sub ha hb)
  | mul => exact s_op opS_mul (pe_op op_mulA ha hb)
  | fdiv => exact s_op (opS_I fun i j h => by simp only [Bool.and_eq_true, decide_eq_true_eq] at h; exact h) (pe_op op_fdiv ha hb)
  | mod => exact s_op (opS_I fun i j h => by simpa only [decide_eq_true_eq] using h) (pe_op op_mod ha hb)
  | pow => exact s_op (opS_I fun i j h => isP_ok h) (pe_op op_pow ha hb)
  | shl => exact s_op (opS_I fun i j h => isP_ok h) (pe_op op_shl ha hb)
  | shr => exact s_op (opS_I fun i j h => by simpa only [decide_eq_true_eq] using h) (pe_op op_shr ha hb)
  | band => exact s_op opS_I0 (pe_op op_and ha hb)
  | bor => exact s_op opS_I0 (pe_op op_or ha hb)
theorem s_un {u : UnaryOp} {g : Int → Int} (ho : UnR X (unaryOp u) (rU fun i => .int (g i))) (ha : PE X a (LE X.K E fa)) {k : Val → M Val} (hk : ∀ w, k w = match w with
    | .dat (.int i) => M.dat (.int (g i))
    | _ => M.fail) : PE X (.UnaryOp u a pos) (LE X.K E fun ρ => M.bind (fa ρ) k) :=
  (pe_un ho ha).imp fun σ H Q ⟨ρ, m, B, μ, a, h⟩ => LE.bind a h fun v H1 m1 μ1 w t1 a1 r1 h1 => by
    rw [hk] at h1
    split at h1
    · exact ⟨_, r1.int_inv, h1.pure a1.rel (.dat (.int _))⟩
    · exact h1.fail.elim
end
end G
set_option Elab.async false
set_option linter.all false
set_option maxRecDepth 100000
set_option maxHeartbeats 1000000
/-! G5: comparisons. -/
namespace G
open PySem L2
mutual
def D.toP : D → PyData
  | .non => .none
  | .bl b => .bool b
  | .int i => .int i
  | .str x => .str x
  | .tup ds => .tuple (D.toPs ds)
  | .lst ds => .list (D.toPs ds)
  | .frz ds => .list (D.toPs ds)
def D.toPs : List D → List PyData
  | [] => []
  | d :: ds => d.toP :: D.toPs ds
end
mutual
theorem eqv_toP : ∀ x y : D, x.own = true → y.own = true → PyData.eqv x.toP y.toP = D.eqv x y
  | .non, y, _, _ => by cases y <;> simp [D.toP, PyData.eqv, D.eqv]
  | .bl b, y, _, _ => by cases y <;> simp [D.toP, PyData.eqv, D.eqv]
  | .int i, y, _, _ => by cases y <;> simp [D.toP, PyData.eqv, D.eqv]
  | .str x, y, _, _ => by cases y <;> simp [D.toP, PyData.eqv, D.eqv]
  | .tup xs, y, hx, hy => by
    cases y with
    | tup ys =>
      simp only [D.toP, PyData.eqv, D.eqv]
      exact eqvs_toP xs ys (by simpa [D.own] using hx) (by simpa [D.own] using hy)
    | _ => simp [D.toP, PyData.eqv, D.eqv]
  | .lst xs, y, hx, hy => by
    cases y with
    | lst ys =>
      simp only [D.toP, PyData.eqv, D.eqv]
      exact eqvs_toP xs ys (by simpa [D.own] using hx) (by simpa [D.own] using hy)
    | frz ys => simp [D.own] at hy
    | _ => simp [D.toP, PyData.eqv, D.eqv]
  | .frz xs, y, hx, hy => by simp [D.own] at hx
theorem eqvs_toP : ∀ xs ys : List D, D.owns xs = true → D.owns ys = true → PyData.eqvAll (D.toPs xs) (D.toPs ys) = D.eqvs xs ys
  | [], [], _, _ => by simp [D.toPs, PyData.eqvAll, D.eqvs]
  | [], _ :: _, _, _ => by simp [D.toPs, PyData.eqvAll, D.eqvs]
  | _ :: _, [], _, _ => by simp [D.toPs, PyData.eqvAll, D.eqvs]
  | x :: xs, y :: ys, hx, hy => by
    simp only [D.owns, Bool.and_eq_true] at hx hy
    simp only [D.toPs, PyData.eqvAll, D.eqvs]
    rw [eqv_toP x y hx.1 hy.1, eqvs_toP xs ys hx.2 hy.2]
end
mutual
theorem dep_toP : ∀ x : D, x.toP.depth = x.dep
  | .non => rfl
  | .bl _ => rfl
  | .int _ => rfl
  | .str _ => rfl
  | .tup xs => by simp only [D.toP, PyData.depth, D.dep, deps_toP xs]
  | .lst xs => by simp only [D.toP, PyData.depth, D.dep, deps_toP xs]
  | .frz xs => by simp only [D.toP, PyData.depth, D.dep, deps_toP xs]
theorem deps_toP : ∀ xs : List D, PyData.depthAll (D.toPs xs) = D.deps xs
  | [] => rfl
  | x :: xs => by simp only [D.toPs, PyData.depthAll, D.deps, dep_toP x, deps_toP xs]
end
section
variable {K : PySem.W.Frag} {E : XK} {B : List Addr} {m : Mp} {H : Hp} {μ : Sto} {v : V}
mutual
theorem RD.dp : ∀ {v : V} {d : D}, RD K m B H v d → Dp K H v d.toP
  | _, _, .non => .non
  | _, _, .bl b => .bl b
  | _, _, .int i => .int i
  | _, _, .str x _ _ => .str x
  | _, _, .tup h _ r => by rw [D.toP]; exact .tup h (RDs.dp r)
  | _, _, .lst h _ _ _ r => by rw [D.toP]; exact .lst (SqL.of h) (RDs.dp r)
  | _, _, .frz h _ r => by rw [D.toP]; exact .lst h.sq (RDs.dp r)
theorem RDs.dp : ∀ {vs : List V} {ds : List D}, RDs K m B H vs ds → DpAll K H vs (D.toPs ds)
  | _, _, .nil => .nil
  | _, _, .cons h r => .cons (RD.dp h) (RDs.dp r)
end
mutual
theorem RD.lay : ∀ {v : V} {d : D}, RD K m B H v d → d.toP.canLay0 = true
  | _, _, .non => by simp [D.toP, PyData.canLay0]
  | _, _, .bl b => by simp [D.toP, PyData.canLay0]
  | _, _, .int i => by simp [D.toP, PyData.canLay0]
  | _, _, .str x h _ => by simp [D.toP, PyData.canLay0, h]
  | _, _, .tup h _ r => by simp only [D.toP, PyData.canLay0]; exact RDs.lay r
  | _, _, .lst h _ _ _ r => by simp only [D.toP, PyData.canLay0]; exact RDs.lay r
  | _, _, .frz h _ r => by simp only [D.toP, PyData.canLay0]; exact RDs.lay r
theorem RDs.lay : ∀ {vs : List V} {ds : List D}, RDs K m B H vs ds → PyData.canLayAll0 (D.toPs ds) = true
  | _, _, .nil => by simp [D.toPs, PyData.canLayAll0]
  | _, _, .cons h r => by simp only [D.toPs, PyData.canLayAll0, RD.lay h, RDs.lay r]; rfl
end
theorem asD_sat {γ δ : Type} {R2 : Mp → Hp → δ → γ → Prop} {w : Val} {k : D → M γ} {Q : δ → Hp → Prop} (rel : Rel K m B μ H) (r : RVal K m B H v w) (h : Sat K E B R2 m H μ (M.bind (asD w) k) Q) :
    ∃ d, Dp K H v d.toP ∧ d.toP.canLay0 = true ∧ Sat K E B R2 m H μ (k d) Q := by
  cases w with
  | dat d =>
    cases r with
    | dat r => exact ⟨d, r.dp, r.lay, h⟩
  | exc _ _ _ => obtain ⟨_, _, e, _⟩ := h; cases e
  | ref n =>
    obtain ⟨o, μ', e, hq⟩ := h
    unfold M.bind asD M.bind cellAt at e
    cases hc : μ[n]? with
    | none => simp only [hc] at e; cases e
    | some c =>
      cases c with
      | dead => simp only [hc, M.fail] at e; cases e
      | lst ds =>
        simp only [hc, M.pure] at e
        obtain ⟨a, xs, e1, _, h1, h2, h3⟩ := r.cellL_inv rel hc
        subst e1
        refine ⟨.lst ds, ?_, ?_, o, μ', e, hq⟩
        · rw [D.toP]; exact .lst (SqL.of h1) h3.dp
        · simp only [D.toP, PyData.canLay0]; exact h3.lay
theorem cmpb_ok {d : D} (h : d.cmpb = true) : d.own = true ∧ d.dep ≤ 64 := by
  unfold D.cmpb at h
  simp only [Bool.and_eq_true] at h
  exact ⟨h.1, Nat.le_of_ble_eq_true h.2⟩
theorem shaped_of {d : D} (h : d.cmpb = true) (hl : d.toP.canLay0 = true) : PySem.SeqAt.shaped d.toP = true := by
  unfold PySem.SeqAt.shaped
  rw [hl, dep_toP, decide_eq_true (cmpb_ok h).2]
  rfl
end
section
variable {X : Cx} {E : XS} {pos : Pos} {a b : Expr} {fa fb : Env → M Val}
theorem opS_eq : OpS X E (rEqD X.K) (fun x y => eqM x y id) := by
  intro σ B m H μ x y wx wy Q rel rx ry h
  obtain ⟨d, d1, d2, h⟩ := asD_sat rel rx h
  obtain ⟨e, e1, e2, h⟩ := asD_sat rel ry h
  obtain ⟨hc, h⟩ := h.when
  simp only [Bool.and_eq_true] at hc
  refine ⟨_, _, d1, e1, shaped_of hc.1 d2, shaped_of hc.2 e2, ?_⟩
  rw [eqv_toP d e (cmpb_ok hc.1).1 (cmpb_ok hc.2).1]
  exact h.pure rel (.dat (.bl _))
theorem opS_ne : OpS X E (rNeD X.K) (fun x y => eqM x y not) := by
  intro σ B m H μ x y wx wy Q rel rx ry h
  obtain ⟨d, d1, d2, h⟩ := asD_sat rel rx h
  obtain ⟨e, e1, e2, h⟩ := asD_sat rel ry h
  obtain ⟨hc, h⟩ := h.when
  simp only [Bool.and_eq_true] at hc
  refine ⟨_, _, d1, e1, shaped_of hc.1 d2, shaped_of hc.2 e2, ?_⟩
  rw [eqv_toP d e (cmpb_ok hc.1).1 (cmpb_ok hc.2).1]
  exact h.pure rel (.dat (.bl _))
/-- in, over data -/
def rInD (K : PySem.W.Frag) (g : Bool → Bool) : R2 := fun x y H Q => ∃ d ds, Dp K H x d ∧ (Dp K H y (.list ds) ∨ Dp K H y (.tuple ds)) ∧ d.canLay0 = true ∧ PyData.canLayAll0 ds = true ∧ d.depth ≤ 64 ∧ Q (.bl (g (ds.any fun y => PyData.eqv y d))) H
theorem op_inD (hu : X.A.units + 200 < cLine) : OpR X (compareOp .In) (rInD X.K id) := by
  intro pins s σ H x y v u Q I rx ry h
  obtain ⟨d, ds, h1, h2, h3, h4, h5, q⟩ := h
  obtain ⟨as, r1⟩ := Dp.reads I d x v h1 rx
  have hm : X.A.units + 1 + min (PyData.depthAll ds) d.depth < cLine := by
    have : min (PyData.depthAll ds) d.depth ≤ d.depth := Nat.min_le_right _ _
    omega
  rcases h2 with h2 | h2
  · obtain ⟨bs, r2⟩ := Dp.reads I _ y u h2 ry
    exact PySem.SeqAt.in_list_reads r2 r1 h4 h3 hm ⟨.bl _, H, I, rfl, q⟩
  · obtain ⟨bs, r2⟩ := Dp.reads I _ y u h2 ry
    exact PySem.SeqAt.in_tuple_reads r2 r1 h4 h3 hm ⟨.bl _, H, I, rfl, q⟩
theorem op_notInD (hu : X.A.units + 200 < cLine) : OpR X (compareOp .NotIn) (rInD X.K not) := by
  intro pins s σ H x y v u Q I rx ry h
  obtain ⟨d, ds, h1, h2, h3, h4, h5, q⟩ := h
  obtain ⟨as, r1⟩ := Dp.reads I d x v h1 rx
  have hm : X.A.units + 1 + min (PyData.depthAll ds) d.depth < cLine := by
    have : min (PyData.depthAll ds) d.depth ≤ d.depth := Nat.min_le_right _ _
    omega
  rcases h2 with h2 | h2
  · obtain ⟨bs, r2⟩ := Dp.reads I _ y u h2 ry
    exact PySem.SeqAt.notIn_list_reads r2 r1 h4 h3 hm ⟨.bl _, H, I, rfl, q⟩
  · obtain ⟨bs, r2⟩ := Dp.reads I _ y u h2 ry
    exact PySem.SeqAt.notIn_tuple_reads r2 r1 h4 h3 hm ⟨.bl _, H, I, rfl, q⟩
theorem any_toP (x : D) (hx : x.own = true) : ∀ ds : List D, ds.all D.cmpb = true → (D.toPs ds).any (fun y => PyData.eqv y x.toP) = ds.any fun y => D.eqv y x
  | [], _ => rfl
  | d :: ds, h => by
    simp only [List.all_cons, Bool.and_eq_true] at h
    simp only [D.toPs, List.any_cons]
    rw [eqv_toP d x (cmpb_ok h.1).1 hx, any_toP x hx ds h.2]
theorem opS_in {g : Bool → Bool} : OpS X E (fun x y H Q => (∃ i j, x = .str i ∧ y = .str j ∧ Q (.bl (g (hasStr j i))) H) ∨ rInD X.K g x y H Q) (fun x y => inM x y g) := by
  intro σ B m H μ x y wx wy Q rel rx ry h
  replace h : Sat X.K (E σ) B (RV X.K B) m H μ (inM wx wy g) Q := h
  unfold inM at h
  split at h
  · exact .inl ⟨_, _, rx.str_inv.1, ry.str_inv.1, h.pure rel (.dat (.bl _))⟩
  · obtain ⟨d, d1, d2, h⟩ := asD_sat rel rx h
    obtain ⟨l, ds, a, xs, e1, q1, z1, r1, h⟩ := view_sat rel ry h
    obtain ⟨hc, h⟩ := h.when
    simp only [Bool.and_eq_true] at hc
    subst e1
    refine .inr ⟨d.toP, D.toPs ds, d1, ?_, d2, r1.lay, by rw [dep_toP]; exact (cmpb_ok hc.1).2, ?_⟩
    · cases l with
      | true => exact .inl (.lst (SqL.of q1) r1.dp)
      | false => exact .inr (.tup q1 r1.dp)
    · rw [any_toP d (cmpb_ok hc.1).1 ds hc.2]
      exact h.pure rel (.dat (.bl _))
theorem opS_lt {f : Int → Int → Bool} : OpS X E (rI0 fun i j => .bl (f i j)) (fun x y => ltM x y f none) := by
  intro σ B m H μ x y wx wy Q rel rx ry h
  replace h : Sat X.K (E σ) B (RV X.K B) m H μ (ltM wx wy f none) Q := h
  unfold ltM at h
  split at h
  · exact ⟨_, _, rx.int_inv, ry.int_inv, h.pure rel (.dat (.bl _))⟩
  · exact h.fail.elim
  · exact h.fail.elim
theorem opS_ltS {f : Int → Int → Bool} {g : Str → Str → Bool} : OpS X E (fun x y H Q => rI0 (fun i j => .bl (f i j)) x y H Q ∨ ∃ i j, x = .str i ∧ y = .str j ∧ Q (.bl (g i j)) H) (fun x y => ltM x y f (some g)) := by
  intro σ B m H μ x y wx wy Q rel rx ry h
  replace h : Sat X.K (E σ) B (RV X.K B) m H μ (ltM wx wy f (some g)) Q := h
  unfold ltM at h
  split at h
  · exact .inl ⟨_, _, rx.int_inv, ry.int_inv, h.pure rel (.dat (.bl _))⟩
  · exact .inr ⟨_, _, rx.str_inv.1, ry.str_inv.1, h.pure rel (.dat (.bl _))⟩
  · exact h.fail.elim
theorem isNone_V {K : PySem.W.Frag} {B : List Addr} {m : Mp} {H : Hp} {v : V} {w : Val} (r : RVal K m B H v w) : decide (v = .non) = isNone w := by
  cases r with
  | dat r => cases r <;> rfl
  | ref _ => rfl
  | exc0 _ _ => rfl
  | exc1 _ _ _ _ _ => rfl
theorem isNone_inv {K : PySem.W.Frag} {B : List Addr} {m : Mp} {H : Hp} {v : V} {w : Val} (r : RVal K m B H v w) (h : isNone w = true) : v = .non := by
  rw [← isNone_V r] at h
  exact of_decide_eq_true h
theorem opS_is : OpS X E (fun x y H Q => rIsB x y H Q ∨ (y = .non ∧ Q (.bl (decide (x = .non))) H)) (fun a b => isM a b id) := by
  intro σ B m H μ x y wx wy Q rel rx ry h
  replace h : Sat X.K (E σ) B (RV X.K B) m H μ (isM wx wy _) Q := h
  unfold isM at h
  split at h
  · exact .inl ⟨_, _, rx.bl_inv, ry.bl_inv, h.pure rel (.dat (.bl _))⟩
  · obtain ⟨h1, h⟩ := h.when
    exact .inr ⟨isNone_inv ry h1, by rw [isNone_V rx]; exact h.pure rel (.dat (.bl _))⟩
theorem opS_isnot : OpS X E (fun x y H Q => rNotB x y H Q ∨ (y = .non ∧ Q (.bl (!decide (x = .non))) H)) (fun a b => isM a b not) := by
  intro σ B m H μ x y wx wy Q rel rx ry h
  replace h : Sat X.K (E σ) B (RV X.K B) m H μ (isM wx wy _) Q := h
  unfold isM at h
  split at h
  · exact .inl ⟨_, _, rx.bl_inv, ry.bl_inv, h.pure rel (.dat (.bl _))⟩
  · obtain ⟨h1, h⟩ := h.when
    exact .inr ⟨isNone_inv ry h1, by rw [isNone_V rx]; exact h.pure rel (.dat (.bl _))⟩
def cmpOf : Cop → CmpOp
  | .eq => .Eq | .ne => .NotEq | .lt => .Lt | .le => .LtE | .gt => .Gt | .ge => .GtE | .isin => .In | .notin => .NotIn | .iss => .Is | .isnot => .IsNot
/-- each comparison has a rule -/
theorem cmp_rule (hu : X.A.units + 200 < cLine) (o : Cop) : ∃ r, OpR X (compareOp (cmpOf o)) r ∧ OpS X E r (opCmp o) := by
  cases o with
  | eq => exact ⟨_, op_eqD (by omega), opS_eq⟩
  | ne => exact ⟨_, op_neD (by omega), opS_ne⟩
  | lt =>
    have e : strLt = fun i j => decide (i.cps.toList < j.cps.toList) := by
      funext i j
      exact PyProof.Rows.ltCps_eq _ _
    refine ⟨_, op_lt.or op_lt_str, ?_⟩
    show OpS X E _ (fun x y => ltM x y (fun i j => decide (i < j)) (some strLt))
    rw [e]
    exact opS_ltS
  | le => exact ⟨_, op_le, opS_lt⟩
  | gt => exact ⟨_, op_gt, opS_lt⟩
  | ge => exact ⟨_, op_ge, opS_lt⟩
  | isin => exact ⟨_, op_in_str.or (op_inD hu), opS_in (g := id)⟩
  | notin => exact ⟨_, op_notin_str.or (op_notInD hu), opS_in (g := not)⟩
  | iss => exact ⟨_, op_isBl.or op_isN, opS_is⟩
  | isnot => exact ⟨_, op_notBl.or op_notN, opS_isnot⟩
theorem s_cmp (hu : X.A.units + 200 < cLine) (o : Cop) (ha : PE X a (LE X.K E fa)) (hb : PE X b (LE X.K E fb)) (hm : ∀ op, behindInMarks op b = false) :
    PE X (.Compare a [cmpOf o] [b] pos) (LE X.K E fun ρ => M.bind (fa ρ) fun x => M.bind (fb ρ) fun y => opCmp o x y) := by
  obtain ⟨r, h1, h2⟩ := cmp_rule (E := E) hu o
  exact s_op h2 (pe_cmpR h1 ha hb (hm _))
end
end G
set_option Elab.async false
set_option linter.all false
set_option maxRecDepth 100000
set_option maxHeartbeats 1000000
/-! G6: truth, and, or, not, if, subscripts, calls. -/
namespace G
open PySem L2
theorem bind_assoc {α β γ : Type} (x : M α) (f : α → M β) (g : β → M γ) : M.bind (M.bind x f) g = M.bind x fun a => M.bind (f a) g := by
  funext μ
  unfold M.bind
  cases x μ with
  | none => rfl
  | some p =>
    obtain ⟨p1, p2⟩ := p
    cases p1 <;> rfl
theorem bind_pure {α β : Type} (a : α) (f : α → M β) : M.bind (M.pure a) f = f a := rfl
section
variable {K : PySem.W.Frag} {E : XK} {B : List Addr} {m : Mp} {H : Hp} {μ : Sto} {v : V}
theorem truV_str {x : Str} : (!x.cps.isEmpty) = ((x.length : Int) != 0) := by
  show (!decide (x.cps.size = 0)) = ((x.cps.size : Int) != 0)
  by_cases h : x.cps.size = 0
  · simp [h]
  · have : ¬ ((x.cps.size : Int) = 0) := by omega
    simp only [h, decide_false, Bool.not_false]
    exact (bne_iff_ne.mpr this).symm
theorem isEmpty_len {α β : Type} {xs : List α} {ys : List β} (h : xs.length = ys.length) : xs.isEmpty = ys.isEmpty := by
  cases xs <;> cases ys <;> simp_all
theorem truth_sat {γ δ : Type} {R2 : Mp → Hp → δ → γ → Prop} {w : Val} {k : Bool → M γ} {Q : δ → Hp → Prop} (rel : Rel K m B μ H) (r : RVal K m B H v w) (h : Sat K E B R2 m H μ (M.bind (truth w) k) Q) :
    ∃ t, TruV K v H t ∧ Sat K E B R2 m H μ (k t) Q := by
  cases w with
  | dat d =>
    cases d with
    | non => cases r with | dat r => cases r; exact ⟨_, rfl, h⟩
    | bl b => cases r with | dat r => cases r; exact ⟨_, rfl, h⟩
    | int i => cases r with | dat r => cases r; exact ⟨_, rfl, h⟩
    | str x =>
      obtain ⟨e, _, hl⟩ := r.str_inv
      subst e
      exact ⟨_, ⟨by rw [sizeLine_eq]; exact hl, truV_str⟩, h⟩
    | tup ds =>
      obtain ⟨a, xs, e, h1, h2, h3⟩ := r.tup_inv
      subst e
      exact ⟨_, .inr (.inl ⟨xs, h1, by rw [isEmpty_len h3.length]⟩), h⟩
    | lst ds =>
      obtain ⟨a, xs, e, h1, h2, h3, _⟩ := r.lst_inv
      subst e
      exact ⟨_, .inl ⟨xs, SqL.of h1, by rw [isEmpty_len h3.length]⟩, h⟩
    | frz _ => obtain ⟨_, _, e, _⟩ := h; cases e
  | exc _ _ _ => obtain ⟨_, _, e, _⟩ := h; cases e
  | ref n =>
    obtain ⟨o, μ', e, hq⟩ := h
    unfold M.bind truth M.bind cellAt at e
    cases hc : μ[n]? with
    | none => simp only [hc] at e; cases e
    | some c =>
      cases c with
      | dead => simp only [hc, M.fail] at e; cases e
      | lst ds =>
        simp only [hc, M.pure] at e
        obtain ⟨a, xs, e1, _, h1, h2, h3⟩ := r.cellL_inv rel hc
        subst e1
        exact ⟨_, .inl ⟨xs, SqL.of h1, by rw [isEmpty_len h3.length]⟩, o, μ', e, hq⟩
theorem truth_sat' {w : Val} {Q : Bool → Hp → Prop} (rel : Rel K m B μ H) (r : RVal K m B H v w) (h : Sat K E B RQ m H μ (truth w) Q) : ∃ t, TruV K v H t ∧ Q t H := by
  have e : truth w = M.bind (truth w) M.pure := by
    funext μ
    unfold M.bind
    cases truth w μ with
    | none => rfl
    | some p =>
      obtain ⟨p1, p2⟩ := p
      cases p1 <;> rfl
  rw [e] at h
  obtain ⟨t, h1, h2⟩ := truth_sat rel r h
  exact ⟨t, h1, h2.pure rel rfl⟩
theorem TruV.bl_inv {b t : Bool} (h : TruV K (.bl b) H t) : t = b := h
end
section
variable {X : Cx} {E : XS} {pos : Pos} {a b c : Expr} {fa fb fc : Env → M Val} {rest : List Expr}
/-! ### tests -/
theorem t_plain (ha : PE X a (LE X.K E fa)) (he : ∀ whole, isTrue a X.env whole = (do let v ← whole; standAt a.pos; holding [v] (truthy v))) : PT X a (LT X.K E fun ρ => M.bind (fa ρ) truth) :=
  (pt_truth ha he).imp fun σ H Q ⟨ρ, m, B, μ, a, h⟩ => LE.bind a h fun v H1 m1 μ1 w t1 a1 r1 h1 => truth_sat' a1.rel r1 h1
/-- a comparison gives a bool -/
theorem opCmp_bl {o : Cop} {x y w : Val} {μ μ' : Sto} (h : opCmp o x y μ = some (.ok w, μ')) : ∃ k, w = .dat (.bl k) ∧ μ' = μ := by
  have when_ : ∀ {c k : Bool}, M.when c (M.dat (.bl k)) μ = some (.ok w, μ') → ∃ k, w = .dat (.bl k) ∧ μ' = μ := fun {c k} h => by
    cases c with
    | false => cases h
    | true => cases h; exact ⟨_, rfl, rfl⟩
  have asD_ : ∀ {z : Val} {k : D → M Val}, M.bind (asD z) k μ = some (.ok w, μ') → ∃ d, k d μ = some (.ok w, μ') := fun {z k} h => by
    cases z with
    | dat d => exact ⟨d, h⟩
    | exc _ _ _ => cases h
    | ref n =>
      unfold M.bind asD M.bind cellAt at h
      cases hc : μ[n]? with
      | none => simp only [hc] at h; cases h
      | some c =>
        cases c with
        | dead => simp only [hc, M.fail] at h; cases h
        | lst ds => simp only [hc, M.pure] at h; exact ⟨_, h⟩
  have view_ : ∀ {z : Val} {k : Bool × List D → M Val}, M.bind (view z) k μ = some (.ok w, μ') → ∃ d, k d μ = some (.ok w, μ') := fun {z k} h => by
    cases z with
    | dat d => cases d <;> first | exact ⟨_, h⟩ | cases h
    | exc _ _ _ => cases h
    | ref n =>
      unfold M.bind view M.bind cellAt at h
      cases hc : μ[n]? with
      | none => simp only [hc] at h; cases h
      | some c =>
        cases c with
        | dead => simp only [hc, M.fail] at h; cases h
        | lst ds => simp only [hc, M.pure] at h; exact ⟨_, h⟩
  have eq_ : ∀ {f : Bool → Bool}, eqM x y f μ = some (.ok w, μ') → ∃ k, w = .dat (.bl k) ∧ μ' = μ := fun {f} h => by
    obtain ⟨d, h⟩ := asD_ h
    obtain ⟨e, h⟩ := asD_ h
    exact when_ h
  have in_ : ∀ {f : Bool → Bool}, inM x y f μ = some (.ok w, μ') → ∃ k, w = .dat (.bl k) ∧ μ' = μ := fun {f} h => by
    unfold inM at h
    split at h
    · cases h; exact ⟨_, rfl, rfl⟩
    · obtain ⟨d, h⟩ := asD_ h
      obtain ⟨e, h⟩ := view_ h
      exact when_ h
  have lt_ : ∀ {f : Int → Int → Bool} {g : Option (Str → Str → Bool)}, ltM x y f g μ = some (.ok w, μ') → ∃ k, w = .dat (.bl k) ∧ μ' = μ := fun {f g} h => by
    unfold ltM at h
    split at h
    · cases h; exact ⟨_, rfl, rfl⟩
    · split at h
      · cases h; exact ⟨_, rfl, rfl⟩
      · cases h
    · cases h
  have is_ : ∀ {f : Bool → Bool}, isM x y f μ = some (.ok w, μ') → ∃ k, w = .dat (.bl k) ∧ μ' = μ := fun {f} h => by
    unfold isM at h
    split at h
    · cases h; exact ⟨_, rfl, rfl⟩
    · exact when_ h
  cases o with
  | eq => exact eq_ h
  | ne => exact eq_ h
  | lt => unfold opCmp at h; exact lt_ h
  | le => unfold opCmp at h; exact lt_ h
  | gt => unfold opCmp at h; exact lt_ h
  | ge => unfold opCmp at h; exact lt_ h
  | isin => exact in_ h
  | notin => exact in_ h
  | iss => exact is_ h
  | isnot => exact is_ h
/-- .. so its truth is itself -/
theorem opCmp_truth {E : XK} {K : PySem.W.Frag} {B : List Addr} {m : Mp} {H : Hp} {μ : Sto} {o : Cop} {x y : Val} {Q : Bool → Hp → Prop} (h : Sat K E B RQ m H μ (M.bind (opCmp o x y) truth) Q) : Sat K E B (RV K B) m H μ (opCmp o x y) (fun z H' => ∃ k, z = .bl k ∧ Q k H') := by
  obtain ⟨p, μ', e, h⟩ := h
  unfold M.bind at e
  cases hx : opCmp o x y μ with
  | none => rw [hx] at e; cases e
  | some q =>
    obtain ⟨q1, μ1⟩ := q
    rw [hx] at e
    cases q1 with
    | er z =>
      cases e
      exact ⟨_, _, hx, h⟩
    | ok w =>
      obtain ⟨k, rfl, rfl⟩ := opCmp_bl hx
      cases e
      exact ⟨_, _, hx, fun b H' m' t r rr => ⟨k, rr.bl_inv, h k H' m' t r rfl⟩⟩
theorem t_cmp (hu : X.A.units + 200 < cLine) (o : Cop) (ha : PE X a (LE X.K E fa)) (hb : PE X b (LE X.K E fb)) (hm : ∀ op, behindInMarks op b = false) :
    PT X (.Compare a [cmpOf o] [b] pos) (LT X.K E fun ρ => M.bind (M.bind (fa ρ) fun x => M.bind (fb ρ) fun y => opCmp o x y) truth) := by
  obtain ⟨r, h1, h2⟩ := cmp_rule (E := E) hu o
  refine (pt_cmpR h1 ha hb (hm _)).imp fun σ H Q ⟨ρ, m, B, μ, a, h⟩ => ?_
  replace h : Sat X.K (E σ) B RQ m H μ (M.bind (M.bind (fa ρ) fun x => M.bind (fb ρ) fun y => opCmp o x y) truth) Q := h
  rw [bind_assoc] at h
  refine LE.bind a h fun v H1 m1 μ1 w t1 a1 r1 h1 => ?_
  rw [bind_assoc] at h1
  exact LE.bind a1 h1 fun u H2 m2 μ2 w2 t2 a2 r2 h2' => h2 σ B m2 H2 μ2 v u w w2 _ a2.rel (r1.mono t2) r2 (opCmp_truth h2')
/-! ### chains -/
/-- the first comparison, then on -/
theorem chn_first {E : XK} {K : PySem.W.Frag} {B : List Addr} {m : Mp} {H : Hp} {μ : Sto} {γ δ : Type} {R2 : Mp → Hp → δ → γ → Prop} {o : Cop} {x y : Val} {k : Val → M γ} {Q : δ → Hp → Prop} (h : Sat K E B R2 m H μ (M.bind (opCmp o x y) k) Q) :
    Sat K E B (RV K B) m H μ (opCmp o x y) (fun z H' => ∃ b m1 μ1, z = .bl b ∧ Tra m H m1 H' ∧ Rel K m1 B μ1 H' ∧ Sat K E B R2 m1 H' μ1 (k (.dat (.bl b))) Q) := by
  have h' := Sat.bind (R := RV K B) h
  obtain ⟨p, μ', e, h'⟩ := h'
  refine ⟨p, μ', e, ?_⟩
  cases p with
  | er z => exact h'
  | ok w =>
    obtain ⟨b, rfl, rfl⟩ := opCmp_bl e
    intro z H' m' t r rr
    obtain ⟨o, μ'', e2, h2⟩ := h
    unfold M.bind at e2
    rw [e] at e2
    refine ⟨b, m', _, rr.bl_inv, t, r, o, μ'', e2, ?_⟩
    cases o with
    | ok c => exact fun d H2 m2 t2 => h2 d H2 m2 (t.trans t2)
    | er z => exact fun c dd H2 m2 t2 => h2 c dd H2 m2 (t.trans t2)
theorem s_chn (hu : X.A.units + 200 < cLine) (o o' : Cop) (ha : PE X a (LE X.K E fa)) (hb : PE X b (LE X.K E fb)) (hc : PE X c (LE X.K E fc)) (hm : ∀ op op', lastMarks [op, op'] [b, c] = false) :
    PE X (.Compare a [cmpOf o, cmpOf o'] [b, c] pos) (LE X.K E fun ρ => M.bind (fa ρ) fun x => M.bind (fb ρ) fun y => chnM o o' fc ρ x y) := by
  obtain ⟨r, h1, h2⟩ := cmp_rule (E := E) hu o
  obtain ⟨r', h1', h2'⟩ := cmp_rule (E := E) hu o'
  refine (pe_chain h1 h1' ha hb hc (hm _ _)).imp fun σ H Q ⟨ρ, m, B, μ, a, h⟩ => ?_
  refine LE.bind a h fun v H1 m1 μ1 w t1 a1 r1 h1 => LE.bind a1 h1 fun u H2 m2 μ2 w2 t2 a2 r2 h3 => ?_
  refine h2 σ B m2 H2 μ2 v u w w2 _ a2.rel (r1.mono t2) r2 ((chn_first h3).mono fun z H' ⟨b, m3, μ3, e, t3, r3, h4⟩ => ⟨b, e, ?_⟩)
  cases b with
  | false =>
    rw [if_neg Bool.false_ne_true]
    exact h4.pure r3 (.dat (.bl false))
  | true =>
    rw [if_pos rfl]
    exact LE.bind ⟨a2.env.mono t3, r3⟩ h4 fun z' H4 m4 μ4 w4 t4 a4 r4 h5 => h2' σ B m4 H4 μ4 u z' w2 w4 Q a4.rel ((r2.mono t3).mono t4) r4 h5
theorem t_chn (hu : X.A.units + 200 < cLine) (o o' : Cop) (ha : PE X a (LE X.K E fa)) (hb : PE X b (LE X.K E fb)) (hc : PE X c (LE X.K E fc)) (hm : ∀ op op', lastMarks [op, op'] [b, c] = false) :
    PT X (.Compare a [cmpOf o, cmpOf o'] [b, c] pos) (LT X.K E fun ρ => M.bind (M.bind (fa ρ) fun x => M.bind (fb ρ) fun y => chnM o o' fc ρ x y) truth) := by
  obtain ⟨r, h1, h2⟩ := cmp_rule (E := E) hu o
  obtain ⟨r', h1', h2'⟩ := cmp_rule (E := E) hu o'
  refine (pt_chain h1 h1' ha hb hc (hm _ _)).imp fun σ H Q ⟨ρ, m, B, μ, a, h⟩ => ?_
  replace h : Sat X.K (E σ) B RQ m H μ (M.bind (M.bind (fa ρ) fun x => M.bind (fb ρ) fun y => chnM o o' fc ρ x y) truth) Q := h
  rw [bind_assoc] at h
  refine LE.bind a h fun v H1 m1 μ1 w t1 a1 r1 h1 => ?_
  rw [bind_assoc] at h1
  refine LE.bind a1 h1 fun u H2 m2 μ2 w2 t2 a2 r2 h3 => ?_
  unfold chnM at h3
  rw [bind_assoc] at h3
  refine h2 σ B m2 H2 μ2 v u w w2 _ a2.rel (r1.mono t2) r2 ((chn_first h3).mono fun z H' ⟨b, m3, μ3, e, t3, r3, h4⟩ => ⟨b, e, ?_⟩)
  cases b with
  | false =>
    rw [if_neg Bool.false_ne_true]
    exact ⟨false, rfl, (show Sat X.K (E σ) B RQ m3 H' μ3 (M.pure false) Q from h4).pure r3 rfl⟩
  | true =>
    rw [if_pos rfl]
    replace h4 : Sat X.K (E σ) B RQ m3 H' μ3 (M.bind (M.bind (fc ρ) fun z => opCmp o' w2 z) truth) Q := h4
    rw [bind_assoc] at h4
    exact LE.bind ⟨a2.env.mono t3, r3⟩ h4 fun z' H4 m4 μ4 w4 t4 a4 r4 h5 => h2' σ B m4 H4 μ4 u z' w2 w4 _ a4.rel ((r2.mono t3).mono t4) r4 (opCmp_truth h5)

/-! ### and, or, not -/
theorem s_and (ha : PE X a (LE X.K E fa)) (hb : PE X (.BoolOp .And (b :: rest) pos) (LE X.K E fb)) : PE X (.BoolOp .And (a :: b :: rest) pos) (LE X.K E (andM fa fb)) :=
  (pe_andT ha hb).imp fun σ H Q ⟨ρ, m, B, μ, a, h⟩ => LE.bind a h fun v H1 m1 μ1 w t1 a1 r1 h1 => by
    obtain ⟨t, e, h2⟩ := truth_sat a1.rel r1 h1
    refine ⟨t, e, ?_⟩
    cases t with
    | true => rw [if_pos rfl]; exact LE.last a1 h2
    | false => rw [if_neg Bool.false_ne_true]; exact h2.pure a1.rel r1
theorem s_or (ha : PE X a (LE X.K E fa)) (hb : PE X (.BoolOp .Or (b :: rest) pos) (LE X.K E fb)) : PE X (.BoolOp .Or (a :: b :: rest) pos) (LE X.K E (orM fa fb)) :=
  (pe_orT ha hb).imp fun σ H Q ⟨ρ, m, B, μ, a, h⟩ => LE.bind a h fun v H1 m1 μ1 w t1 a1 r1 h1 => by
    obtain ⟨t, e, h2⟩ := truth_sat a1.rel r1 h1
    refine ⟨t, e, ?_⟩
    cases t with
    | true => rw [if_pos rfl]; exact h2.pure a1.rel r1
    | false => rw [if_neg Bool.false_ne_true]; exact LE.last a1 h2
theorem s_one {op : BoolOp} (ha : PE X a (LE X.K E fa)) : PE X (.BoolOp op [a] pos) (LE X.K E fa) := pe_one ha
theorem s_not (ha : PE X a (LE X.K E fa)) : PE X (.UnaryOp .Not a pos) (LE X.K E fun ρ => M.bind (fa ρ) fun x => M.bind (truth x) fun t => M.dat (.bl (!t))) :=
  (pe_notT ha).imp fun σ H Q ⟨ρ, m, B, μ, a, h⟩ => LE.bind a h fun v H1 m1 μ1 w t1 a1 r1 h1 => by
    obtain ⟨t, e, h2⟩ := truth_sat a1.rel r1 h1
    exact ⟨t, e, h2.pure a1.rel (.dat (.bl _))⟩
theorem truth_key (w : Val) (μ : Sto) : truth w μ = none ∨ ∃ t, truth w μ = some (.ok t, μ) := by
  cases w with
  | dat d => cases d <;> first | exact .inr ⟨_, rfl⟩ | exact .inl rfl
  | exc _ _ _ => exact .inl rfl
  | ref n =>
    cases hc : μ[n]? with
    | none => exact .inl (by unfold truth M.bind cellAt; simp only [hc])
    | some c =>
      cases c with
      | dead => exact .inl (by unfold truth M.bind cellAt; simp only [hc, M.fail])
      | lst ds => exact .inr ⟨!ds.isEmpty, by unfold truth M.bind cellAt; simp only [hc, M.pure]⟩
/-- the test of (a and b) -/
theorem and_test (fa fb : Env → M Val) (ρ : Env) : M.bind (andM fa fb ρ) truth = M.bind (M.bind (fa ρ) truth) fun t => match t with
    | true => M.bind (fb ρ) truth
    | false => M.pure false := by
  funext μ
  unfold andM M.bind
  cases fa ρ μ with
  | none => rfl
  | some p =>
    obtain ⟨p1, μ1⟩ := p
    cases p1 with
    | er _ => rfl
    | ok x =>
      rcases truth_key x μ1 with e | ⟨t, e⟩
      · simp only [e]
      · cases t with
        | true => simp only [e]
        | false => simp only [e, M.pure]
theorem or_test (fa fb : Env → M Val) (ρ : Env) : M.bind (orM fa fb ρ) truth = M.bind (M.bind (fa ρ) truth) fun t => match t with
    | true => M.pure true
    | false => M.bind (fb ρ) truth := by
  funext μ
  unfold orM M.bind
  cases fa ρ μ with
  | none => rfl
  | some p =>
    obtain ⟨p1, μ1⟩ := p
    cases p1 with
    | er _ => rfl
    | ok x =>
      rcases truth_key x μ1 with e | ⟨t, e⟩
      · simp only [e]
      · cases t with
        | true => simp only [e, M.pure]
        | false => simp only [e]
theorem t_and (ha : PT X a (LT X.K E fun ρ => M.bind (fa ρ) truth)) (hb : PW X (.BoolOp .And (b :: rest) pos) (LT X.K E fun ρ => M.bind (fb ρ) truth)) : PW X (.BoolOp .And (a :: b :: rest) pos) (LT X.K E fun ρ => M.bind (andM fa fb ρ) truth) := by
  refine ⟨fun whole pins s σ H Q I h => (pw_and ha hb).run whole pins s σ H Q I ?_⟩
  obtain ⟨ρ, m, B, μ, a, h⟩ := h
  replace h : Sat X.K (E σ) B RQ m H μ (M.bind (andM fa fb ρ) truth) Q := h
  rw [and_test] at h
  refine LT.bind a h fun t H1 m1 μ1 t1 a1 h1 => ?_
  cases t with
  | true => rw [if_pos rfl]; exact ⟨ρ, m1, B, μ1, a1, h1⟩
  | false => rw [if_neg Bool.false_ne_true]; exact h1.pure a1.rel rfl
theorem t_or (ha : PT X a (LT X.K E fun ρ => M.bind (fa ρ) truth)) (hb : PW X (.BoolOp .Or (b :: rest) pos) (LT X.K E fun ρ => M.bind (fb ρ) truth)) : PW X (.BoolOp .Or (a :: b :: rest) pos) (LT X.K E fun ρ => M.bind (orM fa fb ρ) truth) := by
  refine ⟨fun whole pins s σ H Q I h => (pw_or ha hb).run whole pins s σ H Q I ?_⟩
  obtain ⟨ρ, m, B, μ, a, h⟩ := h
  replace h : Sat X.K (E σ) B RQ m H μ (M.bind (orM fa fb ρ) truth) Q := h
  rw [or_test] at h
  refine LT.bind a h fun t H1 m1 μ1 t1 a1 h1 => ?_
  cases t with
  | true => rw [if_pos rfl]; exact h1.pure a1.rel rfl
  | false => rw [if_neg Bool.false_ne_true]; exact ⟨ρ, m1, B, μ1, a1, h1⟩
theorem not_test (f : M Val) : M.bind (M.bind f fun x => M.bind (truth x) fun t => M.dat (.bl (!t))) truth = M.bind (M.bind f truth) fun t => M.pure (!t) := by
  funext μ
  unfold M.bind
  cases f μ with
  | none => rfl
  | some p =>
    obtain ⟨p1, μ1⟩ := p
    cases p1 with
    | er _ => rfl
    | ok x =>
      rcases truth_key x μ1 with e | ⟨t, e⟩
      · simp only [e]
      · simp only [e, M.dat, M.pure]; rfl
theorem t_not (ha : PT X a (LT X.K E fun ρ => M.bind (fa ρ) truth)) : PT X (.UnaryOp .Not a pos) (LT X.K E fun ρ => M.bind (M.bind (fa ρ) fun x => M.bind (truth x) fun t => M.dat (.bl (!t))) truth) :=
  (pt_not ha).imp fun σ H Q ⟨ρ, m, B, μ, a, h⟩ => by
    replace h : Sat X.K (E σ) B RQ m H μ (M.bind (M.bind (fa ρ) fun x => M.bind (truth x) fun t => M.dat (.bl (!t))) truth) Q := h
    rw [not_test] at h
    exact LT.bind a h fun t H1 m1 μ1 t1 a1 h1 => h1.pure a1.rel rfl
/-! ### a if c else b -/
theorem iteM_eq (fc fa fb : Env → M Val) (ρ : Env) : iteM fc fa fb ρ = M.bind (M.bind (fc ρ) truth) fun t => match t with
  | true => fa ρ
  | false => fb ρ := by
  unfold iteM
  rw [bind_assoc]
  all_goals rfl
theorem s_ite (hc : PT X c (LT X.K E fun ρ => M.bind (fc ρ) truth)) (ha : PE X a (LE X.K E fa)) (hb : PE X b (LE X.K E fb)) : PE X (.IfExp c a b pos) (LE X.K E (iteM fc fa fb)) :=
  (pe_ifExp hc ha hb).imp fun σ H Q ⟨ρ, m, B, μ, a, h⟩ => by
    rw [iteM_eq] at h
    refine LT.bind a h fun t H1 m1 μ1 t1 a1 h1 => ?_
    cases t with
    | true => rw [if_pos rfl]; exact LE.last a1 h1
    | false => rw [if_neg Bool.false_ne_true]; exact LE.last a1 h1
theorem t_ite (hc : PT X c (LT X.K E fun ρ => M.bind (fc ρ) truth)) (ha : PT X a (LT X.K E fun ρ => M.bind (fa ρ) truth)) (hb : PT X b (LT X.K E fun ρ => M.bind (fb ρ) truth)) : PT X (.IfExp c a b pos) (LT X.K E fun ρ => M.bind (iteM fc fa fb ρ) truth) := by
  refine ⟨fun pins s σ H Q I ⟨ρ, m, B, μ, a', h⟩ => ?_⟩
  replace h : Sat X.K (E σ) B RQ m H μ (M.bind (iteM fc fa fb ρ) truth) Q := h
  rw [iteM_eq, bind_assoc] at h
  show wpAny _ _ (isTrue c X.env (eval c X.env) >>= fun t => if t = true then isTrue a X.env (eval a X.env) else isTrue b X.env (eval b X.env)) _ _ s
  refine wpAny_bind (thn (hc.run pins s σ H _ I (LT.bind (Q' := fun t H1 => ∃ m1 μ1, At X.K B σ ρ m1 μ1 H1 ∧ Sat X.K (E σ) B RQ m1 H1 μ1 (M.bind (match t with | true => fa ρ | false => fb ρ) truth) Q) a' h fun t H1 m1 μ1 t1 a1 h1 => ⟨m1, μ1, a1, h1⟩)) fun t s1 ⟨H1, I1, m1, μ1, a1, h1⟩ => ?_)
  cases t with
  | true => rw [if_pos rfl]; exact ha.run pins s1 σ H1 Q I1 ⟨ρ, m1, B, μ1, a1, h1⟩
  | false => rw [if_neg Bool.false_ne_true]; exact hb.run pins s1 σ H1 Q I1 ⟨ρ, m1, B, μ1, a1, h1⟩
end
end G
set_option Elab.async false
set_option linter.all false
set_option maxRecDepth 100000
set_option maxHeartbeats 1000000
/-! G7: subscripts, calls of built-ins and of defs. -/
namespace G
open PySem L2
section
variable {K : PySem.W.Frag} {E : XK} {B : List Addr} {m : Mp} {H : Hp} {μ : Sto} {v : V}
theorem RDs.atI {xs : List V} {ds : List D} {i : Int} {d : D} (r : RDs K m B H xs ds) (h : L2.atI ds i = some d) : ∃ u, L2.atI xs i = some u ∧ RD K m B H u d := by
  unfold L2.atI at *
  rw [r.length]
  cases hi : ixN ds.length i with
  | none => rw [hi] at h; cases h
  | some j =>
    rw [hi] at h
    exact r.get h
theorem atI_mem {α : Type} {xs : List α} {i : Int} {c : α} (h : L2.atI xs i = some c) : c ∈ xs := by
  unfold L2.atI at h
  cases hi : ixN xs.length i with
  | none => rw [hi] at h; cases h
  | some j =>
    rw [hi] at h
    exact List.mem_of_getElem? h
theorem strOk_mem {x : Str} (h : PyData.strOk x = true) {c : Nat} (hc : c ∈ x.cps.toList) : c < 0x110000 := by
  unfold PyData.strOk at h
  have := (Array.all_eq_true_iff_forall_mem.mp h) c (by simpa using hc)
  simpa using this
theorem strOk_one {c : Nat} (h : c < 0x110000) : PyData.strOk ⟨#[c]⟩ = true := by
  unfold PyData.strOk
  simp [h]
theorem RDs.cut {xs : List V} {ds : List D} (r : RDs K m B H xs ds) (lo hi : Option Int) : RDs K m B H (cutV xs lo hi) (G.cut ds lo hi) := by
  unfold cutV G.cut
  rw [r.length]
  exact (r.drop _).take _
theorem cut_whole {α : Type} {xs : List α} {lo hi : Option Int} (h : HT.sIx xs.length 0 lo = 0 ∧ HT.sIx xs.length xs.length hi = xs.length) : G.cut xs lo hi = xs := by
  unfold G.cut
  rw [h.1, h.2]
  simp
end
section
variable {X : Cx} {E : XS} {pos p2 : Pos} {a b : Expr} {fa fb : Env → M Val}
theorem opS_idx : OpS X E (rIx X.K) opIdx := by
  intro σ B m H μ x y wx wy Q rel rx ry h
  unfold opIdx at h
  split at h
  · obtain ⟨e1, s1, l1⟩ := rx.str_inv
    obtain ⟨c, hc, h⟩ := h.ofOpt
    refine .inr (.inr ⟨_, _, c, e1, ry.int_inv, by rw [sizeLine_eq]; exact l1, hc, h.pure rel (.dat (.str _ (strOk_one (strOk_mem s1 (atI_mem hc))) ?_))⟩)
    show 1 ≤ LINE
    decide
  · obtain ⟨a, xs, e1, h1, l1, r1⟩ := rx.frz_inv
    obtain ⟨c, hc, h⟩ := h.ofOpt
    obtain ⟨u, hu, ru⟩ := r1.atI hc
    exact .inl ⟨a, xs, _, u, e1, ry.int_inv, h1.sq, hu, h.pure rel (.dat ru)⟩
  · obtain ⟨l, ds, a, xs, e1, q1, z1, r1, h⟩ := view_sat rel rx h
    obtain ⟨c, hc, h'⟩ := h.ofOpt
    obtain ⟨u, hu, ru⟩ := r1.atI hc
    have z := h'.pure rel (.dat ru)
    cases l with
    | true => exact .inl ⟨a, xs, _, u, e1, ry.int_inv, SqL.of q1, hu, z⟩
    | false => exact .inr (.inl ⟨a, xs, _, u, e1, ry.int_inv, q1, hu, z⟩)
  · exact h.fail.elim
theorem s_idx (ha : PE X a (LE X.K E fa)) (hb : PE X b (LE X.K E fb)) (hs : PlainIx b) : PE X (.Subscript a b pos) (LE X.K E fun ρ => M.bind (fa ρ) fun x => M.bind (fb ρ) fun y => opIdx x y) :=
  s_op opS_idx (pe_ix ix_seq ha hb hs)
/-! ### slices -/
def rSlX (K : PySem.W.Frag) : V → Option Int → Option Int → Hp → VK → Prop := fun x lo hi H Q => rSlL K x lo hi H Q ∨ rSlA K x lo hi H Q
theorem opS_cut {E : XK} {B : List Addr} {m : Mp} {H : Hp} {μ : Sto} {x : V} {w : Val} {lo hi : Option Int} {Q : VK} (rel : Rel X.K m B μ H) (r : RVal X.K m B H x w) (h : Sat X.K E B (RV X.K B) m H μ (opCut w lo hi) Q) : rSlX X.K x lo hi H Q := by
  unfold opCut at h
  split at h
  · obtain ⟨a, xs, e, h1, h2, h3⟩ := r.tup_inv
    refine .inr ⟨a, xs, e, h1, fun hw => ?_, fun _ p hp => ?_⟩
    · rw [cut_whole (by rw [← h3.length]; exact hw)] at h
      exact h.pure rel (.dat (.tup h1 h2 h3))
    · exact h.ext rel (Ext.new hp) (.dat (.tup (SqT.of upd_same) (Nat.le_trans (cutV_length xs lo hi) h2) ((h3.cut lo hi).mono (.of_ext (Ext.new hp)))))
  · obtain ⟨a, xs, e1, h1, l1, r1⟩ := r.frz_inv
    exact .inl ⟨a, xs, e1, h1.sq, fun p hp => h.ext rel (Ext.new hp) (.dat (RD.newLst rel hp (Nat.le_trans (cutV_length xs lo hi) l1) (r1.cut lo hi)))⟩
  · obtain ⟨l, ds, a, xs, e1, q1, z1, r1, h⟩ := view_sat rel r h
    obtain ⟨hl, h⟩ := h.when
    subst hl
    exact .inl ⟨a, xs, e1, SqL.of q1, fun p hp => h.ext rel (Ext.new hp) (.dat (RD.newLst rel hp (Nat.le_trans (cutV_length xs lo hi) z1) (r1.cut lo hi)))⟩
theorem part_none {γ δ : Type} {R2 : Mp → Hp → δ → γ → Prop} : PO X none (LO X.K E fun ρ => M.bind (M.pure ([] : List Val)) part?) :=
  po_none.imp fun σ H Q ⟨ρ, m, B, μ, a, h⟩ => (show Sat X.K (E σ) B RQ m H μ (M.pure none) Q from h).pure a.rel rfl
theorem part_some (ha : PE X a (LE X.K E fa)) : PO X (some a) (LO X.K E fun ρ => M.bind (M.bind (fa ρ) fun v => M.bind (M.pure ([] : List Val)) fun vs => M.pure (v :: vs)) part?) :=
  (po_some ha).imp fun σ H Q ⟨ρ, m, B, μ, a, h⟩ => by
    replace h : Sat X.K (E σ) B RQ m H μ (M.bind (M.bind (fa ρ) fun v => M.bind (M.pure ([] : List Val)) fun vs => M.pure (v :: vs)) part?) Q := h
    rw [bind_assoc] at h
    refine LE.bind a h fun v H1 m1 μ1 w t1 a1 r1 h1 => ?_
    replace h1 : Sat X.K (E σ) B RQ m1 H1 μ1 (part? [w]) Q := h1
    unfold part? at h1
    split at h1
    · rename_i e; cases e
    · rename_i i e
      cases e
      exact ⟨i, r1.int_inv, h1.pure a1.rel rfl⟩
    · exact h1.fail.elim
theorem s_slc {lo hi : Option Expr} {fl fh : Env → M (List Val)} (ha : PE X a (LE X.K E fa)) (hl : PO X lo (LO X.K E fun ρ => M.bind (fl ρ) part?)) (hh : PO X hi (LO X.K E fun ρ => M.bind (fh ρ) part?)) :
    PE X (.Subscript a (.Slice lo hi none p2) pos) (LE X.K E fun ρ => M.bind (fa ρ) fun x => M.bind (fl ρ) fun l => M.bind (part? l) fun l => M.bind (fh ρ) fun h => M.bind (part? h) fun h => opCut x l h) :=
  (pe_slice (sl_list.or sl_tupA) ha hl hh).imp fun σ H Q ⟨ρ, m, B, μ, a, h⟩ => LE.bind a h fun v H1 m1 μ1 w t1 a1 r1 h1 => by
    rw [← bind_assoc] at h1
    refine LO.bind a1 h1 fun l H2 m2 μ2 t2 a2 h2 => ?_
    rw [← bind_assoc] at h2
    exact LO.bind a2 h2 fun u H3 m3 μ3 t3 a3 h3 => opS_cut a3.rel ((r1.mono t2).mono t3) h3

/-! ### calls of defs -/
/-- a def's promise: it does what g does -/
def spF (K : PySem.W.Frag) (n : Nat) (g : List Val → M Val) : Sp := fun vs H Q E => ∃ m B μ ws, Rel K m B μ H ∧ RVals K m B H vs ws ∧ ws.length = n ∧ Sat K E B (RV K B) m H μ (g ws) Q
variable {es : List Expr} {f : Env → M (List Val)} {x : Str} {p : Pos} {CX : CXT} {k n : Nat} {ad : Addr} {fd : FuncData} {ps : List Str} {g : List Val → M Val}
theorem s_call (F : FnOk X.prog X.w X.K X.mg X.base CX k ad fd ps (spF X.K n g)) (hn : ∀ ws μ r, g ws μ = some r → ws.length = n) (hr : Room k X.A) (hg : Gl X x) (hm : X.mg x = some (.ref ad)) (hk : PySem.W.keepIn X.K (.ref ad) = true) (hb : Binds X.K fd ps []) (hx : ∀ σ, PassesAt CX X σ (E σ))
    (ha : PA X (a :: es) (LA X.K E f)) (hdb : (x == ("__debug__" : Str)) = false) (he : starEach (a :: es) X.env = (false, eval a X.env) :: starEach es X.env) (hpl : (backTo pos (starEach es X.env)).any (·.1) = false) :
    PE X (.Call (.Name x p) (a :: es) [] pos) (LE X.K E fun ρ => M.bind (f ρ) g) :=
  (pe_callSD F hr hg hm hk hb .nil hx ha hdb he hpl).imp fun σ H Q ⟨ρ, m, B, μ, a, h⟩ => LA.bind a h fun vs H1 m1 μ1 ws t1 a1 r1 h1 => by
    rw [List.append_nil]
    obtain ⟨o, μ', e, h2⟩ := h1
    exact ⟨m1, B, μ1, ws, a1.rel, r1, hn _ _ _ e, o, μ', e, h2⟩
theorem s_call0 (F : FnOk X.prog X.w X.K X.mg X.base CX k ad fd ps (spF X.K n g)) (hn : ∀ ws μ r, g ws μ = some r → ws.length = n) (hr : Room k X.A) (hg : Gl X x) (hm : X.mg x = some (.ref ad)) (hk : PySem.W.keepIn X.K (.ref ad) = true) (hb : Binds X.K fd ps []) (hx : ∀ σ, PassesAt CX X σ (E σ))
    (hdb : (x == ("__debug__" : Str)) = false) :
    PE X (.Call (.Name x p) [] [] pos) (LE X.K E fun ρ => M.bind (M.pure []) g) :=
  ⟨fun pins s σ H Q I ⟨ρ, m, B, μ, a, h⟩ => by
    obtain ⟨o, μ', e, h2⟩ := h
    exact wpAny_Call_Name_kw (ld_glob I hg hm (PySem.W.callWith_K0 I.kIn hk (run_fnSD (us := []) F hr hb .nil (hx σ) I .nil ⟨m, B, μ, [], a.rel, .nil, hn _ _ _ e, o, μ', e, h2⟩)) hdb)⟩

/-! ### calls of built-ins -/
def CallS (X : Cx) (E : XS) (r : List V → Hp → VK → Prop) (o : List Val → M Val) : Prop :=
  ∀ σ B m H μ xs ws Q, Rel X.K m B μ H → RVals X.K m B H xs ws → Sat X.K (E σ) B (RV X.K B) m H μ (o ws) Q → r xs H Q
theorem s_cb {r : List V → Hp → VK → Prop} {o : List Val → M Val} {e : Expr} (hs : CallS X E r o) (h : PE X e (tCB r (LA X.K E f))) : PE X e (LE X.K E fun ρ => M.bind (f ρ) o) :=
  h.imp fun σ H Q ⟨ρ, m, B, μ, a, h⟩ => LA.bind a h fun vs H1 m1 μ1 ws t1 a1 r1 h1 => hs σ B m1 H1 μ1 vs ws Q a1.rel r1 h1
theorem RVals.one_inv {K : PySem.W.Frag} {B : List Addr} {m : Mp} {H : Hp} {xs : List V} {w : Val} (r : RVals K m B H xs [w]) : ∃ x, xs = [x] ∧ RVal K m B H x w := by
  cases r with
  | cons r1 r2 => cases r2; exact ⟨_, rfl, r1⟩
end
section
variable {X : Cx} {E : XS}
theorem boolsOf_V {K : PySem.W.Frag} {B : List Addr} {m : Mp} {H : Hp} : ∀ {xs : List V} {ds : List D} {bs : List Bool}, RDs K m B H xs ds → boolsOf ds = some bs → xs = bs.map V.bl
  | _, _, _, .nil, h => by cases h; rfl
  | _, _, _, .cons (d := d) r1 r2, h => by
    cases d with
    | bl b =>
      unfold boolsOf at h
      split at h
      · rename_i bs' e
        cases h
        cases r1
        rw [boolsOf_V r2 e]
        rfl
      · cases h
    | _ => simp [boolsOf] at h
theorem intsOf_V {K : PySem.W.Frag} {B : List Addr} {m : Mp} {H : Hp} : ∀ {xs : List V} {ds : List D} {bs : List Int}, RDs K m B H xs ds → intsOf ds = some bs → xs = bs.map V.int
  | _, _, _, .nil, h => by cases h; rfl
  | _, _, _, .cons (d := d) r1 r2, h => by
    cases d with
    | int b =>
      unfold intsOf at h
      split at h
      · rename_i bs' e
        cases h
        cases r1
        rw [intsOf_V r2 e]
        rfl
      · cases h
    | _ => simp [intsOf] at h
theorem strsOf_V {K : PySem.W.Frag} {B : List Addr} {m : Mp} {H : Hp} : ∀ {xs : List V} {ds : List D} {bs : List Str}, RDs K m B H xs ds → strsOf ds = some bs → xs = bs.map V.str ∧ ∀ x ∈ bs, PyData.strOk x = true ∧ x.length ≤ LINE
  | _, _, _, .nil, h => by cases h; exact ⟨rfl, fun _ h => nomatch h⟩
  | _, _, _, .cons (d := d) r1 r2, h => by
    cases d with
    | str b =>
      unfold strsOf at h
      split at h
      · rename_i bs' e
        cases h
        obtain ⟨e1, e2⟩ := strsOf_V r2 e
        cases r1 with
        | str _ h1 h2 =>
          refine ⟨by rw [e1]; rfl, fun x hx => ?_⟩
          rcases List.mem_cons.mp hx with z | z
          · rw [z]; exact ⟨h1, h2⟩
          · exact e2 x z
      · cases h
    | _ => simp [strsOf] at h
theorem rds_ints {K : PySem.W.Frag} {B : List Addr} {m : Mp} {H : Hp} : ∀ ns : List Int, RDs K m B H (ns.map V.int) (ns.map D.int)
  | [] => .nil
  | n :: ns => .cons (.int n) (rds_ints ns)
theorem rds_strs {K : PySem.W.Frag} {B : List Addr} {m : Mp} {H : Hp} : ∀ ns : List Str, (∀ x ∈ ns, PyData.strOk x = true ∧ x.length ≤ LINE) → RDs K m B H (ns.map V.str) (ns.map D.str)
  | [], _ => .nil
  | n :: ns, h => .cons (.str n (h n (by simp)).1 (h n (by simp)).2) (rds_strs ns fun x hx => h x (by simp [hx]))

/-! ### sorting -/
theorem ins_perm {α : Type} (le : α → α → Bool) (x : α) : ∀ l : List α, (ins le x l).Perm (x :: l)
  | [] => .refl _
  | y :: r => by
    unfold ins
    split
    · exact .refl _
    · exact (List.Perm.cons y (ins_perm le x r)).trans (List.Perm.swap x y r)
theorem isort_perm {α : Type} (le : α → α → Bool) : ∀ l : List α, (isort le l).Perm l
  | [] => .refl _
  | x :: r => (ins_perm le x (isort le r)).trans (.cons x (isort_perm le r))
theorem ins_sorted {α : Type} {le : α → α → Bool} (tot : ∀ a b, le a b = false → le b a = true) (tr : ∀ a b c, le a b = true → le b c = true → le a c = true) (x : α) :
    ∀ l : List α, l.Pairwise (fun a b => le a b = true) → (ins le x l).Pairwise (fun a b => le a b = true)
  | [], _ => by simp [ins]
  | y :: r, h => by
    obtain ⟨h1, h2⟩ := List.pairwise_cons.mp h
    unfold ins
    split
    · rename_i hxy
      refine List.pairwise_cons.mpr ⟨fun z hz => ?_, h⟩
      rcases List.mem_cons.mp hz with e | e
      · rw [e]; exact hxy
      · exact tr x y z hxy (h1 z e)
    · rename_i hxy
      refine List.pairwise_cons.mpr ⟨fun z hz => ?_, ins_sorted tot tr x r h2⟩
      rcases List.mem_cons.mp ((ins_perm le x r).mem_iff.mp hz) with e | e
      · rw [e]; exact tot x y (by simpa using hxy)
      · exact h1 z e
theorem isort_sorted {α : Type} {le : α → α → Bool} (tot : ∀ a b, le a b = false → le b a = true) (tr : ∀ a b c, le a b = true → le b c = true → le a c = true) :
    ∀ l : List α, (isort le l).Pairwise (fun a b => le a b = true)
  | [] => .nil
  | x :: r => ins_sorted tot tr x _ (isort_sorted tot tr r)
theorem sort_ints_eq {ns ns' : List Int} (h1 : ns'.Perm ns) (h2 : ns'.Pairwise (· ≤ ·)) : ns' = isort (fun i j => decide (i ≤ j)) ns := by
  refine List.Perm.eq_of_pairwise (le := (· ≤ ·)) (fun a b _ _ => Int.le_antisymm) h2 ?_ (h1.trans (isort_perm _ ns).symm)
  refine (isort_sorted (fun a b h => ?_) (fun a b c h1 h2 => ?_) ns).imp fun h => of_decide_eq_true h
  · have : ¬ a ≤ b := of_decide_eq_false h
    exact decide_eq_true (by omega)
  · have a1 : a ≤ b := of_decide_eq_true h1
    have a2 : b ≤ c := of_decide_eq_true h2
    exact decide_eq_true (by omega)
theorem strLe_iff (i j : Str) : strLe i j = true ↔ i.cps.toList ≤ j.cps.toList := by
  unfold strLe strLt
  rw [PyProof.Rows.ltCps_eq]
  simp
theorem str_ext {i j : Str} (h : i.cps.toList = j.cps.toList) : i = j := by
  obtain ⟨a⟩ := i
  obtain ⟨b⟩ := j
  have : a = b := Array.toList_inj.mp h
  rw [this]
theorem strLe_tot (a b : Str) (h : strLe a b = false) : strLe b a = true := by
  rw [strLe_iff]
  have : ¬ a.cps.toList ≤ b.cps.toList := fun z => by rw [(strLe_iff a b).mpr z] at h; cases h
  rcases List.le_total a.cps.toList b.cps.toList with z | z
  · exact absurd z this
  · exact z
theorem strLe_tr (a b c : Str) (h1 : strLe a b = true) (h2 : strLe b c = true) : strLe a c = true := by
  rw [strLe_iff] at *
  exact List.le_trans h1 h2
theorem strLe_anti {a b : Str} (h1 : strLe a b = true) (h2 : strLe b a = true) : a = b := by
  rw [strLe_iff] at *
  exact str_ext (List.le_antisymm h1 h2)
theorem risingS_pw : ∀ (p : Str) (l : List Str), PyProof.Rows.risingS p l = true → (p :: l).Pairwise (fun a b => strLe a b = true)
  | p, [], _ => by simp
  | p, x :: r, h => by
    have h' : (!Spec.ltCps x.cps.toList p.cps.toList && PyProof.Rows.risingS x r) = true := h
    simp only [Bool.and_eq_true] at h'
    have ih := risingS_pw x r h'.2
    refine List.pairwise_cons.mpr ⟨fun z hz => ?_, ih⟩
    have hpx : strLe p x = true := h'.1
    rcases List.mem_cons.mp hz with e | e
    · rw [e]; exact hpx
    · exact strLe_tr p x z hpx ((List.pairwise_cons.mp ih).1 z e)
theorem sortedS_pw (l : List Str) (h : PyProof.Rows.sortedS l = true) : l.Pairwise (fun a b => strLe a b = true) := by
  cases l with
  | nil => exact .nil
  | cons x r => exact risingS_pw x r h
theorem sort_strs_eq {ns ns' : List Str} (h1 : ns'.Perm ns) (h2 : PyProof.Rows.sortedS ns' = true) : ns' = isort strLe ns :=
  List.Perm.eq_of_pairwise (le := fun a b => strLe a b = true) (fun a b _ _ => strLe_anti) (sortedS_pw ns' h2) (isort_sorted strLe_tot strLe_tr ns) (h1.trans (isort_perm _ ns).symm)

theorem callS_1 {r : List V → Hp → VK → Prop} {b : Blt} (h : ∀ σ B m H μ x w Q, Rel X.K m B μ H → RVal X.K m B H x w → Sat X.K (E σ) B (RV X.K B) m H μ (opB1 b w) Q → r [x] H Q) : CallS X E r (opBlt b) := by
  intro σ B m H μ xs ws Q rel r hq
  unfold opBlt at hq
  split at hq
  · obtain ⟨x, rfl, r1⟩ := r.one_inv
    exact h σ B m H μ x _ Q rel r1 hq
  · exact hq.fail.elim
theorem callS_len : CallS X E (fun xs H Q => (∃ p ys, xs = [.ref p] ∧ (SqL X.K H p ys ∨ SqT X.K H p ys) ∧ Q (.int ys.length) H) ∨ ∃ z, xs = [.str z] ∧ z.length ≤ sizeLine ∧ Q (.int z.length) H) (opBlt .len) :=
  callS_1 fun σ B m H μ x w Q rel r h => by
    replace h : Sat X.K (E σ) B (RV X.K B) m H μ (bLen w) Q := h
    unfold bLen at h
    split at h
    · obtain ⟨e, s, l⟩ := r.str_inv
      subst e
      exact .inr ⟨_, rfl, by rw [sizeLine_eq]; exact l, h.pure rel (.dat (.int _))⟩
    · obtain ⟨a, xs, e1, h1, l1, r1⟩ := r.frz_inv
      subst e1
      refine .inl ⟨a, xs, rfl, .inl h1.sq, ?_⟩
      rw [r1.length]
      exact h.pure rel (.dat (.int _))
    · obtain ⟨l, ds, a, xs, e1, q1, z1, r1, h'⟩ := view_sat rel r h
      subst e1
      have z := h'.pure rel (.dat (.int _))
      rw [← r1.length] at z
      refine .inl ⟨a, xs, rfl, ?_, z⟩
      cases l with
      | true => exact .inl (SqL.of q1)
      | false => exact .inr q1
theorem callS_abs : CallS X E (fun xs H Q => ∃ i, xs = [.int i] ∧ Q (.int (if i < 0 then -i else i)) H) (opBlt .abs) :=
  callS_1 fun σ B m H μ x w Q rel r h => by
    replace h : Sat X.K (E σ) B (RV X.K B) m H μ (bAbs w) Q := h
    unfold bAbs at h
    split at h
    · rw [r.int_inv]; exact ⟨_, rfl, h.pure rel (.dat (.int _))⟩
    · exact h.fail.elim
theorem callS_int : CallS X E (fun xs H Q => (∃ i, xs = [.int i] ∧ Q (.int i) H) ∨ ∃ k, xs = [.bl k] ∧ Q (.int (if k then 1 else 0)) H) (opBlt .int) :=
  callS_1 fun σ B m H μ x w Q rel r h => by
    replace h : Sat X.K (E σ) B (RV X.K B) m H μ (bInt w) Q := h
    unfold bInt at h
    split at h
    · rw [r.int_inv]; exact .inl ⟨_, rfl, h.pure rel (.dat (.int _))⟩
    · rw [r.bl_inv]; exact .inr ⟨_, rfl, h.pure rel (.dat (.int _))⟩
    · exact h.fail.elim
theorem callS_tuple : CallS X E (fun xs H Q => ∃ p ys, xs = [.ref p] ∧ ((SqL X.K H p ys ∧ ∀ l, H l = none → Q (.ref l) (upd H l (.tup ys))) ∨ (SqT X.K H p ys ∧ Q (.ref p) H))) (opBlt .tuple) :=
  callS_1 fun σ B m H μ x w Q rel r h => by
    obtain ⟨l, ds, a, xs, e1, q1, z1, r1, h'⟩ := view_sat rel r h
    subst e1
    refine ⟨a, xs, rfl, ?_⟩
    cases l with
    | true => exact .inl ⟨SqL.of q1, fun p hp => h'.ext rel (Ext.new hp) (.dat (.tup (SqT.of upd_same) z1 (r1.mono (.of_ext (Ext.new hp)))))⟩
    | false => exact .inr ⟨q1, h'.pure rel (.dat (.tup q1 z1 r1))⟩
theorem callS_list : CallS X E (fun xs H Q => ∃ p ys, xs = [.ref p] ∧ (SqL X.K H p ys ∨ SqT X.K H p ys) ∧ ∀ l, H l = none → Q (.ref l) (upd H l (.lst ys))) (opBlt .list) :=
  callS_1 fun σ B m H μ x w Q rel r h => by
    obtain ⟨l, ds, a, xs, e1, q1, z1, r1, h'⟩ := view_sat rel r h
    subst e1
    refine ⟨a, xs, rfl, ?_, fun p hp => h'.ext rel (Ext.new hp) (.dat (RD.newLst rel hp z1 r1))⟩
    cases l with
    | true => exact .inl (SqL.of q1)
    | false => exact .inr q1
theorem callS_clist : CallS X E (fun xs H Q => ∃ p ys, xs = [.ref p] ∧ (SqL X.K H p ys ∨ SqT X.K H p ys) ∧ ∀ l, H l = none → Q (.ref l) (upd H l (.lst ys))) (opBlt .clist) :=
  callS_1 fun σ B m H μ x w Q rel r h => by
    obtain ⟨l, ds, a, xs, e1, q1, z1, r1, h'⟩ := view_sat rel r h
    subst e1
    refine ⟨a, xs, rfl, ?_, fun p hp => newCell_sat rel hp z1 r1 h'⟩
    cases l with
    | true => exact .inl (SqL.of q1)
    | false => exact .inr q1
theorem callS_all : CallS X E (rAll X.K) (opBlt .all) :=
  callS_1 fun σ B m H μ x w Q rel r h => by
    obtain ⟨l, ds, a, xs, e1, q1, z1, r1, h'⟩ := view_sat rel r h
    subst e1
    obtain ⟨hl, h2⟩ := h'.when
    obtain ⟨bs, hb, h3⟩ := h2.ofOpt
    subst hl
    rw [boolsOf_V r1 hb] at q1
    exact ⟨a, bs, rfl, SqL.of q1, h3.pure rel (.dat (.bl _))⟩
theorem callS_any : CallS X E (rAny X.K) (opBlt .any) :=
  callS_1 fun σ B m H μ x w Q rel r h => by
    obtain ⟨l, ds, a, xs, e1, q1, z1, r1, h'⟩ := view_sat rel r h
    subst e1
    obtain ⟨hl, h2⟩ := h'.when
    obtain ⟨bs, hb, h3⟩ := h2.ofOpt
    subst hl
    rw [boolsOf_V r1 hb] at q1
    exact ⟨a, bs, rfl, SqL.of q1, h3.pure rel (.dat (.bl _))⟩
theorem callS_sum : CallS X E (rSum X.K) (opBlt .sum) :=
  callS_1 fun σ B m H μ x w Q rel r h => by
    obtain ⟨l, ds, a, xs, e1, q1, z1, r1, h'⟩ := view_sat rel r h
    subst e1
    obtain ⟨hl, h2⟩ := h'.when
    obtain ⟨bs, hb, h3⟩ := h2.ofOpt
    subst hl
    rw [intsOf_V r1 hb] at q1
    exact ⟨a, bs, rfl, SqL.of q1, h3.pure rel (.dat (.int _))⟩
theorem callS_sorted : CallS X E (fun xs H Q => rSorted X.K xs H Q ∨ rSortedS X.K xs H Q) (opBlt .sorted) :=
  callS_1 fun σ B m H μ x w Q rel r h => by
    obtain ⟨l, ds, a, xs, e1, q1, z1, r1, h'⟩ := view_sat rel r h
    subst e1
    obtain ⟨hl, h2⟩ := h'.when
    obtain ⟨es, hb, h3⟩ := h2.ofOpt
    simp only [Bool.and_eq_true] at hl
    obtain ⟨hl, h64⟩ := hl
    have h64 : ds.length < 64 := by simpa [Nat.blt_eq] using h64
    subst hl
    unfold sortD at hb
    split at hb
    · rename_i ns hn
      cases hb
      have ex := intsOf_V r1 hn
      rw [ex] at q1
      have hlen : ns.length = ds.length := by rw [← r1.length, ex, List.length_map]
      refine .inl ⟨a, ns, rfl, SqL.of q1, by omega, fun ns' p h1 h2 hp => ?_⟩
      rw [← sort_ints_eq h1 h2] at h3
      exact h3.ext rel (Ext.new hp) (.dat (RD.newLst rel hp (by rw [List.length_map, h1.length_eq]; exact Nat.le_trans (by omega) (by decide : 64 ≤ LINE)) (rds_ints ns')))
    · split at hb
      · rename_i ns hn
        cases hb
        obtain ⟨ex, hx⟩ := strsOf_V r1 hn
        rw [ex] at q1
        have hlen : ns.length = ds.length := by rw [← r1.length, ex, List.length_map]
        refine .inr ⟨a, ns, rfl, SqL.of q1, by omega, fun ns' p h1 h2 hp => ?_⟩
        rw [← sort_strs_eq h1 h2] at h3
        exact h3.ext rel (Ext.new hp) (.dat (RD.newLst rel hp (by rw [List.length_map, h1.length_eq]; exact Nat.le_trans (by omega) (by decide : 64 ≤ LINE)) (rds_strs ns' fun x hx' => hx x (h1.mem_iff.mp hx'))))
      · cases hb
end
end G
set_option Elab.async false
set_option linter.all false
set_option maxRecDepth 100000
set_option maxHeartbeats 1000000
/-! G8: methods of lists, isinstance. -/
namespace G
open PySem L2
section
variable {X : Cx} {E : XS} {pos apos cpos : Pos} {o a : Expr} {es : List Expr} {fo fa : Env → M Val} {f : Env → M (List Val)}
theorem liveL_sat {E : XK} {K : PySem.W.Frag} {B : List Addr} {m : Mp} {H : Hp} {μ : Sto} {γ δ : Type} {R2 : Mp → Hp → δ → γ → Prop} {w : Val} {v : V} {k : Unit → M γ} {Q : δ → Hp → Prop} (rel : Rel K m B μ H) (r : RVal K m B H v w) (h : Sat K E B R2 m H μ (M.bind (liveL w) k) Q) :
    ∃ n a xs, w = .ref n ∧ v = .ref a ∧ H a = some (.lst xs) ∧ m[n]? = some (some a) ∧ Sat K E B R2 m H μ (k ()) Q := by
  cases w with
  | dat d => obtain ⟨_, _, e, _⟩ := h; cases e
  | exc _ _ _ => obtain ⟨_, _, e, _⟩ := h; cases e
  | ref n =>
    obtain ⟨p, μ', e, hq⟩ := h
    unfold M.bind liveL M.bind cellAt at e
    cases hc : μ[n]? with
    | none => simp only [hc] at e; cases e
    | some c =>
      cases c with
      | dead => simp only [hc, M.fail] at e; cases e
      | lst ds =>
        simp only [hc, M.pure] at e
        obtain ⟨a, xs, e1, e2, h1, h2, h3⟩ := r.cellL_inv rel hc
        exact ⟨n, a, xs, rfl, e1, h1, e2, p, μ', e, hq⟩
def MthS (X : Cx) (E : XS) (r : V → List V → Hp → VK → Prop) (g : Val → List Val → M Val) : Prop :=
  ∀ σ B m H μ x w xs ws Q, Rel X.K m B μ H → RVal X.K m B H x w → RVals X.K m B H xs ws → Sat X.K (E σ) B (RV X.K B) m H μ (g w ws) Q → r x xs H Q
theorem s_mth {r : V → List V → Hp → VK → Prop} {g : Val → List Val → M Val} {e : Expr} (hs : MthS X E r g) (h : PE X e (tBM X.K "list" r (LE X.K E fo) (LA X.K E f))) : PE X e (LE X.K E fun ρ => M.bind (fo ρ) fun x => M.bind (liveL x) fun _ => M.bind (f ρ) fun vs => g x vs) :=
  h.imp fun σ H Q ⟨ρ, m, B, μ, a, h⟩ => LE.bind a h fun v H1 m1 μ1 w t1 a1 r1 h1 => by
    obtain ⟨n, p, xs, e1, e2, hp, hm, h2⟩ := liveL_sat a1.rel r1 h1
    refine ⟨by rw [e2]; exact .inl ⟨rfl, xs, SqL.of hp⟩, LA.bind a1 h2 fun us H2 m2 μ2 ws t2 a2 r2 h3 => hs σ B m2 H2 μ2 v w us ws Q a2.rel (r1.mono t2) r2 h3⟩
theorem s_mth0 {r : V → List V → Hp → VK → Prop} {g : Val → List Val → M Val} {e : Expr} (hs : MthS X E r g) (h : PE X e (tBM0 X.K "list" r (LE X.K E fo))) : PE X e (LE X.K E fun ρ => M.bind (fo ρ) fun x => M.bind (liveL x) fun _ => M.bind (M.pure []) fun vs => g x vs) :=
  h.imp fun σ H Q ⟨ρ, m, B, μ, a, h⟩ => LE.bind a h fun v H1 m1 μ1 w t1 a1 r1 h1 => by
    obtain ⟨n, p, xs, e1, e2, hp, hm, h2⟩ := liveL_sat a1.rel r1 h1
    exact ⟨by rw [e2]; exact .inl ⟨rfl, xs, SqL.of hp⟩, hs σ B m1 H1 μ1 v w [] [] Q a1.rel r1 .nil h2⟩
/-- a write, then a value -/
theorem write_sat {E : XK} {K : PySem.W.Frag} {B : List Addr} {m : Mp} {H : Hp} {μ : Sto} {n : Nat} {a : Addr} {xs ys : List V} {ds : List D} {w : Val} {v : V} {Q : VK} (rel : Rel K m B μ H) (hm : m[n]? = some (some a)) (ha : H a = some (.lst xs)) (hl : ys.length ≤ LINE) (hr : RDs K m B H ys ds)
    (rv : RVal K m B (upd H a (.lst ys)) v w) (h : Sat K E B (RV K B) m H μ (M.bind (setCell n (.lst ds)) fun _ => M.pure w) Q) : Q v (upd H a (.lst ys)) := by
  obtain ⟨o, μ', e, h⟩ := h
  cases e
  exact h v _ m (tra_write hm ha) (rel.write hm ha hl hr) rv
theorem mthS_append : MthS X E rAppend (opMth .append) := by
  intro σ B m H μ x w xs ws Q rel rx rs h
  unfold opMth at h
  split at h
  · obtain ⟨c, hc, h⟩ := h.cellAt
    cases c with
    | dead => exact h.fail.elim
    | lst ds =>
      obtain ⟨hl, h⟩ := h.when
      obtain ⟨y, rfl, ry⟩ := rs.one_inv
      obtain ⟨a, zs, e1, e2, h1, h2, h3⟩ := rx.cellL_inv rel hc
      have hl : zs.length < LINE := by rw [h3.length]; simpa [Nat.blt_eq] using hl
      cases ry with
      | dat ry =>
        refine ⟨a, zs, y, e1, rfl, h1, by rw [sizeLine_eq]; exact hl, write_sat rel e2 h1 ?_ (h3.append (.cons ry .nil)) (.dat .non) h⟩
        rw [List.length_append, List.length_singleton]; omega
  all_goals first | (rename_i e; cases e) | exact h.fail.elim
theorem mthS_pop : MthS X E rPop (opMth .pop) := by
  intro σ B m H μ x w xs ws Q rel rx rs h
  unfold opMth at h
  split at h
  · rename_i e; cases e
  · obtain ⟨c, hc, h⟩ := h.cellAt
    cases c with
    | dead => exact h.fail.elim
    | lst ds =>
      obtain ⟨d, hd, h⟩ := h.ofOpt
      cases rs
      obtain ⟨a, zs, e1, e2, h1, h2, h3⟩ := rx.cellL_inv rel hc
      rw [← h3.length] at hd
      obtain ⟨y, hy, ry⟩ := h3.get hd
      refine ⟨a, zs, y, e1, rfl, h1, hy, write_sat rel e2 h1 ?_ h3.dropLast (.dat (ry.mono (tra_write e2 h1))) h⟩
      rw [List.length_dropLast]; omega
  · rename_i e; cases e
  · exact h.fail.elim
theorem mthS_popAt : MthS X E rPopAt (opMth .popAt) := by
  intro σ B m H μ x w xs ws Q rel rx rs h
  unfold opMth at h
  split at h
  · rename_i e; cases e
  · rename_i e; cases e
  · rename_i i _
    obtain ⟨c, hc, h⟩ := h.cellAt
    cases c with
    | dead => exact h.fail.elim
    | lst ds =>
      obtain ⟨hi, h⟩ := h.when
      obtain ⟨d, hd, h⟩ := h.ofOpt
      simp only [Bool.and_eq_true, decide_eq_true_eq] at hi
      obtain ⟨y, rfl, ry⟩ := rs.one_inv
      obtain ⟨a, zs, e1, e2, h1, h2, h3⟩ := rx.cellL_inv rel hc
      obtain ⟨z, hz, rz⟩ := h3.get hd
      have hlt : i.toNat < zs.length := (List.getElem?_eq_some_iff.mp hz).1
      refine ⟨a, zs, i, i.toNat, z, e1, by rw [ry.int_inv], h1, by omega, by omega, ?_, hz, write_sat rel e2 h1 ?_ (h3.eraseIdx _) (.dat (rz.mono (tra_write e2 h1))) h⟩
      · unfold seqIndex?
        have h0 : ¬ i < 0 := by omega
        simp only [h0, if_false]
        rw [if_pos (by simp only [Bool.and_eq_true, decide_eq_true_eq]; omega)]
      · exact Nat.le_trans (len_erase _ _) h2
  · exact h.fail.elim

/-! ### isinstance -/
def tyName : Ty → String
  | .int => "int" | .bool => "bool" | .str => "str" | .tuple => "tuple" | .list => "list"
theorem tyX_of {K : PySem.W.Frag} {B : List Addr} {m : Mp} {H : Hp} {v : V} {w : Val} (r : RVal K m B H v w) {t : Ty} {b : Bool} (h : isTy w t = some b) : ∃ n, TyX K H v (.type n) ∧ ∀ (t : Ty) (b : Bool), isTy w t = some b → PySem.W.kitOne K (.type n) (.type (tyName t)) = some b := by
  cases r with
  | ref _ => cases h
  | exc0 _ _ => cases h
  | exc1 _ _ _ _ _ => cases h
  | dat r =>
    cases r with
    | non => exact ⟨"NoneType", .base .non, fun t b h => by cases t <;> cases h <;> rfl⟩
    | bl _ => exact ⟨"bool", .base (.bl _), fun t b h => by cases t <;> cases h <;> rfl⟩
    | int _ => exact ⟨"int", .base (.int _), fun t b h => by cases t <;> cases h <;> rfl⟩
    | str _ _ _ => exact ⟨"str", .base (.str _), fun t b h => by cases t <;> cases h <;> rfl⟩
    | tup q _ _ =>
      refine ⟨"tuple", ?_, fun t b h => by cases t <;> cases h <;> rfl⟩
      rcases q with (q | ⟨o, q⟩) | ⟨o, its, n, q, c, _⟩
      · exact .base (.tup q)
      · exact .fTuple q
      · exact .kTuple q c
    | lst q _ _ _ _ => exact ⟨"list", .base (.lst q), fun t b h => by cases t <;> cases h <;> rfl⟩
    | frz _ _ _ => cases h
theorem s_isi1 {t : Ty} {p q : Pos} (hg : Gl X "isinstance") (hm : X.mg "isinstance" = none) (hg2 : Gl X (tyName t)) (hm2 : X.mg (tyName t) = none) (ha : PE X a (LE X.K E fa)) (hs : starEach [a, .Name (tyName t) q] X.env = (false, eval a X.env) :: starEach [.Name (tyName t) q] X.env) :
    PE X (.Call (.Name "isinstance" p) [a, .Name (tyName t) q] [] pos) (LE X.K E fun ρ => M.bind (fa ρ) fun x => M.bind (M.ofOpt (isTys x [t])) fun b => M.dat (.bl b)) := by
  have hn : PE X (.Name (tyName t) q) (tC (.ty (tyName t))) := by
    cases t with
    | int => exact pe_bltn hg2 hm2 PyProof.Rows.boot_int rfl
    | bool => exact pe_bltn hg2 hm2 (by decide +kernel) rfl
    | str => exact pe_bltn hg2 hm2 PyProof.Rows.boot_str rfl
    | tuple => exact pe_bltn hg2 hm2 PyProof.Rows.boot_tuple rfl
    | list => exact pe_bltn hg2 hm2 PyProof.Rows.boot_list rfl
  refine (pe_callB call_isi hg hm PyProof.Rows.boot_isinstance (pa_cons ha (pa_cons hn pa_nil) hs) (by decide) (by decide) hs).imp fun σ H Q ⟨ρ, m, B, μ, a, h⟩ => LE.bind a h fun v H1 m1 μ1 w t1 a1 r1 h1 => ?_
  obtain ⟨b, hb, h2⟩ := h1.ofOpt
  have hb' : isTy w t = some b := by
    unfold isTys at hb
    split at hb
    · rename_i e; cases hb; exact e
    · rename_i e
      have : isTys w [] = some b := hb
      cases this
      exact e
    · cases hb
  obtain ⟨n, ty, hk⟩ := tyX_of r1 hb'
  exact ⟨v, .ty (tyName t), .type n, .type (tyName t), b, rfl, .ty _, ty, hk t b hb', h2.pure a1.rel (.dat (.bl _))⟩
theorem pe_ty {t : Ty} {q : Pos} (hg2 : Gl X (tyName t)) (hm2 : X.mg (tyName t) = none) : PE X (.Name (tyName t) q) (tC (.ty (tyName t))) := by
  cases t with
  | int => exact pe_bltn hg2 hm2 PyProof.Rows.boot_int rfl
  | bool => exact pe_bltn hg2 hm2 (by decide +kernel) rfl
  | str => exact pe_bltn hg2 hm2 PyProof.Rows.boot_str rfl
  | tuple => exact pe_bltn hg2 hm2 PyProof.Rows.boot_tuple rfl
  | list => exact pe_bltn hg2 hm2 PyProof.Rows.boot_list rfl
theorem s_isi2 {t u : Ty} {p q q' pt : Pos} {kt : Nat} (hg : Gl X "isinstance") (hm : X.mg "isinstance" = none) (hg2 : Gl X (tyName t)) (hm2 : X.mg (tyName t) = none) (hg3 : Gl X (tyName u)) (hm3 : X.mg (tyName u) = none) (ha : PE X a (LE X.K E fa))
    (hs : starEach [a, .Tuple [.Name (tyName t) q, .Name (tyName u) q'] kt pt] X.env = (false, eval a X.env) :: starEach [.Tuple [.Name (tyName t) q, .Name (tyName u) q'] kt pt] X.env) :
    PE X (.Call (.Name "isinstance" p) [a, .Tuple [.Name (tyName t) q, .Name (tyName u) q'] kt pt] [] pos) (LE X.K E fun ρ => M.bind (fa ρ) fun x => M.bind (M.ofOpt (isTys x [t, u])) fun b => M.dat (.bl b)) := by
  refine (pe_callB call_isiT hg hm PyProof.Rows.boot_isinstance (pa_cons ha (pa_cons (pe_tup (pa_cons (pe_ty hg2 hm2) (pa_cons (pe_ty hg3 hm3) pa_nil))) pa_nil) hs) (by decide) (by decide) hs).imp fun σ H Q ⟨ρ, m, B, μ, a, h⟩ => LE.bind a h fun v H1 m1 μ1 w t1 a1 r1 h1 => ?_
  obtain ⟨b, hb, h2⟩ := h1.ofOpt
  refine ⟨by show 2 ≤ sizeLine; decide, fun tp htp => ?_⟩
  have key : ∃ b1, isTy w t = some b1 := by
    unfold isTys at hb
    split at hb
    · exact ⟨_, by assumption⟩
    · exact ⟨_, by assumption⟩
    · cases hb
  obtain ⟨b1, hb1⟩ := key
  obtain ⟨n, ty, hk⟩ := tyX_of (r1.mono (.of_ext (Ext.new (o := .tup [.ty (tyName t), .ty (tyName u)]) htp))) hb1
  refine ⟨v, tp, [.ty (tyName t), .ty (tyName u)], .type n, [.type (tyName t), .type (tyName u)], b, rfl, upd_same, .cons (.ty _) (.cons (.ty _) .nil), ty, ?_, h2.ext a1.rel (Ext.new htp) (.dat (.bl _))⟩
  unfold isTys at hb
  unfold PySem.W.kitAny
  rw [hk t b1 hb1]
  rw [hb1] at hb
  cases b1 with
  | true => cases hb; rfl
  | false =>
    have hb : isTys w [u] = some b := hb
    show PySem.W.kitAny X.K (.type n) [.type (tyName u)] = some b
    unfold isTys at hb
    unfold PySem.W.kitAny
    split at hb
    · rename_i e; cases hb; rw [hk u true e]
    · rename_i e; cases hb; rw [hk u false e]; rfl
    · cases hb
end
end G
set_option Elab.async false
set_option linter.all false
set_option maxRecDepth 100000
set_option maxHeartbeats 1000000
/-! G9: what loops walk; comprehensions. -/
namespace G
open PySem L2
section
variable {K : PySem.W.Frag} {m m' : Mp} {B B' : List Addr} {H H' : Hp}
mutual
theorem RD.ban (s : ∀ b, b ∈ B' → b ∈ B ∨ H b = none) {v : V} : ∀ {d : D}, RD K m B H v d → RD K m B' H v d
  | _, .non => .non
  | _, .bl b => .bl b
  | _, .int i => .int i
  | _, .str x h hl => .str x h hl
  | _, .tup h hl r => .tup h hl (RDs.ban s r)
  | _, .lst h hl nl nb r => .lst h hl nl (fun z => by
      rcases s _ z with q | q
      · exact nb q
      · rw [h] at q; cases q) (RDs.ban s r)
  | _, .frz h hl r => .frz h hl (RDs.ban s r)
theorem RDs.ban (s : ∀ b, b ∈ B' → b ∈ B ∨ H b = none) : ∀ {vs : List V} {ds : List D}, RDs K m B H vs ds → RDs K m B' H vs ds
  | _, _, .nil => .nil
  | _, _, .cons h r => .cons (RD.ban s h) (RDs.ban s r)
end
theorem sqT_upd {p a : Addr} {xs ys zs : List V} (hp : H p = some (.lst ys)) (h : SqT K H a xs) : SqT K (upd H p (.lst zs)) a xs := by
  rcases h with (h | ⟨o, h⟩) | h
  · exact .inl (.inl (by rw [upd_ne (fun e => by subst e; rw [hp] at h; cases h)]; exact h))
  · exact .inl (.inr ⟨o, by rw [upd_ne (fun e => by subst e; rw [hp] at h; cases h)]; exact h⟩)
  · exact .inr h
/-! what is banned is changed -/
mutual
theorem RD.upd_ban {p : Addr} {ys zs : List V} (hb : p ∈ B) (hp : H p = some (.lst ys)) {v : V} : ∀ {d : D}, RD K m B H v d → RD K m B (upd H p (.lst zs)) v d
  | _, .non => .non
  | _, .bl b => .bl b
  | _, .int i => .int i
  | _, .str x h hl => .str x h hl
  | _, .tup h hl r => .tup (sqT_upd hp h) hl (RDs.upd_ban hb hp r)
  | _, .lst h hl nl nb r => .lst (by rw [upd_ne (fun e => nb (by rw [e]; exact hb))]; exact h) hl nl nb (RDs.upd_ban hb hp r)
  | _, .frz h hl r => .frz (h.of fun o h => by rw [upd_ne (fun e => by subst e; rw [hp] at h; cases h)]; exact h) hl (RDs.upd_ban hb hp r)
theorem RDs.upd_ban {p : Addr} {ys zs : List V} (hb : p ∈ B) (hp : H p = some (.lst ys)) : ∀ {vs : List V} {ds : List D}, RDs K m B H vs ds → RDs K m B (upd H p (.lst zs)) vs ds
  | _, _, .nil => .nil
  | _, _, .cons h r => .cons (RD.upd_ban hb hp h) (RDs.upd_ban hb hp r)
end
theorem RVal.ban (s : ∀ b, b ∈ B' → b ∈ B ∨ H b = none) {v : V} {w : Val} : RVal K m B H v w → RVal K m B' H v w
  | .dat h => .dat (h.ban s)
  | .ref h => .ref h
  | .exc0 h nl => .exc0 h nl
  | .exc1 h nl hp np r => .exc1 h nl hp np (r.ban s)
theorem REnv.ban {σ : L2.St} {ρ : Env} (s : ∀ b, b ∈ B' → b ∈ B ∨ H b = none) (e : REnv K m B H σ ρ) : REnv K m B' H σ ρ :=
  ⟨e.len, fun i w h => by
    obtain ⟨v, h1, h2⟩ := e.get i w h
    exact ⟨v, h1, h2.ban s⟩⟩
theorem Rel.upd_ban {μ : Sto} {p : Addr} {ys zs : List V} (r : Rel K m B μ H) (hb : p ∈ B) (hp : H p = some (.lst ys)) : Rel K m B μ (upd H p (.lst zs)) where
  len := r.len
  inj := r.inj
  cel := fun n a h => by
    obtain ⟨c, h1, h2⟩ := r.cel n a h
    refine ⟨c, h1, ?_⟩
    have ne : a ≠ p := fun e => r.bnl p hb (e ▸ ⟨n, h⟩)
    cases c with
    | dead => exact h2
    | lst ds =>
      obtain ⟨xs, e1, e2, e3⟩ := h2
      exact ⟨xs, by rw [upd_ne ne]; exact e1, e2, e3.upd_ban hb hp⟩
  ded := r.ded
  bnd := fun b hb' => by
    by_cases e : b = p
    · subst e; exact ⟨_, upd_same⟩
    · obtain ⟨o, h⟩ := r.bnd b hb'
      exact ⟨o, by rw [upd_ne e]; exact h⟩
  bnl := r.bnl
theorem Tra.upd_new {p : Addr} {o : HO} (t : Tra m H m' H') (hp : H p = none) : Tra m H m' (upd H' p o) where
  le := t.le
  old := t.old
  new := t.new
  kep := fun a u h n => by rw [upd_ne (ne_of_none h hp)]; exact t.kep a u h n
  thr := fun a u h => by
    obtain ⟨o', h'⟩ := t.thr a u h
    exact ⟨o', by rw [upd_ne (ne_of_none h hp)]; exact h'⟩
  tup := fun a xs h => by rw [upd_ne (ne_of_none h hp)]; exact t.tup a xs h
  frz := fun a u v h => by rw [upd_ne (ne_of_none h hp)]; exact t.frz a u v h
end

/-- what is walked gives these data, one after another -/
structure WalkD (K : PySem.W.Frag) (m : Mp) (B : List Addr) (H : Hp) (J : It) (ds : List D) : Prop where
  len : ds.length ≤ LINE
  walk : ∃ G Y, Walk J ds.length G Y ∧ (∀ m1 H1, Tra m H m1 H1 → G H1) ∧
    ∀ i m1 H1 x H2, Tra m H m1 H1 → i < ds.length → Y i H1 x H2 → Ext H1 H2 ∧ ∀ B', (∀ b, b ∈ B' → b ∈ B ∨ H b = none) → ∃ d, ds[i]? = some d ∧ RD K m1 B' H2 x d
section
variable {K : PySem.W.Frag} {m : Mp} {B : List Addr} {H : Hp}
theorem walkD_list {a : Addr} {xs : List V} {ds : List D} (h : H a = some (.lst xs)) (hl : xs.length ≤ LINE) (nl : ¬ Live m a) (r : RDs K m B H xs ds) : WalkD K m B H (Itl K a) ds := by
  refine ⟨by rw [← r.length]; exact hl, fun H => SqL K H a xs, YAt xs, by rw [← r.length]; exact walk_list, fun m1 H1 t => SqL.of (t.kep a _ h nl), fun i m1 H1 x H2 t hi y => ?_⟩
  obtain ⟨e, y⟩ := y
  subst e
  refine ⟨Ext.refl _, fun B' hb => ?_⟩
  obtain ⟨d, hd, rd⟩ := (r.ban hb).get' y
  exact ⟨d, hd, rd.mono t⟩
theorem walkD_tup {a : Addr} {xs : List V} {ds : List D} (h : SqT K H a xs) (hl : xs.length ≤ LINE) (r : RDs K m B H xs ds) : WalkD K m B H (Itt K a) ds := by
  refine ⟨by rw [← r.length]; exact hl, fun H => SqT K H a xs, YAt xs, by rw [← r.length]; exact walk_tup, fun m1 H1 t => t.sqT h, fun i m1 H1 x H2 t hi y => ?_⟩
  obtain ⟨e, y⟩ := y
  subst e
  refine ⟨Ext.refl _, fun B' hb => ?_⟩
  obtain ⟨d, hd, rd⟩ := (r.ban hb).get' y
  exact ⟨d, hd, rd.mono t⟩
theorem walkD_range {n : Nat} (hn : n ≤ LINE) : WalkD K m B H (Itr 0 n) (rangeD n) := by
  have hl : (rangeD n).length = n := by unfold rangeD; rw [List.length_map, List.length_range]
  refine ⟨by rw [hl]; exact hn, fun _ => True, _, by rw [hl]; exact walk_range, fun _ _ _ => trivial, fun i m1 H1 x H2 t hi y => ?_⟩
  obtain ⟨e, y⟩ := y
  subst e
  refine ⟨Ext.refl _, fun B' hb => ⟨.int (i : Int), ?_, ?_⟩⟩
  · unfold rangeD
    rw [hl] at hi
    rw [List.getElem?_map, List.getElem?_range hi]
    rfl
  · rw [y]; show RD K m1 B' _ (V.int (0 + (i : Int))) _; rw [Int.zero_add]; exact .int _
theorem walkD_str {z : Str} (s : PyData.strOk z = true) (hl : z.length ≤ LINE) : WalkD K m B H (Its z) (signs z) := by
  have e : (signs z).length = z.cps.size := by unfold signs; simp
  refine ⟨by rw [e]; exact hl, fun _ => True, _, by rw [e]; exact walk_str, fun _ _ _ => trivial, fun i m1 H1 x H2 t hi y => ?_⟩
  obtain ⟨e, c, hc, y⟩ := y
  subst e y
  have hm : c ∈ z.cps.toList := by
    rw [← Array.getElem?_toList] at hc
    exact List.mem_of_getElem? hc
  refine ⟨Ext.refl _, fun B' hb => ⟨.str ⟨#[c]⟩, ?_, .str _ (strOk_one (strOk_mem s hm)) ?_⟩⟩
  · unfold signs
    rw [List.getElem?_map, Array.getElem?_toList, hc]
    rfl
  · show 1 ≤ LINE
    decide
theorem enumFrom_get : ∀ (ds : List D) (k i : Nat) (d : D), ds[i]? = some d → (enumFrom k ds)[i]? = some (.tup [.int ((k + i : Nat) : Int), d])
  | [], _, _, _, h => by simp at h
  | x :: r, k, 0, d, h => by simp at h; subst h; rfl
  | x :: r, k, i + 1, d, h => by
    have := enumFrom_get r (k + 1) i d (by simpa using h)
    unfold enumFrom
    rw [List.getElem?_cons_succ, this]
    congr 5
    omega
theorem enumFrom_len : ∀ (ds : List D) (k : Nat), (enumFrom k ds).length = ds.length
  | [], _ => rfl
  | x :: r, k => by unfold enumFrom; rw [List.length_cons, List.length_cons, enumFrom_len r]
theorem zipD_get : ∀ (xs ys : List D) (i : Nat) (d e : D), xs[i]? = some d → ys[i]? = some e → (zipD xs ys)[i]? = some (.tup [d, e])
  | [], _, _, _, _, h, _ => by simp at h
  | _ :: _, [], _, _, _, _, h => by simp at h
  | x :: r, y :: s, 0, d, e, h, h' => by simp at h h'; subst h h'; rfl
  | x :: r, y :: s, i + 1, d, e, h, h' => by
    unfold zipD
    rw [List.getElem?_cons_succ]
    exact zipD_get r s i d e (by simpa using h) (by simpa using h')
theorem zipD_len : ∀ (xs ys : List D), (zipD xs ys).length = min xs.length ys.length
  | [], _ => by simp [zipD]
  | _ :: _, [] => by simp [zipD]
  | x :: r, y :: s => by
    unfold zipD
    rw [List.length_cons, List.length_cons, List.length_cons, zipD_len r s]
    omega
theorem two_le : (2 : Nat) ≤ LINE := by decide
theorem RD.pair {m1 : Mp} {B' : List Addr} {H1 : Hp} {T : Addr} {x y : V} {d e : D} (hT : H1 T = none) (rx : RD K m1 B' H1 x d) (ry : RD K m1 B' H1 y e) : RD K m1 B' (upd H1 T (.tup [x, y])) (.ref T) (.tup [d, e]) :=
  .tup (SqT.of upd_same) two_le (.cons (rx.mono (.of_ext (Ext.new hT))) (.cons (ry.mono (.of_ext (Ext.new hT))) .nil))
theorem walkD_enum {a : Addr} {xs : List V} {ds : List D} (h : H a = some (.lst xs)) (hl : xs.length ≤ LINE) (nl : ¬ Live m a) (r : RDs K m B H xs ds) : WalkD K m B H (Ite K a) (enumFrom 0 ds) := by
  refine ⟨by rw [enumFrom_len, ← r.length]; exact hl, fun H => SqL K H a xs, _, by rw [enumFrom_len, ← r.length]; exact walk_enum, fun m1 H1 t => SqL.of (t.kep a _ h nl), fun i m1 H1 x H2 t hi y => ?_⟩
  obtain ⟨T, x1, y1, e1, hT, e2, h1, h2⟩ := y
  cases h1
  subst e1 e2
  refine ⟨Ext.new hT, fun B' hb => ?_⟩
  obtain ⟨d, hd, rd⟩ := (r.ban hb).get' h2
  refine ⟨_, enumFrom_get ds 0 i d hd, ?_⟩
  rw [Nat.zero_add]
  exact RD.pair hT (.int _) (rd.mono t)
theorem walkD_zip {a b : Addr} {xs ys : List V} {ds es : List D} (h : H a = some (.lst xs)) (hl : xs.length ≤ LINE) (nl : ¬ Live m a) (r : RDs K m B H xs ds) (h' : H b = some (.lst ys)) (nl' : ¬ Live m b) (r' : RDs K m B H ys es) :
    WalkD K m B H (Itz K a b) (zipD ds es) := by
  refine ⟨by rw [zipD_len, ← r.length]; exact Nat.le_trans (Nat.min_le_left _ _) hl, fun H => SqL K H a xs ∧ SqL K H b ys, _, walk_zip (by rw [zipD_len, r.length, r'.length]), fun m1 H1 t => ⟨SqL.of (t.kep a _ h nl), SqL.of (t.kep b _ h' nl')⟩, fun i m1 H1 x H2 t hi y => ?_⟩
  obtain ⟨T, x1, y1, e1, hT, e2, h1, h2⟩ := y
  subst e1 e2
  refine ⟨Ext.new hT, fun B' hb => ?_⟩
  obtain ⟨d, hd, rd⟩ := (r.ban hb).get' h1
  obtain ⟨e, he, re⟩ := (r'.ban hb).get' h2
  exact ⟨_, zipD_get ds es i d e hd he, RD.pair hT (rd.mono t) (re.mono t)⟩
theorem walk_zipT {a b : Addr} {xs ys : List V} {n : Nat} (hn : n = min xs.length ys.length) : Walk (RZ.ItzT K a b) n (fun H => SqT K H a xs ∧ SqT K H b ys) (YPair (fun i => xs[i]?) (fun i => ys[i]?)) := by
  subst hn
  refine ⟨fun i _ hi q => ?_, fun _ q => ⟨xs, ys, q.1, q.2, by omega⟩, fun i H v H' _ q y => ?_⟩
  · have h1 : i < xs.length := by omega
    have h2 : i < ys.length := by omega
    exact ⟨xs, ys, xs[i], ys[i], q.1, q.2, by simp [h1], by simp [h2]⟩
  · obtain ⟨T, x, z, h1, h2, h3, h4, h5⟩ := y
    exact ⟨T, x, z, h1, h2, h3, h4 xs q.1, h5 ys q.2⟩
theorem walkD_zipT {a b : Addr} {xs ys : List V} {ds es : List D} (h : SqT K H a xs) (hl : xs.length ≤ LINE) (r : RDs K m B H xs ds) (h' : SqT K H b ys) (r' : RDs K m B H ys es) :
    WalkD K m B H (RZ.ItzT K a b) (zipD ds es) := by
  refine ⟨by rw [zipD_len, ← r.length]; exact Nat.le_trans (Nat.min_le_left _ _) hl, fun H => SqT K H a xs ∧ SqT K H b ys, _, walk_zipT (by rw [zipD_len, r.length, r'.length]), fun m1 H1 t => ⟨t.sqT h, t.sqT h'⟩, fun i m1 H1 x H2 t hi y => ?_⟩
  obtain ⟨T, x1, y1, e1, hT, e2, h1, h2⟩ := y
  subst e1 e2
  refine ⟨Ext.new hT, fun B' hb => ?_⟩
  obtain ⟨d, hd, rd⟩ := (r.ban hb).get' h1
  obtain ⟨e, he, re⟩ := (r'.ban hb).get' h2
  exact ⟨_, zipD_get ds es i d e hd he, RD.pair hT (rd.mono t) (re.mono t)⟩
end
end G
set_option Elab.async false
set_option linter.all false
set_option maxRecDepth 100000
set_option maxHeartbeats 1000000
/-! G10: what loops walk, targets, comprehensions. -/
namespace G
open PySem L2
abbrev RJ (K : PySem.W.Frag) (B : List Addr) : Mp → Hp → It → List Val → Prop := fun m H J ws => ∃ ds, ws = ds.map Val.dat ∧ WalkD K m B H J ds
def LI (K : PySem.W.Frag) (E : XS) (f : Env → M (List Val)) : TI := fun σ H R => ∃ ρ m B μ, At K B σ ρ m μ H ∧ Sat K (E σ) B (RJ K B) m H μ (f ρ) R
theorem _root_.L2.PI.imp {X : Cx} {tg e : Expr} {t t' : TI} (h : PI X tg e t) (i : ∀ σ H R, t' σ H R → t σ H R) : PI X tg e t' := ⟨fun pins s σ H R I q => h.run pins s σ H R I (i σ H R q)⟩
section
variable {X : Cx} {E : XS} {tg a b : Expr} {fa fb : Env → M Val} {p pos tpos : Pos}
/-- a list, a tuple or a text, as the value tells -/
def iSeq (K : PySem.W.Frag) (te : TE) : TI := fun σ H R => te σ H fun v H1 => (∃ a xs, v = .ref a ∧ SqL K H1 a xs ∧ R (Itl K a) H1) ∨ (∃ a xs, v = .ref a ∧ SqT K H1 a xs ∧ R (Itt K a) H1) ∨ ∃ x, v = .str x ∧ R (Its x) H1
theorem pi_seq {te : TE} (he : PE X a te) : PI X tg a (iSeq X.K te) := by
  refine ⟨fun pins s σ H R I h => ?_⟩
  refine thn (he.run pins s σ H _ I h) fun v s1 ⟨y, H1, I1, r1, q⟩ => ?_
  rcases q with ⟨a, xs, e, hq, q⟩ | ⟨a, xs, e, hq, q⟩ | ⟨x, e, q⟩
  · subst e
    cases r1
    obtain ⟨its, rv, p, hz⟩ := I1.list hq
    refine wpAny_pyIter_list p.isList ?_
    refine ⟨s1.heap.objs.size, [s1.heap.objs.size], _, _, H1, rfl, I1.kept (t' := s1.toks) fun b o e => Heap.get?_push_of_some _ e, turn_list a _, ⟨_, Heap.get?_push_size _ rfl, rfl, rfl⟩, fun b hb => ?_, q⟩
    have e : b = s1.heap.objs.size := by simpa using hb
    subst e
    exact I1.fpOk (Nat.le_refl _) (I1.hok.fresh (Nat.le_refl _))
  · subst e
    cases r1
    obtain ⟨its, rv, p, hz⟩ := I1.tuple hq
    refine wpAny_pyIter_tuple (show s1.heap.IsTuple a its.toArray from p) ?_
    refine ⟨s1.heap.objs.size, [s1.heap.objs.size], _, _, H1, rfl, I1.kept (t' := s1.toks) fun b o e => Heap.get?_push_of_some _ e, turn_tuple a _, ⟨_, Heap.get?_push_size _ rfl, rfl, rfl⟩, fun b hb => ?_, q⟩
    have e : b = s1.heap.objs.size := by simpa using hb
    subst e
    exact I1.fpOk (Nat.le_refl _) (I1.hok.fresh (Nat.le_refl _))
  · subst e
    obtain ⟨t, rfl⟩ := r1
    cases ha : x.cps.all (· < 128)
    · exact wpAny_pyIter_wide ha (pi_one (tk := s1.toks) I1 _ (turn_str _ x t "str_iterator" (.inr rfl)) ⟨_, Heap.get?_push_size _ rfl, rfl, rfl⟩ q)
    · exact wpAny_pyIter_ascii ha (pi_one (tk := s1.toks) I1 _ (turn_str _ x t "str_ascii_iterator" (.inl rfl)) ⟨_, Heap.get?_push_size _ rfl, rfl, rfl⟩ q)
theorem i_seq (ha : PE X a (LE X.K E fa)) : PI X tg a (LI X.K E fun ρ => M.bind (fa ρ) fun v => M.bind (seqItems v) fun ds => M.pure (ds.map .dat)) :=
  (pi_seq ha).imp fun σ H R ⟨ρ, m, B, μ, a, h⟩ => LE.bind a h fun v H1 m1 μ1 w t1 a1 r1 h1 => by
    cases w with
    | ref n => obtain ⟨_, _, e, _⟩ := h1; cases e
    | exc _ _ _ => obtain ⟨_, _, e, _⟩ := h1; cases e
    | dat d =>
      cases d with
      | tup ds =>
        obtain ⟨c, xs, e, q1, q2, q3⟩ := r1.tup_inv
        exact .inr (.inl ⟨c, xs, e, q1, Sat.pure (b := Itt X.K c) h1 a1.rel ⟨ds, rfl, walkD_tup q1 q2 q3⟩⟩)
      | lst ds =>
        obtain ⟨c, xs, e, q1, q2, q3, q4, q5⟩ := r1.lst_inv
        exact .inl ⟨c, xs, e, SqL.of q1, Sat.pure (b := Itl X.K c) h1 a1.rel ⟨ds, rfl, walkD_list q1 q2 q4 q3⟩⟩
      | str z =>
        obtain ⟨e, q1, q2⟩ := r1.str_inv
        exact .inr (.inr ⟨z, e, Sat.pure (b := Its z) h1 a1.rel ⟨_, rfl, walkD_str q1 q2⟩⟩)
      | non => obtain ⟨_, _, e, _⟩ := h1; cases e
      | bl _ => obtain ⟨_, _, e, _⟩ := h1; cases e
      | int _ => obtain ⟨_, _, e, _⟩ := h1; cases e
      | frz _ => obtain ⟨_, _, e, _⟩ := h1; cases e
theorem i_rng (hg : Gl X "range") (hm : X.mg "range" = none) (ha : PE X a (LE X.K E fa)) (hs : starEach [a] X.env = [(false, eval a X.env)]) : PI X tg (.Call (.Name "range" p) [a] [] pos) (LI X.K E fun ρ => M.bind (fa ρ) rngM) :=
  (pi_range1 hg hm (pa_cons ha pa_nil hs) hs).imp fun σ H R ⟨ρ, m, B, μ, a, h⟩ => LE.bind a h fun v H1 m1 μ1 w t1 a1 r1 h1 => by
    unfold rngM at h1
    split at h1
    · rename_i j
      obtain ⟨hj, h2⟩ := h1.when
      simp only [Bool.and_eq_true, decide_eq_true_eq] at hj
      refine ⟨j, by rw [r1.int_inv], by omega, by omega, Sat.pure (b := Itr 0 j.toNat) h2 a1.rel ⟨_, rfl, walkD_range ?_⟩⟩
      show j.toNat ≤ 16777216
      omega
    · exact h1.fail.elim
theorem snap_sat {E : XK} {K : PySem.W.Frag} {B : List Addr} {m : Mp} {H : Hp} {μ : Sto} {v : V} {γ δ : Type} {R2 : Mp → Hp → δ → γ → Prop} {w : Val} {k : Bool × List D → M γ} {Q : δ → Hp → Prop} (r : RVal K m B H v w) (h : Sat K E B R2 m H μ (M.bind (snapItems w) k) Q) :
    ∃ l ds a xs, v = .ref a ∧ SeqAt K H a l xs ∧ xs.length ≤ LINE ∧ RDs K m B H xs ds ∧ (l = true → ¬ Live m a) ∧ (∀ m1 H1, Tra m H m1 H1 → SeqAt K H1 a l xs) ∧ Sat K E B R2 m H μ (k (l, ds)) Q := by
  cases w with
  | ref n => obtain ⟨_, _, e, _⟩ := h; cases e
  | exc _ _ _ => obtain ⟨_, _, e, _⟩ := h; cases e
  | dat d =>
    cases d with
    | tup ds =>
      obtain ⟨c, xs, e, q1, q2, q3⟩ := r.tup_inv
      exact ⟨false, ds, c, xs, e, q1, q2, q3, fun z => (Bool.false_ne_true z).elim, fun m1 H1 t => t.sqT q1, h⟩
    | lst ds =>
      obtain ⟨c, xs, e, q1, q2, q3, q4, q5⟩ := r.lst_inv
      exact ⟨true, ds, c, xs, e, q1, q2, q3, fun _ => q4, fun m1 H1 t => t.kep _ _ q1 q4, h⟩
    | str z => obtain ⟨_, _, e, _⟩ := h; cases e
    | non => obtain ⟨_, _, e, _⟩ := h; cases e
    | bl _ => obtain ⟨_, _, e, _⟩ := h; cases e
    | int _ => obtain ⟨_, _, e, _⟩ := h; cases e
    | frz _ => obtain ⟨_, _, e, _⟩ := h; cases e
variable {elts : List Expr} {kk : Nat}
theorem i_enum (hg : Gl X "enumerate") (hm : X.mg "enumerate" = none) (ha : PE X a (LE X.K E fa)) (hs : starEach [a] X.env = [(false, eval a X.env)]) :
    PI X (.Tuple elts kk tpos) (.Call (.Name "enumerate" p) [a] [] pos) (LI X.K E fun ρ => M.bind (fa ρ) fun v => M.bind (snapItems v) fun q => M.when q.1 (M.pure ((enumFrom 0 q.2).map .dat))) :=
  (pi_enum hg hm (pa_cons ha pa_nil hs) hs).imp fun σ H R ⟨ρ, m, B, μ, a, h⟩ => LE.bind a h fun v H1 m1 μ1 w t1 a1 r1 h1 => by
    obtain ⟨l, ds, c, xs, e, q1, q2, q3, q4, _, h2⟩ := snap_sat r1 h1
    obtain ⟨hl, h3⟩ := h2.when
    subst e
    subst hl
    exact ⟨c, xs, rfl, SqL.of q1, Sat.pure (b := Ite X.K c) h3 a1.rel ⟨_, rfl, walkD_enum q1 q2 (q4 rfl) q3⟩⟩
theorem i_zip (hg : Gl X "zip") (hm : X.mg "zip" = none) (ha : PE X a (LE X.K E fa)) (hb : PE X b (LE X.K E fb)) (hs : starEach [a, b] X.env = (false, eval a X.env) :: starEach [b] X.env) (hs' : starEach [b] X.env = [(false, eval b X.env)]) :
    PI X (.Tuple elts kk tpos) (.Call (.Name "zip" p) [a, b] [] pos) (LI X.K E fun ρ => M.bind (fa ρ) fun v => M.bind (fb ρ) fun w => M.bind (snapItems v) fun p => M.bind (snapItems w) fun q => M.when (p.1 == q.1) (M.pure ((zipD p.2 q.2).map .dat))) :=
  (RZ.pi_zipA hg hm (pa_cons ha (pa_cons hb pa_nil hs') hs) hs (by rw [hs']; rfl)).imp fun σ H R ⟨ρ, m, B, μ, a, h⟩ => LE.bind a h fun v H1 m1 μ1 w t1 a1 r1 h1 => LE.bind a1 h1 fun v' H2 m2 μ2 w' t2 a2 r2 h2 => by
    obtain ⟨l, ds, c, xs, e, q1, q2, q3, q4, _, h3⟩ := snap_sat (r1.mono t2) h2
    obtain ⟨l', ds', c', xs', e', q1', q2', q3', q4', _, h4⟩ := snap_sat r2 h3
    obtain ⟨hl, h5⟩ := h4.when
    have hl : l = l' := by simpa using hl
    subst e e'
    subst hl
    refine ⟨c, c', xs, xs', rfl, ?_⟩
    cases l with
    | true => exact .inl ⟨SqL.of q1, SqL.of q1', Sat.pure (b := Itz X.K c c') h5 a2.rel ⟨_, rfl, walkD_zip q1 q2 (q4 rfl) q3 q1' (q4' rfl) q3'⟩⟩
    | false => exact .inr ⟨q1, q1', Sat.pure (b := RZ.ItzT X.K c c') h5 a2.rel ⟨_, rfl, walkD_zipT q1 q2 q3 q1' q3'⟩⟩
end

/-! ### targets -/
mutual
def tgOf (K : PySem.W.Frag) : Tg → TG
  | .nm i => gName i
  | .tp ts => gTup K (tgLen ts) (tgsOf K ts)
  | _ => fun _ _ _ _ => False
def tgsOf (K : PySem.W.Frag) : Tg → TGs
  | .nil => gNil
  | .cons t ts => gCons (tgOf K t) (tgsOf K ts)
  | _ => fun _ _ _ _ => False
def tgLen : Tg → Nat
  | .cons _ ts => tgLen ts + 1
  | _ => 0
end
theorem asgs_len : ∀ (ts : Tg) (ds : List D) (ρ ρ' : Env), asgs ts ds ρ = some ρ' → ds.length = tgLen ts
  | .nil, [], _, _, _ => by simp [tgLen]
  | .nil, _ :: _, _, _, h => by simp [asgs] at h
  | .cons t ts, [], _, _, h => by simp [asgs] at h
  | .cons t ts, d :: ds, ρ, ρ', h => by
    unfold asgs at h
    split at h
    · rename_i ρ1 e
      rw [List.length_cons, asgs_len ts ds ρ1 ρ' h, tgLen]
    · cases h
  | .nm _, _, _, _, h => by simp [asgs] at h
  | .tp _, _, _, _, h => by simp [asgs] at h
/-- only these slots are stored -/
def tgIn (own : List Nat) : Tg → Bool
  | .nm i => own.contains i
  | .tp ts => tgIn own ts
  | .nil => true
  | .cons t ts => tgIn own t && tgIn own ts
theorem wipe_set {σ : L2.St} {i : Nat} {v : Option V} : ∀ {vs : List Nat}, i ∈ vs → wipe (σ.set i v) vs = wipe σ vs
  | [], h => nomatch h
  | u :: vs, h => by
    unfold wipe
    by_cases e : i ∈ vs
    · rw [wipe_set e]
    · have e2 : u = i := by
        rcases List.mem_cons.mp h with z | z
        · exact z.symm
        · exact absurd z e
      subst e2
      have : ∀ (vs : List Nat) (σ : L2.St), u ∉ vs → wipe (σ.set u v) vs = (wipe σ vs).set u v := by
        intro vs
        induction vs with
        | nil => intro σ _; rfl
        | cons w ws ih =>
          intro σ hn
          unfold wipe
          rw [ih σ (fun z => hn (List.mem_cons_of_mem _ z)), List.set_comm _ _ (fun z => hn (by rw [z]; exact List.mem_cons_self))]
      rw [this vs σ e, List.set_set]
section
variable {K : PySem.W.Frag} {m : Mp} {B : List Addr} {H : Hp}
mutual
theorem asg_ok : ∀ (t : Tg) (w : Val) (v : V) (σ : L2.St) (ρ ρ' : Env) (Q : L2.St → Hp → Prop), asg t w ρ = some ρ' → REnv K m B H σ ρ → RVal K m B H v w → (∀ σ', REnv K m B H σ' ρ' → (∀ own, tgIn own t = true → wipe σ' own = wipe σ own) → Q σ' H) → tgOf K t v σ H Q
  | .nm i, w, v, σ, ρ, ρ', Q, h, e, r, q => by
    simp only [asg, Option.some.injEq] at h
    subst h
    rw [tgOf]
    exact q _ (e.set r i) fun own ho => wipe_set (by simpa [tgIn] using ho)
  | .tp ts, w, v, σ, ρ, ρ', Q, h, e, r, q => by
    rw [tgOf]
    cases w with
    | ref n => simp [asg] at h
    | exc _ _ _ => simp [asg] at h
    | dat d =>
      cases d with
      | tup ds =>
        simp only [asg] at h
        obtain ⟨a, xs, e2, h1, h2, h3⟩ := r.tup_inv
        exact ⟨a, xs, e2, h1, by rw [h3.length]; exact asgs_len _ _ _ _ h, asgs_ok _ _ xs σ _ ρ' Q h e h3 fun σ' e' hw => q σ' e' fun own ho => hw own (by simpa [tgIn] using ho)⟩
      | _ => simp [asg] at h
  | .nil, w, v, σ, ρ, ρ', Q, h, e, r, q => by simp [asg] at h
  | .cons _ _, w, v, σ, ρ, ρ', Q, h, e, r, q => by simp [asg] at h
theorem asgs_ok : ∀ (ts : Tg) (ds : List D) (xs : List V) (σ : L2.St) (ρ ρ' : Env) (Q : L2.St → Hp → Prop), asgs ts ds ρ = some ρ' → REnv K m B H σ ρ → RDs K m B H xs ds → (∀ σ', REnv K m B H σ' ρ' → (∀ own, tgIn own ts = true → wipe σ' own = wipe σ own) → Q σ' H) → tgsOf K ts xs σ H Q
  | .nil, ds, xs, σ, ρ, ρ', Q, h, e, r, q => by
    rw [tgsOf]
    cases ds with
    | nil =>
      cases r
      simp only [asgs, Option.some.injEq] at h
      subst h
      exact ⟨rfl, q σ e fun _ _ => rfl⟩
    | cons _ _ => simp [asgs] at h
  | .cons t ts, ds, xs, σ, ρ, ρ', Q, h, e, r, q => by
    rw [tgsOf]
    cases ds with
    | nil => simp [asgs] at h
    | cons d ds =>
      cases r with
      | cons r1 r2 =>
        unfold asgs at h
        split at h
        · rename_i ρ1 e1
          exact ⟨_, _, rfl, asg_ok t _ _ σ ρ ρ1 _ e1 e (.dat r1) fun σ' e' hw => asgs_ok ts ds _ σ' ρ1 ρ' Q h e' r2 fun σ2 e2 hw2 => q σ2 e2 fun own ho => by
            simp only [tgIn, Bool.and_eq_true] at ho
            rw [hw2 own ho.2, hw own ho.1]⟩
        · cases h
  | .nm _, ds, xs, σ, ρ, ρ', Q, h, e, r, q => by cases ds <;> simp [asgs] at h
  | .tp _, ds, xs, σ, ρ, ρ', Q, h, e, r, q => by cases ds <;> simp [asgs] at h
end
end
end G
set_option Elab.async false
set_option linter.all false
set_option maxRecDepth 100000
set_option maxHeartbeats 1000000
/-! G11: comprehensions. -/
namespace G
open PySem L2
theorem wipe_wipe (σ : L2.St) (vs : List Nat) : wipe (wipe σ vs) vs = wipe σ vs := by
  have key : ∀ (us : List Nat), (∀ u ∈ us, u ∈ vs) → wipe (wipe σ us) vs = wipe σ vs := by
    intro us
    induction us with
    | nil => intro _; rfl
    | cons u us ih =>
      intro h
      show wipe ((wipe σ us).set u none) vs = _
      rw [wipe_set (h u (by simp)), ih fun x hx => h x (by simp [hx])]
  exact key vs fun _ h => h
theorem toDs_map (ds : List D) : toDs (ds.map Val.dat) = M.pure ds := by
  induction ds with
  | nil => rfl
  | cons d ds ih =>
    show M.bind (toDs (ds.map Val.dat)) (fun ds => M.pure (d :: ds)) = _
    rw [ih]
    rfl
/-- E0: nothing is raised -/
theorem satE0 {α β : Type} {K : PySem.W.Frag} {B : List Addr} {R : Mp → Hp → β → α → Prop} {m : Mp} {H : Hp} {μ μ' : Sto} {x : M α} {a : α} {Q : β → Hp → Prop} (e : x μ = some (.ok a, μ')) (h : ∀ b H' m', Tra m H m' H' → Rel K m' B μ' H' → R m' H' b a → Q b H') : Sat K E0 B R m H μ x Q := ⟨.ok a, μ', e, h⟩
theorem bind_ok {α β : Type} {x : M α} {f : α → M β} {μ μ' : Sto} {b : β} (h : M.bind x f μ = some (.ok b, μ')) : ∃ a μ1, x μ = some (.ok a, μ1) ∧ f a μ1 = some (.ok b, μ') := by
  unfold M.bind at h
  cases hx : x μ with
  | none => rw [hx] at h; cases h
  | some p =>
    obtain ⟨p1, p2⟩ := p
    rw [hx] at h
    cases p1 with
    | er z => cases h
    | ok a => exact ⟨a, p2, rfl, h⟩
theorem ofOpt_ok {α β : Type} {x : Option α} {f : α → M β} {μ μ' : Sto} {b : β} (h : M.bind (M.ofOpt x) f μ = some (.ok b, μ')) : ∃ a, x = some a ∧ f a μ = some (.ok b, μ') := by
  cases x with
  | none => cases h
  | some a => exact ⟨a, rfl, h⟩
theorem nox_ok {α : Type} {x : M α} {μ μ' : Sto} {o : Out α} (h : M.nox x μ = some (o, μ')) : ∃ a, o = .ok a ∧ x μ = some (.ok a, μ') := by
  unfold M.nox at h
  split at h
  · rename_i a μ1 e
    cases h
    exact ⟨a, rfl, e⟩
  · cases h
theorem toD_ok {w : Val} {μ μ' : Sto} {d : D} (h : toD w μ = some (.ok d, μ')) : w = .dat d ∧ μ' = μ := by
  cases w with
  | dat d' => cases h; exact ⟨rfl, rfl⟩
  | ref n => cases h
  | exc _ _ _ => cases h
section
variable {X : Cx} {E : XS} {elt tg iter : Expr} {ifs : List Expr} {scope : Scope} {ownp : List (Str × Nat)} {pos : Pos} {fs : Env → M (List Val)} {cond : Env → M Bool} {fe : Env → M Val} {t : Tg}
theorem comp_read {σ : L2.St} {H : Hp} {Q : VK} {vs : List Nat} (ht : tgIn vs t = true)
    (h : LE X.K E (fun ρ => M.bind (fs ρ) fun xs => M.bind (toDs xs) fun ds => M.nox (M.bind (compM t cond fe (wipeD ρ vs) ds) fun ys => M.dat (.lst ys))) σ H Q) :
    tLc (LI X.K E fs) (tgOf X.K t) (LT X.K E0s cond) (LE X.K E0s fe) vs σ H Q := by
  obtain ⟨ρ, m, B, μ, a, h⟩ := h
  refine ⟨ρ, m, B, μ, a, (Sat.bind (R := RJ X.K B) h).mono fun J H1 ⟨m1, μ1, ws, t1, r1, ⟨ds, ew, W⟩, h1⟩ => ?_⟩
  subst ew
  rw [toDs_map, bind_pure] at h1
  intro D hD
  obtain ⟨hlen, G, Y, w, hG, hY⟩ := W
  obtain ⟨o, μe, e, hq⟩ := h1
  obtain ⟨z, rfl, e1⟩ := nox_ok e
  obtain ⟨ys, μe', e2, e3⟩ := bind_ok e1
  cases e3
  have ban : ∀ b, b ∈ D :: B → b ∈ B ∨ H1 b = none := fun b hb => by
    rcases List.mem_cons.mp hb with z | z
    · rw [z]; exact .inr hD
    · exact .inl z
  refine lc_it w (fun i Hn => ∃ mn μn accV accD zs, Tra m1 H1 mn Hn ∧ Rel X.K mn (D :: B) μn Hn ∧ Hn D = some (.lst accV) ∧ RDs X.K mn (D :: B) Hn accV accD ∧ accV.length ≤ i ∧ compM t cond fe (wipeD ρ vs) (ds.drop i) μn = some (.ok zs, μe) ∧ accD ++ zs = ys)
    ?_ ?_ ?_ ?_
  · exact ⟨m1, μ1, [], [], ys, .of_ext (Ext.new hD), r1.ban hD, upd_same, .nil, Nat.le_refl _, e2, rfl⟩
  · rintro i Hn _ ⟨mn, μn, accV, accD, zs, tn, _⟩
    exact hG mn Hn tn
  · rintro i x Hn Hn' hi ⟨mn, μn, accV, accD, zs, tn, rn, hDn, ra, hla, en, eq⟩ y
    obtain ⟨ext, hit⟩ := hY i mn Hn x Hn' tn hi y
    obtain ⟨d, hd, rd⟩ := hit (D :: B) ban
    have hdrop : ds.drop i = d :: ds.drop (i + 1) := by
      obtain ⟨h1, h2⟩ := List.getElem?_eq_some_iff.mp hd
      rw [← h2]
      exact List.drop_eq_getElem_cons h1
    rw [hdrop] at en
    unfold compM at en
    obtain ⟨ρ', eρ, en⟩ := ofOpt_ok en
    obtain ⟨c, μ3, ec, en⟩ := bind_ok en
    have env0 : REnv X.K mn (D :: B) Hn' (wipe σ vs) (wipeD ρ vs) := ((((a.env.mono t1).ban ban).mono tn).mono (.of_ext ext)).wipe vs
    refine asg_ok t (.dat d) x (wipe σ vs) (wipeD ρ vs) ρ' _ eρ env0 (.dat rd) fun σ2 env2 hw => ⟨by rw [hw vs ht, wipe_wipe], ?_⟩
    have rn' : Rel X.K mn (D :: B) μn Hn' := rn.ext ext
    have tn' : Tra m1 H1 mn Hn' := tn.trans (.of_ext ext)
    have hDn' : Hn' D = some (.lst accV) := ext D _ hDn
    refine ⟨ρ', mn, D :: B, μn, ⟨env2, rn'⟩, satE0 ec fun b H3 m3 t3 r3 eb => ?_⟩
    have eb : b = c := eb
    subst eb
    have nl3 : ¬ Live mn D := rn'.bnl D (by simp)
    have hD3 : H3 D = some (.lst accV) := t3.kep D _ hDn' nl3
    cases b with
    | false =>
      rw [if_neg Bool.false_ne_true]
      exact ⟨m3, μ3, accV, accD, zs, tn'.trans t3, r3, hD3, (ra.mono (.of_ext ext)).mono t3, by omega, en, eq⟩
    | true =>
      rw [if_pos rfl]
      obtain ⟨v, μ4, ev4, en4⟩ := bind_ok en
      obtain ⟨y', μ5, ey, en5⟩ := bind_ok en4
      obtain ⟨ev, eμ⟩ := toD_ok ey
      subst ev eμ
      obtain ⟨ys', μ6, eys, en6⟩ := bind_ok en5
      cases en6
      refine ⟨ρ', m3, D :: B, μ3, ⟨env2.mono t3, r3⟩, satE0 ev4 fun u H4 m4 t4 r4 ru => ?_⟩
      have nl4 : ¬ Live m3 D := r3.bnl D (by simp)
      have hD4 : H4 D = some (.lst accV) := t4.kep D _ hD3 nl4
      cases ru with
      | dat ru =>
        refine ⟨accV, hD4, by rw [sizeLine_eq]; exact Nat.lt_of_le_of_lt hla (Nat.lt_of_lt_of_le hi hlen), m4, _, accV ++ [u], accD ++ [y'], ys', ?_, r4.upd_ban (by simp) hD4, upd_same, ?_, ?_, eys, ?_⟩
        · exact ((tn'.trans t3).trans t4).upd_new hD
        · exact ((((ra.mono (.of_ext ext)).mono t3).mono t4).append (.cons ru .nil)).upd_ban (by simp) hD4
        · rw [List.length_append, List.length_singleton]; omega
        · rw [List.append_assoc]; exact eq
  · rintro Hn ⟨mn, μn, accV, accD, zs, tn, rn, hDn, ra, hla, en, eq⟩
    have : ds.drop ds.length = [] := List.drop_length
    rw [this] at en
    cases en
    rw [List.append_nil] at eq
    subst eq
    refine hq (.ref D) Hn mn tn rn.unban (.dat (.lst hDn ?_ (rn.bnl D (by simp)) (r1.fresh_B hD) (ra.less fun b hb => List.mem_cons_of_mem _ hb)))
    exact Nat.le_trans hla hlen
end
end G
set_option Elab.async false
set_option linter.all false
set_option maxRecDepth 100000
set_option maxHeartbeats 1000000
/-! G12: statements. -/
namespace G
open PySem L2
section
variable (K : PySem.W.Frag) (E : XK) (B : List Addr)
def SatF (Dn : Ends) (m : Mp) (H : Hp) (μ' : Sto) : Out Fl → Prop
  | .ok (.nx ρ') => ∀ σ' H' m', Tra m H m' H' → At K B σ' ρ' m' μ' H' → Dn.nx σ' H'
  | .ok (.bk ρ') => ∀ σ' H' m', Tra m H m' H' → At K B σ' ρ' m' μ' H' → Dn.bk σ' H'
  | .ok (.ct ρ') => ∀ σ' H' m', Tra m H m' H' → At K B σ' ρ' m' μ' H' → Dn.ct σ' H'
  | .ok (.rt w) => ∀ v H' m', Tra m H m' H' → Rel K m' B μ' H' → RVal K m' B H' v w → Dn.rt v H'
  | .er e => ∀ c dd H' m', Tra m H m' H' → Rel K m' B μ' H' → RX K B e c dd m' H' → E c dd H'
def SatS (Dn : Ends) (m : Mp) (H : Hp) (μ : Sto) (x : M Fl) : Prop := ∃ o μ', x μ = some (o, μ') ∧ SatF K E B Dn m H μ' o
end
def LS (K : PySem.W.Frag) (E : XS) (f : Env → M Fl) : TS := fun Dn σ H => ∃ ρ m B μ, At K B σ ρ m μ H ∧ SatS K (E σ) B Dn m H μ (f ρ)
section
variable {K : PySem.W.Frag} {E : XK} {B : List Addr} {Dn Dn' : Ends} {m m' : Mp} {H H' : Hp} {μ : Sto} {σ : L2.St} {ρ : Env} {α β : Type} {R : Mp → Hp → β → α → Prop}
theorem SatF.tra {μ' : Sto} {o : Out Fl} (h : SatF K E B Dn m H μ' o) (t : Tra m H m' H') : SatF K E B Dn m' H' μ' o := by
  cases o with
  | er e => exact fun c dd H2 m2 t2 => h c dd H2 m2 (t.trans t2)
  | ok fl =>
    cases fl with
    | nx ρ' => exact fun σ' H2 m2 t2 => h σ' H2 m2 (t.trans t2)
    | bk ρ' => exact fun σ' H2 m2 t2 => h σ' H2 m2 (t.trans t2)
    | ct ρ' => exact fun σ' H2 m2 t2 => h σ' H2 m2 (t.trans t2)
    | rt w => exact fun v H2 m2 t2 => h v H2 m2 (t.trans t2)
theorem SatS.bind {x : M α} {k : α → M Fl} (h : SatS K E B Dn m H μ (M.bind x k)) :
    Sat K E B R m H μ x (fun b H1 => ∃ m1 μ1 a, Tra m H m1 H1 ∧ Rel K m1 B μ1 H1 ∧ R m1 H1 b a ∧ SatS K E B Dn m1 H1 μ1 (k a)) := by
  obtain ⟨o, μ', e, h⟩ := h
  unfold M.bind at e
  cases hx : x μ with
  | none => rw [hx] at e; cases e
  | some p =>
    obtain ⟨p1, μ1⟩ := p
    rw [hx] at e
    cases p1 with
    | er z =>
      cases e
      exact ⟨.er z, _, hx, h⟩
    | ok a => exact ⟨.ok a, μ1, hx, fun b H1 m1 t r rr => ⟨m1, μ1, a, t, r, rr, o, μ', e, h.tra t⟩⟩
theorem SatS.ofOpt {o : Option α} {k : α → M Fl} (h : SatS K E B Dn m H μ (M.bind (M.ofOpt o) k)) : ∃ a, o = some a ∧ SatS K E B Dn m H μ (k a) := by
  cases o with
  | none =>
    obtain ⟨o, μ', e, _⟩ := h
    cases e
  | some a => exact ⟨a, rfl, h⟩
theorem SatS.nx (h : SatS K E B Dn m H μ (M.pure (.nx ρ))) (a : At K B σ ρ m μ H) : Dn.nx σ H := by
  obtain ⟨o, μ', e, h⟩ := h
  cases e
  exact h σ H m .refl a
theorem SatS.rt {v : V} {w : Val} (h : SatS K E B Dn m H μ (M.pure (.rt w))) (r : Rel K m B μ H) (rv : RVal K m B H v w) : Dn.rt v H := by
  obtain ⟨o, μ', e, h⟩ := h
  cases e
  exact h v H m .refl r rv
theorem LE.bindS {E : XS} {f : Env → M Val} {k : Val → M Fl} (a : At K B σ ρ m μ H) (h : SatS K (E σ) B Dn m H μ (M.bind (f ρ) k)) {Q' : VK}
    (n : ∀ v H1 m1 μ1 w, Tra m H m1 H1 → At K B σ ρ m1 μ1 H1 → RVal K m1 B H1 v w → SatS K (E σ) B Dn m1 H1 μ1 (k w) → Q' v H1) : LE K E f σ H Q' :=
  ⟨ρ, m, B, μ, a, (SatS.bind (R := RV K B) h).mono fun v H1 ⟨m1, μ1, w, t, r, rr, s⟩ => n v H1 m1 μ1 w t ⟨a.env.mono t, r⟩ rr s⟩
theorem LA.bindS {E : XS} {f : Env → M (List Val)} {k : List Val → M Fl} (a : At K B σ ρ m μ H) (h : SatS K (E σ) B Dn m H μ (M.bind (f ρ) k)) {Q' : List V → Hp → Prop}
    (n : ∀ v H1 m1 μ1 w, Tra m H m1 H1 → At K B σ ρ m1 μ1 H1 → RVals K m1 B H1 v w → SatS K (E σ) B Dn m1 H1 μ1 (k w) → Q' v H1) : LA K E f σ H Q' :=
  ⟨ρ, m, B, μ, a, (SatS.bind (R := RL K B) h).mono fun v H1 ⟨m1, μ1, w, t, r, rr, s⟩ => n v H1 m1 μ1 w t ⟨a.env.mono t, r⟩ rr s⟩
theorem LT.bindS {E : XS} {f : Env → M Bool} {k : Bool → M Fl} (a : At K B σ ρ m μ H) (h : SatS K (E σ) B Dn m H μ (M.bind (f ρ) k)) {Q' : Bool → Hp → Prop}
    (n : ∀ b H1 m1 μ1, Tra m H m1 H1 → At K B σ ρ m1 μ1 H1 → SatS K (E σ) B Dn m1 H1 μ1 (k b) → Q' b H1) : LT K E f σ H Q' :=
  ⟨ρ, m, B, μ, a, (SatS.bind (R := RQ) h).mono fun v H1 ⟨m1, μ1, w, t, r, rr, s⟩ => by
    have rr : v = w := rr
    subst rr
    exact n v H1 m1 μ1 t ⟨a.env.mono t, r⟩ s⟩
end
section
variable {X : Cx} {E : XS} {pos : Pos} {e c tg iter : Expr} {fe fc : Env → M Val} {st : Stmt} {a b body : List Stmt} {f g : Env → M Fl}
theorem x_skip : PSs X [] (LS X.K E fun ρ => M.pure (.nx ρ)) := pss_nil.imp fun Dn σ H ⟨ρ, m, B, μ, a, h⟩ => h.nx a
def seqM (f g : Env → M Fl) (ρ : Env) : M Fl := M.bind (f ρ) (seqF g)
theorem x_seq (hE : Cst E) (h1 : PS X st (LS X.K E f)) (h2 : PSs X b (LS X.K E g)) : PSs X (st :: b) (LS X.K E (seqM f g)) :=
  (pss_cons h1 h2).imp fun Dn σ H ⟨ρ, m, B, μ, a, o, μ', e, h⟩ => by
    unfold seqM M.bind at e
    refine ⟨ρ, m, B, μ, a, ?_⟩
    cases hx : f ρ μ with
    | none => rw [hx] at e; cases e
    | some p =>
      obtain ⟨p1, μ1⟩ := p
      rw [hx] at e
      refine ⟨p1, μ1, hx, ?_⟩
      cases p1 with
      | er z => cases e; exact h
      | ok fl =>
        cases fl with
        | nx ρ' => exact fun σ' H' m' t a' => ⟨ρ', m', B, μ1, a', o, μ', e, by rw [hE σ' σ]; exact h.tra t⟩
        | bk ρ' => cases e; exact h
        | ct ρ' => cases e; exact h
        | rt w => cases e; exact h
theorem x_seq0 (h1 : PS X st (LS X.K E f)) : PSs X [st] (LS X.K E (seqM f fun ρ => M.pure (.nx ρ))) :=
  (pss_cons h1 pss_nil).imp fun Dn σ H ⟨ρ, m, B, μ, a, o, μ', e, h⟩ => by
    unfold seqM M.bind at e
    refine ⟨ρ, m, B, μ, a, ?_⟩
    cases hx : f ρ μ with
    | none => rw [hx] at e; cases e
    | some p =>
      obtain ⟨p1, μ1⟩ := p
      rw [hx] at e
      refine ⟨p1, μ1, hx, ?_⟩
      cases p1 with
      | er z => cases e; exact h
      | ok fl => cases fl <;> (cases e; exact h)
theorem x_ret (he : PE X e (LE X.K E fe)) : PS X (.Return (some e) pos) (LS X.K E fun ρ => M.bind (fe ρ) fun v => M.pure (.rt v)) :=
  (ps_ret he).imp fun Dn σ H ⟨ρ, m, B, μ, a, h⟩ => LE.bindS a h fun v H1 m1 μ1 w t1 a1 r1 h1 => h1.rt a1.rel r1
theorem x_exp (he : PE X e (LE X.K E fe)) (hs : swapsWith e none pos.line X.env = pure false) : PS X (.Expr e pos) (LS X.K E fun ρ => M.bind (fe ρ) fun _ => M.pure (.nx ρ)) :=
  (ps_expr he hs).imp fun Dn σ H ⟨ρ, m, B, μ, a, h⟩ => LE.bindS a h fun v H1 m1 μ1 w t1 a1 r1 h1 => h1.nx a1
def iteS (fc : Env → M Val) (f g : Env → M Fl) (ρ : Env) : M Fl := M.bind (fc ρ) fun x => M.bind (truth x) (iteF (f ρ) (g ρ))
theorem iteS_eq (fc : Env → M Val) (f g : Env → M Fl) (ρ : Env) : iteS fc f g ρ = M.bind (M.bind (fc ρ) truth) (iteF (f ρ) (g ρ)) := by
  unfold iteS
  rw [bind_assoc]
theorem x_ite (hc : PT X c (LT X.K E fun ρ => M.bind (fc ρ) truth)) (ha : PSs X a (LS X.K E f)) (hb : PSs X b (LS X.K E g)) : PS X (.If c a b pos) (LS X.K E (iteS fc f g)) :=
  (ps_if hc ha hb).imp fun Dn σ H ⟨ρ, m, B, μ, a, h⟩ => by
    rw [iteS_eq] at h
    refine LT.bindS a h fun t H1 m1 μ1 t1 a1 h1 => ?_
    cases t with
    | true => rw [if_pos rfl]; exact ⟨ρ, m1, B, μ1, a1, h1⟩
    | false => rw [if_neg Bool.false_ne_true]; exact ⟨ρ, m1, B, μ1, a1, h1⟩
theorem x_never : PS X st (LS X.K E fun _ => M.fail) := ps_never.imp fun Dn σ H ⟨ρ, m, B, μ, a, o, μ', e, h⟩ => by cases e
theorem x_brk : PS X (.Break pos) (LS X.K E fun ρ => M.pure (.bk ρ)) := ps_break.imp fun Dn σ H ⟨ρ, m, B, μ, a, o, μ', e, h⟩ => by
  cases e
  exact h σ H m .refl a
theorem x_cnt : PS X (.Continue pos) (LS X.K E fun ρ => M.pure (.ct ρ)) := ps_continue.imp fun Dn σ H ⟨ρ, m, B, μ, a, o, μ', e, h⟩ => by
  cases e
  exact h σ H m .refl a
theorem x_pass : PS X (.Pass pos) (LS X.K E fun ρ => M.pure (.nx ρ)) := ps_pass.imp fun Dn σ H ⟨ρ, m, B, μ, a, h⟩ => h.nx a
/-! ### assignments -/
def setM (fe : Env → M Val) (t : Tg) (ρ : Env) : M Fl := M.bind (fe ρ) fun v => M.bind (M.ofOpt (asg t v ρ)) fun ρ' => M.pure (.nx ρ')
theorem set_read {t : Tg} {Dn : Ends} {σ : L2.St} {H : Hp} (h : LS X.K E (setM fe t) Dn σ H) : tAsg (LE X.K E fe) (tgOf X.K t) Dn σ H := by
  obtain ⟨ρ, m, B, μ, a, h⟩ := h
  refine LE.bindS a h fun v H1 m1 μ1 w t1 a1 r1 h1 => ?_
  obtain ⟨ρ', eρ, h2⟩ := h1.ofOpt
  exact asg_ok t w v σ ρ ρ' _ eρ a1.env r1 fun σ' e' _ => h2.nx ⟨e', a1.rel⟩
theorem x_set {i : Nat} {x : Str} {pos' : Pos} (hN : X.N.Nodup) (hi : X.N[i]? = some x) (hx : Loc X.env.scope x) (he : PE X e (LE X.K E fe)) (hs : swapsWith e (some (.Name x pos')) pos.line X.env = pure false) (hf : X.fn x = true ∨ X.env.scope.names.lookup x = some .local) :
    PS X (.Assign [.Name x pos'] e pos) (LS X.K E (setM fe (.nm i))) :=
  (ps_set hN hi hx he hs hf).imp fun Dn σ H h => by
    have := set_read h
    rw [tgOf] at this
    exact this
theorem x_asg {t : Tg} (he : PE X e (LE X.K E fe)) (hg : PG X tg (tgOf X.K t)) (hs : swapsWithSole [tg] e pos.line X.env = pure false) (hw : swappedStores [tg] e X.env = pure none) (h1 : (assignEach [tg] X.env).map (·.2) = [assign tg X.env]) :
    PS X (.Assign [tg] e pos) (LS X.K E (setM fe t)) := (ps_asg he hg hs hw h1).imp fun Dn σ H h => set_read h
/-- a, b = x, y -/
def parM (i j : Nat) (fs : Env → M (List Val)) (ρ : Env) : M Fl := M.bind (fs ρ) (parF i j ρ)
theorem x_par {i j : Nat} {x y : Str} {e1 e2 : Expr} {fs : Env → M (List Val)} {px py pt : Pos} {kt k2 : Nat} {pt2 : Pos} (hc : X.calm = true) (hN : X.N.Nodup) (hi : X.N[i]? = some x) (hj : X.N[j]? = some y) (hij : i ≠ j)
    (hx : X.env.scope.names.lookup x = some .local) (hy : X.env.scope.names.lookup y = some .local) (ha : PA X [e1, e2] (LA X.K E fs))
    (hw : swappedStores [.Tuple [.Name x px, .Name y py] kt pt] (.Tuple [e1, e2] k2 pt2) X.env = pure (some [x, y])) (hs : swapsWithSole [.Tuple [.Name x px, .Name y py] kt pt] (.Tuple [e1, e2] k2 pt2) pos.line X.env = pure false) :
    PS X (.Assign [.Tuple [.Name x px, .Name y py] kt pt] (.Tuple [e1, e2] k2 pt2) pos) (LS X.K E (parM i j fs)) :=
  (ps_par hc hN hi hj hij hx hy ha hw hs).imp fun Dn σ H ⟨ρ, m, B, μ, a, h⟩ => LA.bindS a h fun vs H1 m1 μ1 ws t1 a1 r1 h1 => by
    unfold parF at h1
    split at h1
    · cases r1 with
      | cons r1 r2 =>
        cases r2 with
        | cons r2 r3 =>
          cases r3
          exact ⟨_, _, rfl, h1.nx ⟨(a1.env.set r1 i).set r2 j, a1.rel⟩⟩
    · obtain ⟨_, _, e, _⟩ := h1; cases e
def par3M (i j l : Nat) (fs : Env → M (List Val)) (ρ : Env) : M Fl := M.bind (fs ρ) (par3F i j l ρ)
theorem x_par3 {i j l : Nat} {x y z : Str} {e1 e2 e3 : Expr} {fs : Env → M (List Val)} {px py pz pt : Pos} {kt k2 : Nat} {pt2 : Pos} (hc : X.calm = true) (hN : X.N.Nodup) (hi : X.N[i]? = some x) (hj : X.N[j]? = some y) (hl : X.N[l]? = some z) (hij : i ≠ j) (hil : i ≠ l) (hjl : j ≠ l)
    (hx : X.env.scope.names.lookup x = some .local) (hy : X.env.scope.names.lookup y = some .local) (hz : X.env.scope.names.lookup z = some .local) (ha : PA X [e1, e2, e3] (LA X.K E fs))
    (hw : swappedStores [.Tuple [.Name x px, .Name y py, .Name z pz] kt pt] (.Tuple [e1, e2, e3] k2 pt2) X.env = pure (some [x, y, z])) (hs : swapsWithSole [.Tuple [.Name x px, .Name y py, .Name z pz] kt pt] (.Tuple [e1, e2, e3] k2 pt2) pos.line X.env = pure false) :
    PS X (.Assign [.Tuple [.Name x px, .Name y py, .Name z pz] kt pt] (.Tuple [e1, e2, e3] k2 pt2) pos) (LS X.K E (par3M i j l fs)) :=
  (ps_par3 hc hN hi hj hl hij hil hjl hx hy hz ha hw hs).imp fun Dn σ H ⟨ρ, m, B, μ, a, h⟩ => LA.bindS a h fun vs H1 m1 μ1 ws t1 a1 r1 h1 => by
    unfold par3F at h1
    split at h1
    · cases r1 with
      | cons r1 r2 =>
        cases r2 with
        | cons r2 r3 =>
          cases r3 with
          | cons r3 r4 =>
            cases r4
            exact ⟨_, _, _, rfl, h1.nx ⟨((a1.env.set r1 i).set r2 j).set r3 l, a1.rel⟩⟩
    · obtain ⟨_, _, e, _⟩ := h1; cases e
theorem SatS.nxE {K : PySem.W.Frag} {E : XK} {B : List Addr} {Dn : Ends} {m : Mp} {H H' : Hp} {μ : Sto} {σ : L2.St} {ρ : Env} (h : SatS K E B Dn m H μ (M.pure (.nx ρ))) (x : Ext H H') (a : At K B σ ρ m μ H) : Dn.nx σ H' := by
  obtain ⟨o, μ', e, h⟩ := h
  cases e
  exact h σ H' m (.of_ext x) ⟨a.env.mono (.of_ext x), a.rel.ext x⟩
/-- the same, where the stores stand in order: a tuple is made and taken apart -/
theorem x_parT {i j : Nat} {e1 e2 t1 t2 : Expr} {fs : Env → M (List Val)} {pt : Pos} {kt k2 : Nat} {pt2 : Pos} (hc : X.calm = true) (g1 : PG X t1 (gName i)) (g2 : PG X t2 (gName j)) (ha : PA X [e1, e2] (LA X.K E fs))
    (hw : swappedStores [.Tuple [t1, t2] kt pt] (.Tuple [e1, e2] k2 pt2) X.env = pure none) (hs : swapsWithSole [.Tuple [t1, t2] kt pt] (.Tuple [e1, e2] k2 pt2) pos.line X.env = pure false)
    (hE : assignEach [t1, t2] X.env = [(false, assign t1 X.env), (false, assign t2 X.env)]) (hE2 : assignEach [t2] X.env = [(false, assign t2 X.env)]) :
    PS X (.Assign [.Tuple [t1, t2] kt pt] (.Tuple [e1, e2] k2 pt2) pos) (LS X.K E (parM i j fs)) := by
  have gt : PG X (.Tuple [t1, t2] kt pt) (gTup X.K 2 (gCons (gName i) (gCons (gName j) gNil))) := pg_tup hc (pgs_cons g1 (pgs_cons g2 pgs_nil (by rw [hE2]; rfl)) (by rw [hE, hE2]; rfl)) (by rw [hE]; rfl) (by rw [hE]; rfl)
  refine (ps_asg (pe_tup ha) gt hs hw rfl).imp fun Dn σ H ⟨ρ, m, B, μ, a, h⟩ => LA.bindS a h fun vs H1 m1 μ1 ws t1 a1 r1 h1 => ?_
  unfold parF at h1
  split at h1
  · cases r1 with
    | cons r1 r2 =>
      cases r2 with
      | cons r2 r3 =>
        cases r3
        exact ⟨by rw [sizeLine_eq]; show 2 ≤ _; decide, fun p hp => ⟨p, _, rfl, SqT.of upd_same, rfl, _, _, rfl, _, _, rfl, rfl, h1.nxE (Ext.new hp) ⟨(a1.env.set r1 i).set r2 j, a1.rel⟩⟩⟩
  · obtain ⟨_, _, e, _⟩ := h1; cases e
theorem x_par3T {i j l : Nat} {e1 e2 e3 t1 t2 t3 : Expr} {fs : Env → M (List Val)} {pt : Pos} {kt k2 : Nat} {pt2 : Pos} (hc : X.calm = true) (g1 : PG X t1 (gName i)) (g2 : PG X t2 (gName j)) (g3 : PG X t3 (gName l)) (ha : PA X [e1, e2, e3] (LA X.K E fs))
    (hw : swappedStores [.Tuple [t1, t2, t3] kt pt] (.Tuple [e1, e2, e3] k2 pt2) X.env = pure none) (hs : swapsWithSole [.Tuple [t1, t2, t3] kt pt] (.Tuple [e1, e2, e3] k2 pt2) pos.line X.env = pure false)
    (hE : assignEach [t1, t2, t3] X.env = [(false, assign t1 X.env), (false, assign t2 X.env), (false, assign t3 X.env)]) (hE2 : assignEach [t2, t3] X.env = [(false, assign t2 X.env), (false, assign t3 X.env)]) (hE3 : assignEach [t3] X.env = [(false, assign t3 X.env)]) :
    PS X (.Assign [.Tuple [t1, t2, t3] kt pt] (.Tuple [e1, e2, e3] k2 pt2) pos) (LS X.K E (par3M i j l fs)) := by
  have gt : PG X (.Tuple [t1, t2, t3] kt pt) (gTup X.K 3 (gCons (gName i) (gCons (gName j) (gCons (gName l) gNil)))) := pg_tup hc (pgs_cons g1 (pgs_cons g2 (pgs_cons g3 pgs_nil (by rw [hE3]; rfl)) (by rw [hE2, hE3]; rfl)) (by rw [hE, hE2]; rfl)) (by rw [hE]; rfl) (by rw [hE]; rfl)
  refine (ps_asg (pe_tup ha) gt hs hw rfl).imp fun Dn σ H ⟨ρ, m, B, μ, a, h⟩ => LA.bindS a h fun vs H1 m1 μ1 ws t1 a1 r1 h1 => ?_
  unfold par3F at h1
  split at h1
  · cases r1 with
    | cons r1 r2 =>
      cases r2 with
      | cons r2 r3 =>
        cases r3 with
        | cons r3 r4 =>
          cases r4
          exact ⟨by rw [sizeLine_eq]; show 3 ≤ _; decide, fun p hp => ⟨p, _, rfl, SqT.of upd_same, rfl, _, _, rfl, _, _, rfl, _, _, rfl, rfl, h1.nxE (Ext.new hp) ⟨((a1.env.set r1 i).set r2 j).set r3 l, a1.rel⟩⟩⟩
  · obtain ⟨_, _, e, _⟩ := h1; cases e
/-- o[i] = v -/
def setIxM (fv fo fi : Env → M Val) (ρ : Env) : M Fl := M.bind (fv ρ) fun z => M.bind (fo ρ) fun x => M.bind (fi ρ) fun y => M.bind (opSetIx x y z) fun _ => M.pure (.nx ρ)
theorem x_setIx {o i v : Expr} {fo fi fv : Env → M Val} {pos' : Pos} (hv : PE X v (LE X.K E fv)) (ho : PE X o (LE X.K E fo)) (hi : PE X i (LE X.K E fi))
    (ha : ∀ v, assign (.Subscript o i pos') X.env v = (do
      let ov ← holding [v] (eval o X.env)
      let iv ← holding [v, ov] (eval i X.env)
      standAt pos'
      holding [v, ov, iv] (setItem ov iv v)
      release [v, ov, iv] []))
    (hs : swapsWithSole [.Subscript o i pos'] v pos.line X.env = pure false) (hw : swappedStores [.Subscript o i pos'] v X.env = pure none) :
    PS X (.Assign [.Subscript o i pos'] v pos) (LS X.K E (setIxM fv fo fi)) :=
  (ps_asg hv (pg_sub ho hi set_list ha) hs hw rfl).imp fun Dn σ H ⟨ρ, m, B, μ, a, h⟩ => LE.bindS a h fun vz H1 m1 μ1 wz t1 a1 r1 h1 => LE.bindS a1 h1 fun vo H2 m2 μ2 wo t2 a2 r2 h2 => LE.bindS a2 h2 fun vi H3 m3 μ3 wi t3 a3 r3 h3 => by
    unfold opSetIx at h3
    split at h3
    · rename_i n k d
      obtain ⟨p, μ', e, hq⟩ := h3
      have r1' := (r1.mono t2).mono t3
      have r2' := r2.mono t3
      unfold M.bind cellAt at e
      cases hc : μ3[n]? with
      | none => simp only [hc] at e; cases e
      | some cc =>
        cases cc with
        | dead => simp only [hc, M.fail] at e; cases e
        | lst ds =>
          simp only [hc] at e
          cases hj : ixN ds.length k with
          | none => simp only [hj, M.ofOpt, M.fail] at e; cases e
          | some j =>
            simp only [hj, M.ofOpt, M.pure, setCell] at e
            cases e
            obtain ⟨ad, xs, e1, e2, q1, q2, q3⟩ := r2'.cellL_inv a3.rel hc
            cases r1' with
            | dat rz =>
              refine ⟨ad, xs, k, j, e1, r3.int_inv, q1, by rw [q3.length]; exact hj, hq σ _ m3 (tra_write e2 q1) ⟨a3.env.mono (tra_write e2 q1), a3.rel.write e2 q1 ?_ (q3.set rz j)⟩⟩
              rw [List.length_set]; exact q2
    · obtain ⟨_, _, e, _⟩ := h3; cases e
/-! ### loops -/
def forS (fs : Env → M (List Val)) (t : Tg) (f : Env → M Fl) (ρ : Env) : M Fl := M.bind (fs ρ) fun xs => M.bind (toDs xs) fun ds => forM t f ds ρ
theorem x_for (hE : Cst E) {t : Tg} {fs : Env → M (List Val)} (hp : PassesOwn (model X.prog X.w) X.A X.env X.xe) (hc : X.calm = true) (hi : PI X tg iter (LI X.K E fs)) (hg : PG X tg (tgOf X.K t)) (hb : PSs X body (LS X.K E f)) (hs : ∀ x, foldedSetIterable iter X.env x = pure x) :
    PS X (.For tg iter body [] pos) (LS X.K E (forS fs t f)) := by
  refine (ps_for hp hc hi hg hb hs).imp fun Dn σ H ⟨ρ, m, B, μ, a, h⟩ => ?_
  refine ⟨ρ, m, B, μ, a, (SatS.bind (R := RJ X.K B) h).mono fun J H1 ⟨m1, μ1, ws, t1, r1, ⟨ds, ew, W⟩, h1⟩ => ?_⟩
  subst ew
  rw [toDs_map, bind_pure] at h1
  obtain ⟨hlen, G, Y, w, hG, hY⟩ := W
  refine for_it w (fun i σn Hn => ∃ mn μn ρn, Tra m1 H1 mn Hn ∧ At X.K B σn ρn mn μn Hn ∧ SatS X.K (E σ) B Dn mn Hn μn (forM t f (ds.drop i) ρn)) ?_ ?_ ?_ ?_
  · exact ⟨m1, μ1, ρ, .refl, ⟨a.env.mono t1, r1⟩, h1⟩
  · rintro i σn Hn _ ⟨mn, μn, ρn, tn, _⟩
    exact hG mn Hn tn
  · rintro i x σn Hn Hn' hi ⟨mn, μn, ρn, tn, an, sn⟩ y
    obtain ⟨ext, hit⟩ := hY i mn Hn x Hn' tn hi y
    obtain ⟨d, hd, rd⟩ := hit B fun b hb => .inl hb
    have hdrop : ds.drop i = d :: ds.drop (i + 1) := by
      obtain ⟨h1, h2⟩ := List.getElem?_eq_some_iff.mp hd
      rw [← h2]
      exact List.drop_eq_getElem_cons h1
    rw [hdrop] at sn
    unfold forM at sn
    obtain ⟨ρ', eρ, sn⟩ := sn.ofOpt
    have te : Tra mn Hn mn Hn' := .of_ext ext
    refine asg_ok t (.dat d) x σn ρn ρ' _ eρ (an.env.mono te) (.dat rd) fun σ2 env2 _ => ?_
    have a2 : At X.K B σ2 ρ' mn μn Hn' := ⟨env2, an.rel.ext ext⟩
    refine ⟨ρ', mn, B, μn, a2, ?_⟩
    obtain ⟨o, μ', e, hq⟩ := sn
    have hq := hq.tra te
    unfold M.bind at e
    cases hx : f ρ' μn with
    | none => rw [hx] at e; cases e
    | some p =>
      obtain ⟨p1, μ2⟩ := p
      rw [hx] at e
      refine ⟨p1, μ2, hx, ?_⟩
      cases p1 with
      | er z => cases e; rw [hE σ σ2] at hq; exact hq
      | ok fl =>
        cases fl with
        | nx ρ2 => exact fun σ' H' m' t' a' => ⟨m', μ2, ρ2, (tn.trans te).trans t', a', o, μ', e, hq.tra t'⟩
        | ct ρ2 => exact fun σ' H' m' t' a' => ⟨m', μ2, ρ2, (tn.trans te).trans t', a', o, μ', e, hq.tra t'⟩
        | bk ρ2 => cases e; exact hq
        | rt v => cases e; exact hq
  · rintro σn Hn ⟨mn, μn, ρn, tn, an, sn⟩
    have : ds.drop ds.length = [] := List.drop_length
    rw [this] at sn
    exact sn.nx an
def whileS (c : Env → M Bool) (f : Env → M Fl) (ρ : Env) : M Fl := whileM c f FUEL ρ
theorem x_while (hE : Cst E) (hp : PassesOwn (model X.prog X.w) X.A X.env X.xe) (hc : PT X c (LT X.K E fun ρ => M.bind (fc ρ) truth)) (hb : PSs X body (LS X.K E f)) :
    PS X (.While c body [] pos) (LS X.K E (whileS (fun ρ => M.bind (fc ρ) truth) f)) := by
  refine (ps_while hp hc hb).imp fun Dn σ H ⟨ρ, m, B, μ, a, h⟩ => ?_
  refine ⟨fun n σn Hn => ∃ mn μn ρn, At X.K B σn ρn mn μn Hn ∧ SatS X.K (E σ) B Dn mn Hn μn (whileM (fun ρ => M.bind (fc ρ) truth) f n ρn), ⟨FUEL, m, μ, ρ, a, h⟩, ?_⟩
  rintro n σn Hn ⟨mn, μn, ρn, an, sn⟩
  cases n with
  | zero => obtain ⟨_, _, e, _⟩ := sn; cases e
  | succ n =>
    unfold whileM at sn
    rw [hE σ σn] at sn
    refine LT.bindS an sn fun t H1 m1 μ1 t1 a1 h1 => ?_
    cases t with
    | false => rw [if_neg Bool.false_ne_true]; exact h1.nx a1
    | true =>
      rw [if_pos rfl]
      refine ⟨fun σ' H' => ∃ m' μ' ρ', At X.K B σ' ρ' m' μ' H' ∧ SatS X.K (E σ) B Dn m' H' μ' (whileM (fun ρ => M.bind (fc ρ) truth) f n ρ'), fun σ' H' h => ⟨n, Nat.lt_succ_self n, h⟩, ρn, m1, B, μ1, a1, ?_⟩
      obtain ⟨o, μ', e, hq⟩ := h1
      unfold M.bind at e
      cases hx : f ρn μ1 with
      | none => simp only [hx] at e; cases e
      | some p =>
        obtain ⟨p1, μ2⟩ := p
        simp only [hx] at e
        refine ⟨p1, μ2, hx, ?_⟩
        cases p1 with
        | er z => cases e; exact hq
        | ok fl =>
          cases fl with
          | nx ρ2 => exact fun σ' H' m' t' a' => ⟨m', μ2, ρ2, a', o, μ', e, by rw [hE σ σn]; exact hq.tra t'⟩
          | ct ρ2 => exact fun σ' H' m' t' a' => ⟨m', μ2, ρ2, a', o, μ', e, by rw [hE σ σn]; exact hq.tra t'⟩
          | bk ρ2 => cases e; exact hq
          | rt v => cases e; exact hq
end
end G
set_option Elab.async false
set_option linter.all false
set_option maxRecDepth 100000
set_option maxHeartbeats 1000000
/-! G12b: errors: raise, try, isinstance, fields. -/
namespace G
open PySem L2
/-- a class as a value -/
def clsV : Value → V
  | .type n => .ty n
  | .ref a => .ref a
  | _ => .non
def isClsV : Value → Bool
  | .type _ => true
  | .ref _ => true
  | _ => false
theorem clsV_rel {u : Value} (h : isClsV u = true) : RelV (clsV u) u := by
  cases u <;> first | rfl | cases h
theorem clsV_eq {u v : Value} (h : isClsV u = true) (r : RelV (clsV u) v) : v = u := by
  cases u <;> first | exact r | cases h
theorem clsVs_eq : ∀ {us vs : List Value}, us.all isClsV = true → Vals (us.map clsV) vs → vs = us
  | [], _, _, .nil => rfl
  | u :: us, _, h, .cons r t => by
    rw [List.all_cons, Bool.and_eq_true] at h
    rw [clsV_eq h.1 r, clsVs_eq h.2 t]
section
variable {X : Cx}
theorem pe_cls {y : Str} {u : Value} {q : Pos} (h : Names X y u) (hu : isClsV u = true) : PE X (.Name y q) (tC (clsV u)) := by
  obtain ⟨hg, hdbg, hm | ⟨hm, hv, hnn⟩⟩ := h
  · exact pe_glob hg hm (clsV_rel hu) hdbg
  · exact pe_bltn hg hm hv (clsV_rel hu) hnn hdbg
theorem pa_cls : ∀ (es : List Expr) (us : List Value), NamesL X es us → us.all isClsV = true → PA X es (fun _ H Q => Q (us.map clsV) H)
  | [], [], _, _ => pa_nil
  | [], _ :: _, h, _ => h.elim
  | e :: es, us, h, hu => by
    cases e with
    | Name y q =>
      cases us with
      | nil => exact h.elim
      | cons u us =>
        rw [List.all_cons, Bool.and_eq_true] at hu
        exact pa_cons (pe_cls h.1 hu.1) (pa_cls es us h.2 hu.2) rfl
    | _ => cases us <;> exact h.elim
end
/-- what a table says of the classes of errors -/
def TabI (K : PySem.W.Frag) (tab : List (Str × Bool)) (us : List Value) : Prop := ∀ c b, tab.lookup c = some b → XCl K (He.ga K c) ∧ PySem.W.kitAny K (.ref (He.ga K c)) us = some b
def TabX (K : PySem.W.Frag) (tab : List (Str × Bool)) (us : List Value) : Prop := ∀ c b, tab.lookup c = some b → PySem.W.exmAny K (.ref (He.ga K c)) us = some b
theorem kitOne_of {K : PySem.W.Frag} {t u : Value} {b : Bool} (h : PySem.W.kitAny K t [u] = some b) : PySem.W.kitOne K t u = some b := by
  unfold PySem.W.kitAny at h
  split at h
  · rename_i e; cases h; exact e
  · rename_i e; cases h; exact e
  · cases h
section
variable {X : Cx} {E : XS} {pos p : Pos} {a : Expr} {fa : Env → M Val}
theorem isx_sat {K : PySem.W.Frag} {E : XK} {B : List Addr} {m : Mp} {H : Hp} {μ : Sto} {v : V} {w : Val} {tab : List (Str × Bool)} {Q : VK} (r : RVal K m B H v w) (h : Sat K E B (RV K B) m H μ (isxM tab w) Q) :
    ∃ (ad : Addr) (c : Str) (d : Option Addr) (b : Bool), v = .ref ad ∧ H ad = some (ExK (.ref (He.ga K c)) d ad) ∧ DdOk H d ∧ tab.lookup c = some b ∧ Sat K E B (RV K B) m H μ (M.dat (.bl b)) Q := by
  cases r with
  | dat _ => obtain ⟨_, _, e, _⟩ := h; cases e
  | ref _ => obtain ⟨_, _, e, _⟩ := h; cases e
  | exc0 h1 nl =>
    obtain ⟨b, hb, h2⟩ := h.ofOpt
    refine ⟨_, _, _, b, rfl, h1, ?_, hb, h2⟩
    intro p z
    cases z
  | exc1 h1 nl hp np rd =>
    obtain ⟨b, hb, h2⟩ := h.ofOpt
    refine ⟨_, _, _, b, rfl, h1, ?_, hb, h2⟩
    intro p z
    cases z
    exact ⟨_, hp⟩
theorem s_isx1 {y : Str} {u : Value} {q : Pos} {tab : List (Str × Bool)} (hg : Gl X "isinstance") (hm : X.mg "isinstance" = none) (hy : Names X y u) (hu : isClsV u = true) (ht : TabI X.K tab [u]) (ha : PE X a (LE X.K E fa)) (hs : starEach [a, .Name y q] X.env = (false, eval a X.env) :: starEach [.Name y q] X.env) :
    PE X (.Call (.Name "isinstance" p) [a, .Name y q] [] pos) (LE X.K E fun ρ => M.bind (fa ρ) (isxM tab)) := by
  refine (pe_callB call_isX hg hm PyProof.Rows.boot_isinstance (pa_cons ha (pa_cons (pe_cls hy hu) pa_nil) hs) (by decide) (by decide) hs).imp fun σ H Q ⟨ρ, m, B, μ, a, h⟩ => LE.bind a h fun v H1 m1 μ1 w t1 a1 r1 h1 => ?_
  obtain ⟨ad, c, d, b, e1, e2, e3, e4, h2⟩ := isx_sat r1 h1
  subst e1
  obtain ⟨q1, q2⟩ := ht c b e4
  exact ⟨ad, _, d, _, u, b, rfl, fun v r => clsV_eq hu r, e2, e3, q1, kitOne_of q2, h2.pure a1.rel (.dat (.bl _))⟩
theorem s_isxT {es : List Expr} {us : List Value} {kt : Nat} {pt : Pos} {tab : List (Str × Bool)} (hg : Gl X "isinstance") (hm : X.mg "isinstance" = none) (hy : NamesL X es us) (hu : us.all isClsV = true) (hl : us.length ≤ LINE) (ht : TabI X.K tab us) (ha : PE X a (LE X.K E fa)) (hs : starEach [a, .Tuple es kt pt] X.env = (false, eval a X.env) :: starEach [.Tuple es kt pt] X.env) :
    PE X (.Call (.Name "isinstance" p) [a, .Tuple es kt pt] [] pos) (LE X.K E fun ρ => M.bind (fa ρ) (isxM tab)) := by
  refine (pe_callB call_isXT hg hm PyProof.Rows.boot_isinstance (pa_cons ha (pa_cons (pe_tup (pa_cls es us hy hu)) pa_nil) hs) (by decide) (by decide) hs).imp fun σ H Q ⟨ρ, m, B, μ, a, h⟩ => LE.bind a h fun v H1 m1 μ1 w t1 a1 r1 h1 => ?_
  obtain ⟨ad, c, d, b, e1, e2, e3, e4, h2⟩ := isx_sat r1 h1
  subst e1
  obtain ⟨q1, q2⟩ := ht c b e4
  refine ⟨by rw [List.length_map, sizeLine_eq]; exact hl, fun tp htp => ⟨ad, _, d, tp, _, us, b, rfl, upd_same, fun vs r => clsVs_eq hu r, by rw [upd_ne (ne_of_none e2 htp)]; exact e2, fun p z => ?_, q1, q2, h2.ext a1.rel (Ext.new htp) (.dat (.bl _))⟩⟩
  obtain ⟨fs, hf⟩ := e3 p z
  exact ⟨fs, by rw [upd_ne (ne_of_none hf htp)]; exact hf⟩
/-- the field of an error -/
def FldOk (K : PySem.W.Frag) (f : Str) (cs : List Str) : Prop := ∀ c, cs.contains c = true → XCl K (He.ga K c) ∧ PySem.W.findIn K (.ref (He.ga K c)) f = some none
theorem s_fld {f : Str} {cs : List Str} (hf : FldOk X.K f cs) (ha : PE X a (LE X.K E fa)) (hb : attributeBase a f X.env (eval a X.env) = eval a X.env) : PE X (.Attribute a f pos) (LE X.K E fun ρ => M.bind (fa ρ) (fldM f cs)) := by
  refine (pe_XF ha hb).imp fun σ H Q ⟨ρ, m, B, μ, a, h⟩ => LE.bind a h fun v H1 m1 μ1 w t1 a1 r1 h1 => ?_
  cases r1 with
  | dat _ => obtain ⟨_, _, e, _⟩ := h1; cases e
  | ref _ => obtain ⟨_, _, e, _⟩ := h1; cases e
  | exc0 _ _ => obtain ⟨_, _, e, _⟩ := h1; cases e
  | exc1 k1 nl hp np rd =>
    obtain ⟨hc, h2⟩ := h1.when
    rw [Bool.and_eq_true] at hc
    obtain ⟨hc1, hc2⟩ := hc
    have hc1 := beq_iff_eq.mp hc1
    subst hc1
    obtain ⟨q1, q2⟩ := hf _ hc2
    exact ⟨_, _, _, _, _, rfl, k1, q1, q2, hp, by rw [List.lookup_cons, beq_self_eq_true], h2.pure a1.rel (.dat rd)⟩
end
/-! ### raise -/
section
variable {X : Cx} {E : XS} {pos p pos' : Pos} {e : Expr} {fe : Env → M Val}
theorem x_rse {c f : Str} {B newId i : String} {bmB : List Value} (hc : X.calm = true) (tk : Takes X fun cls d σ H => E σ cls d H) (T : XIn X.K X.prog (He.ga X.K c) f B newId i bmB) (hr : Room 2 X.A) (gC : X.mg c = some (.ref (He.ga X.K c))) (kC : PySem.W.keepIn X.K (.ref (He.ga X.K c)) = true) (hg : Gl X c) (he : PE X e (LE X.K E fe))
    (hs : starEach [e] X.env = (false, eval e X.env) :: starEach [] X.env) (hdb : (c == ("__debug__" : Str)) = false) :
    PS X (.Raise (some (.Call (.Name c p) [e] [] pos')) none pos) (LS X.K E fun ρ => M.bind (M.bind (fe ρ) fun v => M.bind (M.pure []) fun vs => M.pure (v :: vs)) (rseM c f)) := by
  refine (ps_raise hc tk (pmk_x T hr gC kC hg he hs hdb)).imp fun Dn σ H ⟨ρ, m, Bn, μ, a, h⟩ => ?_
  have h' : SatS X.K (E σ) Bn Dn m H μ (M.bind (fe ρ) fun v => rseM c f [v]) := by
    obtain ⟨o, μ', z, q⟩ := h
    refine ⟨o, μ', ?_, q⟩
    have z : M.bind (M.bind (fe ρ) fun v => M.bind (M.pure []) fun vs => M.pure (v :: vs)) (rseM c f) μ = some (o, μ') := z
    rw [bind_assoc] at z
    exact z
  refine LE.bindS a h' fun v H1 m1 μ1 w t1 a1 r1 h1 => ?_
  intro dx hdx
  cases r1 with
  | ref _ => obtain ⟨_, _, z, _⟩ := h1; cases z
  | exc0 _ _ => obtain ⟨_, _, z, _⟩ := h1; cases z
  | exc1 _ _ _ _ _ => obtain ⟨_, _, z, _⟩ := h1; cases z
  | dat rd =>
    obtain ⟨o, μ', z, q⟩ := h1
    cases z
    exact q _ _ (upd H1 dx (.xd [(f, v)])) m1 (.of_ext (Ext.new hdx)) (a1.rel.ext (Ext.new hdx)) ⟨rfl, dx, v, rfl, upd_same, a1.rel.fresh_live hdx, rd.mono (.of_ext (Ext.new hdx))⟩
end
/-! ### try -/
theorem REnv.caught {K : PySem.W.Frag} {m : Mp} {B : List Addr} {H : Hp} {σ : L2.St} {ρ : Env} (e : REnv K m B H σ ρ) {i j : Nat} {v x : V} {w : Val} (r : RVal K m B H v w) : REnv K m B H (((σ.set i (some x)).set j (some v)).set i none) ((ρ.set j (some w)).set i none) := by
  have z := (e.set r j).unset i
  refine ⟨by simpa using z.len, fun k u h => ?_⟩
  obtain ⟨v', h1, h2⟩ := z.get k u h
  refine ⟨v', ?_, h2⟩
  by_cases hk : i = k
  · subst hk
    have hi : i < ((ρ.set j (some w)).set i none).length := (List.getElem?_eq_some_iff.mp h).1
    rw [List.getElem?_set_self (by simpa using hi)] at h
    cases h
  · rw [List.getElem?_set_ne hk] at h1 ⊢
    by_cases hj : j = k
    · subst hj
      have hl : j < σ.length := by
        have := (List.getElem?_eq_some_iff.mp h1).1
        simpa using this
      rw [List.getElem?_set_self hl] at h1
      rw [List.getElem?_set_self (by simpa using hl)]
      exact h1
    · rw [List.getElem?_set_ne hj] at h1 ⊢
      rw [List.getElem?_set_ne hk]
      exact h1
section
variable {X : Cx} {E : XS} {n y : Str} {cs : List Value} {i j : Nat} {s : Stmt} {test : Expr} {py pn pa pos pos' : Pos} {f : Env → M Fl} {tab : List (Str × Bool)}
theorem x_tryx (hs : X.stack = X.env :: X.outer) (hf : X.env.frame = some X.env.locals) (hex : X.ex = []) (hN : X.N.Nodup) (hi : X.N[i]? = some n) (hj : X.N[j]? = some y) (hln : X.env.kindOf n = some .local) (hly : X.env.kindOf y = some .local) (ndb : (n == ("__debug__" : Str)) = false) (ncd : (n == ("__classdict__" : Str)) = false) (ht : TestOf X test cs) (hx : TabX X.K tab cs) (tk : Takes X fun cls d σ H => E σ cls d H)
    (hb : ∀ (W : WX) (pn : List (Addr × Obj)) (xe : Value → Shared → Prop), Takes (X.tr pn xe) W → PassesOwn (model X.prog X.w) X.A X.env xe → PS (X.tr pn xe) s (LS X.K (fun σ c d H => W c d σ H) f)) :
    PS X (.Try [s] [.ExceptHandler (some test) (some n) [.Assign [.Name y py] (.Name n pn) pa] pos'] [] [] pos) (LS X.K E (tryM f tab i j)) := by
  refine (ps_tryX (cs := cs) (tb := fun W => LS X.K (fun σ c d H => W c d σ H) f) hs hf hex hN hi hj hln hly ndb ncd ht tk fun W pn xe t q => ?_).imp fun Dn σ H ⟨ρ, m, B, μ, a, h⟩ => ?_
  · exact (pss_cons (hb W pn xe t q) pss_nil).imp fun Dn σ H ⟨ρ, m, B, μ, a, o, μ', z, h⟩ => ⟨ρ, m, B, μ, a, o, μ', z, by
      cases o with
      | er e => exact h
      | ok fl => cases fl <;> exact h⟩
  · obtain ⟨o, μ', z, h⟩ := h
    unfold tryM at z
    cases hx1 : f ρ μ with
    | none => rw [hx1] at z; cases z
    | some p1 =>
      obtain ⟨p1, μ1⟩ := p1
      rw [hx1] at z
      refine ⟨ρ, m, B, μ, a, p1, μ1, hx1, ?_⟩
      cases p1 with
      | ok fl =>
        cases z
        cases fl <;> exact h
      | er e =>
        intro c dd H' m' t r rx
        obtain ⟨rc, rx⟩ := rx
        subst rc
        unfold catchM at z
        cases hl : tab.lookup e.cls with
        | none => simp only [hl] at z; cases z
        | some b =>
          refine ⟨b, hx _ _ hl, fun hb' ad had => ?_, fun hb' => ?_⟩
          · subst hb'
            simp only [hl] at z
            cases z
            have te : Tra m' H' m' (upd H' ad (ExK (.ref (He.ga X.K e.cls)) dd ad)) := .of_ext (Ext.new had)
            have nl := r.fresh_live had
            refine h _ _ m' (t.trans te) ⟨((a.env.mono t).mono te).caught ?_, r.ext (Ext.new had)⟩
            split at rx
            · subst rx
              rename_i ea
              rw [ea]
              exact .exc0 upd_same nl
            · rename_i d ea
              obtain ⟨p, v, rfl, k1, k2, k3⟩ := rx
              rw [ea]
              exact .exc1 upd_same nl (by rw [upd_ne (ne_of_none k1 had)]; exact k1) k2 (k3.mono te)
            · exact rx.elim
          · subst hb'
            simp only [hl] at z
            cases z
            exact h _ _ H' m' t r ⟨rfl, rx⟩
end
end G
set_option Elab.async false
set_option linter.all false
set_option maxRecDepth 100000
set_option maxHeartbeats 3200000
/-! GT1: sets of keys of one kind, made of a tuple; sorted of such a set of texts. -/
namespace G
open PySem PySem.Spec PyProof.Rows L2
section
variable {P : Program} {w : World} {κ : Type} [DecidableEq κ] (kd : PySem.KeyKind P w κ)
/-- the entries of a table spell these keys -/
inductive Spell : List (Int × Value) → List κ → Prop
  | nil : Spell [] []
  | cons {k : κ} {v : Value} {es : List (Int × Value)} {ks : List κ} (hi : kd.is k v = true) (hs : v.scannable = true) (r : Spell es ks) : Spell ((kd.hash k, v) :: es) (k :: ks)
abbrev Led (w : World) (t : SetTable) : Prop := Ris t.place.toList ∧ (w.params.followText "set-order" = true ∨ t.led = true)
/-- the set at a holds just these -/
def KSet (h : Heap) (a : Addr) (ks : List κ) : Prop :=
  ∃ o es ep t l, (h.get? a = some o ∧ o.ExactSet ∧ o.data = .set es ep t) ∧ Spell kd es.toList l ∧ l.Perm ks ∧ ks.Nodup ∧ es.size < scanBound ∧ t.fits es.size = true ∧ Led w t
end
section
variable {P : Program} {w : World} {κ : Type} [DecidableEq κ] {kd : PySem.KeyKind P w κ}
theorem Spell.elems {es : List (Int × Value)} {ks : List κ} (h : Spell kd es ks) : ElemsOf kd es := by
  induction h with
  | nil => exact fun e he => by cases he
  | cons hi hs _ ih =>
    intro e he
    rcases List.mem_cons.mp he with q | q
    · subst q; exact ⟨⟨_, hi, rfl⟩, hs⟩
    · exact ih e q
theorem Spell.len {es : List (Int × Value)} {ks : List κ} (h : Spell kd es ks) : es.length = ks.length := by
  induction h with
  | nil => rfl
  | cons _ _ _ ih => simp only [List.length_cons, ih]
theorem Spell.mem {es : List (Int × Value)} {ks : List κ} (h : Spell kd es ks) (k : κ) : k ∈ ks ↔ ∃ e ∈ es, kd.is k e.2 = true := by
  induction h with
  | nil => simp
  | cons hi hs _ ih =>
    rw [List.mem_cons, ih]
    constructor
    · rintro (q | ⟨e, he, q⟩)
      · subst q; exact ⟨_, List.mem_cons_self .., hi⟩
      · exact ⟨e, List.mem_cons_of_mem _ he, q⟩
    · rintro ⟨e, he, q⟩
      rcases List.mem_cons.mp he with z | z
      · subst z; exact .inl (kd.inj _ _ _ q hi)
      · exact .inr ⟨e, z, q⟩
theorem Spell.perm {es es' : List (Int × Value)} (p : es'.Perm es) : ∀ {ks : List κ}, Spell kd es ks → ∃ ks', Spell kd es' ks' ∧ ks'.Perm ks := by
  induction p with
  | nil => exact fun h => ⟨_, h, .refl _⟩
  | cons x _ ih =>
    intro ks h
    cases h with
    | cons hi hs r =>
      obtain ⟨ks', a, b⟩ := ih r
      exact ⟨_, .cons hi hs a, b.cons _⟩
  | swap x y l =>
    intro ks h
    cases h with
    | cons hi hs r =>
      cases r with
      | cons hi' hs' r => exact ⟨_, .cons hi' hs' (.cons hi hs r), .swap _ _ _⟩
  | trans _ _ ih1 ih2 =>
    intro ks h
    obtain ⟨k1, a, b⟩ := ih2 h
    obtain ⟨k2, c, d⟩ := ih1 a
    exact ⟨k2, c, d.trans b⟩
theorem Spell.vals {es : List (Int × Value)} {ks : List κ} (h : Spell kd es ks) : ∀ {vs : List Value}, vs.Perm (es.map (·.2)) → ∃ ks', ks'.Perm ks ∧ ∃ es', Spell kd es' ks' ∧ es'.map (·.2) = vs := by
  intro vs p
  have key : ∀ (l : List (Int × Value)) (vs : List Value), vs.Perm (l.map (·.2)) → ∃ l' : List (Int × Value), l'.Perm l ∧ l'.map (·.2) = vs := by
    intro l vs p
    generalize hm : l.map (·.2) = us at p
    induction p generalizing l with
    | nil =>
      cases l with
      | nil => exact ⟨[], .refl _, rfl⟩
      | cons _ _ => cases hm
    | cons x _ ih =>
      cases l with
      | nil => cases hm
      | cons e l =>
        injection hm with h1 h2
        obtain ⟨l', a, b⟩ := ih l h2
        exact ⟨e :: l', a.cons e, by rw [List.map_cons, b]; exact congrArg (· :: _) h1⟩
    | swap x y r =>
      cases l with
      | nil => cases hm
      | cons e l =>
        cases l with
        | nil => cases hm
        | cons e' l =>
          injection hm with h1 h2
          injection h2 with h2 h3
          exact ⟨e' :: e :: l, .swap _ _ _, by simp [h1, h2, h3]⟩
    | trans _ _ ih1 ih2 =>
      obtain ⟨l1, a, b⟩ := ih2 l hm
      obtain ⟨l2, c, d⟩ := ih1 l1 b
      exact ⟨l2, c.trans a, d⟩
  obtain ⟨l', a, b⟩ := key es vs p
  obtain ⟨ks', c, d⟩ := h.perm a
  exact ⟨ks', d, l', c, b⟩
theorem KSet.at {h h' : Heap} {a : Addr} {ks : List κ} (R : KSet kd h a ks) (k : ∀ o, h.get? a = some o → h'.get? a = some o) : KSet kd h' a ks := by
  obtain ⟨o, es, ep, t, l, ⟨ho, r1, r2⟩, r⟩ := R
  exact ⟨o, es, ep, t, l, ⟨k o ho, r1, r2⟩, r⟩
def addK (ks : List κ) (k : κ) : List κ := if k ∈ ks then ks else k :: ks
variable {A : Around} {E : Value → Shared → Prop} {s : Shared} {a : Addr} {ks : List κ}
theorem put_at {h : Heap} {o : Obj} {es es' : Array (Int × Value)} {ep : Nat} {t t' : SetTable} (ho : h.get? a = some o) (hd : o.data = .set es ep t) (hx : o.ExactSet) :
    ∃ o', (h.update a (Obj.putSet es' t')).get? a = some o' ∧ o'.ExactSet ∧ o'.data = .set es' (ep + 1) t' :=
  ⟨_, store_at (es' := es') (t' := t') ho hd, hx, rfl⟩
/-- the end of an addition: the entries are stored; where the table is too full, it is laid anew -/
theorem kset_tail {gw : Bool → Sem Unit} (hg : ∀ (b : Bool) (s₁ : Shared) (Q' : Unit → Shared → Prop), Q' () s₁ → wpAny (model P w) A (gw b) Q' E s₁)
    {o : Obj} {es es1 : Array (Int × Value)} {ep : Nat} {t t2 : SetTable} {l ks' : List κ} (ho : s.heap.get? a = some o) (hx : o.ExactSet) (hd : o.data = .set es ep t)
    (sp : Spell kd es1.toList l) (pm : l.Perm ks') (nd : ks'.Nodup) (hb : es1.size < scanBound) (hf : t2.fits es1.size = true) (hl : Led w t2) {dm : Bool} {R : Option Bool → Shared → Prop}
    (hR : ∀ h', Heap.SameBut a s.heap h' → KSet kd h' a ks' → R (some true) { s with heap := h' }) :
    wpAny (model P w) A (storeSet a es1 t2 >>= fun _ => if (!dm && t2.tooFull) = true then (gw (relayAll t2 es1 (SetTable.grown es1.size)).2.2 >>= fun _ =>
        storeSet a (relayAll t2 es1 (SetTable.grown es1.size)).1 (relayAll t2 es1 (SetTable.grown es1.size)).2.1 >>= fun _ => pure (some true)) else pure (some true)) R E s := by
  obtain ⟨o1, b1, b2, b3⟩ := put_at (a := a) (es' := es1) (t' := t2) ho hd hx
  have sb := Heap.SameBut.update s.heap a (Obj.putSet es1 t2)
  refine wpAny_bind (wpAny_storeSet_of ho hd ?_ (fits_of_scanBound hb))
  split
  · have q1 := relayAll_perm t2 es1 (SetTable.grown es1.size)
    have q2 := relayAll_fits t2 es1 (SetTable.grown es1.size)
    have q3 := relayAll_ris t2 es1 (SetTable.grown es1.size)
    have q4 := relayAll_led t2 es1 (SetTable.grown es1.size)
    generalize relayAll t2 es1 (SetTable.grown es1.size) = Z at q1 q2 q3 q4 ⊢
    have hz : Z.1.size < scanBound := by
      have := q1.length_eq
      rw [Array.length_toList, Array.length_toList] at this
      rw [this]; exact hb
    refine wpAny_bind (hg _ _ _ (wpAny_bind (wpAny_storeSet_of b1 b3 (wpAny_pure ?_) (fits_of_scanBound hz))))
    obtain ⟨o2, c1, c2, c3⟩ := put_at (a := a) (es' := Z.1) (t' := Z.2.1) b1 b3 b2
    obtain ⟨l2, d1, d2⟩ := sp.perm q1
    exact hR _ (sb.trans (Heap.SameBut.update _ a _)) ⟨o2, _, _, _, l2, ⟨c1, c2, c3⟩, d1, d2.trans pm, nd, hz, q2, q3, hl.2.imp id fun z => by rw [q4]; exact z⟩
  · exact wpAny_pure (hR _ sb ⟨o1, _, _, _, l, ⟨b1, b2, b3⟩, sp, pm, nd, hb, hf, hl⟩)
theorem kset_add {k : κ} {v : Value} (hk : kd.is k v = true) (hv : v.scannable = true) {Q : Bool → Shared → Prop} (R : KSet kd s.heap a ks) (room : ks.length + 1 < scanBound)
    (hQ : ∀ (b : Bool) h', Heap.SameBut a s.heap h' → KSet kd h' a (addK ks k) → Q b { s with heap := h' }) : wpAny (model P w) A (setAddHashed a v (kd.hash k)) Q E s := by
  obtain ⟨o, es, ep, t, l, ⟨ho, hx, hd⟩, sp, pm, nd, hb, hf, hr, hl⟩ := R
  have el := sp.elems
  unfold setAddHashed setAddHashedIn
  refine wpAny_holding (wpAny_bind (wpAny_setState_of ho hd hf ?_))
  dsimp only
  rw [byScan_of hv hb el]
  simp only [↓reduceIte]
  unfold setAddByScan
  refine wpAny_bind (wpAny_bind (wpAny_rule (wpAny_bind (wpAny_setScan_of hk ho hd hf el ?_))))
  have mem : k ∈ ks ↔ ∃ e ∈ es.toList, kd.is k e.2 = true := pm.mem_iff.symm.trans (sp.mem k)
  cases hfi : List.findIdx? (fun e => kd.is k e.2) es.toList with
  | some j =>
    obtain ⟨hj, pj, _⟩ := List.findIdx?_eq_some_iff_getElem.mp hfi
    have hin : k ∈ ks := mem.mpr ⟨_, List.getElem_mem hj, pj⟩
    have e : addK ks k = ks := if_pos hin
    refine wpAny_pure (wpAny_pure (hQ false s.heap (Heap.SameBut.refl a s.heap) ?_))
    rw [e]
    exact ⟨o, es, ep, t, l, ⟨ho, hx, hd⟩, sp, pm, nd, hb, hf, hr, hl⟩
  | none =>
    have hin : k ∉ ks := fun z => by
      obtain ⟨e, he, q⟩ := mem.mp z
      have c := List.findIdx?_eq_none_iff.mp hfi e he
      rw [q] at c; cases c
    have e : addK ks k = k :: ks := if_neg hin
    rw [e] at hQ
    have q1 := layNew_perm t es (kd.hash k) v
    have q2 := layNew_fits t es (kd.hash k) v
    have q3 := layNew_ris t es (kd.hash k) v hr
    have q4 := layNew_led t es (kd.hash k) v
    dsimp only
    generalize layNew t es (kd.hash k) v = Z at q1 q2 q3 q4 ⊢
    obtain ⟨es1, t1, dm, gv⟩ := Z
    dsimp only at q1 q2 q3 q4 ⊢
    rw [Array.toList_push] at q1
    obtain ⟨l1, d1, d2⟩ := (Spell.cons hk hv sp).perm (q1.trans (List.perm_append_singleton _ _))
    have nd1 : (k :: ks).Nodup := List.nodup_cons.mpr ⟨hin, nd⟩
    have hz : es1.size = ks.length + 1 := by
      rw [← Array.length_toList, d1.len, d2.length_eq, List.length_cons, pm.length_eq]
    have hb1 : es1.size < scanBound := by rw [hz]; exact room
    have hl1 : Led w t1 := ⟨q3, hl.imp id fun z => by rw [q4]; exact z⟩
    have gw : ∀ (b : Bool) (s₁ : Shared) (Q' : Unit → Shared → Prop), Q' () s₁ → wpAny (model P w) A (match b with | true => rule "set.scan.the-table-gave-way" | false => pure ()) Q' E s₁ := fun b s₁ Q' q => by
      cases b
      · exact wpAny_pure q
      · exact wpAny_rule q
    refine wpAny_bind (gw gv _ _ ?_)
    split
    · rw [hashByValue_scannable 8 hv]
      refine wpAny_bind (wpAny_pure ?_)
      refine kset_tail gw ho hx hd d1 (d2.trans (pm.cons k)) nd1 hb1 ?_ ?_ ?_
      · split <;> first | exact q2 | exact SetTable.fits_plain_off q2
      · split <;> exact hl1
      · intro h' sb r; exact wpAny_pure (hQ true h' sb r)
    · refine wpAny_bind (wpAny_pure ?_)
      simp only [↓reduceIte]
      exact kset_tail gw ho hx hd d1 (d2.trans (pm.cons k)) nd1 hb1 q2 hl1 fun h' sb r => wpAny_pure (hQ true h' sb r)
end
end G
set_option Elab.async false
set_option linter.all false
set_option maxRecDepth 100000
set_option maxHeartbeats 3200000
/-! GT2: set(tuple) of keys of one kind; sorted of a set of texts. -/
namespace G
open PySem PySem.Spec PyProof.Rows L2
section
variable {P : Program} {w : World} {κ : Type} [DecidableEq κ] {kd : PySem.KeyKind P w κ}
def addAll (ks ns : List κ) : List κ := ns.foldl addK ks
theorem addK_len (ks : List κ) (k : κ) : (addK ks k).length ≤ ks.length + 1 := by
  unfold addK
  split
  · exact Nat.le_succ _
  · exact Nat.le_refl _
theorem addAll_take (ns : List κ) (i : Nat) (k : κ) (h : ns[i]? = some k) : addAll [] (ns.take (i + 1)) = addK (addAll [] (ns.take i)) k := by
  unfold addAll
  rw [List.take_add_one, h, Option.toList, List.foldl_append]
  rfl
theorem addAll_len (ns : List κ) : ∀ ks : List κ, (addAll ks ns).length ≤ ks.length + ns.length := by
  induction ns with
  | nil => intro ks; exact Nat.le_refl _
  | cons k ns ih =>
    intro ks
    have h1 := ih (addK ks k)
    have h2 := addK_len ks k
    have h3 : addAll ks (k :: ns) = addAll (addK ks k) ns := rfl
    rw [h3, List.length_cons]
    omega
def freshSet (w : World) : Obj := { cls := .type "set", dict := none, data := .set #[] 0 (.fresh 0 0 (!w.params.followText "set-order")) }
theorem kset_fresh {h : Heap} {a : Addr} (ho : h.get? a = some (freshSet w)) : KSet kd h a [] :=
  ⟨_, #[], 0, _, [], ⟨ho, ⟨rfl, rfl, rfl⟩, rfl⟩, .nil, .refl _, .nil, by decide, rfl, .nil, by
    cases hq : w.params.followText "set-order" with
    | true => exact .inl rfl
    | false => exact .inr rfl⟩
variable {A : Around} {E : Value → Shared → Prop} {s : Shared}
/-- every key that the walk tells is put in -/
theorem kset_update {I : Addr} {fp wr : List Addr} {G : Array GenState → Array GenState → Prop} {n : Nat} {Pv : Nat → Value → Prop} {St : Nat → Shared → Prop} {R : Result → Shared → Prop}
    (W : WalksS P w A.in1 I fp wr G n Pv St) (S : Addr) (hSf : S ∉ fp) (ns : List κ) (hn : n = ns.length) (hb : ns.length + 1 < scanBound) (hval : ∀ i v, Pv i v → ∃ k, ns[i]? = some k ∧ kd.is k v = true ∧ v.scannable = true) :
    ∀ (d i : Nat) (s : Shared), n - i = d → i ≤ n → St i s → KSet kd s.heap S (addAll [] (ns.take i)) →
      (∀ s', Moved (S :: wr) G s s' → KSet kd s'.heap S (addAll [] ns) → R (.ok (.ret .none)) s') →
      codeAny (model P w) A (.builtin "set.update.loop" ⟨[.ref S, .ref I], []⟩) R s := by
  have far : S ∉ wr := fun z => hSf (W.sub _ z)
  have sub : ∀ b ∈ wr, b ∈ S :: wr := fun b z => List.mem_cons_of_mem _ z
  intro d
  induction d with
  | zero =>
    intro i s e1 e2 st ks hR
    obtain rfl : i = n := by omega
    rw [List.take_of_length_le (by omega)] at ks
    refine codeAny_builtin F.entry_set_update_loop ?_
    rw [Around.under_plainId F.plain_set_update_loop _]
    refine wpAny_bind (m := pyNext (.ref I)) (W.done s _ _ st fun s' hm => ?_)
    exact wpAny_pure (hR s' (hm.mono sub) (ks.at fun o e => hm.heap S o far e))
  | succ d ih =>
    intro i s e1 e2 st ks hR
    have lt : i < n := by omega
    refine codeAny_builtin F.entry_set_update_loop ?_
    rw [Around.under_plainId F.plain_set_update_loop _]
    refine wpAny_bind (m := pyNext (.ref I)) (W.item i s _ _ lt st fun v s' hP st' hm => ?_)
    obtain ⟨k, e, hk, hv⟩ := hval i v hP
    have ks' := ks.at (h' := s'.heap) fun o e => hm.heap S o far e
    have room : (addAll [] (ns.take i)).length + 1 < scanBound := by
      have h1 := addAll_len (ns.take i) []
      have h2 : (ns.take i).length ≤ i := List.length_take_le ..
      have h3 : ([] : List κ).length = 0 := rfl
      omega
    refine wpAny_bind (m := holding [v] (setAdd S v)) (wpAny_holding ?_)
    unfold setAdd
    refine wpAny_holding (wpAny_bind (kd.pyHash hk (kset_add (s := { s' with toks := s'.toks + 1 }) hk hv ks' room fun b h' sb r => ?_)))
    rw [← addAll_take ns i k e] at r
    refine wpAny_pure ⟨plainId_quiet F.plain_set_update_loop _, ih (i + 1) _ (by omega) lt (W.frame _ s' _ _ st' (Nat.le_succ _) fun b hb o e => ?_) r fun s'' hm'' r'' => ?_⟩
    · rw [sb.2 b fun z => hSf (z ▸ hb)]; exact e
    · refine hR s'' (Moved.trans W.gtrans ((hm.mono sub).then_heap (Nat.le_succ _) fun b o hb e => ?_) hm'') r''
      rw [sb.2 b fun z => hb (z ▸ List.mem_cons_self ..)]; exact e
end
section
variable {P : Program} {w : World} {κ : Type} [DecidableEq κ] {kd : PySem.KeyKind P w κ} {A : Around} {E : Value → Shared → Prop} {s : Shared}
/-- set(t) of a tuple -/
theorem call_set_tuple {l : Addr} {items : Array Value} (ns : List κ) {Q : Value → Shared → Prop} (hh : A.handled = none) (hl : s.heap.IsTuple l items) (hn : items.size = ns.length) (hb : ns.length + 1 < scanBound)
    (hval : ∀ (i : Nat) (v : Value), items[i]? = some v → ∃ k, ns[i]? = some k ∧ kd.is k v = true ∧ v.scannable = true)
    (h : ∀ (h' : Heap) (tk : Nat), KSet kd h' s.heap.objs.size (addAll [] ns) → (∀ b o, s.heap.get? b = some o → h'.get? b = some o) → Q (.ref s.heap.objs.size) { s with heap := h', toks := tk }) :
    wpAny (model P w) A (call (.type "set") [.ref l]) Q E s := by
  obtain ⟨c, tl, hmro⟩ := F.called_set.mro
  have hmade := F.called_set.made
  have hsub := F.called_set.sub
  refine wpAny_call (codeAny_of_tree ?_)
  show wpAny _ _ (callAny (.type "set") _) _ _ _
  refine wpAny_pure ⟨Code.quiet_builtin _ (by decide +kernel), codeAny_builtin F.entry_type_call ?_⟩
  rw [Around.under_plain (weight_type_call_type "set" [.ref l] []) rfl]
  have h1 := F.called_set.notType
  have h2 := F.called_set.canCreate
  have hct := F.typeCall_set_1 (.ref l)
  repeat (any_goals (first | assumption | wp_step))
  refine codeAny_mono (code_set_led1 (.ref l) (E := E) (Q₁ := fun obj s₁ => obj = .ref s.heap.objs.size ∧ s₁ = { s with heap := s.heap.push (freshSet w) }) ⟨rfl, rfl⟩) fun r s₁ hr => ?_
  cases r with
  | error e => exact hr
  | ok fl =>
    cases fl with
    | ret obj =>
      obtain ⟨rfl, rfl⟩ := hr
      have hS : (s.heap.push (freshSet w)).get? s.heap.objs.size = some (freshSet w) := Heap.get?_push_size _ rfl
      have hT : Shared.TypeIs { s with heap := s.heap.push (freshSet w) } (.ref s.heap.objs.size) "set" := ⟨_, hS, rfl⟩
      have hli := F.called_set.init.lookup
      have hbi := F.called_set.init.bind (.ref s.heap.objs.size)
      repeat (any_goals (first | assumption | wp_step))
      refine codeAny_mono (codeAny_call_builtin (R := wants (fun r s₂ => r = .none ∧ ∃ h' tk, s₂ = { s with heap := h', toks := tk } ∧ KSet kd h' s.heap.objs.size (addAll [] ns) ∧ ∀ b o, s.heap.get? b = some o → h'.get? b = some o) E)
        F.called_set.init.plain F.entry_set_init (check_set_init_1 hT ?_)) fun r₂ s₂ hr₂ => ?_
      · obtain ⟨⟨ocls, odict, odata, oslots⟩, hol, hcl, nl, hdl⟩ := hl
        simp only at hcl hdl
        subst hcl hdl
        have hol' : (s.heap.push (freshSet w)).get? l = some { cls := .type "tuple", dict := odict, data := .seq items nl, slots := oslots } := Heap.get?_push_of_some _ hol
        have hsls := F.sub_tuple_set
        have hslf := F.sub_tuple_frozenset
        have hne : (Value.type "tuple" == Value.type "dict") = false := by decide
        have hl1 : (s.heap.push (freshSet w)).IsTuple l items := ⟨_, hol', rfl, nl, rfl⟩
        unfold Builtin.«set.__init__» noKeywords Builtin.Frozenset.updateFrom
        generalize hPI : pyIter = PI
        wp_walk
        subst hPI
        refine wpAny_pyIter_tuple hl1 (wpAny_bind (wpAny_runValue ?_))
        have hlS : l < s.heap.objs.size := Heap.lt_size hol
        have hz1 : (s.heap.push (freshSet w)).objs.size = s.heap.objs.size + 1 := Heap.size_push ..
        have hI : l ≠ (s.heap.push (freshSet w)).objs.size := by rw [hz1]; exact Nat.ne_of_lt (Nat.lt_succ_of_lt hlS)
        have hSf : s.heap.objs.size ∉ [(s.heap.push (freshSet w)).objs.size, l] := by
          rw [hz1]
          simp only [List.mem_cons, List.not_mem_nil, or_false, not_or]
          exact ⟨Nat.ne_of_lt (Nat.lt_succ_self _), Nat.ne_of_gt hlS⟩
        refine kset_update (kd := kd) ((Walks.tuple (by simp [hh]) _ l hI items).toS) s.heap.objs.size hSf ns hn hb hval (items.size - 0) 0 _ rfl (Nat.zero_le _) ⟨⟨_, Heap.get?_push_size _ rfl, rfl, rfl⟩, (hl1.push _)⟩
          (kset_fresh (Heap.get?_push_of_some _ hS)) fun s' hm r => ?_
        obtain ⟨h', g2, d', tk', os'⟩ := s'
        obtain rfl : g2 = s.gens := hm.gens
        obtain rfl : d' = s.drawn := hm.drawn
        obtain rfl : os' = s.os := hm.os
        refine wpAny_pure (wpAny_pure ⟨rfl, h', tk', rfl, r, fun b o e => ?_⟩)
        have hb0 : b < s.heap.objs.size := Heap.lt_size e
        refine hm.heap b o ?_ (Heap.get?_push_of_some _ (Heap.get?_push_of_some _ e))
        simp only [List.mem_cons, List.not_mem_nil, or_false, not_or]
        rw [hz1]
        exact ⟨Nat.ne_of_lt hb0, Nat.ne_of_lt (Nat.lt_succ_of_lt hb0)⟩
      · cases r₂ with
        | error e => exact hr₂
        | ok fl₂ =>
          cases fl₂ with
          | ret r =>
            obtain ⟨rfl, h', tk, rfl, q1, q2⟩ := hr₂
            repeat (any_goals (first | assumption | wp_step))
            exact h _ _ q1 q2
          | _ => exact hr₂.elim
    | _ => exact hr.elim
theorem strs_spell {es : List (Int × Value)} {ks : List Str} (h : Spell (PySem.strKind P w) es ks) : StrsAre (es.map (·.2)) ks := by
  induction h with
  | nil => exact .nil
  | cons hi hs _ ih =>
    obtain ⟨t, rfl⟩ := Value.isStrOf_shape hi
    exact .cons _ _ ih
/-- sorted of a set of texts -/
theorem sorted_texts {a : Addr} {ks : List Str} {Q : Value → Shared → Prop} (R : KSet (PySem.strKind P w) s.heap a ks) (hh : A.handled = none) (h64 : ks.length < 64)
    (hQ : ∀ s' p (out : Array Value) (c : Nat) (ss : List Str), (∀ b o, s.heap.get? b = some o → s'.heap.get? b = some o) → s'.gens = s.gens → s'.os = s.os → s.heap.objs.size ≤ p →
      s'.heap.get? p = some (seqObj "list" out c) → StrsAre out.toList ss → ss.Perm ks → sortedS ss = true → Q (.ref p) s') :
    wpAny (model P w) A (call (.builtin "sorted") [.ref a]) Q E s := by
  obtain ⟨o, es, ep, t, l, ⟨ho, hx, hd⟩, sp, pm, nd, hb, hf, hr, hl⟩ := R
  refine Calls.call_function_entry kind_sorted plain_sorted entry_sorted (args_sorted1 _) ?_
  unfold Builtin.«sorted»
  refine wpAny_bind (m := checkCount "sorted" 1 1 _) (wpAny_pure ?_)
  refine wpAny_bind (collect_set (A := A.in1) hh ⟨o, ho, hx.1, hd⟩ hf hb hr hl fun s1 vs k1 hz g1 o1 pv => ?_)
  obtain ⟨l', p1, es', sp', rfl⟩ := sp.vals pv
  have hS := strs_spell sp'
  have hlen : (es'.map (·.2)).length = ks.length := by rw [List.length_map, sp'.len, p1.length_eq, pm.length_eq]
  refine wpAny_bind (wpAny_newList ?_ (by rw [hlen, sizeLine_eq]; omega))
  have hoL : (s1.heap.push (seqObj "list" (es'.map (·.2)).toArray 0)).get? s1.heap.objs.size = some (seqObj "list" (es'.map (·.2)).toArray 0) := Heap.get?_push_size _ rfl
  refine wpAny_bind (wpAny_holding (wpAny_call_entry slot_list_sort ⟨_, hoL, rfl⟩ entry_list_sort (list_sort_treeK strKind_oneLt hoL hS.keysOf (fun v₁ v₂ rest e => keyKind_strs (by rw [← e]; exact hS)) (by rw [hlen]; exact h64) fun st' a1 a2 => ⟨_, rfl, ?_⟩) (args_list_sort _)))
  obtain ⟨ss, b1, b2, b3⟩ := sorted_out_str hS a1 a2
  obtain ⟨c, hc⟩ := sortedHeap_at (vs := es'.map (·.2)) (out := (arrOf st').map (·.2)) hoL
  refine wpAny_pure ⟨_, rfl, hQ _ s1.heap.objs.size _ c ss (fun b u e => ?_) g1 o1 hz hc b1 (b2.trans (p1.trans pm)) b3⟩
  have q := k1 b u e
  have lt := Heap.lt_size q
  show (sortedHeap (s1.heap.push (seqObj "list" (es'.map (·.2)).toArray 0)) s1.heap.objs.size _ _).get? b = some u
  rw [sortedHeap_old (Nat.ne_of_lt lt) (by rw [size_push']; exact Nat.lt_succ_of_lt lt)]
  exact Heap.get?_push_of_some _ q
end
end G
set_option Elab.async false
set_option linter.all false
set_option maxRecDepth 100000
set_option maxHeartbeats 2000000
/-! GT3: sorted(set(t)), t a tuple of texts. -/
namespace G
open PySem PySem.Spec L2
section
variable {X : Cx} {E : XS}
theorem addAll_mem : ∀ (ns ks : List Str) (x : Str), x ∈ addAll ks ns → x ∉ ks → x ∈ ns
  | [], ks, x, h, n => absurd h n
  | k :: ns, ks, x, h, n => by
    by_cases e : x = k
    · rw [e]; exact List.mem_cons_self ..
    · refine List.mem_cons_of_mem _ (addAll_mem ns (addK ks k) x h fun z => ?_)
      unfold addK at z
      split at z
      · exact n z
      · rcases List.mem_cons.mp z with q | q
        · exact e q
        · exact n q
/-- a set of texts -/
def TSet (P : Program) (w : World) (a : Addr) (ks : List Str) : HO := .ext fun h => KSet (PySem.strKind P w) h a ks
theorem tset_new {P : Program} {w : World} {H : Hp} {h : Heap} {a : Addr} {ks : List Str} (R : KSet (PySem.strKind P w) h a ks) : ObjOk P w H h a (TSet P w a ks) := by
  have ⟨o, _, _, _, _, ho, _⟩ := R
  exact ⟨R, ⟨o, ho.1⟩, fun h1 h2 p k => KSet.at p k⟩
theorem tset_get {pins : List (Addr × Obj)} {σ : L2.St} {H : Hp} {s : Shared} {a : Addr} {ks : List Str} (I : Inv X pins σ H s) (ha : H a = some (TSet X.prog X.w a ks)) : KSet (PySem.strKind X.prog X.w) s.heap a ks := (I.hok a _ ha).1
def rSetT (X : Cx) : List V → Hp → VK → Prop := fun xs H Q => ∃ (a : Addr) (ss : List Str), xs = [.ref a] ∧ SqT X.K H a (ss.map V.str) ∧ ss.length < 1000 ∧ ∀ p, H p = none → Q (.ref p) (upd H p (TSet X.prog X.w p (addAll [] ss)))
theorem cr_setT (hc : X.calm = true) : CallR X (.type "set") (rSetT X) := by
  intro pins s σ H xs us Q I r h
  obtain ⟨a, ss, rfl, ha, hl, q⟩ := h
  rw [Vals.ref1 r]
  obtain ⟨its, rv, ht, _⟩ := I.tuple ha
  have hlen : its.length = ss.length := by rw [← rv.length, List.length_map]
  have hS := rv.strs
  refine call_set_tuple (kd := PySem.strKind X.prog X.w) ss (I.ok.hd hc) ht (by rw [List.size_toArray, hlen]) (by show ss.length + 1 < 4096; omega) (fun i v hv => ?_) fun h' tk R k => ?_
  · have hv' : its[i]? = some v := by simpa using hv
    have hi : i < ss.length := by rw [← hlen]; exact (List.getElem?_eq_some_iff.mp hv').1
    obtain ⟨u, hu, ru⟩ := rv.get (i := i) (x := .str ss[i]) (by rw [List.getElem?_map, List.getElem?_eq_getElem hi]; rfl)
    rw [hu] at hv'
    cases hv'
    obtain ⟨t, rfl⟩ := ru
    exact ⟨ss[i], List.getElem?_eq_getElem hi, by simp [PySem.strKind, Value.isStrOf], rfl⟩
  · exact ⟨.ref _, upd H s.heap.objs.size (TSet X.prog X.w s.heap.objs.size (addAll [] ss)), I.laid (t' := tk) k (Nat.le_refl _) (tset_new R), rfl, q _ (I.hok.fresh (Nat.le_refl _))⟩
def rSortedT (X : Cx) : List V → Hp → VK → Prop := fun vs H Q => ∃ (a : Addr) (ks : List Str), vs = [V.ref a] ∧ H a = some (TSet X.prog X.w a ks) ∧ ks.length < 64 ∧ ∀ (ss : List Str) (p : Addr), ss.Perm ks → PyProof.Rows.sortedS ss = true → H p = none → Q (.ref p) (upd H p (.lst (ss.map V.str)))
theorem cr_sortedT (hc : X.calm = true) : CallR X (.builtin "sorted") (rSortedT X) := by
  intro pins s σ H vs us Q I r h
  obtain ⟨a, ks, rfl, ha, h64, q⟩ := h
  rw [Vals.ref1 r]
  refine sorted_texts (tset_get I ha) (I.ok.hd hc) h64 fun s' p out c ss k g o hp hg hi pm hs => ?_
  obtain ⟨h1, g1, d1, t1, o1⟩ := s'
  obtain rfl : o1 = s.os := o
  obtain rfl : g1 = s.gens := g
  have hn : H p = none := I.hok.fresh hp
  have hl : (ss.map V.str).length ≤ sizeLine := by rw [List.length_map, pm.length_eq, sizeLine_eq]; omega
  exact ⟨.ref p, upd H p (.lst (ss.map V.str)), I.call (ch := []) (Un.laid k hp hn) (I.hok.laid k hp ⟨hl, out.toList, c, vals_of_strs hi, hg⟩) I.bare (fun _ z => nomatch z), rfl, q ss p pm hs hn⟩
theorem dedup_eq (ss : List Str) : dedupS ss = addAll [] ss := rfl
variable {e : Expr} {fe : Env → M Val} {p p' pos pos' : Pos}
theorem s_sset (hc : X.calm = true) (hg : Gl X "sorted") (hm : X.mg "sorted" = none) (hg' : Gl X "set") (hm' : X.mg "set" = none) (he : PE X e (LE X.K E fe)) (hs : starEach [e] X.env = [(false, eval e X.env)]) :
    PE X (.Call (.Name "sorted" p) [.Call (.Name "set" p') [e] [] pos'] [] pos) (LE X.K E fun ρ => M.bind (fe ρ) ssetM) := by
  have h1 := pe_callTy (p := p') (pos := pos') (cr_setT hc) hg' hm' PyProof.Rows.boot_set (pa_cons he pa_nil hs) (by decide) (by decide) hs
  refine (pe_callB (p := p) (pos := pos) (cr_sortedT hc) hg hm PyProof.Rows.boot_sorted (pa_cons h1 pa_nil)).imp fun σ H Q ⟨ρ, m, B, μ, a, h⟩ => ?_
  refine LE.bind a h fun v H1 m1 μ1 wv t1 a1 r1 h1 => ?_
  unfold ssetM at h1
  split at h1
  · rename_i ds
    obtain ⟨ss, hs, h2⟩ := h1.ofOpt
    obtain ⟨h64, h3⟩ := h2.when
    have h64 : ss.length < 64 := by simpa [Nat.blt_eq] using h64
    obtain ⟨b, xs, rfl, q1, q2, q3⟩ := r1.tup_inv
    obtain ⟨rfl, hx⟩ := strsOf_V q3 hs
    refine ⟨b, ss, rfl, q1, by omega, fun p hp => ?_⟩
    have hk : (addAll [] ss).length < 64 := by
      have := addAll_len ss []
      simp only [List.length_nil] at this
      omega
    refine ⟨p, _, rfl, upd_same, hk, fun ss' p' pm hs' hp' => ?_⟩
    have e1 : Ext H1 (upd H1 p (TSet X.prog X.w p (addAll [] ss))) := Ext.new hp
    have e2 := Ext.new (o := .lst (ss'.map V.str)) hp'
    have rel2 := a1.rel.ext e1
    rw [dedup_eq, ← sort_strs_eq pm hs'] at h3
    refine h3.ext a1.rel (e1.trans e2) (.dat (RD.newLst rel2 hp' (by rw [List.length_map, pm.length_eq]; exact Nat.le_trans (Nat.le_of_lt hk) (by decide : 64 ≤ LINE)) (rds_strs ss' fun x hx' => hx x ?_)))
    exact addAll_mem ss [] x (pm.mem_iff.mp hx') (by simp)
  · exact h1.fail.elim
end
end G
set_option Elab.async false
set_option linter.all false
set_option maxRecDepth 100000
set_option maxHeartbeats 2000000
/-! GT4: list + list as a list that changes; a list that nobody changes any more; [::-1]; f(k = v, ..). -/
namespace G
open PySem L2
section
variable {X : Cx} {E : XS} {pos : Pos} {e a b : Expr} {fe fa fb : Env → M Val}
theorem opS_cadd : OpS X E rCat caddM := by
  intro σ B m H μ x y wx wy Q rel rx ry h
  obtain ⟨l1, ds, c, xs, e1, q1, z1, r1, h⟩ := view_sat rel rx h
  obtain ⟨l2, es, d, ys, e2, q2, z2, r2, h⟩ := view_sat rel ry h
  obtain ⟨hl, h⟩ := h.when
  simp only [Bool.and_eq_true] at hl
  obtain ⟨⟨hl1, hl2⟩, hl⟩ := hl
  subst hl1 hl2
  have hl : xs.length + ys.length ≤ LINE := by rw [r1.length, r2.length]; exact Nat.le_of_ble_eq_true hl
  exact ⟨c, d, xs, ys, e1, e2, q1, q2, by rw [sizeLine_eq]; exact hl, fun p hp => newCell_sat rel hp (by rw [List.length_append]; exact hl) (r1.append r2) h⟩
theorem s_cadd (ha : PE X a (LE X.K E fa)) (hb : PE X b (LE X.K E fb)) : PE X (.BinOp a .Add b pos) (LE X.K E fun ρ => M.bind (fa ρ) fun x => M.bind (fb ρ) fun y => caddM x y) := s_op opS_cadd (pe_op op_cat ha hb)
theorem s_snap (he : PE X e (LE X.K E fe)) : PE X e (LE X.K E fun ρ => M.bind (fe ρ) snapM) :=
  he.imp fun σ H Q ⟨ρ, m, B, μ, a, h⟩ => LE.bind a h fun v H1 m1 μ1 w t1 a1 r1 h1 => by
    unfold snapM at h1
    split at h1
    · exact h1.pure a1.rel r1
    · rename_i n
      obtain ⟨o, μ', e, hq⟩ := h1
      unfold M.bind cellAt at e
      cases hc : μ1[n]? with
      | none => simp only [hc] at e; cases e
      | some c =>
        cases c with
        | dead => simp only [hc, M.fail] at e; cases e
        | lst ds =>
          simp only [hc, setCell] at e
          cases e
          obtain ⟨ad, xs, e1, e2, q1, q2, q3⟩ := r1.cellL_inv a1.rel hc
          subst e1
          have lt : n < m1.length := (List.getElem?_eq_some_iff.mp e2).1
          refine hq _ H1 (m1.set n none) (tra_kill n) (a1.rel.kill lt) (.dat (.lst q1 q2 ?_ (fun z => a1.rel.bnl ad z ⟨n, e2⟩) (q3.mono (tra_kill n))))
          rintro ⟨j, hj⟩
          by_cases ej : n = j
          · subst ej; rw [List.getElem?_set_self lt] at hj; cases hj
          · rw [List.getElem?_set_ne ej] at hj
            exact ej (a1.rel.inj n j ad e2 hj)
    · exact h1.fail.elim
theorem vals_perm {xs : List V} {us : List Value} (r : Vals xs us) : ∀ perm : List Nat, Vals (permL perm xs) (permL perm us)
  | [] => .nil
  | i :: p => by
    have ih := vals_perm r p
    unfold permL at ih ⊢
    rw [List.filterMap_cons, List.filterMap_cons]
    cases hx : xs[i]? with
    | none =>
      have hu : us[i]? = none := by
        rw [List.getElem?_eq_none_iff] at hx ⊢
        rw [← r.length]; exact hx
      rw [hu]; exact ih
    | some x =>
      obtain ⟨u, hu, ru⟩ := r.get hx
      rw [hu]
      exact .cons ru ih
theorem rvals_perm {K : PySem.W.Frag} {m : Mp} {B : List Addr} {H : Hp} {xs : List V} {ws : List Val} (r : RVals K m B H xs ws) : ∀ perm : List Nat, RVals K m B H (permL perm xs) (permL perm ws)
  | [] => .nil
  | i :: p => by
    have ih := rvals_perm r p
    unfold permL at ih ⊢
    rw [List.filterMap_cons, List.filterMap_cons]
    cases hx : ws[i]? with
    | none =>
      have hu : xs[i]? = none := by
        rw [List.getElem?_eq_none_iff] at hx ⊢
        rw [r.length]; exact hx
      rw [hu]; exact ih
    | some x =>
      obtain ⟨u, hu, ru⟩ := r.get hx
      rw [hu]
      exact .cons ru ih
theorem _root_.L2.PK.imp {X : Cx} {kws : List Keyword} {t t' : TA} (h : PK X kws t) (i : ∀ σ H Q, t' σ H Q → t σ H Q) : PK X kws t' := ⟨fun pos pins s σ H Q I q => h.run pos pins s σ H Q I (i σ H Q q)⟩
theorem s_knil : PK X [] (LA X.K E fun _ => M.pure []) := pk_nil.imp fun σ H Q ⟨ρ, m, B, μ, a, q⟩ => q.pure a.rel .nil
theorem s_kcons {e : Expr} {nm : Option Str} {kp : Pos} {kws : List Keyword} {f : Env → M Val} {g : Env → M (List Val)} (he : PE X e (LE X.K E f)) (hr : PK X kws (LA X.K E g)) : PK X (⟨nm, e, kp⟩ :: kws) (LA X.K E fun ρ => M.bind (f ρ) fun v => M.bind (g ρ) fun vs => M.pure (v :: vs)) :=
  (pk_cons he hr).imp fun σ H Q ⟨ρ, m, B, μ, a, h⟩ => LE.bind a h fun v H1 m1 μ1 w t1 a1 r1 h1 => LA.bind a1 h1 fun vs H2 m2 μ2 ws t2 a2 r2 h2 => h2.pure a2.rel (.cons (r1.mono t2) r2)
/-- a call by keywords alone binds so -/
def KwB (fd : FuncData) (ps ks : List Str) (perm : List Nat) : Prop := ∀ (s : Shared) (us : List Value), us.length = ks.length → BindsTo s fd ⟨[], ks.zip us⟩ (ps.zip (permL perm us))
theorem kw_names {pos : Pos} {env : PySem.Env} : ∀ {kws : List Keyword} {ks : List Str}, kws.map (·.arg) = ks.map some →
    (backToKw pos (keywordEach kws env)).all (·.1.isSome) = true ∧ (backToKw pos (keywordEach kws env)).filterMap (·.1) = ks ∧ (backToKw pos (keywordEach kws env)).any (·.1.isNone) = false
  | [], [], _ => ⟨rfl, rfl, rfl⟩
  | [], _ :: _, h => by cases h
  | _ :: _, [], h => by cases h
  | ⟨n, e, p⟩ :: kws, k :: ks, h => by
    rw [List.map_cons, List.map_cons] at h
    injection h with h1 h2
    have h1 : n = some k := h1
    subst h1
    obtain ⟨a, b, c⟩ := kw_names (pos := pos) (env := env) h2
    refine ⟨?_, ?_, ?_⟩
    · show (true && _) = true
      rw [Bool.true_and]; exact a
    · show k :: _ = _
      exact congrArg (k :: ·) b
    · show (false || _) = false
      rw [Bool.false_or]; exact c
variable {x : Str} {p : Pos} {CX : CXT} {k n : Nat} {ad : Addr} {fd : FuncData} {ps ks : List Str} {perm : List Nat} {g : List Val → M Val} {f : Env → M (List Val)} {kws : List Keyword}
theorem s_callk (F : FnOk X.prog X.w X.K X.mg X.base CX k ad fd ps (spF X.K n g)) (hn : ∀ ws μ r, g ws μ = some r → ws.length = n) (hr : Room k X.A) (hg : Gl X x) (hm : X.mg x = some (.ref ad)) (hk : PySem.W.keepIn X.K (.ref ad) = true) (hb : KwB fd ps ks perm) (hx : ∀ σ, PassesAt CX X σ (E σ))
    (hkw : PK X kws (LA X.K E f)) (hks : kws.map (·.arg) = ks.map some) (hdb : (x == ("__debug__" : Str)) = false) : PE X (.Call (.Name x p) [] kws pos) (LE X.K E fun ρ => M.bind (f ρ) fun vs => M.when (Nat.beq vs.length ks.length) (g (permL perm vs))) := by
  obtain ⟨n1, n2, n3⟩ := kw_names (pos := pos) (env := X.env) hks
  have key : PE X (.Call (.Name x p) [] kws pos) (fun σ H Q => LA X.K E f σ H fun zs H2 => zs.length = ks.length ∧ spF X.K n g (permL perm zs) H2 Q (E σ)) := by
    refine ⟨fun pins s σ H Q I h => wpAny_Call_Name_kw (ld_glob I hg hm ?_ hdb)⟩
    refine PySem.W.callWith_KW0 (h₀ := X.base) I.ok.mod.kin hk n1 (thn (hkw.run pos pins s σ H _ I h) fun ws s2 ⟨zs, H2, I2, rz, hl, q2⟩ => ⟨I2.kIn, ?_⟩) (by rw [n3]; rfl)
    rw [n2]
    refine wpAny_call (codeAny_mono (F.run X.A X.stack s2 H2 ⟨[], ks.zip ws⟩ (permL perm ws) (permL perm zs) Q (E σ) hr I2.env0 (hb s2 ws (by rw [← rz.length]; exact hl)) (vals_perm rz perm) q2) fun r s' hq => ?_)
    cases r with
    | error e => exact hx σ pins H2 s2 e s' I2 hq
    | ok fl =>
      cases fl with
      | ret u => exact I2.after hq
      | _ => exact hq.elim
  refine key.imp fun σ H Q ⟨ρ, m, B, μ, a, h⟩ => LA.bind a h fun vs H1 m1 μ1 ws t1 a1 r1 h1 => ?_
  obtain ⟨hl, h2⟩ := h1.when
  have hl : ws.length = ks.length := Nat.eq_of_beq_eq_true hl
  obtain ⟨o, μ', e, h3⟩ := h2
  exact ⟨r1.length.trans hl, m1, B, μ1, _, a1.rel, rvals_perm r1 perm, hn _ _ _ e, o, μ', e, h3⟩
/-- t[::-1] of a tuple or a list -/
def tRevA (K : PySem.W.Frag) (te : TE) : TE := fun σ H Q => te σ H fun x H1 => ∃ a xs, x = .ref a ∧ ((SqL K H1 a xs ∧ ∀ p, H1 p = none → Q (.ref p) (upd H1 p (.lst xs.reverse))) ∨ (SqT K H1 a xs ∧ 2 ≤ xs.length ∧ ∀ p, H1 p = none → Q (.ref p) (upd H1 p (.tup xs.reverse))))
end
end G
set_option Elab.async false
set_option linter.all false
set_option maxRecDepth 100000
set_option maxHeartbeats 2000000
/-! G13: the checker of expressions, and that it is right. -/
namespace G
open PySem L2
mutual
def D.same : D → D → Bool
  | .non, .non => true
  | .bl a, .bl b => a == b
  | .int a, .int b => a == b
  | .str a, .str b => a == b
  | .tup a, .tup b => D.sames a b
  | .lst a, .lst b => D.sames a b
  | .frz a, .frz b => D.sames a b
  | _, _ => false
def D.sames : List D → List D → Bool
  | [], [] => true
  | a :: r, b :: s => D.same a b && D.sames r s
  | _, _ => false
end
mutual
theorem D.same_eq : ∀ a b : D, D.same a b = true → a = b
  | .non, b, h => by cases b <;> simp [D.same] at h <;> rfl
  | .bl a, b, h => by cases b <;> simp [D.same] at h; rw [h]
  | .int a, b, h => by cases b <;> simp [D.same] at h; rw [h]
  | .str a, b, h => by cases b <;> simp [D.same] at h; rw [h]
  | .tup a, b, h => by
    cases b with
    | tup b => rw [D.sames_eq a b (by simpa [D.same] using h)]
    | _ => simp [D.same] at h
  | .lst a, b, h => by
    cases b with
    | lst b => rw [D.sames_eq a b (by simpa [D.same] using h)]
    | _ => simp [D.same] at h
  | .frz a, b, h => by
    cases b with
    | frz b => rw [D.sames_eq a b (by simpa [D.same] using h)]
    | _ => simp [D.same] at h
theorem D.sames_eq : ∀ a b : List D, D.sames a b = true → a = b
  | [], b, h => by cases b <;> simp [D.sames] at h <;> rfl
  | x :: a, b, h => by
    cases b with
    | nil => simp [D.sames] at h
    | cons y b =>
      simp only [D.sames, Bool.and_eq_true] at h
      rw [D.same_eq x y h.1, D.sames_eq a b h.2]
end
/-- what is known of a block before it runs -/
structure Sta where
  N : List Str
  sc : Scope
  wr : Str → Bool
/-- what is known of the module: built-in names that are free, constants, defs with their arity -/
structure Ctx where
  free : List Str
  cst : List (Str × D)
  fns : List (Str × Nat)
  kws : List (Str × List Str × List Nat)
  exs : List (List Str × List (Str × Bool))
  mks : List (Str × Str)
  fds : List (Str × List Str)
def visB (S : Sta) (x : Str) : Bool := match S.sc.names.lookup x with
  | some .local => true
  | some .cell => true
  | some .free => true
  | _ => false
def glB (S : Sta) (x : Str) : Bool := (match S.sc.names.lookup x with
  | some .globalImplicit => true
  | _ => false) && !(x == ("__debug__" : Str))
/-- global names -/
def nmsB (S : Sta) : List Expr → List Str → Bool
  | [], [] => true
  | .Name x _ :: es, y :: ns => x == y && glB S x && nmsB S es ns
  | _, _ => false
def tstB (S : Sta) : Expr → List Str → Bool
  | .Name x _, [y] => x == y && glB S x
  | .Tuple es _ _, ns => nmsB S es ns
  | _, _ => false
def bltName : Blt → Str
  | .len => "len" | .abs => "abs" | .int => "int" | .str => "str" | .tuple => "tuple" | .list => "list" | .clist => "list" | .all => "all" | .any => "any" | .sum => "sum" | .sorted => "sorted"
def mthName : Mth → Str
  | .append => "append" | .pop => "pop" | .popAt => "pop"
def mthMany : Mth → Nat
  | .append => 1 | .pop => 0 | .popAt => 1
mutual
def chkT (S : Sta) : Tg → Expr → Bool
  | .nm i, .Name x _ => decide (S.N[i]? = some x) && (match S.sc.names.lookup x with
    | some .local => true
    | some .cell => S.wr x
    | _ => false)
  | .tp ts, .Tuple es _ _ => chkTs S ts es
  | _, _ => false
def chkTs (S : Sta) : Tg → List Expr → Bool
  | .nil, [] => true
  | .cons t ts, e :: es => chkT S t e && chkTs S ts es
  | _, _ => false
end
def ownPairs (N : List Str) (own : List Nat) : List (Str × Nat) := own.map fun i => (N.getD i Str.empty, i)
def blkSta (S : Sta) (scope : Scope) : Sta := ⟨S.N, relS scope S.sc, fun x => scope.names.lookup x == some .cell⟩
section
variable (Γ : Ctx)
def freeB (S : Sta) (x : Str) : Bool := glB S x && Γ.free.contains x
mutual
def chkE (S : Sta) : Ex → Expr → Bool
  | .var i, .Name x _ => decide (S.N[i]? = some x) && visB S x && !(x == ("__debug__" : Str)) && !(x == ("__classdict__" : Str))
  | .cst (.int i), .Constant (.int j) _ _ => i == j
  | .cst (.bl i), .Constant (.bool j) _ _ => i == j
  | .cst .non, .Constant .none _ _ => true
  | .cst (.str x), .Constant (.str y) _ _ => x == y && PyData.strOk x && Nat.ble x.length LINE
  | .glo x d, .Name y _ => x == y && glB S x && (match Γ.cst.lookup x with
    | some d' => D.same d d'
    | none => false)
  | .tup es, .Tuple xs _ _ => chkL S es xs
  | .lst es, .List xs _ => chkL S es xs
  | .clst es, .List xs _ => chkL S es xs
  | .bin o a b, .BinOp l op r _ => decide (op = opOf o) && chkE S a l && chkE S b r
  | .inv a, .UnaryOp .Invert x _ => chkE S a x
  | .neg a, .UnaryOp .USub x _ => chkE S a x
  | .cmp o a b, .Compare l [op] [r] _ => decide (op = cmpOf o) && chkE S a l && chkE S b r
  | .chn o o' a b c, .Compare l [op, op'] [r, r'] _ => decide (op = cmpOf o) && decide (op' = cmpOf o') && chkE S a l && chkE S b r && chkE S c r'
  | .and a b, .BoolOp .And [x, y] _ => chkE S a x && chkE S b y
  | .and a b, .BoolOp .And (x :: y :: z :: r) p => chkE S a x && chkE S b (.BoolOp .And (y :: z :: r) p)
  | .or a b, .BoolOp .Or [x, y] _ => chkE S a x && chkE S b y
  | .or a b, .BoolOp .Or (x :: y :: z :: r) p => chkE S a x && chkE S b (.BoolOp .Or (y :: z :: r) p)
  | .not a, .UnaryOp .Not x _ => chkE S a x
  | .ite c a b, .IfExp t x y _ => chkE S c t && chkE S a x && chkE S b y
  | .idx a i, .Subscript x y _ => chkE S a x && chkE S i y
  | .slc a lo hi, .Subscript x (.Slice l h none _) _ => chkE S a x && chkL S lo l.toList && chkL S hi h.toList
  | .call f es, .Call (.Name x _) args [] _ => x == f && glB S x && (Γ.fns.lookup f).isSome && chkL S es args
  | .blt b es, .Call (.Name x _) [y] [] _ => x == bltName b && freeB Γ S x && chkL S es [y]
  | .mth m (.var i) es, .Call (.Attribute (.Name x p) name ap) args [] cp => name == mthName m && ap.endLine == cp.line && args.length == mthMany m && chkE S (.var i) (.Name x p) && chkL S es args
  | .isi a [t], .Call (.Name f _) [x, .Name y _] [] _ => f == ("isinstance" : Str) && freeB Γ S f && y == (tyName t : Str) && freeB Γ S y && chkE S a x
  | .isi a [t, u], .Call (.Name f _) [x, .Tuple [.Name y _, .Name z _] _ _] [] _ => f == ("isinstance" : Str) && freeB Γ S f && y == (tyName t : Str) && freeB Γ S y && z == (tyName u : Str) && freeB Γ S z && chkE S a x
  | .comp elt tg src cond own, .ListComp e [⟨t, it, ifs, 0⟩] scope _ => chkI S src t it && chkT (blkSta S scope) tg t && chkE (blkSta S scope) elt e && tgIn own tg && blkC S.N S.sc scope (ownPairs S.N own) &&
      (match ifs with
      | [] => (match cond with
        | .cst (.bl true) => true
        | _ => false)
      | [c] => chkE (blkSta S scope) cond c
      | _ => false)
  | .sset a, .Call (.Name f _) [.Call (.Name g _) [x] [] _] [] _ => f == ("sorted" : Str) && freeB Γ S f && g == ("set" : Str) && freeB Γ S g && chkE S a x
  | .callk f ks perm es, .Call (.Name x _) [] kws _ => x == f && glB S x && (Γ.fns.lookup f).isSome && Γ.kws.contains (f, ks, perm) && decide (kws.map (·.arg) = ks.map some) && chkL S es (kws.map (·.value))
  | .cadd a b, .BinOp l op r _ => decide (op = .Add) && chkE S a l && chkE S b r
  | .snap a, .Name x p => chkE S a (.Name x p)
  | .isx a ns tab, .Call (.Name f _) [x, t] [] _ => f == ("isinstance" : Str) && freeB Γ S f && tstB S t ns && Γ.exs.contains (ns, tab) && chkE S a x
  | .fld a f cs, .Attribute (.Name x p) g _ => g == f && Γ.fds.contains (f, cs) && chkE S a (.Name x p)
  | _, _ => false
def chkL (S : Sta) : Ex → List Expr → Bool
  | .nil, [] => true
  | .cons e es, x :: xs => chkE S e x && chkL S es xs
  | _, _ => false
def chkI (S : Sta) : Ex → Expr → Expr → Bool
  | .sSeq e, _, x => chkE S e x
  | .sRng e, _, .Call (.Name f _) [x] [] _ => f == ("range" : Str) && freeB Γ S f && chkE S e x
  | .sEnum e, .Tuple _ _ _, .Call (.Name f _) [x] [] _ => f == ("enumerate" : Str) && freeB Γ S f && chkE S e x
  | .sZip a b, .Tuple _ _ _, .Call (.Name f _) [x, y] [] _ => f == ("zip" : Str) && freeB Γ S f && chkE S a x && chkE S b y
  | _, _, _ => false
end
end
end G
set_option Elab.async false
set_option linter.all false
set_option maxRecDepth 100000
set_option maxHeartbeats 4000000
/-! G14: the checker of expressions is right. -/
namespace G
open PySem L2
section
variable {Γ : Ctx} {S : Sta}
theorem chk_star {e : Ex} {x : Expr} {p : Pos} : chkE Γ S e (.Starred x p) = false := by
  cases e with
  | cst d => cases d <;> simp [chkE]
  | _ => simp [chkE]
theorem chk_set {e : Ex} {xs : List Expr} {k : Nat} {p : Pos} : chkE Γ S e (.Set xs k p) = false := by
  cases e with
  | cst d => cases d <;> simp [chkE]
  | _ => simp [chkE]
theorem chk_slice {e : Ex} {l h s : Option Expr} {p : Pos} : chkE Γ S e (.Slice l h s p) = false := by
  cases e with
  | cst d => cases d <;> simp [chkE]
  | _ => simp [chkE]
theorem plain_star {e : Ex} {x : Expr} (h : chkE Γ S e x = true) (es : List Expr) (env : PySem.Env) : starEach (x :: es) env = (false, eval x env) :: starEach es env := by
  cases x with
  | Starred y p => rw [chk_star] at h; cases h
  | _ => rfl
theorem plain_marks {e : Ex} {x : Expr} (h : chkE Γ S e x = true) (op : CmpOp) : behindInMarks op x = false := by
  cases x with
  | Set a b c => rw [chk_set] at h; cases h
  | _ => rfl
theorem plain_ix {e : Ex} {x : Expr} (h : chkE Γ S e x = true) : PlainIx x := by
  cases x with
  | Slice a b c d => rw [chk_slice] at h; cases h
  | _ => intro o i; rfl
theorem plain_iter {e : Ex} {x : Expr} (h : chkE Γ S e x = true) (env : PySem.Env) (y : Value) : foldedSetIterable x env y = pure y := by
  cases x with
  | Set a b c => rw [chk_set] at h; cases h
  | _ => rfl
def specB : Expr → Bool
  | .UnaryOp .Not _ _ => true
  | .BoolOp .. => true
  | .IfExp .. => true
  | .Compare .. => true
  | _ => false
theorem plain_true {x : Expr} (h : specB x = false) (env : PySem.Env) (whole : Sem Value) : isTrue x env whole = (do let v ← whole; standAt x.pos; holding [v] (truthy v)) := by
  cases x with
  | UnaryOp op y p => cases op <;> first | rfl | cases h
  | BoolOp a b c => cases h
  | IfExp a b c d => cases h
  | Compare a b c d => cases h
  | _ => rfl
theorem visB_ok {x : Str} (h : visB S x = true) : Vis S.sc x := by
  unfold visB at h
  split at h
  · exact .inl (by assumption)
  · exact .inr (.inl (by assumption))
  · exact .inr (.inr (by assumption))
  · cases h
theorem glB_ok {x : Str} (h : glB S x = true) : S.sc.names.lookup x = some .globalImplicit ∧ (x == ("__debug__" : Str)) = false := by
  unfold glB at h
  simp only [Bool.and_eq_true] at h
  refine ⟨?_, by simpa using h.2⟩
  have h1 := h.1
  split at h1
  · assumption
  · cases h1
end
/-- what a name of the module stands for -/
def Res (mg : Str → Option Value) (y : Str) (u : Value) : Prop := mg y = some u ∨ (mg y = none ∧ bootBuiltins y = some u ∧ y ≠ "__name__")
def ResL (mg : Str → Option Value) : List Str → List Value → Prop
  | [], [] => True
  | y :: ys, u :: us => Res mg y u ∧ ResL mg ys us
  | _, _ => False
/-- a block that runs, as it was foreseen -/
structure GE (CX : CXT) (Γ : Ctx) (φ : Str → List Val → M Val) (k : Nat) (S : Sta) (E : XS) (X : Cx) : Prop where
  scope : X.env.scope = S.sc
  nN : X.N = S.N
  nd : S.N.Nodup
  fn : X.fn = S.wr
  calm : X.calm = true
  room : Room (k + 2) X.A
  cx : CX = L2.CX X.prog X.w
  tak : Takes X fun cls d σ H => E σ cls d H
  pas : ∀ σ, PassesAt CX X σ (E σ)
  pas0 : ∀ Y : Cx, Y.prog = X.prog → Y.w = X.w → ∀ σ, PassesAt CX Y σ E0
  free : ∀ x, Γ.free.contains x = true → X.mg x = none
  cst : ∀ x d, Γ.cst.lookup x = some d → ∃ v u, X.mg x = some u ∧ RelV v u ∧ ∀ m B H, RD X.K m B H v d
  fns : ∀ f n, Γ.fns.lookup f = some n → ∃ ad fd ps, X.mg f = some (.ref ad) ∧ PySem.W.keepIn X.K (.ref ad) = true ∧ Binds X.K fd ps [] ∧ FnOk X.prog X.w X.K X.mg X.base CX (k + 2) ad fd ps (spF X.K n (φ f)) ∧ (∀ ws μ r, φ f ws μ = some r → ws.length = n) ∧ ∀ ks perm, Γ.kws.contains (f, ks, perm) = true → KwB fd ps ks perm
  exs : ∀ ns tab, Γ.exs.contains (ns, tab) = true → ∃ us, ResL X.mg ns us ∧ us.all isClsV = true ∧ us.length ≤ LINE ∧ TabI X.K tab us ∧ TabX X.K tab us
  mks : ∀ c f, Γ.mks.contains (c, f) = true → (∃ B newId i bmB, XIn X.K X.prog (He.ga X.K c) f B newId i bmB) ∧ X.mg c = some (.ref (He.ga X.K c)) ∧ PySem.W.keepIn X.K (.ref (He.ga X.K c)) = true
  fds : ∀ f cs, Γ.fds.contains (f, cs) = true → FldOk X.K f cs
section
variable {CX : CXT} {Γ : Ctx} {φ : Str → List Val → M Val} {k : Nat} {S : Sta} {E : XS} {X : Cx}
theorem GE.gl (g : GE CX Γ φ k S E X) {x : Str} (h : glB S x = true) : Gl X x := by
  show X.env.scope.names.lookup x = _
  rw [g.scope]
  exact (glB_ok h).1
theorem GE.frB (g : GE CX Γ φ k S E X) {x : Str} (h : freeB Γ S x = true) : Gl X x ∧ X.mg x = none ∧ (x == ("__debug__" : Str)) = false := by
  unfold freeB at h
  simp only [Bool.and_eq_true] at h
  exact ⟨g.gl h.1, g.free x h.2, (glB_ok h.1).2⟩
theorem GE.un (g : GE CX Γ φ k S E X) : X.A.units + 200 < cLine := by have := g.room.un; omega
/-- the block of a comprehension -/
theorem GE.blk (g : GE CX Γ φ k S E X) (scope : Scope) (s : Shared) (H : Hp) (C : Addr) (cl : List (Str × Addr)) (fp : List Addr) : GE CX Γ φ k (blkSta S scope) E0s (X.blk s H scope (compEnvC scope cl C X.env) fp) where
  scope := by
    show relS scope X.env.scope = relS scope S.sc
    rw [g.scope]
  nN := g.nN
  nd := g.nd
  fn := rfl
  calm := g.calm
  room := g.room
  cx := g.cx
  tak := fun u s' ⟨_, _, _, _, _, _, _, _, _, _, _, _, _, _, _, _, z⟩ => z.elim
  pas := g.pas0 _ rfl rfl
  pas0 := g.pas0
  free := g.free
  cst := g.cst
  fns := g.fns
  exs := g.exs
  mks := g.mks
  fds := g.fds
theorem GE.names (g : GE CX Γ φ k S E X) : ∀ (es : List Expr) (ns : List Str) (us : List Value), nmsB S es ns = true → ResL X.mg ns us → NamesL X es us
  | [], [], [], _, _ => True.intro
  | [], [], _ :: _, _, h => h.elim
  | [], _ :: _, _, h, _ => by simp [nmsB] at h
  | e :: es, [], _, h, _ => by cases e <;> simp [nmsB] at h
  | e :: es, n :: ns, [], _, h => h.elim
  | e :: es, n :: ns, u :: us, h, r => by
    cases e with
    | Name x p =>
      simp only [nmsB, Bool.and_eq_true, beq_iff_eq] at h
      obtain ⟨⟨h1, h2⟩, h3⟩ := h
      subst h1
      exact ⟨⟨g.gl h2, (glB_ok h2).2, r.1⟩, GE.names g es ns us h3 r.2⟩
    | _ => simp [nmsB] at h
theorem GE.test (g : GE CX Γ φ k S E X) {t : Expr} {ns : List Str} {us : List Value} (h : tstB S t ns = true) (r : ResL X.mg ns us) (hl : us.length ≤ LINE) : TestOf X t us := by
  cases t with
  | Name x p =>
    match ns, us, h, r with
    | [y], [u], h, r =>
      simp only [tstB, Bool.and_eq_true, beq_iff_eq] at h
      obtain ⟨h1, h2⟩ := h
      subst h1
      exact ⟨g.gl h2, (glB_ok h2).2, r.1⟩
    | [y], [], h, r => exact r.elim
    | [y], _ :: _ :: _, h, r => exact r.2.elim
    | [], us, h, r => simp [tstB] at h
    | _ :: _ :: _, us, h, r => simp [tstB] at h
  | Tuple es k p => exact ⟨g.names es ns us (by simpa [tstB] using h) r, by rw [sizeLine_eq]; exact hl⟩
  | _ => simp [tstB] at h
end
section
variable (CX : CXT) (Γ : Ctx) (φ : Str → List Val → M Val) (k : Nat)
structure SndE (e : Ex) : Prop where
  pe : ∀ S E X x, chkE Γ S e x = true → GE CX Γ φ k S E X → PE X x (LE X.K E (ev φ e))
  pt : ∀ S E X x, chkE Γ S e x = true → GE CX Γ φ k S E X → PT X x (LT X.K E fun ρ => M.bind (ev φ e ρ) truth)
  pw : ∀ S E X op vs pos, chkE Γ S e (.BoolOp op vs pos) = true → GE CX Γ φ k S E X → PW X (.BoolOp op vs pos) (LT X.K E fun ρ => M.bind (ev φ e ρ) truth)
structure SndL (e : Ex) : Prop where
  pa : ∀ S E X xs, chkL Γ S e xs = true → GE CX Γ φ k S E X → PA X xs (LA X.K E (evL φ e))
  star : ∀ S xs env, chkL Γ S e xs = true → (starEach xs env).any (·.1) = false
  pk : ∀ S E X kws, chkL Γ S e (kws.map (·.value)) = true → GE CX Γ φ k S E X → PK X kws (LA X.K E (evL φ e))
structure SndI (e : Ex) : Prop where
  pi : ∀ S E X tg x, chkI Γ S e tg x = true → GE CX Γ φ k S E X → PI X tg x (LI X.K E (evL φ e))
  fold : ∀ S tg x env y, chkI Γ S e tg x = true → foldedSetIterable x env y = pure y
end
section
variable {CX : CXT} {Γ : Ctx} {φ : Str → List Val → M Val} {k : Nat}
/-- an expression whose test is its truth -/
theorem SndE.plain {e : Ex} (pe : ∀ S E X x, chkE Γ S e x = true → GE CX Γ φ k S E X → PE X x (LE X.K E (ev φ e))) (hs : ∀ S x, chkE Γ S e x = true → specB x = false) : SndE CX Γ φ k e :=
  ⟨pe, fun S E X x h g => t_plain (pe S E X x h g) (plain_true (hs S x h) X.env), fun S E X op vs pos h g => by
    have := hs S _ h
    cases this⟩
theorem snd_var (i : Nat) : SndE CX Γ φ k (.var i) := by
  refine .plain (fun S E X x h g => ?_) (fun S x h => ?_)
  · cases x with
    | Name y p =>
      simp only [chkE, Bool.and_eq_true, decide_eq_true_eq] at h
      obtain ⟨⟨⟨h1, h2⟩, h3⟩, h4⟩ := h
      have e : ev φ (.var i) = fun ρ => look ρ i := by funext ρ; simp only [ev]
      rw [e]
      exact s_var (by rw [g.nN]; exact h1) (by rw [g.scope]; exact visB_ok h2) (by simpa using h3) (by simpa using h4)
    | _ => simp [chkE] at h
  · cases x with
    | Name y p => rfl
    | _ => simp [chkE] at h
theorem snd_cst (d : D) : SndE CX Γ φ k (.cst d) := by
  have e : ev φ (.cst d) = fun _ => M.dat d := by funext ρ; simp only [ev]
  refine .plain (fun S E X x h g => ?_) (fun S x h => ?_)
  · rw [e]
    cases x with
    | Constant c j p =>
      cases d with
      | int i => cases c <;> simp [chkE] at h; rw [h]; exact s_int
      | bl i => cases c <;> simp [chkE] at h; rw [h]; exact s_bl
      | non => cases c <;> simp [chkE] at h; exact s_non
      | str y =>
        cases c with
        | str z =>
          simp only [chkE, Bool.and_eq_true, beq_iff_eq] at h
          obtain ⟨⟨h1, h2⟩, h3⟩ := h
          subst h1
          exact s_str h2 (Nat.le_of_ble_eq_true h3)
        | _ => simp [chkE] at h
      | _ => simp [chkE] at h
    | _ => cases d <;> simp [chkE] at h
  · cases x with
    | Constant c j p => rfl
    | _ => cases d <;> simp [chkE] at h
theorem snd_glo (y : Str) (d : D) : SndE CX Γ φ k (.glo y d) := by
  have e : ev φ (.glo y d) = fun _ => M.dat d := by funext ρ; simp only [ev]
  refine .plain (fun S E X x h g => ?_) (fun S x h => ?_)
  · rw [e]
    cases x with
    | Name z p =>
      simp only [chkE, Bool.and_eq_true, beq_iff_eq] at h
      obtain ⟨⟨h1, h2⟩, h3⟩ := h
      subst h1
      split at h3
      · rename_i d' hd
        have := D.same_eq d d' h3
        subst this
        obtain ⟨v, u, q1, q2, q3⟩ := g.cst _ _ hd
        exact s_glo (g.gl h2) q1 q2 q3 (glB_ok h2).2
      · cases h3
    | _ => simp [chkE] at h
  · cases x with
    | Name y p => rfl
    | _ => simp [chkE] at h
theorem snd_tup {es : Ex} (hL : SndL CX Γ φ k es) : SndE CX Γ φ k (.tup es) := by
  have e : ev φ (.tup es) = fun ρ => M.bind (evL φ es ρ) fun vs => M.bind (toDs vs) fun ds => M.when (Nat.ble ds.length LINE) (M.dat (.tup ds)) := by funext ρ; simp only [ev]
  refine .plain (fun S E X x h g => ?_) (fun S x h => ?_)
  · rw [e]
    cases x with
    | Tuple xs j p => exact s_tup (hL.pa S E X xs (by simpa [chkE] using h) g)
    | _ => simp [chkE] at h
  · cases x with
    | Tuple xs j p => rfl
    | _ => simp [chkE] at h
theorem snd_lst {es : Ex} (hL : SndL CX Γ φ k es) : SndE CX Γ φ k (.lst es) := by
  have e : ev φ (.lst es) = fun ρ => M.bind (evL φ es ρ) fun vs => M.bind (toDs vs) fun ds => M.when (Nat.ble ds.length LINE) (M.dat (.lst ds)) := by funext ρ; simp only [ev]
  refine .plain (fun S E X x h g => ?_) (fun S x h => ?_)
  · rw [e]
    cases x with
    | List xs p => exact s_lst (hL.pa S E X xs (by simpa [chkE] using h) g)
    | _ => simp [chkE] at h
  · cases x with
    | List xs p => rfl
    | _ => simp [chkE] at h
theorem snd_clst {es : Ex} (hL : SndL CX Γ φ k es) : SndE CX Γ φ k (.clst es) := by
  have e : ev φ (.clst es) = fun ρ => M.bind (evL φ es ρ) fun vs => M.bind (toDs vs) fun ds => M.when (Nat.ble ds.length LINE) (newCell (.lst ds)) := by funext ρ; simp only [ev]
  refine .plain (fun S E X x h g => ?_) (fun S x h => ?_)
  · rw [e]
    cases x with
    | List xs p => exact s_clst (hL.pa S E X xs (by simpa [chkE] using h) g)
    | _ => simp [chkE] at h
  · cases x with
    | List xs p => rfl
    | _ => simp [chkE] at h
theorem snd_bin {o : Bop} {a b : Ex} (ha : SndE CX Γ φ k a) (hb : SndE CX Γ φ k b) : SndE CX Γ φ k (.bin o a b) := by
  have e : ev φ (.bin o a b) = fun ρ => M.bind (ev φ a ρ) fun x => M.bind (ev φ b ρ) fun y => opBin o x y := by funext ρ; simp only [ev]
  refine .plain (fun S E X x h g => ?_) (fun S x h => ?_)
  · rw [e]
    cases x with
    | BinOp l op r p =>
      simp only [chkE, Bool.and_eq_true, decide_eq_true_eq] at h
      obtain ⟨⟨h1, h2⟩, h3⟩ := h
      subst h1
      exact s_bin o (ha.pe S E X l h2 g) (hb.pe S E X r h3 g)
    | _ => simp [chkE] at h
  · cases x with
    | BinOp l op r p => rfl
    | _ => simp [chkE] at h
theorem snd_inv {a : Ex} (ha : SndE CX Γ φ k a) : SndE CX Γ φ k (.inv a) := by
  have e : ev φ (.inv a) = fun ρ => M.bind (ev φ a ρ) fun x => match x with
    | .dat (.int i) => M.dat (.int (Builtin.bitNot i))
    | _ => M.fail := by funext ρ; simp only [ev]; all_goals rfl
  refine .plain (fun S E X x h g => ?_) (fun S x h => ?_)
  · rw [e]
    cases x with
    | UnaryOp op y p =>
      cases op with
      | Invert => exact s_un un_inv (ha.pe S E X y (by simpa [chkE] using h) g) fun w => rfl
      | _ => simp [chkE] at h
    | _ => simp [chkE] at h
  · cases x with
    | UnaryOp op y p => cases op <;> first | rfl | simp [chkE] at h
    | _ => simp [chkE] at h
theorem snd_neg {a : Ex} (ha : SndE CX Γ φ k a) : SndE CX Γ φ k (.neg a) := by
  have e : ev φ (.neg a) = fun ρ => M.bind (ev φ a ρ) fun x => match x with
    | .dat (.int i) => M.dat (.int (-i))
    | _ => M.fail := by funext ρ; simp only [ev]; all_goals rfl
  refine .plain (fun S E X x h g => ?_) (fun S x h => ?_)
  · rw [e]
    cases x with
    | UnaryOp op y p =>
      cases op with
      | USub => exact s_un un_neg (ha.pe S E X y (by simpa [chkE] using h) g) fun w => rfl
      | _ => simp [chkE] at h
    | _ => simp [chkE] at h
  · cases x with
    | UnaryOp op y p => cases op <;> first | rfl | simp [chkE] at h
    | _ => simp [chkE] at h
end
end G
set_option Elab.async false
set_option linter.all false
set_option maxRecDepth 100000
set_option maxHeartbeats 4000000
/-! G15: the checker of expressions is right (further). -/
namespace G
open PySem L2
section
variable {CX : CXT} {Γ : Ctx} {φ : Str → List Val → M Val} {k : Nat}
theorem snd_cmp {o : Cop} {a b : Ex} (ha : SndE CX Γ φ k a) (hb : SndE CX Γ φ k b) : SndE CX Γ φ k (.cmp o a b) := by
  have e : ev φ (.cmp o a b) = fun ρ => M.bind (ev φ a ρ) fun x => M.bind (ev φ b ρ) fun y => opCmp o x y := by funext ρ; simp only [ev]
  have key : ∀ S x, chkE Γ S (.cmp o a b) x = true → ∃ l r p, x = .Compare l [cmpOf o] [r] p ∧ chkE Γ S a l = true ∧ chkE Γ S b r = true := fun S x h => by
    unfold chkE at h
    split at h <;> try (exfalso; simp at h; done)
    all_goals try (rename_i z1; cases z1)
    simp only [Bool.and_eq_true, decide_eq_true_eq] at h
    obtain ⟨⟨h1, h2⟩, h3⟩ := h
    subst h1
    exact ⟨_, _, _, rfl, h2, h3⟩
  refine ⟨fun S E X x h g => ?_, fun S E X x h g => ?_, fun S E X op vs pos h g => ?_⟩
  · rw [e]
    obtain ⟨l, r, p, rfl, h1, h2⟩ := key S x h
    exact s_cmp g.un o (ha.pe S E X l h1 g) (hb.pe S E X r h2 g) (plain_marks h2)
  · rw [e]
    obtain ⟨l, r, p, rfl, h1, h2⟩ := key S x h
    exact t_cmp g.un o (ha.pe S E X l h1 g) (hb.pe S E X r h2 g) (plain_marks h2)
  · obtain ⟨l, r, p, z, _⟩ := key S _ h
    cases z
theorem snd_chn {o o' : Cop} {a b c : Ex} (ha : SndE CX Γ φ k a) (hb : SndE CX Γ φ k b) (hc : SndE CX Γ φ k c) : SndE CX Γ φ k (.chn o o' a b c) := by
  have e : ev φ (.chn o o' a b c) = fun ρ => M.bind (ev φ a ρ) fun x => M.bind (ev φ b ρ) fun y => chnM o o' (ev φ c) ρ x y := by funext ρ; simp only [ev]
  have key : ∀ S x, chkE Γ S (.chn o o' a b c) x = true → ∃ l r r' p, x = .Compare l [cmpOf o, cmpOf o'] [r, r'] p ∧ chkE Γ S a l = true ∧ chkE Γ S b r = true ∧ chkE Γ S c r' = true := fun S x h => by
    unfold chkE at h
    split at h <;> try (exfalso; simp at h; done)
    all_goals try (rename_i z1; cases z1)
    simp only [Bool.and_eq_true, decide_eq_true_eq] at h
    obtain ⟨⟨⟨⟨h1, h1'⟩, h2⟩, h3⟩, h4⟩ := h
    subst h1 h1'
    exact ⟨_, _, _, _, rfl, h2, h3, h4⟩
  have mk : ∀ S r r', chkE Γ S b r = true → chkE Γ S c r' = true → ∀ op op', lastMarks [op, op'] [r, r'] = false := fun S r r' h1 h2 op op' => by
    show behindInMarks op' r' = false
    exact plain_marks h2 op'
  refine ⟨fun S E X x h g => ?_, fun S E X x h g => ?_, fun S E X op vs pos h g => ?_⟩
  · rw [e]
    obtain ⟨l, r, r', p, rfl, h1, h2, h3⟩ := key S x h
    exact s_chn g.un o o' (ha.pe S E X l h1 g) (hb.pe S E X r h2 g) (hc.pe S E X r' h3 g) (mk S r r' h2 h3)
  · rw [e]
    obtain ⟨l, r, r', p, rfl, h1, h2, h3⟩ := key S x h
    exact t_chn g.un o o' (ha.pe S E X l h1 g) (hb.pe S E X r h2 g) (hc.pe S E X r' h3 g) (mk S r r' h2 h3)
  · obtain ⟨l, r, r', p, z, _⟩ := key S _ h
    cases z
theorem snd_and {a b : Ex} (ha : SndE CX Γ φ k a) (hb : SndE CX Γ φ k b) : SndE CX Γ φ k (.and a b) := by
  have e : ev φ (.and a b) = andM (ev φ a) (ev φ b) := by funext ρ; simp only [ev]
  have key : ∀ S x, chkE Γ S (.and a b) x = true → ∃ y z r p, x = .BoolOp .And (y :: z :: r) p ∧ chkE Γ S a y = true ∧ ((r = [] ∧ chkE Γ S b z = true) ∨ ∃ z' r', r = z' :: r' ∧ chkE Γ S b (.BoolOp .And (z :: r) p) = true) := fun S x h => by
    unfold chkE at h
    split at h <;> try (exfalso; simp at h; done)
    all_goals try (rename_i z1; cases z1)
    · simp only [Bool.and_eq_true] at h
      exact ⟨_, _, _, _, rfl, h.1, .inl ⟨rfl, h.2⟩⟩
    · simp only [Bool.and_eq_true] at h
      exact ⟨_, _, _, _, rfl, h.1, .inr ⟨_, _, rfl, h.2⟩⟩
  have pw : ∀ S E X x, chkE Γ S (.and a b) x = true → GE CX Γ φ k S E X → PW X x (LT X.K E fun ρ => M.bind (ev φ (.and a b) ρ) truth) := fun S E X x h g => by
    obtain ⟨y, z, r, p, rfl, h1, h2⟩ := key S x h
    rw [e]
    rcases h2 with ⟨rfl, h2⟩ | ⟨z', r', rfl, h2⟩
    · exact t_and (ha.pt S E X y h1 g) (pw_and1 (hb.pt S E X z h2 g))
    · exact t_and (ha.pt S E X y h1 g) (hb.pw S E X _ _ _ h2 g)
  refine ⟨fun S E X x h g => ?_, fun S E X x h g => (pw S E X x h g).pt, fun S E X op vs pos h g => pw S E X _ h g⟩
  obtain ⟨y, z, r, p, rfl, h1, h2⟩ := key S x h
  rw [e]
  rcases h2 with ⟨rfl, h2⟩ | ⟨z', r', rfl, h2⟩
  · exact s_and (ha.pe S E X y h1 g) (s_one (hb.pe S E X z h2 g))
  · exact s_and (ha.pe S E X y h1 g) (hb.pe S E X _ h2 g)
theorem snd_or {a b : Ex} (ha : SndE CX Γ φ k a) (hb : SndE CX Γ φ k b) : SndE CX Γ φ k (.or a b) := by
  have e : ev φ (.or a b) = orM (ev φ a) (ev φ b) := by funext ρ; simp only [ev]
  have key : ∀ S x, chkE Γ S (.or a b) x = true → ∃ y z r p, x = .BoolOp .Or (y :: z :: r) p ∧ chkE Γ S a y = true ∧ ((r = [] ∧ chkE Γ S b z = true) ∨ ∃ z' r', r = z' :: r' ∧ chkE Γ S b (.BoolOp .Or (z :: r) p) = true) := fun S x h => by
    unfold chkE at h
    split at h <;> try (exfalso; simp at h; done)
    all_goals try (rename_i z1; cases z1)
    · simp only [Bool.and_eq_true] at h
      exact ⟨_, _, _, _, rfl, h.1, .inl ⟨rfl, h.2⟩⟩
    · simp only [Bool.and_eq_true] at h
      exact ⟨_, _, _, _, rfl, h.1, .inr ⟨_, _, rfl, h.2⟩⟩
  have pw : ∀ S E X x, chkE Γ S (.or a b) x = true → GE CX Γ φ k S E X → PW X x (LT X.K E fun ρ => M.bind (ev φ (.or a b) ρ) truth) := fun S E X x h g => by
    obtain ⟨y, z, r, p, rfl, h1, h2⟩ := key S x h
    rw [e]
    rcases h2 with ⟨rfl, h2⟩ | ⟨z', r', rfl, h2⟩
    · exact t_or (ha.pt S E X y h1 g) (pw_or1 (hb.pt S E X z h2 g))
    · exact t_or (ha.pt S E X y h1 g) (hb.pw S E X _ _ _ h2 g)
  refine ⟨fun S E X x h g => ?_, fun S E X x h g => (pw S E X x h g).pt, fun S E X op vs pos h g => pw S E X _ h g⟩
  obtain ⟨y, z, r, p, rfl, h1, h2⟩ := key S x h
  rw [e]
  rcases h2 with ⟨rfl, h2⟩ | ⟨z', r', rfl, h2⟩
  · exact s_or (ha.pe S E X y h1 g) (s_one (hb.pe S E X z h2 g))
  · exact s_or (ha.pe S E X y h1 g) (hb.pe S E X _ h2 g)
theorem snd_not {a : Ex} (ha : SndE CX Γ φ k a) : SndE CX Γ φ k (.not a) := by
  have e : ev φ (.not a) = fun ρ => M.bind (ev φ a ρ) fun x => M.bind (truth x) fun t => M.dat (.bl (!t)) := by funext ρ; simp only [ev]
  have key : ∀ S x, chkE Γ S (.not a) x = true → ∃ y p, x = .UnaryOp .Not y p ∧ chkE Γ S a y = true := fun S x h => by
    unfold chkE at h
    split at h <;> try (exfalso; simp at h; done)
    all_goals try (rename_i z1; cases z1)
    exact ⟨_, _, rfl, h⟩
  refine ⟨fun S E X x h g => ?_, fun S E X x h g => ?_, fun S E X op vs pos h g => ?_⟩
  · obtain ⟨y, p, rfl, h1⟩ := key S x h
    rw [e]
    exact s_not (ha.pe S E X y h1 g)
  · obtain ⟨y, p, rfl, h1⟩ := key S x h
    rw [e]
    exact t_not (ha.pt S E X y h1 g)
  · obtain ⟨y, p, z, _⟩ := key S _ h
    cases z
theorem snd_ite {a b c : Ex} (hc : SndE CX Γ φ k c) (ha : SndE CX Γ φ k a) (hb : SndE CX Γ φ k b) : SndE CX Γ φ k (.ite c a b) := by
  have e : ev φ (.ite c a b) = iteM (ev φ c) (ev φ a) (ev φ b) := by funext ρ; simp only [ev]
  have key : ∀ S x, chkE Γ S (.ite c a b) x = true → ∃ t y z p, x = .IfExp t y z p ∧ chkE Γ S c t = true ∧ chkE Γ S a y = true ∧ chkE Γ S b z = true := fun S x h => by
    unfold chkE at h
    split at h <;> try (exfalso; simp at h; done)
    all_goals try (rename_i z1; cases z1)
    simp only [Bool.and_eq_true] at h
    exact ⟨_, _, _, _, rfl, h.1.1, h.1.2, h.2⟩
  refine ⟨fun S E X x h g => ?_, fun S E X x h g => ?_, fun S E X op vs pos h g => ?_⟩
  · obtain ⟨t, y, z, p, rfl, h1, h2, h3⟩ := key S x h
    rw [e]
    exact s_ite (hc.pt S E X t h1 g) (ha.pe S E X y h2 g) (hb.pe S E X z h3 g)
  · obtain ⟨t, y, z, p, rfl, h1, h2, h3⟩ := key S x h
    rw [e]
    exact t_ite (hc.pt S E X t h1 g) (ha.pt S E X y h2 g) (hb.pt S E X z h3 g)
  · obtain ⟨t, y, z, p, q, _⟩ := key S _ h
    cases q
theorem snd_idx {a i : Ex} (ha : SndE CX Γ φ k a) (hi : SndE CX Γ φ k i) : SndE CX Γ φ k (.idx a i) := by
  have e : ev φ (.idx a i) = fun ρ => M.bind (ev φ a ρ) fun x => M.bind (ev φ i ρ) fun y => opIdx x y := by funext ρ; simp only [ev]
  have key : ∀ S x, chkE Γ S (.idx a i) x = true → ∃ y z p, x = .Subscript y z p ∧ chkE Γ S a y = true ∧ chkE Γ S i z = true := fun S x h => by
    unfold chkE at h
    split at h <;> try (exfalso; simp at h; done)
    all_goals try (rename_i z1; cases z1)
    simp only [Bool.and_eq_true] at h
    exact ⟨_, _, _, rfl, h.1, h.2⟩
  refine .plain (fun S E X x h g => ?_) (fun S x h => ?_)
  · obtain ⟨y, z, p, rfl, h1, h2⟩ := key S x h
    rw [e]
    exact s_idx (ha.pe S E X y h1 g) (hi.pe S E X z h2 g) (plain_ix h2)
  · obtain ⟨y, z, p, rfl, h1, h2⟩ := key S x h
    rfl
theorem snd_nil : SndL CX Γ φ k .nil := by
  have e : evL φ .nil = fun _ => M.pure [] := by funext ρ; simp only [evL]
  refine ⟨fun S E X xs h g => ?_, fun S xs env h => ?_, fun S E X kws h g => ?_⟩
  · cases xs with
    | nil =>
      have e : evL φ .nil = fun _ => M.pure [] := by funext ρ; simp only [evL]
      rw [e]
      exact s_nil
    | cons _ _ => simp [chkL] at h
  · cases xs with
    | nil => rfl
    | cons _ _ => simp [chkL] at h
  · cases kws with
    | nil =>
      rw [e]
      exact s_knil
    | cons _ _ => simp [chkL] at h
theorem snd_cons {e es : Ex} (he : SndE CX Γ φ k e) (hes : SndL CX Γ φ k es) : SndL CX Γ φ k (.cons e es) := by
  refine ⟨fun S E X xs h g => ?_, fun S xs env h => ?_, fun S E X kws h g => ?_⟩
  · cases xs with
    | nil => simp [chkL] at h
    | cons x xs =>
      simp only [chkL, Bool.and_eq_true] at h
      have e' : evL φ (.cons e es) = fun ρ => M.bind (ev φ e ρ) fun v => M.bind (evL φ es ρ) fun vs => M.pure (v :: vs) := by funext ρ; simp only [evL]
      rw [e']
      exact s_cons (he.pe S E X x h.1 g) (hes.pa S E X xs h.2 g) (plain_star h.1 xs X.env)
  · cases xs with
    | nil => simp [chkL] at h
    | cons x xs =>
      simp only [chkL, Bool.and_eq_true] at h
      rw [plain_star h.1 xs env]
      show (false || (starEach xs env).any (·.1)) = false
      rw [hes.star S xs env h.2]
      rfl
  · cases kws with
    | nil => simp [chkL] at h
    | cons w kws =>
      obtain ⟨nm, x, kp⟩ := w
      simp only [List.map_cons, chkL, Bool.and_eq_true] at h
      have e' : evL φ (.cons e es) = fun ρ => M.bind (ev φ e ρ) fun v => M.bind (evL φ es ρ) fun vs => M.pure (v :: vs) := by funext ρ; simp only [evL]
      rw [e']
      exact s_kcons (he.pe S E X x h.1 g) (hes.pk S E X kws h.2 g)
theorem any_backTo (pos : Pos) (l : List (Bool × Sem Value)) : (backTo pos l).any (·.1) = l.any (·.1) := by
  unfold backTo
  rw [List.any_map]
  rfl
/-- the parts of a slice -/
theorem snd_part {lo : Ex} (hl : SndL CX Γ φ k lo) {S : Sta} {E : XS} {X : Cx} {l : Option Expr} (h : chkL Γ S lo l.toList = true) (g : GE CX Γ φ k S E X) (sub : ∀ e, lo = .cons e .nil → SndE CX Γ φ k e) : PO X l (LO X.K E fun ρ => M.bind (evL φ lo ρ) part?) := by
  cases l with
  | none =>
    cases lo with
    | nil =>
      have e : (fun ρ => M.bind (evL φ .nil ρ) part?) = fun ρ => M.bind (M.pure ([] : List Val)) part? := by funext ρ; simp only [evL]
      rw [e]
      exact part_none (γ := Unit) (δ := Unit) (R2 := fun _ _ _ _ => True)
    | _ => simp [chkL, Option.toList] at h
  | some x =>
    cases lo with
    | cons e es =>
      simp only [chkL, Option.toList, Bool.and_eq_true] at h
      cases es with
      | nil =>
        have e' : (fun ρ => M.bind (evL φ (.cons e .nil) ρ) part?) = fun ρ => M.bind (M.bind (ev φ e ρ) fun v => M.bind (M.pure ([] : List Val)) fun vs => M.pure (v :: vs)) part? := by funext ρ; simp only [evL]
        rw [e']
        exact part_some ((sub e rfl).pe S E X x h.1 g)
      | _ => simp [chkL] at h
    | _ => simp [chkL, Option.toList] at h
theorem snd_slc {a lo hi : Ex} (ha : SndE CX Γ φ k a) (hl : SndL CX Γ φ k lo) (hh : SndL CX Γ φ k hi) (sl : ∀ e, lo = .cons e .nil → SndE CX Γ φ k e) (sh : ∀ e, hi = .cons e .nil → SndE CX Γ φ k e) : SndE CX Γ φ k (.slc a lo hi) := by
  have e : ev φ (.slc a lo hi) = fun ρ => M.bind (ev φ a ρ) fun x => M.bind (evL φ lo ρ) fun l => M.bind (part? l) fun l => M.bind (evL φ hi ρ) fun h => M.bind (part? h) fun h => opCut x l h := by funext ρ; simp only [ev]
  have key : ∀ S x, chkE Γ S (.slc a lo hi) x = true → ∃ y l h p q, x = .Subscript y (.Slice l h none p) q ∧ chkE Γ S a y = true ∧ chkL Γ S lo l.toList = true ∧ chkL Γ S hi h.toList = true := fun S x h => by
    unfold chkE at h
    split at h <;> try (exfalso; simp at h; done)
    all_goals try (rename_i z1; cases z1)
    simp only [Bool.and_eq_true] at h
    exact ⟨_, _, _, _, _, rfl, h.1.1, h.1.2, h.2⟩
  refine .plain (fun S E X x h g => ?_) (fun S x h => ?_)
  · obtain ⟨y, l, u, p, q, rfl, h1, h2, h3⟩ := key S x h
    rw [e]
    exact s_slc (ha.pe S E X y h1 g) (snd_part hl h2 g sl) (snd_part hh h3 g sh)
  · obtain ⟨y, l, u, p, q, rfl, _⟩ := key S x h
    rfl
theorem snd_call {f : Str} {es : Ex} (hL : SndL CX Γ φ k es) : SndE CX Γ φ k (.call f es) := by
  have e : ev φ (.call f es) = fun ρ => M.bind (evL φ es ρ) (φ f) := by funext ρ; simp only [ev]
  have key : ∀ S x, chkE Γ S (.call f es) x = true → ∃ p args q, x = .Call (.Name f p) args [] q ∧ glB S f = true ∧ (Γ.fns.lookup f).isSome = true ∧ chkL Γ S es args = true := fun S x h => by
    unfold chkE at h
    split at h <;> try (exfalso; simp at h; done)
    all_goals try (rename_i z1; cases z1)
    simp only [Bool.and_eq_true, beq_iff_eq] at h
    obtain ⟨⟨⟨h1, h2⟩, h3⟩, h4⟩ := h
    subst h1
    exact ⟨_, _, _, rfl, h2, h3, h4⟩
  refine .plain (fun S E X x h g => ?_) (fun S x h => ?_)
  · obtain ⟨p, args, q, rfl, h1, h2, h3⟩ := key S x h
    rw [e]
    obtain ⟨n, hn⟩ := Option.isSome_iff_exists.mp h2
    obtain ⟨ad, fd, ps, q1, q2, q3, q4, q5, _⟩ := g.fns f n hn
    have hpa := hL.pa S E X args h3 g
    have hst := hL.star S args X.env h3
    cases args with
    | nil =>
      cases es with
      | nil =>
        have e' : (fun ρ => M.bind (evL φ .nil ρ) (φ f)) = fun ρ => M.bind (M.pure []) (φ f) := by funext ρ; simp only [evL]
        rw [e']
        exact s_call0 q4 q5 g.room (g.gl h1) q1 q2 q3 g.pas (glB_ok h1).2
      | _ => simp [chkL] at h3
    | cons y ys =>
      have hs : starEach (y :: ys) X.env = (false, eval y X.env) :: starEach ys X.env := by
        cases es with
        | cons e1 e2 =>
          simp only [chkL, Bool.and_eq_true] at h3
          exact plain_star h3.1 ys X.env
        | _ => simp [chkL] at h3
      rw [hs] at hst
      refine s_call q4 q5 g.room (g.gl h1) q1 q2 q3 g.pas hpa (glB_ok h1).2 hs ?_
      rw [any_backTo]
      simpa using hst
  · obtain ⟨p, args, q, rfl, _⟩ := key S x h
    rfl
theorem snd_callk {f : Str} {ks : List Str} {perm : List Nat} {es : Ex} (hL : SndL CX Γ φ k es) : SndE CX Γ φ k (.callk f ks perm es) := by
  have e : ev φ (.callk f ks perm es) = fun ρ => M.bind (evL φ es ρ) fun vs => M.when (Nat.beq vs.length ks.length) (φ f (permL perm vs)) := by funext ρ; simp only [ev]
  have key : ∀ S x, chkE Γ S (.callk f ks perm es) x = true → ∃ p kws q, x = .Call (.Name f p) [] kws q ∧ glB S f = true ∧ (Γ.fns.lookup f).isSome = true ∧ Γ.kws.contains (f, ks, perm) = true ∧ kws.map (·.arg) = ks.map some ∧ chkL Γ S es (kws.map (·.value)) = true := fun S x h => by
    unfold chkE at h
    split at h <;> try (exfalso; simp at h; done)
    all_goals try (rename_i z1; cases z1)
    simp only [Bool.and_eq_true, beq_iff_eq, decide_eq_true_eq] at h
    obtain ⟨⟨⟨⟨⟨h1, h2⟩, h3⟩, h4⟩, h5⟩, h6⟩ := h
    subst h1
    exact ⟨_, _, _, rfl, h2, h3, h4, h5, h6⟩
  refine .plain (fun S E X x h g => ?_) (fun S x h => ?_)
  · obtain ⟨p, kws, q, rfl, h1, h2, h3, h4, h5⟩ := key S x h
    rw [e]
    obtain ⟨n, hn⟩ := Option.isSome_iff_exists.mp h2
    obtain ⟨ad, fd, ps, q1, q2, q3, q4, q5, q6⟩ := g.fns f n hn
    exact s_callk q4 q5 g.room (g.gl h1) q1 q2 (q6 ks perm h3) g.pas (hL.pk S E X kws h5 g) h4 (glB_ok h1).2
  · obtain ⟨p, kws, q, rfl, _⟩ := key S x h
    rfl
theorem snd_sset {a : Ex} (ha : SndE CX Γ φ k a) : SndE CX Γ φ k (.sset a) := by
  have e : ev φ (.sset a) = fun ρ => M.bind (ev φ a ρ) ssetM := by funext ρ; simp only [ev]
  have key : ∀ S x, chkE Γ S (.sset a) x = true → ∃ p p' y q q', x = .Call (.Name "sorted" p) [.Call (.Name "set" p') [y] [] q'] [] q ∧ freeB Γ S "sorted" = true ∧ freeB Γ S "set" = true ∧ chkE Γ S a y = true := fun S x h => by
    unfold chkE at h
    split at h <;> try (exfalso; simp at h; done)
    all_goals try (rename_i z1; cases z1)
    simp only [Bool.and_eq_true, beq_iff_eq] at h
    obtain ⟨⟨⟨⟨h1, h2⟩, h3⟩, h4⟩, h5⟩ := h
    subst h1 h3
    exact ⟨_, _, _, _, _, rfl, h2, h4, h5⟩
  refine .plain (fun S E X x h g => ?_) (fun S x h => ?_)
  · obtain ⟨p, p', y, q, q', rfl, h1, h2, h3⟩ := key S x h
    rw [e]
    obtain ⟨g1, g2, _⟩ := g.frB h1
    obtain ⟨g3, g4, _⟩ := g.frB h2
    exact s_sset g.calm g1 g2 g3 g4 (ha.pe S E X y h3 g) (plain_star h3 [] X.env)
  · obtain ⟨p, p', y, q, q', rfl, _⟩ := key S x h
    rfl
theorem snd_cadd {a b : Ex} (ha : SndE CX Γ φ k a) (hb : SndE CX Γ φ k b) : SndE CX Γ φ k (.cadd a b) := by
  have e : ev φ (.cadd a b) = fun ρ => M.bind (ev φ a ρ) fun x => M.bind (ev φ b ρ) fun y => caddM x y := by funext ρ; simp only [ev]
  have key : ∀ S x, chkE Γ S (.cadd a b) x = true → ∃ y z p, x = .BinOp y .Add z p ∧ chkE Γ S a y = true ∧ chkE Γ S b z = true := fun S x h => by
    unfold chkE at h
    split at h <;> try (exfalso; simp at h; done)
    all_goals try (rename_i z1; cases z1)
    simp only [Bool.and_eq_true, decide_eq_true_eq] at h
    obtain ⟨⟨h1, h2⟩, h3⟩ := h
    subst h1
    exact ⟨_, _, _, rfl, h2, h3⟩
  refine .plain (fun S E X x h g => ?_) (fun S x h => ?_)
  · obtain ⟨y, z, p, rfl, h1, h2⟩ := key S x h
    rw [e]
    exact s_cadd (ha.pe S E X y h1 g) (hb.pe S E X z h2 g)
  · obtain ⟨y, z, p, rfl, _⟩ := key S x h
    rfl
theorem snd_snap {a : Ex} (ha : SndE CX Γ φ k a) : SndE CX Γ φ k (.snap a) := by
  have e : ev φ (.snap a) = fun ρ => M.bind (ev φ a ρ) snapM := by funext ρ; simp only [ev]
  have key : ∀ S x, chkE Γ S (.snap a) x = true → ∃ y p, x = .Name y p ∧ chkE Γ S a (.Name y p) = true := fun S x h => by
    unfold chkE at h
    split at h <;> try (exfalso; simp at h; done)
    all_goals try (rename_i z1; cases z1)
    exact ⟨_, _, rfl, h⟩
  refine .plain (fun S E X x h g => ?_) (fun S x h => ?_)
  · obtain ⟨y, p, rfl, h1⟩ := key S x h
    rw [e]
    exact s_snap (ha.pe S E X _ h1 g)
  · obtain ⟨y, p, rfl, _⟩ := key S x h
    rfl
end
end G
set_option Elab.async false
set_option linter.all false
set_option maxRecDepth 100000
set_option maxHeartbeats 4000000
/-! G16: the checker of expressions is right (the rest). -/
namespace G
open PySem L2
section
variable {CX : CXT} {Γ : Ctx} {φ : Str → List Val → M Val} {k : Nat}
theorem strOk_of (s : String) : PyData.strOk (Str.ofString s) = true := by
  unfold PyData.strOk
  rw [Str.ofString_eq_toList]
  simp only [List.all_toArray, List.all_map, List.all_eq_true]
  intro c _
  simp only [Function.comp]
  have h : c.toNat < 0x110000 := by
    have h2 := c.valid
    unfold UInt32.isValidChar Nat.isValidChar at h2
    show c.val.toNat < _
    omega
  simpa using h
theorem len_of (s : String) : (Str.ofString s).length = s.length := by
  show (Str.ofString s).cps.size = _
  rw [Str.ofString_eq_toList]
  simp only [List.size_toArray, List.length_map]
  exact String.length_toList
theorem toString_ok (i : Int) (h : i.natAbs.log2 < 1920) : PyData.strOk (toString i : String) = true ∧ (Str.ofString (toString i)).length ≤ LINE := by
  refine ⟨strOk_of _, ?_⟩
  rw [len_of]
  have hn : ∀ n : Nat, n < 2 ^ 1921 → (Nat.repr n).length ≤ 1921 := fun n hn => PySem.nat_repr_length_le (by decide) hn
  have hi : i.natAbs < 2 ^ 1921 := Nat.lt_of_lt_of_le (Nat.lt_log2_self (n := i.natAbs)) (Nat.pow_le_pow_right (by decide) (by omega))
  have hL : LINE = 16777216 := rfl
  cases i with
  | ofNat n =>
    have := hn n hi
    show (Nat.repr n).length ≤ _
    omega
  | negSucc n =>
    have := hn (n + 1) hi
    show ("-" ++ Nat.repr (n + 1)).length ≤ _
    rw [String.length_append]
    have : ("-" : String).length = 1 := rfl
    omega
theorem callS_str {X : Cx} {E : XS} : CallS X E (fun xs H Q => ∃ i, xs = [.int i] ∧ i.natAbs.log2 < 1920 ∧ Q (.str (toString i)) H) (opBlt .str) :=
  callS_1 fun σ B m H μ x w Q rel r h => by
    replace h : Sat X.K (E σ) B (RV X.K B) m H μ (bStr w) Q := h
    unfold bStr at h
    split at h
    · obtain ⟨h1, h2⟩ := h.when
      have h1 := of_decide_eq_true h1
      obtain ⟨a, b⟩ := toString_ok _ h1
      rw [r.int_inv]
      exact ⟨_, rfl, h1, h2.pure rel (.dat (.str _ a b))⟩
    · exact h.fail.elim
theorem snd_blt {b : Blt} {es : Ex} (hL : SndL CX Γ φ k es) : SndE CX Γ φ k (.blt b es) := by
  have e : ev φ (.blt b es) = fun ρ => M.bind (evL φ es ρ) (opBlt b) := by funext ρ; simp only [ev]
  have key : ∀ S x, chkE Γ S (.blt b es) x = true → ∃ p y q, x = .Call (.Name (bltName b) p) [y] [] q ∧ freeB Γ S (bltName b) = true ∧ chkL Γ S es [y] = true := fun S x h => by
    unfold chkE at h
    split at h <;> try (exfalso; simp at h; done)
    all_goals try (rename_i z1; cases z1)
    simp only [Bool.and_eq_true, beq_iff_eq] at h
    obtain ⟨⟨h1, h2⟩, h3⟩ := h
    subst h1
    exact ⟨_, _, _, rfl, h2, h3⟩
  refine .plain (fun S E X x h g => ?_) (fun S x h => ?_)
  · obtain ⟨p, y, q, rfl, h1, h2⟩ := key S x h
    rw [e]
    have hpa := hL.pa S E X [y] h2 g
    obtain ⟨g1, g2, g3⟩ := g.frB h1
    have hs : starEach [y] X.env = [(false, eval y X.env)] := by
      cases es with
      | cons e1 e2 =>
        simp only [chkL, Bool.and_eq_true] at h2
        exact plain_star h2.1 [] X.env
      | _ => simp [chkL] at h2
    cases b with
    | len => exact s_cb callS_len (pe_callB (call_len_seq.or call_len_str) g1 g2 PySem.boot_len hpa (by decide) g3 hs)
    | abs => exact s_cb callS_abs (pe_callB call_abs g1 g2 PyProof.Rows.boot_abs hpa (by decide) g3 hs)
    | int => exact s_cb callS_int (pe_callTy call_int1 g1 g2 PyProof.Rows.boot_int hpa (by decide) g3 hs)
    | str => exact s_cb callS_str (pe_callTy call_str_int g1 g2 PyProof.Rows.boot_str hpa (by decide) g3 hs)
    | tuple => exact s_cb callS_tuple (pe_callTy call_tuple_of g1 g2 PyProof.Rows.boot_tuple hpa (by decide) g3 hs)
    | list => exact s_cb callS_list (pe_callTy call_list_of g1 g2 PyProof.Rows.boot_list hpa (by decide) g3 hs)
    | clist => exact s_cb callS_clist (pe_callTy call_list_of g1 g2 PyProof.Rows.boot_list hpa (by decide) g3 hs)
    | all => exact s_cb callS_all (pe_callB (cr_all g.calm) g1 g2 PyProof.Rows.boot_all hpa (by decide) g3 hs)
    | any => exact s_cb callS_any (pe_callB (cr_any g.calm) g1 g2 PyProof.Rows.boot_any hpa (by decide) g3 hs)
    | sum => exact s_cb callS_sum (pe_callB (cr_sum g.calm) g1 g2 PyProof.Rows.boot_sum hpa (by decide) g3 hs)
    | sorted => exact s_cb callS_sorted (pe_callB (cr_sorted.or cr_sortedS) g1 g2 PyProof.Rows.boot_sorted hpa (by decide) g3 hs)
  · obtain ⟨p, y, q, rfl, _⟩ := key S x h
    rfl
theorem snd_mth {m : Mth} {o es : Ex} (ho : SndE CX Γ φ k o) (hL : SndL CX Γ φ k es) : SndE CX Γ φ k (.mth m o es) := by
  have e : ev φ (.mth m o es) = fun ρ => M.bind (ev φ o ρ) fun x => M.bind (liveL x) fun _ => M.bind (evL φ es ρ) fun vs => opMth m x vs := by funext ρ; simp only [ev]
  have key : ∀ S x, chkE Γ S (.mth m o es) x = true → ∃ y p ap args cp, x = .Call (.Attribute (.Name y p) (mthName m) ap) args [] cp ∧ (ap.endLine == cp.line) = true ∧ args.length = mthMany m ∧ chkE Γ S o (.Name y p) = true ∧ chkL Γ S es args = true := fun S x h => by
    unfold chkE at h
    split at h <;> try (exfalso; simp at h; done)
    all_goals try (rename_i z1; cases z1)
    simp only [Bool.and_eq_true] at h
    obtain ⟨⟨⟨⟨h1, h2⟩, h3⟩, h4⟩, h5⟩ := h
    have h1 := beq_iff_eq.mp h1
    subst h1
    exact ⟨_, _, _, _, _, rfl, h2, by simpa using h3, h4, h5⟩
  refine .plain (fun S E X x h g => ?_) (fun S x h => ?_)
  · obtain ⟨y, p, ap, args, cp, rfl, h1, h2, h3, h4⟩ := key S x h
    rw [e]
    have hpa := hL.pa S E X args h4 g
    have hpo := ho.pe S E X _ h3 g
    have one : ∀ z, args = [z] → starEach [z] X.env = [(false, eval z X.env)] := fun z hz => by
      subst hz
      cases es with
      | cons e1 e2 =>
        simp only [chkL, Bool.and_eq_true] at h4
        exact plain_star h4.1 [] X.env
      | _ => simp [chkL] at h4
    cases m with
    | append =>
      match args, h2 with
      | [z], _ =>
        have hs := one z rfl
        exact s_mth mthS_append (pe_bm PySem.F.plainAttrs_list PySem.F.slot_list_append PySem.F.type_list_append mt_append hpo hpa rfl (by rw [hs]; rfl) h1 hs rfl)
    | popAt =>
      match args, h2 with
      | [z], _ =>
        have hs := one z rfl
        exact s_mth mthS_popAt (pe_bm PySem.F.plainAttrs_list PySem.F.slot_list_pop PySem.F.type_list_pop mt_popAt hpo hpa rfl (by rw [hs]; rfl) h1 hs rfl)
    | pop =>
      match args, h2 with
      | [], _ =>
        cases es with
        | nil =>
          have e' : (fun ρ => M.bind (ev φ o ρ) fun x => M.bind (liveL x) fun _ => M.bind (evL φ .nil ρ) fun vs => opMth .pop x vs) = fun ρ => M.bind (ev φ o ρ) fun x => M.bind (liveL x) fun _ => M.bind (M.pure []) fun vs => opMth .pop x vs := by funext ρ; simp only [evL]
          rw [e']
          exact s_mth0 mthS_pop (pe_bm0 PySem.F.plainAttrs_list PySem.F.slot_list_pop PySem.F.type_list_pop mt_pop hpo rfl h1)
        | _ => simp [chkL] at h4
  · obtain ⟨y, p, ap, args, cp, rfl, _⟩ := key S x h
    rfl
theorem snd_isi {a : Ex} {ts : List Ty} (ha : SndE CX Γ φ k a) : SndE CX Γ φ k (.isi a ts) := by
  have e : ev φ (.isi a ts) = fun ρ => M.bind (ev φ a ρ) fun x => M.bind (M.ofOpt (isTys x ts)) fun b => M.dat (.bl b) := by funext ρ; simp only [ev]
  have key : ∀ S x, chkE Γ S (.isi a ts) x = true → freeB Γ S "isinstance" = true ∧ ((∃ p y t q r, ts = [t] ∧ x = .Call (.Name "isinstance" p) [y, .Name (tyName t) q] [] r ∧ freeB Γ S (tyName t) = true ∧ chkE Γ S a y = true) ∨
      ∃ p y t u q q' kt pt r, ts = [t, u] ∧ x = .Call (.Name "isinstance" p) [y, .Tuple [.Name (tyName t) q, .Name (tyName u) q'] kt pt] [] r ∧ freeB Γ S (tyName t) = true ∧ freeB Γ S (tyName u) = true ∧ chkE Γ S a y = true) := fun S x h => by
    unfold chkE at h
    split at h <;> try (exfalso; simp at h; done)
    all_goals try (rename_i z1; cases z1)
    · simp only [Bool.and_eq_true, beq_iff_eq] at h
      obtain ⟨⟨⟨⟨h1, h2⟩, h3⟩, h4⟩, h5⟩ := h
      subst h1 h3
      exact ⟨h2, .inl ⟨_, _, _, _, _, rfl, rfl, h4, h5⟩⟩
    · simp only [Bool.and_eq_true, beq_iff_eq] at h
      obtain ⟨⟨⟨⟨⟨⟨h1, h2⟩, h3⟩, h4⟩, h5⟩, h6⟩, h7⟩ := h
      subst h1 h3 h5
      exact ⟨h2, .inr ⟨_, _, _, _, _, _, _, _, _, rfl, rfl, h4, h6, h7⟩⟩
  refine .plain (fun S E X x h g => ?_) (fun S x h => ?_)
  · rw [e]
    obtain ⟨h0, ⟨p, y, t, q, r, rfl, rfl, h1, h2⟩ | ⟨p, y, t, u, q, q', kt, pt, r, rfl, rfl, h1, h2, h3⟩⟩ := key S x h
    · obtain ⟨g1, g2, _⟩ := g.frB h0
      obtain ⟨g3, g4, _⟩ := g.frB h1
      exact s_isi1 g1 g2 g3 g4 (ha.pe S E X y h2 g) (plain_star h2 _ X.env)
    · obtain ⟨g1, g2, _⟩ := g.frB h0
      obtain ⟨g3, g4, _⟩ := g.frB h1
      obtain ⟨g5, g6, _⟩ := g.frB h2
      exact s_isi2 g1 g2 g3 g4 g5 g6 (ha.pe S E X y h3 g) (plain_star h3 _ X.env)
  · obtain ⟨h0, ⟨p, y, t, q, r, rfl, rfl, h1, h2⟩ | ⟨p, y, t, u, q, q', kt, pt, r, rfl, rfl, h1, h2, h3⟩⟩ := key S x h
    · rfl
    · rfl
theorem snd_isx {a : Ex} {ns : List Str} {tab : List (Str × Bool)} (ha : SndE CX Γ φ k a) : SndE CX Γ φ k (.isx a ns tab) := by
  have e : ev φ (.isx a ns tab) = fun ρ => M.bind (ev φ a ρ) (isxM tab) := by funext ρ; simp only [ev]
  have key : ∀ S x, chkE Γ S (.isx a ns tab) x = true → ∃ p y t q, x = .Call (.Name "isinstance" p) [y, t] [] q ∧ freeB Γ S "isinstance" = true ∧ tstB S t ns = true ∧ Γ.exs.contains (ns, tab) = true ∧ chkE Γ S a y = true := fun S x h => by
    unfold chkE at h
    split at h <;> try (exfalso; simp at h; done)
    all_goals try (rename_i z1; cases z1)
    rw [Bool.and_eq_true, Bool.and_eq_true, Bool.and_eq_true, Bool.and_eq_true] at h
    obtain ⟨⟨⟨⟨h1, h2⟩, h3⟩, h4⟩, h5⟩ := h
    have h1 := beq_iff_eq.mp h1
    subst h1
    exact ⟨_, _, _, _, rfl, h2, h3, h4, h5⟩
  refine .plain (fun S E X x h g => ?_) (fun S x h => ?_)
  · rw [e]
    obtain ⟨p, y, t, q, rfl, h1, h2, h3, h4⟩ := key S x h
    obtain ⟨g1, g2, _⟩ := g.frB h1
    obtain ⟨us, u1, u2, u3, u4, u5⟩ := g.exs ns tab h3
    have ht := g.test h2 u1 u3
    cases t with
    | Name z zp =>
      match us, ht, u2, u4 with
      | [u], ht, u2, u4 => exact s_isx1 g1 g2 ht (by simpa using u2) u4 (ha.pe S E X y h4 g) (plain_star h4 _ X.env)
    | Tuple es kt pt => exact s_isxT g1 g2 ht.1 u2 u3 u4 (ha.pe S E X y h4 g) (plain_star h4 _ X.env)
    | _ => exact ht.elim
  · obtain ⟨p, y, t, q, rfl, _⟩ := key S x h
    rfl
theorem snd_fld {a : Ex} {f : Str} {cs : List Str} (ha : SndE CX Γ φ k a) : SndE CX Γ φ k (.fld a f cs) := by
  have e : ev φ (.fld a f cs) = fun ρ => M.bind (ev φ a ρ) (fldM f cs) := by funext ρ; simp only [ev]
  have key : ∀ S x, chkE Γ S (.fld a f cs) x = true → ∃ y p q, x = .Attribute (.Name y p) f q ∧ Γ.fds.contains (f, cs) = true ∧ chkE Γ S a (.Name y p) = true := fun S x h => by
    unfold chkE at h
    split at h <;> try (exfalso; simp at h; done)
    all_goals try (rename_i z1; cases z1)
    rw [Bool.and_eq_true, Bool.and_eq_true] at h
    obtain ⟨⟨h1, h2⟩, h3⟩ := h
    have h1 := beq_iff_eq.mp h1
    subst h1
    exact ⟨_, _, _, rfl, h2, h3⟩
  refine .plain (fun S E X x h g => ?_) (fun S x h => ?_)
  · rw [e]
    obtain ⟨y, p, q, rfl, h1, h2⟩ := key S x h
    exact s_fld (g.fds f cs h1) (ha.pe S E X _ h2 g) rfl
  · obtain ⟨y, p, q, rfl, _⟩ := key S x h
    rfl
theorem snd_sSeq {e : Ex} (he : SndE CX Γ φ k e) : SndI CX Γ φ k (.sSeq e) := by
  have e' : evL φ (.sSeq e) = fun ρ => M.bind (ev φ e ρ) fun v => M.bind (seqItems v) fun ds => M.pure (ds.map .dat) := by funext ρ; simp only [evL]
  refine ⟨fun S E X tg x h g => ?_, fun S tg x env y h => ?_⟩
  · rw [e']
    exact i_seq (he.pe S E X x (by simpa [chkI] using h) g)
  · exact plain_iter (by simpa [chkI] using h : chkE Γ S e x = true) env y
theorem snd_sRng {e : Ex} (he : SndE CX Γ φ k e) : SndI CX Γ φ k (.sRng e) := by
  have e' : evL φ (.sRng e) = fun ρ => M.bind (ev φ e ρ) rngM := by funext ρ; simp only [evL]
  have key : ∀ S tg x, chkI Γ S (.sRng e) tg x = true → ∃ p y q, x = .Call (.Name "range" p) [y] [] q ∧ freeB Γ S "range" = true ∧ chkE Γ S e y = true := fun S tg x h => by
    unfold chkI at h
    split at h <;> try (exfalso; simp at h; done)
    all_goals try (rename_i z1; cases z1)
    simp only [Bool.and_eq_true, beq_iff_eq] at h
    obtain ⟨⟨h1, h2⟩, h3⟩ := h
    subst h1
    exact ⟨_, _, _, rfl, h2, h3⟩
  refine ⟨fun S E X tg x h g => ?_, fun S tg x env y h => ?_⟩
  · rw [e']
    obtain ⟨p, y, q, rfl, h1, h2⟩ := key S tg x h
    obtain ⟨g1, g2, _⟩ := g.frB h1
    exact i_rng g1 g2 (he.pe S E X y h2 g) (plain_star h2 [] X.env)
  · obtain ⟨p, y, q, rfl, h1, h2⟩ := key S tg x h
    rfl
theorem snd_sEnum {e : Ex} (he : SndE CX Γ φ k e) : SndI CX Γ φ k (.sEnum e) := by
  have e' : evL φ (.sEnum e) = fun ρ => M.bind (ev φ e ρ) fun v => M.bind (snapItems v) fun q => M.when q.1 (M.pure ((enumFrom 0 q.2).map .dat)) := by funext ρ; simp only [evL]
  have key : ∀ S tg x, chkI Γ S (.sEnum e) tg x = true → ∃ p y q es kk tp, tg = .Tuple es kk tp ∧ x = .Call (.Name "enumerate" p) [y] [] q ∧ freeB Γ S "enumerate" = true ∧ chkE Γ S e y = true := fun S tg x h => by
    unfold chkI at h
    split at h <;> try (exfalso; simp at h; done)
    all_goals try (rename_i z1; cases z1)
    simp only [Bool.and_eq_true, beq_iff_eq] at h
    obtain ⟨⟨h1, h2⟩, h3⟩ := h
    subst h1
    exact ⟨_, _, _, _, _, _, rfl, rfl, h2, h3⟩
  refine ⟨fun S E X tg x h g => ?_, fun S tg x env y h => ?_⟩
  · rw [e']
    obtain ⟨p, y, q, es, kk, tp, rfl, rfl, h1, h2⟩ := key S tg x h
    obtain ⟨g1, g2, _⟩ := g.frB h1
    exact i_enum g1 g2 (he.pe S E X y h2 g) (plain_star h2 [] X.env)
  · obtain ⟨p, y, q, es, kk, tp, rfl, rfl, h1, h2⟩ := key S tg x h
    rfl
theorem snd_sZip {a b : Ex} (ha : SndE CX Γ φ k a) (hb : SndE CX Γ φ k b) : SndI CX Γ φ k (.sZip a b) := by
  have e' : evL φ (.sZip a b) = fun ρ => M.bind (ev φ a ρ) fun v => M.bind (ev φ b ρ) fun w => M.bind (snapItems v) fun p => M.bind (snapItems w) fun q => M.when (p.1 == q.1) (M.pure ((zipD p.2 q.2).map .dat)) := by funext ρ; simp only [evL]
  have key : ∀ S tg x, chkI Γ S (.sZip a b) tg x = true → ∃ p y z q es kk tp, tg = .Tuple es kk tp ∧ x = .Call (.Name "zip" p) [y, z] [] q ∧ freeB Γ S "zip" = true ∧ chkE Γ S a y = true ∧ chkE Γ S b z = true := fun S tg x h => by
    unfold chkI at h
    split at h <;> try (exfalso; simp at h; done)
    all_goals try (rename_i z1; cases z1)
    simp only [Bool.and_eq_true, beq_iff_eq] at h
    obtain ⟨⟨⟨h1, h2⟩, h3⟩, h4⟩ := h
    subst h1
    exact ⟨_, _, _, _, _, _, _, rfl, rfl, h2, h3, h4⟩
  refine ⟨fun S E X tg x h g => ?_, fun S tg x env y h => ?_⟩
  · rw [e']
    obtain ⟨p, y, z, q, es, kk, tp, rfl, rfl, h1, h2, h3⟩ := key S tg x h
    obtain ⟨g1, g2, _⟩ := g.frB h1
    exact i_zip g1 g2 (ha.pe S E X y h2 g) (hb.pe S E X z h3 g) (plain_star h2 [z] X.env) (plain_star h3 [] X.env)
  · obtain ⟨p, y, z, q, es, kk, tp, rfl, rfl, h1, h2⟩ := key S tg x h
    rfl
/-! ### targets -/
theorem each_plain {S : Sta} : ∀ (ts : Tg) (es : List Expr) (env : PySem.Env), chkTs S ts es = true → assignEach es env = es.map (fun t => (false, assign t env)) ∧ es.length = tgLen ts
  | .nil, [], _, _ => ⟨rfl, by simp [tgLen]⟩
  | .nil, _ :: _, _, h => by simp [chkTs] at h
  | .cons t ts, [], _, h => by simp [chkTs] at h
  | .cons t ts, e :: es, env, h => by
    simp only [chkTs, Bool.and_eq_true] at h
    obtain ⟨h1, h2⟩ := each_plain ts es env h.2
    refine ⟨?_, by rw [List.length_cons, h2, tgLen]⟩
    cases e with
    | Starred y p => cases t <;> simp [chkT] at h
    | _ => first | (show (false, _) :: assignEach es env = _; rw [h1]; rfl)
  | .nm _, es, _, h => by cases es <;> simp [chkTs] at h
  | .tp _, es, _, h => by cases es <;> simp [chkTs] at h
section
variable {S : Sta} {E : XS} {X : Cx}
mutual
theorem snd_tg (g : GE CX Γ φ k S E X) : ∀ (t : Tg) (e : Expr), chkT S t e = true → PG X e (tgOf X.K t)
  | .nm i, e, h => by
    cases e with
    | Name x p =>
      simp only [chkT, Bool.and_eq_true, decide_eq_true_eq] at h
      obtain ⟨h1, h2⟩ := h
      rw [tgOf]
      refine pg_name (by rw [g.nN]; exact g.nd) (by rw [g.nN]; exact h1) ?_ ?_
      · rw [g.scope]
        split at h2
        · exact .inl (by assumption)
        · exact .inr (by assumption)
        · cases h2
      · rw [g.scope, g.fn]
        split at h2
        · exact .inr (by assumption)
        · exact .inl h2
        · cases h2
    | _ => simp [chkT] at h
  | .tp ts, e, h => by
    cases e with
    | Tuple es j p =>
      have h' : chkTs S ts es = true := by simpa [chkT] using h
      rw [tgOf]
      obtain ⟨h1, h2⟩ := each_plain ts es X.env h'
      refine pg_tup g.calm (snd_tgs g ts es h') ?_ ?_
      · rw [h1, List.length_map, h2]
      · rw [h1, List.findIdx?_map]
        exact List.findIdx?_eq_none_iff.mpr fun _ _ => rfl
    | _ => simp [chkT] at h
  | .nil, e, h => by cases e <;> simp [chkT] at h
  | .cons _ _, e, h => by cases e <;> simp [chkT] at h
theorem snd_tgs (g : GE CX Γ φ k S E X) : ∀ (ts : Tg) (es : List Expr), chkTs S ts es = true → PGs X es (tgsOf X.K ts)
  | .nil, es, h => by
    cases es with
    | nil => rw [tgsOf]; exact pgs_nil
    | cons _ _ => simp [chkTs] at h
  | .cons t ts, es, h => by
    cases es with
    | nil => simp [chkTs] at h
    | cons e es =>
      have h0 := h
      simp only [chkTs, Bool.and_eq_true] at h
      rw [tgsOf]
      obtain ⟨h1, _⟩ := each_plain (.cons t ts) (e :: es) X.env h0
      obtain ⟨h2, _⟩ := each_plain ts es X.env h.2
      refine pgs_cons (snd_tg g t e h.1) (snd_tgs g ts es h.2) ?_
      rw [h1, h2]
      simp
  | .nm _, es, h => by cases es <;> simp [chkTs] at h
  | .tp _, es, h => by cases es <;> simp [chkTs] at h
end
end
/-! ### comprehensions -/
theorem ownPairs_snd (N : List Str) (own : List Nat) : (ownPairs N own).map (·.2) = own := by
  unfold ownPairs
  rw [List.map_map]
  exact List.map_id' own
theorem comp_inv {S : Sta} {elt src cond : Ex} {tg : Tg} {own : List Nat} {x : Expr} (h : chkE Γ S (.comp elt tg src cond own) x = true) :
    ∃ e t it ifs scope p, x = .ListComp e [⟨t, it, ifs, 0⟩] scope p ∧ chkI Γ S src t it = true ∧ chkT (blkSta S scope) tg t = true ∧ chkE Γ (blkSta S scope) elt e = true ∧ tgIn own tg = true ∧ blkC S.N S.sc scope (ownPairs S.N own) = true ∧
      ((ifs = [] ∧ cond = .cst (.bl true)) ∨ ∃ c, ifs = [c] ∧ chkE Γ (blkSta S scope) cond c = true) := by
  unfold chkE at h
  split at h <;> try (exfalso; simp at h; done)
  all_goals try (rename_i z1; cases z1)
  simp only [Bool.and_eq_true] at h
  obtain ⟨⟨⟨⟨⟨h1, h2⟩, h3⟩, h4⟩, h5⟩, h6⟩ := h
  refine ⟨_, _, _, _, _, _, rfl, h1, h2, h3, h4, h5, ?_⟩
  split at h6
  · split at h6
    · exact .inl ⟨rfl, rfl⟩
    · cases h6
  · exact .inr ⟨_, rfl, h6⟩
  · cases h6
theorem compM_ev {elt src cond : Ex} {tg : Tg} {own : List Nat} : ev φ (.comp elt tg src cond own) = fun ρ => M.bind (evL φ src ρ) fun xs => M.bind (toDs xs) fun ds => M.nox (M.bind (compM tg (fun ρ' => M.bind (ev φ cond ρ') truth) (ev φ elt) (wipeD ρ own) ds) fun ys => M.dat (.lst ys)) := by
  funext ρ
  simp only [ev]
section
variable {elt src cond : Ex} {tg : Tg} {own : List Nat} (he : SndE CX Γ φ k elt) (hs : SndI CX Γ φ k src) (hc : SndE CX Γ φ k cond)
include he hs hc
theorem comp_parts {S : Sta} {E : XS} {X : Cx} (g : GE CX Γ φ k S E X) {e t it : Expr} {ifs : List Expr} {scope : Scope} (h1 : chkI Γ S src t it = true) (h2 : chkT (blkSta S scope) tg t = true) (h3 : chkE Γ (blkSta S scope) elt e = true) (h5 : blkC S.N S.sc scope (ownPairs S.N own) = true)
    (h6 : (ifs = [] ∧ cond = .cst (.bl true)) ∨ ∃ c, ifs = [c] ∧ chkE Γ (blkSta S scope) cond c = true) :
    PI X t it (LI X.K E (evL φ src)) ∧ BlkOk X.N X.env.scope scope (ownPairs S.N own) ∧ (∀ s H C cl fp, PG (X.blk s H scope (compEnvC scope cl C X.env) fp) t (tgOf X.K tg)) ∧
      (∀ s H C cl fp, PTs (X.blk s H scope (compEnvC scope cl C X.env) fp) ifs (LT X.K E0s fun ρ => M.bind (ev φ cond ρ) truth)) ∧ (∀ s H C cl fp, PE (X.blk s H scope (compEnvC scope cl C X.env) fp) e (LE X.K E0s (ev φ elt))) ∧ ∀ x, foldedSetIterable it X.env x = pure x := by
  refine ⟨hs.pi S E X t it h1 g, by rw [g.nN, g.scope]; exact blkOk_by h5, fun s H C cl fp => snd_tg (g.blk scope s H C cl fp) tg t h2, fun s H C cl fp => ?_, fun s H C cl fp => he.pe _ E0s _ e h3 (g.blk scope s H C cl fp), fun x => hs.fold S t it X.env x h1⟩
  rcases h6 with ⟨rfl, rfl⟩ | ⟨c, rfl, h6⟩
  · refine ⟨fun pins s' σ H' Q I q => pts_nil.run pins s' σ H' Q I ?_⟩
    obtain ⟨ρ, m, B, μ, a, q⟩ := q
    have e' : M.bind (ev φ (.cst (.bl true)) ρ) truth = M.pure true := by simp only [ev]; rfl
    replace q : Sat X.K E0 B _ m H' μ (M.bind (ev φ (.cst (.bl true)) ρ) truth) Q := q
    rw [e'] at q
    exact q.pure a.rel rfl
  · exact pts_one (hc.pt _ E0s _ c h6 (g.blk scope s H C cl fp))
theorem snd_comp : SndE CX Γ φ k (.comp elt tg src cond own) := by
  refine .plain (fun S E X x h g => ?_) (fun S x h => ?_)
  · obtain ⟨e, t, it, ifs, scope, p, rfl, h1, h2, h3, h4, h5, h6⟩ := comp_inv h
    obtain ⟨q1, q2, q3, q4, q5, q6⟩ := comp_parts he hs hc g h1 h2 h3 h5 h6
    rw [compM_ev]
    have z := pe_lc (pos := p) g.calm (by rw [g.nN]; exact g.nd) q1 q2 q3 q4 q5 q6
    rw [ownPairs_snd] at z
    exact z.imp fun σ H Q q => comp_read h4 q
  · obtain ⟨e, t, it, ifs, scope, p, rfl, _⟩ := comp_inv h
    rfl
end
/-! ### all together -/
theorem snd_no {e : Ex} (h : ∀ S x, chkE Γ S e x = false) : SndE CX Γ φ k e :=
  ⟨fun S E X x q => (by rw [h] at q; cases q), fun S E X x q => (by rw [h] at q; cases q), fun S E X op vs p q => (by rw [h] at q; cases q)⟩
theorem sndL_no {e : Ex} (h : ∀ S x, chkL Γ S e x = false) : SndL CX Γ φ k e := ⟨fun S E X x q => (by rw [h] at q; cases q), fun S x env q => (by rw [h] at q; cases q), fun S E X x q => (by rw [h] at q; cases q)⟩
theorem sndI_no {e : Ex} (h : ∀ S t x, chkI Γ S e t x = false) : SndI CX Γ φ k e := ⟨fun S E X t x q => (by rw [h] at q; cases q), fun S t x env y q => (by rw [h] at q; cases q)⟩
theorem snd_all : ∀ e : Ex, SndE CX Γ φ k e ∧ SndL CX Γ φ k e ∧ SndI CX Γ φ k e ∧ ∀ a b, e = .cons a b → SndE CX Γ φ k a := by
  intro e
  have nL : ∀ e : Ex, (∀ S xs, chkL Γ S e xs = false) → SndL CX Γ φ k e := fun e h => sndL_no h
  induction e with
  | var i => exact ⟨snd_var i, sndL_no (by simp [chkL]), sndI_no (by simp [chkI]), fun _ _ h => (by cases h)⟩
  | cst d => exact ⟨snd_cst d, sndL_no (by simp [chkL]), sndI_no (by simp [chkI]), fun _ _ h => (by cases h)⟩
  | glo x d => exact ⟨snd_glo x d, sndL_no (by simp [chkL]), sndI_no (by simp [chkI]), fun _ _ h => (by cases h)⟩
  | nil => exact ⟨snd_no (by simp [chkE]), snd_nil, sndI_no (by simp [chkI]), fun _ _ h => (by cases h)⟩
  | cons a b ha hb => exact ⟨snd_no (by simp [chkE]), snd_cons ha.1 hb.2.1, sndI_no (by simp [chkI]), fun x y h => by cases h; exact ha.1⟩
  | tup a ha => exact ⟨snd_tup ha.2.1, sndL_no (by simp [chkL]), sndI_no (by simp [chkI]), fun _ _ h => (by cases h)⟩
  | lst a ha => exact ⟨snd_lst ha.2.1, sndL_no (by simp [chkL]), sndI_no (by simp [chkI]), fun _ _ h => (by cases h)⟩
  | clst a ha => exact ⟨snd_clst ha.2.1, sndL_no (by simp [chkL]), sndI_no (by simp [chkI]), fun _ _ h => (by cases h)⟩
  | bin o a b ha hb => exact ⟨snd_bin ha.1 hb.1, sndL_no (by simp [chkL]), sndI_no (by simp [chkI]), fun _ _ h => (by cases h)⟩
  | inv a ha => exact ⟨snd_inv ha.1, sndL_no (by simp [chkL]), sndI_no (by simp [chkI]), fun _ _ h => (by cases h)⟩
  | neg a ha => exact ⟨snd_neg ha.1, sndL_no (by simp [chkL]), sndI_no (by simp [chkI]), fun _ _ h => (by cases h)⟩
  | cmp o a b ha hb => exact ⟨snd_cmp ha.1 hb.1, sndL_no (by simp [chkL]), sndI_no (by simp [chkI]), fun _ _ h => (by cases h)⟩
  | chn o o' a b c ha hb hc => exact ⟨snd_chn ha.1 hb.1 hc.1, sndL_no (by simp [chkL]), sndI_no (by simp [chkI]), fun _ _ h => (by cases h)⟩
  | and a b ha hb => exact ⟨snd_and ha.1 hb.1, sndL_no (by simp [chkL]), sndI_no (by simp [chkI]), fun _ _ h => (by cases h)⟩
  | or a b ha hb => exact ⟨snd_or ha.1 hb.1, sndL_no (by simp [chkL]), sndI_no (by simp [chkI]), fun _ _ h => (by cases h)⟩
  | not a ha => exact ⟨snd_not ha.1, sndL_no (by simp [chkL]), sndI_no (by simp [chkI]), fun _ _ h => (by cases h)⟩
  | ite c a b hc ha hb => exact ⟨snd_ite hc.1 ha.1 hb.1, sndL_no (by simp [chkL]), sndI_no (by simp [chkI]), fun _ _ h => (by cases h)⟩
  | idx a i ha hi => exact ⟨snd_idx ha.1 hi.1, sndL_no (by simp [chkL]), sndI_no (by simp [chkI]), fun _ _ h => (by cases h)⟩
  | slc a lo hi ha hl hh =>
    exact ⟨snd_slc ha.1 hl.2.1 hh.2.1 (fun e h => hl.2.2.2 e _ h) (fun e h => hh.2.2.2 e _ h), sndL_no (by simp [chkL]), sndI_no (by simp [chkI]), fun _ _ h => (by cases h)⟩
  | call f es hes => exact ⟨snd_call hes.2.1, sndL_no (by simp [chkL]), sndI_no (by simp [chkI]), fun _ _ h => (by cases h)⟩
  | blt b es hes => exact ⟨snd_blt hes.2.1, sndL_no (by simp [chkL]), sndI_no (by simp [chkI]), fun _ _ h => (by cases h)⟩
  | mth m o es ho hes => exact ⟨snd_mth ho.1 hes.2.1, sndL_no (by simp [chkL]), sndI_no (by simp [chkI]), fun _ _ h => (by cases h)⟩
  | isi a ts ha => exact ⟨snd_isi ha.1, sndL_no (by simp [chkL]), sndI_no (by simp [chkI]), fun _ _ h => (by cases h)⟩
  | comp elt tg src cond own h1 h2 h3 => exact ⟨snd_comp h1.1 h2.2.2.1 h3.1, sndL_no (by simp [chkL]), sndI_no (by simp [chkI]), fun _ _ h => (by cases h)⟩
  | sset a ha => exact ⟨snd_sset ha.1, sndL_no (by simp [chkL]), sndI_no (by simp [chkI]), fun _ _ h => (by cases h)⟩
  | callk f ks perm es hes => exact ⟨snd_callk hes.2.1, sndL_no (by simp [chkL]), sndI_no (by simp [chkI]), fun _ _ h => (by cases h)⟩
  | cadd a b ha hb => exact ⟨snd_cadd ha.1 hb.1, sndL_no (by simp [chkL]), sndI_no (by simp [chkI]), fun _ _ h => (by cases h)⟩
  | snap a ha => exact ⟨snd_snap ha.1, sndL_no (by simp [chkL]), sndI_no (by simp [chkI]), fun _ _ h => (by cases h)⟩
  | rev a ha => exact ⟨snd_no (by simp [chkE]), sndL_no (by simp [chkL]), sndI_no (by simp [chkI]), fun _ _ h => (by cases h)⟩
  | isx a ns tab ha => exact ⟨snd_isx ha.1, sndL_no (by simp [chkL]), sndI_no (by simp [chkI]), fun _ _ h => (by cases h)⟩
  | fld a f cs ha => exact ⟨snd_fld ha.1, sndL_no (by simp [chkL]), sndI_no (by simp [chkI]), fun _ _ h => (by cases h)⟩
  | sSeq a ha => exact ⟨snd_no (by simp [chkE]), sndL_no (by simp [chkL]), snd_sSeq ha.1, fun _ _ h => (by cases h)⟩
  | sRng a ha => exact ⟨snd_no (by simp [chkE]), sndL_no (by simp [chkL]), snd_sRng ha.1, fun _ _ h => (by cases h)⟩
  | sEnum a ha => exact ⟨snd_no (by simp [chkE]), sndL_no (by simp [chkL]), snd_sEnum ha.1, fun _ _ h => (by cases h)⟩
  | sZip a b ha hb => exact ⟨snd_no (by simp [chkE]), sndL_no (by simp [chkL]), snd_sZip ha.1 hb.1, fun _ _ h => (by cases h)⟩
end
end G
set_option Elab.async false
set_option linter.all false
set_option maxRecDepth 100000
set_option maxHeartbeats 4000000
/-! G17: the checker of statements, and that it is right. -/
namespace G
open PySem L2
def isName : Expr → Bool
  | .Name .. => true
  | _ => false
def isStarred : Expr → Bool
  | .Starred .. => true
  | _ => false
/-- the value of a tuple of targets is stored in order -/
def swNone (ts : List Expr) : Expr → Bool
  | .Tuple vs _ _ => !(ts.length == 2 || ts.length == 3) || vs.length != ts.length || vs.any isStarred || ts.any (fun t => !isName t) || vs.all (foldedForSure 8)
  | .ListComp .. => false
  | _ => true
def locAt (S : Sta) (line : Nat) : Expr → Bool
  | .Name x p => S.sc.names.lookup x == some .local && p.line == line
  | _ => false
def swSome (S : Sta) (ts : List Expr) (xs : List Str) (vs : List Expr) : Bool :=
  S.sc.kind == .function && (ts.length == 2 || ts.length == 3) && vs.length == ts.length && !vs.any isStarred && ts.all (locAt S ((ts.head?.map (·.pos.line)).getD 0)) && decide (ts.map isName = ts.map fun _ => true) && xs.eraseDups.length == xs.length && !vs.all (foldedForSure 8) && !vs.all (constantsAlone 8)
def swNot (S : Sta) (ts : List Expr) : Bool := ts.any fun t => !locAt S ((ts.head?.map (·.pos.line)).getD 0) t
def notComp : Expr → Bool
  | .ListComp .. => false
  | .SetComp .. => false
  | .DictComp .. => false
  | _ => true
def locB (S : Sta) (x : Str) : Bool := match S.sc.names.lookup x with
  | some .local => true
  | _ => false
theorem locB_ok {S : Sta} {x : Str} (h : locB S x = true) : S.sc.names.lookup x = some .local := by
  unfold locB at h
  split at h
  · assumption
  · cases h
/-- statements whose slots change at their end alone -/
def smp : St → Bool
  | .skip => true
  | .never => true
  | .exp _ => true
  | .set _ _ => true
  | .ret _ => true
  | .rse _ _ _ => true
  | .seq a .skip => smp a
  | .ite _ a b => smp a && smp b
  | _ => false
section
variable (Γ : Ctx)
mutual
def chkS (S : Sta) : St → Stmt → Bool
  | .never, _ => true
  | .set t e, .Assign [.Name x p] v _ => (match t with
    | .nm i => chkT S (.nm i) (.Name x p) && chkE Γ S e v
    | _ => false)
  | .set t e, .Assign [.Tuple ts kt pt] v _ => chkT S t (.Tuple ts kt pt) && chkE Γ S e v && swNone ts v
  | .par i j es, .Assign [.Tuple [.Name x px, .Name y py] kt pt] (.Tuple vs _ _) _ => chkT S (.nm i) (.Name x px) && chkT S (.nm j) (.Name y py) && !(i == j) && chkL Γ S es vs && vs.length == 2 && (swSome S [.Name x px, .Name y py] [x, y] vs || swNot S [.Name x px, .Name y py])
  | .par3 i j l es, .Assign [.Tuple [.Name x px, .Name y py, .Name z pz] kt pt] (.Tuple vs _ _) _ => chkT S (.nm i) (.Name x px) && chkT S (.nm j) (.Name y py) && chkT S (.nm l) (.Name z pz) && !(i == j) && !(i == l) && !(j == l) && chkL Γ S es vs && vs.length == 3 && (swSome S [.Name x px, .Name y py, .Name z pz] [x, y, z] vs || swNot S [.Name x px, .Name y py, .Name z pz])
  | .setIx o i v, .Assign [.Subscript o' i' _] v' _ => chkE Γ S o o' && chkE Γ S i i' && chkE Γ S v v'
  | .ret e, .Return (some v) _ => chkE Γ S e v
  | .ite c a b, .If c' a' b' _ => chkE Γ S c c' && chkSs S a a' && chkSs S b b'
  | .exp e, .Expr v _ => chkE Γ S e v && notComp v
  | .fr t src b, .For tg it b' [] _ => chkI Γ S src tg it && chkT S t tg && chkSs S b b'
  | .wh c b, .While c' b' [] _ => chkE Γ S c c' && chkSs S b b'
  | .brk, .Break _ => true
  | .cnt, .Continue _ => true
  | .skip, .Pass _ => true
  | .rse c f (.cons e .nil), .Raise (some (.Call (.Name x _) [y] [] _)) none _ => x == c && glB S x && Γ.mks.contains (c, f) && chkE Γ S e y
  | .tryx b ns tab i j, .Try [s] [.ExceptHandler (some t) (some n) [.Assign [.Name y _] (.Name n' _) _] _] [] [] _ =>
      n' == n && decide (S.N[i]? = some n) && decide (S.N[j]? = some y) && locB S n && locB S y && !(n == ("__debug__" : Str)) && !(n == ("__classdict__" : Str)) && tstB S t ns && Γ.exs.contains (ns, tab) && smp b && chkS S b s
  | _, _ => false
def chkSs (S : Sta) : St → List Stmt → Bool
  | .skip, [] => true
  | .seq a b, s :: r => chkS S a s && chkSs S b r
  | _, _ => false
end
end
structure GS (CX : CXT) (Γ : Ctx) (φ : Str → List Val → M Val) (k : Nat) (q : Bool) (S : Sta) (E : XS) (X : Cx) : Prop extends GE CX Γ φ k S E X where
  kind : S.sc.kind = .function
  own : PassesOwn (model X.prog X.w) X.A X.env X.xe
  con : q = true → Cst E
  stk : X.stack = X.env :: X.outer
  frm : X.env.frame = some X.env.locals
  nex : X.ex = []
section
variable (CX : CXT) (Γ : Ctx) (φ : Str → List Val → M Val) (k : Nat)
structure SndS (e : St) : Prop where
  one : ∀ q S E X x, chkS Γ S e x = true → GS CX Γ φ k q S E X → (q || smp e) = true → PS X x (LS X.K E (exec φ e))
  all : ∀ q S E X xs, chkSs Γ S e xs = true → GS CX Γ φ k q S E X → (q || smp e) = true → PSs X xs (LS X.K E (exec φ e))
end
section
variable {CX : CXT} {Γ : Ctx} {φ : Str → List Val → M Val} {k : Nat}
theorem chkT_nm {S : Sta} {E : XS} {X : Cx} (g : GE CX Γ φ k S E X) {i : Nat} {x : Str} {p : Pos} (h : chkT S (.nm i) (.Name x p) = true) : X.N[i]? = some x ∧ Loc X.env.scope x ∧ (X.fn x = true ∨ X.env.scope.names.lookup x = some .local) := by
  simp only [chkT, Bool.and_eq_true, decide_eq_true_eq] at h
  obtain ⟨h1, h2⟩ := h
  refine ⟨by rw [g.nN]; exact h1, ?_, ?_⟩
  · rw [g.scope]
    split at h2
    · exact .inl (by assumption)
    · exact .inr (by assumption)
    · cases h2
  · rw [g.scope, g.fn]
    split at h2
    · exact .inr (by assumption)
    · exact .inl h2
    · cases h2
theorem blk_fn {env : PySem.Env} (h : env.scope.kind = .function) : env.blockKind = .function := by unfold PySem.Env.blockKind; rw [h]; rfl
theorem swNone_ok {ts : List Expr} {v : Expr} {kt : Nat} {pt : Pos} {env : PySem.Env} (h : swNone ts v = true) : swappedStores [.Tuple ts kt pt] v env = pure none := by
  cases v with
  | Tuple vs j p =>
    unfold swNone at h
    unfold swappedStores
    simp only [Bool.or_eq_true] at h
    dsimp only [bind_pure, pure_bind]
    split
    · rfl
    rename_i h1
    split
    · rfl
    rename_i h2
    split
    · rfl
    rename_i h3
    split
    · rfl
    rename_i h4
    exfalso
    rcases h with (((h | h) | h) | h) | h
    · rw [h] at h1; simp at h1
    · rw [h] at h1; simp at h1
    · exact h2 (Eq.trans (congrArg vs.any (funext fun x => by cases x <;> rfl)) h)
    · apply h3
      rw [Bool.or_eq_true]
      left
      rw [bne_iff_ne]
      intro e
      rw [List.filterMap_length_eq_length] at e
      rw [List.any_eq_true] at h
      obtain ⟨t, ht, hn⟩ := h
      have := e t ht
      cases t <;> simp [isName] at hn this
    · exact h4 h
  | ListComp => cases h
  | _ => rfl
theorem sole_tup {ts : List Expr} {v : Expr} {kt : Nat} {pt : Pos} {l : Nat} {env : PySem.Env} : swapsWithSole [.Tuple ts kt pt] v l env = pure false := by
  cases v <;> rfl
theorem sole_sub {o i v : Expr} {pt : Pos} {l : Nat} {env : PySem.Env} : swapsWithSole [.Subscript o i pt] v l env = pure false := by
  cases v <;> rfl
theorem swNot_ok {S : Sta} {ts vs : List Expr} {kt k2 : Nat} {pt p2 : Pos} {env : PySem.Env} (hs : env.scope = S.sc) (h : swNot S ts = true) : swappedStores [.Tuple ts kt pt] (.Tuple vs k2 p2) env = pure none := by
  unfold swNot at h
  unfold swappedStores
  dsimp only [bind_pure, pure_bind]
  split
  · rfl
  split
  · rfl
  split
  · rfl
  rename_i h3
  exfalso
  apply h3
  rw [Bool.or_eq_true]
  left
  rw [bne_iff_ne]
  intro e
  rw [List.filterMap_length_eq_length] at e
  rw [List.any_eq_true] at h
  obtain ⟨t, ht, hn⟩ := h
  have q := e t ht
  cases t <;> simp [locAt] at hn q
  rename_i x p
  have k : env.kindOf x = S.sc.names.lookup x := by rw [← hs]; rfl
  rw [k] at q
  exact hn.elim (fun z => z q.1) fun z => z q.2
theorem fm_congr {α β : Type} {f g : α → Option β} : ∀ l : List α, (∀ x ∈ l, f x = g x) → l.filterMap f = l.filterMap g
  | [], _ => rfl
  | x :: l, h => by
    rw [List.filterMap_cons, List.filterMap_cons, h x (List.mem_cons_self ..), fm_congr l fun y hy => h y (List.mem_cons_of_mem _ hy)]
theorem swSome_ok {S : Sta} {ts : List Expr} {xs : List Str} {vs : List Expr} {kt k2 : Nat} {pt p2 : Pos} {env : PySem.Env} (hs : env.scope = S.sc) (hx : ts.filterMap (fun
        | .Name id _ => some id
        | _ => none) = xs) (h : swSome S ts xs vs = true) : swappedStores [.Tuple ts kt pt] (.Tuple vs k2 p2) env = pure (some xs) := by
  unfold swSome at h
  simp only [Bool.and_eq_true, beq_iff_eq, decide_eq_true_eq, Bool.not_eq_true'] at h
  obtain ⟨⟨⟨⟨⟨⟨⟨⟨h1, h2⟩, h3⟩, h4⟩, h5⟩, h6⟩, h7⟩, h8⟩, h9⟩ := h
  have hb : env.blockKind = .function := blk_fn (by rw [hs]; exact h1)
  have e : ∀ f : Expr → Option Str, (∀ x p, f (.Name x p) = if env.kindOf x == some .local && p.line == (ts.head?.map (·.pos.line)).getD 0 then some x else none) → ts.filterMap f = xs := by
    intro f hf
    rw [← hx]
    apply fm_congr
    intro t ht
    have := List.all_eq_true.mp h5 t ht
    cases t <;> simp only [locAt, Bool.and_eq_true, beq_iff_eq] at this ⊢ <;> try cases this
    rename_i a b
    rw [hf, if_pos]
    rw [Bool.and_eq_true]
    refine ⟨?_, by simpa using b⟩
    show (env.scope.names.lookup _ == _) = true
    rw [hs, a]; rfl
  have hl : xs.length = ts.length := by
    rw [← hx, List.filterMap_length_eq_length]
    intro t ht
    have := List.all_eq_true.mp h5 t ht
    cases t <;> simp [locAt] at this ⊢
  unfold swappedStores
  dsimp only [bind_pure, pure_bind]
  rw [if_neg, if_neg, e _ fun _ _ => rfl, if_neg, if_neg, if_neg]
  · rw [h9]; simp
  · rw [h8]; simp
  · rw [hl, h7, hl]; simp
  · intro z
    have : vs.any isStarred = true := Eq.trans (congrArg vs.any (funext fun x => by cases x <;> rfl)) z
    rw [h4] at this; cases this
  · rw [h3, hb]
    simp only [bne_self_eq_false, Bool.or_false]
    rw [h2]; simp
end
end G
set_option Elab.async false
set_option linter.all false
set_option maxRecDepth 100000
set_option maxHeartbeats 4000000
/-! G18: the checker of statements is right. -/
namespace G
open PySem L2
section
variable {CX : CXT} {Γ : Ctx} {φ : Str → List Val → M Val} {k : Nat}
theorem sndS_of {e : St} (one : ∀ q S E X x, chkS Γ S e x = true → GS CX Γ φ k q S E X → (q || smp e) = true → PS X x (LS X.K E (exec φ e))) (no : ∀ S xs, chkSs Γ S e xs = false) : SndS CX Γ φ k e :=
  ⟨one, fun q S E X xs h => (by rw [no] at h; cases h)⟩
theorem comp_of_chk {S : Sta} {e : Ex} {el : Expr} {gs : List Comprehension} {scope : Scope} {p : Pos} (h : chkE Γ S e (.ListComp el gs scope p) = true) : ∃ elt tg src cond own, e = .comp elt tg src cond own := by
  cases e with
  | comp elt tg src cond own => exact ⟨_, _, _, _, _, rfl⟩
  | cst d => cases d <;> simp [chkE] at h
  | _ => simp [chkE] at h
theorem sndS_set {t : Tg} {e : Ex} (se : SndE CX Γ φ k e) (sc : ∀ elt tg src cond own, e = .comp elt tg src cond own → SndE CX Γ φ k elt ∧ SndI CX Γ φ k src ∧ SndE CX Γ φ k cond) : SndS CX Γ φ k (.set t e) := by
  have e' : exec φ (.set t e) = setM (ev φ e) t := by funext ρ; simp only [exec]; rfl
  refine sndS_of (fun sq S E X x h g hq => ?_) (fun S xs => by cases xs <;> simp [chkSs])
  rw [e']
  unfold chkS at h
  split at h <;> try (exfalso; simp at h; done)
  all_goals (first | (rename_i z1; cases z1; done) | skip)
  · rename_i t1 e1 y py v pos z1
    cases z1
    cases t with
    | nm i =>
      simp only [Bool.and_eq_true] at h
      obtain ⟨h1, h2⟩ := h
      obtain ⟨a1, a2, a3⟩ := chkT_nm g.toGE h1
      cases v with
      | ListComp el gs scope p =>
        obtain ⟨elt, tg, src, cond, own, rfl⟩ := comp_of_chk h2
        obtain ⟨s1, s2, s3⟩ := sc _ _ _ _ _ rfl
        cases hb : (X.env.blockKind == .function && X.env.kindOf y == some .local && py.line == p.line && !(scope.names.any fun (n, k) => n == y && (k == .local || k == .cell))) with
        | false => exact x_set (by rw [g.nN]; exact g.nd) a1 a2 (se.pe S E X _ h2 g.toGE) (by unfold swapsWith; show pure _ = _; exact congrArg pure hb) a3
        | true =>
          obtain ⟨e1, t1, it, ifs, sc1, p1, eq, q1, q2, q3, q4, q5, q6⟩ := comp_inv h2
          cases eq
          obtain ⟨r1, r2, r3, r4, r5, r6⟩ := comp_parts s1 s2 s3 g.toGE q1 q2 q3 q5 q6
          have hl : X.env.scope.names.lookup y = some .local := by
            simp only [Bool.and_eq_true, beq_iff_eq] at hb
            exact hb.1.1.2
          have z := ps_setLc (spos := pos) (py := py) g.calm (by rw [g.nN]; exact g.nd) a1 hl (by unfold swapsWith; show pure _ = _; exact congrArg pure hb) r1 r2 r3 r4 r5 r6
          rw [ownPairs_snd] at z
          refine z.imp fun Dn σ H h => ?_
          have h := set_read h
          rw [tgOf, compM_ev] at h
          exact comp_read q4 h
      | SetComp => exfalso; cases e <;> first | (simp [chkE] at h2; done) | (rename_i d; cases d <;> simp [chkE] at h2)
      | DictComp => exfalso; cases e <;> first | (simp [chkE] at h2; done) | (rename_i d; cases d <;> simp [chkE] at h2)
      | _ => exact x_set (by rw [g.nN]; exact g.nd) a1 a2 (se.pe S E X _ h2 g.toGE) rfl a3
    | _ => cases h
  · rename_i t1 e1 ts kt pt v pos z1
    cases z1
    simp only [Bool.and_eq_true] at h
    obtain ⟨⟨h1, h2⟩, h3⟩ := h
    exact x_asg (se.pe S E X _ h2 g.toGE) (snd_tg g.toGE t _ h1) sole_tup (swNone_ok h3) rfl
theorem swSome_loc {S : Sta} {ts : List Expr} {xs : List Str} {vs : List Expr} {x : Str} {p : Pos} (h : swSome S ts xs vs = true) (hm : Expr.Name x p ∈ ts) : S.sc.names.lookup x = some .local := by
  unfold swSome at h
  simp only [Bool.and_eq_true] at h
  have := List.all_eq_true.mp h.1.1.1.1.2 _ hm
  simp only [locAt, Bool.and_eq_true, beq_iff_eq] at this
  exact this.1
theorem swSome_len {S : Sta} {ts : List Expr} {xs : List Str} {vs : List Expr} (h : swSome S ts xs vs = true) : vs.length = ts.length := by
  unfold swSome at h
  simp only [Bool.and_eq_true, beq_iff_eq] at h
  exact h.1.1.1.1.1.1.2
theorem sndS_par {i j : Nat} {es : Ex} (hL : SndL CX Γ φ k es) : SndS CX Γ φ k (.par i j es) := by
  have e' : exec φ (.par i j es) = parM i j (evL φ es) := by funext ρ; simp only [exec]; rfl
  refine sndS_of (fun sq S E X x h g hq => ?_) (fun S xs => by cases xs <;> simp [chkSs])
  rw [e']
  unfold chkS at h
  split at h <;> try (exfalso; simp at h; done)
  all_goals (first | (rename_i z1; cases z1; done) | skip)
  rename_i i1 j1 es1 y py z pz kt pt vs k2 p2 pos z1
  cases z1
  simp only [Bool.and_eq_true, Bool.not_eq_true', beq_eq_false_iff_ne] at h
  obtain ⟨⟨⟨⟨⟨h1, h2⟩, h3⟩, h4⟩, hl⟩, h5⟩ := h
  obtain ⟨a1, a2, a3⟩ := chkT_nm g.toGE h1
  obtain ⟨b1, b2, b3⟩ := chkT_nm g.toGE h2
  match vs, beq_iff_eq.mp hl with
  | [v1, v2], _ =>
    rw [Bool.or_eq_true] at h5
    rcases h5 with h5 | h5
    case inr =>
      have q1 := snd_tg g.toGE _ _ h1
      have q2 := snd_tg g.toGE _ _ h2
      rw [tgOf] at q1 q2
      exact x_parT g.calm q1 q2 (hL.pa S E X _ h4 g.toGE) (swNot_ok g.scope h5) sole_tup rfl rfl
    exact x_par g.calm (by rw [g.nN]; exact g.nd) a1 b1 h3 (by rw [g.scope]; exact swSome_loc (p := py) h5 (by simp)) (by rw [g.scope]; exact swSome_loc (p := pz) h5 (by simp)) (hL.pa S E X _ h4 g.toGE) (swSome_ok g.scope rfl h5) sole_tup
theorem sndS_par3 {i j l : Nat} {es : Ex} (hL : SndL CX Γ φ k es) : SndS CX Γ φ k (.par3 i j l es) := by
  have e' : exec φ (.par3 i j l es) = par3M i j l (evL φ es) := by funext ρ; simp only [exec]; rfl
  refine sndS_of (fun sq S E X x h g hq => ?_) (fun S xs => by cases xs <;> simp [chkSs])
  rw [e']
  unfold chkS at h
  split at h <;> try (exfalso; simp at h; done)
  all_goals (first | (rename_i z1; cases z1; done) | skip)
  rename_i i1 j1 l1 es1 y py z pz u pu kt pt vs k2 p2 pos z1
  cases z1
  simp only [Bool.and_eq_true, Bool.not_eq_true', beq_eq_false_iff_ne] at h
  obtain ⟨⟨⟨⟨⟨⟨⟨⟨h1, h2⟩, h3⟩, h4⟩, h5⟩, h6⟩, h7⟩, hl⟩, h8⟩ := h
  obtain ⟨a1, a2, a3⟩ := chkT_nm g.toGE h1
  obtain ⟨b1, b2, b3⟩ := chkT_nm g.toGE h2
  obtain ⟨c1, c2, c3⟩ := chkT_nm g.toGE h3
  match vs, beq_iff_eq.mp hl with
  | [v1, v2, v3], _ =>
    rw [Bool.or_eq_true] at h8
    rcases h8 with h8 | h8
    case inr =>
      have q1 := snd_tg g.toGE _ _ h1
      have q2 := snd_tg g.toGE _ _ h2
      have q3 := snd_tg g.toGE _ _ h3
      rw [tgOf] at q1 q2 q3
      exact x_par3T g.calm q1 q2 q3 (hL.pa S E X _ h7 g.toGE) (swNot_ok g.scope h8) sole_tup rfl rfl rfl
    exact x_par3 g.calm (by rw [g.nN]; exact g.nd) a1 b1 c1 h4 h5 h6 (by rw [g.scope]; exact swSome_loc (p := py) h8 (by simp)) (by rw [g.scope]; exact swSome_loc (p := pz) h8 (by simp)) (by rw [g.scope]; exact swSome_loc (p := pu) h8 (by simp)) (hL.pa S E X _ h7 g.toGE) (swSome_ok g.scope rfl h8) sole_tup
theorem sndS_setIx {o i v : Ex} (so : SndE CX Γ φ k o) (si : SndE CX Γ φ k i) (sv : SndE CX Γ φ k v) : SndS CX Γ φ k (.setIx o i v) := by
  have e' : exec φ (.setIx o i v) = setIxM (ev φ v) (ev φ o) (ev φ i) := by funext ρ; simp only [exec]; rfl
  refine sndS_of (fun sq S E X x h g hq => ?_) (fun S xs => by cases xs <;> simp [chkSs])
  rw [e']
  unfold chkS at h
  split at h <;> try (exfalso; simp at h; done)
  all_goals (first | (rename_i z1; cases z1; done) | skip)
  rename_i z1
  cases z1
  simp only [Bool.and_eq_true] at h
  obtain ⟨⟨h1, h2⟩, h3⟩ := h
  refine x_setIx (sv.pe S E X _ h3 g.toGE) (so.pe S E X _ h1 g.toGE) (si.pe S E X _ h2 g.toGE) (fun v => ?_) sole_sub (by rename_i v' _; cases v' <;> rfl)
  rename_i i' _ _ _
  cases i' with
  | Slice a b c d => rw [chk_slice] at h2; cases h2
  | _ => rfl
theorem sndS_all : ∀ e : St, SndS CX Γ φ k e := by
  intro e
  have sE := fun e => (snd_all (CX := CX) (Γ := Γ) (φ := φ) (k := k) e).1
  have sL := fun e => (snd_all (CX := CX) (Γ := Γ) (φ := φ) (k := k) e).2.1
  have sI := fun e => (snd_all (CX := CX) (Γ := Γ) (φ := φ) (k := k) e).2.2.1
  have inv : ∀ {S : Sta} {a : St} {x : Stmt}, True := trivial
  induction e with
  | skip =>
    have e' : exec φ .skip = fun ρ => M.pure (.nx ρ) := by funext ρ; simp only [exec]
    refine ⟨fun sq S E X x h g hq => ?_, fun sq S E X xs h g hq => ?_⟩
    · rw [e']
      cases x <;> simp [chkS] at h
      exact x_pass
    · rw [e']
      cases xs <;> simp [chkSs] at h
      exact x_skip
  | seq a b ha hb =>
    have e' : exec φ (.seq a b) = seqM (exec φ a) (exec φ b) := by funext ρ; simp only [exec]; rfl
    refine ⟨fun sq S E X x h g hq => ?_, fun sq S E X xs h g hq => ?_⟩
    · cases x <;> simp [chkS] at h
    · rw [e']
      cases xs with
      | nil => simp [chkSs] at h
      | cons s r =>
        simp only [chkSs, Bool.and_eq_true] at h
        cases sq with
        | true => exact x_seq (g.con rfl) (ha.one true S E X s h.1 g rfl) (hb.all true S E X r h.2 g rfl)
        | false =>
          cases b with
          | skip =>
            cases r with
            | nil =>
              have es : exec φ .skip = fun ρ => M.pure (.nx ρ) := by funext ρ; simp only [exec]
              rw [es]
              exact x_seq0 (ha.one false S E X s h.1 g (by simpa [smp] using hq))
            | cons _ _ => simp [chkSs] at h
          | _ => simp [smp] at hq
  | set t e => exact sndS_set (sE e) fun elt tg src cond own _ => ⟨sE elt, sI src, sE cond⟩
  | ret e =>
    have e' : exec φ (.ret e) = fun ρ => M.bind (ev φ e ρ) fun v => M.pure (.rt v) := by funext ρ; simp only [exec]
    refine sndS_of (fun sq S E X x h g hq => ?_) (fun S xs => by cases xs <;> simp [chkSs])
    rw [e']
    cases x with
    | Return v pos =>
      cases v with
      | none => simp [chkS] at h
      | some v => exact x_ret ((sE e).pe S E X v (by simpa [chkS] using h) g.toGE)
    | _ => simp [chkS] at h
  | ite c a b ha hb =>
    have e' : exec φ (.ite c a b) = iteS (ev φ c) (exec φ a) (exec φ b) := by funext ρ; simp only [exec]; rfl
    refine sndS_of (fun sq S E X x h g hq => ?_) (fun S xs => by cases xs <;> simp [chkSs])
    rw [e']
    cases x with
    | If c' a' b' pos =>
      simp only [chkS, Bool.and_eq_true] at h
      have hq2 : (sq || smp a) = true ∧ (sq || smp b) = true := by
        cases sq with
        | true => exact ⟨rfl, rfl⟩
        | false => simpa [smp] using hq
      exact x_ite ((sE c).pt S E X _ h.1.1 g.toGE) (ha.all sq S E X _ h.1.2 g hq2.1) (hb.all sq S E X _ h.2 g hq2.2)
    | _ => simp [chkS] at h
  | exp e =>
    have e' : exec φ (.exp e) = fun ρ => M.bind (ev φ e ρ) fun _ => M.pure (.nx ρ) := by funext ρ; simp only [exec]
    refine sndS_of (fun sq S E X x h g hq => ?_) (fun S xs => by cases xs <;> simp [chkSs])
    rw [e']
    cases x with
    | Expr v pos =>
      simp only [chkS, Bool.and_eq_true] at h
      refine x_exp ((sE e).pe S E X v h.1 g.toGE) ?_
      have h2 := h.2
      cases v <;> first | rfl | cases h2
    | _ => simp [chkS] at h
  | fr t src b hb =>
    have e' : exec φ (.fr t src b) = forS (evL φ src) t (exec φ b) := by funext ρ; simp only [exec]; rfl
    refine sndS_of (fun sq S E X x h g hq => ?_) (fun S xs => by cases xs <;> simp [chkSs])
    rw [e']
    cases x with
    | For tg it b' o pos =>
      cases o with
      | nil =>
        simp only [chkS, Bool.and_eq_true] at h
        have hq1 : sq = true := by simpa [smp] using hq
        subst hq1
        exact x_for (g.con rfl) g.own g.calm ((sI src).pi S E X tg it h.1.1 g.toGE) (snd_tg g.toGE t tg h.1.2) (hb.all true S E X _ h.2 g rfl) fun y => (sI src).fold S tg it X.env y h.1.1
      | cons _ _ => simp [chkS] at h
    | _ => simp [chkS] at h
  | wh c b hb =>
    have e' : exec φ (.wh c b) = whileS (fun ρ => M.bind (ev φ c ρ) truth) (exec φ b) := by funext ρ; simp only [exec]; rfl
    refine sndS_of (fun sq S E X x h g hq => ?_) (fun S xs => by cases xs <;> simp [chkSs])
    rw [e']
    cases x with
    | While c' b' o pos =>
      cases o with
      | nil =>
        simp only [chkS, Bool.and_eq_true] at h
        have hq1 : sq = true := by simpa [smp] using hq
        subst hq1
        exact x_while (g.con rfl) g.own ((sE c).pt S E X _ h.1 g.toGE) (hb.all true S E X _ h.2 g rfl)
      | cons _ _ => simp [chkS] at h
    | _ => simp [chkS] at h
  | brk =>
    have e' : exec φ .brk = fun ρ => M.pure (.bk ρ) := by funext ρ; simp only [exec]
    refine sndS_of (fun sq S E X x h g hq => ?_) (fun S xs => by cases xs <;> simp [chkSs])
    rw [e']
    cases x <;> simp [chkS] at h
    exact x_brk
  | cnt =>
    have e' : exec φ .cnt = fun ρ => M.pure (.ct ρ) := by funext ρ; simp only [exec]
    refine sndS_of (fun sq S E X x h g hq => ?_) (fun S xs => by cases xs <;> simp [chkSs])
    rw [e']
    cases x <;> simp [chkS] at h
    exact x_cnt
  | setIx o i v => exact sndS_setIx (sE o) (sE i) (sE v)
  | par i j es => exact sndS_par (sL es)
  | par3 i j l es => exact sndS_par3 (sL es)
  | rse c f es =>
    have e' : exec φ (.rse c f es) = fun ρ => M.bind (evL φ es ρ) (rseM c f) := by funext ρ; simp only [exec]
    refine sndS_of (fun sq S E X x h g hq => ?_) (fun S xs => by cases xs <;> simp [chkSs])
    rw [e']
    unfold chkS at h
    split at h <;> try (exfalso; simp at h; done)
    all_goals (first | (rename_i z1; cases z1; done) | skip)
    rename_i e1 y yp z zp pp z1
    cases z1
    rw [Bool.and_eq_true, Bool.and_eq_true, Bool.and_eq_true] at h
    obtain ⟨⟨⟨h1, h2⟩, h3⟩, h4⟩ := h
    have h1 := beq_iff_eq.mp h1
    subst h1
    obtain ⟨⟨B, newId, i, bmB, T⟩, m2, m3⟩ := g.mks _ _ h3
    have ee : evL φ (.cons e1 .nil) = fun ρ => M.bind (ev φ e1 ρ) fun v => M.bind (M.pure []) fun vs => M.pure (v :: vs) := by funext ρ; simp only [evL]
    rw [ee]
    exact x_rse g.calm g.tak T (g.room.mono (by omega)) m2 m3 (g.gl h2) ((sE e1).pe S E X _ h4 g.toGE) (plain_star h4 [] X.env) (glB_ok h2).2
  | tryx b ns tab i j hb =>
    have e' : exec φ (.tryx b ns tab i j) = tryM (exec φ b) tab i j := by funext ρ; simp only [exec]
    refine sndS_of (fun sq S E X x h g hq => ?_) (fun S xs => by cases xs <;> simp [chkSs])
    rw [e']
    unfold chkS at h
    split at h <;> try (exfalso; simp at h; done)
    all_goals (first | (rename_i z1; cases z1; done) | skip)
    rename_i z1
    cases z1
    simp only [Bool.and_eq_true, beq_iff_eq, decide_eq_true_eq, Bool.not_eq_true'] at h
    obtain ⟨⟨⟨⟨⟨⟨⟨⟨⟨⟨h1, h2⟩, h3⟩, h4⟩, h5⟩, h6⟩, h7⟩, h8⟩, h9⟩, h10⟩, h11⟩ := h
    subst h1
    obtain ⟨us, u1, u2, u3, u4, u5⟩ := g.exs _ _ h9
    have sc := g.scope
    refine x_tryx g.stk g.frm g.nex (by rw [g.nN]; exact g.nd) (by rw [g.nN]; exact h2) (by rw [g.nN]; exact h3) (by show X.env.scope.names.lookup _ = _; rw [sc]; exact locB_ok h4) (by show X.env.scope.names.lookup _ = _; rw [sc]; exact locB_ok h5) h6 h7 (g.test h8 u1 u3) u5 g.tak fun W pn xe tk po => ?_
    refine hb.one false S (fun σ c d H => W c d σ H) (X.tr pn xe) _ h11 ?_ h10
    exact ⟨⟨sc, g.nN, g.nd, g.fn, g.calm, g.room, g.cx, tk, fun σ => by rw [g.cx]; exact passAt tk σ, fun Y h1 h2 => g.pas0 Y h1 h2, g.free, g.cst, g.fns, g.exs, g.mks, g.fds⟩, g.kind, po, fun z => (nomatch z), g.stk, g.frm, g.nex⟩
  | never =>
    have e' : exec φ .never = fun _ => M.fail := by funext ρ; simp only [exec]
    refine sndS_of (fun sq S E X x h g hq => ?_) (fun S xs => by cases xs <;> simp [chkSs])
    rw [e']
    exact x_never
end
end G
set_option Elab.async false
set_option linter.all false
set_option maxRecDepth 100000
set_option maxHeartbeats 4000000
/-! G19: defs. -/
namespace G
open PySem L2
/-- a def of the text: name, parameters, body, scope; its names (the parameters first) -/
structure Df where
  name : Str
  par : Arguments
  body : List Stmt
  sc : Scope
  N : List Str
def Df.ps (d : Df) (f : Fn) : List Str := d.N.take f.np
def chkD (Γ : Ctx) (d : Df) (f : Fn) : Bool := C8.scC d.N (d.ps f) d.sc && Nat.ble f.np d.N.length && Nat.beq f.nn d.N.length && chkSs Γ ⟨d.N, d.sc, fun _ => true⟩ f.body d.body
/-- what is known of the module -/
structure Glob (P : Program) (K : PySem.W.Frag) (mg : Str → Option Value) (Γ : Ctx) (T : Tab) : Prop where
  free : ∀ x, Γ.free.contains x = true → mg x = none
  cst : ∀ x d, Γ.cst.lookup x = some d → ∃ v u, mg x = some u ∧ RelV v u ∧ ∀ m B H, RD K m B H v d
  fns : ∀ f n, Γ.fns.lookup f = some n → ∃ fn d ad fd, T.lookup f = some fn ∧ fn.np = n ∧ FunD K f f d.par d.body d.sc [] [] ad fd ∧ mg f = some (.ref ad) ∧ Binds K fd (d.ps fn) [] ∧ chkD Γ d fn = true ∧ ∀ ks perm, Γ.kws.contains (f, ks, perm) = true → KwB fd (d.ps fn) ks perm
  exs : ∀ ns tab, Γ.exs.contains (ns, tab) = true → ∃ us, ResL mg ns us ∧ us.all isClsV = true ∧ us.length ≤ LINE ∧ TabI K tab us ∧ TabX K tab us
  mks : ∀ c f, Γ.mks.contains (c, f) = true → (∃ B newId i bmB, XIn K P (He.ga K c) f B newId i bmB) ∧ mg c = some (.ref (He.ga K c)) ∧ PySem.W.keepIn K (.ref (He.ga K c)) = true
  fds : ∀ f cs, Γ.fds.contains (f, cs) = true → FldOk K f cs
section
variable {P : Program} {w : World} {K : PySem.W.Frag} {mg : Str → Option Value} {base : Heap} {Γ : Ctx} {T : Tab}
theorem callF_len {φ : Str → List Val → M Val} {f : Fn} {ws : List Val} {μ : Sto} {r : Out Val × Sto} (h : callF φ f ws μ = some r) : ws.length = f.np := by
  unfold callF at h
  split at h
  · rename_i e; exact Nat.eq_of_beq_eq_true e
  · cases h
theorem callK_len {k : Nat} {f : Str} {fn : Fn} (hf : T.lookup f = some fn) {ws : List Val} {μ : Sto} {r : Out Val × Sto} (h : callK T k f ws μ = some r) : ws.length = fn.np := by
  cases k with
  | zero => unfold callK at h; cases h
  | succ k =>
    unfold callK at h
    rw [hf] at h
    exact callF_len h
/-- the names at the entry -/
theorem env_start {m : Mp} {B : List Addr} {H : Hp} {vs : List V} {ws : List Val} (N : List Str) (r : RVals K m B H vs ws) : REnv K m B H (L2.start N vs) (ws.map some ++ List.replicate (N.length - ws.length) none) := by
  have hl := r.length
  refine ⟨?_, fun i v h => ?_⟩
  · unfold L2.start
    simp only [List.length_append, List.length_map, List.length_replicate, hl]
  · unfold L2.start
    by_cases hi : i < ws.length
    · rw [List.getElem?_append_left (by simpa using hi), List.getElem?_map] at h
      rw [List.getElem?_append_left (by simpa [hl] using hi), List.getElem?_map]
      cases e : ws[i]? with
      | none => rw [e] at h; cases h
      | some u =>
        rw [e] at h
        cases h
        obtain ⟨v', h1, h2⟩ := r.get e
        exact ⟨v', by rw [h1]; rfl, h2⟩
    · rw [List.getElem?_append_right (by simpa using hi), List.getElem?_replicate] at h
      split at h <;> cases h
/-- a def's result leaves -/
theorem seal_ok {E : XK} {B : List Addr} {m : Mp} {H : Hp} {μ : Sto} {Q : VK} {fn : Fn} {φ : Str → List Val → M Val} {ws : List Val} (hr : Rel K m B μ H) (hw : ws.length = fn.np)
    (h : Sat K E B (RV K B) m H μ (callF φ fn ws) Q) : SatS K E B { nx := fun _ H' => Q .non H', rt := Q } m H μ (exec φ fn.body (ws.map some ++ List.replicate (fn.nn - ws.length) none)) := by
  obtain ⟨o, μ', e, h⟩ := h
  unfold callF at e
  have hb : Nat.beq ws.length fn.np = true := by rw [hw]; exact Nat.beq_refl _
  rw [hb] at e
  simp only at e
  generalize exec φ fn.body (ws.map some ++ List.replicate (fn.nn - ws.length) none) = x at e ⊢
  unfold SatS
  unfold M.bind at e
  cases hx : x μ with
  | none => simp only [M.bind, cutE, hx] at e; cases e
  | some p =>
    obtain ⟨p1, μ1⟩ := p
    refine ⟨p1, μ1, rfl, ?_⟩
    cases p1 with
    | er z =>
      intro c dd H' m' t r rx
      simp only [M.bind, cutE, hx] at e
      cases hk : fn.keep with
      | true =>
        rw [hk] at e
        cases e
        exact h c dd H' m' t r rx
      | false =>
        rw [hk] at e
        cases e
        have hml : m.length = μ.length := hr.len
        refine h c dd H' (m'.take m.length) (tra_take t) (by rw [hml]; exact r.take _) ⟨rx.1, ?_⟩
        have rx2 := rx.2
        split at rx2
        · exact rx2
        · obtain ⟨p, v, a1, a2, a3, a4⟩ := rx2
          exact ⟨p, v, a1, a2, nlive_take a3, a4.take⟩
        · exact rx2.elim
    | ok fl =>
      have fin : ∀ w, (match fn.keep with
          | true => M.pure w
          | false => sealV μ.length w) μ1 = some (o, μ') → ∀ v H' m', Tra m H m' H' → Rel K m' B μ1 H' → RVal K m' B H' v w → Q v H' := by
        intro w ew v H' m' t r rv
        cases hk : fn.keep with
        | true =>
          rw [hk] at ew
          cases ew
          exact h v H' m' t r rv
        | false =>
          rw [hk] at ew
          have hml : m.length = μ.length := hr.len
          cases rv with
          | exc0 _ _ => cases ew
          | exc1 _ _ _ _ _ => cases ew
          | dat rd =>
            cases ew
            refine h v H' (m'.take m.length) (tra_take t) ?_ (.dat rd.take)
            rw [hml]
            exact r.take _
          | ref hn =>
            rename_i n a
            simp only [sealV] at ew
            cases hc : μ1[n]? with
            | none => rw [hc] at ew; cases ew
            | some c =>
              cases c with
              | dead => rw [hc] at ew; cases ew
              | lst ds =>
                rw [hc] at ew
                cases ew
                have hn : m'[n]? = some (some a) := by
                  rcases hn with hn | hn
                  · exact hn
                  · have := r.ded n hn
                    rw [hc] at this; cases this
                have hlt : n < m'.length := (List.getElem?_eq_some_iff.mp hn).1
                obtain ⟨c, e1, e2⟩ := r.cel n a hn
                rw [hc] at e1
                cases e1
                obtain ⟨xs, f1, f2, f3⟩ := e2
                have r2 := r.kill hlt
                have t2 : Tra m H (m'.set n none) H' := t.trans (tra_kill n)
                refine h _ H' ((m'.set n none).take m.length) (tra_take t2) (by rw [hml]; exact r2.take _) (.dat (RD.take (.lst f1 f2 ?_ ?_ (f3.mono (tra_kill n)))))
                · rintro ⟨j, hj⟩
                  by_cases ej : n = j
                  · subst ej; rw [List.getElem?_set_self hlt] at hj; cases hj
                  · rw [List.getElem?_set_ne ej] at hj
                    exact ej (r.inj n j a hn hj)
                · exact fun hb => r.bnl a hb ⟨n, hn⟩
      cases fl with
      | nx ρ' =>
        simp only [M.bind, cutE, hx, flVal, M.dat, M.pure] at e
        exact fun σ' H' m' t a => fin (.dat .non) e _ H' m' t a.rel (.dat .non)
      | rt v =>
        simp only [M.bind, cutE, hx, flVal, M.pure] at e
        exact fun v' H' m' t r rv => fin v e v' H' m' t r rv
      | bk ρ' => simp only [M.bind, cutE, hx, flVal, M.fail] at e; cases e
      | ct ρ' => simp only [M.bind, cutE, hx, flVal, M.fail] at e; cases e
theorem sp_none {n : Nat} {vs : List V} {H : Hp} {Q : VK} {E : XK} {g : List Val → M Val} (hg : ∀ ws μ, g ws μ = none) (h : spF K n g vs H Q E) : False := by
  obtain ⟨m, B, μ, ws, _, _, _, o, μ', e, _⟩ := h
  rw [hg] at e; cases e
/-- every def keeps what its IR says, whatever the depth -/
theorem fn_all (g : Glob P K mg Γ T) : ∀ (k : Nat) (f : Str) (fn : Fn) (d : Df) (ad : Addr) (fd : FuncData), T.lookup f = some fn → FunD K f f d.par d.body d.sc [] [] ad fd → chkD Γ d fn = true →
    FnOk P w K mg base (L2.CX P w) (k + 2) ad fd (d.ps fn) (spF K fn.np (callK T k f))
  | 0, f, fn, d, ad, fd, hT, F, hc => ⟨fun vs H Q E h => (sp_none (fun _ _ => by unfold callK; rfl) h).elim, fun A outer s H args us vs Q E _ _ _ _ h => (sp_none (fun _ _ => by unfold callK; rfl) h).elim⟩
  | k + 1, f, fn, d, ad, fd, hT, F, hc => by
    unfold chkD at hc
    simp only [Bool.and_eq_true] at hc
    obtain ⟨⟨⟨c1, c2⟩, c3⟩, c4⟩ := hc
    have hps : (d.ps fn).length = fn.np := by
      unfold Df.ps
      rw [List.length_take]
      have := Nat.le_of_ble_eq_true c2
      omega
    have hnn : fn.nn = d.N.length := Nat.eq_of_beq_eq_true c3
    refine F.ok (C8.fnScope_by c1) (fun vs H Q E h => ?_) (fun cdv A outer s H vs Q E hr h => ?_)
    · obtain ⟨m, B, μ, ws, _, r, hl, _⟩ := h
      rw [r.length, hl, hps]
    · obtain ⟨m, B, μ, ws, rel, r, hl, hs⟩ := h
      refine ⟨LS K (fun _ => E) (exec (callK T k) fn.body), ?_, ?_⟩
      · have tak : Takes (cxOf (L2.CX P w) P w K mg base d.N f d.sc ad cdv A outer s H E) fun cls d _ H => E cls d H := takes_of rfl rfl rfl rfl
        refine (sndS_all (CX := L2.CX P w) (Γ := Γ) (φ := callK T k) (k := k) fn.body).all true ⟨d.N, d.sc, fun _ => true⟩ (fun _ => E) _ d.body c4 ⟨⟨rfl, rfl, (C8.fnScope_by c1).nd, rfl, rfl, hr, rfl, tak, fun σ => passAt tak σ, ?_, g.free, g.cst, fun f' n hf => ?_, g.exs, g.mks, g.fds⟩, (C8.fnScope_by c1).kind, passes_of rfl, fun _ _ _ => rfl, rfl, rfl, rfl⟩ rfl
        · intro Y _ _ σ pins H2 s2 e s' I c
          obtain ⟨_, _, _, _, _, _, _, _, _, _, _, _, z⟩ := c
          exact z.elim
        obtain ⟨fn', d', ad', fd', q1, q2, q3, q4, q5, q6, q7⟩ := g.fns f' n hf
        subst q2
        exact ⟨ad', fd', d'.ps fn', q4, q3.kp, q5, fn_all g k f' fn' d' ad' fd' q1 q3 q6, fun ws μ r e => callK_len q1 e, q7⟩
      · have e : callK T (k + 1) f = callF (callK T k) fn := by
          funext vs
          show (match T.lookup f with
            | some fn => callF (callK T k) fn vs
            | none => M.fail) = _
          rw [hT]
        rw [e] at hs
        refine ⟨_, m, B, μ, ⟨env_start d.N r, rel⟩, ?_⟩
        have z := seal_ok (E := E) rel hl hs
        rw [hnn] at z
        exact z
end
end G
set_option Elab.async false
set_option linter.all false
set_option maxRecDepth 100000
set_option maxHeartbeats 2000000
/-! G19b: what the head must tell of the classes of errors. -/
namespace G
open PySem L2
/-- the built-in class below an error with an own __init__ -/
inductive XB where
  | ve | lk
def XB.nm : XB → String
  | .ve => "ValueError" | .lk => "LookupError"
def XB.new : XB → String
  | .ve => "ValueError.__new__" | .lk => "LookupError.__new__"
def XB.init : XB → String
  | .ve => "ValueError.__init__" | .lk => "LookupError.__init__"
def XB.bm (b : XB) : List Value := [.type b.nm, .type "Exception", .type "BaseException", .type "object"]
theorem XB.fac : ∀ b : XB, ExcBaseFacts b.nm b.new b.init b.bm
  | .ve => PySem.F.excBase_ValueError
  | .lk => PySem.F.excBase_LookupError
theorem XB.kxs : ∀ b : XB, PySem.W.KxsFacts b.nm b.init
  | .ve => PySem.W.kxs_ValueError
  | .lk => PySem.W.kxs_LookupError
theorem XB.sto : ∀ b : XB, StoreFacts b.nm b.bm "object.__setattr__" "object"
  | .ve => PySem.F.store_ValueError
  | .lk => PySem.F.store_LookupError
/-- an error with an own __init__ -/
structure XD where
  cls : Str
  fld : Str
  base : XB
  par : Arguments
  body : List Stmt
  sc : Scope
def XD.statB (x : XD) : Bool := xBody x.fld x.body && (match (x.par.posonlyargs ++ x.par.args).head? with
  | some ar => ar.arg == ("self" : Str)
  | none => false) && decide (x.sc.names.lookup ("self" : Str) = some .local) && decide (x.sc.names.lookup x.fld = some .local) && decide (x.sc.names.lookup ("super" : Str) = some .globalImplicit) && decide (x.sc.names.lookup ("__class__" : Str) = some .free) && (x.sc.names.all fun y => decide (y.2 ≠ .cell)) &&
  decide (x.sc.kind = .function) && !x.sc.isCoroutine && !x.sc.isGenerator && !(x.fld == ("self" : Str)) && !(x.fld == ("__debug__" : Str))
structure XD.Ok (x : XD) : Prop where
  st : x.statB = true
  bind : ∀ (nm qual : Str) (kV doc pm : Value) (an : Option Addr) (cda : Addr) (ct : Value) (cc : Addr) (a u : Value), bindArgs (PySem.W.ksFn nm qual x.par x.body x.sc .none kV doc pm an (.ref cda) ct cc) ⟨[a, u], []⟩ = pure [(("self" : Str), a), (x.fld, u)]
section
variable (K : PySem.W.Frag) (P : Program)
/-- the def __init__ of a class -/
def xFd (c : Str) : Option FuncData := match PySem.W.findIn K (.ref (He.ga K c)) "__init__" with
  | some (some (.ref f)) => (match K.lookup f with
    | some ⟨_, _, .func fd, _⟩ => some fd
    | _ => none)
  | _ => none
def xob (c : Str) : Option (Arguments × List Stmt × Scope) := match xFd K c with
  | some fd => (match fd.body with
    | .stmts b => some (fd.params, b, fd.scope)
    | _ => none)
  | none => none
def cellB (C : Addr) (cl : List (Str × Addr)) : Bool := match cl with
  | [(n, cc)] => n == ("__class__" : Str) && (match K.lookup cc with
    | some ⟨_, _, .cell (some v), _⟩ => decide (v = .ref C)
    | _ => false)
  | _ => false
def codB (fd : FuncData) : Bool := match fd.code with
  | .ref cda => PySem.W.codeIn K (.ref cda) fd.qualname && (match K.lookup cda with
    | some ⟨_, _, .fields vs, _⟩ => (match vs[2]? with
      | some (Value.str file _) => (P.main.file : Str) == file
      | _ => false)
    | _ => false)
  | _ => false
def xfdB (C : Addr) (fd : FuncData) : Bool := decide (fd.globals = mainGlobals) && decide (fd.builtins = builtinsNs) && decide (fd.defaults = .none) && cellB K C fd.closure && codB K P fd
def xfB (x : XD) : Bool := (match PySem.W.findIn K (.ref (He.ga K x.cls)) "__init__" with
  | some (some (.ref f)) => PySem.W.isFn K (.ref f)
  | _ => false) && (match xFd K x.cls with
  | some fd => xfdB K P (He.ga K x.cls) fd
  | none => false) && (PySem.W.clsIn K (He.ga K x.cls)).isSome && PySem.W.excInitIn K (He.ga K x.cls) x.base.bm x.base.new && decide (PySem.W.mroIn K (He.ga K x.cls) (.ref (He.ga K x.cls)) = some true) && decide (PySem.W.nsIn K mainGlobals "super" = some none) && !(P.main.scope.names.lookup ("super" : Str)).isSome &&
  decide (PySem.W.nsIn K cStatics "thirdparty.any" = some none) && decide (PySem.W.ks_superIn K (He.ga K x.cls) (He.ga K x.cls) "__init__" = some (some (.builtin x.base.init))) && decide (PySem.W.subIn K (.ref (He.ga K x.cls)) (.type x.base.nm) = some true) &&
  decide (PySem.W.findIn K (.ref (He.ga K x.cls)) "__setattr__" = some (some (.builtin "object.__setattr__"))) && PySem.W.excOver K (He.ga K x.cls) x.base.bm && decide (PySem.W.takerIn K (He.ga K x.cls) x.fld = some none) && PySem.W.hasDictIn K (He.ga K x.cls) &&
  decide (PySem.W.subIn K (.ref (He.ga K x.cls)) (.type "BaseException") = some true) && decide (PySem.W.typeIn K (.ref (He.ga K x.cls)) = some (.type "type"))
/-- a class of errors that is asked for -/
def xclB (C : Addr) : Bool := (PySem.W.clsIn K C).isSome && decide (PySem.W.findIn K (.ref C) "__getattribute__" = some (some (.builtin "BaseException.__getattribute__"))) && decide (PySem.W.findIn K (.ref C) "__getattr__" = some none) && decide (PySem.W.subIn K (.ref C) (.type "BaseException") = some true) &&
  decide (PySem.W.findIn K (.ref C) "__class__" = some (some (.builtin "object.__class__"))) && decide (PySem.W.specialIn K (.builtin "object.__class__") "__get__" = some (some (.builtin "getset_descriptor.__get__"))) && decide (PySem.W.takesIn K (.builtin "object.__class__") = some true) && decide (PySem.W.mroIn K C (.type "object") = some true) && PySem.W.hasDictIn K C
def resB (y : Str) : Option Value := match PySem.W.nsIn K mainGlobals y with
  | some (some u) => some u
  | some none => if y = "__name__" then none else bootBuiltins y
  | none => none
def resL : List Str → Option (List Value)
  | [] => some []
  | y :: ys => match resB K y, resL ys with
    | some u, some us => some (u :: us)
    | _, _ => none
def exsB (p : List Str × List (Str × Bool)) : Bool := match resL K p.1 with
  | some us => us.all isClsV && Nat.ble us.length LINE && p.2.all fun q => xclB K (He.ga K q.1) && decide (PySem.W.kitAny K (.ref (He.ga K q.1)) us = some q.2) && decide (PySem.W.exmAny K (.ref (He.ga K q.1)) us = some q.2)
  | none => false
def fdsB (p : Str × List Str) : Bool := p.2.all fun c => xclB K (He.ga K c) && decide (PySem.W.findIn K (.ref (He.ga K c)) p.1 = some none)
end
section
variable {K : PySem.W.Frag} {P : Program}
theorem xclB_ok {C : Addr} (h : xclB K C = true) : XCl K C := by
  unfold xclB at h
  simp only [Bool.and_eq_true, decide_eq_true_eq] at h
  obtain ⟨⟨⟨⟨⟨⟨⟨⟨h1, h2⟩, h3⟩, h4⟩, h5⟩, h6⟩, h7⟩, h8⟩, h9⟩ := h
  exact ⟨h1, h2, h3, h4, h5, h6, h7, h8, h9⟩
theorem res_ok {h : Heap} {mg : Str → Option Value} (X : K.In h) (G : h.Ns mainGlobals mg) {y : Str} {u : Value} (e : resB K y = some u) : Res mg y u := by
  unfold resB at e
  split at e
  · rename_i v q
    cases e
    exact .inl (PySem.W.mg_of X G q)
  · rename_i q
    split at e
    · cases e
    · rename_i ne
      exact .inr ⟨PySem.W.mg_none_of X G q, e, ne⟩
  · cases e
theorem resL_ok {h : Heap} {mg : Str → Option Value} (X : K.In h) (G : h.Ns mainGlobals mg) : ∀ {ys : List Str} {us : List Value}, resL K ys = some us → ResL mg ys us
  | [], us, e => by
    cases e
    exact True.intro
  | y :: ys, us, e => by
    unfold resL at e
    split at e
    · rename_i u vs q1 q2
      cases e
      exact ⟨res_ok X G q1, resL_ok X G q2⟩
    · cases e
theorem mem_of_look {c : Str} {b : Bool} : ∀ {l : List (Str × Bool)}, l.lookup c = some b → (c, b) ∈ l
  | [], h => by cases h
  | (y, e) :: l, h => by
    rw [List.lookup_cons] at h
    cases hb : c == y with
    | true =>
      rw [hb] at h
      cases h
      rw [beq_iff_eq.mp hb]
      exact List.mem_cons_self ..
    | false =>
      rw [hb] at h
      exact List.mem_cons_of_mem _ (mem_of_look h)
theorem exsB_ok {h : Heap} {mg : Str → Option Value} (X : K.In h) (G : h.Ns mainGlobals mg) {ns : List Str} {tab : List (Str × Bool)} (e : exsB K (ns, tab) = true) : ∃ us, ResL mg ns us ∧ us.all isClsV = true ∧ us.length ≤ LINE ∧ TabI K tab us ∧ TabX K tab us := by
  unfold exsB at e
  split at e
  · rename_i us q
    simp only [Bool.and_eq_true] at e
    obtain ⟨⟨e1, e2⟩, e3⟩ := e
    have e3 := List.all_eq_true.mp e3
    refine ⟨us, resL_ok X G q, e1, Nat.le_of_ble_eq_true e2, fun c b l => ?_, fun c b l => ?_⟩
    · have z := e3 _ (mem_of_look l)
      simp only [Bool.and_eq_true, decide_eq_true_eq] at z
      exact ⟨xclB_ok z.1.1, z.1.2⟩
    · have z := e3 _ (mem_of_look l)
      simp only [Bool.and_eq_true, decide_eq_true_eq] at z
      exact z.2
  · cases e
theorem fdsB_ok {f : Str} {cs : List Str} (e : fdsB K (f, cs) = true) : FldOk K f cs := fun c hc => by
  have z := List.all_eq_true.mp e c (by simpa using hc)
  simp only [Bool.and_eq_true, decide_eq_true_eq] at z
  exact ⟨xclB_ok z.1, z.2⟩
theorem xin_of {x : XD} (ok : x.Ok) (ho : xob K x.cls = some (x.par, x.body, x.sc)) (hf : xfB K P x = true) : XIn K P (He.ga K x.cls) x.fld x.base.nm x.base.new x.base.init x.base.bm := by
  unfold xfB at hf
  simp only [Bool.and_eq_true, decide_eq_true_eq, Bool.not_eq_true'] at hf
  obtain ⟨⟨⟨⟨⟨⟨⟨⟨⟨⟨⟨⟨⟨⟨⟨h0, h1⟩, h2⟩, h3⟩, h4⟩, h5⟩, h6⟩, h7⟩, h8⟩, h9⟩, h10⟩, h11⟩, h12⟩, h13⟩, h14⟩, h15⟩ := hf
  have st := ok.st
  unfold XD.statB at st
  simp only [Bool.and_eq_true, decide_eq_true_eq, Bool.not_eq_true'] at st
  obtain ⟨⟨⟨⟨⟨⟨⟨⟨⟨⟨⟨s1, s2⟩, s3⟩, s4⟩, s5⟩, s6⟩, s7⟩, s8⟩, s9⟩, s10⟩, s11⟩, s12⟩ := st
  refine ⟨x.base.fac, x.base.kxs, x.base.sto, ?_, h3, h4, h5, h6, h7, h8, h9, h10, h11, h12, h13, h14, h15, by simpa using s11, s12⟩
  unfold xob at ho
  split at ho
  · rename_i fd qf
    rw [qf] at h1
    split at ho
    · rename_i b qb
      simp only [Option.some.injEq, Prod.mk.injEq] at ho
      obtain ⟨o1, o2, o3⟩ := ho
      have h1 : xfdB K P (He.ga K x.cls) fd = true := h1
      unfold xfdB at h1
      simp only [Bool.and_eq_true, decide_eq_true_eq] at h1
      obtain ⟨⟨⟨⟨g1, g2⟩, g0⟩, g3⟩, g4⟩ := h1
      unfold xFd at qf
      split at qf
      · rename_i f q0
        rw [q0] at h0
        split at qf
        · rename_i oc od fd' osl lk
          cases qf
          unfold cellB at g3
          split at g3
          · rename_i n cc gcl
            simp only [Bool.and_eq_true, beq_iff_eq] at g3
            obtain ⟨g5, g6⟩ := g3
            subst g5
            split at g6
            · rename_i cl cld v csl lkc
              have g6 := of_decide_eq_true g6
              subst g6
              unfold codB at g4
              split at g4
              · rename_i cda gco
                simp only [Bool.and_eq_true] at g4
                obtain ⟨g7, g8⟩ := g4
                split at g8
                · rename_i ccl cdd vs ccs lkd
                  split at g8
                  · rename_i file tf gv
                    obtain ⟨cd, hcd⟩ := Option.isSome_iff_exists.mp h2
                    split at s2
                    · rename_i ar har
                      obtain ⟨fn, fq, fp, fb, fs, fg, fcl, fdv, fkv, fdoc, fpm, fan, fco, fct, fbl⟩ := fd
                      simp only at g0 g1 g2 gcl gco qb g7 o1 o2 o3
                      subst g0 g1 g2 gcl gco qb o1 o2 o3
                      have bd := ok.bind fn fq fkv fdoc fpm fan cda fct cc
                      exact ⟨f, cc, cda, fn, fq, _, _, _, .none, fkv, fdoc, fpm, fct, oc, ccl, cl, fan, od, cdd, cld, osl, ccs, csl, vs, file, tf, cd, ar, q0, h0, lk, g7, s1, har, beq_iff_eq.mp s2, bd, s3, s4, s5, s6, fun y hy => of_decide_eq_true (List.all_eq_true.mp s7 y hy), s8, s9, s10, lkd, gv, g8, lkc, hcd⟩
                    · cases s2
                  · cases g8
                · cases g8
              · cases g4
            · cases g6
          · cases g3
        · cases qf
      · cases qf
    · cases ho
  · cases ho
end
end G
set_option Elab.async false
set_option linter.all false
set_option maxRecDepth 100000
set_option maxHeartbeats 2000000
/-! G20: what the head tells of the module, and the end of a law. -/
namespace G
open PySem L2
mutual
/-- a value of the module's own objects is this data -/
def valB (K : PySem.W.Frag) : D → Value → Bool
  | .non, .none => true
  | .bl b, .bool c => b == c
  | .int i, .int j _ => i == j
  | .str x, .str y _ => x == y && PyData.strOk x && Nat.ble x.length LINE
  | .tup ds, .ref a => (match K.lookup a with
    | some ⟨.type c, _, .seq its _, _⟩ => decide (c = "tuple") && (decide (its.size ≤ sizeLine) && valsB K ds its.toList)
    | _ => false)
  | _, _ => false
def valsB (K : PySem.W.Frag) : List D → List Value → Bool
  | [], [] => true
  | d :: ds, v :: vs => valB K d v && valsB K ds vs
  | _, _ => false
end
mutual
theorem valB_ok {K : PySem.W.Frag} : ∀ (d : D) (u : Value), valB K d u = true → ∃ v, RelV v u ∧ ∀ m B H, RD K m B H v d
  | .non, u, h => by
    cases u <;> simp [valB] at h
    exact ⟨.non, rfl, fun _ _ _ => .non⟩
  | .bl b, u, h => by
    cases u <;> simp [valB] at h
    subst h
    exact ⟨.bl _, rfl, fun _ _ _ => .bl _⟩
  | .int i, u, h => by
    cases u <;> simp [valB] at h
    subst h
    exact ⟨.int _, ⟨_, rfl⟩, fun _ _ _ => .int _⟩
  | .str x, u, h => by
    cases u <;> simp [valB] at h
    obtain ⟨⟨h1, h2⟩, h3⟩ := h
    subst h1
    exact ⟨.str _, ⟨_, rfl⟩, fun _ _ _ => .str _ h2 (by simpa using h3)⟩
  | .tup ds, u, h => by
    cases u with
    | ref a =>
      simp only [valB] at h
      split at h
      · rename_i c od its n sl lk
        simp only [Bool.and_eq_true, decide_eq_true_eq] at h
        obtain ⟨h1, h2, h3⟩ := h
        obtain ⟨vs, r, k⟩ := valsB_ok ds its.toList h3
        refine ⟨.ref a, rfl, fun m B H => .tup (.inr ⟨_, its, n, lk, congrArg Value.type h1, rfl, h2, r⟩) ?_ (k m B H)⟩
        rw [r.length, Array.length_toList]
        rw [sizeLine_eq] at h2
        exact h2
      · cases h
    | _ => simp [valB] at h
  | .lst ds, u, h => by cases u <;> simp [valB] at h
  | .frz ds, u, h => by cases u <;> simp [valB] at h
theorem valsB_ok {K : PySem.W.Frag} : ∀ (ds : List D) (us : List Value), valsB K ds us = true → ∃ vs, Vals vs us ∧ ∀ m B H, RDs K m B H vs ds
  | [], us, h => by
    cases us with
    | nil => exact ⟨[], .nil, fun _ _ _ => .nil⟩
    | cons _ _ => simp [valsB] at h
  | d :: ds, us, h => by
    cases us with
    | nil => simp [valsB] at h
    | cons u us =>
      simp only [valsB, Bool.and_eq_true] at h
      obtain ⟨v, a1, a2⟩ := valB_ok d u h.1
      obtain ⟨vs, b1, b2⟩ := valsB_ok ds us h.2
      exact ⟨v :: vs, .cons a1 b1, fun m B H => .cons (a2 m B H) (b2 m B H)⟩
end
theorem all_cons {α : Type} {p : α → Prop} {a : α} {l : List α} (h : p a) (t : ∀ x ∈ l, p x) : ∀ x ∈ a :: l, p x := fun x hx => by
  rcases List.mem_cons.mp hx with rfl | hx
  · exact h
  · exact t x hx
theorem all_nil {α : Type} {p : α → Prop} : ∀ x ∈ ([] : List α), p x := fun _ h => nomatch h
/-- the first def of a class -/
def clsDef : Stmt → Stmt
  | .ClassDef _ _ _ body _ _ _ _ _ _ _ => body.getD 0 (.Pass ⟨0, 0, 0, 0⟩)
  | s => s
def cstB (K : PySem.W.Frag) (p : Str × D) : Bool := match PySem.W.nsIn K mainGlobals p.1 with
  | some (some u) => valB K p.2 u
  | _ => false
/-- a def with its IR -/
abbrev Ent := Df × Fn
def Df.dd (d : Df) : He.DefD := ⟨(d.name, none), d.name, d.name, d.par, d.body, d.sc, [], []⟩
/-- the module as it is foreseen -/
structure Mod where
  ents : List Ent
  free : List Str
  cst : List (Str × D)
  kws : List (Str × List Str × List Nat)
  prog : Program
  exs : List (List Str × List (Str × Bool))
  xds : List XD
  fds : List (Str × List Str)
def Mod.ctx (Z : Mod) : Ctx := ⟨Z.free, Z.cst, Z.ents.map fun e => (e.1.name, e.2.np), Z.kws, Z.exs, Z.xds.map fun x => (x.cls, x.fld), Z.fds⟩
def Mod.tab (Z : Mod) : Tab := Z.ents.map fun e => (e.1.name, e.2)
def Mod.facts (Z : Mod) (K : PySem.W.Frag) : Bool := (Z.free.all fun x => (He.Fa.free x).ok K) && ((Z.ents.all fun e => (He.Fa.glo e.1.name).ok K) && (Z.cst.all (cstB K) && ((Z.exs.all (exsB K)) && ((Z.fds.all (fdsB K)) && Z.xds.all fun x => (He.Fa.glo x.cls).ok K && PySem.W.keepIn K (.ref (He.ga K x.cls)) && xfB K Z.prog x))))
def Mod.fn (Z : Mod) : List He.DefD := Z.ents.map fun e => e.1.dd
abbrev AlG : Type := Bool × He.AlD × List (Option (Arguments × List Stmt × Scope))
def Mod.obs (Z : Mod) (n : Nat) (g : Addr → Option Obj) : AlG := (Z.facts (He.frG g (cStatics :: He.asD g n)), He.obsD [] Z.fn (He.frG g (cStatics :: He.asD g n)), Z.xds.map fun x => xob (He.frG g (cStatics :: He.asD g n)) x.cls)
def Mod.hook (Z : Mod) (n : Nat) : PySem.W.Hook where
  α := AlG
  obs := fun s => Z.obs n s.heap.get?
  val := fun _ => (true, He.valD Z.fn, Z.xds.map fun x : XD => some (x.par, x.body, x.sc))
  says := fun _ h => ∃ K : PySem.W.Frag, K.In h ∧ Z.facts K = true ∧ He.SaysD [] Z.fn K ∧ (Z.xds.map fun x => xob K x.cls) = Z.xds.map fun x => some (x.par, x.body, x.sc)
  of := fun _ _ e => ⟨_, He.frG_in, congrArg (fun z : AlG => z.1) e, congrArg (fun z : AlG => z.2.1) e, (congrArg (fun z : AlG => z.2.2) e :)⟩
  keeps := fun _ _ _ ⟨K, hK, c⟩ k => ⟨K, PySem.W.Frag.In.keeps hK k, c⟩
theorem Mod.obs_eq (Z : Mod) {n : Nat} {g : Addr → Option Obj} {s : Shared} (h : ∀ a, g a = s.heap.get? a) : Z.obs n g = (Z.hook n).obs s := by
  have e : g = s.heap.get? := funext h
  rw [e]; rfl
/-- how a def is called -/
def Ent.binds (e : Ent) : Prop := ∀ (kV doc pm : Value) (an : Option Addr) (cdv ct : Value) (us : List Value), us.length = (e.1.ps e.2).length →
  bindArgs (PySem.W.fnOf e.1.name e.1.name e.1.par e.1.body e.1.sc .none kV doc pm an cdv ct) ⟨us, []⟩ = pure ((e.1.ps e.2).zip us)
def Ent.kbinds (e : Ent) (ks : List Str) (perm : List Nat) : Prop := ∀ (kV doc pm : Value) (an : Option Addr) (cdv ct : Value) (us : List Value), us.length = ks.length →
  bindArgs (PySem.W.fnOf e.1.name e.1.name e.1.par e.1.body e.1.sc .none kV doc pm an cdv ct) ⟨[], ks.zip us⟩ = pure ((e.1.ps e.2).zip (permL perm us))
structure Mod.Ok (Z : Mod) : Prop where
  chk : ∀ e ∈ Z.ents, chkD Z.ctx e.1 e.2 = true
  binds : ∀ e ∈ Z.ents, e.binds
  kbinds : ∀ q ∈ Z.kws, ∀ e ∈ Z.ents, e.1.name = q.1 → e.kbinds q.2.1 q.2.2
  xds : ∀ x ∈ Z.xds, x.Ok
theorem ent_of : ∀ (l : List Ent) {f : Str} {n : Nat}, (l.map fun e => (e.1.name, e.2.np)).lookup f = some n → ∃ e ∈ l, e.1.name = f ∧ e.2.np = n ∧ (l.map fun e => (e.1.name, e.2)).lookup f = some e.2
  | [], f, n, h => by cases h
  | e :: l, f, n, h => by
    rw [List.map_cons, List.lookup_cons] at h
    rw [List.map_cons, List.lookup_cons]
    cases hb : f == e.1.name with
    | true =>
      rw [hb] at h
      cases h
      exact ⟨e, List.mem_cons_self .., (beq_iff_eq.mp hb).symm, rfl, rfl⟩
    | false =>
      rw [hb] at h
      obtain ⟨e', a, b, c, d⟩ := ent_of l h
      exact ⟨e', List.mem_cons_of_mem _ a, b, c, d⟩
theorem mem_of_lookup' {α : Type} {x : Str} {d : α} : ∀ {l : List (Str × α)}, l.lookup x = some d → (x, d) ∈ l
  | [], h => by cases h
  | (y, e) :: l, h => by
    rw [List.lookup_cons] at h
    cases hb : x == y with
    | true =>
      rw [hb] at h
      cases h
      rw [beq_iff_eq.mp hb]
      exact List.mem_cons_self ..
    | false =>
      rw [hb] at h
      exact List.mem_cons_of_mem _ (mem_of_lookup' h)
section
variable {P : Program} {w : World} {K : PySem.W.Frag} {h : Heap} {mg : Str → Option Value} {Z : Mod}
theorem map_at {α β : Type} {f g : α → β} : ∀ {l : List α}, l.map f = l.map g → ∀ x ∈ l, f x = g x
  | [], _, x, h => nomatch h
  | y :: l, e, x, h => by
    rw [List.map_cons, List.map_cons] at e
    injection e with e1 e2
    rcases List.mem_cons.mp h with rfl | h
    · exact e1
    · exact map_at e2 x h
theorem Mod.glob (ok : Z.Ok) (X : K.In h) (G : h.Ns mainGlobals mg) (hf : Z.facts K = true) (c : He.SaysD [] Z.fn K) (hx : (Z.xds.map fun x => xob K x.cls) = Z.xds.map fun x => some (x.par, x.body, x.sc)) : Glob Z.prog K mg Z.ctx Z.tab := by
  unfold Mod.facts at hf
  simp only [Bool.and_eq_true, List.all_eq_true] at hf
  obtain ⟨f1, f2, f3, f4, f5, f6⟩ := hf
  have hob := map_at hx
  refine ⟨fun x hx => ?_, fun x d hx => ?_, fun f n hx => ?_, fun ns tab hx => exsB_ok X G (f4 _ (by simpa [Mod.ctx] using hx)), fun c f hx => ?_, fun f cs hx => fdsB_ok (f5 _ (by simpa [Mod.ctx] using hx))⟩
  rotate_left 3
  · have hx : (c, f) ∈ Z.xds.map fun x => (x.cls, x.fld) := by simpa [Mod.ctx] using hx
    obtain ⟨x, hm, e⟩ := List.mem_map.mp hx
    cases e
    have q := f6 x hm
    exact ⟨⟨_, _, _, _, xin_of (ok.xds x hm) (hob x hm) q.2⟩, He.glo_ok X G q.1.1, q.1.2⟩
  · exact He.free_ok X G (f1 x (by simpa [Mod.ctx] using hx))
  · have q := f3 _ (mem_of_lookup' hx)
    unfold cstB at q
    split at q
    · rename_i u e
      obtain ⟨v, a, b⟩ := valB_ok _ _ q
      exact ⟨v, u, PySem.W.mg_of X G e, a, b⟩
    · cases q
  · obtain ⟨e, he, e1, e2, e3⟩ := ent_of Z.ents hx
    obtain ⟨i, hi⟩ := List.getElem?_of_mem he
    have hd : Z.fn[i]? = some e.1.dd := by
      unfold Mod.fn
      rw [List.getElem?_map, hi]; rfl
    obtain ⟨fd, F⟩ := c.def_ i hd
    have F : FunD K e.1.name e.1.name e.1.par e.1.body e.1.sc [] [] (He.ga K e.1.name) fd := F
    subst e1
    refine ⟨e.2, e.1, _, fd, e3, e2, F, He.glo_ok X G (f2 e he), F.bindsN (ok.binds e he), ok.chk e he, fun ks perm hk s us hl => ?_⟩
    obtain ⟨oc, od, dV, kV, doc, pm, an, cdv, ct, osl, rfl, lk, hcd, hD, hK⟩ := F.ex
    rcases hD with ⟨_, rfl⟩ | ⟨z, _⟩
    · exact .of_eq (ok.kbinds (e.1.name, ks, perm) (by simpa [Mod.ctx] using hk) e he rfl kV doc pm an cdv ct us hl)
    · exact absurd rfl z
/-- the law's def keeps its promise, where its IR is true of every script -/
theorem Mod.law (ok : Z.Ok) (X : K.In h) (G : h.Ns mainGlobals mg) (hf : Z.facts K = true) (c : He.SaysD [] Z.fn K) (hx : (Z.xds.map fun x => xob K x.cls) = Z.xds.map fun x => some (x.par, x.body, x.sc)) {fa : Addr} {k n : Nat} {x y : Str} {e : Ent} (he : Z.tab.lookup x = some e.2) (hn : e.1.name = x) (hm : e ∈ Z.ents) (hp : e.1.ps e.2 = [y]) (hfa : mg x = some (.ref fa))
    (hT : ∀ ns : List Int, ns.length ≤ n → ∃ μ', callK Z.tab k x [.dat (.frz (ns.map .int))] [] = some (.ok (.dat (.bl true)), μ')) (hn2 : n ≤ LINE) :
    ∃ (fd : FuncData), (∀ (s : Shared) (u : Value), BindsTo s fd ⟨[u], []⟩ [(y, u)]) ∧ (∀ (H : Hp) (a : Addr) (ns : List Int), ns.length ≤ n → Only H → SqL K H a (ns.map V.int) → spF K 1 (callK Z.tab k x) [.ref a] H (fun v _ => v = .bl true) fun _ _ _ => False) ∧
      ∀ base : Heap, K.In base → base.Ns mainGlobals mg → FnOk Z.prog w K mg base C8.CX0 (k + 2) fa fd [y] (fun vs H Q E => spF K 1 (callK Z.tab k x) vs H Q fun _ _ _ => False) := by
  have hnp : e.2.np = 1 := by
    have h1 : (e.1.ps e.2).length = 1 := by rw [hp]; rfl
    have h2 := ok.chk e hm
    unfold chkD at h2
    simp only [Bool.and_eq_true] at h2
    have h3 := Nat.le_of_ble_eq_true h2.1.1.2
    unfold Df.ps at h1
    rw [List.length_take] at h1
    omega
  obtain ⟨i, hi⟩ := List.getElem?_of_mem hm
  have hd : Z.fn[i]? = some e.1.dd := by
    unfold Mod.fn
    rw [List.getElem?_map, hi]; rfl
  obtain ⟨fd, F⟩ := c.def_ i hd
  have F : FunD K e.1.name e.1.name e.1.par e.1.body e.1.sc [] [] (He.ga K e.1.name) fd := F
  have hf' := hf
  unfold Mod.facts at hf'
  simp only [Bool.and_eq_true, List.all_eq_true] at hf'
  have hg := He.glo_ok X G (hf'.2.1 e hm)
  subst hn
  rw [hfa] at hg
  cases hg
  refine ⟨fd, fun s u => ?_, fun H a ns hl hO hS => ?_, fun base _ _ => ?_⟩
  · have b := F.bindsA (ps := [y]) (fun kV doc pm an cdv ct us hl => by
      have := ok.binds e hm kV doc pm an cdv ct us (by rw [hp]; exact hl)
      rw [hp] at this
      exact this) s [u] rfl
    exact b
  · obtain ⟨μ', hμ⟩ := hT ns hl
    have rns : ∀ l : List Int, RDs K [] [] H (l.map V.int) (l.map D.int) := fun l => by
      induction l with
      | nil => exact .nil
      | cons i l ih => exact .cons (.int i) ih
    have fz : FzL K H a (ns.map V.int) := by
      rcases hS with hS | hS
      · rcases hS with q | ⟨o, q⟩
        · rcases hO a with z | ⟨o, xs, z⟩
          · rw [z] at q; cases q
          · rw [z] at q; cases q
        · exact .inl ⟨o, q⟩
      · exact .inr hS
    refine ⟨[], [], [], _, ⟨rfl, fun i j a h => (by simp at h), fun n a h => (by simp at h), fun n h => (by simp at h), fun b hb => (by cases hb), fun b hb => (by cases hb)⟩, .cons (.dat (.frz fz (by rw [List.length_map]; omega) (rns ns))) .nil, rfl, _, μ', hμ, ?_⟩
    intro b H' m' t r rv
    exact rv.bl_inv
  · have z := fn_all (P := Z.prog) (w := w) (base := base) (Z.glob ok X G hf c hx) k e.1.name e.2 e.1 _ fd he F (ok.chk e hm)
    rw [hnp, hp] at z
    refine ⟨fun vs H Q E h => z.len vs H Q _ h, fun A outer s H args us vs Q E hr he hb hv hs => ?_⟩
    refine codeAny_mono (z.run A outer s H args us vs Q _ hr he hb hv hs) fun r s' hq => ?_
    cases r with
    | error e =>
      obtain ⟨_, _, _, _, _, _, _, _, _, _, _, _, q⟩ := hq
      exact q.elim
    | ok fl => cases fl <;> exact hq
end
end G
set_option Elab.async false
set_option linter.all false
set_option maxRecDepth 100000
set_option maxHeartbeats 1000000
/-! B1: plain reasoning about the evaluator: what is true behind a run. -/
namespace G
open PySem
/-- x runs from μ without an exception, and Q is true behind it -/
def wp {α : Type} (x : M α) (Q : α → Sto → Prop) (μ : Sto) : Prop := ∃ a μ', x μ = some (.ok a, μ') ∧ Q a μ'
section
variable {α β : Type} {Q : α → Sto → Prop} {μ : Sto}
theorem wp_pure {a : α} : wp (M.pure a) Q μ ↔ Q a μ := ⟨fun ⟨b, μ', e, h⟩ => by cases e; exact h, fun h => ⟨a, μ, rfl, h⟩⟩
theorem wp_bind {x : M β} {f : β → M α} : wp (M.bind x f) Q μ ↔ wp x (fun b μ' => wp (f b) Q μ') μ := by
  constructor
  · rintro ⟨a, μ', e, h⟩
    unfold M.bind at e
    split at e
    · cases e
    · cases e
    · rename_i b μ1 hx
      exact ⟨b, μ1, hx, a, μ', e, h⟩
  · rintro ⟨b, μ1, hx, a, μ', e, h⟩
    exact ⟨a, μ', by unfold M.bind; rw [hx]; exact e, h⟩
theorem wp_dat {d : D} {Q : Val → Sto → Prop} : wp (M.dat d) Q μ ↔ Q (.dat d) μ := wp_pure
theorem wp_fail : wp (M.fail : M α) Q μ ↔ False := ⟨fun ⟨_, _, e, _⟩ => (by cases e), False.elim⟩
theorem wp_when {b : Bool} {x : M α} : wp (M.when b x) Q μ ↔ b = true ∧ wp x Q μ := by
  cases b
  · exact ⟨fun ⟨_, _, e, _⟩ => (by cases e), fun h => (by cases h.1)⟩
  · exact ⟨fun h => ⟨rfl, h⟩, fun h => h.2⟩
theorem wp_some {a : α} : wp (M.ofOpt (some a)) Q μ ↔ Q a μ := wp_pure
theorem wp_none : wp (M.ofOpt (none : Option α)) Q μ ↔ False := wp_fail
theorem wp_look {ρ : Env} {i : Nat} {v : Val} {Q : Val → Sto → Prop} (h : ρ[i]? = some (some v)) : wp (look ρ i) Q μ ↔ Q v μ := by
  have e : look ρ i = M.pure v := by
    funext μ
    unfold look
    rw [h]
    rfl
  rw [e]; exact wp_pure
theorem wp_cell {n : Nat} {c : Cell} {Q : Cell → Sto → Prop} (h : μ[n]? = some c) : wp (cellAt n) Q μ ↔ Q c μ := by
  have e : cellAt n μ = some (.ok c, μ) := by
    unfold cellAt
    rw [h]
  exact ⟨fun ⟨a, μ', e', q⟩ => by rw [e] at e'; cases e'; exact q, fun q => ⟨c, μ, e, q⟩⟩
theorem wp_set {n : Nat} {c : Cell} {Q : Unit → Sto → Prop} : wp (setCell n c) Q μ ↔ Q () (μ.set n c) := ⟨fun ⟨_, _, e, q⟩ => by cases e; exact q, fun q => ⟨_, _, rfl, q⟩⟩
theorem wp_new {c : Cell} {Q : Val → Sto → Prop} : wp (newCell c) Q μ ↔ Q (.ref μ.length) (μ ++ [c]) := ⟨fun ⟨_, _, e, q⟩ => by cases e; exact q, fun q => ⟨_, _, rfl, q⟩⟩
theorem wp_nox {x : M α} : wp (M.nox x) Q μ ↔ wp x Q μ := by
  constructor
  · rintro ⟨a, μ', e, h⟩
    unfold M.nox at e
    split at e
    · rename_i hx
      cases e
      exact ⟨_, _, hx, h⟩
    · cases e
  · rintro ⟨a, μ', e, h⟩
    exact ⟨a, μ', by unfold M.nox; rw [e], h⟩
theorem wp.mono {x : M α} {Q' : α → Sto → Prop} (h : wp x Q μ) (q : ∀ a μ', Q a μ' → Q' a μ') : wp x Q' μ := by
  obtain ⟨a, μ', e, h⟩ := h
  exact ⟨a, μ', e, q _ _ h⟩
end
/-- what a def does with its result -/
def outM (keep : Bool) (n : Nat) (v : Val) : M Val := match keep with
  | true => M.pure v
  | false => sealV n v
theorem bind_of {α β : Type} {x : M α} {f : α → M β} {μ μ1 : Sto} {v : α} (h : x μ = some (.ok v, μ1)) : M.bind x f μ = f v μ1 := by
  unfold M.bind
  rw [h]
theorem bind_er {α β : Type} {x : M α} {f : α → M β} {μ μ1 : Sto} {e : Exc} (h : x μ = some (.er e, μ1)) : M.bind x f μ = some (.er e, μ1) := by
  unfold M.bind
  rw [h]
theorem cutE_ok {n : Nat} {k : Bool} {x : M Val} {μ μ1 : Sto} {v : Val} (h : x μ = some (.ok v, μ1)) : cutE n k x μ = some (.ok v, μ1) := by
  unfold cutE
  rw [h]
theorem cutE_er {n : Nat} {x : M Val} {μ μ1 : Sto} {e : Exc} (h : x μ = some (.er e, μ1)) : cutE n false x μ = some (.er e, μ1.take n) := by
  unfold cutE
  rw [h]
/-- a def's call -/
theorem wp_call {T : Tab} {k : Nat} {f : Str} {fn : Fn} (hf : T.lookup f = some fn) {vs : List Val} (hl : Nat.beq vs.length fn.np = true) {Q : Val → Sto → Prop} {μ : Sto}
    (h : wp (exec (callK T k) fn.body (vs.map some ++ List.replicate (fn.nn - vs.length) none)) (fun fl μ1 => wp (flVal fl) (fun v μ2 => wp (outM fn.keep μ.length v) Q μ2) μ1) μ) : wp (callK T (k + 1) f vs) Q μ := by
  obtain ⟨v, μ1, e1, a, μ', e2, q⟩ := (wp_bind (f := flVal)).mpr h
  refine ⟨a, μ', ?_, q⟩
  show (match T.lookup f with
      | some fn => callF (callK T k) fn vs
      | none => M.fail) μ = _
  rw [hf]
  show callF (callK T k) fn vs μ = _
  unfold callF
  simp only [hl]
  rw [bind_of (cutE_ok e1)]
  exact e2
/-- a def's call that lets an error out -/
theorem er_call {T : Tab} {k : Nat} {f : Str} {fn : Fn} (hf : T.lookup f = some fn) {vs : List Val} (hl : Nat.beq vs.length fn.np = true) (hk : fn.keep = false) {μ μ1 : Sto} {e : Exc}
    (h : exec (callK T k) fn.body (vs.map some ++ List.replicate (fn.nn - vs.length) none) μ = some (.er e, μ1)) : callK T (k + 1) f vs μ = some (.er e, μ1.take μ.length) := by
  show (match T.lookup f with
      | some fn => callF (callK T k) fn vs
      | none => M.fail) μ = _
  rw [hf]
  show callF (callK T k) fn vs μ = _
  unfold callF
  simp only [hl, hk]
  exact bind_er (cutE_er (bind_er h))
theorem wp_seal_dat {n : Nat} {d : D} {Q : Val → Sto → Prop} {μ : Sto} : wp (outM false n (.dat d)) Q μ ↔ Q (.dat d) (μ.take n) := ⟨fun ⟨_, _, e, q⟩ => (by cases e; exact q), fun q => ⟨_, _, rfl, q⟩⟩
theorem wp_seal_ref {n j : Nat} {ds : List D} {Q : Val → Sto → Prop} {μ : Sto} (h : μ[j]? = some (.lst ds)) : wp (outM false n (.ref j)) Q μ ↔ Q (.dat (.lst ds)) ((μ.set j .dead).take n) := by
  have e : outM false n (.ref j) μ = some (.ok (.dat (.lst ds)), (μ.set j .dead).take n) := by
    show sealV n (.ref j) μ = _
    simp only [sealV, h]
  exact ⟨fun ⟨a, μ', e', q⟩ => (by rw [e] at e'; cases e'; exact q), fun q => ⟨_, _, e, q⟩⟩
theorem wp_keep {n : Nat} {v : Val} {Q : Val → Sto → Prop} {μ : Sto} : wp (outM true n v) Q μ ↔ Q v μ := wp_pure
end G
set_option Elab.async false
set_option linter.all false
set_option maxRecDepth 100000
set_option maxHeartbeats 1000000
/-! B1b: one rule for each form of the IR. -/
namespace G
open PySem
section
variable {φ : Str → List Val → M Val} {ρ : Env} {μ : Sto} {Q : Val → Sto → Prop} {QL : List Val → Sto → Prop} {QF : Fl → Sto → Prop}
theorem w_var {i : Nat} : wp (ev φ (.var i) ρ) Q μ ↔ ∃ v, ρ[i]? = some (some v) ∧ Q v μ := by
  rw [ev]
  constructor
  · rintro ⟨a, μ', e, h⟩
    unfold look at e
    split at e
    · rename_i hv
      cases e
      exact ⟨_, hv, h⟩
    · cases e
  · rintro ⟨v, hv, h⟩
    exact (wp_look hv).mpr h
theorem w_cst {d : D} : wp (ev φ (.cst d) ρ) Q μ ↔ Q (.dat d) μ := by rw [ev]; exact wp_dat
theorem w_glo {x : Str} {d : D} : wp (ev φ (.glo x d) ρ) Q μ ↔ Q (.dat d) μ := by rw [ev]; exact wp_dat
theorem w_nil : wp (evL φ .nil ρ) QL μ ↔ QL [] μ := by rw [evL]; exact wp_pure
theorem w_cons {e es : Ex} : wp (evL φ (.cons e es) ρ) QL μ ↔ wp (ev φ e ρ) (fun v μ1 => wp (evL φ es ρ) (fun vs μ2 => QL (v :: vs) μ2) μ1) μ := by
  rw [evL]; simp only [wp_bind, wp_pure]
theorem w_bin {o : Bop} {a b : Ex} : wp (ev φ (.bin o a b) ρ) Q μ ↔ wp (ev φ a ρ) (fun x μ1 => wp (ev φ b ρ) (fun y μ2 => wp (opBin o x y) Q μ2) μ1) μ := by rw [ev]; simp only [wp_bind]
theorem w_cmp {o : Cop} {a b : Ex} : wp (ev φ (.cmp o a b) ρ) Q μ ↔ wp (ev φ a ρ) (fun x μ1 => wp (ev φ b ρ) (fun y μ2 => wp (opCmp o x y) Q μ2) μ1) μ := by rw [ev]; simp only [wp_bind]
theorem w_idx {a b : Ex} : wp (ev φ (.idx a b) ρ) Q μ ↔ wp (ev φ a ρ) (fun x μ1 => wp (ev φ b ρ) (fun y μ2 => wp (opIdx x y) Q μ2) μ1) μ := by rw [ev]; simp only [wp_bind]
theorem w_blt {b : Blt} {es : Ex} : wp (ev φ (.blt b es) ρ) Q μ ↔ wp (evL φ es ρ) (fun vs μ1 => wp (opBlt b vs) Q μ1) μ := by rw [ev]; simp only [wp_bind]
theorem w_cal {f : Str} {es : Ex} : wp (ev φ (.call f es) ρ) Q μ ↔ wp (evL φ es ρ) (fun vs μ1 => wp (φ f vs) Q μ1) μ := by rw [ev]; simp only [wp_bind]
theorem w_callk {f : Str} {ks : List Str} {p : List Nat} {es : Ex} : wp (ev φ (.callk f ks p es) ρ) Q μ ↔ wp (evL φ es ρ) (fun vs μ1 => Nat.beq vs.length ks.length = true ∧ wp (φ f (permL p vs)) Q μ1) μ := by rw [ev]; simp only [wp_bind, wp_when]
theorem w_not {a : Ex} : wp (ev φ (.not a) ρ) Q μ ↔ wp (ev φ a ρ) (fun x μ1 => wp (truth x) (fun t μ2 => Q (.dat (.bl (!t))) μ2) μ1) μ := by rw [ev]; simp only [wp_bind, wp_dat]
theorem w_neg {a : Ex} : wp (ev φ (.neg a) ρ) Q μ ↔ wp (ev φ a ρ) (fun x μ1 => ∃ i, x = .dat (.int i) ∧ Q (.dat (.int (-i))) μ1) μ := by
  rw [ev]
  simp only [wp_bind]
  constructor
  · intro h
    refine h.mono fun x μ' q => ?_
    split at q
    · exact ⟨_, rfl, wp_dat.mp q⟩
    · exact (wp_fail.mp q).elim
  · intro h
    refine h.mono fun x μ' ⟨i, e, q⟩ => ?_
    subst e
    exact wp_dat.mpr q
/-! ### statements -/
theorem w_skip : wp (exec φ .skip ρ) QF μ ↔ QF (.nx ρ) μ := by rw [G.exec]; exact wp_pure
theorem w_seq {a b : St} : wp (exec φ (.seq a b) ρ) QF μ ↔ wp (exec φ a ρ) (fun fl μ1 => wp (seqF (fun ρ' => exec φ b ρ') fl) QF μ1) μ := by rw [G.exec]; simp only [wp_bind]
theorem w_nx {g : Env → M Fl} {ρ' : Env} : wp (seqF g (.nx ρ')) QF μ ↔ wp (g ρ') QF μ := .rfl
theorem w_rt {g : Env → M Fl} {v : Val} : wp (seqF g (.rt v)) QF μ ↔ QF (.rt v) μ := wp_pure
theorem w_ret {e : Ex} : wp (exec φ (.ret e) ρ) QF μ ↔ wp (ev φ e ρ) (fun v μ1 => QF (.rt v) μ1) μ := by rw [G.exec]; simp only [wp_bind, wp_pure]
theorem w_exp {e : Ex} : wp (exec φ (.exp e) ρ) QF μ ↔ wp (ev φ e ρ) (fun v μ1 => QF (.nx ρ) μ1) μ := by rw [G.exec]; simp only [wp_bind, wp_pure]
theorem w_set {i : Nat} {e : Ex} : wp (exec φ (.set (.nm i) e) ρ) QF μ ↔ wp (ev φ e ρ) (fun v μ1 => QF (.nx (ρ.set i (some v))) μ1) μ := by rw [G.exec]; simp only [wp_bind, wp_pure, asg, wp_some]
theorem w_if {c : Ex} {a b : St} : wp (exec φ (.ite c a b) ρ) QF μ ↔ wp (ev φ c ρ) (fun x μ1 => wp (truth x) (fun t μ2 => wp (iteF (exec φ a ρ) (exec φ b ρ) t) QF μ2) μ1) μ := by rw [G.exec]; simp only [wp_bind]
theorem w_setIx {o i v : Ex} : wp (exec φ (.setIx o i v) ρ) QF μ ↔ wp (ev φ v ρ) (fun z μ1 => wp (ev φ o ρ) (fun x μ2 => wp (ev φ i ρ) (fun y μ3 => wp (opSetIx x y z) (fun _ μ4 => QF (.nx ρ) μ4) μ3) μ2) μ1) μ := by rw [G.exec]; simp only [wp_bind, wp_pure]
theorem w_flr {v : Val} : wp (flVal (.rt v)) Q μ ↔ Q v μ := wp_pure
theorem w_fln {ρ' : Env} : wp (flVal (.nx ρ')) Q μ ↔ Q (.dat .non) μ := wp_dat
/-! ### operations -/
theorem w_add {i j : Int} : wp (opBin .add (.dat (.int i)) (.dat (.int j))) Q μ ↔ Q (.dat (.int (i + j))) μ := wp_dat
theorem w_sub {i j : Int} : wp (opBin .sub (.dat (.int i)) (.dat (.int j))) Q μ ↔ Q (.dat (.int (i - j))) μ := wp_dat
theorem w_mul {i j : Int} : wp (opBin .mul (.dat (.int i)) (.dat (.int j))) Q μ ↔ (isW i || isW j) = true ∧ Q (.dat (.int (i * j))) μ := by
  show wp (M.when _ _) Q μ ↔ _
  rw [wp_when, wp_dat]
theorem w_fdiv {i j : Int} : wp (opBin .fdiv (.dat (.int i)) (.dat (.int j))) Q μ ↔ (decide (0 < j) && decide (j < 1073741824)) = true ∧ Q (.dat (.int (i / j))) μ := by
  show wp (M.when _ _) Q μ ↔ _
  rw [wp_when, wp_dat]
theorem w_mod {i j : Int} : wp (opBin .mod (.dat (.int i)) (.dat (.int j))) Q μ ↔ decide (0 < j) = true ∧ Q (.dat (.int (i % j))) μ := by
  show wp (M.when _ _) Q μ ↔ _
  rw [wp_when, wp_dat]
theorem w_gt {i j : Int} : wp (opCmp .gt (.dat (.int i)) (.dat (.int j))) Q μ ↔ Q (.dat (.bl (decide (j < i)))) μ := wp_dat
theorem w_lt {i j : Int} : wp (opCmp .lt (.dat (.int i)) (.dat (.int j))) Q μ ↔ Q (.dat (.bl (decide (i < j)))) μ := wp_dat
theorem w_ge {i j : Int} : wp (opCmp .ge (.dat (.int i)) (.dat (.int j))) Q μ ↔ Q (.dat (.bl (decide (j ≤ i)))) μ := wp_dat
theorem w_le {i j : Int} : wp (opCmp .le (.dat (.int i)) (.dat (.int j))) Q μ ↔ Q (.dat (.bl (decide (i ≤ j)))) μ := wp_dat
theorem w_int {i : Int} : wp (opBlt .int [.dat (.int i)]) Q μ ↔ Q (.dat (.int i)) μ := wp_dat
theorem w_abs {i : Int} : wp (opBlt .abs [.dat (.int i)]) Q μ ↔ Q (.dat (.int (if i < 0 then -i else i))) μ := wp_dat
theorem w_tb {b : Bool} {QB : Bool → Sto → Prop} : wp (truth (.dat (.bl b))) QB μ ↔ QB b μ := wp_pure
theorem w_ixr {n : Nat} {k : Int} : wp (opIdx (.ref n) (.dat (.int k))) Q μ ↔ ∃ ds, μ[n]? = some (.lst ds) ∧ ∃ d, L2.atI ds k = some d ∧ Q (.dat d) μ := by
  have e : opIdx (.ref n) (.dat (.int k)) = M.bind (M.bind (cellAt n) fun
    | .lst ds => M.pure (true, ds)
    | _ => M.fail) fun p => M.bind (M.ofOpt (L2.atI p.2 k)) M.dat := rfl
  rw [e]
  simp only [wp_bind]
  constructor
  · rintro ⟨c, μ', e, h⟩
    unfold cellAt at e
    split at e
    · rename_i hc
      cases e
      cases c with
      | dead => exact (wp_fail.mp h).elim
      | lst ds =>
        have h := wp_pure.mp h
        cases hd : L2.atI ds k with
        | none => rw [hd] at h; exact (wp_none.mp h).elim
        | some d =>
          rw [hd, wp_some] at h
          exact ⟨ds, hc, d, hd, wp_dat.mp h⟩
    · cases e
  · rintro ⟨ds, h1, d, h2, h3⟩
    rw [wp_cell h1, wp_pure, h2, wp_some]
    exact wp_dat.mpr h3
theorem w_six {n : Nat} {k : Int} {d : D} {QU : Unit → Sto → Prop} : wp (opSetIx (.ref n) (.dat (.int k)) (.dat d)) QU μ ↔ ∃ ds, μ[n]? = some (.lst ds) ∧ ∃ j, L2.ixN ds.length k = some j ∧ QU () (μ.set n (.lst (ds.set j d))) := by
  have e : opSetIx (.ref n) (.dat (.int k)) (.dat d) = M.bind (cellAt n) fun
    | .lst ds => M.bind (M.ofOpt (L2.ixN ds.length k)) fun j => setCell n (.lst (ds.set j d))
    | _ => M.fail := rfl
  rw [e]
  simp only [wp_bind]
  constructor
  · rintro ⟨c, μ', e, h⟩
    unfold cellAt at e
    split at e
    · rename_i hc
      cases e
      cases c with
      | dead => exact (wp_fail.mp h).elim
      | lst ds =>
        have h := wp_bind.mp h
        cases hd : L2.ixN ds.length k with
        | none => rw [hd] at h; exact (wp_none.mp h).elim
        | some j =>
          rw [hd, wp_some] at h
          exact ⟨ds, hc, j, hd, wp_set.mp h⟩
    · cases e
  · rintro ⟨ds, h1, j, h2, h3⟩
    rw [wp_cell h1]
    refine wp_bind.mpr ?_
    rw [h2, wp_some]
    exact wp_set.mpr h3
end
end G
set_option Elab.async false
set_option linter.all false
set_option maxRecDepth 100000
set_option maxHeartbeats 1000000
/-! C1: helpers that most laws share: the draws. -/
namespace G
open PySem
def C_law_take : Fn := ⟨2, 6, false,
  (.seq (.ite (.cmp .gt (.idx (.var 0) (.cst (.int 0))) (.cst (.int 0))) (.seq (.set (.nm 5) (.bin .mod (.blt .int (.cons (.idx (.var 0) (.cst (.int 0))) .nil)) (.var 1)))
    (.seq (.setIx (.var 0) (.cst (.int 0)) (.bin .fdiv (.idx (.var 0) (.cst (.int 0))) (.var 1)))
    (.seq (.ret (.var 5))
    .skip))) .skip)
    (.seq (.setIx (.var 0) (.cst (.int 2)) (.bin .add (.idx (.var 0) (.cst (.int 2))) (.cst (.int 1))))
    (.seq (.set (.nm 2) (.bin .mod (.blt .int (.cons (.bin .mul (.bin .add (.idx (.var 0) (.cst (.int 1))) (.bin .mul (.cst (.int 48271)) (.idx (.var 0) (.cst (.int 2))))) (.bin .add (.cst (.int 39373)) (.idx (.var 0) (.cst (.int 2))))) .nil)) (.cst (.int 2147483647))))
    (.seq (.set (.nm 3) (.bin .add (.bin .mod (.blt .int (.cons (.var 2) .nil)) (.cst (.int 40009))) (.cst (.int 7))))
    (.seq (.set (.nm 4) (.bin .mod (.blt .int (.cons (.bin .mul (.bin .add (.bin .add (.var 2) (.idx (.var 0) (.cst (.int 2)))) (.bin .fdiv (.idx (.var 0) (.cst (.int 1))) (.cst (.int 1000003)))) (.var 3)) .nil)) (.cst (.int 2147483629))))
    (.seq (.ret (.bin .mod (.blt .int (.cons (.bin .fdiv (.bin .mod (.blt .int (.cons (.bin .add (.bin .mul (.var 4) (.cst (.int 48271))) (.var 2)) .nil)) (.cst (.int 2147483587))) (.cst (.int 64))) .nil)) (.var 1)))
    .skip))))))⟩
def C_law_of : Fn := ⟨2, 2, false,
  (.seq (.ret (.idx (.var 1) (.call "_law_take" (.cons (.var 0) (.cons (.blt .len (.cons (.var 1) .nil)) .nil)))))
    .skip)⟩
def C_law_few : Fn := ⟨3, 4, false,
  (.seq (.ret (.blt .tuple (.cons (.comp (.var 3) (.nm 3) (.sSeq (.var 1)) (.cmp .eq (.call "_law_take" (.cons (.var 0) (.cons (.var 2) .nil))) (.cst (.int 0))) [3]) .nil)))
    .skip)⟩
def C_law_lists : Fn := ⟨1, 2, false,
  (.seq (.ret (.ite (.isi (.var 0) [.list, .tuple]) (.comp (.call "_law_lists" (.cons (.var 1) .nil)) (.nm 1) (.sSeq (.var 0)) (.cst (.bl true)) [1]) (.var 0)))
    .skip)⟩
def C_law_same : Fn := ⟨2, 4, false,
  (.seq (.ite (.isi (.var 1) [.list, .tuple]) (.seq (.ite (.or (.cmp .ne (.isi (.var 0) [.list]) (.isi (.var 1) [.list])) (.cmp .ne (.isi (.var 0) [.tuple]) (.isi (.var 1) [.tuple]))) (.seq (.ret (.cst (.bl false)))
    .skip) .skip)
    (.seq (.ret (.and (.cmp .eq (.blt .len (.cons (.var 0) .nil)) (.blt .len (.cons (.var 1) .nil))) (.blt .all (.cons (.comp (.call "_law_same" (.cons (.var 2) (.cons (.var 3) .nil))) (.tp (.cons (.nm 2) (.cons (.nm 3) .nil))) (.sZip (.var 0) (.var 1)) (.cst (.bl true)) [2, 3]) .nil))))
    .skip)) .skip)
    (.seq (.ite (.or (.cmp .iss (.var 1) (.cst .non)) (.isi (.var 1) [.bool, .str])) (.seq (.ret (.and (.cmp .eq (.var 0) (.var 1)) (.and (.cmp .eq (.isi (.var 0) [.bool]) (.isi (.var 1) [.bool])) (.cmp .eq (.cmp .iss (.var 0) (.cst .non)) (.cmp .iss (.var 1) (.cst .non))))))
    .skip) .skip)
    (.seq (.ret (.and (.isi (.var 0) [.int]) (.and (.not (.isi (.var 0) [.bool])) (.cmp .eq (.var 0) (.var 1)))))
    .skip)))⟩
def C_law_cells : Fn := ⟨2, 6, false,
  (.seq (.set (.nm 2) (.or (.blt .clist (.cons (.slc (.var 0) .nil (.cons (.var 1) .nil)) .nil)) (.clst (.cons (.cst (.int 0)) .nil))))
    (.seq (.fr (.tp (.cons (.nm 3) (.cons (.nm 4) .nil))) (.sEnum (.slc (.var 0) (.cons (.var 1) .nil) (.cons (.cst (.int 63)) .nil))) (.seq (.set (.nm 5) (.bin .mod (.blt .int (.cons (.var 3) .nil)) (.var 1)))
    (.seq (.setIx (.var 2) (.var 5) (.bin .add (.idx (.var 2) (.var 5)) (.bin .mul (.var 4) (.bin .add (.var 3) (.cst (.int 2))))))
    .skip)))
    (.seq (.ret (.var 2))
    .skip)))⟩
/-- the box: cell 0 -/
structure Box (β n : Nat) (μ : Sto) : Prop where
  ex : ∃ a b c : Int, μ[β]? = some (.lst [.int a, .int b, .int c]) ∧ 0 ≤ a ∧ 0 ≤ b ∧ b < 2 ^ 63 ∧ 0 ≤ c ∧ c + n < 2 ^ 60
theorem at0 {x y z : D} : L2.atI [x, y, z] 0 = some x := rfl
theorem at1 {x y z : D} : L2.atI [x, y, z] 1 = some y := rfl
theorem at2 {x y z : D} : L2.atI [x, y, z] 2 = some z := rfl
theorem ix0 {x y z : D} : L2.ixN [x, y, z].length 0 = some 0 := rfl
theorem ix2 {x y z : D} : L2.ixN [x, y, z].length 2 = some 2 := rfl
theorem isW_of {i : Int} (h1 : -(2 ^ 64) < i) (h2 : i < 2 ^ 64) : isW i = true := by
  unfold isW
  simp only [Bool.and_eq_true, decide_eq_true_eq]
  exact ⟨h1, h2⟩
theorem take_ok {T : Tab} (hT : T.lookup ("_law_take" : Str) = some C_law_take) {k n β : Nat} {m : Int} (hm : 0 < m) (hm2 : m < 1000) {μ : Sto} (B : Box β (n + 1) μ) : wp (callK T (k + 1) "_law_take" [.ref β, .dat (.int m)]) (fun v μ' => ∃ r : Int, v = .dat (.int r) ∧ 0 ≤ r ∧ r < m ∧ ∃ c, μ' = μ.set β c ∧ Box β n μ') μ := by
  obtain ⟨a, b, c, h0, h1, h2, h3, h4, h5⟩ := B.ex
  have hl : β < μ.length := (List.getElem?_eq_some_iff.mp h0).1
  have hs : ∀ c, (μ.set β c)[β]? = some c := fun c => List.getElem?_set_self hl
  have ht : ∀ c, (μ.set β c).take μ.length = μ.set β c := fun c => List.take_of_length_le (by rw [List.length_set]; exact Nat.le_refl _)
  refine wp_call hT rfl ?_
  show wp (G.exec _ C_law_take.body [some (.ref β), some (.dat (.int m)), none, none, none, none]) _ _
  simp only [C_law_take, w_seq, w_if, w_cmp, w_idx, w_var, w_cst, w_blt, w_cons, w_nil, w_bin, List.getElem?_cons_zero, List.getElem?_cons_succ, Option.some.injEq, exists_eq_left', w_ixr, h0, Cell.lst.injEq, at0, w_gt, w_tb]
  by_cases ha : 0 < a
  · rw [decide_eq_true ha]
    simp only [iteF, w_seq, w_set, w_bin, w_blt, w_cons, w_nil, w_idx, w_var, w_cst, w_ixr, w_int, w_mod, w_nx, w_rt, w_ret, w_setIx, w_fdiv, w_six, List.set_cons_zero, List.set_cons_succ, List.getElem?_cons_zero, List.getElem?_cons_succ, Option.some.injEq, exists_eq_left', h0, Cell.lst.injEq, at0, ix0, w_flr, wp_seal_dat, ht, decide_eq_true hm, true_and]
    refine ⟨by simp only [Bool.and_eq_true, decide_eq_true_eq]; constructor <;> first | trivial | omega, _, rfl, Int.emod_nonneg _ (by omega), Int.emod_lt_of_pos _ hm, _, rfl, ⟨_, _, _, hs _, Int.ediv_nonneg h1 (by omega), h2, h3, h4, by omega⟩⟩
  · rw [decide_eq_false ha]
    simp only [iteF, w_skip, w_seq, w_set, w_bin, w_blt, w_cons, w_nil, w_idx, w_var, w_cst, w_ixr, w_int, w_add, w_mul, w_mod, w_nx, w_rt, w_ret, w_setIx, w_fdiv, w_six, List.set_cons_zero, List.set_cons_succ, List.getElem?_cons_zero, List.getElem?_cons_succ, Option.some.injEq, exists_eq_left', h0, hs, Cell.lst.injEq, at0, at1, at2, ix2, w_flr, wp_seal_dat, ht, decide_eq_true hm]
    have q1 : isW (39373 + (c + 1)) = true := isW_of (by omega) (by omega)
    have q2 : isW 48271 = true := by decide
    have q3 : ∀ x : Int, isW (x % 40009 + 7) = true := fun x => isW_of (by omega) (by omega)
    refine ⟨by rw [q2]; rfl, by rw [q1, Bool.or_true], by decide, by decide, by decide, by rw [q3, Bool.or_true], by decide, by rw [q2, Bool.or_true], by decide, by decide, trivial, _, rfl, Int.emod_nonneg _ (by omega), Int.emod_lt_of_pos _ hm, _, rfl, ⟨_, _, _, hs _, h1, h2, h3, by omega, by omega⟩⟩
end G
set_option Elab.async false
set_option linter.all false
set_option maxRecDepth 100000
set_option maxHeartbeats 1000000
/-! C2: comprehensions that draw; _law_of, _law_few. -/
namespace G
open PySem
/-- some draws later: the box has changed, the rest has not; n draws are left -/
def Stp (β n : Nat) (μ μ' : Sto) : Prop := (∃ c, μ' = μ.set β c) ∧ Box β n μ'
theorem Stp.trans {β n n' : Nat} {μ μ1 μ2 : Sto} (a : Stp β n' μ μ1) (b : Stp β n μ1 μ2) : Stp β n μ μ2 := by
  obtain ⟨⟨c, rfl⟩, _⟩ := a
  obtain ⟨⟨d, rfl⟩, h⟩ := b
  exact ⟨⟨d, List.set_set ..⟩, h⟩
theorem Box.less {β n m : Nat} {μ : Sto} (h : Box β n μ) (l : m ≤ n) : Box β m μ := by
  obtain ⟨a, b, c, q, q1, q2, q3, q4, q5⟩ := h.ex
  exact ⟨a, b, c, q, q1, q2, q3, q4, by omega⟩
theorem Stp.refl {β n : Nat} {μ : Sto} (h : Box β n μ) : Stp β n μ μ := by
  obtain ⟨a, b, c, q, _⟩ := h.ex
  obtain ⟨h1, h2⟩ := List.getElem?_eq_some_iff.mp q
  exact ⟨⟨_, (List.set_getElem_self h1).symm⟩, h⟩
theorem Stp.len {β n : Nat} {μ μ' : Sto} (h : Stp β n μ μ') : μ'.length = μ.length := by
  obtain ⟨⟨c, rfl⟩, _⟩ := h
  rw [List.length_set]
theorem Stp.take {β n : Nat} {μ μ' : Sto} (h : Stp β n μ μ') : μ'.take μ.length = μ' := List.take_of_length_le (by rw [h.len]; exact Nat.le_refl _)
section
variable {β i t : Nat} {cond : Env → M Bool} {elt : Env → M Val} {ρ : Env}
/-- [x for x in ds if ..draws..] -/
theorem comp_filter (he : ∀ x μ, wp (elt (ρ.set i (some (.dat x)))) (fun v μ' => v = .dat x ∧ μ' = μ) μ) :
    ∀ (ds : List D) (hc : ∀ x ∈ ds, ∀ n μ, Box β (n + t) μ → wp (cond (ρ.set i (some (.dat x)))) (fun _ μ' => Stp β n μ μ') μ) (n : Nat) (μ : Sto), Box β (n + t * ds.length) μ →
      wp (compM (.nm i) cond elt ρ ds) (fun ys μ' => ys.Sublist ds ∧ Stp β n μ μ') μ
  | [], _, n, μ, h => by
    unfold compM
    exact wp_pure.mpr ⟨.slnil, Stp.refl h⟩
  | x :: r, hc, n, μ, h => by
    unfold compM
    simp only [asg, wp_bind, wp_some]
    have e : n + t * (x :: r).length = (n + t * r.length) + t := by rw [List.length_cons, Nat.mul_succ]; omega
    rw [e] at h
    refine (hc x (List.mem_cons_self ..) _ μ h).mono fun b μ1 s1 => ?_
    have ih := comp_filter he r (fun y hy => hc y (List.mem_cons_of_mem _ hy)) n μ1 s1.2
    cases b with
    | false => exact ih.mono fun ys μ2 ⟨q1, q2⟩ => ⟨q1.cons _, s1.trans q2⟩
    | true =>
      simp only [wp_bind, wp_pure]
      refine (he x μ1).mono fun v μ2 ⟨e1, e2⟩ => ?_
      subst e1 e2
      simp only [toD, wp_pure]
      exact ih.mono fun ys μ2 ⟨q1, q2⟩ => ⟨q1.cons₂ _, s1.trans q2⟩
/-- [..draws.. for x in ds] -/
theorem comp_map {P : D → D → Prop} (hc : ∀ x μ, wp (cond (ρ.set i (some (.dat x)))) (fun b μ' => b = true ∧ μ' = μ) μ) :
    ∀ (ds : List D) (he : ∀ x ∈ ds, ∀ n μ, Box β (n + t) μ → wp (elt (ρ.set i (some (.dat x)))) (fun v μ' => ∃ y, v = .dat y ∧ P x y ∧ Stp β n μ μ') μ) (n : Nat) (μ : Sto), Box β (n + t * ds.length) μ →
      wp (compM (.nm i) cond elt ρ ds) (fun ys μ' => ys.length = ds.length ∧ (∀ y ∈ ys, ∃ x ∈ ds, P x y) ∧ Stp β n μ μ') μ
  | [], _, n, μ, h => by
    unfold compM
    exact wp_pure.mpr ⟨rfl, fun y hy => (by cases hy), Stp.refl h⟩
  | x :: r, he, n, μ, h => by
    unfold compM
    simp only [asg, wp_bind, wp_some]
    have e : n + t * (x :: r).length = (n + t * r.length) + t := by rw [List.length_cons, Nat.mul_succ]; omega
    rw [e] at h
    refine (hc x μ).mono fun b μ1 ⟨e1, e2⟩ => ?_
    subst e1 e2
    simp only [wp_bind, wp_pure]
    refine (he x (List.mem_cons_self ..) _ _ h).mono fun v μ2 ⟨y, ey, hy, s1⟩ => ?_
    subst ey
    simp only [toD, wp_pure]
    refine (comp_map hc r (fun z hz => he z (List.mem_cons_of_mem _ hz)) n μ2 s1.2).mono fun ys μ3 ⟨q1, q2, q3⟩ => ⟨by rw [List.length_cons, q1, List.length_cons], fun z hz => ?_, s1.trans q3⟩
    rcases List.mem_cons.mp hz with q | q
    · subst q; exact ⟨x, List.mem_cons_self .., hy⟩
    · obtain ⟨w, hw, p⟩ := q2 z q
      exact ⟨w, List.mem_cons_of_mem _ hw, p⟩
end
section
variable {μ : Sto} {Q : Val → Sto → Prop}
theorem w_len_t {ds : List D} : wp (opBlt .len [.dat (.tup ds)]) Q μ ↔ Q (.dat (.int ds.length)) μ := by
  show wp (M.bind (M.pure _) _) Q μ ↔ _
  rw [wp_bind, wp_pure]; exact wp_dat
theorem w_len_l {ds : List D} : wp (opBlt .len [.dat (.lst ds)]) Q μ ↔ Q (.dat (.int ds.length)) μ := by
  show wp (M.bind (M.pure _) _) Q μ ↔ _
  rw [wp_bind, wp_pure]; exact wp_dat
theorem w_ix_t {ds : List D} {k : Int} : wp (opIdx (.dat (.tup ds)) (.dat (.int k))) Q μ ↔ ∃ d, L2.atI ds k = some d ∧ Q (.dat d) μ := by
  show wp (M.bind (M.pure (_, ds)) fun p => M.bind (M.ofOpt (L2.atI p.2 k)) M.dat) Q μ ↔ _
  rw [wp_bind, wp_pure]
  show wp (M.bind (M.ofOpt (L2.atI ds k)) M.dat) Q μ ↔ _
  cases h : L2.atI ds k with
  | none => rw [wp_bind, wp_none]; exact ⟨False.elim, fun ⟨d, e, _⟩ => (by cases e)⟩
  | some d => simp only [wp_bind, wp_some, wp_dat, Option.some.injEq, exists_eq_left']
theorem w_ix_l {ds : List D} {k : Int} : wp (opIdx (.dat (.lst ds)) (.dat (.int k))) Q μ ↔ ∃ d, L2.atI ds k = some d ∧ Q (.dat d) μ := by
  show wp (M.bind (M.pure (_, ds)) fun p => M.bind (M.ofOpt (L2.atI p.2 k)) M.dat) Q μ ↔ _
  rw [wp_bind, wp_pure]
  show wp (M.bind (M.ofOpt (L2.atI ds k)) M.dat) Q μ ↔ _
  cases h : L2.atI ds k with
  | none => rw [wp_bind, wp_none]; exact ⟨False.elim, fun ⟨d, e, _⟩ => (by cases e)⟩
  | some d => simp only [wp_bind, wp_some, wp_dat, Option.some.injEq, exists_eq_left']
end
theorem atI_in {ds : List D} {r : Int} (h1 : 0 ≤ r) (h2 : r < ds.length) : ∃ d, L2.atI ds r = some d ∧ d ∈ ds := by
  have hn : r.toNat < ds.length := by omega
  refine ⟨ds[r.toNat], ?_, List.getElem_mem hn⟩
  unfold L2.atI L2.ixN
  rw [if_pos h1, if_pos h2, Option.bind_some]
  exact List.getElem?_eq_getElem hn
section
variable {T : Tab} (hT : T.lookup ("_law_take" : Str) = some C_law_take)
include hT
theorem take_st {k n β : Nat} {m : Int} (hm : 0 < m) (hm2 : m < 1000) {μ : Sto} (B : Box β (n + 1) μ) : wp (callK T (k + 1) "_law_take" [.ref β, .dat (.int m)]) (fun v μ' => ∃ r : Int, v = .dat (.int r) ∧ 0 ≤ r ∧ r < m ∧ Stp β n μ μ') μ :=
  (take_ok hT hm hm2 B).mono fun v μ' ⟨r, a, b, c, d, e, f⟩ => ⟨r, a, b, c, ⟨d, e⟩, f⟩
variable (hO : T.lookup ("_law_of" : Str) = some C_law_of)
include hO
theorem of_t {k n β : Nat} {ds : List D} (h1 : ds ≠ []) (h2 : ds.length < 1000) {μ : Sto} (B : Box β (n + 1) μ) : wp (callK T (k + 2) "_law_of" [.ref β, .dat (.tup ds)]) (fun v μ' => ∃ d, v = .dat d ∧ d ∈ ds ∧ Stp β n μ μ') μ := by
  have hl : 0 < ds.length := List.length_pos_iff.mpr h1
  refine wp_call hO rfl ?_
  show wp (G.exec _ C_law_of.body [some (.ref β), some (.dat (.tup ds))]) _ _
  simp only [C_law_of, w_seq, w_ret, w_idx, w_var, w_cal, w_cons, w_nil, w_blt, List.getElem?_cons_zero, List.getElem?_cons_succ, Option.some.injEq, exists_eq_left', w_len_t]
  refine (take_st hT (n := n) (by omega) (by omega) B).mono fun v μ' ⟨r, e, r1, r2, st⟩ => ?_
  subst e
  obtain ⟨d, e1, e2⟩ := atI_in r1 r2
  simp only [w_ix_t, e1, Option.some.injEq, exists_eq_left', w_rt, w_flr, wp_seal_dat, st.take]
  exact ⟨d, rfl, e2, st⟩
theorem of_l {k n β : Nat} {ds : List D} (h1 : ds ≠ []) (h2 : ds.length < 1000) {μ : Sto} (B : Box β (n + 1) μ) : wp (callK T (k + 2) "_law_of" [.ref β, .dat (.lst ds)]) (fun v μ' => ∃ d, v = .dat d ∧ d ∈ ds ∧ Stp β n μ μ') μ := by
  have hl : 0 < ds.length := List.length_pos_iff.mpr h1
  refine wp_call hO rfl ?_
  show wp (G.exec _ C_law_of.body [some (.ref β), some (.dat (.lst ds))]) _ _
  simp only [C_law_of, w_seq, w_ret, w_idx, w_var, w_cal, w_cons, w_nil, w_blt, List.getElem?_cons_zero, List.getElem?_cons_succ, Option.some.injEq, exists_eq_left', w_len_l]
  refine (take_st hT (n := n) (by omega) (by omega) B).mono fun v μ' ⟨r, e, r1, r2, st⟩ => ?_
  subst e
  obtain ⟨d, e1, e2⟩ := atI_in r1 r2
  simp only [w_ix_l, e1, Option.some.injEq, exists_eq_left', w_rt, w_flr, wp_seal_dat, st.take]
  exact ⟨d, rfl, e2, st⟩
end
end G
set_option Elab.async false
set_option linter.all false
set_option maxRecDepth 100000
set_option maxHeartbeats 1000000
/-! C3: more rules; _law_few. -/
namespace G
open PySem
section
variable {φ : Str → List Val → M Val} {ρ : Env} {μ : Sto} {Q : Val → Sto → Prop} {QL : List Val → Sto → Prop} {QF : Fl → Sto → Prop}
theorem wp_toDs {ds : List D} {QD : List D → Sto → Prop} : wp (toDs (ds.map Val.dat)) QD μ ↔ QD ds μ := by rw [toDs_map]; exact wp_pure
theorem w_comp {elt src cond : Ex} {tg : Tg} {own : List Nat} : wp (ev φ (.comp elt tg src cond own) ρ) Q μ ↔
    wp (evL φ src ρ) (fun xs μ1 => wp (toDs xs) (fun ds μ2 => wp (compM tg (fun ρ' => M.bind (ev φ cond ρ') truth) (fun ρ' => ev φ elt ρ') (wipeD ρ own) ds) (fun ys μ3 => Q (.dat (.lst ys)) μ3) μ2) μ1) μ := by
  rw [ev]; simp only [wp_bind, wp_nox, wp_dat]
theorem w_sseq {e : Ex} : wp (evL φ (.sSeq e) ρ) QL μ ↔ wp (ev φ e ρ) (fun v μ1 => wp (seqItems v) (fun ds μ2 => QL (ds.map .dat) μ2) μ1) μ := by rw [evL]; simp only [wp_bind, wp_pure]
theorem w_srng {e : Ex} : wp (evL φ (.sRng e) ρ) QL μ ↔ wp (ev φ e ρ) (fun v μ1 => wp (rngM v) QL μ1) μ := by rw [evL]; simp only [wp_bind]
theorem w_rng {j : Int} : wp (rngM (.dat (.int j))) QL μ ↔ (decide (j ≤ 16777216) && decide (-16777216 ≤ j)) = true ∧ QL ((rangeD j.toNat).map .dat) μ := by
  show wp (M.when _ _) QL μ ↔ _
  rw [wp_when, wp_pure]
theorem w_sit {ds : List D} {QD : List D → Sto → Prop} : wp (seqItems (.dat (.tup ds))) QD μ ↔ QD ds μ := wp_pure
theorem w_sil {ds : List D} {QD : List D → Sto → Prop} : wp (seqItems (.dat (.lst ds))) QD μ ↔ QD ds μ := wp_pure
theorem w_eqI {i j : Int} : wp (opCmp .eq (.dat (.int i)) (.dat (.int j))) Q μ ↔ Q (.dat (.bl (i == j))) μ := by
  show wp (M.bind (M.pure _) _) Q μ ↔ _
  rw [wp_bind, wp_pure]
  show wp (M.bind (M.pure _) _) Q μ ↔ _
  rw [wp_bind, wp_pure]
  exact wp_dat
theorem w_tupl {ds : List D} : wp (opBlt .tuple [.dat (.lst ds)]) Q μ ↔ Q (.dat (.tup ds)) μ := by
  show wp (M.bind (M.pure _) _) Q μ ↔ _
  rw [wp_bind, wp_pure]; exact wp_dat
theorem w_tupt {ds : List D} : wp (opBlt .tuple [.dat (.tup ds)]) Q μ ↔ Q (.dat (.tup ds)) μ := by
  show wp (M.bind (M.pure _) _) Q μ ↔ _
  rw [wp_bind, wp_pure]; exact wp_dat
end
section
variable {T : Tab} (hT : T.lookup ("_law_take" : Str) = some C_law_take) (hF : T.lookup ("_law_few" : Str) = some C_law_few)
include hT hF
theorem few_ok {k n β : Nat} {ds : List D} {o : Int} (h1 : 0 < o) (h2 : o < 1000) {μ : Sto} (B : Box β (n + ds.length) μ) : wp (callK T (k + 2) "_law_few" [.ref β, .dat (.tup ds), .dat (.int o)]) (fun v μ' => ∃ ys, v = .dat (.tup ys) ∧ ys.Sublist ds ∧ Stp β n μ μ') μ := by
  refine wp_call hF rfl ?_
  show wp (G.exec _ C_law_few.body [some (.ref β), some (.dat (.tup ds)), some (.dat (.int o)), none]) _ _
  simp only [C_law_few, w_seq, w_ret, w_blt, w_cons, w_nil, w_comp, w_sseq, w_var, List.getElem?_cons_zero, List.getElem?_cons_succ, Option.some.injEq, exists_eq_left', w_sit, wp_toDs, wipeD, List.set_cons_zero, List.set_cons_succ]
  refine (comp_filter (β := β) (t := 1) (fun x μ => ?_) ds (fun x _ n μ B => ?_) n μ (by rw [Nat.one_mul]; exact B)).mono fun ys μ' ⟨q1, q2⟩ => ?_
  · simp only [w_var, List.set_cons_zero, List.set_cons_succ, List.getElem?_cons_zero, List.getElem?_cons_succ, Option.some.injEq, exists_eq_left', and_self]
  · simp only [wp_bind, w_cmp, w_cal, w_cons, w_nil, w_var, w_cst, List.set_cons_zero, List.set_cons_succ, List.getElem?_cons_zero, List.getElem?_cons_succ, Option.some.injEq, exists_eq_left']
    refine (take_st hT h1 h2 B).mono fun v μ' ⟨r, e, _, _, st⟩ => ?_
    subst e
    simp only [w_eqI, w_tb]
    exact st
  · simp only [w_tupl, w_rt, w_flr, wp_seal_dat, q2.take]
    exact ⟨ys, rfl, q1, q2⟩
end
end G
set_option Elab.async false
set_option linter.all false
set_option maxRecDepth 100000
set_option maxHeartbeats 1000000
/-! C4: tupled, _law_lists. -/
namespace G
open PySem
def C_tupled : Fn := ⟨1, 2, false,
  (.seq (.ret (.ite (.isi (.var 0) [.list, .tuple]) (.blt .tuple (.cons (.comp (.call "tupled" (.cons (.var 1) .nil)) (.nm 1) (.sSeq (.var 0)) (.cst (.bl true)) [1]) .nil)) (.var 0)))
    .skip)⟩
mutual
def tupD : D → D
  | .tup ds => .tup (tupDs ds)
  | .lst ds => .tup (tupDs ds)
  | d => d
def tupDs : List D → List D
  | [] => []
  | d :: ds => tupD d :: tupDs ds
end
mutual
def lisD : D → D
  | .tup ds => .lst (lisDs ds)
  | .lst ds => .lst (lisDs ds)
  | d => d
def lisDs : List D → List D
  | [] => []
  | d :: ds => lisD d :: lisDs ds
end
section
variable {i : Nat} {cond : Env → M Bool} {elt : Env → M Val} {ρ : Env}
/-- [f(x) for x in ds], nothing changed -/
theorem comp_pure {f : D → D} {μ : Sto} (hc : ∀ x, wp (cond (ρ.set i (some (.dat x)))) (fun b μ' => b = true ∧ μ' = μ) μ) :
    ∀ (ds : List D) (he : ∀ x ∈ ds, wp (elt (ρ.set i (some (.dat x)))) (fun v μ' => v = .dat (f x) ∧ μ' = μ) μ), wp (compM (.nm i) cond elt ρ ds) (fun ys μ' => ys = ds.map f ∧ μ' = μ) μ
  | [], _ => by
    unfold compM
    exact wp_pure.mpr ⟨rfl, rfl⟩
  | x :: r, he => by
    unfold compM
    simp only [asg, wp_bind, wp_some]
    refine (hc x).mono fun b μ1 ⟨e1, e2⟩ => ?_
    subst e1 e2
    simp only [wp_bind, wp_pure]
    refine (he x (List.mem_cons_self ..)).mono fun v μ2 ⟨e1, e2⟩ => ?_
    subst e1 e2
    simp only [toD, wp_pure]
    refine (comp_pure hc r fun y hy => he y (List.mem_cons_of_mem _ hy)).mono fun ys μ3 ⟨e1, e2⟩ => ?_
    subst e1
    exact ⟨rfl, e2⟩
end
section
variable {φ : Str → List Val → M Val} {ρ : Env} {μ : Sto} {Q : Val → Sto → Prop}
theorem w_isi {a : Ex} {ts : List Ty} : wp (ev φ (.isi a ts) ρ) Q μ ↔ wp (ev φ a ρ) (fun x μ1 => wp (M.ofOpt (isTys x ts)) (fun b μ2 => Q (.dat (.bl b)) μ2) μ1) μ := by rw [ev]; simp only [wp_bind, wp_dat]
theorem w_itee {c a b : Ex} : wp (ev φ (.ite c a b) ρ) Q μ ↔ wp (ev φ c ρ) (fun x μ1 => wp (truth x) (fun t μ2 => wp (match t with
    | true => ev φ a ρ
    | false => ev φ b ρ) Q μ2) μ1) μ := by rw [ev]; unfold iteM; simp only [wp_bind]; all_goals exact Iff.rfl
end
theorem tupDs_map : ∀ ds : List D, tupDs ds = ds.map tupD
  | [] => rfl
  | d :: ds => by rw [tupDs, List.map_cons, tupDs_map ds]
theorem lisDs_map : ∀ ds : List D, lisDs ds = ds.map lisD
  | [] => rfl
  | d :: ds => by rw [lisDs, List.map_cons, lisDs_map ds]
theorem deps_mem : ∀ {ds : List D} {d : D}, d ∈ ds → d.dep ≤ D.deps ds
  | x :: r, d, h => by
    unfold D.deps
    rcases List.mem_cons.mp h with e | e
    · subst e; omega
    · have := deps_mem e; omega
theorem owns_mem : ∀ {ds : List D} {d : D}, D.owns ds = true → d ∈ ds → d.own = true
  | x :: r, d, h, hm => by
    unfold D.owns at h
    simp only [Bool.and_eq_true] at h
    rcases List.mem_cons.mp hm with e | e
    · subst e; exact h.1
    · exact owns_mem h.2 e
section
variable {T : Tab} (hT : T.lookup ("tupled" : Str) = some C_tupled)
include hT
theorem tupled_ok : ∀ (k : Nat) (d : D), d.own = true → d.dep < k → ∀ μ : Sto, wp (callK T k "tupled" [.dat d]) (fun v μ' => v = .dat (tupD d) ∧ μ' = μ) μ
  | 0, d, _, h, _ => by omega
  | k + 1, d, ho, h, μ => by
    have ht : μ.take μ.length = μ := List.take_of_length_le (Nat.le_refl _)
    have go : ∀ ds : List D, D.owns ds = true → D.deps ds < k → wp (compM (.nm 1) (fun ρ' => M.bind (ev (callK T k) (.cst (.bl true)) ρ') truth) (fun ρ' => ev (callK T k) (.call "tupled" (.cons (.var 1) .nil)) ρ') [some (.dat d), none] ds) (fun ys μ' => ys = ds.map tupD ∧ μ' = μ) μ := fun ds h1 h2 => by
      refine comp_pure (fun x => ?_) ds fun x hx => ?_
      · simp only [wp_bind, w_cst, w_tb, and_self]
      · simp only [w_cal, w_cons, w_nil, w_var, List.set_cons_zero, List.set_cons_succ, List.getElem?_cons_zero, List.getElem?_cons_succ, Option.some.injEq, exists_eq_left']
        exact tupled_ok k x (owns_mem h1 hx) (by have := deps_mem hx; omega) μ
    refine wp_call hT rfl ?_
    show wp (G.exec _ C_tupled.body [some (.dat d), none]) _ _
    simp only [C_tupled, w_seq, w_ret, w_itee, w_isi, w_var, List.getElem?_cons_zero, List.getElem?_cons_succ, Option.some.injEq, exists_eq_left']
    cases d with
    | tup ds =>
      simp only [D.own] at ho
      simp only [D.dep] at h
      show wp (M.ofOpt (some true)) _ _
      simp only [wp_some, w_tb, w_blt, w_cons, w_nil, w_comp, w_sseq, w_var, List.getElem?_cons_zero, List.getElem?_cons_succ, Option.some.injEq, exists_eq_left', w_sit, wp_toDs, wipeD, List.set_cons_zero, List.set_cons_succ]
      refine (go ds ho (by omega)).mono fun ys μ' ⟨e1, e2⟩ => ?_
      subst e1 e2
      simp only [w_tupl, w_rt, w_flr, wp_seal_dat, ht, tupD, tupDs_map, and_self]
    | lst ds =>
      simp only [D.own] at ho
      simp only [D.dep] at h
      show wp (M.ofOpt (some true)) _ _
      simp only [wp_some, w_tb, w_blt, w_cons, w_nil, w_comp, w_sseq, w_var, List.getElem?_cons_zero, List.getElem?_cons_succ, Option.some.injEq, exists_eq_left', w_sil, wp_toDs, wipeD, List.set_cons_zero, List.set_cons_succ]
      refine (go ds ho (by omega)).mono fun ys μ' ⟨e1, e2⟩ => ?_
      subst e1 e2
      simp only [w_tupl, w_rt, w_flr, wp_seal_dat, ht, tupD, tupDs_map, and_self]
    | frz ds => cases ho
    | _ =>
      show wp (M.ofOpt (some false)) _ _
      simp only [wp_some, w_tb, w_var, List.getElem?_cons_zero, Option.some.injEq, exists_eq_left', w_rt, w_flr, wp_seal_dat, ht, tupD, and_self]
end
end G
set_option Elab.async false
set_option linter.all false
set_option maxRecDepth 100000
set_option maxHeartbeats 1000000
/-! C5: _law_lists. -/
namespace G
open PySem
section
variable {T : Tab} (hT : T.lookup ("_law_lists" : Str) = some C_law_lists)
include hT
theorem lists_ok : ∀ (k : Nat) (d : D), d.own = true → d.dep < k → ∀ μ : Sto, wp (callK T k "_law_lists" [.dat d]) (fun v μ' => v = .dat (lisD d) ∧ μ' = μ) μ
  | 0, d, _, h, _ => by omega
  | k + 1, d, ho, h, μ => by
    have ht : μ.take μ.length = μ := List.take_of_length_le (Nat.le_refl _)
    have go : ∀ ds : List D, D.owns ds = true → D.deps ds < k → wp (compM (.nm 1) (fun ρ' => M.bind (ev (callK T k) (.cst (.bl true)) ρ') truth) (fun ρ' => ev (callK T k) (.call "_law_lists" (.cons (.var 1) .nil)) ρ') [some (.dat d), none] ds) (fun ys μ' => ys = ds.map lisD ∧ μ' = μ) μ := fun ds h1 h2 => by
      refine comp_pure (fun x => ?_) ds fun x hx => ?_
      · simp only [wp_bind, w_cst, w_tb, and_self]
      · simp only [w_cal, w_cons, w_nil, w_var, List.set_cons_zero, List.set_cons_succ, List.getElem?_cons_zero, List.getElem?_cons_succ, Option.some.injEq, exists_eq_left']
        exact lists_ok k x (owns_mem h1 hx) (by have := deps_mem hx; omega) μ
    refine wp_call hT rfl ?_
    show wp (G.exec _ C_law_lists.body [some (.dat d), none]) _ _
    simp only [C_law_lists, w_seq, w_ret, w_itee, w_isi, w_var, List.getElem?_cons_zero, List.getElem?_cons_succ, Option.some.injEq, exists_eq_left']
    cases d with
    | tup ds =>
      simp only [D.own] at ho
      simp only [D.dep] at h
      show wp (M.ofOpt (some true)) _ _
      simp only [wp_some, w_tb, w_comp, w_sseq, w_var, List.getElem?_cons_zero, List.getElem?_cons_succ, Option.some.injEq, exists_eq_left', w_sit, wp_toDs, wipeD, List.set_cons_zero, List.set_cons_succ]
      refine (go ds ho (by omega)).mono fun ys μ' ⟨e1, e2⟩ => ?_
      subst e1 e2
      simp only [w_rt, w_flr, wp_seal_dat, ht, lisD, lisDs_map, and_self]
    | lst ds =>
      simp only [D.own] at ho
      simp only [D.dep] at h
      show wp (M.ofOpt (some true)) _ _
      simp only [wp_some, w_tb, w_comp, w_sseq, w_var, List.getElem?_cons_zero, List.getElem?_cons_succ, Option.some.injEq, exists_eq_left', w_sil, wp_toDs, wipeD, List.set_cons_zero, List.set_cons_succ]
      refine (go ds ho (by omega)).mono fun ys μ' ⟨e1, e2⟩ => ?_
      subst e1 e2
      simp only [w_rt, w_flr, wp_seal_dat, ht, lisD, lisDs_map, and_self]
    | frz ds => cases ho
    | _ =>
      show wp (M.ofOpt (some false)) _ _
      simp only [wp_some, w_tb, w_var, List.getElem?_cons_zero, Option.some.injEq, exists_eq_left', w_rt, w_flr, wp_seal_dat, ht, lisD, and_self]
end
section
variable {tg : Tg} {cond : Env → M Bool} {elt : Env → M Val} {ρ : Env}
/-- the same for any targets -/
theorem comp_pureG {f : D → D} {μ : Sto} : ∀ (ds : List D) (he : ∀ x ∈ ds, ∃ ρ', asg tg (.dat x) ρ = some ρ' ∧ wp (cond ρ') (fun b μ' => b = true ∧ μ' = μ) μ ∧ wp (elt ρ') (fun v μ' => v = .dat (f x) ∧ μ' = μ) μ), wp (compM tg cond elt ρ ds) (fun ys μ' => ys = ds.map f ∧ μ' = μ) μ
  | [], _ => by
    unfold compM
    exact wp_pure.mpr ⟨rfl, rfl⟩
  | x :: r, he => by
    obtain ⟨ρ', a1, a2, a3⟩ := he x (List.mem_cons_self ..)
    unfold compM
    rw [a1]
    simp only [wp_bind, wp_some]
    refine a2.mono fun b μ1 ⟨e1, e2⟩ => ?_
    subst e1 e2
    simp only [wp_bind, wp_pure]
    refine a3.mono fun v μ2 ⟨e1, e2⟩ => ?_
    subst e1 e2
    simp only [toD, wp_pure]
    refine (comp_pureG r fun y hy => he y (List.mem_cons_of_mem _ hy)).mono fun ys μ3 ⟨e1, e2⟩ => ?_
    subst e1
    exact ⟨rfl, e2⟩
end
end G
set_option Elab.async false
set_option linter.all false
set_option maxRecDepth 100000
set_option maxHeartbeats 1000000
/-! C6: _law_same of one thing and itself. -/
namespace G
open PySem
section
variable {φ : Str → List Val → M Val} {ρ : Env} {μ : Sto} {Q : Val → Sto → Prop} {QL : List Val → Sto → Prop}
theorem w_or {a b : Ex} : wp (ev φ (.or a b) ρ) Q μ ↔ wp (ev φ a ρ) (fun x μ1 => wp (truth x) (fun t μ2 => wp (match t with
    | true => M.pure x
    | false => ev φ b ρ) Q μ2) μ1) μ := by rw [ev]; unfold orM; simp only [wp_bind]; all_goals exact Iff.rfl
theorem w_and {a b : Ex} : wp (ev φ (.and a b) ρ) Q μ ↔ wp (ev φ a ρ) (fun x μ1 => wp (truth x) (fun t μ2 => wp (match t with
    | true => ev φ b ρ
    | false => M.pure x) Q μ2) μ1) μ := by rw [ev]; unfold andM; simp only [wp_bind]; all_goals exact Iff.rfl
theorem w_eqB {a b : Bool} : wp (opCmp .eq (.dat (.bl a)) (.dat (.bl b))) Q μ ↔ Q (.dat (.bl (a == b))) μ := by
  show wp (M.bind (M.pure _) _) Q μ ↔ _
  rw [wp_bind, wp_pure]
  show wp (M.bind (M.pure _) _) Q μ ↔ _
  rw [wp_bind, wp_pure]
  exact wp_dat
theorem w_neB {a b : Bool} : wp (opCmp .ne (.dat (.bl a)) (.dat (.bl b))) Q μ ↔ Q (.dat (.bl (!(a == b)))) μ := by
  show wp (M.bind (M.pure _) _) Q μ ↔ _
  rw [wp_bind, wp_pure]
  show wp (M.bind (M.pure _) _) Q μ ↔ _
  rw [wp_bind, wp_pure]
  exact wp_dat
/-- == of data -/
theorem w_eqD {x y : D} (hx : x.cmpb = true) (hy : y.cmpb = true) : wp (opCmp .eq (.dat x) (.dat y)) Q μ ↔ Q (.dat (.bl (D.eqv x y))) μ := by
  show wp (M.bind (M.pure _) _) Q μ ↔ _
  rw [wp_bind, wp_pure]
  show wp (M.bind (M.pure _) _) Q μ ↔ _
  rw [wp_bind, wp_pure]
  show wp (M.when (x.cmpb && y.cmpb) _) Q μ ↔ _
  rw [hx, hy, wp_when, wp_dat]
  exact ⟨fun h => h.2, fun h => ⟨rfl, h⟩⟩
theorem w_neD {x y : D} (hx : x.cmpb = true) (hy : y.cmpb = true) : wp (opCmp .ne (.dat x) (.dat y)) Q μ ↔ Q (.dat (.bl (!D.eqv x y))) μ := by
  show wp (M.bind (M.pure _) _) Q μ ↔ _
  rw [wp_bind, wp_pure]
  show wp (M.bind (M.pure _) _) Q μ ↔ _
  rw [wp_bind, wp_pure]
  show wp (M.when (x.cmpb && y.cmpb) _) Q μ ↔ _
  rw [hx, hy, wp_when, wp_dat]
  exact ⟨fun h => h.2, fun h => ⟨rfl, h⟩⟩
theorem w_isN {d : D} : wp (opCmp .iss (.dat d) (.dat .non)) Q μ ↔ Q (.dat (.bl (isNone (.dat d)))) μ := by
  cases d <;> exact wp_dat
theorem w_szip {a b : Ex} : wp (evL φ (.sZip a b) ρ) QL μ ↔ wp (ev φ a ρ) (fun v μ1 => wp (ev φ b ρ) (fun w μ2 => wp (snapItems v) (fun p μ3 => wp (snapItems w) (fun q μ4 => (p.1 == q.1) = true ∧ QL ((zipD p.2 q.2).map .dat) μ4) μ3) μ2) μ1) μ := by rw [evL]; simp only [wp_bind, wp_when, wp_pure]
theorem w_snt {ds : List D} {QD : Bool × List D → Sto → Prop} : wp (snapItems (.dat (.tup ds))) QD μ ↔ QD (false, ds) μ := wp_pure
theorem w_snl {ds : List D} {QD : Bool × List D → Sto → Prop} : wp (snapItems (.dat (.lst ds))) QD μ ↔ QD (true, ds) μ := wp_pure
theorem w_all {ds : List D} {bs : List Bool} (h : boolsOf ds = some bs) : wp (opBlt .all [.dat (.lst ds)]) Q μ ↔ Q (.dat (.bl (bs.all id))) μ := by
  show wp (M.bind (M.pure (true, ds)) fun p => M.when p.1 (M.bind (M.ofOpt (boolsOf p.2)) fun bs => M.dat (.bl (bs.all id)))) Q μ ↔ _
  rw [wp_bind, wp_pure]
  show wp (M.when true (M.bind (M.ofOpt (boolsOf ds)) _)) Q μ ↔ _
  rw [wp_when, wp_bind, h, wp_some, wp_dat]
  exact ⟨fun h => h.2, fun h => ⟨rfl, h⟩⟩
end
theorem bools_const {α : Type} (b : Bool) : ∀ l : List α, boolsOf (l.map fun _ => D.bl b) = some (l.map fun _ => b)
  | [] => rfl
  | _ :: l => by
    rw [List.map_cons, List.map_cons, boolsOf, bools_const b l]
theorem all_const {α : Type} (l : List α) : (l.map fun _ => true).all id = true := by simp
mutual
theorem eqv_refl : ∀ d : D, d.own = true → D.eqv d d = true
  | .non, _ => rfl
  | .bl b, _ => by simp [D.eqv]
  | .int i, _ => by simp [D.eqv]
  | .str x, _ => by simp [D.eqv]
  | .tup ds, h => by
    rw [D.eqv]
    exact eqvs_refl ds (by simpa [D.own] using h)
  | .lst ds, h => by
    rw [D.eqv]
    exact eqvs_refl ds (by simpa [D.own] using h)
  | .frz ds, h => by simp [D.own] at h
theorem eqvs_refl : ∀ ds : List D, D.owns ds = true → D.eqvs ds ds = true
  | [], _ => rfl
  | d :: ds, h => by
    unfold D.owns at h
    simp only [Bool.and_eq_true] at h
    rw [D.eqvs, eqv_refl d h.1, eqvs_refl ds h.2]; rfl
end
theorem zip_self : ∀ ds : List D, zipD ds ds = ds.map fun d => .tup [d, d]
  | [] => rfl
  | d :: ds => by rw [zipD, List.map_cons, zip_self ds]
section
variable {T : Tab} (hT : T.lookup ("_law_same" : Str) = some C_law_same)
include hT
theorem same_ok : ∀ (k : Nat) (d : D), d.own = true → d.dep < k → d.dep ≤ 64 → ∀ μ : Sto, wp (callK T k "_law_same" [.dat d, .dat d]) (fun v μ' => v = .dat (.bl true) ∧ μ' = μ) μ
  | 0, d, _, h, _, _ => by omega
  | k + 1, d, ho, h, h64, μ => by
    have ht : μ.take μ.length = μ := List.take_of_length_le (Nat.le_refl _)
    have go : ∀ ds : List D, D.owns ds = true → D.deps ds < k → D.deps ds ≤ 64 → wp (compM (.tp (.cons (.nm 2) (.cons (.nm 3) .nil))) (fun ρ' => M.bind (ev (callK T k) (.cst (.bl true)) ρ') truth) (fun ρ' => ev (callK T k) (.call "_law_same" (.cons (.var 2) (.cons (.var 3) .nil))) ρ') [some (.dat d), some (.dat d), none, none] (zipD ds ds)) (fun ys μ' => ys = (zipD ds ds).map (fun _ => D.bl true) ∧ μ' = μ) μ := fun ds h1 h2 h3 => by
      refine comp_pureG _ fun x hx => ?_
      rw [zip_self] at hx
      obtain ⟨y, hy, rfl⟩ := List.mem_map.mp hx
      refine ⟨[some (.dat d), some (.dat d), some (.dat y), some (.dat y)], by simp [asg, asgs], ?_, ?_⟩
      · simp only [wp_bind, w_cst, w_tb, and_self]
      · simp only [w_cal, w_cons, w_nil, w_var, List.getElem?_cons_zero, List.getElem?_cons_succ, Option.some.injEq, exists_eq_left']
        exact same_ok k y (owns_mem h1 hy) (by have := deps_mem hy; omega) (by have := deps_mem hy; omega) μ
    have hcb : d.cmpb = true := by
      unfold D.cmpb
      rw [ho, Nat.ble_eq_true_of_le h64]; rfl
    refine wp_call hT rfl ?_
    show wp (G.exec _ C_law_same.body [some (.dat d), some (.dat d), none, none]) _ _
    simp only [C_law_same, w_seq, w_if, w_isi, w_var, List.getElem?_cons_zero, List.getElem?_cons_succ, Option.some.injEq, exists_eq_left']
    cases d with
    | tup ds =>
      simp only [D.own] at ho
      simp only [D.dep] at h h64
      have i1 : isTys (.dat (.tup ds)) [.list, .tuple] = some true := rfl
      have i2 : isTys (.dat (.tup ds)) [.list] = some false := rfl
      have i3 : isTys (.dat (.tup ds)) [.tuple] = some true := rfl
      simp only [i1, i2, i3, wp_some, w_tb, iteF, w_seq, w_if, w_or, w_cmp, w_isi, w_var, w_neB, w_ret, w_and, w_blt, w_cons, w_nil, w_len_t, w_eqI, w_skip, w_nx, w_comp, w_szip, w_snt, wp_toDs, wipeD, List.set_cons_zero, List.set_cons_succ, List.getElem?_cons_zero, List.getElem?_cons_succ, Option.some.injEq, exists_eq_left', beq_self_eq_true, Bool.not_true, true_and]
      refine (go ds ho (by omega) (by omega)).mono fun ys μ' ⟨e1, e2⟩ => ?_
      subst e1 e2
      simp only [w_all (bools_const true _), all_const, w_rt, w_flr, wp_seal_dat, ht, and_self]
    | lst ds =>
      simp only [D.own] at ho
      simp only [D.dep] at h h64
      have i1 : isTys (.dat (.lst ds)) [.list, .tuple] = some true := rfl
      have i2 : isTys (.dat (.lst ds)) [.list] = some true := rfl
      have i3 : isTys (.dat (.lst ds)) [.tuple] = some false := rfl
      simp only [i1, i2, i3, wp_some, w_tb, iteF, w_seq, w_if, w_or, w_cmp, w_isi, w_var, w_neB, w_ret, w_and, w_blt, w_cons, w_nil, w_len_l, w_eqI, w_skip, w_nx, w_comp, w_szip, w_snl, wp_toDs, wipeD, List.set_cons_zero, List.set_cons_succ, List.getElem?_cons_zero, List.getElem?_cons_succ, Option.some.injEq, exists_eq_left', beq_self_eq_true, Bool.not_true, true_and]
      refine (go ds ho (by omega) (by omega)).mono fun ys μ' ⟨e1, e2⟩ => ?_
      subst e1 e2
      simp only [w_all (bools_const true _), all_const, w_rt, w_flr, wp_seal_dat, ht, and_self]
    | frz ds => cases ho
    | non =>
      have i1 : isTys (.dat .non) [.list, .tuple] = some false := rfl
      have i2 : isTys (.dat .non) [.bool] = some false := rfl
      simp only [i1, i2, wp_some, w_tb, iteF, w_skip, w_nx, w_seq, w_if, w_or, w_and, w_cmp, w_isi, w_var, w_cst, w_isN, w_ret, w_eqD hcb hcb, w_eqB, isNone, wp_pure, eqv_refl _ ho, List.getElem?_cons_zero, List.getElem?_cons_succ, Option.some.injEq, exists_eq_left', beq_self_eq_true, w_rt, w_flr, wp_seal_dat, ht, and_self]
    | bl b =>
      have i1 : isTys (.dat (.bl b)) [.list, .tuple] = some false := rfl
      have i2 : isTys (.dat (.bl b)) [.bool, .str] = some true := rfl
      have i3 : isTys (.dat (.bl b)) [.bool] = some true := rfl
      simp only [i1, i2, i3, wp_some, w_tb, iteF, w_skip, w_nx, w_seq, w_if, w_or, w_and, w_cmp, w_isi, w_var, w_cst, w_isN, w_ret, w_eqD hcb hcb, w_eqB, isNone, wp_pure, eqv_refl _ ho, List.getElem?_cons_zero, List.getElem?_cons_succ, Option.some.injEq, exists_eq_left', beq_self_eq_true, w_rt, w_flr, wp_seal_dat, ht, and_self]
    | str x =>
      have i1 : isTys (.dat (.str x)) [.list, .tuple] = some false := rfl
      have i2 : isTys (.dat (.str x)) [.bool, .str] = some true := rfl
      have i3 : isTys (.dat (.str x)) [.bool] = some false := rfl
      simp only [i1, i2, i3, wp_some, w_tb, iteF, w_skip, w_nx, w_seq, w_if, w_or, w_and, w_cmp, w_isi, w_var, w_cst, w_isN, w_ret, w_eqD hcb hcb, w_eqB, isNone, wp_pure, eqv_refl _ ho, List.getElem?_cons_zero, List.getElem?_cons_succ, Option.some.injEq, exists_eq_left', beq_self_eq_true, w_rt, w_flr, wp_seal_dat, ht, and_self]
    | int i =>
      have i1 : isTys (.dat (.int i)) [.list, .tuple] = some false := rfl
      have i2 : isTys (.dat (.int i)) [.bool, .str] = some false := rfl
      have i3 : isTys (.dat (.int i)) [.bool] = some false := rfl
      have i4 : isTys (.dat (.int i)) [.int] = some true := rfl
      simp only [i1, i2, i3, i4, wp_some, w_tb, iteF, w_skip, w_nx, w_seq, w_if, w_or, w_and, w_not, w_cmp, w_isi, w_var, w_cst, w_isN, w_ret, w_eqI, isNone, wp_pure, Bool.not_false, List.getElem?_cons_zero, List.getElem?_cons_succ, Option.some.injEq, exists_eq_left', beq_self_eq_true, w_rt, w_flr, wp_seal_dat, ht, and_self]
end
end G
set_option Elab.async false
set_option linter.all false
set_option maxRecDepth 100000
set_option maxHeartbeats 1000000
/-! C7: loops. -/
namespace G
open PySem
section
variable {φ : Str → List Val → M Val} {t : Tg} {body : Env → M Fl} {Q : Fl → Sto → Prop}
/-- what a turn may end with -/
def Turn (J : Env → Sto → Prop) (Q : Fl → Sto → Prop) (fl : Fl) (μ : Sto) : Prop := match fl with
  | .nx ρ => J ρ μ
  | .ct ρ => J ρ μ
  | .bk ρ => Q (.nx ρ) μ
  | .rt v => Q (.rt v) μ
theorem wp_for (I : List D → Env → Sto → Prop) (step : ∀ x r ρ μ, I (x :: r) ρ μ → ∃ ρ', asg t (.dat x) ρ = some ρ' ∧ wp (body ρ') (Turn (I r) Q) μ) (fin : ∀ ρ μ, I [] ρ μ → Q (.nx ρ) μ) :
    ∀ (ds : List D) (ρ : Env) (μ : Sto), I ds ρ μ → wp (forM t body ds ρ) Q μ
  | [], ρ, μ, h => by
    unfold forM
    exact wp_pure.mpr (fin ρ μ h)
  | x :: r, ρ, μ, h => by
    obtain ⟨ρ', e, w⟩ := step x r ρ μ h
    unfold forM
    rw [e]
    simp only [wp_bind, wp_some]
    refine w.mono fun fl μ' q => ?_
    cases fl with
    | nx ρ2 => exact wp_for I step fin r ρ2 μ' q
    | ct ρ2 => exact wp_for I step fin r ρ2 μ' q
    | bk ρ2 => exact wp_pure.mpr q
    | rt v => exact wp_pure.mpr q
theorem w_for {ρ : Env} {μ : Sto} {src : Ex} {b : St} : wp (exec φ (.fr t src b) ρ) Q μ ↔ wp (evL φ src ρ) (fun xs μ1 => wp (toDs xs) (fun ds μ2 => wp (forM t (fun ρ' => exec φ b ρ') ds ρ) Q μ2) μ1) μ := by rw [G.exec]; simp only [wp_bind]
theorem w_par {ρ : Env} {μ : Sto} {i j : Nat} {es : Ex} : wp (exec φ (.par i j es) ρ) Q μ ↔ wp (evL φ es ρ) (fun vs μ1 => wp (parF i j ρ vs) Q μ1) μ := by rw [G.exec]; simp only [wp_bind]
theorem w_parF {ρ : Env} {μ : Sto} {i j : Nat} {v w : Val} : wp (parF i j ρ [v, w]) Q μ ↔ Q (.nx ((ρ.set i (some v)).set j (some w))) μ := wp_pure
theorem w_clst {ρ : Env} {μ : Sto} {es : Ex} {Q : Val → Sto → Prop} : wp (ev φ (.clst es) ρ) Q μ ↔ wp (evL φ es ρ) (fun vs μ1 => wp (toDs vs) (fun ds μ2 => Nat.ble ds.length LINE = true ∧ Q (.ref μ2.length) (μ2 ++ [.lst ds])) μ1) μ := by rw [ev]; simp only [wp_bind, wp_when, wp_new]
theorem w_lst {ρ : Env} {μ : Sto} {es : Ex} {Q : Val → Sto → Prop} : wp (ev φ (.lst es) ρ) Q μ ↔ wp (evL φ es ρ) (fun vs μ1 => wp (toDs vs) (fun ds μ2 => Nat.ble ds.length LINE = true ∧ Q (.dat (.lst ds)) μ2) μ1) μ := by rw [ev]; simp only [wp_bind, wp_when, wp_dat]
theorem w_tup {ρ : Env} {μ : Sto} {es : Ex} {Q : Val → Sto → Prop} : wp (ev φ (.tup es) ρ) Q μ ↔ wp (evL φ es ρ) (fun vs μ1 => wp (toDs vs) (fun ds μ2 => Nat.ble ds.length LINE = true ∧ Q (.dat (.tup ds)) μ2) μ1) μ := by rw [ev]; simp only [wp_bind, wp_when, wp_dat]
theorem w_toDs_nil {μ : Sto} {QD : List D → Sto → Prop} : wp (toDs []) QD μ ↔ QD [] μ := wp_pure
theorem w_toDs_cons {μ : Sto} {d : D} {vs : List Val} {QD : List D → Sto → Prop} : wp (toDs (.dat d :: vs)) QD μ ↔ wp (toDs vs) (fun ds μ1 => QD (d :: ds) μ1) μ := by
  rw [toDs]
  simp only [toD, wp_bind, wp_pure]
end
end G
set_option Elab.async false
set_option linter.all false
set_option maxRecDepth 100000
set_option maxHeartbeats 1000000
/-! C8: lists that change. -/
namespace G
open PySem
section
variable {φ : Str → List Val → M Val} {ρ : Env} {μ : Sto} {Q : Val → Sto → Prop}
theorem w_mth {m : Mth} {o es : Ex} : wp (ev φ (.mth m o es) ρ) Q μ ↔ wp (ev φ o ρ) (fun x μ1 => wp (liveL x) (fun _ μ2 => wp (evL φ es ρ) (fun vs μ3 => wp (opMth m x vs) Q μ3) μ2) μ1) μ := by rw [ev]; simp only [wp_bind]
theorem w_live {n : Nat} {QU : Unit → Sto → Prop} {ds : List D} (h : μ[n]? = some (.lst ds)) : wp (liveL (.ref n)) QU μ ↔ QU () μ := by
  show wp (M.bind (cellAt n) _) QU μ ↔ _
  rw [wp_bind, wp_cell h]
  exact wp_pure
theorem w_append {n : Nat} {ds : List D} {d : D} (h : μ[n]? = some (.lst ds)) (hl : ds.length < LINE) : wp (opMth .append (.ref n) [.dat d]) Q μ ↔ Q (.dat .non) (μ.set n (.lst (ds ++ [d]))) := by
  show wp (M.bind (cellAt n) _) Q μ ↔ _
  rw [wp_bind, wp_cell h]
  show wp (M.when (Nat.blt ds.length LINE) _) Q μ ↔ _
  have hb : Nat.blt ds.length LINE = true := by simpa [Nat.blt_eq] using hl
  rw [wp_when, hb, wp_bind, wp_set]
  exact ⟨fun h => wp_dat.mp h.2, fun h => ⟨rfl, wp_dat.mpr h⟩⟩
theorem w_popAt {n : Nat} {ds : List D} {i : Int} {d : D} (h : μ[n]? = some (.lst ds)) (h1 : 0 ≤ i) (h2 : i < 2 ^ 62) (hd : ds[i.toNat]? = some d) : wp (opMth .popAt (.ref n) [.dat (.int i)]) Q μ ↔ Q (.dat d) (μ.set n (.lst (ds.eraseIdx i.toNat))) := by
  show wp (M.bind (cellAt n) _) Q μ ↔ _
  rw [wp_bind, wp_cell h]
  show wp (M.when (decide (0 ≤ i) && decide (i < 2 ^ 62)) _) Q μ ↔ _
  rw [wp_when, decide_eq_true h1, decide_eq_true h2, hd, wp_bind, wp_some, wp_bind, wp_set]
  exact ⟨fun h => wp_dat.mp h.2, fun h => ⟨rfl, wp_dat.mpr h⟩⟩
theorem w_len_r {n : Nat} {ds : List D} (h : μ[n]? = some (.lst ds)) : wp (opBlt .len [.ref n]) Q μ ↔ Q (.dat (.int ds.length)) μ := by
  show wp (M.bind (M.bind (cellAt n) _) _) Q μ ↔ _
  rw [wp_bind, wp_bind, wp_cell h]
  exact Iff.trans wp_pure wp_dat
end
end G
set_option Elab.async false
set_option linter.all false
set_option maxRecDepth 100000
set_option maxHeartbeats 1000000
/-! C9: names drawn out of a list. -/
namespace G
open PySem
/-- behind the box: two lists -/
def Two (β n : Nat) (μ : Sto) (l f : List D) (μ' : Sto) : Prop := ∃ c, μ' = μ.set β c ++ [.lst l, .lst f] ∧ Box β n μ'
theorem Two.at_l {β n : Nat} {μ μ' : Sto} {l f : List D} (h : Two β n μ l f μ') : μ'[μ.length]? = some (.lst l) := by
  obtain ⟨c, rfl, _⟩ := h
  rw [List.getElem?_append_right (by rw [List.length_set]; exact Nat.le_refl _), List.length_set, Nat.sub_self]
  rfl
theorem Two.at_f {β n : Nat} {μ μ' : Sto} {l f : List D} (h : Two β n μ l f μ') : μ'[μ.length + 1]? = some (.lst f) := by
  obtain ⟨c, rfl, _⟩ := h
  rw [List.getElem?_append_right (by rw [List.length_set]; omega), List.length_set]
  have : μ.length + 1 - μ.length = 1 := by omega
  rw [this]
  rfl
theorem Two.draw {β n m : Nat} {μ μ1 μ2 : Sto} {l f : List D} (hp : β < μ.length) (h : Two β n μ l f μ1) (s : Stp β m μ1 μ2) : Two β m μ l f μ2 := by
  obtain ⟨c, rfl, _⟩ := h
  obtain ⟨⟨d, rfl⟩, b⟩ := s
  refine ⟨d, ?_, b⟩
  rw [List.set_append_left _ _ (by rw [List.length_set]; exact hp), List.set_set]
theorem Two.set_l {β n : Nat} {μ μ1 : Sto} {l f l' : List D} (hp : β < μ.length) (h : Two β n μ l f μ1) : Two β n μ l' f (μ1.set μ.length (.lst l')) := by
  obtain ⟨c, rfl, b⟩ := h
  have e : (μ.set β c ++ [Cell.lst l, Cell.lst f]).set μ.length (.lst l') = μ.set β c ++ [.lst l', .lst f] := by
    rw [List.set_append_right _ _ (by rw [List.length_set]; exact Nat.le_refl _), List.length_set, Nat.sub_self]
    rfl
  refine ⟨c, e, ?_⟩
  rw [e]
  obtain ⟨x, y, z, q, r⟩ := b.ex
  refine ⟨x, y, z, ?_, r⟩
  rw [List.getElem?_append_left (by rw [List.length_set]; exact hp)] at q ⊢
  exact q
theorem Two.set_f {β n : Nat} {μ μ1 : Sto} {l f f' : List D} (hp : β < μ.length) (h : Two β n μ l f μ1) : Two β n μ l f' (μ1.set (μ.length + 1) (.lst f')) := by
  obtain ⟨c, rfl, b⟩ := h
  have e : (μ.set β c ++ [Cell.lst l, Cell.lst f]).set (μ.length + 1) (.lst f') = μ.set β c ++ [.lst l, .lst f'] := by
    rw [List.set_append_right _ _ (by rw [List.length_set]; omega), List.length_set]
    have : μ.length + 1 - μ.length = 1 := by omega
    rw [this]
    rfl
  refine ⟨c, e, ?_⟩
  rw [e]
  obtain ⟨x, y, z, q, r⟩ := b.ex
  refine ⟨x, y, z, ?_, r⟩
  rw [List.getElem?_append_left (by rw [List.length_set]; exact hp)] at q ⊢
  exact q
end G
set_option Elab.async false
set_option linter.all false
set_option maxRecDepth 100000
set_option maxHeartbeats 1000000
/-! C10: the loop that draws names. -/
namespace G
open PySem
theorem perm_pick {l f : List D} {i : Nat} {d : D} (h : l[i]? = some d) : (l.eraseIdx i ++ (f ++ [d])).Perm (l ++ f) := by
  have p : (d :: l.eraseIdx i).Perm l := L2.erase_perm l i d h
  have q : (l.eraseIdx i ++ (f ++ [d])).Perm (d :: (l.eraseIdx i ++ f)) := by
    rw [← List.append_assoc]
    exact List.perm_append_singleton _ _
  exact q.trans (p.append_right f)
theorem set_self {α : Type} (ρ : List (Option α)) (i : Nat) : ∃ x, ρ = ρ.set i x := by
  by_cases h : i < ρ.length
  · exact ⟨ρ[i], by rw [List.set_getElem_self]⟩
  · exact ⟨none, by rw [List.set_eq_of_length_le (by omega)]⟩
section
variable {T : Tab} (hT : T.lookup ("_law_take" : Str) = some C_law_take)
include hT
theorem pick_loop {k n β ti li fi : Nat} {μ : Sto} (hp : β < μ.length) (h0 : ti ≠ 0) (h1 : ti ≠ li) (h2 : ti ≠ fi) {Q : Fl → Sto → Prop} (ds : List D) (ρ : Env) (l f : List D) (μ1 : Sto)
    (e0 : ρ[0]? = some (some (.ref β))) (e1 : ρ[li]? = some (some (.ref μ.length))) (e2 : ρ[fi]? = some (some (.ref (μ.length + 1)))) (hl : ds.length ≤ l.length) (hb : l.length + f.length < 1000) (tw : Two β (n + ds.length) μ l f μ1)
    (fin : ∀ ρ' l' f' μ2, ρ'[0]? = some (some (.ref β)) → ρ'[li]? = some (some (.ref μ.length)) → ρ'[fi]? = some (some (.ref (μ.length + 1))) → ρ'.length = ρ.length → (l' ++ f').Perm (l ++ f) → f'.length = f.length + ds.length → Two β n μ l' f' μ2 → (∃ x, ρ' = ρ.set ti x) → Q (.nx ρ') μ2) :
    wp (forM (.nm ti) (fun ρ' => G.exec (callK T (k + 1)) (.seq (.exp (.mth .append (.var fi) (.cons (.mth .popAt (.var li) (.cons (.call "_law_take" (.cons (.var 0) (.cons (.blt .len (.cons (.var li) .nil)) .nil))) .nil)) .nil))) .skip) ρ') ds ρ) Q μ1 := by
  refine wp_for (I := fun r ρ' μ' => ∃ l' f', ρ'[0]? = some (some (.ref β)) ∧ ρ'[li]? = some (some (.ref μ.length)) ∧ ρ'[fi]? = some (some (.ref (μ.length + 1))) ∧ ρ'.length = ρ.length ∧ (l' ++ f').Perm (l ++ f) ∧ f'.length + r.length = f.length + ds.length ∧ r.length ≤ l'.length ∧ Two β (n + r.length) μ l' f' μ' ∧ ∃ x, ρ' = ρ.set ti x) ?_ ?_ ds ρ μ1 ⟨l, f, e0, e1, e2, rfl, .refl _, rfl, hl, tw, set_self ρ ti⟩
  · rintro x r ρ' μ' ⟨l', f', a0, a1, a2, a3, a4, a5, a6, a7, xx, a8⟩
    refine ⟨ρ'.set ti (some (.dat x)), by rw [asg], ?_⟩
    have b0 : (ρ'.set ti (some (.dat x)))[0]? = some (some (.ref β)) := by rw [List.getElem?_set_ne h0]; exact a0
    have b1 : (ρ'.set ti (some (.dat x)))[li]? = some (some (.ref μ.length)) := by rw [List.getElem?_set_ne h1]; exact a1
    have b2 : (ρ'.set ti (some (.dat x)))[fi]? = some (some (.ref (μ.length + 1))) := by rw [List.getElem?_set_ne h2]; exact a2
    have hlen := a4.length_eq
    rw [List.length_append, List.length_append] at hlen
    rw [List.length_cons] at a5 a6 a7
    simp only [w_seq, w_exp, w_mth, w_var, w_cons, w_nil, w_cal, w_blt, b0, b1, b2, Option.some.injEq, exists_eq_left', w_live a7.at_f, w_live a7.at_l, w_len_r a7.at_l]
    have B : Box β ((n + r.length) + 1) μ' := by obtain ⟨c, _, b⟩ := a7; exact b
    refine (take_st hT (by omega) (by omega) B).mono fun v μ2 ⟨i, ei, i1, i2, st⟩ => ?_
    subst ei
    have t2 := a7.draw hp st
    have hi : i.toNat < l'.length := by omega
    have hd : l'[i.toNat]? = some l'[i.toNat] := List.getElem?_eq_getElem hi
    have t3 := t2.set_l (l' := l'.eraseIdx i.toNat) hp
    have t4 := t3.set_f (f' := f' ++ [l'[i.toNat]]) hp
    simp only [w_popAt t2.at_l i1 (by omega) hd, w_append t3.at_f (by have : LINE = 16777216 := rfl; omega), w_nx, w_skip]
    refine ⟨l'.eraseIdx i.toNat, f' ++ [l'[i.toNat]], b0, b1, b2, by rw [List.length_set]; exact a3, (perm_pick hd).trans a4, by rw [List.length_append, List.length_singleton]; omega, by rw [List.length_eraseIdx_of_lt hi]; omega, t4, _, by rw [a8, List.set_set]⟩
  · rintro ρ' μ' ⟨l', f', a0, a1, a2, a3, a4, a5, a6, a7, xx, a8⟩
    exact fin ρ' l' f' μ' a0 a1 a2 a3 a4 (by simpa using a5) a7 ⟨xx, a8⟩
end
end G
set_option Elab.async false
set_option linter.all false
set_option maxRecDepth 100000
set_option maxHeartbeats 0
namespace K05
open PySem L2 G
def top (i : Nat) : Stmt := PySem.Challenge.pw_comeby_k05_logins_closed_files_and_withi.main.body.getD i (.Pass ⟨0, 0, 0, 0⟩)
def k_ROOT : D := (.int 0)
def k_FAST : D := (.str "fast")
def k_SWITCHES : D := (.tup [(.str "fast"), (.str "keep"), (.str "nonew"), (.str "plain"), (.str "steady")])
def t_BadText_NoFile_NoProcess_NoUser_Refused : List (Str × Bool) := [("NoUser", true), ("NoFile", true), ("NoProcess", true), ("Refused", true), ("BadText", true)]
def t_BadText_NoFile_NoProcess_Refused : List (Str × Bool) := [("NoUser", false), ("NoFile", true), ("NoProcess", true), ("Refused", true), ("BadText", true)]
def t_LookupError : List (Str × Bool) := [("NoUser", true), ("NoFile", true), ("NoProcess", true), ("Refused", false), ("BadText", false)]
def t_NoUser : List (Str × Bool) := [("NoUser", true), ("NoFile", false), ("NoProcess", false), ("Refused", false), ("BadText", false)]
def x_NoUser : XD := ⟨"NoUser", "user", .lk, defArgs (clsDef (top 1)), defBody (clsDef (top 1)), defScope (clsDef (top 1))⟩
def d_tupled : Df := ⟨"tupled", defArgs (top 7), defBody (top 7), defScope (top 7), ["thing", "part"]⟩
def f_tupled : Fn := ⟨1, 2, false,
  (.seq (.ret (.ite (.isi (.var 0) [.list, .tuple]) (.blt .tuple (.cons (.comp (.call "tupled" (.cons (.var 1) .nil)) (.nm 1) (.sSeq (.var 0)) (.cst (.bl true)) [1]) .nil)) (.var 0)))
    .skip)⟩
def d_login : Df := ⟨"login", defArgs (top 12), defBody (top 12), defScope (top 12), ["world", "user", "mine", "users", "rights", "files"]⟩
def f_login : Fn := ⟨2, 6, false,
  (.seq (.set (.tp (.cons (.nm 3) (.cons (.nm 4) (.cons (.nm 5) .nil)))) (.call "tupled" (.cons (.var 0) .nil)))
    (.seq (.ite (.cmp .notin (.var 1) (.var 3)) (.seq (.rse "NoUser" "user" (.cons (.var 1) .nil))
    .skip) .skip)
    (.seq (.set (.nm 2) (.ite (.cmp .eq (.var 1) (.glo "ROOT" k_ROOT)) (.var 4) (.tup .nil)))
    (.seq (.ret (.tup (.cons (.tup (.cons (.var 1) (.cons (.var 1) (.cons (.var 1) .nil)))) (.cons (.tup (.cons (.var 2) (.cons (.var 2) (.cons (.tup .nil) (.cons (.tup .nil) (.cons (.var 4) .nil)))))) (.cons (.tup .nil) (.cons (.cst .non) .nil))))))
    .skip))))⟩
def d_closed : Df := ⟨"closed", defArgs (top 13), defBody (top 13), defScope (top 13), ["world", "names", "rows", "users", "rights", "files", "file"]⟩
def f_closed : Fn := ⟨2, 7, false,
  (.seq (.set (.tp (.cons (.nm 3) (.cons (.nm 4) (.cons (.nm 5) .nil)))) (.call "tupled" (.cons (.var 0) .nil)))
    (.seq (.set (.nm 2) (.comp (.ite (.cmp .isin (.idx (.var 6) (.cst (.int 0))) (.var 1)) (.bin .add (.slc (.var 6) .nil (.cons (.cst (.int 4)) .nil)) (.tup (.cons (.tup .nil) (.cons (.idx (.var 6) (.cst (.int 5))) .nil)))) (.var 6)) (.nm 6) (.sSeq (.var 5)) (.cst (.bl true)) [6]))
    (.seq (.ret (.tup (.cons (.var 3) (.cons (.var 4) (.cons (.blt .tuple (.cons (.var 2) .nil)) .nil)))))
    .skip)))⟩
def d_is_part : Df := ⟨"is_part", defArgs (top 14), defBody (top 14), defScope (top 14), ["some", "others", "thing"]⟩
def f_is_part : Fn := ⟨2, 3, false,
  (.seq (.ret (.blt .all (.cons (.comp (.cmp .isin (.var 2) (.var 1)) (.nm 2) (.sSeq (.var 0)) (.cst (.bl true)) [2]) .nil)))
    .skip)⟩
def d_switched_within : Df := ⟨"switched_within", defArgs (top 15), defBody (top 15), defScope (top 15), ["one", "other", "word"]⟩
def f_switched_within : Fn := ⟨2, 3, false,
  (.seq (.ite (.and (.cmp .isin (.glo "FAST" k_FAST) (.var 1)) (.cmp .notin (.glo "FAST" k_FAST) (.var 0))) (.seq (.ret (.cst (.bl false)))
    .skip) .skip)
    (.seq (.ret (.blt .all (.cons (.comp (.cmp .eq (.cmp .isin (.var 2) (.var 0)) (.cmp .isin (.var 2) (.var 1))) (.nm 2) (.sSeq (.glo "SWITCHES" k_SWITCHES)) (.cmp .ne (.var 2) (.glo "FAST" k_FAST)) [2]) .nil)))
    .skip))⟩
def d_within : Df := ⟨"within", defArgs (top 16), defBody (top 16), defScope (top 16), ["one", "other", "mine", "its", "some", "others"]⟩
def f_within : Fn := ⟨2, 6, false,
  (.seq (.par 2 3 (.cons (.call "tupled" (.cons (.var 0) .nil)) (.cons (.call "tupled" (.cons (.var 1) .nil)) .nil)))
    (.seq (.ite (.or (.cmp .ne (.idx (.var 2) (.cst (.int 0))) (.idx (.var 3) (.cst (.int 0)))) (.or (.cmp .ne (.idx (.var 2) (.cst (.int 3))) (.idx (.var 3) (.cst (.int 3)))) (.not (.call "switched_within" (.cons (.idx (.var 2) (.cst (.int 2))) (.cons (.idx (.var 3) (.cst (.int 2))) .nil)))))) (.seq (.ret (.cst (.bl false)))
    .skip) .skip)
    (.seq (.ret (.blt .all (.cons (.comp (.call "is_part" (.cons (.var 4) (.cons (.var 5) .nil))) (.tp (.cons (.nm 4) (.cons (.nm 5) .nil))) (.sZip (.idx (.var 2) (.cst (.int 1))) (.idx (.var 3) (.cst (.int 1)))) (.cst (.bl true)) [4, 5]) .nil)))
    .skip)))⟩
def d__law_box : Df := ⟨"_law_box", defArgs (top 18), defBody (top 18), defScope (top 18), ["_law_script", "_law_k", "_law_cell"]⟩
def f__law_box : Fn := ⟨2, 3, true,
  (.seq (.set (.nm 2) (.ite (.cmp .lt (.var 1) (.blt .len (.cons (.var 0) .nil))) (.idx (.var 0) (.var 1)) (.cst (.int 0))))
    (.seq (.ret (.clst (.cons (.bin .mul (.blt .abs (.cons (.var 2) .nil)) (.blt .int (.cons (.cmp .ge (.blt .abs (.cons (.var 2) .nil)) (.bin .pow (.cst (.int 10)) (.cst (.int 18)))) .nil))) (.cons (.bin .add (.bin .add (.bin .mod (.blt .int (.cons (.var 2) .nil)) (.cst (.int 2305843009213693951))) (.bin .mul (.cst (.int 39373)) (.var 1))) (.cst (.int 239))) (.cons (.cst (.int 0)) .nil)))))
    .skip))⟩
def d__law_take : Df := ⟨"_law_take", defArgs (top 19), defBody (top 19), defScope (top 19), ["_law_box_here", "_law_below", "_law_once", "_law_far", "_law_twice", "_law_drawn_here"]⟩
def f__law_take : Fn := ⟨2, 6, false,
  (.seq (.ite (.cmp .gt (.idx (.var 0) (.cst (.int 0))) (.cst (.int 0))) (.seq (.set (.nm 5) (.bin .mod (.blt .int (.cons (.idx (.var 0) (.cst (.int 0))) .nil)) (.var 1)))
    (.seq (.setIx (.var 0) (.cst (.int 0)) (.bin .fdiv (.idx (.var 0) (.cst (.int 0))) (.var 1)))
    (.seq (.ret (.var 5))
    .skip))) .skip)
    (.seq (.setIx (.var 0) (.cst (.int 2)) (.bin .add (.idx (.var 0) (.cst (.int 2))) (.cst (.int 1))))
    (.seq (.set (.nm 2) (.bin .mod (.blt .int (.cons (.bin .mul (.bin .add (.idx (.var 0) (.cst (.int 1))) (.bin .mul (.cst (.int 48271)) (.idx (.var 0) (.cst (.int 2))))) (.bin .add (.cst (.int 39373)) (.idx (.var 0) (.cst (.int 2))))) .nil)) (.cst (.int 2147483647))))
    (.seq (.set (.nm 3) (.bin .add (.bin .mod (.blt .int (.cons (.var 2) .nil)) (.cst (.int 40009))) (.cst (.int 7))))
    (.seq (.set (.nm 4) (.bin .mod (.blt .int (.cons (.bin .mul (.bin .add (.bin .add (.var 2) (.idx (.var 0) (.cst (.int 2)))) (.bin .fdiv (.idx (.var 0) (.cst (.int 1))) (.cst (.int 1000003)))) (.var 3)) .nil)) (.cst (.int 2147483629))))
    (.seq (.ret (.bin .mod (.blt .int (.cons (.bin .fdiv (.bin .mod (.blt .int (.cons (.bin .add (.bin .mul (.var 4) (.cst (.int 48271))) (.var 2)) .nil)) (.cst (.int 2147483587))) (.cst (.int 64))) .nil)) (.var 1)))
    .skip))))))⟩
def d__law_cells : Df := ⟨"_law_cells", defArgs (top 20), defBody (top 20), defScope (top 20), ["_law_script", "_law_most", "_law_cells_here", "_law_k", "_law_cell", "_law_spot_here"]⟩
def f__law_cells : Fn := ⟨2, 6, false,
  (.seq (.set (.nm 2) (.or (.blt .clist (.cons (.slc (.var 0) .nil (.cons (.var 1) .nil)) .nil)) (.clst (.cons (.cst (.int 0)) .nil))))
    (.seq (.fr (.tp (.cons (.nm 3) (.cons (.nm 4) .nil))) (.sEnum (.slc (.var 0) (.cons (.var 1) .nil) (.cons (.cst (.int 63)) .nil))) (.seq (.set (.nm 5) (.bin .mod (.blt .int (.cons (.var 3) .nil)) (.var 1)))
    (.seq (.setIx (.var 2) (.var 5) (.bin .add (.idx (.var 2) (.var 5)) (.bin .mul (.var 4) (.bin .add (.var 3) (.cst (.int 2))))))
    .skip)))
    (.seq (.ret (.var 2))
    .skip)))⟩
def d__law_of : Df := ⟨"_law_of", defArgs (top 21), defBody (top 21), defScope (top 21), ["_law_box_here", "_law_some"]⟩
def f__law_of : Fn := ⟨2, 2, false,
  (.seq (.ret (.idx (.var 1) (.call "_law_take" (.cons (.var 0) (.cons (.blt .len (.cons (.var 1) .nil)) .nil)))))
    .skip)⟩
def d__law_lists : Df := ⟨"_law_lists", defArgs (top 22), defBody (top 22), defScope (top 22), ["_law_matter", "_law_bit"]⟩
def f__law_lists : Fn := ⟨1, 2, false,
  (.seq (.ret (.ite (.isi (.var 0) [.list, .tuple]) (.comp (.call "_law_lists" (.cons (.var 1) .nil)) (.nm 1) (.sSeq (.var 0)) (.cst (.bl true)) [1]) (.var 0)))
    .skip)⟩
def d__law_same : Df := ⟨"_law_same", defArgs (top 23), defBody (top 23), defScope (top 23), ["_law_found", "_law_due_here", "_law_mine", "_law_its"]⟩
def f__law_same : Fn := ⟨2, 4, false,
  (.seq (.ite (.isi (.var 1) [.list, .tuple]) (.seq (.ite (.or (.cmp .ne (.isi (.var 0) [.list]) (.isi (.var 1) [.list])) (.cmp .ne (.isi (.var 0) [.tuple]) (.isi (.var 1) [.tuple]))) (.seq (.ret (.cst (.bl false)))
    .skip) .skip)
    (.seq (.ret (.and (.cmp .eq (.blt .len (.cons (.var 0) .nil)) (.blt .len (.cons (.var 1) .nil))) (.blt .all (.cons (.comp (.call "_law_same" (.cons (.var 2) (.cons (.var 3) .nil))) (.tp (.cons (.nm 2) (.cons (.nm 3) .nil))) (.sZip (.var 0) (.var 1)) (.cst (.bl true)) [2, 3]) .nil))))
    .skip)) .skip)
    (.seq (.ite (.or (.cmp .iss (.var 1) (.cst .non)) (.isi (.var 1) [.bool, .str])) (.seq (.ret (.and (.cmp .eq (.var 0) (.var 1)) (.and (.cmp .eq (.isi (.var 0) [.bool]) (.isi (.var 1) [.bool])) (.cmp .eq (.cmp .iss (.var 0) (.cst .non)) (.cmp .iss (.var 1) (.cst .non))))))
    .skip) .skip)
    (.seq (.ret (.and (.isi (.var 0) [.int]) (.and (.not (.isi (.var 0) [.bool])) (.cmp .eq (.var 0) (.var 1)))))
    .skip)))⟩
def d__law_few : Df := ⟨"_law_few", defArgs (top 24), defBody (top 24), defScope (top 24), ["_law_box_here", "_law_pool_here", "_law_odds", "_law_own"]⟩
def f__law_few : Fn := ⟨3, 4, false,
  (.seq (.ret (.blt .tuple (.cons (.comp (.var 3) (.nm 3) (.sSeq (.var 1)) (.cmp .eq (.call "_law_take" (.cons (.var 0) (.cons (.var 2) .nil))) (.cst (.int 0))) [3]) .nil)))
    .skip)⟩
def d__law_act : Df := ⟨"_law_act", defArgs (top 25), defBody (top 25), defScope (top 25), ["_law_box_here", "_law_folk_here", "_law_pool_here", "_law_titles", "_law_way", "_law_some", "_law_turn", "_law_own"]⟩
def f__law_act : Fn := ⟨4, 8, false,
  (.seq (.set (.nm 4) (.call "_law_take" (.cons (.var 0) (.cons (.cst (.int 12)) .nil))))
    (.seq (.ite (.cmp .lt (.var 4) (.cst (.int 3))) (.seq (.ret (.bin .add (.tup (.cons (.cst (.str "ids")) .nil)) (.blt .tuple (.cons (.comp (.call "_law_of" (.cons (.var 0) (.cons (.bin .add (.tup (.cons (.cst .non) .nil)) (.var 1)) .nil))) (.nm 6) (.sRng (.cst (.int 3))) (.cst (.bl true)) [6]) .nil))))
    .skip) .skip)
    (.seq (.ite (.cmp .lt (.var 4) (.cst (.int 5))) (.seq (.set (.nm 5) (.call "_law_few" (.cons (.var 0) (.cons (.var 2) (.cons (.cst (.int 2)) .nil)))))
    (.seq (.ret (.tup (.cons (.cst (.str "sets")) (.cons (.var 5) (.cons (.blt .tuple (.cons (.comp (.var 7) (.nm 7) (.sSeq (.var 5)) (.cmp .gt (.call "_law_take" (.cons (.var 0) (.cons (.cst (.int 3)) .nil))) (.cst (.int 0))) [7]) .nil)) (.cons (.call "_law_few" (.cons (.var 0) (.cons (.var 2) (.cons (.cst (.int 2)) .nil)))) .nil))))))
    .skip)) .skip)
    (.seq (.ite (.and (.cmp .eq (.var 4) (.cst (.int 5))) (.cmp .ne (.var 2) (.tup .nil))) (.seq (.ret (.tup (.cons (.cst (.str "bound")) (.cons (.call "_law_of" (.cons (.var 0) (.cons (.var 2) .nil))) .nil))))
    .skip) .skip)
    (.seq (.ite (.and (.cmp .lt (.var 4) (.cst (.int 8))) (.cmp .ne (.var 2) (.tup .nil))) (.seq (.ret (.tup (.cons (.call "_law_of" (.cons (.var 0) (.cons (.lst (.cons (.cst (.str "raise")) (.cons (.cst (.str "raise")) (.cons (.cst (.str "lower")) .nil)))) .nil))) (.cons (.call "_law_of" (.cons (.var 0) (.cons (.var 2) .nil))) .nil))))
    .skip) .skip)
    (.seq (.ite (.and (.cmp .lt (.var 4) (.cst (.int 10))) (.cmp .ne (.var 3) (.tup .nil))) (.seq (.ret (.tup (.cons (.cst (.str "start")) (.cons (.call "_law_of" (.cons (.var 0) (.cons (.var 3) .nil))) .nil))))
    .skip) .skip)
    (.seq (.ite (.cmp .eq (.var 4) (.cst (.int 10))) (.seq (.ret (.tup (.cons (.cst (.str "turn")) (.cons (.call "_law_of" (.cons (.var 0) (.cons (.lst (.cons (.cst (.str "keep")) (.cons (.cst (.str "plain")) (.cons (.cst (.str "steady")) .nil)))) .nil))) (.cons (.cmp .eq (.call "_law_take" (.cons (.var 0) (.cons (.cst (.int 2)) .nil))) (.cst (.int 0))) .nil)))))
    .skip) .skip)
    (.seq (.ret (.call "_law_of" (.cons (.var 0) (.cons (.lst (.cons (.tup (.cons (.cst (.str "lock")) .nil)) (.cons (.tup (.cons (.cst (.str "nonew")) .nil)) (.cons (.tup (.cons (.cst (.str "turn")) (.cons (.cst (.str "keep")) (.cons (.cst (.bl true)) .nil)))) .nil)))) .nil))))
    .skip))))))))⟩
def d__law_file : Df := ⟨"_law_file", defArgs (top 26), defBody (top 26), defScope (top 26), ["_law_box_here", "_law_title", "_law_folk_here", "_law_pool_here", "_law_titles", "_law_gift", "_law_doors", "_law_deeds", "_law_turn"]⟩
def f__law_file : Fn := ⟨5, 9, false,
  (.seq (.set (.nm 5) (.cst .non))
    (.seq (.ite (.cmp .eq (.call "_law_take" (.cons (.var 0) (.cons (.cst (.int 2)) .nil))) (.cst (.int 0))) (.seq (.set (.nm 5) (.tup (.cons (.call "_law_few" (.cons (.var 0) (.cons (.var 3) (.cons (.cst (.int 2)) .nil)))) (.cons (.call "_law_few" (.cons (.var 0) (.cons (.var 3) (.cons (.cst (.int 3)) .nil)))) (.cons (.cmp .gt (.call "_law_take" (.cons (.var 0) (.cons (.cst (.int 3)) .nil))) (.cst (.int 0))) .nil)))))
    .skip) .skip)
    (.seq (.set (.nm 6) (.ite (.cmp .gt (.call "_law_take" (.cons (.var 0) (.cons (.cst (.int 3)) .nil))) (.cst (.int 0))) (.cst .non) (.call "_law_few" (.cons (.var 0) (.cons (.var 2) (.cons (.cst (.int 2)) .nil))))))
    (.seq (.set (.nm 7) (.cst .non))
    (.seq (.ite (.cmp .eq (.call "_law_take" (.cons (.var 0) (.cons (.cst (.int 3)) .nil))) (.cst (.int 0))) (.seq (.set (.nm 7) (.blt .tuple (.cons (.comp (.call "_law_act" (.cons (.var 0) (.cons (.var 2) (.cons (.var 3) (.cons (.var 4) .nil))))) (.nm 8) (.sRng (.bin .add (.cst (.int 1)) (.call "_law_take" (.cons (.var 0) (.cons (.cst (.int 3)) .nil))))) (.cst (.bl true)) [8]) .nil)))
    .skip) .skip)
    (.seq (.ret (.tup (.cons (.var 1) (.cons (.call "_law_of" (.cons (.var 0) (.cons (.var 2) .nil))) (.cons (.cmp .eq (.call "_law_take" (.cons (.var 0) (.cons (.cst (.int 3)) .nil))) (.cst (.int 0))) (.cons (.var 5) (.cons (.var 6) (.cons (.var 7) .nil))))))))
    .skip))))))⟩
def d__law_drawn : Df := ⟨"_law_drawn", defArgs (top 27), defBody (top 27), defScope (top 27), ["_law_box_here", "_law_folk_here", "_law_pool_here", "_law_most", "_law_turn", "_law_titles", "_law_left", "_law_title"]⟩
def f__law_drawn : Fn := ⟨4, 8, false,
  (.seq (.par 6 5 (.cons (.clst (.cons (.cst (.str "a")) (.cons (.cst (.str "bin")) (.cons (.cst (.str "get")) (.cons (.cst (.str "on")) (.cons (.cst (.str "su")) (.cons (.cst (.str "x")) (.cons (.cst (.str "zz")) (.cons (.cst (.str "zzzzzzzz")) .nil))))))))) (.cons (.clst .nil) .nil)))
    (.seq (.fr (.nm 4) (.sRng (.call "_law_take" (.cons (.var 0) (.cons (.bin .add (.var 3) (.cst (.int 1))) .nil)))) (.seq (.exp (.mth .append (.var 5) (.cons (.mth .popAt (.var 6) (.cons (.call "_law_take" (.cons (.var 0) (.cons (.blt .len (.cons (.var 6) .nil)) .nil))) .nil)) .nil)))
    .skip))
    (.seq (.set (.nm 5) (.blt .tuple (.cons (.blt .sorted (.cons (.var 5) .nil)) .nil)))
    (.seq (.ret (.tup (.cons (.var 1) (.cons (.var 2) (.cons (.blt .tuple (.cons (.comp (.call "_law_file" (.cons (.var 0) (.cons (.var 7) (.cons (.var 1) (.cons (.var 2) (.cons (.var 5) .nil)))))) (.nm 7) (.sSeq (.snap (.var 5))) (.cst (.bl true)) [7]) .nil)) .nil)))))
    .skip))))⟩
def d__law_stand : Df := ⟨"_law_stand", defArgs (top 28), defBody (top 28), defScope (top 28), ["_law_box_here", "_law_whole_here", "_law_ids_so", "_law_near", "_law_kept", "_law_bound_so", "_law_on_so", "_law_folk_here", "_law_pool_here", "_law_mine", "_law_wide", "_law_turn", "_law_own"]⟩
def f__law_stand : Fn := ⟨2, 13, false,
  (.seq (.par 7 8 (.cons (.idx (.var 1) (.cst (.int 0))) (.cons (.idx (.var 1) (.cst (.int 1))) .nil)))
    (.seq (.set (.nm 2) (.blt .tuple (.cons (.comp (.call "_law_of" (.cons (.var 0) (.cons (.var 7) .nil))) (.nm 11) (.sRng (.cst (.int 3))) (.cst (.bl true)) [11]) .nil)))
    (.seq (.ite (.cmp .eq (.call "_law_take" (.cons (.var 0) (.cons (.cst (.int 2)) .nil))) (.cst (.int 0))) (.seq (.set (.nm 2) (.bin .mul (.tup (.cons (.idx (.var 2) (.cst (.int 0))) .nil)) (.cst (.int 3))))
    .skip) .skip)
    (.seq (.par 9 10 (.cons (.call "_law_few" (.cons (.var 0) (.cons (.var 8) (.cons (.cst (.int 2)) .nil)))) (.cons (.call "_law_few" (.cons (.var 0) (.cons (.var 8) (.cons (.cst (.int 3)) .nil)))) .nil)))
    (.seq (.set (.nm 3) (.blt .tuple (.cons (.comp (.var 12) (.nm 12) (.sSeq (.var 9)) (.cmp .gt (.call "_law_take" (.cons (.var 0) (.cons (.cst (.int 3)) .nil))) (.cst (.int 0))) [12]) .nil)))
    (.seq (.set (.nm 4) (.blt .tuple (.cons (.comp (.var 12) (.nm 12) (.sSeq (.var 9)) (.and (.cmp .isin (.var 12) (.var 10)) (.cmp .eq (.call "_law_take" (.cons (.var 0) (.cons (.cst (.int 2)) .nil))) (.cst (.int 0)))) [12]) .nil)))
    (.seq (.set (.nm 5) (.blt .tuple (.cons (.comp (.var 12) (.nm 12) (.sSeq (.var 8)) (.cmp .gt (.call "_law_take" (.cons (.var 0) (.cons (.cst (.int 4)) .nil))) (.cst (.int 0))) [12]) .nil)))
    (.seq (.set (.nm 6) (.call "_law_few" (.cons (.var 0) (.cons (.tup (.cons (.cst (.str "fast")) (.cons (.cst (.str "keep")) (.cons (.cst (.str "nonew")) (.cons (.cst (.str "plain")) (.cons (.cst (.str "steady")) .nil)))))) (.cons (.cst (.int 6)) .nil)))))
    (.seq (.ret (.tup (.cons (.var 2) (.cons (.tup (.cons (.var 9) (.cons (.var 3) (.cons (.var 10) (.cons (.var 4) (.cons (.var 5) .nil)))))) (.cons (.var 6) (.cons (.cst .non) .nil))))))
    .skip)))))))))⟩
def d__law_less : Df := ⟨"_law_less", defArgs (top 29), defBody (top 29), defScope (top 29), ["_law_one_so", "_law_other_so", "_law_own"]⟩
def f__law_less : Fn := ⟨2, 3, false,
  (.seq (.ret (.blt .tuple (.cons (.comp (.var 2) (.nm 2) (.sSeq (.var 0)) (.cmp .notin (.var 2) (.var 1)) [2]) .nil)))
    .skip)⟩
def d__law_folk : Df := ⟨"_law_folk", defArgs (top 30), defBody (top 30), defScope (top 30), ["_law_box_here"]⟩
def f__law_folk : Fn := ⟨1, 1, false,
  (.seq (.ret (.call "_law_of" (.cons (.var 0) (.cons (.lst (.cons (.tup (.cons (.cst (.int 0)) .nil)) (.cons (.tup (.cons (.cst (.int 0)) (.cons (.cst (.int 1)) .nil))) (.cons (.tup (.cons (.cst (.int 0)) (.cons (.cst (.int 1)) (.cons (.cst (.int 2)) .nil)))) (.cons (.tup (.cons (.cst (.int 0)) (.cons (.cst (.int 7)) .nil))) (.cons (.tup (.cons (.cst (.int 0)) (.cons (.cst (.int 10)) (.cons (.cst (.int 999)) .nil)))) (.cons (.tup (.cons (.cst (.int 0)) (.cons (.cst (.int 99)) (.cons (.cst (.int 100)) .nil)))) .nil))))))) .nil))))
    .skip)⟩
def d__law_pool : Df := ⟨"_law_pool", defArgs (top 31), defBody (top 31), defScope (top 31), ["_law_box_here", "_law_most", "_law_turn", "_law_left", "_law_found"]⟩
def f__law_pool : Fn := ⟨2, 5, false,
  (.seq (.par 3 4 (.cons (.clst (.cons (.cst (.str "a")) (.cons (.cst (.str "b")) (.cons (.cst (.str "grants")) (.cons (.cst (.str "keep")) (.cons (.cst (.str "net")) (.cons (.cst (.str "on")) (.cons (.cst (.str "users")) (.cons (.cst (.str "zzzzzzzz")) .nil))))))))) (.cons (.clst .nil) .nil)))
    (.seq (.fr (.nm 2) (.sRng (.call "_law_take" (.cons (.var 0) (.cons (.bin .add (.var 1) (.cst (.int 1))) .nil)))) (.seq (.exp (.mth .append (.var 4) (.cons (.mth .popAt (.var 3) (.cons (.call "_law_take" (.cons (.var 0) (.cons (.blt .len (.cons (.var 3) .nil)) .nil))) .nil)) .nil)))
    .skip))
    (.seq (.ret (.blt .tuple (.cons (.blt .sorted (.cons (.var 4) .nil)) .nil)))
    .skip)))⟩
def d__law_whole : Df := ⟨"_law_whole", defArgs (top 32), defBody (top 32), defScope (top 32), ["_law_box_here", "_law_most", "_law_folk_here"]⟩
def f__law_whole : Fn := ⟨2, 3, false,
  (.seq (.set (.nm 2) (.call "_law_folk" (.cons (.var 0) .nil)))
    (.seq (.ret (.call "_law_drawn" (.cons (.var 0) (.cons (.var 2) (.cons (.call "_law_pool" (.cons (.var 0) (.cons (.cst (.int 5)) .nil))) (.cons (.var 1) .nil))))))
    .skip))⟩
def d__law_spot : Df := ⟨"_law_spot", defArgs (top 33), defBody (top 33), defScope (top 33), ["_law_box_here", "_law_whole_here", "_law_here", "_law_rows", "_law_row"]⟩
def f__law_spot : Fn := ⟨2, 5, false,
  (.seq (.set (.nm 2) (.call "_law_stand" (.cons (.var 0) (.cons (.var 1) .nil))))
    (.seq (.set (.nm 3) (.comp (.var 4) (.nm 4) (.sSeq (.idx (.var 1) (.cst (.int 2)))) (.cmp .isnot (.idx (.var 4) (.cst (.int 5))) (.cst .non)) [4]))
    (.seq (.ite (.or (.cmp .eq (.var 3) (.lst .nil)) (.cmp .eq (.call "_law_take" (.cons (.var 0) (.cons (.cst (.int 2)) .nil))) (.cst (.int 0)))) (.seq (.ret (.var 2))
    .skip) .skip)
    (.seq (.set (.nm 4) (.call "_law_of" (.cons (.var 0) (.cons (.var 3) .nil))))
    (.seq (.ret (.bin .add (.slc (.var 2) .nil (.cons (.cst (.int 3)) .nil)) (.tup (.cons (.tup (.cons (.idx (.var 4) (.cst (.int 0))) (.cons (.call "_law_take" (.cons (.var 0) (.cons (.blt .len (.cons (.idx (.var 4) (.cst (.int 5))) .nil)) .nil))) .nil))) .nil))))
    .skip)))))⟩
def d__law_heard : Df := ⟨"_law_heard", defArgs (top 34), defBody (top 34), defScope (top 34), ["_law_whole_here", "_law_user_so", "_law_caught", "_law_is_alone", "error"]⟩
def f__law_heard : Fn := ⟨2, 5, false,
  (.seq (.set (.nm 2) (.cst .non))
    (.seq (.tryx (.exp (.call "login" (.cons (.var 0) (.cons (.var 1) .nil)))) ["BadText", "NoFile", "NoProcess", "NoUser", "Refused"] t_BadText_NoFile_NoProcess_NoUser_Refused 4 2)
    (.seq (.ite (.cmp .iss (.var 2) (.cst .non)) (.seq (.ret (.cst .non))
    .skip) .skip)
    (.seq (.set (.nm 3) (.and (.isx (.var 2) ["NoUser"] t_NoUser) (.isx (.var 2) ["LookupError"] t_LookupError)))
    (.seq (.ret (.ite (.and (.var 3) (.not (.isx (.var 2) ["BadText", "NoFile", "NoProcess", "Refused"] t_BadText_NoFile_NoProcess_Refused))) (.lst (.cons (.fld (.var 2) "user" ["NoUser"]) .nil)) (.lst .nil)))
    .skip)))))⟩
def d__law_logins_right : Df := ⟨"_law_logins_right", defArgs (top 35), defBody (top 35), defScope (top 35), ["_law_whole_here", "_law_soft", "_law_own", "_law_strange", "_law_mine", "_law_due_here"]⟩
def f__law_logins_right : Fn := ⟨2, 6, false,
  (.seq (.fr (.nm 2) (.sSeq (.idx (.var 0) (.cst (.int 0)))) (.seq (.set (.nm 4) (.ite (.cmp .eq (.var 2) (.cst (.int 0))) (.idx (.var 0) (.cst (.int 1))) (.tup .nil)))
    (.seq (.set (.nm 5) (.tup (.cons (.bin .mul (.tup (.cons (.var 2) .nil)) (.cst (.int 3))) (.cons (.tup (.cons (.var 4) (.cons (.var 4) (.cons (.tup .nil) (.cons (.tup .nil) (.cons (.idx (.var 0) (.cst (.int 1))) .nil)))))) (.cons (.tup .nil) (.cons (.cst .non) .nil))))))
    (.seq (.ite (.not (.call "_law_same" (.cons (.lst (.cons (.call "login" (.cons (.var 0) (.cons (.var 2) .nil))) (.cons (.callk "login" ["user", "world"] [1, 0] (.cons (.var 2) (.cons (.var 1) .nil))) (.cons (.call "_law_heard" (.cons (.var 0) (.cons (.var 2) .nil))) .nil)))) (.cons (.lst (.cons (.var 5) (.cons (.var 5) (.cons (.cst .non) .nil)))) .nil)))) (.seq (.ret (.cst (.bl false)))
    .skip) .skip)
    .skip))))
    (.seq (.set (.nm 3) (.comp (.var 2) (.nm 2) (.sSeq (.tup (.cons (.cst (.int 1)) (.cons (.cst (.int 5)) (.cons (.cst (.int 7)) (.cons (.cst (.int 999)) .nil)))))) (.cmp .notin (.var 2) (.idx (.var 0) (.cst (.int 0)))) [2]))
    (.seq (.ret (.call "_law_same" (.cons (.comp (.call "_law_heard" (.cons (.var 0) (.cons (.var 2) .nil))) (.nm 2) (.sSeq (.var 3)) (.cst (.bl true)) [2]) (.cons (.comp (.lst (.cons (.var 2) .nil)) (.nm 2) (.sSeq (.var 3)) (.cst (.bl true)) [2]) .nil))))
    .skip)))⟩
def d__law_closed_right : Df := ⟨"_law_closed_right", defArgs (top 36), defBody (top 36), defScope (top 36), ["_law_box_here", "_law_whole_here", "_law_soft", "_law_turn", "_law_some", "_law_rows", "_law_told", "_law_row"]⟩
def f__law_closed_right : Fn := ⟨3, 8, false,
  (.seq (.fr (.nm 3) (.sRng (.cst (.int 3))) (.seq (.set (.nm 4) (.call "_law_few" (.cons (.var 0) (.cons (.comp (.idx (.var 7) (.cst (.int 0))) (.nm 7) (.sSeq (.idx (.var 1) (.cst (.int 2)))) (.cst (.bl true)) [7]) (.cons (.cst (.int 2)) .nil)))))
    (.seq (.set (.nm 5) (.blt .tuple (.cons (.comp (.bin .add (.slc (.var 7) .nil (.cons (.cst (.int 4)) .nil)) (.tup (.cons (.ite (.cmp .isin (.idx (.var 7) (.cst (.int 0))) (.var 4)) (.tup .nil) (.idx (.var 7) (.cst (.int 4)))) (.cons (.idx (.var 7) (.cst (.int 5))) .nil)))) (.nm 7) (.sSeq (.idx (.var 1) (.cst (.int 2)))) (.cst (.bl true)) [7]) .nil)))
    (.seq (.set (.nm 6) (.lst (.cons (.call "closed" (.cons (.var 1) (.cons (.var 4) .nil))) (.cons (.callk "closed" ["names", "world"] [1, 0] (.cons (.blt .list (.cons (.var 4) .nil)) (.cons (.var 2) .nil))) .nil))))
    (.seq (.ite (.not (.call "_law_same" (.cons (.var 6) (.cons (.bin .mul (.lst (.cons (.bin .add (.slc (.var 1) .nil (.cons (.cst (.int 2)) .nil)) (.tup (.cons (.var 5) .nil))) .nil)) (.cst (.int 2))) .nil)))) (.seq (.ret (.cst (.bl false)))
    .skip) .skip)
    .skip)))))
    (.seq (.ret (.cst (.bl true)))
    .skip))⟩
def d__law_due : Df := ⟨"_law_due", defArgs (top 37), defBody (top 37), defScope (top 37), ["_law_one_so", "_law_other_so", "_law_word", "_law_mine", "_law_its"]⟩
def f__law_due : Fn := ⟨2, 5, false,
  (.seq (.ite (.or (.cmp .ne (.idx (.var 0) (.cst (.int 0))) (.idx (.var 1) (.cst (.int 0)))) (.cmp .ne (.idx (.var 0) (.cst (.int 3))) (.idx (.var 1) (.cst (.int 3))))) (.seq (.ret (.cst (.bl false)))
    .skip) .skip)
    (.seq (.fr (.nm 2) (.sSeq (.tup (.cons (.cst (.str "fast")) (.cons (.cst (.str "keep")) (.cons (.cst (.str "nonew")) (.cons (.cst (.str "plain")) (.cons (.cst (.str "steady")) .nil))))))) (.seq (.par 3 4 (.cons (.cmp .isin (.var 2) (.idx (.var 0) (.cst (.int 2)))) (.cons (.cmp .isin (.var 2) (.idx (.var 1) (.cst (.int 2)))) .nil)))
    (.seq (.ite (.and (.cmp .ne (.var 3) (.var 4)) (.not (.and (.cmp .eq (.var 2) (.cst (.str "fast"))) (.var 3)))) (.seq (.ret (.cst (.bl false)))
    .skip) .skip)
    .skip)))
    (.seq (.ret (.blt .all (.cons (.comp (.cmp .eq (.call "_law_less" (.cons (.var 3) (.cons (.var 4) .nil))) (.tup .nil)) (.tp (.cons (.nm 3) (.cons (.nm 4) .nil))) (.sZip (.idx (.var 0) (.cst (.int 1))) (.idx (.var 1) (.cst (.int 1)))) (.cst (.bl true)) [3, 4]) .nil)))
    .skip)))⟩
def d__law_varied : Df := ⟨"_law_varied", defArgs (top 38), defBody (top 38), defScope (top 38), ["_law_box_here", "_law_whole_here", "_law_here", "_law_ids_so", "_law_on_so", "_law_at_so", "_law_way", "_law_pool_here", "_law_mine", "_law_near", "_law_wide", "_law_kept", "_law_bound_so", "_law_flips", "_law_words", "_law_own"]⟩
def f__law_varied : Fn := ⟨3, 16, false,
  (.seq (.set (.tp (.cons (.nm 3) (.cons (.tp (.cons (.nm 8) (.cons (.nm 9) (.cons (.nm 10) (.cons (.nm 11) (.cons (.nm 12) .nil)))))) (.cons (.nm 4) (.cons (.nm 5) .nil))))) (.var 2))
    (.seq (.par 6 7 (.cons (.call "_law_take" (.cons (.var 0) (.cons (.cst (.int 8)) .nil))) (.cons (.idx (.var 1) (.cst (.int 1))) .nil)))
    (.seq (.ite (.cmp .eq (.var 6) (.cst (.int 0))) (.seq (.set (.nm 3) (.tup (.cons (.idx (.var 3) (.cst (.int 0))) (.cons (.call "_law_of" (.cons (.var 0) (.cons (.idx (.var 1) (.cst (.int 0))) .nil))) (.cons (.idx (.var 3) (.cst (.int 2))) .nil)))))
    .skip) (.seq (.ite (.cmp .eq (.var 6) (.cst (.int 1))) (.seq (.set (.nm 13) (.call "_law_few" (.cons (.var 0) (.cons (.tup (.cons (.cst (.str "fast")) (.cons (.cst (.str "fast")) (.cons (.cst (.str "keep")) (.cons (.cst (.str "nonew")) (.cons (.cst (.str "plain")) (.cons (.cst (.str "steady")) .nil))))))) (.cons (.cst (.int 4)) .nil)))))
    (.seq (.set (.nm 14) (.tup (.cons (.cst (.str "fast")) (.cons (.cst (.str "keep")) (.cons (.cst (.str "nonew")) (.cons (.cst (.str "plain")) (.cons (.cst (.str "steady")) .nil)))))))
    (.seq (.set (.nm 4) (.blt .tuple (.cons (.comp (.var 15) (.nm 15) (.sSeq (.var 14)) (.cmp .ne (.cmp .isin (.var 15) (.var 4)) (.cmp .isin (.var 15) (.var 13))) [15]) .nil)))
    .skip))) (.seq (.ite (.cmp .eq (.var 6) (.cst (.int 2))) (.seq (.set (.nm 5) (.ite (.cmp .isnot (.var 5) (.cst .non)) (.cst .non) (.var 5)))
    .skip) (.seq (.ite (.cmp .eq (.var 6) (.cst (.int 3))) (.seq (.set (.nm 8) (.blt .tuple (.cons (.sset (.bin .add (.var 8) (.call "_law_few" (.cons (.var 0) (.cons (.var 7) (.cons (.cst (.int 2)) .nil)))))) .nil)))
    .skip) (.seq (.ite (.cmp .eq (.var 6) (.cst (.int 4))) (.seq (.set (.nm 9) (.blt .tuple (.cons (.sset (.bin .add (.var 9) (.call "_law_few" (.cons (.var 0) (.cons (.var 8) (.cons (.cst (.int 2)) .nil)))))) .nil)))
    .skip) (.seq (.ite (.cmp .eq (.var 6) (.cst (.int 5))) (.seq (.set (.nm 10) (.blt .tuple (.cons (.sset (.bin .add (.var 10) (.call "_law_few" (.cons (.var 0) (.cons (.var 7) (.cons (.cst (.int 2)) .nil)))))) .nil)))
    .skip) (.seq (.ite (.cmp .eq (.var 6) (.cst (.int 6))) (.seq (.set (.nm 11) (.call "_law_few" (.cons (.var 0) (.cons (.comp (.var 15) (.nm 15) (.sSeq (.var 8)) (.cmp .isin (.var 15) (.var 10)) [15]) (.cons (.cst (.int 2)) .nil)))))
    .skip) (.seq (.set (.nm 12) (.call "_law_few" (.cons (.var 0) (.cons (.var 7) (.cons (.cst (.int 2)) .nil)))))
    .skip))
    .skip))
    .skip))
    .skip))
    .skip))
    .skip))
    .skip))
    (.seq (.ret (.tup (.cons (.var 3) (.cons (.tup (.cons (.var 8) (.cons (.var 9) (.cons (.var 10) (.cons (.var 11) (.cons (.var 12) .nil)))))) (.cons (.var 4) (.cons (.var 5) .nil))))))
    .skip))))⟩
def d__law_within_right : Df := ⟨"_law_within_right", defArgs (top 39), defBody (top 39), defScope (top 39), ["_law_box_here", "_law_whole_here", "_law_here", "_law_turn", "_law_there", "_law_lap", "_law_one_so", "_law_its", "_law_soft", "_law_due_here"]⟩
def f__law_within_right : Fn := ⟨2, 10, false,
  (.seq (.set (.nm 2) (.call "_law_spot" (.cons (.var 0) (.cons (.var 1) .nil))))
    (.seq (.fr (.nm 3) (.sRng (.cst (.int 6))) (.seq (.set (.nm 4) (.var 2))
    (.seq (.fr (.nm 5) (.sRng (.call "_law_take" (.cons (.var 0) (.cons (.cst (.int 3)) .nil)))) (.seq (.set (.nm 4) (.call "_law_varied" (.cons (.var 0) (.cons (.var 1) (.cons (.var 4) .nil)))))
    .skip))
    (.seq (.fr (.tp (.cons (.nm 6) (.cons (.nm 7) .nil))) (.sSeq (.tup (.cons (.tup (.cons (.var 2) (.cons (.var 4) .nil))) (.cons (.tup (.cons (.var 4) (.cons (.var 2) .nil))) (.cons (.tup (.cons (.var 2) (.cons (.call "_law_spot" (.cons (.var 0) (.cons (.var 1) .nil))) .nil))) .nil))))) (.seq (.par 8 9 (.cons (.call "_law_lists" (.cons (.lst (.cons (.var 6) (.cons (.var 7) .nil))) .nil)) (.cons (.call "_law_due" (.cons (.var 6) (.cons (.var 7) .nil))) .nil)))
    (.seq (.ite (.not (.call "_law_same" (.cons (.lst (.cons (.call "within" (.cons (.var 6) (.cons (.var 7) .nil))) (.cons (.callk "within" ["other", "one"] [1, 0] (.cons (.idx (.var 8) (.cst (.int 1))) (.cons (.idx (.var 8) (.cst (.int 0))) .nil))) .nil))) (.cons (.lst (.cons (.var 9) (.cons (.var 9) .nil))) .nil)))) (.seq (.ret (.cst (.bl false)))
    .skip) .skip)
    (.seq (.ite (.cmp .ne (.var 8) (.call "_law_lists" (.cons (.lst (.cons (.var 6) (.cons (.var 7) .nil))) .nil))) (.seq (.ret (.cst (.bl false)))
    .skip) .skip)
    .skip))))
    .skip))))
    (.seq (.ret (.cmp .iss (.call "within" (.cons (.var 2) (.cons (.var 2) .nil))) (.cst (.bl true))))
    .skip)))⟩
def d__law_by_hand : Df := ⟨"_law_by_hand", defArgs (top 40), defBody (top 40), defScope (top 40), ["_law_sets_so", "_law_less_here", "_law_told", "_law_slow", "_law_fast"]⟩
def f__law_by_hand : Fn := ⟨0, 5, false,
  (.seq (.set (.nm 0) (.tup (.cons (.tup (.cons (.cst (.str "a")) .nil)) (.cons (.tup .nil) (.cons (.tup .nil) (.cons (.tup .nil) (.cons (.tup (.cons (.cst (.str "a")) (.cons (.cst (.str "b")) .nil))) .nil)))))))
    (.seq (.par 3 4 (.cons (.tup (.cons (.tup (.cons (.cst (.int 0)) (.cons (.cst (.int 1)) (.cons (.cst (.int 0)) .nil)))) (.cons (.var 0) (.cons (.tup (.cons (.cst (.str "keep")) .nil)) (.cons (.cst .non) .nil))))) (.cons (.tup (.cons (.tup (.cons (.cst (.int 0)) (.cons (.cst (.int 1)) (.cons (.cst (.int 0)) .nil)))) (.cons (.var 0) (.cons (.tup (.cons (.cst (.str "fast")) (.cons (.cst (.str "keep")) .nil))) (.cons (.cst .non) .nil))))) .nil)))
    (.seq (.set (.nm 1) (.tup (.cons (.tup (.cons (.cst (.int 0)) (.cons (.cst (.int 1)) (.cons (.cst (.int 0)) .nil)))) (.cons (.bin .add (.tup (.cons (.tup .nil) .nil)) (.slc (.var 0) (.cons (.cst (.int 1)) .nil) .nil)) (.cons (.tup (.cons (.cst (.str "keep")) .nil)) (.cons (.cst .non) .nil))))))
    (.seq (.set (.nm 2) (.lst (.cons (.call "within" (.cons (.var 4) (.cons (.var 3) .nil))) (.cons (.call "within" (.cons (.var 3) (.cons (.var 4) .nil))) (.cons (.call "within" (.cons (.var 4) (.cons (.var 4) .nil))) (.cons (.call "within" (.cons (.var 1) (.cons (.var 3) .nil))) (.cons (.call "within" (.cons (.var 1) (.cons (.var 4) .nil))) .nil)))))))
    (.seq (.ret (.call "_law_same" (.cons (.bin .add (.var 2) (.lst (.cons (.call "within" (.cons (.var 3) (.cons (.var 1) .nil))) .nil))) (.cons (.lst (.cons (.cst (.bl true)) (.cons (.cst (.bl false)) (.cons (.cst (.bl true)) (.cons (.cst (.bl true)) (.cons (.cst (.bl false)) (.cons (.cst (.bl false)) .nil))))))) .nil))))
    .skip)))))⟩
def d__law_right : Df := ⟨"_law_right", defArgs (top 41), defBody (top 41), defScope (top 41), ["_law_box_here", "_law_turn", "_law_whole_here", "_law_soft"]⟩
def f__law_right : Fn := ⟨1, 4, false,
  (.seq (.ite (.not (.call "_law_by_hand" .nil)) (.seq (.ret (.cst (.bl false)))
    .skip) .skip)
    (.seq (.fr (.nm 1) (.sRng (.cst (.int 8))) (.seq (.set (.nm 2) (.call "_law_whole" (.cons (.var 0) (.cons (.cst (.int 4)) .nil))))
    (.seq (.set (.nm 3) (.call "_law_lists" (.cons (.var 2) .nil)))
    (.seq (.ite (.or (.not (.call "_law_logins_right" (.cons (.var 2) (.cons (.var 3) .nil)))) (.not (.call "_law_closed_right" (.cons (.var 0) (.cons (.var 2) (.cons (.var 3) .nil)))))) (.seq (.ret (.cst (.bl false)))
    .skip) .skip)
    (.seq (.ite (.or (.not (.call "_law_within_right" (.cons (.var 0) (.cons (.var 2) .nil)))) (.cmp .ne (.var 3) (.call "_law_lists" (.cons (.var 2) .nil)))) (.seq (.ret (.cst (.bl false)))
    .skip) .skip)
    .skip)))))
    (.seq (.ret (.cst (.bl true)))
    .skip)))⟩
def d_law : Df := ⟨"law", defArgs (top 42), defBody (top 42), defScope (top 42), ["_law_script", "_law_cells_here", "_law_k"]⟩
def f_law : Fn := ⟨1, 3, false,
  (.seq (.set (.nm 1) (.call "_law_cells" (.cons (.var 0) (.cons (.cst (.int 3)) .nil))))
    (.seq (.ret (.blt .all (.cons (.comp (.call "_law_right" (.cons (.call "_law_box" (.cons (.var 1) (.cons (.var 2) .nil))) .nil)) (.nm 2) (.sRng (.blt .len (.cons (.var 1) .nil))) (.cst (.bl true)) [2]) .nil)))
    .skip))⟩
def ents : List Ent := [(d_tupled, f_tupled), (d_login, f_login), (d_closed, f_closed), (d_is_part, f_is_part), (d_switched_within, f_switched_within), (d_within, f_within), (d__law_box, f__law_box), (d__law_take, f__law_take), (d__law_cells, f__law_cells), (d__law_of, f__law_of), (d__law_lists, f__law_lists), (d__law_same, f__law_same), (d__law_few, f__law_few), (d__law_act, f__law_act), (d__law_file, f__law_file), (d__law_drawn, f__law_drawn), (d__law_stand, f__law_stand), (d__law_less, f__law_less), (d__law_folk, f__law_folk), (d__law_pool, f__law_pool), (d__law_whole, f__law_whole), (d__law_spot, f__law_spot), (d__law_heard, f__law_heard), (d__law_logins_right, f__law_logins_right), (d__law_closed_right, f__law_closed_right), (d__law_due, f__law_due), (d__law_varied, f__law_varied), (d__law_within_right, f__law_within_right), (d__law_by_hand, f__law_by_hand), (d__law_right, f__law_right), (d_law, f_law)]
def Z : Mod := ⟨ents, ["abs", "all", "bool", "enumerate", "int", "isinstance", "len", "list", "range", "set", "sorted", "str", "tuple", "zip"], [("ROOT", k_ROOT), ("FAST", k_FAST), ("SWITCHES", k_SWITCHES)], [("closed", ["names", "world"], [1, 0]), ("login", ["user", "world"], [1, 0]), ("within", ["other", "one"], [1, 0])], PySem.Challenge.pw_comeby_k05_logins_closed_files_and_withi, [(["BadText", "NoFile", "NoProcess", "NoUser", "Refused"], t_BadText_NoFile_NoProcess_NoUser_Refused), (["BadText", "NoFile", "NoProcess", "Refused"], t_BadText_NoFile_NoProcess_Refused), (["LookupError"], t_LookupError), (["NoUser"], t_NoUser)], [x_NoUser], [("user", ["NoUser"])]⟩
theorem xo_NoUser : x_NoUser.Ok := ⟨by decide +kernel, fun _ _ _ _ _ _ _ _ _ _ _ => rfl⟩
theorem c_tupled : chkD Z.ctx d_tupled f_tupled = true := by decide +kernel
theorem b_tupled : Ent.binds (d_tupled, f_tupled) := fun _ _ _ _ _ _ us hl => match us, hl with | [_], _ => rfl
theorem c_login : chkD Z.ctx d_login f_login = true := by decide +kernel
theorem b_login : Ent.binds (d_login, f_login) := fun _ _ _ _ _ _ us hl => match us, hl with | [_, _], _ => rfl
theorem c_closed : chkD Z.ctx d_closed f_closed = true := by decide +kernel
theorem b_closed : Ent.binds (d_closed, f_closed) := fun _ _ _ _ _ _ us hl => match us, hl with | [_, _], _ => rfl
theorem c_is_part : chkD Z.ctx d_is_part f_is_part = true := by decide +kernel
theorem b_is_part : Ent.binds (d_is_part, f_is_part) := fun _ _ _ _ _ _ us hl => match us, hl with | [_, _], _ => rfl
theorem c_switched_within : chkD Z.ctx d_switched_within f_switched_within = true := by decide +kernel
theorem b_switched_within : Ent.binds (d_switched_within, f_switched_within) := fun _ _ _ _ _ _ us hl => match us, hl with | [_, _], _ => rfl
theorem c_within : chkD Z.ctx d_within f_within = true := by decide +kernel
theorem b_within : Ent.binds (d_within, f_within) := fun _ _ _ _ _ _ us hl => match us, hl with | [_, _], _ => rfl
theorem c__law_box : chkD Z.ctx d__law_box f__law_box = true := by decide +kernel
theorem b__law_box : Ent.binds (d__law_box, f__law_box) := fun _ _ _ _ _ _ us hl => match us, hl with | [_, _], _ => rfl
theorem c__law_take : chkD Z.ctx d__law_take f__law_take = true := by decide +kernel
theorem b__law_take : Ent.binds (d__law_take, f__law_take) := fun _ _ _ _ _ _ us hl => match us, hl with | [_, _], _ => rfl
theorem c__law_cells : chkD Z.ctx d__law_cells f__law_cells = true := by decide +kernel
theorem b__law_cells : Ent.binds (d__law_cells, f__law_cells) := fun _ _ _ _ _ _ us hl => match us, hl with | [_, _], _ => rfl
theorem c__law_of : chkD Z.ctx d__law_of f__law_of = true := by decide +kernel
theorem b__law_of : Ent.binds (d__law_of, f__law_of) := fun _ _ _ _ _ _ us hl => match us, hl with | [_, _], _ => rfl
theorem c__law_lists : chkD Z.ctx d__law_lists f__law_lists = true := by decide +kernel
theorem b__law_lists : Ent.binds (d__law_lists, f__law_lists) := fun _ _ _ _ _ _ us hl => match us, hl with | [_], _ => rfl
theorem c__law_same : chkD Z.ctx d__law_same f__law_same = true := by decide +kernel
theorem b__law_same : Ent.binds (d__law_same, f__law_same) := fun _ _ _ _ _ _ us hl => match us, hl with | [_, _], _ => rfl
theorem c__law_few : chkD Z.ctx d__law_few f__law_few = true := by decide +kernel
theorem b__law_few : Ent.binds (d__law_few, f__law_few) := fun _ _ _ _ _ _ us hl => match us, hl with | [_, _, _], _ => rfl
theorem c__law_act : chkD Z.ctx d__law_act f__law_act = true := by decide +kernel
theorem b__law_act : Ent.binds (d__law_act, f__law_act) := fun _ _ _ _ _ _ us hl => match us, hl with | [_, _, _, _], _ => rfl
theorem c__law_file : chkD Z.ctx d__law_file f__law_file = true := by decide +kernel
theorem b__law_file : Ent.binds (d__law_file, f__law_file) := fun _ _ _ _ _ _ us hl => match us, hl with | [_, _, _, _, _], _ => rfl
theorem c__law_drawn : chkD Z.ctx d__law_drawn f__law_drawn = true := by decide +kernel
theorem b__law_drawn : Ent.binds (d__law_drawn, f__law_drawn) := fun _ _ _ _ _ _ us hl => match us, hl with | [_, _, _, _], _ => rfl
theorem c__law_stand : chkD Z.ctx d__law_stand f__law_stand = true := by decide +kernel
theorem b__law_stand : Ent.binds (d__law_stand, f__law_stand) := fun _ _ _ _ _ _ us hl => match us, hl with | [_, _], _ => rfl
theorem c__law_less : chkD Z.ctx d__law_less f__law_less = true := by decide +kernel
theorem b__law_less : Ent.binds (d__law_less, f__law_less) := fun _ _ _ _ _ _ us hl => match us, hl with | [_, _], _ => rfl
theorem c__law_folk : chkD Z.ctx d__law_folk f__law_folk = true := by decide +kernel
theorem b__law_folk : Ent.binds (d__law_folk, f__law_folk) := fun _ _ _ _ _ _ us hl => match us, hl with | [_], _ => rfl
theorem c__law_pool : chkD Z.ctx d__law_pool f__law_pool = true := by decide +kernel
theorem b__law_pool : Ent.binds (d__law_pool, f__law_pool) := fun _ _ _ _ _ _ us hl => match us, hl with | [_, _], _ => rfl
theorem c__law_whole : chkD Z.ctx d__law_whole f__law_whole = true := by decide +kernel
theorem b__law_whole : Ent.binds (d__law_whole, f__law_whole) := fun _ _ _ _ _ _ us hl => match us, hl with | [_, _], _ => rfl
theorem c__law_spot : chkD Z.ctx d__law_spot f__law_spot = true := by decide +kernel
theorem b__law_spot : Ent.binds (d__law_spot, f__law_spot) := fun _ _ _ _ _ _ us hl => match us, hl with | [_, _], _ => rfl
theorem c__law_heard : chkD Z.ctx d__law_heard f__law_heard = true := by decide +kernel
theorem b__law_heard : Ent.binds (d__law_heard, f__law_heard) := fun _ _ _ _ _ _ us hl => match us, hl with | [_, _], _ => rfl
theorem c__law_logins_right : chkD Z.ctx d__law_logins_right f__law_logins_right = true := by decide +kernel
theorem b__law_logins_right : Ent.binds (d__law_logins_right, f__law_logins_right) := fun _ _ _ _ _ _ us hl => match us, hl with | [_, _], _ => rfl
theorem c__law_closed_right : chkD Z.ctx d__law_closed_right f__law_closed_right = true := by decide +kernel
theorem b__law_closed_right : Ent.binds (d__law_closed_right, f__law_closed_right) := fun _ _ _ _ _ _ us hl => match us, hl with | [_, _, _], _ => rfl
theorem c__law_due : chkD Z.ctx d__law_due f__law_due = true := by decide +kernel
theorem b__law_due : Ent.binds (d__law_due, f__law_due) := fun _ _ _ _ _ _ us hl => match us, hl with | [_, _], _ => rfl
theorem c__law_varied : chkD Z.ctx d__law_varied f__law_varied = true := by decide +kernel
theorem b__law_varied : Ent.binds (d__law_varied, f__law_varied) := fun _ _ _ _ _ _ us hl => match us, hl with | [_, _, _], _ => rfl
theorem c__law_within_right : chkD Z.ctx d__law_within_right f__law_within_right = true := by decide +kernel
theorem b__law_within_right : Ent.binds (d__law_within_right, f__law_within_right) := fun _ _ _ _ _ _ us hl => match us, hl with | [_, _], _ => rfl
theorem c__law_by_hand : chkD Z.ctx d__law_by_hand f__law_by_hand = true := by decide +kernel
theorem b__law_by_hand : Ent.binds (d__law_by_hand, f__law_by_hand) := fun _ _ _ _ _ _ us hl => match us, hl with | [], _ => rfl
theorem c__law_right : chkD Z.ctx d__law_right f__law_right = true := by decide +kernel
theorem b__law_right : Ent.binds (d__law_right, f__law_right) := fun _ _ _ _ _ _ us hl => match us, hl with | [_], _ => rfl
theorem c_law : chkD Z.ctx d_law f_law = true := by decide +kernel
theorem b_law : Ent.binds (d_law, f_law) := fun _ _ _ _ _ _ us hl => match us, hl with | [_], _ => rfl
theorem kb_closed_10 : Ent.kbinds (d_closed, f_closed) ["names", "world"] [1, 0] := fun _ _ _ _ _ _ us hl => match us, hl with | [_, _], _ => rfl
theorem kb_login_10 : Ent.kbinds (d_login, f_login) ["user", "world"] [1, 0] := fun _ _ _ _ _ _ us hl => match us, hl with | [_, _], _ => rfl
theorem kb_within_10 : Ent.kbinds (d_within, f_within) ["other", "one"] [1, 0] := fun _ _ _ _ _ _ us hl => match us, hl with | [_, _], _ => rfl
theorem Zok : Z.Ok where
  chk := show ∀ e ∈ ents, _ from all_cons c_tupled (all_cons c_login (all_cons c_closed (all_cons c_is_part (all_cons c_switched_within (all_cons c_within (all_cons c__law_box (all_cons c__law_take (all_cons c__law_cells (all_cons c__law_of (all_cons c__law_lists (all_cons c__law_same (all_cons c__law_few (all_cons c__law_act (all_cons c__law_file (all_cons c__law_drawn (all_cons c__law_stand (all_cons c__law_less (all_cons c__law_folk (all_cons c__law_pool (all_cons c__law_whole (all_cons c__law_spot (all_cons c__law_heard (all_cons c__law_logins_right (all_cons c__law_closed_right (all_cons c__law_due (all_cons c__law_varied (all_cons c__law_within_right (all_cons c__law_by_hand (all_cons c__law_right (all_cons c_law (all_nil)))))))))))))))))))))))))))))))
  binds := show ∀ e ∈ ents, _ from all_cons b_tupled (all_cons b_login (all_cons b_closed (all_cons b_is_part (all_cons b_switched_within (all_cons b_within (all_cons b__law_box (all_cons b__law_take (all_cons b__law_cells (all_cons b__law_of (all_cons b__law_lists (all_cons b__law_same (all_cons b__law_few (all_cons b__law_act (all_cons b__law_file (all_cons b__law_drawn (all_cons b__law_stand (all_cons b__law_less (all_cons b__law_folk (all_cons b__law_pool (all_cons b__law_whole (all_cons b__law_spot (all_cons b__law_heard (all_cons b__law_logins_right (all_cons b__law_closed_right (all_cons b__law_due (all_cons b__law_varied (all_cons b__law_within_right (all_cons b__law_by_hand (all_cons b__law_right (all_cons b_law (all_nil)))))))))))))))))))))))))))))))
  kbinds := all_cons (all_cons (fun h => absurd h (by decide +kernel)) (all_cons (fun h => absurd h (by decide +kernel)) (all_cons (fun _ => kb_closed_10) (all_cons (fun h => absurd h (by decide +kernel)) (all_cons (fun h => absurd h (by decide +kernel)) (all_cons (fun h => absurd h (by decide +kernel)) (all_cons (fun h => absurd h (by decide +kernel)) (all_cons (fun h => absurd h (by decide +kernel)) (all_cons (fun h => absurd h (by decide +kernel)) (all_cons (fun h => absurd h (by decide +kernel)) (all_cons (fun h => absurd h (by decide +kernel)) (all_cons (fun h => absurd h (by decide +kernel)) (all_cons (fun h => absurd h (by decide +kernel)) (all_cons (fun h => absurd h (by decide +kernel)) (all_cons (fun h => absurd h (by decide +kernel)) (all_cons (fun h => absurd h (by decide +kernel)) (all_cons (fun h => absurd h (by decide +kernel)) (all_cons (fun h => absurd h (by decide +kernel)) (all_cons (fun h => absurd h (by decide +kernel)) (all_cons (fun h => absurd h (by decide +kernel)) (all_cons (fun h => absurd h (by decide +kernel)) (all_cons (fun h => absurd h (by decide +kernel)) (all_cons (fun h => absurd h (by decide +kernel)) (all_cons (fun h => absurd h (by decide +kernel)) (all_cons (fun h => absurd h (by decide +kernel)) (all_cons (fun h => absurd h (by decide +kernel)) (all_cons (fun h => absurd h (by decide +kernel)) (all_cons (fun h => absurd h (by decide +kernel)) (all_cons (fun h => absurd h (by decide +kernel)) (all_cons (fun h => absurd h (by decide +kernel)) (all_cons (fun h => absurd h (by decide +kernel)) (all_nil)))))))))))))))))))))))))))))))) (all_cons (all_cons (fun h => absurd h (by decide +kernel)) (all_cons (fun _ => kb_login_10) (all_cons (fun h => absurd h (by decide +kernel)) (all_cons (fun h => absurd h (by decide +kernel)) (all_cons (fun h => absurd h (by decide +kernel)) (all_cons (fun h => absurd h (by decide +kernel)) (all_cons (fun h => absurd h (by decide +kernel)) (all_cons (fun h => absurd h (by decide +kernel)) (all_cons (fun h => absurd h (by decide +kernel)) (all_cons (fun h => absurd h (by decide +kernel)) (all_cons (fun h => absurd h (by decide +kernel)) (all_cons (fun h => absurd h (by decide +kernel)) (all_cons (fun h => absurd h (by decide +kernel)) (all_cons (fun h => absurd h (by decide +kernel)) (all_cons (fun h => absurd h (by decide +kernel)) (all_cons (fun h => absurd h (by decide +kernel)) (all_cons (fun h => absurd h (by decide +kernel)) (all_cons (fun h => absurd h (by decide +kernel)) (all_cons (fun h => absurd h (by decide +kernel)) (all_cons (fun h => absurd h (by decide +kernel)) (all_cons (fun h => absurd h (by decide +kernel)) (all_cons (fun h => absurd h (by decide +kernel)) (all_cons (fun h => absurd h (by decide +kernel)) (all_cons (fun h => absurd h (by decide +kernel)) (all_cons (fun h => absurd h (by decide +kernel)) (all_cons (fun h => absurd h (by decide +kernel)) (all_cons (fun h => absurd h (by decide +kernel)) (all_cons (fun h => absurd h (by decide +kernel)) (all_cons (fun h => absurd h (by decide +kernel)) (all_cons (fun h => absurd h (by decide +kernel)) (all_cons (fun h => absurd h (by decide +kernel)) (all_nil)))))))))))))))))))))))))))))))) (all_cons (all_cons (fun h => absurd h (by decide +kernel)) (all_cons (fun h => absurd h (by decide +kernel)) (all_cons (fun h => absurd h (by decide +kernel)) (all_cons (fun h => absurd h (by decide +kernel)) (all_cons (fun h => absurd h (by decide +kernel)) (all_cons (fun _ => kb_within_10) (all_cons (fun h => absurd h (by decide +kernel)) (all_cons (fun h => absurd h (by decide +kernel)) (all_cons (fun h => absurd h (by decide +kernel)) (all_cons (fun h => absurd h (by decide +kernel)) (all_cons (fun h => absurd h (by decide +kernel)) (all_cons (fun h => absurd h (by decide +kernel)) (all_cons (fun h => absurd h (by decide +kernel)) (all_cons (fun h => absurd h (by decide +kernel)) (all_cons (fun h => absurd h (by decide +kernel)) (all_cons (fun h => absurd h (by decide +kernel)) (all_cons (fun h => absurd h (by decide +kernel)) (all_cons (fun h => absurd h (by decide +kernel)) (all_cons (fun h => absurd h (by decide +kernel)) (all_cons (fun h => absurd h (by decide +kernel)) (all_cons (fun h => absurd h (by decide +kernel)) (all_cons (fun h => absurd h (by decide +kernel)) (all_cons (fun h => absurd h (by decide +kernel)) (all_cons (fun h => absurd h (by decide +kernel)) (all_cons (fun h => absurd h (by decide +kernel)) (all_cons (fun h => absurd h (by decide +kernel)) (all_cons (fun h => absurd h (by decide +kernel)) (all_cons (fun h => absurd h (by decide +kernel)) (all_cons (fun h => absurd h (by decide +kernel)) (all_cons (fun h => absurd h (by decide +kernel)) (all_cons (fun h => absurd h (by decide +kernel)) (all_nil)))))))))))))))))))))))))))))))) (all_nil)))
  xds := all_cons xo_NoUser (all_nil)
end K05
set_option Elab.async false
set_option linter.all false
set_option maxRecDepth 100000
set_option maxHeartbeats 0
namespace K05
open PySem L2 G
def lo0 : List Str := ["NoUser", "NoFile", "NoProcess", "Refused", "BadText", "tupled", "ROOT", "FAST", "SWITCHES", "login", "closed", "is_part", "switched_within", "within", "_law_box", "_law_take", "_law_cells", "_law_of", "_law_lists", "_law_same", "_law_few", "_law_act", "_law_file", "_law_drawn", "_law_stand", "_law_less", "_law_folk", "_law_pool", "_law_whole", "_law_spot"]
def lo1 : List Str := ["_law_heard", "_law_logins_right", "_law_closed_right", "_law_due", "_law_varied", "_law_within_right", "_law_by_hand", "_law_right"]
def loose : List Str := lo0 ++ lo1
abbrev R : PySem.W.OpenRow := PySem.W.OpenLaw.row PySem.Challenge.rw_comeby_k05_logins_closed_files_and_withi
abbrev hk : PySem.W.Hook := Z.hook 6
def ob (s : PySem.W.SharedT) : AlG := Z.obs 6 (HandSHeadRun.getT s)
theorem ob_eq (s : PySem.W.SharedT) : ob s = hk.obs s.abs := Z.obs_eq (HandSHeadRun.getT_eq s)
theorem run (w : World) : HandSHeadRun.RunEq R (PySem.W.view R.prog [42]) hk ob 6000 loose w := by
  intro os
  kernel_rfl
end K05
set_option Elab.async false
set_option linter.all false
set_option maxRecDepth 100000
set_option maxHeartbeats 1000000
/-! D1: more rules. -/
namespace G
open PySem
section
variable {φ : Str → List Val → M Val} {ρ : Env} {μ : Sto} {Q : Val → Sto → Prop} {QF : Fl → Sto → Prop} {QL : List Val → Sto → Prop}
theorem w_setT {ts : Tg} {e : Ex} : wp (exec φ (.set (.tp ts) e) ρ) QF μ ↔ wp (ev φ e ρ) (fun v μ1 => ∃ ρ', asg (.tp ts) v ρ = some ρ' ∧ QF (.nx ρ') μ1) μ := by
  rw [G.exec]
  simp only [wp_bind, wp_pure]
  have : ∀ v μ1, wp (M.ofOpt (asg (.tp ts) v ρ)) (fun ρ' μ2 => QF (.nx ρ') μ2) μ1 ↔ ∃ ρ', asg (.tp ts) v ρ = some ρ' ∧ QF (.nx ρ') μ1 := fun v μ1 => by
    cases h : asg (.tp ts) v ρ with
    | none => rw [wp_none]; exact ⟨False.elim, fun ⟨_, z, _⟩ => (by cases z)⟩
    | some r => rw [wp_some]; exact ⟨fun z => ⟨r, rfl, z⟩, fun ⟨_, e, z⟩ => (by cases e; exact z)⟩
  simp only [this]
theorem w_slc {a lo hi : Ex} : wp (ev φ (.slc a lo hi) ρ) Q μ ↔ wp (ev φ a ρ) (fun x μ1 => wp (evL φ lo ρ) (fun l μ2 => wp (part? l) (fun l' μ3 => wp (evL φ hi ρ) (fun h μ4 => wp (part? h) (fun h' μ5 => wp (opCut x l' h') Q μ5) μ4) μ3) μ2) μ1) μ := by rw [ev]; simp only [wp_bind]
theorem w_part0 {QO : Option Int → Sto → Prop} : wp (part? []) QO μ ↔ QO none μ := wp_pure
theorem w_part1 {i : Int} {QO : Option Int → Sto → Prop} : wp (part? [.dat (.int i)]) QO μ ↔ QO (some i) μ := wp_pure
theorem w_cutT {ds : List D} {lo hi : Option Int} : wp (opCut (.dat (.tup ds)) lo hi) Q μ ↔ Q (.dat (.tup (cut ds lo hi))) μ := wp_dat
theorem w_cutF {ds : List D} {lo hi : Option Int} : wp (opCut (.dat (.frz ds)) lo hi) Q μ ↔ Q (.dat (.lst (cut ds lo hi))) μ := wp_dat
theorem w_cutL {ds : List D} {lo hi : Option Int} : wp (opCut (.dat (.lst ds)) lo hi) Q μ ↔ Q (.dat (.lst (cut ds lo hi))) μ := by
  have e : opCut (.dat (.lst ds)) lo hi = M.dat (.lst (cut ds lo hi)) := rfl
  rw [e]
  exact wp_dat
theorem w_addT {xs ys : List D} (h : xs.length + ys.length ≤ LINE) : wp (opBin .add (.dat (.tup xs)) (.dat (.tup ys))) Q μ ↔ Q (.dat (.tup (xs ++ ys))) μ := by
  show wp (M.when (Nat.ble (xs.length + ys.length) LINE) _) Q μ ↔ _
  rw [wp_when, Nat.ble_eq_true_of_le h, wp_dat]
  exact ⟨fun z => z.2, fun z => ⟨rfl, z⟩⟩
theorem w_addL {xs ys : List D} (h : xs.length + ys.length ≤ LINE) : wp (opBin .add (.dat (.lst xs)) (.dat (.lst ys))) Q μ ↔ Q (.dat (.lst (xs ++ ys))) μ := by
  show wp (M.bind (M.pure (true, xs)) fun p => M.bind (M.pure (true, ys)) fun q => M.when (p.1 && q.1 && Nat.ble (p.2.length + q.2.length) LINE) (M.dat (.lst (p.2 ++ q.2)))) Q μ ↔ _
  rw [wp_bind, wp_pure, wp_bind, wp_pure, wp_when, wp_dat]
  show (true && true && Nat.ble (xs.length + ys.length) LINE) = true ∧ _ ↔ _
  rw [Nat.ble_eq_true_of_le h]
  exact ⟨fun z => z.2, fun z => ⟨rfl, z⟩⟩
theorem w_rep3 {d : D} : wp (opBin .mul (.dat (.tup [d])) (.dat (.int 3))) Q μ ↔ Q (.dat (.tup [d, d, d])) μ := by
  have e : opBin .mul (.dat (.tup [d])) (.dat (.int 3)) = M.dat (.tup [d, d, d]) := rfl
  rw [e]
  exact wp_dat
theorem w_rep2L {d : D} : wp (opBin .mul (.dat (.lst [d])) (.dat (.int 2))) Q μ ↔ Q (.dat (.lst [d, d])) μ := by
  have e : opBin .mul (.dat (.lst [d])) (.dat (.int 2)) = M.dat (.lst [d, d]) := rfl
  rw [e]
  exact wp_dat
/-- x in ds -/
def hasD (ds : List D) (x : D) : Bool := ds.any fun y => D.eqv y x
theorem w_inT {x : D} {ds : List D} (hx : x.cmpb = true) (hd : ds.all D.cmpb = true) : wp (opCmp .isin (.dat x) (.dat (.tup ds))) Q μ ↔ Q (.dat (.bl (hasD ds x))) μ := by
  have e : opCmp .isin (.dat x) (.dat (.tup ds)) = M.bind (M.pure x) fun x => M.bind (M.pure (false, ds)) fun p => M.when (x.cmpb && p.2.all D.cmpb) (M.dat (.bl (id (p.2.any fun y => D.eqv y x)))) := by cases x <;> rfl
  rw [e, wp_bind, wp_pure, wp_bind, wp_pure, wp_when, wp_dat]
  show (x.cmpb && ds.all D.cmpb) = true ∧ _ ↔ _
  rw [hx, hd]
  exact ⟨fun z => z.2, fun z => ⟨rfl, z⟩⟩
theorem w_inL {x : D} {ds : List D} (hx : x.cmpb = true) (hd : ds.all D.cmpb = true) : wp (opCmp .isin (.dat x) (.dat (.lst ds))) Q μ ↔ Q (.dat (.bl (hasD ds x))) μ := by
  have e : opCmp .isin (.dat x) (.dat (.lst ds)) = M.bind (M.pure x) fun x => M.bind (M.pure (true, ds)) fun p => M.when (x.cmpb && p.2.all D.cmpb) (M.dat (.bl (id (p.2.any fun y => D.eqv y x)))) := by cases x <;> rfl
  rw [e, wp_bind, wp_pure, wp_bind, wp_pure, wp_when, wp_dat]
  show (x.cmpb && ds.all D.cmpb) = true ∧ _ ↔ _
  rw [hx, hd]
  exact ⟨fun z => z.2, fun z => ⟨rfl, z⟩⟩
theorem w_ninT {x : D} {ds : List D} (hx : x.cmpb = true) (hd : ds.all D.cmpb = true) : wp (opCmp .notin (.dat x) (.dat (.tup ds))) Q μ ↔ Q (.dat (.bl (!hasD ds x))) μ := by
  have e : opCmp .notin (.dat x) (.dat (.tup ds)) = M.bind (M.pure x) fun x => M.bind (M.pure (false, ds)) fun p => M.when (x.cmpb && p.2.all D.cmpb) (M.dat (.bl (not (p.2.any fun y => D.eqv y x)))) := by cases x <;> rfl
  rw [e, wp_bind, wp_pure, wp_bind, wp_pure, wp_when, wp_dat]
  show (x.cmpb && ds.all D.cmpb) = true ∧ _ ↔ _
  rw [hx, hd]
  exact ⟨fun z => z.2, fun z => ⟨rfl, z⟩⟩
theorem w_isnotN {d : D} : wp (opCmp .isnot (.dat d) (.dat .non)) Q μ ↔ Q (.dat (.bl (!isNone (.dat d)))) μ := by
  cases d <;> exact wp_dat
theorem w_listL {ds : List D} : wp (opBlt .list [.dat (.lst ds)]) Q μ ↔ Q (.dat (.lst ds)) μ := by
  have e : opBlt .list [.dat (.lst ds)] = M.dat (.lst ds) := rfl
  rw [e]
  exact wp_dat
theorem w_listT {ds : List D} : wp (opBlt .list [.dat (.tup ds)]) Q μ ↔ Q (.dat (.lst ds)) μ := by
  have e : opBlt .list [.dat (.tup ds)] = M.dat (.lst ds) := rfl
  rw [e]
  exact wp_dat
theorem w_snapD {e : Ex} : wp (ev φ (.snap e) ρ) Q μ ↔ wp (ev φ e ρ) (fun v μ1 => wp (snapM v) Q μ1) μ := by rw [ev]; simp only [wp_bind]
theorem w_snd {d : D} : wp (snapM (.dat d)) Q μ ↔ Q (.dat d) μ := wp_dat
theorem w_par3 {i j l : Nat} {es : Ex} : wp (exec φ (.par3 i j l es) ρ) QF μ ↔ wp (evL φ es ρ) (fun vs μ1 => wp (par3F i j l ρ vs) QF μ1) μ := by rw [G.exec]; simp only [wp_bind]
theorem w_par3F {i j l : Nat} {v w x : Val} : wp (par3F i j l ρ [v, w, x]) QF μ ↔ QF (.nx (((ρ.set i (some v)).set j (some w)).set l (some x))) μ := wp_pure
theorem w_sset {e : Ex} : wp (ev φ (.sset e) ρ) Q μ ↔ wp (ev φ e ρ) (fun v μ1 => wp (ssetM v) Q μ1) μ := by rw [ev]; simp only [wp_bind]
end
/-! ### data of small depth -/
mutual
/-- tuples all the way down -/
def D.tpl : D → Bool
  | .tup ds => D.tpls ds
  | .lst _ => false
  | .frz _ => false
  | _ => true
def D.tpls : List D → Bool
  | [] => true
  | d :: ds => d.tpl && D.tpls ds
end
mutual
theorem tpl_tup : ∀ d : D, d.tpl = true → tupD d = d
  | .non, _ => rfl
  | .bl _, _ => rfl
  | .int _, _ => rfl
  | .str _, _ => rfl
  | .tup ds, h => by rw [tupD, tpls_tup ds (by simpa [D.tpl] using h)]
  | .lst ds, h => by simp [D.tpl] at h
  | .frz ds, h => by simp [D.tpl] at h
theorem tpls_tup : ∀ ds : List D, D.tpls ds = true → tupDs ds = ds
  | [], _ => rfl
  | d :: ds, h => by
    simp only [D.tpls, Bool.and_eq_true] at h
    rw [tupDs, tpl_tup d h.1, tpls_tup ds h.2]
end
mutual
theorem tpl_lis : ∀ d : D, d.tpl = true → tupD (lisD d) = d
  | .non, _ => rfl
  | .bl _, _ => rfl
  | .int _, _ => rfl
  | .str _, _ => rfl
  | .tup ds, h => by rw [lisD, tupD, tpls_lis ds (by simpa [D.tpl] using h)]
  | .lst ds, h => by simp [D.tpl] at h
  | .frz ds, h => by simp [D.tpl] at h
theorem tpls_lis : ∀ ds : List D, D.tpls ds = true → tupDs (lisDs ds) = ds
  | [], _ => rfl
  | d :: ds, h => by
    simp only [D.tpls, Bool.and_eq_true] at h
    rw [lisDs, tupDs, tpl_lis d h.1, tpls_lis ds h.2]
end
mutual
theorem tpl_own : ∀ d : D, d.tpl = true → d.own = true
  | .non, _ => rfl
  | .bl _, _ => rfl
  | .int _, _ => rfl
  | .str _, _ => rfl
  | .tup ds, h => by rw [D.own]; exact tpls_own ds (by simpa [D.tpl] using h)
  | .lst ds, h => by simp [D.tpl] at h
  | .frz ds, h => by simp [D.tpl] at h
theorem tpls_own : ∀ ds : List D, D.tpls ds = true → D.owns ds = true
  | [], _ => rfl
  | d :: ds, h => by
    simp only [D.tpls, Bool.and_eq_true] at h
    rw [D.owns, tpl_own d h.1, tpls_own ds h.2]; rfl
end
mutual
theorem lis_own : ∀ d : D, d.own = true → (lisD d).own = true ∧ (lisD d).dep = d.dep
  | .non, _ => ⟨rfl, rfl⟩
  | .bl _, _ => ⟨rfl, rfl⟩
  | .int _, _ => ⟨rfl, rfl⟩
  | .str _, _ => ⟨rfl, rfl⟩
  | .tup ds, h => by
    obtain ⟨a, b⟩ := lis_owns ds (by simpa [D.own] using h)
    exact ⟨by rw [lisD, D.own]; exact a, by rw [lisD, D.dep, D.dep, b]⟩
  | .lst ds, h => by
    obtain ⟨a, b⟩ := lis_owns ds (by simpa [D.own] using h)
    exact ⟨by rw [lisD, D.own]; exact a, by rw [lisD, D.dep, D.dep, b]⟩
  | .frz ds, h => by simp [D.own] at h
theorem lis_owns : ∀ ds : List D, D.owns ds = true → D.owns (lisDs ds) = true ∧ D.deps (lisDs ds) = D.deps ds
  | [], _ => ⟨rfl, rfl⟩
  | d :: ds, h => by
    simp only [D.owns, Bool.and_eq_true] at h
    obtain ⟨a, b⟩ := lis_own d h.1
    obtain ⟨a', b'⟩ := lis_owns ds h.2
    exact ⟨by rw [lisDs, D.owns, a, a']; rfl, by rw [lisDs, D.deps, D.deps, b, b']⟩
end
theorem deps_le {n : Nat} : ∀ {ds : List D}, (∀ d ∈ ds, d.dep ≤ n) → D.deps ds ≤ n
  | [], _ => Nat.zero_le _
  | d :: ds, h => by
    unfold D.deps
    exact Nat.max_le.mpr ⟨h d (List.mem_cons_self ..), deps_le fun x hx => h x (List.mem_cons_of_mem _ hx)⟩
theorem tpls_of : ∀ {ds : List D}, (∀ d ∈ ds, d.tpl = true) → D.tpls ds = true
  | [], _ => rfl
  | d :: ds, h => by
    unfold D.tpls
    rw [h d (List.mem_cons_self ..), tpls_of fun x hx => h x (List.mem_cons_of_mem _ hx)]; rfl
theorem tpls_mem : ∀ {ds : List D} {d : D}, D.tpls ds = true → d ∈ ds → d.tpl = true
  | x :: r, d, h, hm => by
    unfold D.tpls at h
    simp only [Bool.and_eq_true] at h
    rcases List.mem_cons.mp hm with e | e
    · rw [e]; exact h.1
    · exact tpls_mem h.2 e
/-- flat data: tuples down to depth n -/
def Flt (n : Nat) (d : D) : Prop := d.tpl = true ∧ d.dep ≤ n
theorem Flt.cmpb {n : Nat} {d : D} (h : Flt n d) (hn : n ≤ 64) : d.cmpb = true := by
  unfold D.cmpb
  rw [tpl_own d h.1, Nat.ble_eq_true_of_le (Nat.le_trans h.2 hn)]
  rfl
theorem Flt.tup {n : Nat} {ds : List D} (h : ∀ d ∈ ds, Flt n d) : Flt (n + 1) (.tup ds) :=
  ⟨by rw [D.tpl]; exact tpls_of fun d hd => (h d hd).1, by rw [D.dep]; exact Nat.succ_le_succ (deps_le fun d hd => (h d hd).2)⟩
theorem Flt.mono {n m : Nat} {d : D} (h : Flt n d) (l : n ≤ m) : Flt m d := ⟨h.1, Nat.le_trans h.2 l⟩
theorem Flt.mem {n : Nat} {ds : List D} (h : Flt (n + 1) (.tup ds)) : ∀ d ∈ ds, Flt n d := fun d hd => by
  obtain ⟨a, b⟩ := h
  rw [D.tpl] at a
  rw [D.dep] at b
  exact ⟨tpls_mem a hd, Nat.le_trans (deps_mem hd) (Nat.le_of_succ_le_succ b)⟩
theorem Flt.non {n : Nat} : Flt n .non := ⟨rfl, Nat.zero_le _⟩
theorem Flt.bl {n : Nat} {b : Bool} : Flt n (.bl b) := ⟨rfl, Nat.zero_le _⟩
theorem Flt.int {n : Nat} {i : Int} : Flt n (.int i) := ⟨rfl, Nat.zero_le _⟩
theorem Flt.str {n : Nat} {x : Str} : Flt n (.str x) := ⟨rfl, Nat.zero_le _⟩
theorem all_cmpb {n : Nat} {ds : List D} (h : ∀ d ∈ ds, Flt n d) (hn : n ≤ 64) : ds.all D.cmpb = true := List.all_eq_true.mpr fun d hd => (h d hd).cmpb hn
end G
set_option Elab.async false
set_option linter.all false
set_option maxRecDepth 100000
set_option maxHeartbeats 1000000
/-! D2: login, closed, within of k05. -/
namespace K05
open PySem G
theorem l_tupled : Z.tab.lookup ("tupled" : Str) = some C_tupled := by rfl
theorem l_login : Z.tab.lookup ("login" : Str) = some f_login := by rfl
theorem l_closed : Z.tab.lookup ("closed" : Str) = some f_closed := by rfl
theorem l_is_part : Z.tab.lookup ("is_part" : Str) = some f_is_part := by rfl
theorem l_switched : Z.tab.lookup ("switched_within" : Str) = some f_switched_within := by rfl
theorem l_within : Z.tab.lookup ("within" : Str) = some f_within := by rfl
theorem l_less : Z.tab.lookup ("_law_less" : Str) = some f__law_less := by rfl
theorem l_due : Z.tab.lookup ("_law_due" : Str) = some f__law_due := by rfl
theorem l_take : Z.tab.lookup ("_law_take" : Str) = some C_law_take := by rfl
theorem l_of : Z.tab.lookup ("_law_of" : Str) = some C_law_of := by rfl
theorem l_few : Z.tab.lookup ("_law_few" : Str) = some C_law_few := by rfl
theorem l_lists : Z.tab.lookup ("_law_lists" : Str) = some C_law_lists := by rfl
theorem l_same : Z.tab.lookup ("_law_same" : Str) = some C_law_same := by rfl
/-- what login tells -/
def loginD (us rs : List D) (u : D) : D := .tup [.tup [u, u, u], .tup [if D.eqv u (.int 0) then .tup rs else .tup [], if D.eqv u (.int 0) then .tup rs else .tup [], .tup [], .tup [], .tup rs], .tup [], .non]
section
variable {k : Nat} {μ : Sto} {us rs : List D} {fs u w : D}
theorem login_ok (hw : w.own = true) (hd : w.dep < k) (he : tupD w = .tup [.tup us, .tup rs, fs]) (hu : ∀ d ∈ us, Flt 1 d) (hf : Flt 1 u) (hin : hasD us u = true) :
    wp (callK Z.tab (k + 1) "login" [.dat w, .dat u]) (fun v μ' => v = .dat (loginD us rs u) ∧ μ' = μ) μ := by
  have ht : μ.take μ.length = μ := List.take_of_length_le (Nat.le_refl _)
  refine wp_call l_login rfl ?_
  show wp (G.exec _ f_login.body [some (.dat w), some (.dat u), none, none, none, none]) _ _
  simp only [f_login, w_seq, w_if, w_cmp, w_idx, w_var, w_cst, w_glo, w_blt, w_cons, w_nil, w_bin, w_cal, w_callk, w_not, w_set, w_setT, w_ret, w_exp, w_nx, w_rt, w_skip, w_flr, w_fln, wp_seal_dat, w_tup, w_lst, w_toDs_nil, w_toDs_cons, w_itee, w_isi, w_or, w_and, w_tb, w_comp, w_sseq, w_srng, w_sit, w_sil, wp_toDs, wipeD, w_slc, w_part0, w_part1, w_cutT, w_cutL, w_rep3, w_rep2L, w_isN, w_isnotN, w_listL, w_listT, w_tupl, w_tupt, w_len_t, w_len_l, w_eqI, w_eqB, w_neB, w_gt, w_lt, w_ge, w_le, w_add, w_par, w_parF, w_par3, w_par3F, w_snapD, w_snd, List.set_cons_zero, List.set_cons_succ, List.getElem?_cons_zero, List.getElem?_cons_succ, Option.some.injEq, exists_eq_left', iteF, List.map_cons, List.map_nil]
  refine (tupled_ok l_tupled k w hw hd μ).mono fun v μ1 ⟨e1, e2⟩ => ?_
  subst e1 e2
  rw [he]
  simp only [asg, asgs, w_seq, w_if, w_cmp, w_idx, w_var, w_cst, w_glo, w_blt, w_cons, w_nil, w_bin, w_cal, w_callk, w_not, w_set, w_setT, w_ret, w_exp, w_nx, w_rt, w_skip, w_flr, w_fln, wp_seal_dat, w_tup, w_lst, w_toDs_nil, w_toDs_cons, w_itee, w_isi, w_or, w_and, w_tb, w_comp, w_sseq, w_srng, w_sit, w_sil, wp_toDs, wipeD, w_slc, w_part0, w_part1, w_cutT, w_cutL, w_rep3, w_rep2L, w_isN, w_isnotN, w_listL, w_listT, w_tupl, w_tupt, w_len_t, w_len_l, w_eqI, w_eqB, w_neB, w_gt, w_lt, w_ge, w_le, w_add, w_par, w_parF, w_par3, w_par3F, w_snapD, w_snd, List.set_cons_zero, List.set_cons_succ, List.getElem?_cons_zero, List.getElem?_cons_succ, Option.some.injEq, exists_eq_left', iteF, List.map_cons, List.map_nil, w_ninT (hf.cmpb (by decide)) (all_cmpb hu (by decide)), hin, Bool.not_true, w_eqD (hf.cmpb (by decide)) (show (k_ROOT).cmpb = true by decide)]
  cases hz : u.eqv k_ROOT with
  | true =>
    simp only [w_seq, w_if, w_cmp, w_idx, w_var, w_cst, w_glo, w_blt, w_cons, w_nil, w_bin, w_cal, w_callk, w_not, w_set, w_setT, w_ret, w_exp, w_nx, w_rt, w_skip, w_flr, w_fln, wp_seal_dat, w_tup, w_lst, w_toDs_nil, w_toDs_cons, w_itee, w_isi, w_or, w_and, w_tb, w_comp, w_sseq, w_srng, w_sit, w_sil, wp_toDs, wipeD, w_slc, w_part0, w_part1, w_cutT, w_cutL, w_rep3, w_rep2L, w_isN, w_isnotN, w_listL, w_listT, w_tupl, w_tupt, w_len_t, w_len_l, w_eqI, w_eqB, w_neB, w_gt, w_lt, w_ge, w_le, w_add, w_par, w_parF, w_par3, w_par3F, w_snapD, w_snd, List.set_cons_zero, List.set_cons_succ, List.getElem?_cons_zero, List.getElem?_cons_succ, Option.some.injEq, exists_eq_left', iteF, List.map_cons, List.map_nil, ht, and_true]
    refine ⟨rfl, rfl, rfl, rfl, rfl, rfl, ?_⟩
    have hz : u.eqv (.int 0) = true := hz
    rw [loginD, hz]
    rfl
  | false =>
    simp only [w_seq, w_if, w_cmp, w_idx, w_var, w_cst, w_glo, w_blt, w_cons, w_nil, w_bin, w_cal, w_callk, w_not, w_set, w_setT, w_ret, w_exp, w_nx, w_rt, w_skip, w_flr, w_fln, wp_seal_dat, w_tup, w_lst, w_toDs_nil, w_toDs_cons, w_itee, w_isi, w_or, w_and, w_tb, w_comp, w_sseq, w_srng, w_sit, w_sil, wp_toDs, wipeD, w_slc, w_part0, w_part1, w_cutT, w_cutL, w_rep3, w_rep2L, w_isN, w_isnotN, w_listL, w_listT, w_tupl, w_tupt, w_len_t, w_len_l, w_eqI, w_eqB, w_neB, w_gt, w_lt, w_ge, w_le, w_add, w_par, w_parF, w_par3, w_par3F, w_snapD, w_snd, List.set_cons_zero, List.set_cons_succ, List.getElem?_cons_zero, List.getElem?_cons_succ, Option.some.injEq, exists_eq_left', iteF, List.map_cons, List.map_nil, ht, and_true]
    refine ⟨rfl, rfl, rfl, rfl, rfl, rfl, rfl, ?_⟩
    have hz : u.eqv (.int 0) = false := hz
    rw [loginD, hz]
    rfl
theorem login_er (hw : w.own = true) (hd : w.dep < k) (he : tupD w = .tup [.tup us, .tup rs, fs]) (hu : ∀ d ∈ us, Flt 1 d) (hf : Flt 1 u) (hin : hasD us u = false) :
    callK Z.tab (k + 1) "login" [.dat w, .dat u] μ = some (.er ⟨"NoUser", "user", [u]⟩, μ) := by
  have ht : μ.take μ.length = μ := List.take_of_length_le (Nat.le_refl _)
  have e1 : G.exec (callK Z.tab k) (.set (.tp (.cons (.nm 3) (.cons (.nm 4) (.cons (.nm 5) .nil)))) (.call "tupled" (.cons (.var 0) .nil))) [some (.dat w), some (.dat u), none, none, none, none] μ = some (.ok (.nx [some (.dat w), some (.dat u), none, some (.dat (.tup us)), some (.dat (.tup rs)), some (.dat fs)]), μ) := by
    have z : wp (G.exec (callK Z.tab k) (.set (.tp (.cons (.nm 3) (.cons (.nm 4) (.cons (.nm 5) .nil)))) (.call "tupled" (.cons (.var 0) .nil))) [some (.dat w), some (.dat u), none, none, none, none]) (fun fl μ' => fl = .nx [some (.dat w), some (.dat u), none, some (.dat (.tup us)), some (.dat (.tup rs)), some (.dat fs)] ∧ μ' = μ) μ := by
      simp only [w_seq, w_if, w_cmp, w_idx, w_var, w_cst, w_glo, w_blt, w_cons, w_nil, w_bin, w_cal, w_callk, w_not, w_set, w_setT, w_ret, w_exp, w_nx, w_rt, w_skip, w_flr, w_fln, wp_seal_dat, w_tup, w_lst, w_toDs_nil, w_toDs_cons, w_itee, w_isi, w_or, w_and, w_tb, w_comp, w_sseq, w_srng, w_sit, w_sil, wp_toDs, wipeD, w_slc, w_part0, w_part1, w_cutT, w_cutL, w_rep3, w_rep2L, w_isN, w_isnotN, w_listL, w_listT, w_tupl, w_tupt, w_len_t, w_len_l, w_eqI, w_eqB, w_neB, w_gt, w_lt, w_ge, w_le, w_add, w_par, w_parF, w_par3, w_par3F, w_snapD, w_snd, List.set_cons_zero, List.set_cons_succ, List.getElem?_cons_zero, List.getElem?_cons_succ, Option.some.injEq, exists_eq_left', iteF, List.map_cons, List.map_nil]
      refine (tupled_ok l_tupled k w hw hd μ).mono fun v μ1 ⟨e1, e2⟩ => ?_
      subst e1 e2
      rw [he]
      simp only [asg, asgs, w_seq, w_if, w_cmp, w_idx, w_var, w_cst, w_glo, w_blt, w_cons, w_nil, w_bin, w_cal, w_callk, w_not, w_set, w_setT, w_ret, w_exp, w_nx, w_rt, w_skip, w_flr, w_fln, wp_seal_dat, w_tup, w_lst, w_toDs_nil, w_toDs_cons, w_itee, w_isi, w_or, w_and, w_tb, w_comp, w_sseq, w_srng, w_sit, w_sil, wp_toDs, wipeD, w_slc, w_part0, w_part1, w_cutT, w_cutL, w_rep3, w_rep2L, w_isN, w_isnotN, w_listL, w_listT, w_tupl, w_tupt, w_len_t, w_len_l, w_eqI, w_eqB, w_neB, w_gt, w_lt, w_ge, w_le, w_add, w_par, w_parF, w_par3, w_par3F, w_snapD, w_snd, List.set_cons_zero, List.set_cons_succ, List.getElem?_cons_zero, List.getElem?_cons_succ, Option.some.injEq, exists_eq_left', iteF, List.map_cons, List.map_nil, and_self]
    obtain ⟨fl, μ', q, q1, q2⟩ := z
    rw [q, q1, q2]
  have e2 : ev (callK Z.tab k) (.cmp .notin (.var 1) (.var 3)) [some (.dat w), some (.dat u), none, some (.dat (.tup us)), some (.dat (.tup rs)), some (.dat fs)] μ = some (.ok (.dat (.bl true)), μ) := by
    have z : wp (ev (callK Z.tab k) (.cmp .notin (.var 1) (.var 3)) [some (.dat w), some (.dat u), none, some (.dat (.tup us)), some (.dat (.tup rs)), some (.dat fs)]) (fun v μ' => v = .dat (.bl true) ∧ μ' = μ) μ := by
      simp only [w_seq, w_if, w_cmp, w_idx, w_var, w_cst, w_glo, w_blt, w_cons, w_nil, w_bin, w_cal, w_callk, w_not, w_set, w_setT, w_ret, w_exp, w_nx, w_rt, w_skip, w_flr, w_fln, wp_seal_dat, w_tup, w_lst, w_toDs_nil, w_toDs_cons, w_itee, w_isi, w_or, w_and, w_tb, w_comp, w_sseq, w_srng, w_sit, w_sil, wp_toDs, wipeD, w_slc, w_part0, w_part1, w_cutT, w_cutL, w_rep3, w_rep2L, w_isN, w_isnotN, w_listL, w_listT, w_tupl, w_tupt, w_len_t, w_len_l, w_eqI, w_eqB, w_neB, w_gt, w_lt, w_ge, w_le, w_add, w_par, w_parF, w_par3, w_par3F, w_snapD, w_snd, List.set_cons_zero, List.set_cons_succ, List.getElem?_cons_zero, List.getElem?_cons_succ, Option.some.injEq, exists_eq_left', iteF, List.map_cons, List.map_nil, w_ninT (hf.cmpb (by decide)) (all_cmpb hu (by decide)), hin, Bool.not_false, and_self]
    obtain ⟨fl, μ', q, q1, q2⟩ := z
    rw [q, q1, q2]
  have := er_call (T := Z.tab) (k := k) (f := "login") (fn := f_login) (vs := [.dat w, .dat u]) (μ := μ) (μ1 := μ) (e := ⟨"NoUser", "user", [u]⟩) l_login rfl rfl ?_
  · rw [this, ht]
  · show G.exec _ f_login.body [some (.dat w), some (.dat u), none, none, none, none] μ = _
    simp only [f_login]
    rw [G.exec, bind_of e1]
    show G.exec _ (.seq (.ite _ _ _) _) _ μ = _
    rw [G.exec]
    refine bind_er ?_
    rw [G.exec, bind_of e2]
    rfl
end
end K05
set_option Elab.async false
set_option linter.all false
set_option maxRecDepth 100000
set_option maxHeartbeats 1000000
/-! D3: errors, filters; heard, closed, parts. -/
namespace G
open PySem
section
variable {φ : Str → List Val → M Val} {ρ : Env} {μ : Sto} {Q : Val → Sto → Prop} {QF : Fl → Sto → Prop}
theorem w_try_ok {b : St} {ns : List Str} {tab : List (Str × Bool)} {i j : Nat} (h : wp (exec φ b ρ) QF μ) : wp (exec φ (.tryx b ns tab i j) ρ) QF μ := by
  obtain ⟨a, μ', e, q⟩ := h
  refine ⟨a, μ', ?_, q⟩
  rw [G.exec]
  have z : ∀ f : Env → M Fl, f ρ μ = some (.ok a, μ') → tryM f tab i j ρ μ = some (.ok a, μ') := fun f hf => by
    unfold tryM
    rw [hf]
  exact z _ e
theorem w_try_er {b : St} {ns : List Str} {tab : List (Str × Bool)} {i j : Nat} {e : Exc} {μ1 : Sto} (h : exec φ b ρ μ = some (.er e, μ1)) (ht : tab.lookup e.cls = some true) (q : QF (.nx ((ρ.set j (some (.exc e.cls e.fld e.args))).set i none)) μ1) : wp (exec φ (.tryx b ns tab i j) ρ) QF μ := by
  refine ⟨_, μ1, ?_, q⟩
  rw [G.exec]
  have z : ∀ f : Env → M Fl, f ρ μ = some (.er e, μ1) → tryM f tab i j ρ μ = catchM tab i j ρ e μ1 := fun f hf => by
    unfold tryM
    rw [hf]
  rw [z _ h]
  unfold catchM
  rw [ht]
  rfl
theorem w_isx {a : Ex} {ns : List Str} {tab : List (Str × Bool)} : wp (ev φ (.isx a ns tab) ρ) Q μ ↔ wp (ev φ a ρ) (fun v μ1 => wp (isxM tab v) Q μ1) μ := by rw [ev]; simp only [wp_bind]
theorem w_isxM {tab : List (Str × Bool)} {c f : Str} {ds : List D} {b : Bool} (h : tab.lookup c = some b) : wp (isxM tab (.exc c f ds)) Q μ ↔ Q (.dat (.bl b)) μ := by
  have e : isxM tab (.exc c f ds) = M.bind (M.ofOpt (tab.lookup c)) fun b => M.dat (.bl b) := rfl
  rw [e, h, wp_bind, wp_some]
  exact wp_dat
theorem w_fld {a : Ex} {f : Str} {cs : List Str} : wp (ev φ (.fld a f cs) ρ) Q μ ↔ wp (ev φ a ρ) (fun v μ1 => wp (fldM f cs v) Q μ1) μ := by rw [ev]; simp only [wp_bind]
theorem w_fldM {f c : Str} {cs : List Str} {d : D} (h : cs.contains c = true) : wp (fldM f cs (.exc c f [d])) Q μ ↔ Q (.dat d) μ := by
  have e : fldM f cs (.exc c f [d]) = M.when (f == f && cs.contains c) (M.dat d) := rfl
  rw [e, wp_when, wp_dat, h, beq_self_eq_true]
  exact ⟨fun z => z.2, fun z => ⟨rfl, z⟩⟩
theorem w_isX {c f : Str} {ds : List D} : wp (opCmp .iss (.exc c f ds) (.dat .non)) Q μ ↔ Q (.dat (.bl false)) μ := wp_dat
variable {i : Nat} {cond : Env → M Bool} {elt : Env → M Val}
theorem comp_fm {p : D → Bool} {f : D → D} {μ : Sto} : ∀ (ds : List D) (hc : ∀ x ∈ ds, wp (cond (ρ.set i (some (.dat x)))) (fun b μ' => b = p x ∧ μ' = μ) μ) (he : ∀ x ∈ ds, p x = true → wp (elt (ρ.set i (some (.dat x)))) (fun v μ' => v = .dat (f x) ∧ μ' = μ) μ),
    wp (compM (.nm i) cond elt ρ ds) (fun ys μ' => ys = (ds.filter p).map f ∧ μ' = μ) μ
  | [], _, _ => by
    unfold compM
    exact wp_pure.mpr ⟨rfl, rfl⟩
  | x :: r, hc, he => by
    unfold compM
    simp only [asg, wp_bind, wp_some]
    refine (hc x (List.mem_cons_self ..)).mono fun b μ1 ⟨e1, e2⟩ => ?_
    subst e1 e2
    have ih := comp_fm r (fun y hy => hc y (List.mem_cons_of_mem _ hy)) fun y hy => he y (List.mem_cons_of_mem _ hy)
    cases hp : p x with
    | false =>
      simp only
      exact ih.mono fun ys μ2 ⟨q1, q2⟩ => ⟨by rw [List.filter_cons_of_neg (by rw [hp]; decide)]; exact q1, q2⟩
    | true =>
      simp only [wp_bind, wp_pure]
      refine (he x (List.mem_cons_self ..) hp).mono fun v μ2 ⟨e1, e2⟩ => ?_
      subst e1 e2
      simp only [toD, wp_pure]
      exact ih.mono fun ys μ2 ⟨q1, q2⟩ => ⟨by rw [List.filter_cons_of_pos hp, List.map_cons, q1], q2⟩
end
theorem bools_map {α : Type} (p : α → Bool) : ∀ l : List α, boolsOf (l.map fun x => D.bl (p x)) = some (l.map p)
  | [] => rfl
  | x :: l => by rw [List.map_cons, List.map_cons, boolsOf, bools_map p l]
theorem w_allM {μ : Sto} {Q : Val → Sto → Prop} {α : Type} {p : α → Bool} {l : List α} : wp (opBlt .all [.dat (.lst (l.map fun x => D.bl (p x)))]) Q μ ↔ Q (.dat (.bl (l.all p))) μ := by
  rw [w_all (bools_map p l)]
  have : (l.map p).all id = l.all p := by rw [List.all_map]; rfl
  rw [this]
end G
namespace K05
open PySem G
theorem l_heard : Z.tab.lookup ("_law_heard" : Str) = some f__law_heard := by rfl
section
variable {k : Nat} {μ : Sto} {us rs : List D} {fs u w : D}
theorem heard_ok (hw : w.own = true) (hd : w.dep < k) (he : tupD w = .tup [.tup us, .tup rs, fs]) (hu : ∀ d ∈ us, Flt 1 d) (hf : Flt 1 u) :
    wp (callK Z.tab (k + 2) "_law_heard" [.dat w, .dat u]) (fun v μ' => v = .dat (if hasD us u then .non else .lst [u]) ∧ μ' = μ) μ := by
  have ht : μ.take μ.length = μ := List.take_of_length_le (Nat.le_refl _)
  refine wp_call l_heard rfl ?_
  show wp (G.exec _ f__law_heard.body [some (.dat w), some (.dat u), none, none, none]) _ _
  simp only [f__law_heard, w_seq, w_if, w_cmp, w_idx, w_var, w_cst, w_glo, w_blt, w_cons, w_nil, w_bin, w_cal, w_callk, w_not, w_set, w_setT, w_ret, w_exp, w_nx, w_rt, w_skip, w_flr, w_fln, wp_seal_dat, w_tup, w_lst, w_toDs_nil, w_toDs_cons, w_itee, w_isi, w_or, w_and, w_tb, w_comp, w_sseq, w_srng, w_sit, w_sil, wp_toDs, wipeD, w_slc, w_part0, w_part1, w_cutT, w_cutL, w_rep3, w_rep2L, w_isN, w_isnotN, w_listL, w_listT, w_tupl, w_tupt, w_len_t, w_len_l, w_eqI, w_eqB, w_neB, w_gt, w_lt, w_ge, w_le, w_add, w_par, w_parF, w_par3, w_par3F, w_snapD, w_snd, List.set_cons_zero, List.set_cons_succ, List.getElem?_cons_zero, List.getElem?_cons_succ, Option.some.injEq, exists_eq_left', iteF, List.map_cons, List.map_nil]
  cases hin : hasD us u with
  | true =>
    refine w_try_ok ?_
    simp only [w_seq, w_if, w_cmp, w_idx, w_var, w_cst, w_glo, w_blt, w_cons, w_nil, w_bin, w_cal, w_callk, w_not, w_set, w_setT, w_ret, w_exp, w_nx, w_rt, w_skip, w_flr, w_fln, wp_seal_dat, w_tup, w_lst, w_toDs_nil, w_toDs_cons, w_itee, w_isi, w_or, w_and, w_tb, w_comp, w_sseq, w_srng, w_sit, w_sil, wp_toDs, wipeD, w_slc, w_part0, w_part1, w_cutT, w_cutL, w_rep3, w_rep2L, w_isN, w_isnotN, w_listL, w_listT, w_tupl, w_tupt, w_len_t, w_len_l, w_eqI, w_eqB, w_neB, w_gt, w_lt, w_ge, w_le, w_add, w_par, w_parF, w_par3, w_par3F, w_snapD, w_snd, List.set_cons_zero, List.set_cons_succ, List.getElem?_cons_zero, List.getElem?_cons_succ, Option.some.injEq, exists_eq_left', iteF, List.map_cons, List.map_nil]
    refine (login_ok hw hd he hu hf hin).mono fun v μ1 ⟨e1, e2⟩ => ?_
    subst e1 e2
    simp only [w_seq, w_if, w_cmp, w_idx, w_var, w_cst, w_glo, w_blt, w_cons, w_nil, w_bin, w_cal, w_callk, w_not, w_set, w_setT, w_ret, w_exp, w_nx, w_rt, w_skip, w_flr, w_fln, wp_seal_dat, w_tup, w_lst, w_toDs_nil, w_toDs_cons, w_itee, w_isi, w_or, w_and, w_tb, w_comp, w_sseq, w_srng, w_sit, w_sil, wp_toDs, wipeD, w_slc, w_part0, w_part1, w_cutT, w_cutL, w_rep3, w_rep2L, w_isN, w_isnotN, w_listL, w_listT, w_tupl, w_tupt, w_len_t, w_len_l, w_eqI, w_eqB, w_neB, w_gt, w_lt, w_ge, w_le, w_add, w_par, w_parF, w_par3, w_par3F, w_snapD, w_snd, List.set_cons_zero, List.set_cons_succ, List.getElem?_cons_zero, List.getElem?_cons_succ, Option.some.injEq, exists_eq_left', iteF, List.map_cons, List.map_nil, isNone, ht, if_true, and_self]
  | false =>
    refine w_try_er (e := ⟨"NoUser", "user", [u]⟩) (μ1 := μ) ?_ (show t_BadText_NoFile_NoProcess_NoUser_Refused.lookup ("NoUser" : Str) = some true by decide +kernel) ?_
    · rw [G.exec]
      refine bind_er ?_
      show ev (callK Z.tab (k + 1)) (.call "login" (.cons (.var 0) (.cons (.var 1) .nil))) [some (.dat w), some (.dat u), some (.dat .non), none, none] μ = _
      rw [ev]
      have z : evL (callK Z.tab (k + 1)) (.cons (.var 0) (.cons (.var 1) .nil)) [some (.dat w), some (.dat u), some (.dat .non), none, none] μ = some (.ok [.dat w, .dat u], μ) := by
        simp only [evL, ev]
        rfl
      rw [bind_of z]
      exact login_er hw hd he hu hf hin
    · simp only [w_seq, w_if, w_cmp, w_idx, w_var, w_cst, w_glo, w_blt, w_cons, w_nil, w_bin, w_cal, w_callk, w_not, w_set, w_setT, w_ret, w_exp, w_nx, w_rt, w_skip, w_flr, w_fln, wp_seal_dat, w_tup, w_lst, w_toDs_nil, w_toDs_cons, w_itee, w_isi, w_or, w_and, w_tb, w_comp, w_sseq, w_srng, w_sit, w_sil, wp_toDs, wipeD, w_slc, w_part0, w_part1, w_cutT, w_cutL, w_rep3, w_rep2L, w_isN, w_isnotN, w_listL, w_listT, w_tupl, w_tupt, w_len_t, w_len_l, w_eqI, w_eqB, w_neB, w_gt, w_lt, w_ge, w_le, w_add, w_par, w_parF, w_par3, w_par3F, w_snapD, w_snd, List.set_cons_zero, List.set_cons_succ, List.getElem?_cons_zero, List.getElem?_cons_succ, Option.some.injEq, exists_eq_left', iteF, List.map_cons, List.map_nil, w_isX, w_isx, w_isxM (show t_NoUser.lookup ("NoUser" : Str) = some true by decide +kernel), w_isxM (show t_LookupError.lookup ("NoUser" : Str) = some true by decide +kernel), w_isxM (show t_BadText_NoFile_NoProcess_Refused.lookup ("NoUser" : Str) = some false by decide +kernel), w_fld, w_fldM (show (["NoUser"] : List Str).contains ("NoUser" : Str) = true by decide +kernel), Bool.not_false, ht]
      exact ⟨rfl, rfl, trivial⟩
end
/-! ### closed -/
def closeF (ns : List D) : D → D
  | .tup [n, o, a, g, s, t] => if hasD ns n then .tup [n, o, a, g, .tup [], t] else .tup [n, o, a, g, s, t]
  | d => d
/-- a row of six -/
def Row6 (d : D) : Prop := ∃ n o a g s t, d = .tup [n, o, a, g, s, t] ∧ Flt 1 n
section
variable {k : Nat} {μ : Sto} {us rs fs ns : List D} {w nm : D}
theorem closed_ok (hw : w.own = true) (hd : w.dep < k) (he : tupD w = .tup [.tup us, .tup rs, .tup fs]) (hn : nm = .tup ns ∨ nm = .lst ns) (hs : ∀ d ∈ ns, Flt 1 d) (hf : ∀ d ∈ fs, Row6 d) :
    wp (callK Z.tab (k + 1) "closed" [.dat w, .dat nm]) (fun v μ' => v = .dat (.tup [.tup us, .tup rs, .tup (fs.map (closeF ns))]) ∧ μ' = μ) μ := by
  have ht : μ.take μ.length = μ := List.take_of_length_le (Nat.le_refl _)
  refine wp_call l_closed rfl ?_
  show wp (G.exec _ f_closed.body [some (.dat w), some (.dat nm), none, none, none, none, none]) _ _
  simp only [f_closed, w_seq, w_if, w_cmp, w_idx, w_var, w_cst, w_glo, w_blt, w_cons, w_nil, w_bin, w_cal, w_callk, w_not, w_set, w_setT, w_ret, w_exp, w_nx, w_rt, w_skip, w_flr, w_fln, wp_seal_dat, w_tup, w_lst, w_toDs_nil, w_toDs_cons, w_itee, w_isi, w_or, w_and, w_tb, w_comp, w_sseq, w_srng, w_sit, w_sil, wp_toDs, wipeD, w_slc, w_part0, w_part1, w_cutT, w_cutL, w_rep3, w_rep2L, w_isN, w_isnotN, w_listL, w_listT, w_tupl, w_tupt, w_len_t, w_len_l, w_eqI, w_eqB, w_neB, w_gt, w_lt, w_ge, w_le, w_add, w_par, w_parF, w_par3, w_par3F, w_snapD, w_snd, List.set_cons_zero, List.set_cons_succ, List.getElem?_cons_zero, List.getElem?_cons_succ, Option.some.injEq, exists_eq_left', iteF, List.map_cons, List.map_nil]
  refine (tupled_ok l_tupled k w hw hd μ).mono fun v μ1 ⟨e1, e2⟩ => ?_
  subst e1 e2
  rw [he]
  simp only [asg, asgs, w_seq, w_if, w_cmp, w_idx, w_var, w_cst, w_glo, w_blt, w_cons, w_nil, w_bin, w_cal, w_callk, w_not, w_set, w_setT, w_ret, w_exp, w_nx, w_rt, w_skip, w_flr, w_fln, wp_seal_dat, w_tup, w_lst, w_toDs_nil, w_toDs_cons, w_itee, w_isi, w_or, w_and, w_tb, w_comp, w_sseq, w_srng, w_sit, w_sil, wp_toDs, wipeD, w_slc, w_part0, w_part1, w_cutT, w_cutL, w_rep3, w_rep2L, w_isN, w_isnotN, w_listL, w_listT, w_tupl, w_tupt, w_len_t, w_len_l, w_eqI, w_eqB, w_neB, w_gt, w_lt, w_ge, w_le, w_add, w_par, w_parF, w_par3, w_par3F, w_snapD, w_snd, List.set_cons_zero, List.set_cons_succ, List.getElem?_cons_zero, List.getElem?_cons_succ, Option.some.injEq, exists_eq_left', iteF, List.map_cons, List.map_nil]
  refine (comp_pure (f := closeF ns) (fun x => ?_) fs fun x hx => ?_).mono fun ys μ2 ⟨q1, q2⟩ => ?_
  · simp only [wp_bind, w_seq, w_if, w_cmp, w_idx, w_var, w_cst, w_glo, w_blt, w_cons, w_nil, w_bin, w_cal, w_callk, w_not, w_set, w_setT, w_ret, w_exp, w_nx, w_rt, w_skip, w_flr, w_fln, wp_seal_dat, w_tup, w_lst, w_toDs_nil, w_toDs_cons, w_itee, w_isi, w_or, w_and, w_tb, w_comp, w_sseq, w_srng, w_sit, w_sil, wp_toDs, wipeD, w_slc, w_part0, w_part1, w_cutT, w_cutL, w_rep3, w_rep2L, w_isN, w_isnotN, w_listL, w_listT, w_tupl, w_tupt, w_len_t, w_len_l, w_eqI, w_eqB, w_neB, w_gt, w_lt, w_ge, w_le, w_add, w_par, w_parF, w_par3, w_par3F, w_snapD, w_snd, List.set_cons_zero, List.set_cons_succ, List.getElem?_cons_zero, List.getElem?_cons_succ, Option.some.injEq, exists_eq_left', iteF, List.map_cons, List.map_nil, and_self]
  · obtain ⟨n, o, a, g, s, t, rfl, hfn⟩ := hf x hx
    have key : ∀ {Q : Val → Sto → Prop}, wp (opCmp .isin (.dat n) (.dat nm)) Q μ1 ↔ Q (.dat (.bl (hasD ns n))) μ1 := fun {Q} => by
      rcases hn with rfl | rfl
      · exact w_inT (hfn.cmpb (by decide)) (all_cmpb hs (by decide))
      · exact w_inL (hfn.cmpb (by decide)) (all_cmpb hs (by decide))
    simp only [w_seq, w_if, w_cmp, w_idx, w_var, w_cst, w_glo, w_blt, w_cons, w_nil, w_bin, w_cal, w_callk, w_not, w_set, w_setT, w_ret, w_exp, w_nx, w_rt, w_skip, w_flr, w_fln, wp_seal_dat, w_tup, w_lst, w_toDs_nil, w_toDs_cons, w_itee, w_isi, w_or, w_and, w_tb, w_comp, w_sseq, w_srng, w_sit, w_sil, wp_toDs, wipeD, w_slc, w_part0, w_part1, w_cutT, w_cutL, w_rep3, w_rep2L, w_isN, w_isnotN, w_listL, w_listT, w_tupl, w_tupt, w_len_t, w_len_l, w_eqI, w_eqB, w_neB, w_gt, w_lt, w_ge, w_le, w_add, w_par, w_parF, w_par3, w_par3F, w_snapD, w_snd, List.set_cons_zero, List.set_cons_succ, List.getElem?_cons_zero, List.getElem?_cons_succ, Option.some.injEq, exists_eq_left', iteF, List.map_cons, List.map_nil, w_ix_t, show L2.atI [n, o, a, g, s, t] 0 = some n from rfl, show L2.atI [n, o, a, g, s, t] 5 = some t from rfl, key]
    cases hh : hasD ns n with
    | true =>
      simp only [w_seq, w_if, w_cmp, w_idx, w_var, w_cst, w_glo, w_blt, w_cons, w_nil, w_bin, w_cal, w_callk, w_not, w_set, w_setT, w_ret, w_exp, w_nx, w_rt, w_skip, w_flr, w_fln, wp_seal_dat, w_tup, w_lst, w_toDs_nil, w_toDs_cons, w_itee, w_isi, w_or, w_and, w_tb, w_comp, w_sseq, w_srng, w_sit, w_sil, wp_toDs, wipeD, w_slc, w_part0, w_part1, w_cutT, w_cutL, w_rep3, w_rep2L, w_isN, w_isnotN, w_listL, w_listT, w_tupl, w_tupt, w_len_t, w_len_l, w_eqI, w_eqB, w_neB, w_gt, w_lt, w_ge, w_le, w_add, w_par, w_parF, w_par3, w_par3F, w_snapD, w_snd, List.set_cons_zero, List.set_cons_succ, List.getElem?_cons_zero, List.getElem?_cons_succ, Option.some.injEq, exists_eq_left', iteF, List.map_cons, List.map_nil, w_ix_t, show L2.atI [n, o, a, g, s, t] 5 = some t from rfl]
      refine ⟨rfl, rfl, ?_⟩
      rw [show cut [n, o, a, g, s, t] none (some 4) = [n, o, a, g] from rfl, w_addT (by show 6 ≤ _; decide)]
      exact ⟨by rw [closeF, hh]; rfl, rfl⟩
    | false =>
      simp only [w_seq, w_if, w_cmp, w_idx, w_var, w_cst, w_glo, w_blt, w_cons, w_nil, w_bin, w_cal, w_callk, w_not, w_set, w_setT, w_ret, w_exp, w_nx, w_rt, w_skip, w_flr, w_fln, wp_seal_dat, w_tup, w_lst, w_toDs_nil, w_toDs_cons, w_itee, w_isi, w_or, w_and, w_tb, w_comp, w_sseq, w_srng, w_sit, w_sil, wp_toDs, wipeD, w_slc, w_part0, w_part1, w_cutT, w_cutL, w_rep3, w_rep2L, w_isN, w_isnotN, w_listL, w_listT, w_tupl, w_tupt, w_len_t, w_len_l, w_eqI, w_eqB, w_neB, w_gt, w_lt, w_ge, w_le, w_add, w_par, w_parF, w_par3, w_par3F, w_snapD, w_snd, List.set_cons_zero, List.set_cons_succ, List.getElem?_cons_zero, List.getElem?_cons_succ, Option.some.injEq, exists_eq_left', iteF, List.map_cons, List.map_nil]
      exact ⟨by rw [closeF, hh]; rfl, trivial⟩
  · subst q1 q2
    simp only [w_seq, w_if, w_cmp, w_idx, w_var, w_cst, w_glo, w_blt, w_cons, w_nil, w_bin, w_cal, w_callk, w_not, w_set, w_setT, w_ret, w_exp, w_nx, w_rt, w_skip, w_flr, w_fln, wp_seal_dat, w_tup, w_lst, w_toDs_nil, w_toDs_cons, w_itee, w_isi, w_or, w_and, w_tb, w_comp, w_sseq, w_srng, w_sit, w_sil, wp_toDs, wipeD, w_slc, w_part0, w_part1, w_cutT, w_cutL, w_rep3, w_rep2L, w_isN, w_isnotN, w_listL, w_listT, w_tupl, w_tupt, w_len_t, w_len_l, w_eqI, w_eqB, w_neB, w_gt, w_lt, w_ge, w_le, w_add, w_par, w_parF, w_par3, w_par3F, w_snapD, w_snd, List.set_cons_zero, List.set_cons_succ, List.getElem?_cons_zero, List.getElem?_cons_succ, Option.some.injEq, exists_eq_left', iteF, List.map_cons, List.map_nil, ht, and_self]
    exact ⟨rfl, trivial⟩
end
end K05
set_option Elab.async false
set_option linter.all false
set_option maxRecDepth 100000
set_option maxHeartbeats 1000000
/-! D4: within beside the law's own look. -/
namespace G
open PySem
/-- a loop that looks for something bad -/
theorem for_search {t : Tg} {body : Env → M Fl} {J : Env → Prop} {bad : D → Bool} {μ : Sto} : ∀ (ds : List D) (hb : ∀ x ∈ ds, ∀ ρ, J ρ → ∃ ρ', asg t (.dat x) ρ = some ρ' ∧ wp (body ρ') (fun fl μ' => μ' = μ ∧ if bad x = true then fl = .rt (.dat (.bl false)) else ∃ ρ2, fl = .nx ρ2 ∧ J ρ2) μ) (ρ : Env), J ρ →
    wp (forM t body ds ρ) (fun fl μ' => μ' = μ ∧ if ds.any bad = true then fl = .rt (.dat (.bl false)) else ∃ ρ2, fl = .nx ρ2 ∧ J ρ2) μ
  | [], _, ρ, hj => by
    unfold forM
    exact wp_pure.mpr ⟨rfl, by rw [if_neg (by simp)]; exact ⟨ρ, rfl, hj⟩⟩
  | x :: r, hb, ρ, hj => by
    unfold forM
    obtain ⟨ρ', e, h⟩ := hb x (List.mem_cons_self ..) ρ hj
    rw [e]
    simp only [wp_bind, wp_some]
    refine h.mono fun fl μ1 ⟨e1, q⟩ => ?_
    subst e1
    rw [List.any_cons]
    cases hx : bad x with
    | true =>
      rw [hx, if_pos rfl] at q
      subst q
      exact wp_pure.mpr ⟨rfl, by rw [Bool.true_or, if_pos rfl]⟩
    | false =>
      rw [hx, if_neg (by decide)] at q
      obtain ⟨ρ2, rfl, hj2⟩ := q
      rw [Bool.false_or]
      exact for_search r (fun y hy => hb y (List.mem_cons_of_mem _ hy)) ρ2 hj2
end G
namespace K05
open PySem G
def StrL (l : List D) : Prop := ∀ d ∈ l, ∃ x, d = D.str x
theorem StrL.flt {n : Nat} {l : List D} (h : StrL l) : ∀ d ∈ l, Flt n d := fun d hd => by
  obtain ⟨x, rfl⟩ := h d hd
  exact .str
theorem StrL.nil : StrL [] := fun _ h => nomatch h
theorem StrL.sub {l r : List D} (h : StrL l) (s : r.Sublist l) : StrL r := fun d hd => h d (s.mem hd)
theorem StrL.cons {x : Str} {l : List D} (h : StrL l) : StrL (.str x :: l) := fun d hd => by
  rcases List.mem_cons.mp hd with rfl | hd
  · exact ⟨x, rfl⟩
  · exact h d hd
def partB (a b : List D) : Bool := a.all fun x => hasD b x
section
variable {k : Nat} {μ : Sto} {a b : List D}
theorem is_part_ok (ha : StrL a) (hb : StrL b) : wp (callK Z.tab (k + 1) "is_part" [.dat (.tup a), .dat (.tup b)]) (fun v μ' => v = .dat (.bl (partB a b)) ∧ μ' = μ) μ := by
  have ht : μ.take μ.length = μ := List.take_of_length_le (Nat.le_refl _)
  refine wp_call l_is_part rfl ?_
  show wp (G.exec _ f_is_part.body [some (.dat (.tup a)), some (.dat (.tup b)), none]) _ _
  simp only [f_is_part, wp_pure, w_seq, w_if, w_cmp, w_idx, w_var, w_cst, w_glo, w_blt, w_cons, w_nil, w_bin, w_cal, w_callk, w_not, w_set, w_setT, w_ret, w_exp, w_nx, w_rt, w_skip, w_flr, w_fln, wp_seal_dat, w_tup, w_lst, w_toDs_nil, w_toDs_cons, w_itee, w_isi, w_or, w_and, w_tb, w_comp, w_sseq, w_srng, w_sit, w_sil, wp_toDs, wipeD, w_slc, w_part0, w_part1, w_cutT, w_cutL, w_rep3, w_rep2L, w_isN, w_isnotN, w_listL, w_listT, w_tupl, w_tupt, w_len_t, w_len_l, w_eqI, w_eqB, w_neB, w_gt, w_lt, w_ge, w_le, w_add, w_par, w_parF, w_par3, w_par3F, w_snapD, w_snd, List.set_cons_zero, List.set_cons_succ, List.getElem?_cons_zero, List.getElem?_cons_succ, Option.some.injEq, exists_eq_left', iteF, List.map_cons, List.map_nil]
  refine (comp_pure (f := fun x => .bl (hasD b x)) (fun x => ?_) a fun x hx => ?_).mono fun ys μ2 ⟨q1, q2⟩ => ?_
  · simp only [wp_bind, wp_pure, w_seq, w_if, w_cmp, w_idx, w_var, w_cst, w_glo, w_blt, w_cons, w_nil, w_bin, w_cal, w_callk, w_not, w_set, w_setT, w_ret, w_exp, w_nx, w_rt, w_skip, w_flr, w_fln, wp_seal_dat, w_tup, w_lst, w_toDs_nil, w_toDs_cons, w_itee, w_isi, w_or, w_and, w_tb, w_comp, w_sseq, w_srng, w_sit, w_sil, wp_toDs, wipeD, w_slc, w_part0, w_part1, w_cutT, w_cutL, w_rep3, w_rep2L, w_isN, w_isnotN, w_listL, w_listT, w_tupl, w_tupt, w_len_t, w_len_l, w_eqI, w_eqB, w_neB, w_gt, w_lt, w_ge, w_le, w_add, w_par, w_parF, w_par3, w_par3F, w_snapD, w_snd, List.set_cons_zero, List.set_cons_succ, List.getElem?_cons_zero, List.getElem?_cons_succ, Option.some.injEq, exists_eq_left', iteF, List.map_cons, List.map_nil, and_self]
  · simp only [wp_pure, w_seq, w_if, w_cmp, w_idx, w_var, w_cst, w_glo, w_blt, w_cons, w_nil, w_bin, w_cal, w_callk, w_not, w_set, w_setT, w_ret, w_exp, w_nx, w_rt, w_skip, w_flr, w_fln, wp_seal_dat, w_tup, w_lst, w_toDs_nil, w_toDs_cons, w_itee, w_isi, w_or, w_and, w_tb, w_comp, w_sseq, w_srng, w_sit, w_sil, wp_toDs, wipeD, w_slc, w_part0, w_part1, w_cutT, w_cutL, w_rep3, w_rep2L, w_isN, w_isnotN, w_listL, w_listT, w_tupl, w_tupt, w_len_t, w_len_l, w_eqI, w_eqB, w_neB, w_gt, w_lt, w_ge, w_le, w_add, w_par, w_parF, w_par3, w_par3F, w_snapD, w_snd, List.set_cons_zero, List.set_cons_succ, List.getElem?_cons_zero, List.getElem?_cons_succ, Option.some.injEq, exists_eq_left', iteF, List.map_cons, List.map_nil, w_inT ((ha.flt (n := 1) x hx).cmpb (by decide)) (all_cmpb (hb.flt (n := 1)) (by decide)), and_self]
  · subst q1 q2
    simp only [w_allM, wp_pure, w_seq, w_if, w_cmp, w_idx, w_var, w_cst, w_glo, w_blt, w_cons, w_nil, w_bin, w_cal, w_callk, w_not, w_set, w_setT, w_ret, w_exp, w_nx, w_rt, w_skip, w_flr, w_fln, wp_seal_dat, w_tup, w_lst, w_toDs_nil, w_toDs_cons, w_itee, w_isi, w_or, w_and, w_tb, w_comp, w_sseq, w_srng, w_sit, w_sil, wp_toDs, wipeD, w_slc, w_part0, w_part1, w_cutT, w_cutL, w_rep3, w_rep2L, w_isN, w_isnotN, w_listL, w_listT, w_tupl, w_tupt, w_len_t, w_len_l, w_eqI, w_eqB, w_neB, w_gt, w_lt, w_ge, w_le, w_add, w_par, w_parF, w_par3, w_par3F, w_snapD, w_snd, List.set_cons_zero, List.set_cons_succ, List.getElem?_cons_zero, List.getElem?_cons_succ, Option.some.injEq, exists_eq_left', iteF, List.map_cons, List.map_nil, ht, and_true]
    rfl
theorem less_ok (ha : StrL a) (hb : StrL b) : wp (callK Z.tab (k + 1) "_law_less" [.dat (.tup a), .dat (.tup b)]) (fun v μ' => v = .dat (.tup (a.filter fun x => !hasD b x)) ∧ μ' = μ) μ := by
  have ht : μ.take μ.length = μ := List.take_of_length_le (Nat.le_refl _)
  refine wp_call l_less rfl ?_
  show wp (G.exec _ f__law_less.body [some (.dat (.tup a)), some (.dat (.tup b)), none]) _ _
  simp only [f__law_less, wp_pure, w_seq, w_if, w_cmp, w_idx, w_var, w_cst, w_glo, w_blt, w_cons, w_nil, w_bin, w_cal, w_callk, w_not, w_set, w_setT, w_ret, w_exp, w_nx, w_rt, w_skip, w_flr, w_fln, wp_seal_dat, w_tup, w_lst, w_toDs_nil, w_toDs_cons, w_itee, w_isi, w_or, w_and, w_tb, w_comp, w_sseq, w_srng, w_sit, w_sil, wp_toDs, wipeD, w_slc, w_part0, w_part1, w_cutT, w_cutL, w_rep3, w_rep2L, w_isN, w_isnotN, w_listL, w_listT, w_tupl, w_tupt, w_len_t, w_len_l, w_eqI, w_eqB, w_neB, w_gt, w_lt, w_ge, w_le, w_add, w_par, w_parF, w_par3, w_par3F, w_snapD, w_snd, List.set_cons_zero, List.set_cons_succ, List.getElem?_cons_zero, List.getElem?_cons_succ, Option.some.injEq, exists_eq_left', iteF, List.map_cons, List.map_nil]
  refine (comp_fm (p := fun x => !hasD b x) (f := fun x => x) a (fun x hx => ?_) fun x hx _ => ?_).mono fun ys μ2 ⟨q1, q2⟩ => ?_
  · simp only [wp_bind, wp_pure, w_seq, w_if, w_cmp, w_idx, w_var, w_cst, w_glo, w_blt, w_cons, w_nil, w_bin, w_cal, w_callk, w_not, w_set, w_setT, w_ret, w_exp, w_nx, w_rt, w_skip, w_flr, w_fln, wp_seal_dat, w_tup, w_lst, w_toDs_nil, w_toDs_cons, w_itee, w_isi, w_or, w_and, w_tb, w_comp, w_sseq, w_srng, w_sit, w_sil, wp_toDs, wipeD, w_slc, w_part0, w_part1, w_cutT, w_cutL, w_rep3, w_rep2L, w_isN, w_isnotN, w_listL, w_listT, w_tupl, w_tupt, w_len_t, w_len_l, w_eqI, w_eqB, w_neB, w_gt, w_lt, w_ge, w_le, w_add, w_par, w_parF, w_par3, w_par3F, w_snapD, w_snd, List.set_cons_zero, List.set_cons_succ, List.getElem?_cons_zero, List.getElem?_cons_succ, Option.some.injEq, exists_eq_left', iteF, List.map_cons, List.map_nil, w_ninT ((ha.flt (n := 1) x hx).cmpb (by decide)) (all_cmpb (hb.flt (n := 1)) (by decide)), and_self]
  · simp only [wp_pure, w_seq, w_if, w_cmp, w_idx, w_var, w_cst, w_glo, w_blt, w_cons, w_nil, w_bin, w_cal, w_callk, w_not, w_set, w_setT, w_ret, w_exp, w_nx, w_rt, w_skip, w_flr, w_fln, wp_seal_dat, w_tup, w_lst, w_toDs_nil, w_toDs_cons, w_itee, w_isi, w_or, w_and, w_tb, w_comp, w_sseq, w_srng, w_sit, w_sil, wp_toDs, wipeD, w_slc, w_part0, w_part1, w_cutT, w_cutL, w_rep3, w_rep2L, w_isN, w_isnotN, w_listL, w_listT, w_tupl, w_tupt, w_len_t, w_len_l, w_eqI, w_eqB, w_neB, w_gt, w_lt, w_ge, w_le, w_add, w_par, w_parF, w_par3, w_par3F, w_snapD, w_snd, List.set_cons_zero, List.set_cons_succ, List.getElem?_cons_zero, List.getElem?_cons_succ, Option.some.injEq, exists_eq_left', iteF, List.map_cons, List.map_nil, and_self]
  · subst q1 q2
    simp only [wp_pure, w_seq, w_if, w_cmp, w_idx, w_var, w_cst, w_glo, w_blt, w_cons, w_nil, w_bin, w_cal, w_callk, w_not, w_set, w_setT, w_ret, w_exp, w_nx, w_rt, w_skip, w_flr, w_fln, wp_seal_dat, w_tup, w_lst, w_toDs_nil, w_toDs_cons, w_itee, w_isi, w_or, w_and, w_tb, w_comp, w_sseq, w_srng, w_sit, w_sil, wp_toDs, wipeD, w_slc, w_part0, w_part1, w_cutT, w_cutL, w_rep3, w_rep2L, w_isN, w_isnotN, w_listL, w_listT, w_tupl, w_tupt, w_len_t, w_len_l, w_eqI, w_eqB, w_neB, w_gt, w_lt, w_ge, w_le, w_add, w_par, w_parF, w_par3, w_par3F, w_snapD, w_snd, List.set_cons_zero, List.set_cons_succ, List.getElem?_cons_zero, List.getElem?_cons_succ, Option.some.injEq, exists_eq_left', iteF, List.map_cons, List.map_nil, ht, List.map_id', and_self]
def sw5 : List D := [.str "fast", .str "keep", .str "nonew", .str "plain", .str "steady"]
theorem sw5_str : StrL sw5 := .cons (.cons (.cons (.cons (.cons .nil))))
/-- the switches let it be within -/
def swB (a b : List D) : Bool := !(hasD b (.str "fast") && !hasD a (.str "fast")) && ([.str "keep", .str "nonew", .str "plain", .str "steady"] : List D).all fun x => hasD a x == hasD b x
theorem switched_ok (ha : StrL a) (hb : StrL b) : wp (callK Z.tab (k + 1) "switched_within" [.dat (.tup a), .dat (.tup b)]) (fun v μ' => v = .dat (.bl (swB a b)) ∧ μ' = μ) μ := by
  have ht : μ.take μ.length = μ := List.take_of_length_le (Nat.le_refl _)
  have ca := all_cmpb (ha.flt (n := 1)) (by decide)
  have cb := all_cmpb (hb.flt (n := 1)) (by decide)
  refine wp_call l_switched rfl ?_
  show wp (G.exec _ f_switched_within.body [some (.dat (.tup a)), some (.dat (.tup b)), none]) _ _
  simp only [f_switched_within, wp_pure, w_seq, w_if, w_cmp, w_idx, w_var, w_cst, w_glo, w_blt, w_cons, w_nil, w_bin, w_cal, w_callk, w_not, w_set, w_setT, w_ret, w_exp, w_nx, w_rt, w_skip, w_flr, w_fln, wp_seal_dat, w_tup, w_lst, w_toDs_nil, w_toDs_cons, w_itee, w_isi, w_or, w_and, w_tb, w_comp, w_sseq, w_srng, w_sit, w_sil, wp_toDs, wipeD, w_slc, w_part0, w_part1, w_cutT, w_cutL, w_rep3, w_rep2L, w_isN, w_isnotN, w_listL, w_listT, w_tupl, w_tupt, w_len_t, w_len_l, w_eqI, w_eqB, w_neB, w_gt, w_lt, w_ge, w_le, w_add, w_par, w_parF, w_par3, w_par3F, w_snapD, w_snd, List.set_cons_zero, List.set_cons_succ, List.getElem?_cons_zero, List.getElem?_cons_succ, Option.some.injEq, exists_eq_left', iteF, List.map_cons, List.map_nil, k_FAST, k_SWITCHES, w_inT (Flt.cmpb (n := 1) .str (by decide)) cb]
  have tail : ∀ {Q : Val → Sto → Prop}, Q (.dat (.bl (([.str "keep", .str "nonew", .str "plain", .str "steady"] : List D).all fun x => hasD a x == hasD b x))) μ → wp (compM (.nm 2) (fun ρ' => M.bind (ev (callK Z.tab k) (.cmp .ne (.var 2) (.glo "FAST" (.str "fast"))) ρ') truth) (fun ρ' => ev (callK Z.tab k) (.cmp .eq (.cmp .isin (.var 2) (.var 0)) (.cmp .isin (.var 2) (.var 1))) ρ') [some (.dat (.tup a)), some (.dat (.tup b)), none] sw5) (fun ys μ1 => wp (opBlt .all [.dat (.lst ys)]) Q μ1) μ := fun {Q} hq => by
    refine (comp_fm (p := fun x => !D.eqv x (.str "fast")) (f := fun x => .bl (hasD a x == hasD b x)) sw5 (fun x hx => ?_) fun x hx _ => ?_).mono fun ys μ2 ⟨q1, q2⟩ => ?_
    · simp only [wp_bind, wp_pure, w_seq, w_if, w_cmp, w_idx, w_var, w_cst, w_glo, w_blt, w_cons, w_nil, w_bin, w_cal, w_callk, w_not, w_set, w_setT, w_ret, w_exp, w_nx, w_rt, w_skip, w_flr, w_fln, wp_seal_dat, w_tup, w_lst, w_toDs_nil, w_toDs_cons, w_itee, w_isi, w_or, w_and, w_tb, w_comp, w_sseq, w_srng, w_sit, w_sil, wp_toDs, wipeD, w_slc, w_part0, w_part1, w_cutT, w_cutL, w_rep3, w_rep2L, w_isN, w_isnotN, w_listL, w_listT, w_tupl, w_tupt, w_len_t, w_len_l, w_eqI, w_eqB, w_neB, w_gt, w_lt, w_ge, w_le, w_add, w_par, w_parF, w_par3, w_par3F, w_snapD, w_snd, List.set_cons_zero, List.set_cons_succ, List.getElem?_cons_zero, List.getElem?_cons_succ, Option.some.injEq, exists_eq_left', iteF, List.map_cons, List.map_nil, w_neD ((sw5_str.flt (n := 1) x hx).cmpb (by decide)) (Flt.cmpb (n := 1) .str (by decide)), and_self]
    · simp only [wp_pure, w_seq, w_if, w_cmp, w_idx, w_var, w_cst, w_glo, w_blt, w_cons, w_nil, w_bin, w_cal, w_callk, w_not, w_set, w_setT, w_ret, w_exp, w_nx, w_rt, w_skip, w_flr, w_fln, wp_seal_dat, w_tup, w_lst, w_toDs_nil, w_toDs_cons, w_itee, w_isi, w_or, w_and, w_tb, w_comp, w_sseq, w_srng, w_sit, w_sil, wp_toDs, wipeD, w_slc, w_part0, w_part1, w_cutT, w_cutL, w_rep3, w_rep2L, w_isN, w_isnotN, w_listL, w_listT, w_tupl, w_tupt, w_len_t, w_len_l, w_eqI, w_eqB, w_neB, w_gt, w_lt, w_ge, w_le, w_add, w_par, w_parF, w_par3, w_par3F, w_snapD, w_snd, List.set_cons_zero, List.set_cons_succ, List.getElem?_cons_zero, List.getElem?_cons_succ, Option.some.injEq, exists_eq_left', iteF, List.map_cons, List.map_nil, w_inT ((sw5_str.flt (n := 1) x hx).cmpb (by decide)) ca, w_inT ((sw5_str.flt (n := 1) x hx).cmpb (by decide)) cb, and_self]
    · subst q1 q2
      rw [w_allM, show sw5.filter (fun x => !D.eqv x (.str "fast")) = [.str "keep", .str "nonew", .str "plain", .str "steady"] from by rfl]
      exact hq
  cases h1 : hasD b (.str "fast") with
  | true =>
    simp only [wp_pure, w_seq, w_if, w_cmp, w_idx, w_var, w_cst, w_glo, w_blt, w_cons, w_nil, w_bin, w_cal, w_callk, w_not, w_set, w_setT, w_ret, w_exp, w_nx, w_rt, w_skip, w_flr, w_fln, wp_seal_dat, w_tup, w_lst, w_toDs_nil, w_toDs_cons, w_itee, w_isi, w_or, w_and, w_tb, w_comp, w_sseq, w_srng, w_sit, w_sil, wp_toDs, wipeD, w_slc, w_part0, w_part1, w_cutT, w_cutL, w_rep3, w_rep2L, w_isN, w_isnotN, w_listL, w_listT, w_tupl, w_tupt, w_len_t, w_len_l, w_eqI, w_eqB, w_neB, w_gt, w_lt, w_ge, w_le, w_add, w_par, w_parF, w_par3, w_par3F, w_snapD, w_snd, List.set_cons_zero, List.set_cons_succ, List.getElem?_cons_zero, List.getElem?_cons_succ, Option.some.injEq, exists_eq_left', iteF, List.map_cons, List.map_nil, w_ninT (Flt.cmpb (n := 1) .str (by decide)) ca]
    cases h2 : hasD a (.str "fast") with
    | true =>
      simp only [wp_pure, w_seq, w_if, w_cmp, w_idx, w_var, w_cst, w_glo, w_blt, w_cons, w_nil, w_bin, w_cal, w_callk, w_not, w_set, w_setT, w_ret, w_exp, w_nx, w_rt, w_skip, w_flr, w_fln, wp_seal_dat, w_tup, w_lst, w_toDs_nil, w_toDs_cons, w_itee, w_isi, w_or, w_and, w_tb, w_comp, w_sseq, w_srng, w_sit, w_sil, wp_toDs, wipeD, w_slc, w_part0, w_part1, w_cutT, w_cutL, w_rep3, w_rep2L, w_isN, w_isnotN, w_listL, w_listT, w_tupl, w_tupt, w_len_t, w_len_l, w_eqI, w_eqB, w_neB, w_gt, w_lt, w_ge, w_le, w_add, w_par, w_parF, w_par3, w_par3F, w_snapD, w_snd, List.set_cons_zero, List.set_cons_succ, List.getElem?_cons_zero, List.getElem?_cons_succ, Option.some.injEq, exists_eq_left', iteF, List.map_cons, List.map_nil, Bool.not_true]
      refine tail ?_
      simp only [wp_pure, w_seq, w_if, w_cmp, w_idx, w_var, w_cst, w_glo, w_blt, w_cons, w_nil, w_bin, w_cal, w_callk, w_not, w_set, w_setT, w_ret, w_exp, w_nx, w_rt, w_skip, w_flr, w_fln, wp_seal_dat, w_tup, w_lst, w_toDs_nil, w_toDs_cons, w_itee, w_isi, w_or, w_and, w_tb, w_comp, w_sseq, w_srng, w_sit, w_sil, wp_toDs, wipeD, w_slc, w_part0, w_part1, w_cutT, w_cutL, w_rep3, w_rep2L, w_isN, w_isnotN, w_listL, w_listT, w_tupl, w_tupt, w_len_t, w_len_l, w_eqI, w_eqB, w_neB, w_gt, w_lt, w_ge, w_le, w_add, w_par, w_parF, w_par3, w_par3F, w_snapD, w_snd, List.set_cons_zero, List.set_cons_succ, List.getElem?_cons_zero, List.getElem?_cons_succ, Option.some.injEq, exists_eq_left', iteF, List.map_cons, List.map_nil, ht, and_true]
      rw [swB, h1, h2]; rfl
    | false =>
      simp only [wp_pure, w_seq, w_if, w_cmp, w_idx, w_var, w_cst, w_glo, w_blt, w_cons, w_nil, w_bin, w_cal, w_callk, w_not, w_set, w_setT, w_ret, w_exp, w_nx, w_rt, w_skip, w_flr, w_fln, wp_seal_dat, w_tup, w_lst, w_toDs_nil, w_toDs_cons, w_itee, w_isi, w_or, w_and, w_tb, w_comp, w_sseq, w_srng, w_sit, w_sil, wp_toDs, wipeD, w_slc, w_part0, w_part1, w_cutT, w_cutL, w_rep3, w_rep2L, w_isN, w_isnotN, w_listL, w_listT, w_tupl, w_tupt, w_len_t, w_len_l, w_eqI, w_eqB, w_neB, w_gt, w_lt, w_ge, w_le, w_add, w_par, w_parF, w_par3, w_par3F, w_snapD, w_snd, List.set_cons_zero, List.set_cons_succ, List.getElem?_cons_zero, List.getElem?_cons_succ, Option.some.injEq, exists_eq_left', iteF, List.map_cons, List.map_nil, Bool.not_false, ht, and_true]
      rw [swB, h1, h2]; rfl
  | false =>
    simp only [wp_pure, w_seq, w_if, w_cmp, w_idx, w_var, w_cst, w_glo, w_blt, w_cons, w_nil, w_bin, w_cal, w_callk, w_not, w_set, w_setT, w_ret, w_exp, w_nx, w_rt, w_skip, w_flr, w_fln, wp_seal_dat, w_tup, w_lst, w_toDs_nil, w_toDs_cons, w_itee, w_isi, w_or, w_and, w_tb, w_comp, w_sseq, w_srng, w_sit, w_sil, wp_toDs, wipeD, w_slc, w_part0, w_part1, w_cutT, w_cutL, w_rep3, w_rep2L, w_isN, w_isnotN, w_listL, w_listT, w_tupl, w_tupt, w_len_t, w_len_l, w_eqI, w_eqB, w_neB, w_gt, w_lt, w_ge, w_le, w_add, w_par, w_parF, w_par3, w_par3F, w_snapD, w_snd, List.set_cons_zero, List.set_cons_succ, List.getElem?_cons_zero, List.getElem?_cons_succ, Option.some.injEq, exists_eq_left', iteF, List.map_cons, List.map_nil]
    refine tail ?_
    simp only [wp_pure, w_seq, w_if, w_cmp, w_idx, w_var, w_cst, w_glo, w_blt, w_cons, w_nil, w_bin, w_cal, w_callk, w_not, w_set, w_setT, w_ret, w_exp, w_nx, w_rt, w_skip, w_flr, w_fln, wp_seal_dat, w_tup, w_lst, w_toDs_nil, w_toDs_cons, w_itee, w_isi, w_or, w_and, w_tb, w_comp, w_sseq, w_srng, w_sit, w_sil, wp_toDs, wipeD, w_slc, w_part0, w_part1, w_cutT, w_cutL, w_rep3, w_rep2L, w_isN, w_isnotN, w_listL, w_listT, w_tupl, w_tupt, w_len_t, w_len_l, w_eqI, w_eqB, w_neB, w_gt, w_lt, w_ge, w_le, w_add, w_par, w_parF, w_par3, w_par3F, w_snapD, w_snd, List.set_cons_zero, List.set_cons_succ, List.getElem?_cons_zero, List.getElem?_cons_succ, Option.some.injEq, exists_eq_left', iteF, List.map_cons, List.map_nil, ht, and_true]
    rw [swB, h1]; rfl
end
end K05
set_option Elab.async false
set_option linter.all false
set_option maxRecDepth 100000
set_option maxHeartbeats 1000000
/-! D5: states; within. -/
namespace G
open PySem
theorem comp_zip {cond : Env → M Bool} {elt : Env → M Val} {ρ : Env} {i j : Nat} {p : List D → List D → Bool} {μ : Sto} : ∀ (A B : List (List D)) (h : ∀ a ∈ A, ∀ b ∈ B, wp (cond ((ρ.set i (some (.dat (.tup a)))).set j (some (.dat (.tup b))))) (fun c μ' => c = true ∧ μ' = μ) μ ∧ wp (elt ((ρ.set i (some (.dat (.tup a)))).set j (some (.dat (.tup b))))) (fun v μ' => v = .dat (.bl (p a b)) ∧ μ' = μ) μ),
    wp (compM (.tp (.cons (.nm i) (.cons (.nm j) .nil))) cond elt ρ (zipD (A.map .tup) (B.map .tup))) (fun ys μ' => ys = (A.zip B).map (fun q => .bl (p q.1 q.2)) ∧ μ' = μ) μ
  | [], B, _ => by
    rw [List.map_nil, zipD, compM]
    · exact wp_pure.mpr ⟨rfl, rfl⟩
    · intro x xs y ys h; cases h
  | a :: A, [], _ => by
    rw [List.map_nil, List.map_cons, zipD, compM]
    · exact wp_pure.mpr ⟨rfl, rfl⟩
    · intro x xs y ys _ h; cases h
  | a :: A, b :: B, h => by
    rw [List.map_cons, List.map_cons, zipD]
    unfold compM
    obtain ⟨h1, h2⟩ := h a (List.mem_cons_self ..) b (List.mem_cons_self ..)
    simp only [asg, asgs, wp_bind, wp_some]
    refine h1.mono fun c μ1 ⟨e1, e2⟩ => ?_
    subst e1 e2
    simp only [wp_bind, wp_pure]
    refine h2.mono fun v μ2 ⟨e1, e2⟩ => ?_
    subst e1 e2
    simp only [toD, wp_pure]
    exact (comp_zip A B fun x hx y hy => h x (List.mem_cons_of_mem _ hx) y (List.mem_cons_of_mem _ hy)).mono fun ys μ2 ⟨q1, q2⟩ => ⟨by rw [List.zip_cons_cons, List.map_cons, q1], q2⟩
end G
namespace K05
open PySem G
/-- a state -/
structure SD where
  ids : List D
  A : List (List D)
  sw : List D
  at_ : D
def SD.d (s : SD) : D := .tup [.tup s.ids, .tup (s.A.map .tup), .tup s.sw, s.at_]
structure SD.Ok (s : SD) : Prop where
  ids : ∃ x y z : Int, s.ids = [.int x, .int y, .int z]
  A : ∀ a ∈ s.A, StrL a
  five : s.A.length = 5
  sw : StrL s.sw
  at_ : Flt 2 s.at_
theorem SD.Ok.idsF {s : SD} (h : s.Ok) : Flt 1 (.tup s.ids) := by
  obtain ⟨x, y, z, e⟩ := h.ids
  rw [e]
  refine .tup fun d hd => ?_
  simp only [List.mem_cons, List.mem_nil_iff, or_false] at hd
  rcases hd with rfl | rfl | rfl <;> exact .int
theorem SD.Ok.flt {s : SD} (h : s.Ok) : Flt 4 s.d := by
  refine .tup fun d hd => ?_
  simp only [List.mem_cons, List.mem_nil_iff, or_false] at hd
  rcases hd with rfl | rfl | rfl | rfl
  · exact h.idsF.mono (by decide)
  · refine Flt.mono (n := 2) (.tup fun d hd => ?_) (by decide)
    obtain ⟨a, ha, rfl⟩ := List.mem_map.mp hd
    exact .tup (h.A a ha).flt
  · exact Flt.mono (n := 1) (.tup h.sw.flt) (by decide)
  · exact h.at_.mono (by decide)
def partsB (s t : SD) : Bool := (s.A.zip t.A).all fun q => partB q.1 q.2
def withinB (s t : SD) : Bool := D.eqv (.tup s.ids) (.tup t.ids) && D.eqv s.at_ t.at_ && swB s.sw t.sw && partsB s t
section
variable {k : Nat} {μ : Sto} {s t : SD} {w1 w2 : D}
theorem within_ok (h1 : w1.own = true) (d1 : w1.dep < k + 1) (e1 : tupD w1 = s.d) (h2 : w2.own = true) (d2 : w2.dep < k + 1) (e2 : tupD w2 = t.d) (hs : s.Ok) (ht : t.Ok) :
    wp (callK Z.tab (k + 2) "within" [.dat w1, .dat w2]) (fun v μ' => v = .dat (.bl (withinB s t)) ∧ μ' = μ) μ := by
  have hμ : μ.take μ.length = μ := List.take_of_length_le (Nat.le_refl _)
  refine wp_call l_within rfl ?_
  show wp (G.exec _ f_within.body [some (.dat w1), some (.dat w2), none, none, none, none]) _ _
  simp only [f_within, wp_pure, w_seq, w_if, w_cmp, w_idx, w_var, w_cst, w_glo, w_blt, w_cons, w_nil, w_bin, w_cal, w_callk, w_not, w_set, w_setT, w_ret, w_exp, w_nx, w_rt, w_skip, w_flr, w_fln, wp_seal_dat, w_tup, w_lst, w_toDs_nil, w_toDs_cons, w_itee, w_isi, w_or, w_and, w_tb, w_comp, w_sseq, w_srng, w_sit, w_sil, wp_toDs, wipeD, w_slc, w_part0, w_part1, w_cutT, w_cutL, w_rep3, w_rep2L, w_isN, w_isnotN, w_listL, w_listT, w_tupl, w_tupt, w_len_t, w_len_l, w_eqI, w_eqB, w_neB, w_gt, w_lt, w_ge, w_le, w_add, w_par, w_parF, w_par3, w_par3F, w_snapD, w_snd, List.set_cons_zero, List.set_cons_succ, List.getElem?_cons_zero, List.getElem?_cons_succ, Option.some.injEq, exists_eq_left', iteF, List.map_cons, List.map_nil]
  refine (tupled_ok l_tupled (k + 1) w1 h1 d1 μ).mono fun v μ1 ⟨q1, q2⟩ => ?_
  subst q1 q2
  refine (tupled_ok l_tupled (k + 1) w2 h2 d2 _).mono fun v μ2 ⟨q1, q2⟩ => ?_
  subst q1 q2
  rw [e1, e2]
  have i0 : ∀ u : SD, L2.atI [.tup u.ids, .tup (u.A.map .tup), .tup u.sw, u.at_] 0 = some (.tup u.ids) := fun _ => rfl
  have i1 : ∀ u : SD, L2.atI [.tup u.ids, .tup (u.A.map .tup), .tup u.sw, u.at_] 1 = some (.tup (u.A.map .tup)) := fun _ => rfl
  have i2 : ∀ u : SD, L2.atI [.tup u.ids, .tup (u.A.map .tup), .tup u.sw, u.at_] 2 = some (.tup u.sw) := fun _ => rfl
  have i3 : ∀ u : SD, L2.atI [.tup u.ids, .tup (u.A.map .tup), .tup u.sw, u.at_] 3 = some u.at_ := fun _ => rfl
  simp only [SD.d, wp_pure, w_seq, w_if, w_cmp, w_idx, w_var, w_cst, w_glo, w_blt, w_cons, w_nil, w_bin, w_cal, w_callk, w_not, w_set, w_setT, w_ret, w_exp, w_nx, w_rt, w_skip, w_flr, w_fln, wp_seal_dat, w_tup, w_lst, w_toDs_nil, w_toDs_cons, w_itee, w_isi, w_or, w_and, w_tb, w_comp, w_sseq, w_srng, w_sit, w_sil, wp_toDs, wipeD, w_slc, w_part0, w_part1, w_cutT, w_cutL, w_rep3, w_rep2L, w_isN, w_isnotN, w_listL, w_listT, w_tupl, w_tupt, w_len_t, w_len_l, w_eqI, w_eqB, w_neB, w_gt, w_lt, w_ge, w_le, w_add, w_par, w_parF, w_par3, w_par3F, w_snapD, w_snd, List.set_cons_zero, List.set_cons_succ, List.getElem?_cons_zero, List.getElem?_cons_succ, Option.some.injEq, exists_eq_left', iteF, List.map_cons, List.map_nil, w_ix_t, i0, i3, i2, w_neD (hs.idsF.cmpb (by decide)) (ht.idsF.cmpb (by decide)), w_neD (hs.at_.cmpb (by decide)) (ht.at_.cmpb (by decide))]
  cases b1 : D.eqv (.tup s.ids) (.tup t.ids) with
  | false =>
    simp only [wp_pure, w_seq, w_if, w_cmp, w_idx, w_var, w_cst, w_glo, w_blt, w_cons, w_nil, w_bin, w_cal, w_callk, w_not, w_set, w_setT, w_ret, w_exp, w_nx, w_rt, w_skip, w_flr, w_fln, wp_seal_dat, w_tup, w_lst, w_toDs_nil, w_toDs_cons, w_itee, w_isi, w_or, w_and, w_tb, w_comp, w_sseq, w_srng, w_sit, w_sil, wp_toDs, wipeD, w_slc, w_part0, w_part1, w_cutT, w_cutL, w_rep3, w_rep2L, w_isN, w_isnotN, w_listL, w_listT, w_tupl, w_tupt, w_len_t, w_len_l, w_eqI, w_eqB, w_neB, w_gt, w_lt, w_ge, w_le, w_add, w_par, w_parF, w_par3, w_par3F, w_snapD, w_snd, List.set_cons_zero, List.set_cons_succ, List.getElem?_cons_zero, List.getElem?_cons_succ, Option.some.injEq, exists_eq_left', iteF, List.map_cons, List.map_nil, Bool.not_false, hμ, and_true]
    rw [withinB, b1]; rfl
  | true =>
    simp only [wp_pure, w_seq, w_if, w_cmp, w_idx, w_var, w_cst, w_glo, w_blt, w_cons, w_nil, w_bin, w_cal, w_callk, w_not, w_set, w_setT, w_ret, w_exp, w_nx, w_rt, w_skip, w_flr, w_fln, wp_seal_dat, w_tup, w_lst, w_toDs_nil, w_toDs_cons, w_itee, w_isi, w_or, w_and, w_tb, w_comp, w_sseq, w_srng, w_sit, w_sil, wp_toDs, wipeD, w_slc, w_part0, w_part1, w_cutT, w_cutL, w_rep3, w_rep2L, w_isN, w_isnotN, w_listL, w_listT, w_tupl, w_tupt, w_len_t, w_len_l, w_eqI, w_eqB, w_neB, w_gt, w_lt, w_ge, w_le, w_add, w_par, w_parF, w_par3, w_par3F, w_snapD, w_snd, List.set_cons_zero, List.set_cons_succ, List.getElem?_cons_zero, List.getElem?_cons_succ, Option.some.injEq, exists_eq_left', iteF, List.map_cons, List.map_nil, Bool.not_true, w_ix_t, i3, w_neD (hs.at_.cmpb (by decide)) (ht.at_.cmpb (by decide))]
    cases b2 : D.eqv s.at_ t.at_ with
    | false =>
      simp only [wp_pure, w_seq, w_if, w_cmp, w_idx, w_var, w_cst, w_glo, w_blt, w_cons, w_nil, w_bin, w_cal, w_callk, w_not, w_set, w_setT, w_ret, w_exp, w_nx, w_rt, w_skip, w_flr, w_fln, wp_seal_dat, w_tup, w_lst, w_toDs_nil, w_toDs_cons, w_itee, w_isi, w_or, w_and, w_tb, w_comp, w_sseq, w_srng, w_sit, w_sil, wp_toDs, wipeD, w_slc, w_part0, w_part1, w_cutT, w_cutL, w_rep3, w_rep2L, w_isN, w_isnotN, w_listL, w_listT, w_tupl, w_tupt, w_len_t, w_len_l, w_eqI, w_eqB, w_neB, w_gt, w_lt, w_ge, w_le, w_add, w_par, w_parF, w_par3, w_par3F, w_snapD, w_snd, List.set_cons_zero, List.set_cons_succ, List.getElem?_cons_zero, List.getElem?_cons_succ, Option.some.injEq, exists_eq_left', iteF, List.map_cons, List.map_nil, Bool.not_false, hμ, and_true]
      rw [withinB, b1, b2]; rfl
    | true =>
      simp only [wp_pure, w_seq, w_if, w_cmp, w_idx, w_var, w_cst, w_glo, w_blt, w_cons, w_nil, w_bin, w_cal, w_callk, w_not, w_set, w_setT, w_ret, w_exp, w_nx, w_rt, w_skip, w_flr, w_fln, wp_seal_dat, w_tup, w_lst, w_toDs_nil, w_toDs_cons, w_itee, w_isi, w_or, w_and, w_tb, w_comp, w_sseq, w_srng, w_sit, w_sil, wp_toDs, wipeD, w_slc, w_part0, w_part1, w_cutT, w_cutL, w_rep3, w_rep2L, w_isN, w_isnotN, w_listL, w_listT, w_tupl, w_tupt, w_len_t, w_len_l, w_eqI, w_eqB, w_neB, w_gt, w_lt, w_ge, w_le, w_add, w_par, w_parF, w_par3, w_par3F, w_snapD, w_snd, List.set_cons_zero, List.set_cons_succ, List.getElem?_cons_zero, List.getElem?_cons_succ, Option.some.injEq, exists_eq_left', iteF, List.map_cons, List.map_nil, Bool.not_true, w_ix_t, i2]
      refine (switched_ok hs.sw ht.sw).mono fun v μ3 ⟨q1, q2⟩ => ?_
      subst q1 q2
      cases b3 : swB s.sw t.sw with
      | false =>
        simp only [wp_pure, w_seq, w_if, w_cmp, w_idx, w_var, w_cst, w_glo, w_blt, w_cons, w_nil, w_bin, w_cal, w_callk, w_not, w_set, w_setT, w_ret, w_exp, w_nx, w_rt, w_skip, w_flr, w_fln, wp_seal_dat, w_tup, w_lst, w_toDs_nil, w_toDs_cons, w_itee, w_isi, w_or, w_and, w_tb, w_comp, w_sseq, w_srng, w_sit, w_sil, wp_toDs, wipeD, w_slc, w_part0, w_part1, w_cutT, w_cutL, w_rep3, w_rep2L, w_isN, w_isnotN, w_listL, w_listT, w_tupl, w_tupt, w_len_t, w_len_l, w_eqI, w_eqB, w_neB, w_gt, w_lt, w_ge, w_le, w_add, w_par, w_parF, w_par3, w_par3F, w_snapD, w_snd, List.set_cons_zero, List.set_cons_succ, List.getElem?_cons_zero, List.getElem?_cons_succ, Option.some.injEq, exists_eq_left', iteF, List.map_cons, List.map_nil, Bool.not_false, hμ, and_true]
        rw [withinB, b1, b2, b3]; rfl
      | true =>
        simp only [wp_pure, w_seq, w_if, w_cmp, w_idx, w_var, w_cst, w_glo, w_blt, w_cons, w_nil, w_bin, w_cal, w_callk, w_not, w_set, w_setT, w_ret, w_exp, w_nx, w_rt, w_skip, w_flr, w_fln, wp_seal_dat, w_tup, w_lst, w_toDs_nil, w_toDs_cons, w_itee, w_isi, w_or, w_and, w_tb, w_comp, w_sseq, w_srng, w_sit, w_sil, wp_toDs, wipeD, w_slc, w_part0, w_part1, w_cutT, w_cutL, w_rep3, w_rep2L, w_isN, w_isnotN, w_listL, w_listT, w_tupl, w_tupt, w_len_t, w_len_l, w_eqI, w_eqB, w_neB, w_gt, w_lt, w_ge, w_le, w_add, w_par, w_parF, w_par3, w_par3F, w_snapD, w_snd, List.set_cons_zero, List.set_cons_succ, List.getElem?_cons_zero, List.getElem?_cons_succ, Option.some.injEq, exists_eq_left', iteF, List.map_cons, List.map_nil, Bool.not_true, w_szip, w_ix_t, i1, w_snt, beq_self_eq_true, true_and]
        refine (comp_zip (p := partB) s.A t.A fun a ha b hb => ⟨?_, ?_⟩).mono fun ys μ3 ⟨q1, q2⟩ => ?_
        · simp only [wp_bind, wp_pure, w_seq, w_if, w_cmp, w_idx, w_var, w_cst, w_glo, w_blt, w_cons, w_nil, w_bin, w_cal, w_callk, w_not, w_set, w_setT, w_ret, w_exp, w_nx, w_rt, w_skip, w_flr, w_fln, wp_seal_dat, w_tup, w_lst, w_toDs_nil, w_toDs_cons, w_itee, w_isi, w_or, w_and, w_tb, w_comp, w_sseq, w_srng, w_sit, w_sil, wp_toDs, wipeD, w_slc, w_part0, w_part1, w_cutT, w_cutL, w_rep3, w_rep2L, w_isN, w_isnotN, w_listL, w_listT, w_tupl, w_tupt, w_len_t, w_len_l, w_eqI, w_eqB, w_neB, w_gt, w_lt, w_ge, w_le, w_add, w_par, w_parF, w_par3, w_par3F, w_snapD, w_snd, List.set_cons_zero, List.set_cons_succ, List.getElem?_cons_zero, List.getElem?_cons_succ, Option.some.injEq, exists_eq_left', iteF, List.map_cons, List.map_nil, and_self]
        · simp only [wp_pure, w_seq, w_if, w_cmp, w_idx, w_var, w_cst, w_glo, w_blt, w_cons, w_nil, w_bin, w_cal, w_callk, w_not, w_set, w_setT, w_ret, w_exp, w_nx, w_rt, w_skip, w_flr, w_fln, wp_seal_dat, w_tup, w_lst, w_toDs_nil, w_toDs_cons, w_itee, w_isi, w_or, w_and, w_tb, w_comp, w_sseq, w_srng, w_sit, w_sil, wp_toDs, wipeD, w_slc, w_part0, w_part1, w_cutT, w_cutL, w_rep3, w_rep2L, w_isN, w_isnotN, w_listL, w_listT, w_tupl, w_tupt, w_len_t, w_len_l, w_eqI, w_eqB, w_neB, w_gt, w_lt, w_ge, w_le, w_add, w_par, w_parF, w_par3, w_par3F, w_snapD, w_snd, List.set_cons_zero, List.set_cons_succ, List.getElem?_cons_zero, List.getElem?_cons_succ, Option.some.injEq, exists_eq_left', iteF, List.map_cons, List.map_nil]
          exact is_part_ok (hs.A a ha) (ht.A b hb)
        · subst q1 q2
          simp only [w_allM, wp_pure, w_seq, w_if, w_cmp, w_idx, w_var, w_cst, w_glo, w_blt, w_cons, w_nil, w_bin, w_cal, w_callk, w_not, w_set, w_setT, w_ret, w_exp, w_nx, w_rt, w_skip, w_flr, w_fln, wp_seal_dat, w_tup, w_lst, w_toDs_nil, w_toDs_cons, w_itee, w_isi, w_or, w_and, w_tb, w_comp, w_sseq, w_srng, w_sit, w_sil, wp_toDs, wipeD, w_slc, w_part0, w_part1, w_cutT, w_cutL, w_rep3, w_rep2L, w_isN, w_isnotN, w_listL, w_listT, w_tupl, w_tupt, w_len_t, w_len_l, w_eqI, w_eqB, w_neB, w_gt, w_lt, w_ge, w_le, w_add, w_par, w_parF, w_par3, w_par3F, w_snapD, w_snd, List.set_cons_zero, List.set_cons_succ, List.getElem?_cons_zero, List.getElem?_cons_succ, Option.some.injEq, exists_eq_left', iteF, List.map_cons, List.map_nil, hμ, and_true]
          rw [withinB, b1, b2, b3]; rfl
/-- what the law's own look finds bad at a word -/
def badW (s t : SD) (x : D) : Bool := (!(hasD s.sw x == hasD t.sw x)) && !(D.eqv x (.str "fast") && hasD s.sw x)
def dueB (s t : SD) : Bool := D.eqv (.tup s.ids) (.tup t.ids) && D.eqv s.at_ t.at_ && !sw5.any (badW s t) && (s.A.zip t.A).all fun q => D.eqv (.tup (q.1.filter fun x => !hasD q.2 x)) (.tup [])
theorem due_ok (hs : s.Ok) (ht : t.Ok) : wp (callK Z.tab (k + 2) "_law_due" [.dat s.d, .dat t.d]) (fun v μ' => v = .dat (.bl (dueB s t)) ∧ μ' = μ) μ := by
  have hμ : μ.take μ.length = μ := List.take_of_length_le (Nat.le_refl _)
  refine wp_call l_due rfl ?_
  show wp (G.exec _ f__law_due.body [some (.dat s.d), some (.dat t.d), none, none, none]) _ _
  have i0 : ∀ u : SD, L2.atI [.tup u.ids, .tup (u.A.map .tup), .tup u.sw, u.at_] 0 = some (.tup u.ids) := fun _ => rfl
  have i1 : ∀ u : SD, L2.atI [.tup u.ids, .tup (u.A.map .tup), .tup u.sw, u.at_] 1 = some (.tup (u.A.map .tup)) := fun _ => rfl
  have i2 : ∀ u : SD, L2.atI [.tup u.ids, .tup (u.A.map .tup), .tup u.sw, u.at_] 2 = some (.tup u.sw) := fun _ => rfl
  have i3 : ∀ u : SD, L2.atI [.tup u.ids, .tup (u.A.map .tup), .tup u.sw, u.at_] 3 = some u.at_ := fun _ => rfl
  simp only [f__law_due, SD.d, wp_pure, w_seq, w_if, w_cmp, w_idx, w_var, w_cst, w_glo, w_blt, w_cons, w_nil, w_bin, w_cal, w_callk, w_not, w_set, w_setT, w_ret, w_exp, w_nx, w_rt, w_skip, w_flr, w_fln, wp_seal_dat, w_tup, w_lst, w_toDs_nil, w_toDs_cons, w_itee, w_isi, w_or, w_and, w_tb, w_comp, w_sseq, w_srng, w_sit, w_sil, wp_toDs, wipeD, w_slc, w_part0, w_part1, w_cutT, w_cutL, w_rep3, w_rep2L, w_isN, w_isnotN, w_listL, w_listT, w_tupl, w_tupt, w_len_t, w_len_l, w_eqI, w_eqB, w_neB, w_gt, w_lt, w_ge, w_le, w_add, w_par, w_parF, w_par3, w_par3F, w_snapD, w_snd, List.set_cons_zero, List.set_cons_succ, List.getElem?_cons_zero, List.getElem?_cons_succ, Option.some.injEq, exists_eq_left', iteF, List.map_cons, List.map_nil, w_ix_t, i0, i3, w_neD (hs.idsF.cmpb (by decide)) (ht.idsF.cmpb (by decide)), w_neD (hs.at_.cmpb (by decide)) (ht.at_.cmpb (by decide))]
  cases b1 : D.eqv (.tup s.ids) (.tup t.ids) with
  | false =>
    simp only [wp_pure, w_seq, w_if, w_cmp, w_idx, w_var, w_cst, w_glo, w_blt, w_cons, w_nil, w_bin, w_cal, w_callk, w_not, w_set, w_setT, w_ret, w_exp, w_nx, w_rt, w_skip, w_flr, w_fln, wp_seal_dat, w_tup, w_lst, w_toDs_nil, w_toDs_cons, w_itee, w_isi, w_or, w_and, w_tb, w_comp, w_sseq, w_srng, w_sit, w_sil, wp_toDs, wipeD, w_slc, w_part0, w_part1, w_cutT, w_cutL, w_rep3, w_rep2L, w_isN, w_isnotN, w_listL, w_listT, w_tupl, w_tupt, w_len_t, w_len_l, w_eqI, w_eqB, w_neB, w_gt, w_lt, w_ge, w_le, w_add, w_par, w_parF, w_par3, w_par3F, w_snapD, w_snd, List.set_cons_zero, List.set_cons_succ, List.getElem?_cons_zero, List.getElem?_cons_succ, Option.some.injEq, exists_eq_left', iteF, List.map_cons, List.map_nil, Bool.not_false, hμ, and_true]
    rw [dueB, b1]; rfl
  | true =>
    simp only [wp_pure, w_seq, w_if, w_cmp, w_idx, w_var, w_cst, w_glo, w_blt, w_cons, w_nil, w_bin, w_cal, w_callk, w_not, w_set, w_setT, w_ret, w_exp, w_nx, w_rt, w_skip, w_flr, w_fln, wp_seal_dat, w_tup, w_lst, w_toDs_nil, w_toDs_cons, w_itee, w_isi, w_or, w_and, w_tb, w_comp, w_sseq, w_srng, w_sit, w_sil, wp_toDs, wipeD, w_slc, w_part0, w_part1, w_cutT, w_cutL, w_rep3, w_rep2L, w_isN, w_isnotN, w_listL, w_listT, w_tupl, w_tupt, w_len_t, w_len_l, w_eqI, w_eqB, w_neB, w_gt, w_lt, w_ge, w_le, w_add, w_par, w_parF, w_par3, w_par3F, w_snapD, w_snd, List.set_cons_zero, List.set_cons_succ, List.getElem?_cons_zero, List.getElem?_cons_succ, Option.some.injEq, exists_eq_left', iteF, List.map_cons, List.map_nil, Bool.not_true, w_ix_t, i3, w_neD (hs.at_.cmpb (by decide)) (ht.at_.cmpb (by decide))]
    cases b2 : D.eqv s.at_ t.at_ with
    | false =>
      simp only [wp_pure, w_seq, w_if, w_cmp, w_idx, w_var, w_cst, w_glo, w_blt, w_cons, w_nil, w_bin, w_cal, w_callk, w_not, w_set, w_setT, w_ret, w_exp, w_nx, w_rt, w_skip, w_flr, w_fln, wp_seal_dat, w_tup, w_lst, w_toDs_nil, w_toDs_cons, w_itee, w_isi, w_or, w_and, w_tb, w_comp, w_sseq, w_srng, w_sit, w_sil, wp_toDs, wipeD, w_slc, w_part0, w_part1, w_cutT, w_cutL, w_rep3, w_rep2L, w_isN, w_isnotN, w_listL, w_listT, w_tupl, w_tupt, w_len_t, w_len_l, w_eqI, w_eqB, w_neB, w_gt, w_lt, w_ge, w_le, w_add, w_par, w_parF, w_par3, w_par3F, w_snapD, w_snd, List.set_cons_zero, List.set_cons_succ, List.getElem?_cons_zero, List.getElem?_cons_succ, Option.some.injEq, exists_eq_left', iteF, List.map_cons, List.map_nil, Bool.not_false, hμ, and_true]
      rw [dueB, b1, b2]; rfl
    | true =>
      simp only [wp_pure, w_seq, w_if, w_cmp, w_idx, w_var, w_cst, w_glo, w_blt, w_cons, w_nil, w_bin, w_cal, w_callk, w_not, w_set, w_setT, w_ret, w_exp, w_nx, w_rt, w_skip, w_flr, w_fln, wp_seal_dat, w_tup, w_lst, w_toDs_nil, w_toDs_cons, w_itee, w_isi, w_or, w_and, w_tb, w_comp, w_sseq, w_srng, w_sit, w_sil, wp_toDs, wipeD, w_slc, w_part0, w_part1, w_cutT, w_cutL, w_rep3, w_rep2L, w_isN, w_isnotN, w_listL, w_listT, w_tupl, w_tupt, w_len_t, w_len_l, w_eqI, w_eqB, w_neB, w_gt, w_lt, w_ge, w_le, w_add, w_par, w_parF, w_par3, w_par3F, w_snapD, w_snd, List.set_cons_zero, List.set_cons_succ, List.getElem?_cons_zero, List.getElem?_cons_succ, Option.some.injEq, exists_eq_left', iteF, List.map_cons, List.map_nil, Bool.not_true, w_for]
      refine ⟨rfl, ?_⟩
      refine (for_search (J := fun ρ => ∃ a b c, ρ = [some (.dat s.d), some (.dat t.d), a, b, c]) (bad := badW s t) sw5 (fun x hx ρ ⟨a, b, c, e⟩ => ?_) _ ⟨none, none, none, rfl⟩).mono fun fl μ1 ⟨q0, q1⟩ => ?_
      · subst e
        have cx := (sw5_str.flt (n := 1) x hx).cmpb (by decide)
        refine ⟨_, by rw [asg], ?_⟩
        simp only [SD.d, wp_pure, w_seq, w_if, w_cmp, w_idx, w_var, w_cst, w_glo, w_blt, w_cons, w_nil, w_bin, w_cal, w_callk, w_not, w_set, w_setT, w_ret, w_exp, w_nx, w_rt, w_skip, w_flr, w_fln, wp_seal_dat, w_tup, w_lst, w_toDs_nil, w_toDs_cons, w_itee, w_isi, w_or, w_and, w_tb, w_comp, w_sseq, w_srng, w_sit, w_sil, wp_toDs, wipeD, w_slc, w_part0, w_part1, w_cutT, w_cutL, w_rep3, w_rep2L, w_isN, w_isnotN, w_listL, w_listT, w_tupl, w_tupt, w_len_t, w_len_l, w_eqI, w_eqB, w_neB, w_gt, w_lt, w_ge, w_le, w_add, w_par, w_parF, w_par3, w_par3F, w_snapD, w_snd, List.set_cons_zero, List.set_cons_succ, List.getElem?_cons_zero, List.getElem?_cons_succ, Option.some.injEq, exists_eq_left', iteF, List.map_cons, List.map_nil, w_ix_t, i2, w_inT cx (all_cmpb (hs.sw.flt (n := 1)) (by decide)), w_inT cx (all_cmpb (ht.sw.flt (n := 1)) (by decide))]
        cases c1 : hasD s.sw x == hasD t.sw x with
        | true =>
          simp only [wp_pure, w_seq, w_if, w_cmp, w_idx, w_var, w_cst, w_glo, w_blt, w_cons, w_nil, w_bin, w_cal, w_callk, w_not, w_set, w_setT, w_ret, w_exp, w_nx, w_rt, w_skip, w_flr, w_fln, wp_seal_dat, w_tup, w_lst, w_toDs_nil, w_toDs_cons, w_itee, w_isi, w_or, w_and, w_tb, w_comp, w_sseq, w_srng, w_sit, w_sil, wp_toDs, wipeD, w_slc, w_part0, w_part1, w_cutT, w_cutL, w_rep3, w_rep2L, w_isN, w_isnotN, w_listL, w_listT, w_tupl, w_tupt, w_len_t, w_len_l, w_eqI, w_eqB, w_neB, w_gt, w_lt, w_ge, w_le, w_add, w_par, w_parF, w_par3, w_par3F, w_snapD, w_snd, List.set_cons_zero, List.set_cons_succ, List.getElem?_cons_zero, List.getElem?_cons_succ, Option.some.injEq, exists_eq_left', iteF, List.map_cons, List.map_nil, Bool.not_true]
          refine ⟨trivial, ?_⟩
          rw [badW, c1]
          exact ⟨_, rfl, _, _, _, rfl⟩
        | false =>
          simp only [wp_pure, w_seq, w_if, w_cmp, w_idx, w_var, w_cst, w_glo, w_blt, w_cons, w_nil, w_bin, w_cal, w_callk, w_not, w_set, w_setT, w_ret, w_exp, w_nx, w_rt, w_skip, w_flr, w_fln, wp_seal_dat, w_tup, w_lst, w_toDs_nil, w_toDs_cons, w_itee, w_isi, w_or, w_and, w_tb, w_comp, w_sseq, w_srng, w_sit, w_sil, wp_toDs, wipeD, w_slc, w_part0, w_part1, w_cutT, w_cutL, w_rep3, w_rep2L, w_isN, w_isnotN, w_listL, w_listT, w_tupl, w_tupt, w_len_t, w_len_l, w_eqI, w_eqB, w_neB, w_gt, w_lt, w_ge, w_le, w_add, w_par, w_parF, w_par3, w_par3F, w_snapD, w_snd, List.set_cons_zero, List.set_cons_succ, List.getElem?_cons_zero, List.getElem?_cons_succ, Option.some.injEq, exists_eq_left', iteF, List.map_cons, List.map_nil, Bool.not_false, w_eqD cx (Flt.cmpb (n := 1) .str (by decide))]
          cases c2 : D.eqv x (.str "fast") with
          | false =>
            simp only [wp_pure, w_seq, w_if, w_cmp, w_idx, w_var, w_cst, w_glo, w_blt, w_cons, w_nil, w_bin, w_cal, w_callk, w_not, w_set, w_setT, w_ret, w_exp, w_nx, w_rt, w_skip, w_flr, w_fln, wp_seal_dat, w_tup, w_lst, w_toDs_nil, w_toDs_cons, w_itee, w_isi, w_or, w_and, w_tb, w_comp, w_sseq, w_srng, w_sit, w_sil, wp_toDs, wipeD, w_slc, w_part0, w_part1, w_cutT, w_cutL, w_rep3, w_rep2L, w_isN, w_isnotN, w_listL, w_listT, w_tupl, w_tupt, w_len_t, w_len_l, w_eqI, w_eqB, w_neB, w_gt, w_lt, w_ge, w_le, w_add, w_par, w_parF, w_par3, w_par3F, w_snapD, w_snd, List.set_cons_zero, List.set_cons_succ, List.getElem?_cons_zero, List.getElem?_cons_succ, Option.some.injEq, exists_eq_left', iteF, List.map_cons, List.map_nil, Bool.not_false]
            refine ⟨trivial, ?_⟩
            rw [badW, c1, c2]
            simp
          | true =>
            simp only [wp_pure, w_seq, w_if, w_cmp, w_idx, w_var, w_cst, w_glo, w_blt, w_cons, w_nil, w_bin, w_cal, w_callk, w_not, w_set, w_setT, w_ret, w_exp, w_nx, w_rt, w_skip, w_flr, w_fln, wp_seal_dat, w_tup, w_lst, w_toDs_nil, w_toDs_cons, w_itee, w_isi, w_or, w_and, w_tb, w_comp, w_sseq, w_srng, w_sit, w_sil, wp_toDs, wipeD, w_slc, w_part0, w_part1, w_cutT, w_cutL, w_rep3, w_rep2L, w_isN, w_isnotN, w_listL, w_listT, w_tupl, w_tupt, w_len_t, w_len_l, w_eqI, w_eqB, w_neB, w_gt, w_lt, w_ge, w_le, w_add, w_par, w_parF, w_par3, w_par3F, w_snapD, w_snd, List.set_cons_zero, List.set_cons_succ, List.getElem?_cons_zero, List.getElem?_cons_succ, Option.some.injEq, exists_eq_left', iteF, List.map_cons, List.map_nil]
            cases c3 : hasD s.sw x with
            | true =>
              simp only [wp_pure, w_seq, w_if, w_cmp, w_idx, w_var, w_cst, w_glo, w_blt, w_cons, w_nil, w_bin, w_cal, w_callk, w_not, w_set, w_setT, w_ret, w_exp, w_nx, w_rt, w_skip, w_flr, w_fln, wp_seal_dat, w_tup, w_lst, w_toDs_nil, w_toDs_cons, w_itee, w_isi, w_or, w_and, w_tb, w_comp, w_sseq, w_srng, w_sit, w_sil, wp_toDs, wipeD, w_slc, w_part0, w_part1, w_cutT, w_cutL, w_rep3, w_rep2L, w_isN, w_isnotN, w_listL, w_listT, w_tupl, w_tupt, w_len_t, w_len_l, w_eqI, w_eqB, w_neB, w_gt, w_lt, w_ge, w_le, w_add, w_par, w_parF, w_par3, w_par3F, w_snapD, w_snd, List.set_cons_zero, List.set_cons_succ, List.getElem?_cons_zero, List.getElem?_cons_succ, Option.some.injEq, exists_eq_left', iteF, List.map_cons, List.map_nil, Bool.not_true]
              refine ⟨trivial, ?_⟩
              rw [badW, c1, c2, c3]
              exact ⟨_, rfl, _, _, _, rfl⟩
            | false =>
              simp only [wp_pure, w_seq, w_if, w_cmp, w_idx, w_var, w_cst, w_glo, w_blt, w_cons, w_nil, w_bin, w_cal, w_callk, w_not, w_set, w_setT, w_ret, w_exp, w_nx, w_rt, w_skip, w_flr, w_fln, wp_seal_dat, w_tup, w_lst, w_toDs_nil, w_toDs_cons, w_itee, w_isi, w_or, w_and, w_tb, w_comp, w_sseq, w_srng, w_sit, w_sil, wp_toDs, wipeD, w_slc, w_part0, w_part1, w_cutT, w_cutL, w_rep3, w_rep2L, w_isN, w_isnotN, w_listL, w_listT, w_tupl, w_tupt, w_len_t, w_len_l, w_eqI, w_eqB, w_neB, w_gt, w_lt, w_ge, w_le, w_add, w_par, w_parF, w_par3, w_par3F, w_snapD, w_snd, List.set_cons_zero, List.set_cons_succ, List.getElem?_cons_zero, List.getElem?_cons_succ, Option.some.injEq, exists_eq_left', iteF, List.map_cons, List.map_nil, Bool.not_false]
              refine ⟨trivial, ?_⟩
              rw [badW, c1, c2, c3]
              simp
      · subst q0
        cases b3 : sw5.any (badW s t) with
        | true =>
          rw [b3, if_pos rfl] at q1
          subst q1
          simp only [wp_pure, w_seq, w_if, w_cmp, w_idx, w_var, w_cst, w_glo, w_blt, w_cons, w_nil, w_bin, w_cal, w_callk, w_not, w_set, w_setT, w_ret, w_exp, w_nx, w_rt, w_skip, w_flr, w_fln, wp_seal_dat, w_tup, w_lst, w_toDs_nil, w_toDs_cons, w_itee, w_isi, w_or, w_and, w_tb, w_comp, w_sseq, w_srng, w_sit, w_sil, wp_toDs, wipeD, w_slc, w_part0, w_part1, w_cutT, w_cutL, w_rep3, w_rep2L, w_isN, w_isnotN, w_listL, w_listT, w_tupl, w_tupt, w_len_t, w_len_l, w_eqI, w_eqB, w_neB, w_gt, w_lt, w_ge, w_le, w_add, w_par, w_parF, w_par3, w_par3F, w_snapD, w_snd, List.set_cons_zero, List.set_cons_succ, List.getElem?_cons_zero, List.getElem?_cons_succ, Option.some.injEq, exists_eq_left', iteF, List.map_cons, List.map_nil, hμ, and_true]
          rw [dueB, b1, b2, b3]; rfl
        | false =>
          rw [b3, if_neg (by decide)] at q1
          obtain ⟨_, rfl, a, b, c, rfl⟩ := q1
          simp only [SD.d, wp_pure, w_seq, w_if, w_cmp, w_idx, w_var, w_cst, w_glo, w_blt, w_cons, w_nil, w_bin, w_cal, w_callk, w_not, w_set, w_setT, w_ret, w_exp, w_nx, w_rt, w_skip, w_flr, w_fln, wp_seal_dat, w_tup, w_lst, w_toDs_nil, w_toDs_cons, w_itee, w_isi, w_or, w_and, w_tb, w_comp, w_sseq, w_srng, w_sit, w_sil, wp_toDs, wipeD, w_slc, w_part0, w_part1, w_cutT, w_cutL, w_rep3, w_rep2L, w_isN, w_isnotN, w_listL, w_listT, w_tupl, w_tupt, w_len_t, w_len_l, w_eqI, w_eqB, w_neB, w_gt, w_lt, w_ge, w_le, w_add, w_par, w_parF, w_par3, w_par3F, w_snapD, w_snd, List.set_cons_zero, List.set_cons_succ, List.getElem?_cons_zero, List.getElem?_cons_succ, Option.some.injEq, exists_eq_left', iteF, List.map_cons, List.map_nil, w_szip, w_ix_t, i1, w_snt, beq_self_eq_true, true_and]
          refine (comp_zip (p := fun a b => D.eqv (.tup (a.filter fun x => !hasD b x)) (.tup [])) s.A t.A fun a ha b hb => ⟨?_, ?_⟩).mono fun ys μ3 ⟨q1, q2⟩ => ?_
          · simp only [wp_bind, wp_pure, w_seq, w_if, w_cmp, w_idx, w_var, w_cst, w_glo, w_blt, w_cons, w_nil, w_bin, w_cal, w_callk, w_not, w_set, w_setT, w_ret, w_exp, w_nx, w_rt, w_skip, w_flr, w_fln, wp_seal_dat, w_tup, w_lst, w_toDs_nil, w_toDs_cons, w_itee, w_isi, w_or, w_and, w_tb, w_comp, w_sseq, w_srng, w_sit, w_sil, wp_toDs, wipeD, w_slc, w_part0, w_part1, w_cutT, w_cutL, w_rep3, w_rep2L, w_isN, w_isnotN, w_listL, w_listT, w_tupl, w_tupt, w_len_t, w_len_l, w_eqI, w_eqB, w_neB, w_gt, w_lt, w_ge, w_le, w_add, w_par, w_parF, w_par3, w_par3F, w_snapD, w_snd, List.set_cons_zero, List.set_cons_succ, List.getElem?_cons_zero, List.getElem?_cons_succ, Option.some.injEq, exists_eq_left', iteF, List.map_cons, List.map_nil, and_self]
          · simp only [wp_pure, w_seq, w_if, w_cmp, w_idx, w_var, w_cst, w_glo, w_blt, w_cons, w_nil, w_bin, w_cal, w_callk, w_not, w_set, w_setT, w_ret, w_exp, w_nx, w_rt, w_skip, w_flr, w_fln, wp_seal_dat, w_tup, w_lst, w_toDs_nil, w_toDs_cons, w_itee, w_isi, w_or, w_and, w_tb, w_comp, w_sseq, w_srng, w_sit, w_sil, wp_toDs, wipeD, w_slc, w_part0, w_part1, w_cutT, w_cutL, w_rep3, w_rep2L, w_isN, w_isnotN, w_listL, w_listT, w_tupl, w_tupt, w_len_t, w_len_l, w_eqI, w_eqB, w_neB, w_gt, w_lt, w_ge, w_le, w_add, w_par, w_parF, w_par3, w_par3F, w_snapD, w_snd, List.set_cons_zero, List.set_cons_succ, List.getElem?_cons_zero, List.getElem?_cons_succ, Option.some.injEq, exists_eq_left', iteF, List.map_cons, List.map_nil]
            refine (less_ok (hs.A a ha) (ht.A b hb)).mono fun v μ4 ⟨q1, q2⟩ => ?_
            subst q1 q2
            refine ⟨rfl, ?_⟩
            rw [w_eqD (Flt.cmpb (n := 1) (.tup ((hs.A a ha).sub List.filter_sublist).flt) (by decide)) (by decide)]
            exact ⟨rfl, rfl⟩
          · subst q1 q2
            simp only [w_allM, wp_pure, w_seq, w_if, w_cmp, w_idx, w_var, w_cst, w_glo, w_blt, w_cons, w_nil, w_bin, w_cal, w_callk, w_not, w_set, w_setT, w_ret, w_exp, w_nx, w_rt, w_skip, w_flr, w_fln, wp_seal_dat, w_tup, w_lst, w_toDs_nil, w_toDs_cons, w_itee, w_isi, w_or, w_and, w_tb, w_comp, w_sseq, w_srng, w_sit, w_sil, wp_toDs, wipeD, w_slc, w_part0, w_part1, w_cutT, w_cutL, w_rep3, w_rep2L, w_isN, w_isnotN, w_listL, w_listT, w_tupl, w_tupt, w_len_t, w_len_l, w_eqI, w_eqB, w_neB, w_gt, w_lt, w_ge, w_le, w_add, w_par, w_parF, w_par3, w_par3F, w_snapD, w_snd, List.set_cons_zero, List.set_cons_succ, List.getElem?_cons_zero, List.getElem?_cons_succ, Option.some.injEq, exists_eq_left', iteF, List.map_cons, List.map_nil, hμ, and_true]
            rw [dueB, b1, b2, b3]; rfl
theorem eqv_nil (l : List D) : D.eqv (.tup l) (.tup []) = l.isEmpty := by
  cases l <;> simp [D.eqv, D.eqvs]
theorem filt_nil {p : D → Bool} (l : List D) : (l.filter fun x => !p x).isEmpty = l.all p := by
  induction l with
  | nil => rfl
  | cons x l ih =>
    rw [List.all_cons]
    cases h : p x with
    | true => rw [List.filter_cons_of_neg (by simp [h]), ih]; rfl
    | false => rw [List.filter_cons_of_pos (by simp [h])]; rfl
theorem due_within (s t : SD) : dueB s t = withinB s t := by
  have e1 : (s.A.zip t.A).all (fun q => D.eqv (.tup (q.1.filter fun x => !hasD q.2 x)) (.tup [])) = partsB s t := by
    unfold partsB partB
    congr 1
    funext q
    rw [eqv_nil, filt_nil]
  have f1 : D.eqv (.str "fast") (.str "fast") = true := by rfl
  have f2 : D.eqv (.str "keep") (.str "fast") = false := by rfl
  have f3 : D.eqv (.str "nonew") (.str "fast") = false := by rfl
  have f4 : D.eqv (.str "plain") (.str "fast") = false := by rfl
  have f5 : D.eqv (.str "steady") (.str "fast") = false := by rfl
  have e2 : (!sw5.any (badW s t)) = swB s.sw t.sw := by
    unfold swB sw5 badW
    simp only [List.any_cons, List.any_nil, List.all_cons, List.all_nil, f1, f2, f3, f4, f5]
    cases hasD s.sw (.str "fast") <;> cases hasD t.sw (.str "fast") <;> simp
  rw [dueB, withinB, e1, e2]
end
end K05
set_option Elab.async false
set_option linter.all false
set_option maxRecDepth 100000
set_option maxHeartbeats 1000000
/-! D6: drawn worlds. -/
namespace G
open PySem
section
variable {T : Tab} (hT : T.lookup ("_law_take" : Str) = some C_law_take) (hF : T.lookup ("_law_few" : Str) = some C_law_few)
include hT hF
theorem few_okL {k n β : Nat} {ds : List D} {o : Int} (h1 : 0 < o) (h2 : o < 1000) {μ : Sto} (B : Box β (n + ds.length) μ) : wp (callK T (k + 2) "_law_few" [.ref β, .dat (.lst ds), .dat (.int o)]) (fun v μ' => ∃ ys, v = .dat (.tup ys) ∧ ys.Sublist ds ∧ Stp β n μ μ') μ := by
  refine wp_call hF rfl ?_
  show wp (G.exec _ C_law_few.body [some (.ref β), some (.dat (.lst ds)), some (.dat (.int o)), none]) _ _
  simp only [C_law_few, wp_pure, w_seq, w_if, w_cmp, w_idx, w_var, w_cst, w_glo, w_blt, w_cons, w_nil, w_bin, w_cal, w_callk, w_not, w_set, w_setT, w_ret, w_exp, w_nx, w_rt, w_skip, w_flr, w_fln, wp_seal_dat, w_tup, w_lst, w_toDs_nil, w_toDs_cons, w_itee, w_isi, w_or, w_and, w_tb, w_comp, w_sseq, w_srng, w_sit, w_sil, wp_toDs, wipeD, w_slc, w_part0, w_part1, w_cutT, w_cutL, w_rep3, w_rep2L, w_isN, w_isnotN, w_listL, w_listT, w_tupl, w_tupt, w_len_t, w_len_l, w_eqI, w_eqB, w_neB, w_gt, w_lt, w_ge, w_le, w_add, w_par, w_parF, w_par3, w_par3F, w_snapD, w_snd, List.set_cons_zero, List.set_cons_succ, List.getElem?_cons_zero, List.getElem?_cons_succ, Option.some.injEq, exists_eq_left', iteF, List.map_cons, List.map_nil]
  refine (comp_filter (β := β) (t := 1) (fun x μ => ?_) ds (fun x _ n μ B => ?_) n μ (by rw [Nat.one_mul]; exact B)).mono fun ys μ' ⟨q1, q2⟩ => ?_
  · simp only [wp_pure, w_seq, w_if, w_cmp, w_idx, w_var, w_cst, w_glo, w_blt, w_cons, w_nil, w_bin, w_cal, w_callk, w_not, w_set, w_setT, w_ret, w_exp, w_nx, w_rt, w_skip, w_flr, w_fln, wp_seal_dat, w_tup, w_lst, w_toDs_nil, w_toDs_cons, w_itee, w_isi, w_or, w_and, w_tb, w_comp, w_sseq, w_srng, w_sit, w_sil, wp_toDs, wipeD, w_slc, w_part0, w_part1, w_cutT, w_cutL, w_rep3, w_rep2L, w_isN, w_isnotN, w_listL, w_listT, w_tupl, w_tupt, w_len_t, w_len_l, w_eqI, w_eqB, w_neB, w_gt, w_lt, w_ge, w_le, w_add, w_par, w_parF, w_par3, w_par3F, w_snapD, w_snd, List.set_cons_zero, List.set_cons_succ, List.getElem?_cons_zero, List.getElem?_cons_succ, Option.some.injEq, exists_eq_left', iteF, List.map_cons, List.map_nil, and_self]
  · simp only [wp_bind, wp_pure, w_seq, w_if, w_cmp, w_idx, w_var, w_cst, w_glo, w_blt, w_cons, w_nil, w_bin, w_cal, w_callk, w_not, w_set, w_setT, w_ret, w_exp, w_nx, w_rt, w_skip, w_flr, w_fln, wp_seal_dat, w_tup, w_lst, w_toDs_nil, w_toDs_cons, w_itee, w_isi, w_or, w_and, w_tb, w_comp, w_sseq, w_srng, w_sit, w_sil, wp_toDs, wipeD, w_slc, w_part0, w_part1, w_cutT, w_cutL, w_rep3, w_rep2L, w_isN, w_isnotN, w_listL, w_listT, w_tupl, w_tupt, w_len_t, w_len_l, w_eqI, w_eqB, w_neB, w_gt, w_lt, w_ge, w_le, w_add, w_par, w_parF, w_par3, w_par3F, w_snapD, w_snd, List.set_cons_zero, List.set_cons_succ, List.getElem?_cons_zero, List.getElem?_cons_succ, Option.some.injEq, exists_eq_left', iteF, List.map_cons, List.map_nil]
    refine (take_st hT h1 h2 B).mono fun v μ' ⟨r, e, _, _, st⟩ => ?_
    subst e
    simp only [wp_pure, w_seq, w_if, w_cmp, w_idx, w_var, w_cst, w_glo, w_blt, w_cons, w_nil, w_bin, w_cal, w_callk, w_not, w_set, w_setT, w_ret, w_exp, w_nx, w_rt, w_skip, w_flr, w_fln, wp_seal_dat, w_tup, w_lst, w_toDs_nil, w_toDs_cons, w_itee, w_isi, w_or, w_and, w_tb, w_comp, w_sseq, w_srng, w_sit, w_sil, wp_toDs, wipeD, w_slc, w_part0, w_part1, w_cutT, w_cutL, w_rep3, w_rep2L, w_isN, w_isnotN, w_listL, w_listT, w_tupl, w_tupt, w_len_t, w_len_l, w_eqI, w_eqB, w_neB, w_gt, w_lt, w_ge, w_le, w_add, w_par, w_parF, w_par3, w_par3F, w_snapD, w_snd, List.set_cons_zero, List.set_cons_succ, List.getElem?_cons_zero, List.getElem?_cons_succ, Option.some.injEq, exists_eq_left', iteF, List.map_cons, List.map_nil]
    exact st
  · simp only [wp_pure, w_seq, w_if, w_cmp, w_idx, w_var, w_cst, w_glo, w_blt, w_cons, w_nil, w_bin, w_cal, w_callk, w_not, w_set, w_setT, w_ret, w_exp, w_nx, w_rt, w_skip, w_flr, w_fln, wp_seal_dat, w_tup, w_lst, w_toDs_nil, w_toDs_cons, w_itee, w_isi, w_or, w_and, w_tb, w_comp, w_sseq, w_srng, w_sit, w_sil, wp_toDs, wipeD, w_slc, w_part0, w_part1, w_cutT, w_cutL, w_rep3, w_rep2L, w_isN, w_isnotN, w_listL, w_listT, w_tupl, w_tupt, w_len_t, w_len_l, w_eqI, w_eqB, w_neB, w_gt, w_lt, w_ge, w_le, w_add, w_par, w_parF, w_par3, w_par3F, w_snapD, w_snd, List.set_cons_zero, List.set_cons_succ, List.getElem?_cons_zero, List.getElem?_cons_succ, Option.some.injEq, exists_eq_left', iteF, List.map_cons, List.map_nil, q2.take]
    exact ⟨ys, rfl, q1, q2⟩
end
/-- if c: return e -/
theorem w_guard {φ : Str → List Val → M Val} {ρ : Env} {μ : Sto} {QF : Fl → Sto → Prop} {c e : Ex} {rest : St} {b : Bool} (hc : wp (ev φ c ρ) (fun v μ' => v = .dat (.bl b) ∧ μ' = μ) μ) (h1 : b = true → wp (ev φ e ρ) (fun v μ1 => QF (.rt v) μ1) μ) (h2 : b = false → wp (exec φ rest ρ) QF μ) :
    wp (exec φ (.seq (.ite c (.seq (.ret e) .skip) .skip) rest) ρ) QF μ := by
  rw [w_seq, w_if]
  refine hc.mono fun v μ1 ⟨q1, q2⟩ => ?_
  subst q1 q2
  rw [w_tb]
  cases b with
  | true =>
    rw [iteF, w_seq, w_ret]
    exact (h1 rfl).mono fun v μ2 h => w_rt.mpr (w_rt.mpr h)
  | false =>
    rw [iteF, w_skip, w_nx]
    exact h2 rfl
theorem Stp.box {β n : Nat} {μ μ' : Sto} (h : Stp β n μ μ') : Box β n μ' := h.2
theorem Stp.less {β n m : Nat} {μ μ' : Sto} (h : Stp β n μ μ') (l : m ≤ n) : Stp β m μ μ' := ⟨h.1, h.2.less l⟩
theorem Stp.takeN {β n : Nat} {μ μ' : Sto} {k : Nat} (h : Stp β n μ μ') (e : k = μ.length) : μ'.take k = μ' := by rw [e]; exact h.take
end G
namespace K05
open PySem G
theorem l_act : Z.tab.lookup ("_law_act" : Str) = some f__law_act := by rfl
theorem l_file : Z.tab.lookup ("_law_file" : Str) = some f__law_file := by rfl
theorem l_drawn : Z.tab.lookup ("_law_drawn" : Str) = some f__law_drawn := by rfl
theorem l_folk : Z.tab.lookup ("_law_folk" : Str) = some f__law_folk := by rfl
theorem l_pool : Z.tab.lookup ("_law_pool" : Str) = some f__law_pool := by rfl
theorem l_whole : Z.tab.lookup ("_law_whole" : Str) = some f__law_whole := by rfl
theorem l_stand : Z.tab.lookup ("_law_stand" : Str) = some f__law_stand := by rfl
theorem l_spot : Z.tab.lookup ("_law_spot" : Str) = some f__law_spot := by rfl
/-- users, rights, names -/
structure Fk (us : List D) : Prop where
  int : ∀ d ∈ us, ∃ i : Int, d = .int i
  ne : us ≠ []
  len : us.length ≤ 3
structure Pl (rs : List D) : Prop where
  str : StrL rs
  len : rs.length ≤ 8
theorem Fk.flt {us : List D} {n : Nat} (h : Fk us) : ∀ d ∈ us, Flt n d := fun d hd => by
  obtain ⟨i, rfl⟩ := h.int d hd
  exact .int
section
variable {k n β : Nat} {μ : Sto} {us rs ts : List D}
theorem act_ok (hu : Fk us) (hr : Pl rs) (ht : Pl ts) (B : Box β (n + 40) μ) : wp (callK Z.tab (k + 3) "_law_act" [.ref β, .dat (.tup us), .dat (.tup rs), .dat (.tup ts)]) (fun v μ' => ∃ y, v = .dat y ∧ Flt 2 y ∧ Stp β n μ μ') μ := by
  have hul := hu.len
  have hrl := hr.len
  have htl := ht.len
  have cr : (D.tup rs).cmpb = true := Flt.cmpb (n := 1) (.tup hr.str.flt) (by decide)
  have ct : (D.tup ts).cmpb = true := Flt.cmpb (n := 1) (.tup ht.str.flt) (by decide)
  have cn : (D.tup []).cmpb = true := by decide
  refine wp_call l_act rfl ?_
  show wp (G.exec _ f__law_act.body [some (.ref β), some (.dat (.tup us)), some (.dat (.tup rs)), some (.dat (.tup ts)), none, none, none, none]) _ _
  simp only [f__law_act]
  rw [w_seq, w_set, w_cal]
  simp only [w_cons, w_nil, w_var, w_cst, List.getElem?_cons_zero, List.getElem?_cons_succ, Option.some.injEq, exists_eq_left']
  refine (take_st l_take (n := n + 39) (by decide) (by decide) (B.less (by omega))).mono fun v μ1 ⟨r, e, r1, r2, st⟩ => ?_
  subst e
  rw [w_nx]
  simp only [List.set_cons_zero, List.set_cons_succ]
  have fin : ∀ {y : D} {m : Nat} {μ2 : Sto}, Flt 2 y → Stp β m μ1 μ2 → n ≤ m → ∃ z, Val.dat y = .dat z ∧ Flt 2 z ∧ Stp β n μ (μ2.take μ.length) := fun {y m μ2} hy s2 hm => by
    have s3 := st.trans (s2.less hm)
    rw [s3.take]
    exact ⟨y, rfl, hy, s3⟩
  have c3 : ∀ {Q : Val → Sto → Prop} {μ : Sto} (l : List D), StrL l → (wp (opCmp .ne (.dat (.tup l)) (.dat (.tup []))) Q μ ↔ Q (.dat (.bl (!l.isEmpty))) μ) := fun {Q μ} l hl => by rw [w_neD (Flt.cmpb (n := 1) (.tup hl.flt) (by decide)) (by decide), eqv_nil]
  have o1 : ∀ {l : List D} {m : Nat} {μ2 : Sto}, Pl l → l.isEmpty = false → Box β (m + 1) μ2 → wp (callK Z.tab (k + 2) "_law_of" [.ref β, .dat (.tup l)]) (fun v μ' => ∃ x, v = .dat (.str x) ∧ Stp β m μ2 μ') μ2 := fun {l m μ2} hl he hB =>
    (of_t l_take l_of (by rintro rfl; cases he) (by have := hl.len; omega) hB).mono fun v μ' ⟨d, e, hd, s⟩ => by
      obtain ⟨x, rfl⟩ := hl.str d hd
      exact ⟨x, e, s⟩
  have two : ∀ x y : Str, Flt 2 (.tup [.str x, .str y]) := fun x y => Flt.mono (n := 1) (.tup fun d hd => by
    simp only [List.mem_cons, List.mem_nil_iff, or_false] at hd
    rcases hd with rfl | rfl <;> exact .str) (by decide)
  refine w_guard (b := decide (r < 3)) (by simp only [wp_pure, w_seq, w_if, w_cmp, w_idx, w_var, w_cst, w_glo, w_blt, w_cons, w_nil, w_bin, w_cal, w_callk, w_not, w_set, w_setT, w_ret, w_exp, w_nx, w_rt, w_skip, w_flr, w_fln, wp_seal_dat, w_tup, w_lst, w_toDs_nil, w_toDs_cons, w_itee, w_isi, w_or, w_and, w_tb, w_comp, w_sseq, w_srng, w_sit, w_sil, wp_toDs, wipeD, w_slc, w_part0, w_part1, w_cutT, w_cutL, w_rep3, w_rep2L, w_isN, w_isnotN, w_listL, w_listT, w_tupl, w_tupt, w_len_t, w_len_l, w_eqI, w_eqB, w_neB, w_gt, w_lt, w_ge, w_le, w_add, w_par, w_parF, w_par3, w_par3F, w_snapD, w_snd, List.set_cons_zero, List.set_cons_succ, List.getElem?_cons_zero, List.getElem?_cons_succ, Option.some.injEq, exists_eq_left', iteF, List.map_cons, List.map_nil, and_self]) (fun _ => ?_) fun _ => ?_
  · simp only [wp_pure, w_seq, w_if, w_cmp, w_idx, w_var, w_cst, w_glo, w_blt, w_cons, w_nil, w_bin, w_cal, w_callk, w_not, w_set, w_setT, w_ret, w_exp, w_nx, w_rt, w_skip, w_flr, w_fln, wp_seal_dat, w_tup, w_lst, w_toDs_nil, w_toDs_cons, w_itee, w_isi, w_or, w_and, w_tb, w_comp, w_sseq, w_srng, w_sit, w_sil, wp_toDs, wipeD, w_slc, w_part0, w_part1, w_cutT, w_cutL, w_rep3, w_rep2L, w_isN, w_isnotN, w_listL, w_listT, w_tupl, w_tupt, w_len_t, w_len_l, w_eqI, w_eqB, w_neB, w_gt, w_lt, w_ge, w_le, w_add, w_par, w_parF, w_par3, w_par3F, w_snapD, w_snd, List.set_cons_zero, List.set_cons_succ, List.getElem?_cons_zero, List.getElem?_cons_succ, Option.some.injEq, exists_eq_left', iteF, List.map_cons, List.map_nil, w_rng]
    refine ⟨rfl, rfl, ?_⟩
    refine (comp_map (β := β) (t := 1) (P := fun _ y => y ∈ D.non :: us) (fun x μ => ?_) (rangeD 3) (fun x _ m μ B => ?_) (n + 36) μ1 (by show Box β (n + 36 + 1 * 3) μ1; exact st.box)).mono fun ys μ2 ⟨q1, q2, q3⟩ => ?_
    · simp only [wp_bind, wp_pure, w_seq, w_if, w_cmp, w_idx, w_var, w_cst, w_glo, w_blt, w_cons, w_nil, w_bin, w_cal, w_callk, w_not, w_set, w_setT, w_ret, w_exp, w_nx, w_rt, w_skip, w_flr, w_fln, wp_seal_dat, w_tup, w_lst, w_toDs_nil, w_toDs_cons, w_itee, w_isi, w_or, w_and, w_tb, w_comp, w_sseq, w_srng, w_sit, w_sil, wp_toDs, wipeD, w_slc, w_part0, w_part1, w_cutT, w_cutL, w_rep3, w_rep2L, w_isN, w_isnotN, w_listL, w_listT, w_tupl, w_tupt, w_len_t, w_len_l, w_eqI, w_eqB, w_neB, w_gt, w_lt, w_ge, w_le, w_add, w_par, w_parF, w_par3, w_par3F, w_snapD, w_snd, List.set_cons_zero, List.set_cons_succ, List.getElem?_cons_zero, List.getElem?_cons_succ, Option.some.injEq, exists_eq_left', iteF, List.map_cons, List.map_nil, and_self]
    · simp only [wp_pure, w_seq, w_if, w_cmp, w_idx, w_var, w_cst, w_glo, w_blt, w_cons, w_nil, w_bin, w_cal, w_callk, w_not, w_set, w_setT, w_ret, w_exp, w_nx, w_rt, w_skip, w_flr, w_fln, wp_seal_dat, w_tup, w_lst, w_toDs_nil, w_toDs_cons, w_itee, w_isi, w_or, w_and, w_tb, w_comp, w_sseq, w_srng, w_sit, w_sil, wp_toDs, wipeD, w_slc, w_part0, w_part1, w_cutT, w_cutL, w_rep3, w_rep2L, w_isN, w_isnotN, w_listL, w_listT, w_tupl, w_tupt, w_len_t, w_len_l, w_eqI, w_eqB, w_neB, w_gt, w_lt, w_ge, w_le, w_add, w_par, w_parF, w_par3, w_par3F, w_snapD, w_snd, List.set_cons_zero, List.set_cons_succ, List.getElem?_cons_zero, List.getElem?_cons_succ, Option.some.injEq, exists_eq_left', iteF, List.map_cons, List.map_nil]
      refine ⟨rfl, ?_⟩
      rw [w_addT (by show 1 + us.length ≤ 16777216; omega)]
      exact (of_t l_take l_of (by simp) (by show us.length + 1 < 1000; omega) B).mono fun v μ' ⟨d, e, hd, s⟩ => ⟨d, e, hd, s⟩
    · try simp only [wp_pure, w_seq, w_if, w_cmp, w_idx, w_var, w_cst, w_glo, w_blt, w_cons, w_nil, w_bin, w_cal, w_callk, w_not, w_set, w_setT, w_ret, w_exp, w_nx, w_rt, w_skip, w_flr, w_fln, wp_seal_dat, w_tup, w_lst, w_toDs_nil, w_toDs_cons, w_itee, w_isi, w_or, w_and, w_tb, w_comp, w_sseq, w_srng, w_sit, w_sil, wp_toDs, wipeD, w_slc, w_part0, w_part1, w_cutT, w_cutL, w_rep3, w_rep2L, w_isN, w_isnotN, w_listL, w_listT, w_tupl, w_tupt, w_len_t, w_len_l, w_eqI, w_eqB, w_neB, w_gt, w_lt, w_ge, w_le, w_add, w_par, w_parF, w_par3, w_par3F, w_snapD, w_snd, List.set_cons_zero, List.set_cons_succ, List.getElem?_cons_zero, List.getElem?_cons_succ, Option.some.injEq, exists_eq_left', iteF, List.map_cons, List.map_nil]
      rw [w_addT (by show 1 + ys.length ≤ 16777216; rw [q1]; decide)]
      try simp only [wp_pure, w_seq, w_if, w_cmp, w_idx, w_var, w_cst, w_glo, w_blt, w_cons, w_nil, w_bin, w_cal, w_callk, w_not, w_set, w_setT, w_ret, w_exp, w_nx, w_rt, w_skip, w_flr, w_fln, wp_seal_dat, w_tup, w_lst, w_toDs_nil, w_toDs_cons, w_itee, w_isi, w_or, w_and, w_tb, w_comp, w_sseq, w_srng, w_sit, w_sil, wp_toDs, wipeD, w_slc, w_part0, w_part1, w_cutT, w_cutL, w_rep3, w_rep2L, w_isN, w_isnotN, w_listL, w_listT, w_tupl, w_tupt, w_len_t, w_len_l, w_eqI, w_eqB, w_neB, w_gt, w_lt, w_ge, w_le, w_add, w_par, w_parF, w_par3, w_par3F, w_snapD, w_snd, List.set_cons_zero, List.set_cons_succ, List.getElem?_cons_zero, List.getElem?_cons_succ, Option.some.injEq, exists_eq_left', iteF, List.map_cons, List.map_nil]
      refine fin (.tup fun d hd => ?_) q3 (by omega)
      rcases List.mem_cons.mp hd with rfl | hd
      · exact .str
      · obtain ⟨x, _, hx⟩ := q2 d hd
        rcases List.mem_cons.mp hx with rfl | hx
        · exact .non
        · exact hu.flt d hx
  rw [w_seq, w_if]
  simp only [w_cmp, w_var, w_cst, w_lt, List.getElem?_cons_zero, List.getElem?_cons_succ, Option.some.injEq, exists_eq_left', w_tb]
  cases c2 : decide (r < 5) with
  | true =>
    simp only [wp_pure, w_seq, w_if, w_cmp, w_idx, w_var, w_cst, w_glo, w_blt, w_cons, w_nil, w_bin, w_cal, w_callk, w_not, w_set, w_setT, w_ret, w_exp, w_nx, w_rt, w_skip, w_flr, w_fln, wp_seal_dat, w_tup, w_lst, w_toDs_nil, w_toDs_cons, w_itee, w_isi, w_or, w_and, w_tb, w_comp, w_sseq, w_srng, w_sit, w_sil, wp_toDs, wipeD, w_slc, w_part0, w_part1, w_cutT, w_cutL, w_rep3, w_rep2L, w_isN, w_isnotN, w_listL, w_listT, w_tupl, w_tupt, w_len_t, w_len_l, w_eqI, w_eqB, w_neB, w_gt, w_lt, w_ge, w_le, w_add, w_par, w_parF, w_par3, w_par3F, w_snapD, w_snd, List.set_cons_zero, List.set_cons_succ, List.getElem?_cons_zero, List.getElem?_cons_succ, Option.some.injEq, exists_eq_left', iteF, List.map_cons, List.map_nil]
    refine (few_ok l_take l_few (n := n + 31) (by decide) (by decide) (st.box.less (by omega))).mono fun v μ2 ⟨ys, e, q1, s2⟩ => ?_
    subst e
    simp only [wp_pure, w_seq, w_if, w_cmp, w_idx, w_var, w_cst, w_glo, w_blt, w_cons, w_nil, w_bin, w_cal, w_callk, w_not, w_set, w_setT, w_ret, w_exp, w_nx, w_rt, w_skip, w_flr, w_fln, wp_seal_dat, w_tup, w_lst, w_toDs_nil, w_toDs_cons, w_itee, w_isi, w_or, w_and, w_tb, w_comp, w_sseq, w_srng, w_sit, w_sil, wp_toDs, wipeD, w_slc, w_part0, w_part1, w_cutT, w_cutL, w_rep3, w_rep2L, w_isN, w_isnotN, w_listL, w_listT, w_tupl, w_tupt, w_len_t, w_len_l, w_eqI, w_eqB, w_neB, w_gt, w_lt, w_ge, w_le, w_add, w_par, w_parF, w_par3, w_par3F, w_snapD, w_snd, List.set_cons_zero, List.set_cons_succ, List.getElem?_cons_zero, List.getElem?_cons_succ, Option.some.injEq, exists_eq_left', iteF, List.map_cons, List.map_nil]
    have hy1 := q1.length_le
    refine (comp_filter (β := β) (t := 1) (fun x μ => ?_) ys (fun x _ m μ B => ?_) (n + 23) μ2 (by rw [Nat.one_mul]; exact s2.box.less (by omega))).mono fun zs μ3 ⟨q2, s3⟩ => ?_
    · simp only [wp_pure, w_seq, w_if, w_cmp, w_idx, w_var, w_cst, w_glo, w_blt, w_cons, w_nil, w_bin, w_cal, w_callk, w_not, w_set, w_setT, w_ret, w_exp, w_nx, w_rt, w_skip, w_flr, w_fln, wp_seal_dat, w_tup, w_lst, w_toDs_nil, w_toDs_cons, w_itee, w_isi, w_or, w_and, w_tb, w_comp, w_sseq, w_srng, w_sit, w_sil, wp_toDs, wipeD, w_slc, w_part0, w_part1, w_cutT, w_cutL, w_rep3, w_rep2L, w_isN, w_isnotN, w_listL, w_listT, w_tupl, w_tupt, w_len_t, w_len_l, w_eqI, w_eqB, w_neB, w_gt, w_lt, w_ge, w_le, w_add, w_par, w_parF, w_par3, w_par3F, w_snapD, w_snd, List.set_cons_zero, List.set_cons_succ, List.getElem?_cons_zero, List.getElem?_cons_succ, Option.some.injEq, exists_eq_left', iteF, List.map_cons, List.map_nil, and_self]
    · simp only [wp_bind, wp_pure, w_seq, w_if, w_cmp, w_idx, w_var, w_cst, w_glo, w_blt, w_cons, w_nil, w_bin, w_cal, w_callk, w_not, w_set, w_setT, w_ret, w_exp, w_nx, w_rt, w_skip, w_flr, w_fln, wp_seal_dat, w_tup, w_lst, w_toDs_nil, w_toDs_cons, w_itee, w_isi, w_or, w_and, w_tb, w_comp, w_sseq, w_srng, w_sit, w_sil, wp_toDs, wipeD, w_slc, w_part0, w_part1, w_cutT, w_cutL, w_rep3, w_rep2L, w_isN, w_isnotN, w_listL, w_listT, w_tupl, w_tupt, w_len_t, w_len_l, w_eqI, w_eqB, w_neB, w_gt, w_lt, w_ge, w_le, w_add, w_par, w_parF, w_par3, w_par3F, w_snapD, w_snd, List.set_cons_zero, List.set_cons_succ, List.getElem?_cons_zero, List.getElem?_cons_succ, Option.some.injEq, exists_eq_left', iteF, List.map_cons, List.map_nil]
      refine (take_st l_take (by decide) (by decide) B).mono fun v μ' ⟨r, e, _, _, st⟩ => ?_
      subst e
      simp only [wp_pure, w_seq, w_if, w_cmp, w_idx, w_var, w_cst, w_glo, w_blt, w_cons, w_nil, w_bin, w_cal, w_callk, w_not, w_set, w_setT, w_ret, w_exp, w_nx, w_rt, w_skip, w_flr, w_fln, wp_seal_dat, w_tup, w_lst, w_toDs_nil, w_toDs_cons, w_itee, w_isi, w_or, w_and, w_tb, w_comp, w_sseq, w_srng, w_sit, w_sil, wp_toDs, wipeD, w_slc, w_part0, w_part1, w_cutT, w_cutL, w_rep3, w_rep2L, w_isN, w_isnotN, w_listL, w_listT, w_tupl, w_tupt, w_len_t, w_len_l, w_eqI, w_eqB, w_neB, w_gt, w_lt, w_ge, w_le, w_add, w_par, w_parF, w_par3, w_par3F, w_snapD, w_snd, List.set_cons_zero, List.set_cons_succ, List.getElem?_cons_zero, List.getElem?_cons_succ, Option.some.injEq, exists_eq_left', iteF, List.map_cons, List.map_nil]
      exact st
    · try simp only [wp_pure, w_seq, w_if, w_cmp, w_idx, w_var, w_cst, w_glo, w_blt, w_cons, w_nil, w_bin, w_cal, w_callk, w_not, w_set, w_setT, w_ret, w_exp, w_nx, w_rt, w_skip, w_flr, w_fln, wp_seal_dat, w_tup, w_lst, w_toDs_nil, w_toDs_cons, w_itee, w_isi, w_or, w_and, w_tb, w_comp, w_sseq, w_srng, w_sit, w_sil, wp_toDs, wipeD, w_slc, w_part0, w_part1, w_cutT, w_cutL, w_rep3, w_rep2L, w_isN, w_isnotN, w_listL, w_listT, w_tupl, w_tupt, w_len_t, w_len_l, w_eqI, w_eqB, w_neB, w_gt, w_lt, w_ge, w_le, w_add, w_par, w_parF, w_par3, w_par3F, w_snapD, w_snd, List.set_cons_zero, List.set_cons_succ, List.getElem?_cons_zero, List.getElem?_cons_succ, Option.some.injEq, exists_eq_left', iteF, List.map_cons, List.map_nil]
      refine (few_ok l_take l_few (n := n + 15) (by decide) (by decide) (s3.box.less (by omega))).mono fun v μ4 ⟨ws, e, q3, s4⟩ => ?_
      subst e
      simp only [wp_pure, w_seq, w_if, w_cmp, w_idx, w_var, w_cst, w_glo, w_blt, w_cons, w_nil, w_bin, w_cal, w_callk, w_not, w_set, w_setT, w_ret, w_exp, w_nx, w_rt, w_skip, w_flr, w_fln, wp_seal_dat, w_tup, w_lst, w_toDs_nil, w_toDs_cons, w_itee, w_isi, w_or, w_and, w_tb, w_comp, w_sseq, w_srng, w_sit, w_sil, wp_toDs, wipeD, w_slc, w_part0, w_part1, w_cutT, w_cutL, w_rep3, w_rep2L, w_isN, w_isnotN, w_listL, w_listT, w_tupl, w_tupt, w_len_t, w_len_l, w_eqI, w_eqB, w_neB, w_gt, w_lt, w_ge, w_le, w_add, w_par, w_parF, w_par3, w_par3F, w_snapD, w_snd, List.set_cons_zero, List.set_cons_succ, List.getElem?_cons_zero, List.getElem?_cons_succ, Option.some.injEq, exists_eq_left', iteF, List.map_cons, List.map_nil]
      refine ⟨rfl, fin (.tup fun d hd => ?_) ((s2.trans s3).trans s4) (by omega)⟩
      simp only [List.mem_cons, List.mem_nil_iff, or_false] at hd
      rcases hd with rfl | rfl | rfl | rfl
      · exact .str
      · exact .tup (hr.str.sub q1).flt
      · exact .tup ((hr.str.sub q1).sub q2).flt
      · exact .tup (hr.str.sub q3).flt
  | false =>
  rw [iteF, w_skip, w_nx]
  refine w_guard (b := (r == 5) && !rs.isEmpty) ?_ (fun hb => ?_) fun _ => ?_
  · simp only [wp_pure, w_seq, w_if, w_cmp, w_idx, w_var, w_cst, w_glo, w_blt, w_cons, w_nil, w_bin, w_cal, w_callk, w_not, w_set, w_setT, w_ret, w_exp, w_nx, w_rt, w_skip, w_flr, w_fln, wp_seal_dat, w_tup, w_lst, w_toDs_nil, w_toDs_cons, w_itee, w_isi, w_or, w_and, w_tb, w_comp, w_sseq, w_srng, w_sit, w_sil, wp_toDs, wipeD, w_slc, w_part0, w_part1, w_cutT, w_cutL, w_rep3, w_rep2L, w_isN, w_isnotN, w_listL, w_listT, w_tupl, w_tupt, w_len_t, w_len_l, w_eqI, w_eqB, w_neB, w_gt, w_lt, w_ge, w_le, w_add, w_par, w_parF, w_par3, w_par3F, w_snapD, w_snd, List.set_cons_zero, List.set_cons_succ, List.getElem?_cons_zero, List.getElem?_cons_succ, Option.some.injEq, exists_eq_left', iteF, List.map_cons, List.map_nil]
    cases r == 5 with
    | true =>
      simp only [wp_pure, w_seq, w_if, w_cmp, w_idx, w_var, w_cst, w_glo, w_blt, w_cons, w_nil, w_bin, w_cal, w_callk, w_not, w_set, w_setT, w_ret, w_exp, w_nx, w_rt, w_skip, w_flr, w_fln, wp_seal_dat, w_tup, w_lst, w_toDs_nil, w_toDs_cons, w_itee, w_isi, w_or, w_and, w_tb, w_comp, w_sseq, w_srng, w_sit, w_sil, wp_toDs, wipeD, w_slc, w_part0, w_part1, w_cutT, w_cutL, w_rep3, w_rep2L, w_isN, w_isnotN, w_listL, w_listT, w_tupl, w_tupt, w_len_t, w_len_l, w_eqI, w_eqB, w_neB, w_gt, w_lt, w_ge, w_le, w_add, w_par, w_parF, w_par3, w_par3F, w_snapD, w_snd, List.set_cons_zero, List.set_cons_succ, List.getElem?_cons_zero, List.getElem?_cons_succ, Option.some.injEq, exists_eq_left', iteF, List.map_cons, List.map_nil, c3 rs hr.str]
      exact ⟨rfl, rfl, trivial⟩
    | false =>
      simp only [wp_pure, w_seq, w_if, w_cmp, w_idx, w_var, w_cst, w_glo, w_blt, w_cons, w_nil, w_bin, w_cal, w_callk, w_not, w_set, w_setT, w_ret, w_exp, w_nx, w_rt, w_skip, w_flr, w_fln, wp_seal_dat, w_tup, w_lst, w_toDs_nil, w_toDs_cons, w_itee, w_isi, w_or, w_and, w_tb, w_comp, w_sseq, w_srng, w_sit, w_sil, wp_toDs, wipeD, w_slc, w_part0, w_part1, w_cutT, w_cutL, w_rep3, w_rep2L, w_isN, w_isnotN, w_listL, w_listT, w_tupl, w_tupt, w_len_t, w_len_l, w_eqI, w_eqB, w_neB, w_gt, w_lt, w_ge, w_le, w_add, w_par, w_parF, w_par3, w_par3F, w_snapD, w_snd, List.set_cons_zero, List.set_cons_succ, List.getElem?_cons_zero, List.getElem?_cons_succ, Option.some.injEq, exists_eq_left', iteF, List.map_cons, List.map_nil]
      exact ⟨rfl, trivial⟩
  · have he : rs.isEmpty = false := by
      cases h : rs.isEmpty with
      | true => rw [h] at hb; simp at hb
      | false => rfl
    simp only [wp_pure, w_seq, w_if, w_cmp, w_idx, w_var, w_cst, w_glo, w_blt, w_cons, w_nil, w_bin, w_cal, w_callk, w_not, w_set, w_setT, w_ret, w_exp, w_nx, w_rt, w_skip, w_flr, w_fln, wp_seal_dat, w_tup, w_lst, w_toDs_nil, w_toDs_cons, w_itee, w_isi, w_or, w_and, w_tb, w_comp, w_sseq, w_srng, w_sit, w_sil, wp_toDs, wipeD, w_slc, w_part0, w_part1, w_cutT, w_cutL, w_rep3, w_rep2L, w_isN, w_isnotN, w_listL, w_listT, w_tupl, w_tupt, w_len_t, w_len_l, w_eqI, w_eqB, w_neB, w_gt, w_lt, w_ge, w_le, w_add, w_par, w_parF, w_par3, w_par3F, w_snapD, w_snd, List.set_cons_zero, List.set_cons_succ, List.getElem?_cons_zero, List.getElem?_cons_succ, Option.some.injEq, exists_eq_left', iteF, List.map_cons, List.map_nil]
    refine (o1 (m := n + 38) hr he st.box).mono fun v μ2 ⟨x, e, s2⟩ => ?_
    subst e
    simp only [wp_pure, w_seq, w_if, w_cmp, w_idx, w_var, w_cst, w_glo, w_blt, w_cons, w_nil, w_bin, w_cal, w_callk, w_not, w_set, w_setT, w_ret, w_exp, w_nx, w_rt, w_skip, w_flr, w_fln, wp_seal_dat, w_tup, w_lst, w_toDs_nil, w_toDs_cons, w_itee, w_isi, w_or, w_and, w_tb, w_comp, w_sseq, w_srng, w_sit, w_sil, wp_toDs, wipeD, w_slc, w_part0, w_part1, w_cutT, w_cutL, w_rep3, w_rep2L, w_isN, w_isnotN, w_listL, w_listT, w_tupl, w_tupt, w_len_t, w_len_l, w_eqI, w_eqB, w_neB, w_gt, w_lt, w_ge, w_le, w_add, w_par, w_parF, w_par3, w_par3F, w_snapD, w_snd, List.set_cons_zero, List.set_cons_succ, List.getElem?_cons_zero, List.getElem?_cons_succ, Option.some.injEq, exists_eq_left', iteF, List.map_cons, List.map_nil]
    exact ⟨rfl, fin (two _ _) s2 (by omega)⟩
  refine w_guard (b := decide (r < 8) && !rs.isEmpty) ?_ (fun hb => ?_) fun _ => ?_
  · simp only [wp_pure, w_seq, w_if, w_cmp, w_idx, w_var, w_cst, w_glo, w_blt, w_cons, w_nil, w_bin, w_cal, w_callk, w_not, w_set, w_setT, w_ret, w_exp, w_nx, w_rt, w_skip, w_flr, w_fln, wp_seal_dat, w_tup, w_lst, w_toDs_nil, w_toDs_cons, w_itee, w_isi, w_or, w_and, w_tb, w_comp, w_sseq, w_srng, w_sit, w_sil, wp_toDs, wipeD, w_slc, w_part0, w_part1, w_cutT, w_cutL, w_rep3, w_rep2L, w_isN, w_isnotN, w_listL, w_listT, w_tupl, w_tupt, w_len_t, w_len_l, w_eqI, w_eqB, w_neB, w_gt, w_lt, w_ge, w_le, w_add, w_par, w_parF, w_par3, w_par3F, w_snapD, w_snd, List.set_cons_zero, List.set_cons_succ, List.getElem?_cons_zero, List.getElem?_cons_succ, Option.some.injEq, exists_eq_left', iteF, List.map_cons, List.map_nil]
    cases decide (r < 8) with
    | true =>
      simp only [wp_pure, w_seq, w_if, w_cmp, w_idx, w_var, w_cst, w_glo, w_blt, w_cons, w_nil, w_bin, w_cal, w_callk, w_not, w_set, w_setT, w_ret, w_exp, w_nx, w_rt, w_skip, w_flr, w_fln, wp_seal_dat, w_tup, w_lst, w_toDs_nil, w_toDs_cons, w_itee, w_isi, w_or, w_and, w_tb, w_comp, w_sseq, w_srng, w_sit, w_sil, wp_toDs, wipeD, w_slc, w_part0, w_part1, w_cutT, w_cutL, w_rep3, w_rep2L, w_isN, w_isnotN, w_listL, w_listT, w_tupl, w_tupt, w_len_t, w_len_l, w_eqI, w_eqB, w_neB, w_gt, w_lt, w_ge, w_le, w_add, w_par, w_parF, w_par3, w_par3F, w_snapD, w_snd, List.set_cons_zero, List.set_cons_succ, List.getElem?_cons_zero, List.getElem?_cons_succ, Option.some.injEq, exists_eq_left', iteF, List.map_cons, List.map_nil, c3 rs hr.str]
      exact ⟨rfl, rfl, trivial⟩
    | false =>
      simp only [wp_pure, w_seq, w_if, w_cmp, w_idx, w_var, w_cst, w_glo, w_blt, w_cons, w_nil, w_bin, w_cal, w_callk, w_not, w_set, w_setT, w_ret, w_exp, w_nx, w_rt, w_skip, w_flr, w_fln, wp_seal_dat, w_tup, w_lst, w_toDs_nil, w_toDs_cons, w_itee, w_isi, w_or, w_and, w_tb, w_comp, w_sseq, w_srng, w_sit, w_sil, wp_toDs, wipeD, w_slc, w_part0, w_part1, w_cutT, w_cutL, w_rep3, w_rep2L, w_isN, w_isnotN, w_listL, w_listT, w_tupl, w_tupt, w_len_t, w_len_l, w_eqI, w_eqB, w_neB, w_gt, w_lt, w_ge, w_le, w_add, w_par, w_parF, w_par3, w_par3F, w_snapD, w_snd, List.set_cons_zero, List.set_cons_succ, List.getElem?_cons_zero, List.getElem?_cons_succ, Option.some.injEq, exists_eq_left', iteF, List.map_cons, List.map_nil]
      exact ⟨rfl, trivial⟩
  · have he : rs.isEmpty = false := by
      cases h : rs.isEmpty with
      | true => rw [h] at hb; simp at hb
      | false => rfl
    simp only [wp_pure, w_seq, w_if, w_cmp, w_idx, w_var, w_cst, w_glo, w_blt, w_cons, w_nil, w_bin, w_cal, w_callk, w_not, w_set, w_setT, w_ret, w_exp, w_nx, w_rt, w_skip, w_flr, w_fln, wp_seal_dat, w_tup, w_lst, w_toDs_nil, w_toDs_cons, w_itee, w_isi, w_or, w_and, w_tb, w_comp, w_sseq, w_srng, w_sit, w_sil, wp_toDs, wipeD, w_slc, w_part0, w_part1, w_cutT, w_cutL, w_rep3, w_rep2L, w_isN, w_isnotN, w_listL, w_listT, w_tupl, w_tupt, w_len_t, w_len_l, w_eqI, w_eqB, w_neB, w_gt, w_lt, w_ge, w_le, w_add, w_par, w_parF, w_par3, w_par3F, w_snapD, w_snd, List.set_cons_zero, List.set_cons_succ, List.getElem?_cons_zero, List.getElem?_cons_succ, Option.some.injEq, exists_eq_left', iteF, List.map_cons, List.map_nil]
    refine ⟨rfl, ?_⟩
    refine (of_l l_take l_of (n := n + 38) (by simp) (by decide) st.box).mono fun v μ2 ⟨d, e, hd, s2⟩ => ?_
    subst e
    have hd : ∃ y, d = .str y := by
      simp only [List.mem_cons, List.mem_nil_iff, or_false] at hd
      rcases hd with rfl | rfl | rfl <;> exact ⟨_, rfl⟩
    obtain ⟨y, rfl⟩ := hd
    refine (o1 (m := n + 37) hr he s2.box).mono fun v μ3 ⟨x, e, s3⟩ => ?_
    subst e
    simp only [wp_pure, w_seq, w_if, w_cmp, w_idx, w_var, w_cst, w_glo, w_blt, w_cons, w_nil, w_bin, w_cal, w_callk, w_not, w_set, w_setT, w_ret, w_exp, w_nx, w_rt, w_skip, w_flr, w_fln, wp_seal_dat, w_tup, w_lst, w_toDs_nil, w_toDs_cons, w_itee, w_isi, w_or, w_and, w_tb, w_comp, w_sseq, w_srng, w_sit, w_sil, wp_toDs, wipeD, w_slc, w_part0, w_part1, w_cutT, w_cutL, w_rep3, w_rep2L, w_isN, w_isnotN, w_listL, w_listT, w_tupl, w_tupt, w_len_t, w_len_l, w_eqI, w_eqB, w_neB, w_gt, w_lt, w_ge, w_le, w_add, w_par, w_parF, w_par3, w_par3F, w_snapD, w_snd, List.set_cons_zero, List.set_cons_succ, List.getElem?_cons_zero, List.getElem?_cons_succ, Option.some.injEq, exists_eq_left', iteF, List.map_cons, List.map_nil]
    exact ⟨rfl, fin (two _ _) (s2.trans s3) (by omega)⟩
  refine w_guard (b := decide (r < 10) && !ts.isEmpty) ?_ (fun hb => ?_) fun _ => ?_
  · simp only [wp_pure, w_seq, w_if, w_cmp, w_idx, w_var, w_cst, w_glo, w_blt, w_cons, w_nil, w_bin, w_cal, w_callk, w_not, w_set, w_setT, w_ret, w_exp, w_nx, w_rt, w_skip, w_flr, w_fln, wp_seal_dat, w_tup, w_lst, w_toDs_nil, w_toDs_cons, w_itee, w_isi, w_or, w_and, w_tb, w_comp, w_sseq, w_srng, w_sit, w_sil, wp_toDs, wipeD, w_slc, w_part0, w_part1, w_cutT, w_cutL, w_rep3, w_rep2L, w_isN, w_isnotN, w_listL, w_listT, w_tupl, w_tupt, w_len_t, w_len_l, w_eqI, w_eqB, w_neB, w_gt, w_lt, w_ge, w_le, w_add, w_par, w_parF, w_par3, w_par3F, w_snapD, w_snd, List.set_cons_zero, List.set_cons_succ, List.getElem?_cons_zero, List.getElem?_cons_succ, Option.some.injEq, exists_eq_left', iteF, List.map_cons, List.map_nil]
    cases decide (r < 10) with
    | true =>
      simp only [wp_pure, w_seq, w_if, w_cmp, w_idx, w_var, w_cst, w_glo, w_blt, w_cons, w_nil, w_bin, w_cal, w_callk, w_not, w_set, w_setT, w_ret, w_exp, w_nx, w_rt, w_skip, w_flr, w_fln, wp_seal_dat, w_tup, w_lst, w_toDs_nil, w_toDs_cons, w_itee, w_isi, w_or, w_and, w_tb, w_comp, w_sseq, w_srng, w_sit, w_sil, wp_toDs, wipeD, w_slc, w_part0, w_part1, w_cutT, w_cutL, w_rep3, w_rep2L, w_isN, w_isnotN, w_listL, w_listT, w_tupl, w_tupt, w_len_t, w_len_l, w_eqI, w_eqB, w_neB, w_gt, w_lt, w_ge, w_le, w_add, w_par, w_parF, w_par3, w_par3F, w_snapD, w_snd, List.set_cons_zero, List.set_cons_succ, List.getElem?_cons_zero, List.getElem?_cons_succ, Option.some.injEq, exists_eq_left', iteF, List.map_cons, List.map_nil, c3 ts ht.str]
      exact ⟨rfl, rfl, trivial⟩
    | false =>
      simp only [wp_pure, w_seq, w_if, w_cmp, w_idx, w_var, w_cst, w_glo, w_blt, w_cons, w_nil, w_bin, w_cal, w_callk, w_not, w_set, w_setT, w_ret, w_exp, w_nx, w_rt, w_skip, w_flr, w_fln, wp_seal_dat, w_tup, w_lst, w_toDs_nil, w_toDs_cons, w_itee, w_isi, w_or, w_and, w_tb, w_comp, w_sseq, w_srng, w_sit, w_sil, wp_toDs, wipeD, w_slc, w_part0, w_part1, w_cutT, w_cutL, w_rep3, w_rep2L, w_isN, w_isnotN, w_listL, w_listT, w_tupl, w_tupt, w_len_t, w_len_l, w_eqI, w_eqB, w_neB, w_gt, w_lt, w_ge, w_le, w_add, w_par, w_parF, w_par3, w_par3F, w_snapD, w_snd, List.set_cons_zero, List.set_cons_succ, List.getElem?_cons_zero, List.getElem?_cons_succ, Option.some.injEq, exists_eq_left', iteF, List.map_cons, List.map_nil]
      exact ⟨rfl, trivial⟩
  · have he : ts.isEmpty = false := by
      cases h : ts.isEmpty with
      | true => rw [h] at hb; simp at hb
      | false => rfl
    simp only [wp_pure, w_seq, w_if, w_cmp, w_idx, w_var, w_cst, w_glo, w_blt, w_cons, w_nil, w_bin, w_cal, w_callk, w_not, w_set, w_setT, w_ret, w_exp, w_nx, w_rt, w_skip, w_flr, w_fln, wp_seal_dat, w_tup, w_lst, w_toDs_nil, w_toDs_cons, w_itee, w_isi, w_or, w_and, w_tb, w_comp, w_sseq, w_srng, w_sit, w_sil, wp_toDs, wipeD, w_slc, w_part0, w_part1, w_cutT, w_cutL, w_rep3, w_rep2L, w_isN, w_isnotN, w_listL, w_listT, w_tupl, w_tupt, w_len_t, w_len_l, w_eqI, w_eqB, w_neB, w_gt, w_lt, w_ge, w_le, w_add, w_par, w_parF, w_par3, w_par3F, w_snapD, w_snd, List.set_cons_zero, List.set_cons_succ, List.getElem?_cons_zero, List.getElem?_cons_succ, Option.some.injEq, exists_eq_left', iteF, List.map_cons, List.map_nil]
    refine (o1 (m := n + 38) ht he st.box).mono fun v μ2 ⟨x, e, s2⟩ => ?_
    subst e
    simp only [wp_pure, w_seq, w_if, w_cmp, w_idx, w_var, w_cst, w_glo, w_blt, w_cons, w_nil, w_bin, w_cal, w_callk, w_not, w_set, w_setT, w_ret, w_exp, w_nx, w_rt, w_skip, w_flr, w_fln, wp_seal_dat, w_tup, w_lst, w_toDs_nil, w_toDs_cons, w_itee, w_isi, w_or, w_and, w_tb, w_comp, w_sseq, w_srng, w_sit, w_sil, wp_toDs, wipeD, w_slc, w_part0, w_part1, w_cutT, w_cutL, w_rep3, w_rep2L, w_isN, w_isnotN, w_listL, w_listT, w_tupl, w_tupt, w_len_t, w_len_l, w_eqI, w_eqB, w_neB, w_gt, w_lt, w_ge, w_le, w_add, w_par, w_parF, w_par3, w_par3F, w_snapD, w_snd, List.set_cons_zero, List.set_cons_succ, List.getElem?_cons_zero, List.getElem?_cons_succ, Option.some.injEq, exists_eq_left', iteF, List.map_cons, List.map_nil]
    exact ⟨rfl, fin (two _ _) s2 (by omega)⟩
  refine w_guard (b := r == 10) (by simp only [wp_pure, w_seq, w_if, w_cmp, w_idx, w_var, w_cst, w_glo, w_blt, w_cons, w_nil, w_bin, w_cal, w_callk, w_not, w_set, w_setT, w_ret, w_exp, w_nx, w_rt, w_skip, w_flr, w_fln, wp_seal_dat, w_tup, w_lst, w_toDs_nil, w_toDs_cons, w_itee, w_isi, w_or, w_and, w_tb, w_comp, w_sseq, w_srng, w_sit, w_sil, wp_toDs, wipeD, w_slc, w_part0, w_part1, w_cutT, w_cutL, w_rep3, w_rep2L, w_isN, w_isnotN, w_listL, w_listT, w_tupl, w_tupt, w_len_t, w_len_l, w_eqI, w_eqB, w_neB, w_gt, w_lt, w_ge, w_le, w_add, w_par, w_parF, w_par3, w_par3F, w_snapD, w_snd, List.set_cons_zero, List.set_cons_succ, List.getElem?_cons_zero, List.getElem?_cons_succ, Option.some.injEq, exists_eq_left', iteF, List.map_cons, List.map_nil, and_self]) (fun _ => ?_) fun _ => ?_
  · simp only [wp_pure, w_seq, w_if, w_cmp, w_idx, w_var, w_cst, w_glo, w_blt, w_cons, w_nil, w_bin, w_cal, w_callk, w_not, w_set, w_setT, w_ret, w_exp, w_nx, w_rt, w_skip, w_flr, w_fln, wp_seal_dat, w_tup, w_lst, w_toDs_nil, w_toDs_cons, w_itee, w_isi, w_or, w_and, w_tb, w_comp, w_sseq, w_srng, w_sit, w_sil, wp_toDs, wipeD, w_slc, w_part0, w_part1, w_cutT, w_cutL, w_rep3, w_rep2L, w_isN, w_isnotN, w_listL, w_listT, w_tupl, w_tupt, w_len_t, w_len_l, w_eqI, w_eqB, w_neB, w_gt, w_lt, w_ge, w_le, w_add, w_par, w_parF, w_par3, w_par3F, w_snapD, w_snd, List.set_cons_zero, List.set_cons_succ, List.getElem?_cons_zero, List.getElem?_cons_succ, Option.some.injEq, exists_eq_left', iteF, List.map_cons, List.map_nil]
    refine ⟨rfl, ?_⟩
    refine (of_l l_take l_of (n := n + 38) (by simp) (by decide) st.box).mono fun v μ2 ⟨d, e, hd, s2⟩ => ?_
    subst e
    have hd : ∃ y, d = .str y := by
      simp only [List.mem_cons, List.mem_nil_iff, or_false] at hd
      rcases hd with rfl | rfl | rfl <;> exact ⟨_, rfl⟩
    obtain ⟨y, rfl⟩ := hd
    refine (take_st l_take (n := n + 37) (by decide) (by decide) s2.box).mono fun v μ3 ⟨i, e, _, _, s3⟩ => ?_
    subst e
    simp only [wp_pure, w_seq, w_if, w_cmp, w_idx, w_var, w_cst, w_glo, w_blt, w_cons, w_nil, w_bin, w_cal, w_callk, w_not, w_set, w_setT, w_ret, w_exp, w_nx, w_rt, w_skip, w_flr, w_fln, wp_seal_dat, w_tup, w_lst, w_toDs_nil, w_toDs_cons, w_itee, w_isi, w_or, w_and, w_tb, w_comp, w_sseq, w_srng, w_sit, w_sil, wp_toDs, wipeD, w_slc, w_part0, w_part1, w_cutT, w_cutL, w_rep3, w_rep2L, w_isN, w_isnotN, w_listL, w_listT, w_tupl, w_tupt, w_len_t, w_len_l, w_eqI, w_eqB, w_neB, w_gt, w_lt, w_ge, w_le, w_add, w_par, w_parF, w_par3, w_par3F, w_snapD, w_snd, List.set_cons_zero, List.set_cons_succ, List.getElem?_cons_zero, List.getElem?_cons_succ, Option.some.injEq, exists_eq_left', iteF, List.map_cons, List.map_nil]
    refine ⟨rfl, fin (Flt.mono (n := 1) (.tup fun d hd => ?_) (by decide)) (s2.trans s3) (by omega)⟩
    simp only [List.mem_cons, List.mem_nil_iff, or_false] at hd
    rcases hd with rfl | rfl | rfl <;> first | exact .str | exact .bl
  · simp only [wp_pure, w_seq, w_if, w_cmp, w_idx, w_var, w_cst, w_glo, w_blt, w_cons, w_nil, w_bin, w_cal, w_callk, w_not, w_set, w_setT, w_ret, w_exp, w_nx, w_rt, w_skip, w_flr, w_fln, wp_seal_dat, w_tup, w_lst, w_toDs_nil, w_toDs_cons, w_itee, w_isi, w_or, w_and, w_tb, w_comp, w_sseq, w_srng, w_sit, w_sil, wp_toDs, wipeD, w_slc, w_part0, w_part1, w_cutT, w_cutL, w_rep3, w_rep2L, w_isN, w_isnotN, w_listL, w_listT, w_tupl, w_tupt, w_len_t, w_len_l, w_eqI, w_eqB, w_neB, w_gt, w_lt, w_ge, w_le, w_add, w_par, w_parF, w_par3, w_par3F, w_snapD, w_snd, List.set_cons_zero, List.set_cons_succ, List.getElem?_cons_zero, List.getElem?_cons_succ, Option.some.injEq, exists_eq_left', iteF, List.map_cons, List.map_nil]
    refine ⟨rfl, rfl, rfl, rfl, ?_⟩
    refine (of_l l_take l_of (n := n + 38) (by simp) (by decide) st.box).mono fun v μ2 ⟨d, e, hd, s2⟩ => ?_
    subst e
    try simp only [wp_pure, w_seq, w_if, w_cmp, w_idx, w_var, w_cst, w_glo, w_blt, w_cons, w_nil, w_bin, w_cal, w_callk, w_not, w_set, w_setT, w_ret, w_exp, w_nx, w_rt, w_skip, w_flr, w_fln, wp_seal_dat, w_tup, w_lst, w_toDs_nil, w_toDs_cons, w_itee, w_isi, w_or, w_and, w_tb, w_comp, w_sseq, w_srng, w_sit, w_sil, wp_toDs, wipeD, w_slc, w_part0, w_part1, w_cutT, w_cutL, w_rep3, w_rep2L, w_isN, w_isnotN, w_listL, w_listT, w_tupl, w_tupt, w_len_t, w_len_l, w_eqI, w_eqB, w_neB, w_gt, w_lt, w_ge, w_le, w_add, w_par, w_parF, w_par3, w_par3F, w_snapD, w_snd, List.set_cons_zero, List.set_cons_succ, List.getElem?_cons_zero, List.getElem?_cons_succ, Option.some.injEq, exists_eq_left', iteF, List.map_cons, List.map_nil]
    refine fin ?_ s2 (by omega)
    simp only [List.mem_cons, List.mem_nil_iff, or_false] at hd
    rcases hd with rfl | rfl | rfl <;> refine Flt.mono (n := 1) (.tup fun d hd => ?_) (by decide)
    · simp only [List.mem_cons, List.mem_nil_iff, or_false] at hd; subst hd; exact .str
    · simp only [List.mem_cons, List.mem_nil_iff, or_false] at hd; subst hd; exact .str
    · simp only [List.mem_cons, List.mem_nil_iff, or_false] at hd
      rcases hd with rfl | rfl | rfl <;> first | exact .str | exact .bl
end
end K05
set_option Elab.async false
set_option linter.all false
set_option maxRecDepth 100000
set_option maxHeartbeats 1000000
/-! D7: drawn files, worlds. -/
namespace K05
open PySem G
/-- a row of a world -/
def Rw (f : D) : Prop := ∃ n o a g s t, f = .tup [.str n, o, a, g, s, t] ∧ Flt 4 f ∧ (t = .non ∨ ∃ ds, t = .tup ds ∧ ds ≠ [] ∧ ds.length ≤ 3)
section
variable {k n β : Nat} {μ : Sto} {us rs ts : List D} {x : Str}
theorem file_ok (hu : Fk us) (hr : Pl rs) (ht : Pl ts) (B : Box β (n + 200) μ) : wp (callK Z.tab (k + 4) "_law_file" [.ref β, .dat (.str x), .dat (.tup us), .dat (.tup rs), .dat (.tup ts)]) (fun v μ' => ∃ y, v = .dat y ∧ Rw y ∧ Stp β n μ μ') μ := by
  have hul := hu.len
  have hrl := hr.len
  have htl := ht.len
  refine wp_call l_file rfl ?_
  show wp (G.exec _ f__law_file.body [some (.ref β), some (.dat (.str x)), some (.dat (.tup us)), some (.dat (.tup rs)), some (.dat (.tup ts)), none, none, none, none]) _ _
  simp only [f__law_file]
  rw [w_seq, w_set, w_cst, w_nx]
  simp only [List.set_cons_zero, List.set_cons_succ]
  rw [w_seq]
  refine (?_ : wp _ (fun fl μ' => ∃ g, fl = .nx [some (.ref β), some (.dat (.str x)), some (.dat (.tup us)), some (.dat (.tup rs)), some (.dat (.tup ts)), some (.dat g), none, none, none] ∧ Flt 3 g ∧ Stp β (n + 180) μ μ') μ).mono fun fl μ1 ⟨g, e, hg, s1⟩ => ?_
  · simp only [wp_pure, w_seq, w_if, w_cmp, w_idx, w_var, w_cst, w_glo, w_blt, w_cons, w_nil, w_bin, w_cal, w_callk, w_not, w_set, w_setT, w_ret, w_exp, w_nx, w_rt, w_skip, w_flr, w_fln, wp_seal_dat, w_tup, w_lst, w_toDs_nil, w_toDs_cons, w_itee, w_isi, w_or, w_and, w_tb, w_comp, w_sseq, w_srng, w_sit, w_sil, wp_toDs, wipeD, w_slc, w_part0, w_part1, w_cutT, w_cutL, w_rep3, w_rep2L, w_isN, w_isnotN, w_listL, w_listT, w_tupl, w_tupt, w_len_t, w_len_l, w_eqI, w_eqB, w_neB, w_gt, w_lt, w_ge, w_le, w_add, w_par, w_parF, w_par3, w_par3F, w_snapD, w_snd, List.set_cons_zero, List.set_cons_succ, List.getElem?_cons_zero, List.getElem?_cons_succ, Option.some.injEq, exists_eq_left', iteF, List.map_cons, List.map_nil]
    refine (take_st l_take (n := n + 199) (by decide) (by decide) B).mono fun v μ1 ⟨r, e, r1, r2, st⟩ => ?_
    subst e
    simp only [wp_pure, w_seq, w_if, w_cmp, w_idx, w_var, w_cst, w_glo, w_blt, w_cons, w_nil, w_bin, w_cal, w_callk, w_not, w_set, w_setT, w_ret, w_exp, w_nx, w_rt, w_skip, w_flr, w_fln, wp_seal_dat, w_tup, w_lst, w_toDs_nil, w_toDs_cons, w_itee, w_isi, w_or, w_and, w_tb, w_comp, w_sseq, w_srng, w_sit, w_sil, wp_toDs, wipeD, w_slc, w_part0, w_part1, w_cutT, w_cutL, w_rep3, w_rep2L, w_isN, w_isnotN, w_listL, w_listT, w_tupl, w_tupt, w_len_t, w_len_l, w_eqI, w_eqB, w_neB, w_gt, w_lt, w_ge, w_le, w_add, w_par, w_parF, w_par3, w_par3F, w_snapD, w_snd, List.set_cons_zero, List.set_cons_succ, List.getElem?_cons_zero, List.getElem?_cons_succ, Option.some.injEq, exists_eq_left', iteF, List.map_cons, List.map_nil]
    cases r == 0 with
    | false =>
      simp only [wp_pure, w_seq, w_if, w_cmp, w_idx, w_var, w_cst, w_glo, w_blt, w_cons, w_nil, w_bin, w_cal, w_callk, w_not, w_set, w_setT, w_ret, w_exp, w_nx, w_rt, w_skip, w_flr, w_fln, wp_seal_dat, w_tup, w_lst, w_toDs_nil, w_toDs_cons, w_itee, w_isi, w_or, w_and, w_tb, w_comp, w_sseq, w_srng, w_sit, w_sil, wp_toDs, wipeD, w_slc, w_part0, w_part1, w_cutT, w_cutL, w_rep3, w_rep2L, w_isN, w_isnotN, w_listL, w_listT, w_tupl, w_tupt, w_len_t, w_len_l, w_eqI, w_eqB, w_neB, w_gt, w_lt, w_ge, w_le, w_add, w_par, w_parF, w_par3, w_par3F, w_snapD, w_snd, List.set_cons_zero, List.set_cons_succ, List.getElem?_cons_zero, List.getElem?_cons_succ, Option.some.injEq, exists_eq_left', iteF, List.map_cons, List.map_nil]
      exact ⟨_, rfl, .non, st.less (by omega)⟩
    | true =>
      simp only [wp_pure, w_seq, w_if, w_cmp, w_idx, w_var, w_cst, w_glo, w_blt, w_cons, w_nil, w_bin, w_cal, w_callk, w_not, w_set, w_setT, w_ret, w_exp, w_nx, w_rt, w_skip, w_flr, w_fln, wp_seal_dat, w_tup, w_lst, w_toDs_nil, w_toDs_cons, w_itee, w_isi, w_or, w_and, w_tb, w_comp, w_sseq, w_srng, w_sit, w_sil, wp_toDs, wipeD, w_slc, w_part0, w_part1, w_cutT, w_cutL, w_rep3, w_rep2L, w_isN, w_isnotN, w_listL, w_listT, w_tupl, w_tupt, w_len_t, w_len_l, w_eqI, w_eqB, w_neB, w_gt, w_lt, w_ge, w_le, w_add, w_par, w_parF, w_par3, w_par3F, w_snapD, w_snd, List.set_cons_zero, List.set_cons_succ, List.getElem?_cons_zero, List.getElem?_cons_succ, Option.some.injEq, exists_eq_left', iteF, List.map_cons, List.map_nil]
      refine (few_ok l_take l_few (n := n + 190) (by decide) (by decide) (st.box.less (by omega))).mono fun v μ2 ⟨ys, e, q1, s2⟩ => ?_
      subst e
      refine (few_ok l_take l_few (n := n + 181) (by decide) (by decide) (s2.box.less (by omega))).mono fun v μ3 ⟨zs, e, q2, s3⟩ => ?_
      subst e
      refine (take_st l_take (n := n + 180) (by decide) (by decide) s3.box).mono fun v μ4 ⟨i, e, _, _, s4⟩ => ?_
      subst e
      simp only [wp_pure, w_seq, w_if, w_cmp, w_idx, w_var, w_cst, w_glo, w_blt, w_cons, w_nil, w_bin, w_cal, w_callk, w_not, w_set, w_setT, w_ret, w_exp, w_nx, w_rt, w_skip, w_flr, w_fln, wp_seal_dat, w_tup, w_lst, w_toDs_nil, w_toDs_cons, w_itee, w_isi, w_or, w_and, w_tb, w_comp, w_sseq, w_srng, w_sit, w_sil, wp_toDs, wipeD, w_slc, w_part0, w_part1, w_cutT, w_cutL, w_rep3, w_rep2L, w_isN, w_isnotN, w_listL, w_listT, w_tupl, w_tupt, w_len_t, w_len_l, w_eqI, w_eqB, w_neB, w_gt, w_lt, w_ge, w_le, w_add, w_par, w_parF, w_par3, w_par3F, w_snapD, w_snd, List.set_cons_zero, List.set_cons_succ, List.getElem?_cons_zero, List.getElem?_cons_succ, Option.some.injEq, exists_eq_left', iteF, List.map_cons, List.map_nil]
      refine ⟨rfl, _, rfl, Flt.mono (n := 2) (.tup fun d hd => ?_) (by decide), ((st.trans s2).trans s3).trans s4⟩
      simp only [List.mem_cons, List.mem_nil_iff, or_false] at hd
      rcases hd with rfl | rfl | rfl
      · exact .tup (hr.str.sub q1).flt
      · exact .tup (hr.str.sub q2).flt
      · exact .bl
  subst e
  rw [w_nx, w_seq]
  refine (?_ : wp _ (fun fl μ' => ∃ s, fl = .nx [some (.ref β), some (.dat (.str x)), some (.dat (.tup us)), some (.dat (.tup rs)), some (.dat (.tup ts)), some (.dat g), some (.dat s), none, none] ∧ Flt 3 s ∧ Stp β (n + 170) μ μ') μ1).mono fun fl μ2 ⟨s, e, hs, s2⟩ => ?_
  · simp only [wp_pure, w_seq, w_if, w_cmp, w_idx, w_var, w_cst, w_glo, w_blt, w_cons, w_nil, w_bin, w_cal, w_callk, w_not, w_set, w_setT, w_ret, w_exp, w_nx, w_rt, w_skip, w_flr, w_fln, wp_seal_dat, w_tup, w_lst, w_toDs_nil, w_toDs_cons, w_itee, w_isi, w_or, w_and, w_tb, w_comp, w_sseq, w_srng, w_sit, w_sil, wp_toDs, wipeD, w_slc, w_part0, w_part1, w_cutT, w_cutL, w_rep3, w_rep2L, w_isN, w_isnotN, w_listL, w_listT, w_tupl, w_tupt, w_len_t, w_len_l, w_eqI, w_eqB, w_neB, w_gt, w_lt, w_ge, w_le, w_add, w_par, w_parF, w_par3, w_par3F, w_snapD, w_snd, List.set_cons_zero, List.set_cons_succ, List.getElem?_cons_zero, List.getElem?_cons_succ, Option.some.injEq, exists_eq_left', iteF, List.map_cons, List.map_nil]
    refine (take_st l_take (n := n + 179) (by decide) (by decide) s1.box).mono fun v μ2 ⟨r, e, r1, r2, st⟩ => ?_
    subst e
    simp only [wp_pure, w_seq, w_if, w_cmp, w_idx, w_var, w_cst, w_glo, w_blt, w_cons, w_nil, w_bin, w_cal, w_callk, w_not, w_set, w_setT, w_ret, w_exp, w_nx, w_rt, w_skip, w_flr, w_fln, wp_seal_dat, w_tup, w_lst, w_toDs_nil, w_toDs_cons, w_itee, w_isi, w_or, w_and, w_tb, w_comp, w_sseq, w_srng, w_sit, w_sil, wp_toDs, wipeD, w_slc, w_part0, w_part1, w_cutT, w_cutL, w_rep3, w_rep2L, w_isN, w_isnotN, w_listL, w_listT, w_tupl, w_tupt, w_len_t, w_len_l, w_eqI, w_eqB, w_neB, w_gt, w_lt, w_ge, w_le, w_add, w_par, w_parF, w_par3, w_par3F, w_snapD, w_snd, List.set_cons_zero, List.set_cons_succ, List.getElem?_cons_zero, List.getElem?_cons_succ, Option.some.injEq, exists_eq_left', iteF, List.map_cons, List.map_nil]
    cases decide (0 < r) with
    | true =>
      simp only [wp_pure, w_seq, w_if, w_cmp, w_idx, w_var, w_cst, w_glo, w_blt, w_cons, w_nil, w_bin, w_cal, w_callk, w_not, w_set, w_setT, w_ret, w_exp, w_nx, w_rt, w_skip, w_flr, w_fln, wp_seal_dat, w_tup, w_lst, w_toDs_nil, w_toDs_cons, w_itee, w_isi, w_or, w_and, w_tb, w_comp, w_sseq, w_srng, w_sit, w_sil, wp_toDs, wipeD, w_slc, w_part0, w_part1, w_cutT, w_cutL, w_rep3, w_rep2L, w_isN, w_isnotN, w_listL, w_listT, w_tupl, w_tupt, w_len_t, w_len_l, w_eqI, w_eqB, w_neB, w_gt, w_lt, w_ge, w_le, w_add, w_par, w_parF, w_par3, w_par3F, w_snapD, w_snd, List.set_cons_zero, List.set_cons_succ, List.getElem?_cons_zero, List.getElem?_cons_succ, Option.some.injEq, exists_eq_left', iteF, List.map_cons, List.map_nil]
      exact ⟨_, rfl, .non, (s1.trans st).less (by omega)⟩
    | false =>
      simp only [wp_pure, w_seq, w_if, w_cmp, w_idx, w_var, w_cst, w_glo, w_blt, w_cons, w_nil, w_bin, w_cal, w_callk, w_not, w_set, w_setT, w_ret, w_exp, w_nx, w_rt, w_skip, w_flr, w_fln, wp_seal_dat, w_tup, w_lst, w_toDs_nil, w_toDs_cons, w_itee, w_isi, w_or, w_and, w_tb, w_comp, w_sseq, w_srng, w_sit, w_sil, wp_toDs, wipeD, w_slc, w_part0, w_part1, w_cutT, w_cutL, w_rep3, w_rep2L, w_isN, w_isnotN, w_listL, w_listT, w_tupl, w_tupt, w_len_t, w_len_l, w_eqI, w_eqB, w_neB, w_gt, w_lt, w_ge, w_le, w_add, w_par, w_parF, w_par3, w_par3F, w_snapD, w_snd, List.set_cons_zero, List.set_cons_succ, List.getElem?_cons_zero, List.getElem?_cons_succ, Option.some.injEq, exists_eq_left', iteF, List.map_cons, List.map_nil]
      refine (few_ok l_take l_few (n := n + 170) (by decide) (by decide) (st.box.less (by omega))).mono fun v μ3 ⟨ys, e, q1, s3⟩ => ?_
      subst e
      exact ⟨_, rfl, Flt.mono (n := 1) (.tup fun d hd => hu.flt d (q1.mem hd)) (by decide), (s1.trans st).trans s3⟩
  subst e
  rw [w_nx, w_seq, w_set, w_cst, w_nx]
  simp only [List.set_cons_zero, List.set_cons_succ]
  rw [w_seq]
  refine (?_ : wp _ (fun fl μ' => ∃ t, fl = .nx [some (.ref β), some (.dat (.str x)), some (.dat (.tup us)), some (.dat (.tup rs)), some (.dat (.tup ts)), some (.dat g), some (.dat s), some (.dat t), none] ∧ (t = .non ∨ ∃ ds, t = .tup ds ∧ ds ≠ [] ∧ ds.length ≤ 3) ∧ Flt 3 t ∧ Stp β (n + 2) μ μ') μ2).mono fun fl μ3 ⟨t, e, ht1, ht2, s3⟩ => ?_
  · simp only [wp_pure, w_seq, w_if, w_cmp, w_idx, w_var, w_cst, w_glo, w_blt, w_cons, w_nil, w_bin, w_cal, w_callk, w_not, w_set, w_setT, w_ret, w_exp, w_nx, w_rt, w_skip, w_flr, w_fln, wp_seal_dat, w_tup, w_lst, w_toDs_nil, w_toDs_cons, w_itee, w_isi, w_or, w_and, w_tb, w_comp, w_sseq, w_srng, w_sit, w_sil, wp_toDs, wipeD, w_slc, w_part0, w_part1, w_cutT, w_cutL, w_rep3, w_rep2L, w_isN, w_isnotN, w_listL, w_listT, w_tupl, w_tupt, w_len_t, w_len_l, w_eqI, w_eqB, w_neB, w_gt, w_lt, w_ge, w_le, w_add, w_par, w_parF, w_par3, w_par3F, w_snapD, w_snd, List.set_cons_zero, List.set_cons_succ, List.getElem?_cons_zero, List.getElem?_cons_succ, Option.some.injEq, exists_eq_left', iteF, List.map_cons, List.map_nil]
    refine (take_st l_take (n := n + 169) (by decide) (by decide) s2.box).mono fun v μ3 ⟨r, e, r1, r2, st⟩ => ?_
    subst e
    simp only [wp_pure, w_seq, w_if, w_cmp, w_idx, w_var, w_cst, w_glo, w_blt, w_cons, w_nil, w_bin, w_cal, w_callk, w_not, w_set, w_setT, w_ret, w_exp, w_nx, w_rt, w_skip, w_flr, w_fln, wp_seal_dat, w_tup, w_lst, w_toDs_nil, w_toDs_cons, w_itee, w_isi, w_or, w_and, w_tb, w_comp, w_sseq, w_srng, w_sit, w_sil, wp_toDs, wipeD, w_slc, w_part0, w_part1, w_cutT, w_cutL, w_rep3, w_rep2L, w_isN, w_isnotN, w_listL, w_listT, w_tupl, w_tupt, w_len_t, w_len_l, w_eqI, w_eqB, w_neB, w_gt, w_lt, w_ge, w_le, w_add, w_par, w_parF, w_par3, w_par3F, w_snapD, w_snd, List.set_cons_zero, List.set_cons_succ, List.getElem?_cons_zero, List.getElem?_cons_succ, Option.some.injEq, exists_eq_left', iteF, List.map_cons, List.map_nil]
    cases r == 0 with
    | false =>
      simp only [wp_pure, w_seq, w_if, w_cmp, w_idx, w_var, w_cst, w_glo, w_blt, w_cons, w_nil, w_bin, w_cal, w_callk, w_not, w_set, w_setT, w_ret, w_exp, w_nx, w_rt, w_skip, w_flr, w_fln, wp_seal_dat, w_tup, w_lst, w_toDs_nil, w_toDs_cons, w_itee, w_isi, w_or, w_and, w_tb, w_comp, w_sseq, w_srng, w_sit, w_sil, wp_toDs, wipeD, w_slc, w_part0, w_part1, w_cutT, w_cutL, w_rep3, w_rep2L, w_isN, w_isnotN, w_listL, w_listT, w_tupl, w_tupt, w_len_t, w_len_l, w_eqI, w_eqB, w_neB, w_gt, w_lt, w_ge, w_le, w_add, w_par, w_parF, w_par3, w_par3F, w_snapD, w_snd, List.set_cons_zero, List.set_cons_succ, List.getElem?_cons_zero, List.getElem?_cons_succ, Option.some.injEq, exists_eq_left', iteF, List.map_cons, List.map_nil]
      exact ⟨_, rfl, .inl rfl, .non, (s2.trans st).less (by omega)⟩
    | true =>
      simp only [wp_pure, w_seq, w_if, w_cmp, w_idx, w_var, w_cst, w_glo, w_blt, w_cons, w_nil, w_bin, w_cal, w_callk, w_not, w_set, w_setT, w_ret, w_exp, w_nx, w_rt, w_skip, w_flr, w_fln, wp_seal_dat, w_tup, w_lst, w_toDs_nil, w_toDs_cons, w_itee, w_isi, w_or, w_and, w_tb, w_comp, w_sseq, w_srng, w_sit, w_sil, wp_toDs, wipeD, w_slc, w_part0, w_part1, w_cutT, w_cutL, w_rep3, w_rep2L, w_isN, w_isnotN, w_listL, w_listT, w_tupl, w_tupt, w_len_t, w_len_l, w_eqI, w_eqB, w_neB, w_gt, w_lt, w_ge, w_le, w_add, w_par, w_parF, w_par3, w_par3F, w_snapD, w_snd, List.set_cons_zero, List.set_cons_succ, List.getElem?_cons_zero, List.getElem?_cons_succ, Option.some.injEq, exists_eq_left', iteF, List.map_cons, List.map_nil]
      refine (take_st l_take (n := n + 168) (by decide) (by decide) st.box).mono fun v μ4 ⟨i, e, i1, i2, s4⟩ => ?_
      subst e
      simp only [wp_pure, w_seq, w_if, w_cmp, w_idx, w_var, w_cst, w_glo, w_blt, w_cons, w_nil, w_bin, w_cal, w_callk, w_not, w_set, w_setT, w_ret, w_exp, w_nx, w_rt, w_skip, w_flr, w_fln, wp_seal_dat, w_tup, w_lst, w_toDs_nil, w_toDs_cons, w_itee, w_isi, w_or, w_and, w_tb, w_comp, w_sseq, w_srng, w_sit, w_sil, wp_toDs, wipeD, w_slc, w_part0, w_part1, w_cutT, w_cutL, w_rep3, w_rep2L, w_isN, w_isnotN, w_listL, w_listT, w_tupl, w_tupt, w_len_t, w_len_l, w_eqI, w_eqB, w_neB, w_gt, w_lt, w_ge, w_le, w_add, w_par, w_parF, w_par3, w_par3F, w_snapD, w_snd, List.set_cons_zero, List.set_cons_succ, List.getElem?_cons_zero, List.getElem?_cons_succ, Option.some.injEq, exists_eq_left', iteF, List.map_cons, List.map_nil, w_rng]
      refine ⟨by simp only [Bool.and_eq_true, decide_eq_true_eq]; omega, ?_⟩
      have hl : (rangeD (1 + i).toNat).length = (1 + i).toNat := by simp [rangeD]
      refine (comp_map (β := β) (t := 40) (P := fun _ y => Flt 2 y) (fun x μ => ?_) (rangeD (1 + i).toNat) (fun x _ m μ B => ?_) (n + 2) μ4 (by rw [hl]; exact s4.box.less (by omega))).mono fun ys μ5 ⟨q1, q2, q3⟩ => ?_
      · simp only [wp_bind, wp_pure, w_seq, w_if, w_cmp, w_idx, w_var, w_cst, w_glo, w_blt, w_cons, w_nil, w_bin, w_cal, w_callk, w_not, w_set, w_setT, w_ret, w_exp, w_nx, w_rt, w_skip, w_flr, w_fln, wp_seal_dat, w_tup, w_lst, w_toDs_nil, w_toDs_cons, w_itee, w_isi, w_or, w_and, w_tb, w_comp, w_sseq, w_srng, w_sit, w_sil, wp_toDs, wipeD, w_slc, w_part0, w_part1, w_cutT, w_cutL, w_rep3, w_rep2L, w_isN, w_isnotN, w_listL, w_listT, w_tupl, w_tupt, w_len_t, w_len_l, w_eqI, w_eqB, w_neB, w_gt, w_lt, w_ge, w_le, w_add, w_par, w_parF, w_par3, w_par3F, w_snapD, w_snd, List.set_cons_zero, List.set_cons_succ, List.getElem?_cons_zero, List.getElem?_cons_succ, Option.some.injEq, exists_eq_left', iteF, List.map_cons, List.map_nil, and_self]
      · simp only [wp_pure, w_seq, w_if, w_cmp, w_idx, w_var, w_cst, w_glo, w_blt, w_cons, w_nil, w_bin, w_cal, w_callk, w_not, w_set, w_setT, w_ret, w_exp, w_nx, w_rt, w_skip, w_flr, w_fln, wp_seal_dat, w_tup, w_lst, w_toDs_nil, w_toDs_cons, w_itee, w_isi, w_or, w_and, w_tb, w_comp, w_sseq, w_srng, w_sit, w_sil, wp_toDs, wipeD, w_slc, w_part0, w_part1, w_cutT, w_cutL, w_rep3, w_rep2L, w_isN, w_isnotN, w_listL, w_listT, w_tupl, w_tupt, w_len_t, w_len_l, w_eqI, w_eqB, w_neB, w_gt, w_lt, w_ge, w_le, w_add, w_par, w_parF, w_par3, w_par3F, w_snapD, w_snd, List.set_cons_zero, List.set_cons_succ, List.getElem?_cons_zero, List.getElem?_cons_succ, Option.some.injEq, exists_eq_left', iteF, List.map_cons, List.map_nil]
        exact act_ok hu hr ht B
      · try simp only [wp_pure, w_seq, w_if, w_cmp, w_idx, w_var, w_cst, w_glo, w_blt, w_cons, w_nil, w_bin, w_cal, w_callk, w_not, w_set, w_setT, w_ret, w_exp, w_nx, w_rt, w_skip, w_flr, w_fln, wp_seal_dat, w_tup, w_lst, w_toDs_nil, w_toDs_cons, w_itee, w_isi, w_or, w_and, w_tb, w_comp, w_sseq, w_srng, w_sit, w_sil, wp_toDs, wipeD, w_slc, w_part0, w_part1, w_cutT, w_cutL, w_rep3, w_rep2L, w_isN, w_isnotN, w_listL, w_listT, w_tupl, w_tupt, w_len_t, w_len_l, w_eqI, w_eqB, w_neB, w_gt, w_lt, w_ge, w_le, w_add, w_par, w_parF, w_par3, w_par3F, w_snapD, w_snd, List.set_cons_zero, List.set_cons_succ, List.getElem?_cons_zero, List.getElem?_cons_succ, Option.some.injEq, exists_eq_left', iteF, List.map_cons, List.map_nil]
        refine ⟨_, rfl, .inr ⟨ys, rfl, ?_, ?_⟩, .tup fun d hd => ?_, ((s2.trans st).trans s4).trans q3⟩
        · intro z
          rw [z, hl] at q1
          simp at q1
          omega
        · rw [q1, hl]; omega
        · obtain ⟨_, _, h⟩ := q2 d hd
          exact h
  subst e
  simp only [wp_pure, w_seq, w_if, w_cmp, w_idx, w_var, w_cst, w_glo, w_blt, w_cons, w_nil, w_bin, w_cal, w_callk, w_not, w_set, w_setT, w_ret, w_exp, w_nx, w_rt, w_skip, w_flr, w_fln, wp_seal_dat, w_tup, w_lst, w_toDs_nil, w_toDs_cons, w_itee, w_isi, w_or, w_and, w_tb, w_comp, w_sseq, w_srng, w_sit, w_sil, wp_toDs, wipeD, w_slc, w_part0, w_part1, w_cutT, w_cutL, w_rep3, w_rep2L, w_isN, w_isnotN, w_listL, w_listT, w_tupl, w_tupt, w_len_t, w_len_l, w_eqI, w_eqB, w_neB, w_gt, w_lt, w_ge, w_le, w_add, w_par, w_parF, w_par3, w_par3F, w_snapD, w_snd, List.set_cons_zero, List.set_cons_succ, List.getElem?_cons_zero, List.getElem?_cons_succ, Option.some.injEq, exists_eq_left', iteF, List.map_cons, List.map_nil]
  refine (of_t l_take l_of hu.ne (by omega) (n := n + 1) s3.box).mono fun v μ4 ⟨o, e, ho, s4⟩ => ?_
  subst e
  refine (take_st l_take (n := n) (by decide) (by decide) s4.box).mono fun v μ5 ⟨i, e, _, _, s5⟩ => ?_
  subst e
  simp only [wp_pure, w_seq, w_if, w_cmp, w_idx, w_var, w_cst, w_glo, w_blt, w_cons, w_nil, w_bin, w_cal, w_callk, w_not, w_set, w_setT, w_ret, w_exp, w_nx, w_rt, w_skip, w_flr, w_fln, wp_seal_dat, w_tup, w_lst, w_toDs_nil, w_toDs_cons, w_itee, w_isi, w_or, w_and, w_tb, w_comp, w_sseq, w_srng, w_sit, w_sil, wp_toDs, wipeD, w_slc, w_part0, w_part1, w_cutT, w_cutL, w_rep3, w_rep2L, w_isN, w_isnotN, w_listL, w_listT, w_tupl, w_tupt, w_len_t, w_len_l, w_eqI, w_eqB, w_neB, w_gt, w_lt, w_ge, w_le, w_add, w_par, w_parF, w_par3, w_par3F, w_snapD, w_snd, List.set_cons_zero, List.set_cons_succ, List.getElem?_cons_zero, List.getElem?_cons_succ, Option.some.injEq, exists_eq_left', iteF, List.map_cons, List.map_nil]
  have sf := (s3.trans s4).trans s5
  refine ⟨rfl, ?_⟩
  rw [sf.take]
  refine ⟨_, rfl, ⟨x, o, _, g, s, t, rfl, .tup fun d hd => ?_, ht1⟩, sf⟩
  simp only [List.mem_cons, List.mem_nil_iff, or_false] at hd
  rcases hd with rfl | rfl | rfl | rfl | rfl | rfl
  · exact .str
  · exact hu.flt _ ho
  · exact .bl
  · exact hg
  · exact hs
  · exact ht2
theorem folk_ok (B : Box β (n + 1) μ) : wp (callK Z.tab (k + 3) "_law_folk" [.ref β]) (fun v μ' => ∃ us, v = .dat (.tup us) ∧ Fk us ∧ Stp β n μ μ') μ := by
  refine wp_call l_folk rfl ?_
  show wp (G.exec _ f__law_folk.body [some (.ref β)]) _ _
  simp only [f__law_folk, wp_pure, w_seq, w_if, w_cmp, w_idx, w_var, w_cst, w_glo, w_blt, w_cons, w_nil, w_bin, w_cal, w_callk, w_not, w_set, w_setT, w_ret, w_exp, w_nx, w_rt, w_skip, w_flr, w_fln, wp_seal_dat, w_tup, w_lst, w_toDs_nil, w_toDs_cons, w_itee, w_isi, w_or, w_and, w_tb, w_comp, w_sseq, w_srng, w_sit, w_sil, wp_toDs, wipeD, w_slc, w_part0, w_part1, w_cutT, w_cutL, w_rep3, w_rep2L, w_isN, w_isnotN, w_listL, w_listT, w_tupl, w_tupt, w_len_t, w_len_l, w_eqI, w_eqB, w_neB, w_gt, w_lt, w_ge, w_le, w_add, w_par, w_parF, w_par3, w_par3F, w_snapD, w_snd, List.set_cons_zero, List.set_cons_succ, List.getElem?_cons_zero, List.getElem?_cons_succ, Option.some.injEq, exists_eq_left', iteF, List.map_cons, List.map_nil]
  refine ⟨rfl, rfl, rfl, rfl, rfl, rfl, rfl, ?_⟩
  refine (of_l l_take l_of (by simp) (by decide) B).mono fun v μ' ⟨d, e, hd, s⟩ => ?_
  subst e
  simp only [wp_pure, w_seq, w_if, w_cmp, w_idx, w_var, w_cst, w_glo, w_blt, w_cons, w_nil, w_bin, w_cal, w_callk, w_not, w_set, w_setT, w_ret, w_exp, w_nx, w_rt, w_skip, w_flr, w_fln, wp_seal_dat, w_tup, w_lst, w_toDs_nil, w_toDs_cons, w_itee, w_isi, w_or, w_and, w_tb, w_comp, w_sseq, w_srng, w_sit, w_sil, wp_toDs, wipeD, w_slc, w_part0, w_part1, w_cutT, w_cutL, w_rep3, w_rep2L, w_isN, w_isnotN, w_listL, w_listT, w_tupl, w_tupt, w_len_t, w_len_l, w_eqI, w_eqB, w_neB, w_gt, w_lt, w_ge, w_le, w_add, w_par, w_parF, w_par3, w_par3F, w_snapD, w_snd, List.set_cons_zero, List.set_cons_succ, List.getElem?_cons_zero, List.getElem?_cons_succ, Option.some.injEq, exists_eq_left', iteF, List.map_cons, List.map_nil, s.take]
  have : ∃ us, d = .tup us ∧ Fk us := by
    simp only [List.mem_cons, List.mem_nil_iff, or_false] at hd
    rcases hd with rfl | rfl | rfl | rfl | rfl | rfl <;> refine ⟨_, rfl, fun d hd => ?_, by simp, by simp⟩ <;> simp only [List.mem_cons, List.mem_nil_iff, or_false] at hd
    · exact ⟨_, hd⟩
    · rcases hd with rfl | rfl <;> exact ⟨_, rfl⟩
    · rcases hd with rfl | rfl | rfl <;> exact ⟨_, rfl⟩
    · rcases hd with rfl | rfl <;> exact ⟨_, rfl⟩
    · rcases hd with rfl | rfl | rfl <;> exact ⟨_, rfl⟩
    · rcases hd with rfl | rfl | rfl <;> exact ⟨_, rfl⟩
  obtain ⟨us, rfl, h⟩ := this
  exact ⟨us, rfl, h, s⟩
end
end K05
set_option Elab.async false
set_option linter.all false
set_option maxRecDepth 100000
set_option maxHeartbeats 1000000
/-! D8: drawn rights and worlds. -/
namespace G
open PySem
theorem Box.lt {β n : Nat} {μ : Sto} (B : Box β n μ) : β < μ.length := by
  obtain ⟨a, b, c, h, _⟩ := B.ex
  exact (List.getElem?_eq_some_iff.mp h).1
theorem Box.of_at {β n : Nat} {μ μ' : Sto} (B : Box β n μ) (h : μ'[β]? = μ[β]?) : Box β n μ' := by
  obtain ⟨a, b, c, q, r⟩ := B.ex
  exact ⟨a, b, c, h.trans q, r⟩
theorem Two.start {β n : Nat} {μ : Sto} {l f : List D} (B : Box β n μ) : Two β n μ l f (μ ++ [.lst l] ++ [.lst f]) := by
  have hl := B.lt
  refine ⟨μ[β], ?_, ?_⟩
  · rw [List.set_getElem_self, List.append_assoc]; rfl
  · refine B.of_at ?_
    rw [List.append_assoc, List.getElem?_append_left hl]
theorem Two.cut {β n : Nat} {μ μ2 : Sto} {l f : List D} (hp : β < μ.length) (h : Two β n μ l f μ2) : Stp β n μ (μ2.take μ.length) := by
  obtain ⟨c, rfl, B⟩ := h
  have e : (μ.set β c ++ [Cell.lst l, Cell.lst f]).take μ.length = μ.set β c := by
    rw [List.take_append_of_le_length (by rw [List.length_set]; exact Nat.le_refl _), List.take_of_length_le (by rw [List.length_set]; exact Nat.le_refl _)]
  rw [e]
  refine ⟨⟨c, rfl⟩, B.of_at ?_⟩
  rw [List.getElem?_append_left (by rw [List.length_set]; exact hp)]
theorem Two.box {β n : Nat} {μ μ2 : Sto} {l f : List D} (h : Two β n μ l f μ2) : Box β n μ2 := by
  obtain ⟨_, _, B⟩ := h
  exact B
theorem Two.less {β n m : Nat} {μ μ2 : Sto} {l f : List D} (h : Two β n μ l f μ2) (hm : m ≤ n) : Two β m μ l f μ2 := by
  obtain ⟨c, e, B⟩ := h
  exact ⟨c, e, B.less hm⟩
theorem ins_mem {α : Type} {le : α → α → Bool} {x y : α} : ∀ {l : List α}, y ∈ ins le x l → y = x ∨ y ∈ l
  | [], h => .inl (by simpa [ins] using h)
  | z :: l, h => by
    unfold ins at h
    split at h
    · rcases List.mem_cons.mp h with h | h
      · exact .inl h
      · exact .inr h
    · rcases List.mem_cons.mp h with h | h
      · exact .inr (by rw [h]; exact List.mem_cons_self ..)
      · rcases ins_mem h with h | h
        · exact .inl h
        · exact .inr (List.mem_cons_of_mem _ h)
theorem ins_len {α : Type} {le : α → α → Bool} {x : α} : ∀ {l : List α}, (ins le x l).length = l.length + 1
  | [] => rfl
  | z :: l => by
    unfold ins
    split
    · rfl
    · rw [List.length_cons, ins_len, List.length_cons]
theorem isort_len {α : Type} {le : α → α → Bool} : ∀ {l : List α}, (isort le l).length = l.length
  | [] => rfl
  | z :: l => by rw [isort, ins_len, isort_len, List.length_cons]
end G
namespace K05
open PySem G
theorem strs_of : ∀ {l : List D}, StrL l → ∃ xs, strsOf l = some xs ∧ l = xs.map .str
  | [], _ => ⟨[], rfl, rfl⟩
  | d :: l, h => by
    obtain ⟨x, rfl⟩ := h d (List.mem_cons_self ..)
    obtain ⟨xs, e1, e2⟩ := strs_of fun y hy => h y (List.mem_cons_of_mem _ hy)
    exact ⟨x :: xs, by rw [strsOf, e1], by rw [e2]; rfl⟩
theorem sort_str {l : List D} (h : StrL l) : ∃ zs, sortD l = some zs ∧ StrL zs ∧ zs.length = l.length := by
  obtain ⟨xs, e1, e2⟩ := strs_of h
  cases hl : l with
  | nil => exact ⟨[], rfl, .nil, rfl⟩
  | cons d r =>
    obtain ⟨x, hx⟩ := h d (by rw [hl]; exact List.mem_cons_self ..)
    have z : intsOf l = none := by rw [hl, hx]; rfl
    rw [← hl]
    refine ⟨(isort strLe xs).map .str, by rw [sortD, z, e1], fun d hd => ?_, by rw [List.length_map, isort_len, e2, List.length_map]⟩
    obtain ⟨y, _, rfl⟩ := List.mem_map.mp hd
    exact ⟨y, rfl⟩
theorem w_sortR {μ : Sto} {n : Nat} {ds : List D} (h : μ[n]? = some (.lst ds)) (hs : StrL ds) (hl : ds.length < 64) : ∃ zs, StrL zs ∧ zs.length = ds.length ∧ ∀ Q : Val → Sto → Prop, wp (opBlt .sorted [.ref n]) Q μ ↔ Q (.dat (.lst zs)) μ := by
  obtain ⟨zs, e, h1, h2⟩ := sort_str hs
  refine ⟨zs, h1, h2, fun Q => ?_⟩
  have e1 : opBlt .sorted [.ref n] = M.bind (M.bind (cellAt n) fun
    | .lst ds => M.pure (true, ds)
    | _ => M.fail) fun p => M.when (p.1 && Nat.blt p.2.length 64) (M.bind (M.ofOpt (sortD p.2)) fun ds => M.dat (.lst ds)) := rfl
  rw [e1, wp_bind, wp_bind, wp_cell h]
  show wp (M.pure (true, ds)) _ μ ↔ _
  rw [wp_pure, wp_when]
  show (true && Nat.blt ds.length 64) = true ∧ wp (M.bind (M.ofOpt (sortD ds)) fun ds => M.dat (.lst ds)) Q μ ↔ _
  rw [e, wp_bind, wp_some, wp_dat, show Nat.blt ds.length 64 = true from Nat.ble_eq_true_of_le hl]
  exact ⟨fun z => z.2, fun z => ⟨rfl, z⟩⟩
section
variable {k n β : Nat} {μ : Sto}
def pool8 : List D := [.str "a", .str "b", .str "grants", .str "keep", .str "net", .str "on", .str "users", .str "zzzzzzzz"]
def name8 : List D := [.str "a", .str "bin", .str "get", .str "on", .str "su", .str "x", .str "zz", .str "zzzzzzzz"]
theorem pool8_str : StrL pool8 := .cons (.cons (.cons (.cons (.cons (.cons (.cons (.cons .nil)))))))
theorem name8_str : StrL name8 := .cons (.cons (.cons (.cons (.cons (.cons (.cons (.cons .nil)))))))
theorem perm_str {a l' f' : List D} (h : StrL a) (p : (l' ++ f').Perm (a ++ [])) : StrL f' := fun d hd => by
  have : d ∈ a ++ [] := p.mem_iff.mp (List.mem_append_right _ hd)
  rw [List.append_nil] at this
  exact h d this
theorem pool_ok (B : Box β (n + 6) μ) : wp (callK Z.tab (k + 2) "_law_pool" [.ref β, .dat (.int 5)]) (fun v μ' => ∃ rs, v = .dat (.tup rs) ∧ Pl rs ∧ Stp β n μ μ') μ := by
  have hp := B.lt
  refine wp_call l_pool rfl ?_
  show wp (G.exec _ f__law_pool.body [some (.ref β), some (.dat (.int 5)), none, none, none]) _ _
  simp only [f__law_pool, wp_pure, w_seq, w_if, w_cmp, w_idx, w_var, w_cst, w_glo, w_blt, w_cons, w_nil, w_bin, w_cal, w_callk, w_not, w_set, w_setT, w_ret, w_exp, w_nx, w_rt, w_skip, w_flr, w_fln, wp_seal_dat, w_tup, w_lst, w_toDs_nil, w_toDs_cons, w_itee, w_isi, w_or, w_and, w_tb, w_comp, w_sseq, w_srng, w_sit, w_sil, wp_toDs, wipeD, w_slc, w_part0, w_part1, w_cutT, w_cutL, w_rep3, w_rep2L, w_isN, w_isnotN, w_listL, w_listT, w_tupl, w_tupt, w_len_t, w_len_l, w_eqI, w_eqB, w_neB, w_gt, w_lt, w_ge, w_le, w_add, w_par, w_parF, w_par3, w_par3F, w_snapD, w_snd, List.set_cons_zero, List.set_cons_succ, List.getElem?_cons_zero, List.getElem?_cons_succ, Option.some.injEq, exists_eq_left', iteF, List.map_cons, List.map_nil, w_clst, w_for]
  refine ⟨rfl, rfl, ?_⟩
  have tw : Two β (n + 6) μ pool8 [] (μ ++ [.lst pool8] ++ [.lst []]) := Two.start B
  have ll : (μ ++ [Cell.lst pool8]).length = μ.length + 1 := by rw [List.length_append]; rfl
  refine (take_st l_take (n := n + 5) (m := 5 + 1) (μ := μ ++ [.lst pool8] ++ [.lst []]) (by decide) (by decide) tw.box).mono fun v μ1 ⟨r, e, r1, r2, st⟩ => ?_
  subst e
  simp only [wp_pure, w_seq, w_if, w_cmp, w_idx, w_var, w_cst, w_glo, w_blt, w_cons, w_nil, w_bin, w_cal, w_callk, w_not, w_set, w_setT, w_ret, w_exp, w_nx, w_rt, w_skip, w_flr, w_fln, wp_seal_dat, w_tup, w_lst, w_toDs_nil, w_toDs_cons, w_itee, w_isi, w_or, w_and, w_tb, w_comp, w_sseq, w_srng, w_sit, w_sil, wp_toDs, wipeD, w_slc, w_part0, w_part1, w_cutT, w_cutL, w_rep3, w_rep2L, w_isN, w_isnotN, w_listL, w_listT, w_tupl, w_tupt, w_len_t, w_len_l, w_eqI, w_eqB, w_neB, w_gt, w_lt, w_ge, w_le, w_add, w_par, w_parF, w_par3, w_par3F, w_snapD, w_snd, List.set_cons_zero, List.set_cons_succ, List.getElem?_cons_zero, List.getElem?_cons_succ, Option.some.injEq, exists_eq_left', iteF, List.map_cons, List.map_nil, w_rng]
  refine ⟨by simp only [Bool.and_eq_true, decide_eq_true_eq]; omega, ?_⟩
  have hl : (rangeD r.toNat).length = r.toNat := by simp [rangeD]
  have tw1 := tw.draw hp st
  refine pick_loop l_take (k := k) (n := n) (ti := 2) (li := 3) (fi := 4) hp (by decide) (by decide) (by decide) (rangeD r.toNat) _ pool8 [] μ1 rfl (by simp) (by simp) (by rw [hl]; show r.toNat ≤ 8; omega) (by decide) (tw1.less (by rw [hl]; omega)) fun ρ' l' f' μ2 a0 a1 a2 a3 a4 a5 a6 _ => ?_
  have hf : StrL f' := perm_str pool8_str a4
  have hfl : f'.length ≤ 8 := by rw [a5, hl]; show 0 + r.toNat ≤ 8; omega
  obtain ⟨zs, z1, z2, z3⟩ := w_sortR a6.at_f hf (by omega)
  rw [w_nx]
  simp only [w_seq, w_ret, w_blt, w_cons, w_nil, w_var, a2, Option.some.injEq, exists_eq_left', z3, w_tupl, w_rt, w_flr, wp_seal_dat]
  exact ⟨zs, rfl, ⟨z1, by omega⟩, a6.cut hp⟩
end
end K05
set_option Elab.async false
set_option linter.all false
set_option maxRecDepth 100000
set_option maxHeartbeats 1000000
/-! D9: drawn worlds. -/
namespace K05
open PySem G
/-- a world -/
structure WD where
  us : List D
  rs : List D
  fs : List D
def WD.d (w : WD) : D := .tup [.tup w.us, .tup w.rs, .tup w.fs]
structure WD.Ok (w : WD) : Prop where
  fk : Fk w.us
  pl : Pl w.rs
  rw : ∀ f ∈ w.fs, Rw f
  len : w.fs.length ≤ 8
section
variable {k n β : Nat} {μ : Sto} {us rs : List D}
theorem drawn_ok (hu : Fk us) (hr : Pl rs) (B : Box β (n + 810) μ) : wp (callK Z.tab (k + 5) "_law_drawn" [.ref β, .dat (.tup us), .dat (.tup rs), .dat (.int 4)]) (fun v μ' => ∃ w : WD, v = .dat w.d ∧ w.Ok ∧ Stp β n μ μ') μ := by
  have hp := B.lt
  refine wp_call l_drawn rfl ?_
  show wp (G.exec _ f__law_drawn.body [some (.ref β), some (.dat (.tup us)), some (.dat (.tup rs)), some (.dat (.int 4)), none, none, none, none]) _ _
  simp only [f__law_drawn, wp_pure, w_seq, w_if, w_cmp, w_idx, w_var, w_cst, w_glo, w_blt, w_cons, w_nil, w_bin, w_cal, w_callk, w_not, w_set, w_setT, w_ret, w_exp, w_nx, w_rt, w_skip, w_flr, w_fln, wp_seal_dat, w_tup, w_lst, w_toDs_nil, w_toDs_cons, w_itee, w_isi, w_or, w_and, w_tb, w_comp, w_sseq, w_srng, w_sit, w_sil, wp_toDs, wipeD, w_slc, w_part0, w_part1, w_cutT, w_cutL, w_rep3, w_rep2L, w_isN, w_isnotN, w_listL, w_listT, w_tupl, w_tupt, w_len_t, w_len_l, w_eqI, w_eqB, w_neB, w_gt, w_lt, w_ge, w_le, w_add, w_par, w_parF, w_par3, w_par3F, w_snapD, w_snd, List.set_cons_zero, List.set_cons_succ, List.getElem?_cons_zero, List.getElem?_cons_succ, Option.some.injEq, exists_eq_left', iteF, List.map_cons, List.map_nil, w_clst, w_for]
  refine ⟨rfl, rfl, ?_⟩
  have tw : Two β (n + 810) μ name8 [] (μ ++ [.lst name8] ++ [.lst []]) := Two.start B
  have ll : ∀ l : List D, (μ ++ [Cell.lst l]).length = μ.length + 1 := fun l => by rw [List.length_append]; rfl
  refine (take_st l_take (n := n + 809) (m := 4 + 1) (μ := μ ++ [.lst name8] ++ [.lst []]) (by decide) (by decide) tw.box).mono fun v μ1 ⟨r, e, r1, r2, st⟩ => ?_
  subst e
  simp only [wp_pure, w_seq, w_if, w_cmp, w_idx, w_var, w_cst, w_glo, w_blt, w_cons, w_nil, w_bin, w_cal, w_callk, w_not, w_set, w_setT, w_ret, w_exp, w_nx, w_rt, w_skip, w_flr, w_fln, wp_seal_dat, w_tup, w_lst, w_toDs_nil, w_toDs_cons, w_itee, w_isi, w_or, w_and, w_tb, w_comp, w_sseq, w_srng, w_sit, w_sil, wp_toDs, wipeD, w_slc, w_part0, w_part1, w_cutT, w_cutL, w_rep3, w_rep2L, w_isN, w_isnotN, w_listL, w_listT, w_tupl, w_tupt, w_len_t, w_len_l, w_eqI, w_eqB, w_neB, w_gt, w_lt, w_ge, w_le, w_add, w_par, w_parF, w_par3, w_par3F, w_snapD, w_snd, List.set_cons_zero, List.set_cons_succ, List.getElem?_cons_zero, List.getElem?_cons_succ, Option.some.injEq, exists_eq_left', iteF, List.map_cons, List.map_nil, w_rng]
  refine ⟨by simp only [Bool.and_eq_true, decide_eq_true_eq]; omega, ?_⟩
  have hl : (rangeD r.toNat).length = r.toNat := by simp [rangeD]
  have tw1 := tw.draw hp st
  refine pick_loop l_take (k := k + 3) (n := n + 800) (ti := 4) (li := 6) (fi := 5) hp (by decide) (by decide) (by decide) (rangeD r.toNat) _ name8 [] μ1 rfl (by simp) (by simp) (by rw [hl]; show r.toNat ≤ 8; omega) (by decide) (tw1.less (by rw [hl]; omega)) fun ρ' l' f' μ2 a0 a1 a2 a3 a4 a5 a6 ⟨xx, a7⟩ => ?_
  have hf : StrL f' := perm_str name8_str a4
  have hfl : f'.length ≤ 4 := by rw [a5, hl]; show 0 + r.toNat ≤ 4; omega
  obtain ⟨zs, z1, z2, z3⟩ := w_sortR a6.at_f hf (by omega)
  subst a7
  simp only [List.set_cons_zero, List.set_cons_succ] at a0 a1 a2 ⊢
  simp only [wp_pure, w_seq, w_if, w_cmp, w_idx, w_var, w_cst, w_glo, w_blt, w_cons, w_nil, w_bin, w_cal, w_callk, w_not, w_set, w_setT, w_ret, w_exp, w_nx, w_rt, w_skip, w_flr, w_fln, wp_seal_dat, w_tup, w_lst, w_toDs_nil, w_toDs_cons, w_itee, w_isi, w_or, w_and, w_tb, w_comp, w_sseq, w_srng, w_sit, w_sil, wp_toDs, wipeD, w_slc, w_part0, w_part1, w_cutT, w_cutL, w_rep3, w_rep2L, w_isN, w_isnotN, w_listL, w_listT, w_tupl, w_tupt, w_len_t, w_len_l, w_eqI, w_eqB, w_neB, w_gt, w_lt, w_ge, w_le, w_add, w_par, w_parF, w_par3, w_par3F, w_snapD, w_snd, List.set_cons_zero, List.set_cons_succ, List.getElem?_cons_zero, List.getElem?_cons_succ, Option.some.injEq, exists_eq_left', iteF, List.map_cons, List.map_nil, ll, z3]
  refine (comp_map (β := β) (t := 200) (P := fun _ y => Rw y) (fun x μ => ?_) zs (fun x hx m μ B => ?_) n μ2 (a6.box.less (by omega))).mono fun ys μ3 ⟨q1, q2, q3⟩ => ?_
  · simp only [wp_bind, wp_pure, w_seq, w_if, w_cmp, w_idx, w_var, w_cst, w_glo, w_blt, w_cons, w_nil, w_bin, w_cal, w_callk, w_not, w_set, w_setT, w_ret, w_exp, w_nx, w_rt, w_skip, w_flr, w_fln, wp_seal_dat, w_tup, w_lst, w_toDs_nil, w_toDs_cons, w_itee, w_isi, w_or, w_and, w_tb, w_comp, w_sseq, w_srng, w_sit, w_sil, wp_toDs, wipeD, w_slc, w_part0, w_part1, w_cutT, w_cutL, w_rep3, w_rep2L, w_isN, w_isnotN, w_listL, w_listT, w_tupl, w_tupt, w_len_t, w_len_l, w_eqI, w_eqB, w_neB, w_gt, w_lt, w_ge, w_le, w_add, w_par, w_parF, w_par3, w_par3F, w_snapD, w_snd, List.set_cons_zero, List.set_cons_succ, List.getElem?_cons_zero, List.getElem?_cons_succ, Option.some.injEq, exists_eq_left', iteF, List.map_cons, List.map_nil, and_self]
  · obtain ⟨x, rfl⟩ := z1 x hx
    simp only [wp_pure, w_seq, w_if, w_cmp, w_idx, w_var, w_cst, w_glo, w_blt, w_cons, w_nil, w_bin, w_cal, w_callk, w_not, w_set, w_setT, w_ret, w_exp, w_nx, w_rt, w_skip, w_flr, w_fln, wp_seal_dat, w_tup, w_lst, w_toDs_nil, w_toDs_cons, w_itee, w_isi, w_or, w_and, w_tb, w_comp, w_sseq, w_srng, w_sit, w_sil, wp_toDs, wipeD, w_slc, w_part0, w_part1, w_cutT, w_cutL, w_rep3, w_rep2L, w_isN, w_isnotN, w_listL, w_listT, w_tupl, w_tupt, w_len_t, w_len_l, w_eqI, w_eqB, w_neB, w_gt, w_lt, w_ge, w_le, w_add, w_par, w_parF, w_par3, w_par3F, w_snapD, w_snd, List.set_cons_zero, List.set_cons_succ, List.getElem?_cons_zero, List.getElem?_cons_succ, Option.some.injEq, exists_eq_left', iteF, List.map_cons, List.map_nil]
    exact file_ok hu hr ⟨z1, by omega⟩ B
  · try simp only [wp_pure, w_seq, w_if, w_cmp, w_idx, w_var, w_cst, w_glo, w_blt, w_cons, w_nil, w_bin, w_cal, w_callk, w_not, w_set, w_setT, w_ret, w_exp, w_nx, w_rt, w_skip, w_flr, w_fln, wp_seal_dat, w_tup, w_lst, w_toDs_nil, w_toDs_cons, w_itee, w_isi, w_or, w_and, w_tb, w_comp, w_sseq, w_srng, w_sit, w_sil, wp_toDs, wipeD, w_slc, w_part0, w_part1, w_cutT, w_cutL, w_rep3, w_rep2L, w_isN, w_isnotN, w_listL, w_listT, w_tupl, w_tupt, w_len_t, w_len_l, w_eqI, w_eqB, w_neB, w_gt, w_lt, w_ge, w_le, w_add, w_par, w_parF, w_par3, w_par3F, w_snapD, w_snd, List.set_cons_zero, List.set_cons_succ, List.getElem?_cons_zero, List.getElem?_cons_succ, Option.some.injEq, exists_eq_left', iteF, List.map_cons, List.map_nil]
    refine ⟨rfl, ⟨us, rs, ys⟩, rfl, ⟨hu, hr, fun f hf => ?_, ?_⟩, (a6.draw hp q3).cut hp⟩
    · obtain ⟨_, _, h⟩ := q2 f hf
      exact h
    · show ys.length ≤ 8
      rw [q1]; omega
theorem whole_ok (B : Box β (n + 817) μ) : wp (callK Z.tab (k + 6) "_law_whole" [.ref β, .dat (.int 4)]) (fun v μ' => ∃ w : WD, v = .dat w.d ∧ w.Ok ∧ Stp β n μ μ') μ := by
  refine wp_call l_whole rfl ?_
  show wp (G.exec _ f__law_whole.body [some (.ref β), some (.dat (.int 4)), none]) _ _
  simp only [f__law_whole, wp_pure, w_seq, w_if, w_cmp, w_idx, w_var, w_cst, w_glo, w_blt, w_cons, w_nil, w_bin, w_cal, w_callk, w_not, w_set, w_setT, w_ret, w_exp, w_nx, w_rt, w_skip, w_flr, w_fln, wp_seal_dat, w_tup, w_lst, w_toDs_nil, w_toDs_cons, w_itee, w_isi, w_or, w_and, w_tb, w_comp, w_sseq, w_srng, w_sit, w_sil, wp_toDs, wipeD, w_slc, w_part0, w_part1, w_cutT, w_cutL, w_rep3, w_rep2L, w_isN, w_isnotN, w_listL, w_listT, w_tupl, w_tupt, w_len_t, w_len_l, w_eqI, w_eqB, w_neB, w_gt, w_lt, w_ge, w_le, w_add, w_par, w_parF, w_par3, w_par3F, w_snapD, w_snd, List.set_cons_zero, List.set_cons_succ, List.getElem?_cons_zero, List.getElem?_cons_succ, Option.some.injEq, exists_eq_left', iteF, List.map_cons, List.map_nil]
  refine (folk_ok (n := n + 816) B).mono fun v μ1 ⟨us, e, hu, s1⟩ => ?_
  subst e
  try simp only [wp_pure, w_seq, w_if, w_cmp, w_idx, w_var, w_cst, w_glo, w_blt, w_cons, w_nil, w_bin, w_cal, w_callk, w_not, w_set, w_setT, w_ret, w_exp, w_nx, w_rt, w_skip, w_flr, w_fln, wp_seal_dat, w_tup, w_lst, w_toDs_nil, w_toDs_cons, w_itee, w_isi, w_or, w_and, w_tb, w_comp, w_sseq, w_srng, w_sit, w_sil, wp_toDs, wipeD, w_slc, w_part0, w_part1, w_cutT, w_cutL, w_rep3, w_rep2L, w_isN, w_isnotN, w_listL, w_listT, w_tupl, w_tupt, w_len_t, w_len_l, w_eqI, w_eqB, w_neB, w_gt, w_lt, w_ge, w_le, w_add, w_par, w_parF, w_par3, w_par3F, w_snapD, w_snd, List.set_cons_zero, List.set_cons_succ, List.getElem?_cons_zero, List.getElem?_cons_succ, Option.some.injEq, exists_eq_left', iteF, List.map_cons, List.map_nil]
  refine (pool_ok (n := n + 810) s1.box).mono fun v μ2 ⟨rs, e, hr, s2⟩ => ?_
  subst e
  try simp only [wp_pure, w_seq, w_if, w_cmp, w_idx, w_var, w_cst, w_glo, w_blt, w_cons, w_nil, w_bin, w_cal, w_callk, w_not, w_set, w_setT, w_ret, w_exp, w_nx, w_rt, w_skip, w_flr, w_fln, wp_seal_dat, w_tup, w_lst, w_toDs_nil, w_toDs_cons, w_itee, w_isi, w_or, w_and, w_tb, w_comp, w_sseq, w_srng, w_sit, w_sil, wp_toDs, wipeD, w_slc, w_part0, w_part1, w_cutT, w_cutL, w_rep3, w_rep2L, w_isN, w_isnotN, w_listL, w_listT, w_tupl, w_tupt, w_len_t, w_len_l, w_eqI, w_eqB, w_neB, w_gt, w_lt, w_ge, w_le, w_add, w_par, w_parF, w_par3, w_par3F, w_snapD, w_snd, List.set_cons_zero, List.set_cons_succ, List.getElem?_cons_zero, List.getElem?_cons_succ, Option.some.injEq, exists_eq_left', iteF, List.map_cons, List.map_nil]
  refine (drawn_ok (n := n) hu hr s2.box).mono fun v μ3 ⟨w, e, hw, s3⟩ => ?_
  subst e
  have sf := (s1.trans s2).trans s3
  simp only [wp_pure, w_seq, w_if, w_cmp, w_idx, w_var, w_cst, w_glo, w_blt, w_cons, w_nil, w_bin, w_cal, w_callk, w_not, w_set, w_setT, w_ret, w_exp, w_nx, w_rt, w_skip, w_flr, w_fln, wp_seal_dat, w_tup, w_lst, w_toDs_nil, w_toDs_cons, w_itee, w_isi, w_or, w_and, w_tb, w_comp, w_sseq, w_srng, w_sit, w_sil, wp_toDs, wipeD, w_slc, w_part0, w_part1, w_cutT, w_cutL, w_rep3, w_rep2L, w_isN, w_isnotN, w_listL, w_listT, w_tupl, w_tupt, w_len_t, w_len_l, w_eqI, w_eqB, w_neB, w_gt, w_lt, w_ge, w_le, w_add, w_par, w_parF, w_par3, w_par3F, w_snapD, w_snd, List.set_cons_zero, List.set_cons_succ, List.getElem?_cons_zero, List.getElem?_cons_succ, Option.some.injEq, exists_eq_left', iteF, List.map_cons, List.map_nil, sf.take]
  exact ⟨w, rfl, hw, sf⟩
end
end K05
set_option Elab.async false
set_option linter.all false
set_option maxRecDepth 100000
set_option maxHeartbeats 1000000
/-! D10: drawn states. -/
namespace K05
open PySem G
def SD.Le (b : Nat) (s : SD) : Prop := ∀ a ∈ s.A, a.length ≤ b
theorem SD.Le.mono {b c : Nat} {s : SD} (h : s.Le b) (l : b ≤ c) : s.Le c := fun a ha => Nat.le_trans (h a ha) l
theorem lst_cmpb {n : Nat} {l : List D} (h : ∀ d ∈ l, Flt n d) (hn : n < 64) : (D.lst l).cmpb = true := by
  unfold D.cmpb
  rw [D.own, tpls_own l (tpls_of fun d hd => (h d hd).1), D.dep, Nat.ble_eq_true_of_le (show D.deps l + 1 ≤ 64 from Nat.le_trans (Nat.succ_le_succ (deps_le fun d hd => (h d hd).2)) hn)]
  rfl
theorem eqv_nilL (l : List D) : D.eqv (.lst l) (.lst []) = l.isEmpty := by
  cases l <;> simp [D.eqv, D.eqvs]
theorem len3 {l : List D} (h : l.length = 3) : ∃ a b c, l = [a, b, c] := by
  match l, h with
  | [a, b, c], _ => exact ⟨a, b, c, rfl⟩
section
variable {k n β : Nat} {μ : Sto} {w : WD}
theorem WD.i0 : L2.atI [D.tup w.us, D.tup w.rs, D.tup w.fs] 0 = some (D.tup w.us) := rfl
theorem WD.i1 : L2.atI [D.tup w.us, D.tup w.rs, D.tup w.fs] 1 = some (D.tup w.rs) := rfl
theorem WD.i2 : L2.atI [D.tup w.us, D.tup w.rs, D.tup w.fs] 2 = some (D.tup w.fs) := rfl
theorem stand_ok (hw : w.Ok) (B : Box β (n + 49) μ) : wp (callK Z.tab (k + 3) "_law_stand" [.ref β, .dat w.d]) (fun v μ' => ∃ s : SD, v = .dat s.d ∧ s.Ok ∧ s.Le 8 ∧ s.at_ = .non ∧ Stp β n μ μ') μ := by
  have hul := hw.fk.len
  have hrl := hw.pl.len
  refine wp_call l_stand rfl ?_
  show wp (G.exec _ f__law_stand.body [some (.ref β), some (.dat w.d), none, none, none, none, none, none, none, none, none, none, none]) _ _
  simp only [f__law_stand, WD.d]
  rw [w_seq]
  simp only [w_par, w_cons, w_nil, w_idx, w_var, w_cst, List.getElem?_cons_zero, List.getElem?_cons_succ, Option.some.injEq, exists_eq_left', w_ix_t, WD.i0, WD.i1, w_parF, w_nx, List.set_cons_zero, List.set_cons_succ]
  rw [w_seq]
  refine (?_ : wp _ (fun fl μ' => ∃ a b c : Int, fl = .nx [some (.ref β), some (.dat w.d), some (.dat (.tup [.int a, .int b, .int c])), none, none, none, none, some (.dat (.tup w.us)), some (.dat (.tup w.rs)), none, none, none, none] ∧ Stp β (n + 46) μ μ') μ).mono fun fl μ1 ⟨a, b, c, e, s1⟩ => ?_
  · simp only [wp_pure, w_seq, w_if, w_cmp, w_idx, w_var, w_cst, w_glo, w_blt, w_cons, w_nil, w_bin, w_cal, w_callk, w_not, w_set, w_setT, w_ret, w_exp, w_nx, w_rt, w_skip, w_flr, w_fln, wp_seal_dat, w_tup, w_lst, w_toDs_nil, w_toDs_cons, w_itee, w_isi, w_or, w_and, w_tb, w_comp, w_sseq, w_srng, w_sit, w_sil, wp_toDs, wipeD, w_slc, w_part0, w_part1, w_cutT, w_cutL, w_rep3, w_rep2L, w_isN, w_isnotN, w_listL, w_listT, w_tupl, w_tupt, w_len_t, w_len_l, w_eqI, w_eqB, w_neB, w_gt, w_lt, w_ge, w_le, w_add, w_par, w_parF, w_par3, w_par3F, w_snapD, w_snd, List.set_cons_zero, List.set_cons_succ, List.getElem?_cons_zero, List.getElem?_cons_succ, Option.some.injEq, exists_eq_left', iteF, List.map_cons, List.map_nil, w_rng]
    refine ⟨rfl, ?_⟩
    refine (comp_map (β := β) (t := 1) (P := fun _ y => y ∈ w.us) (fun x μ => ?_) (rangeD 3) (fun x _ m μ B => ?_) (n + 46) μ (by show Box β (n + 46 + 1 * 3) μ; exact B)).mono fun ys μ1 ⟨q1, q2, s1⟩ => ?_
    · simp only [wp_bind, wp_pure, w_seq, w_if, w_cmp, w_idx, w_var, w_cst, w_glo, w_blt, w_cons, w_nil, w_bin, w_cal, w_callk, w_not, w_set, w_setT, w_ret, w_exp, w_nx, w_rt, w_skip, w_flr, w_fln, wp_seal_dat, w_tup, w_lst, w_toDs_nil, w_toDs_cons, w_itee, w_isi, w_or, w_and, w_tb, w_comp, w_sseq, w_srng, w_sit, w_sil, wp_toDs, wipeD, w_slc, w_part0, w_part1, w_cutT, w_cutL, w_rep3, w_rep2L, w_isN, w_isnotN, w_listL, w_listT, w_tupl, w_tupt, w_len_t, w_len_l, w_eqI, w_eqB, w_neB, w_gt, w_lt, w_ge, w_le, w_add, w_par, w_parF, w_par3, w_par3F, w_snapD, w_snd, List.set_cons_zero, List.set_cons_succ, List.getElem?_cons_zero, List.getElem?_cons_succ, Option.some.injEq, exists_eq_left', iteF, List.map_cons, List.map_nil, and_self]
    · simp only [wp_pure, w_seq, w_if, w_cmp, w_idx, w_var, w_cst, w_glo, w_blt, w_cons, w_nil, w_bin, w_cal, w_callk, w_not, w_set, w_setT, w_ret, w_exp, w_nx, w_rt, w_skip, w_flr, w_fln, wp_seal_dat, w_tup, w_lst, w_toDs_nil, w_toDs_cons, w_itee, w_isi, w_or, w_and, w_tb, w_comp, w_sseq, w_srng, w_sit, w_sil, wp_toDs, wipeD, w_slc, w_part0, w_part1, w_cutT, w_cutL, w_rep3, w_rep2L, w_isN, w_isnotN, w_listL, w_listT, w_tupl, w_tupt, w_len_t, w_len_l, w_eqI, w_eqB, w_neB, w_gt, w_lt, w_ge, w_le, w_add, w_par, w_parF, w_par3, w_par3F, w_snapD, w_snd, List.set_cons_zero, List.set_cons_succ, List.getElem?_cons_zero, List.getElem?_cons_succ, Option.some.injEq, exists_eq_left', iteF, List.map_cons, List.map_nil]
      exact of_t l_take l_of hw.fk.ne (by omega) B
    have hy : ∀ d ∈ ys, ∃ i : Int, d = .int i := fun d hd => by
      obtain ⟨_, _, h⟩ := q2 d hd
      exact hw.fk.int d h
    obtain ⟨a, b, c, rfl⟩ := len3 (show ys.length = 3 from q1)
    obtain ⟨a, rfl⟩ := hy a (by simp)
    obtain ⟨b, rfl⟩ := hy b (by simp)
    obtain ⟨c, rfl⟩ := hy c (by simp)
    try simp only [wp_pure, w_seq, w_if, w_cmp, w_idx, w_var, w_cst, w_glo, w_blt, w_cons, w_nil, w_bin, w_cal, w_callk, w_not, w_set, w_setT, w_ret, w_exp, w_nx, w_rt, w_skip, w_flr, w_fln, wp_seal_dat, w_tup, w_lst, w_toDs_nil, w_toDs_cons, w_itee, w_isi, w_or, w_and, w_tb, w_comp, w_sseq, w_srng, w_sit, w_sil, wp_toDs, wipeD, w_slc, w_part0, w_part1, w_cutT, w_cutL, w_rep3, w_rep2L, w_isN, w_isnotN, w_listL, w_listT, w_tupl, w_tupt, w_len_t, w_len_l, w_eqI, w_eqB, w_neB, w_gt, w_lt, w_ge, w_le, w_add, w_par, w_parF, w_par3, w_par3F, w_snapD, w_snd, List.set_cons_zero, List.set_cons_succ, List.getElem?_cons_zero, List.getElem?_cons_succ, Option.some.injEq, exists_eq_left', iteF, List.map_cons, List.map_nil]
    exact ⟨a, b, c, rfl, s1⟩
  subst e
  rw [w_nx, w_seq]
  refine (?_ : wp _ (fun fl μ' => ∃ a b c : Int, fl = .nx [some (.ref β), some (.dat w.d), some (.dat (.tup [.int a, .int b, .int c])), none, none, none, none, some (.dat (.tup w.us)), some (.dat (.tup w.rs)), none, none, none, none] ∧ Stp β (n + 45) μ μ') μ1).mono fun fl μ2 ⟨a, b, c, e, s2⟩ => ?_
  · simp only [wp_pure, w_seq, w_if, w_cmp, w_idx, w_var, w_cst, w_glo, w_blt, w_cons, w_nil, w_bin, w_cal, w_callk, w_not, w_set, w_setT, w_ret, w_exp, w_nx, w_rt, w_skip, w_flr, w_fln, wp_seal_dat, w_tup, w_lst, w_toDs_nil, w_toDs_cons, w_itee, w_isi, w_or, w_and, w_tb, w_comp, w_sseq, w_srng, w_sit, w_sil, wp_toDs, wipeD, w_slc, w_part0, w_part1, w_cutT, w_cutL, w_rep3, w_rep2L, w_isN, w_isnotN, w_listL, w_listT, w_tupl, w_tupt, w_len_t, w_len_l, w_eqI, w_eqB, w_neB, w_gt, w_lt, w_ge, w_le, w_add, w_par, w_parF, w_par3, w_par3F, w_snapD, w_snd, List.set_cons_zero, List.set_cons_succ, List.getElem?_cons_zero, List.getElem?_cons_succ, Option.some.injEq, exists_eq_left', iteF, List.map_cons, List.map_nil]
    refine (take_st l_take (n := n + 45) (by decide) (by decide) s1.box).mono fun v μ2 ⟨r, e, r1, r2, s2⟩ => ?_
    subst e
    simp only [wp_pure, w_seq, w_if, w_cmp, w_idx, w_var, w_cst, w_glo, w_blt, w_cons, w_nil, w_bin, w_cal, w_callk, w_not, w_set, w_setT, w_ret, w_exp, w_nx, w_rt, w_skip, w_flr, w_fln, wp_seal_dat, w_tup, w_lst, w_toDs_nil, w_toDs_cons, w_itee, w_isi, w_or, w_and, w_tb, w_comp, w_sseq, w_srng, w_sit, w_sil, wp_toDs, wipeD, w_slc, w_part0, w_part1, w_cutT, w_cutL, w_rep3, w_rep2L, w_isN, w_isnotN, w_listL, w_listT, w_tupl, w_tupt, w_len_t, w_len_l, w_eqI, w_eqB, w_neB, w_gt, w_lt, w_ge, w_le, w_add, w_par, w_parF, w_par3, w_par3F, w_snapD, w_snd, List.set_cons_zero, List.set_cons_succ, List.getElem?_cons_zero, List.getElem?_cons_succ, Option.some.injEq, exists_eq_left', iteF, List.map_cons, List.map_nil]
    cases r == 0 with
    | false =>
      simp only [wp_pure, w_seq, w_if, w_cmp, w_idx, w_var, w_cst, w_glo, w_blt, w_cons, w_nil, w_bin, w_cal, w_callk, w_not, w_set, w_setT, w_ret, w_exp, w_nx, w_rt, w_skip, w_flr, w_fln, wp_seal_dat, w_tup, w_lst, w_toDs_nil, w_toDs_cons, w_itee, w_isi, w_or, w_and, w_tb, w_comp, w_sseq, w_srng, w_sit, w_sil, wp_toDs, wipeD, w_slc, w_part0, w_part1, w_cutT, w_cutL, w_rep3, w_rep2L, w_isN, w_isnotN, w_listL, w_listT, w_tupl, w_tupt, w_len_t, w_len_l, w_eqI, w_eqB, w_neB, w_gt, w_lt, w_ge, w_le, w_add, w_par, w_parF, w_par3, w_par3F, w_snapD, w_snd, List.set_cons_zero, List.set_cons_succ, List.getElem?_cons_zero, List.getElem?_cons_succ, Option.some.injEq, exists_eq_left', iteF, List.map_cons, List.map_nil]
      exact ⟨a, b, c, rfl, s1.trans s2⟩
    | true =>
      simp only [wp_pure, w_seq, w_if, w_cmp, w_idx, w_var, w_cst, w_glo, w_blt, w_cons, w_nil, w_bin, w_cal, w_callk, w_not, w_set, w_setT, w_ret, w_exp, w_nx, w_rt, w_skip, w_flr, w_fln, wp_seal_dat, w_tup, w_lst, w_toDs_nil, w_toDs_cons, w_itee, w_isi, w_or, w_and, w_tb, w_comp, w_sseq, w_srng, w_sit, w_sil, wp_toDs, wipeD, w_slc, w_part0, w_part1, w_cutT, w_cutL, w_rep3, w_rep2L, w_isN, w_isnotN, w_listL, w_listT, w_tupl, w_tupt, w_len_t, w_len_l, w_eqI, w_eqB, w_neB, w_gt, w_lt, w_ge, w_le, w_add, w_par, w_parF, w_par3, w_par3F, w_snapD, w_snd, List.set_cons_zero, List.set_cons_succ, List.getElem?_cons_zero, List.getElem?_cons_succ, Option.some.injEq, exists_eq_left', iteF, List.map_cons, List.map_nil, w_ix_t, show L2.atI [D.int a, .int b, .int c] 0 = some (.int a) from rfl]
      exact ⟨rfl, a, a, a, rfl, s1.trans s2⟩
  subst e
  simp only [wp_pure, w_seq, w_if, w_cmp, w_idx, w_var, w_cst, w_glo, w_blt, w_cons, w_nil, w_bin, w_cal, w_callk, w_not, w_set, w_setT, w_ret, w_exp, w_nx, w_rt, w_skip, w_flr, w_fln, wp_seal_dat, w_tup, w_lst, w_toDs_nil, w_toDs_cons, w_itee, w_isi, w_or, w_and, w_tb, w_comp, w_sseq, w_srng, w_sit, w_sil, wp_toDs, wipeD, w_slc, w_part0, w_part1, w_cutT, w_cutL, w_rep3, w_rep2L, w_isN, w_isnotN, w_listL, w_listT, w_tupl, w_tupt, w_len_t, w_len_l, w_eqI, w_eqB, w_neB, w_gt, w_lt, w_ge, w_le, w_add, w_par, w_parF, w_par3, w_par3F, w_snapD, w_snd, List.set_cons_zero, List.set_cons_succ, List.getElem?_cons_zero, List.getElem?_cons_succ, Option.some.injEq, exists_eq_left', iteF, List.map_cons, List.map_nil]
  refine (few_ok l_take l_few (n := n + 37) (by decide) (by decide) (s2.box.less (by omega))).mono fun v μ3 ⟨mi, e, q1, s3⟩ => ?_
  subst e
  refine (few_ok l_take l_few (n := n + 29) (by decide) (by decide) (s3.box.less (by omega))).mono fun v μ4 ⟨wi, e, q2, s4⟩ => ?_
  subst e
  simp only [wp_pure, w_seq, w_if, w_cmp, w_idx, w_var, w_cst, w_glo, w_blt, w_cons, w_nil, w_bin, w_cal, w_callk, w_not, w_set, w_setT, w_ret, w_exp, w_nx, w_rt, w_skip, w_flr, w_fln, wp_seal_dat, w_tup, w_lst, w_toDs_nil, w_toDs_cons, w_itee, w_isi, w_or, w_and, w_tb, w_comp, w_sseq, w_srng, w_sit, w_sil, wp_toDs, wipeD, w_slc, w_part0, w_part1, w_cutT, w_cutL, w_rep3, w_rep2L, w_isN, w_isnotN, w_listL, w_listT, w_tupl, w_tupt, w_len_t, w_len_l, w_eqI, w_eqB, w_neB, w_gt, w_lt, w_ge, w_le, w_add, w_par, w_parF, w_par3, w_par3F, w_snapD, w_snd, List.set_cons_zero, List.set_cons_succ, List.getElem?_cons_zero, List.getElem?_cons_succ, Option.some.injEq, exists_eq_left', iteF, List.map_cons, List.map_nil]
  have h1 := q1.length_le
  have h2 := q2.length_le
  refine (comp_filter (β := β) (t := 1) (fun x μ => ?_) mi (fun x _ m μ B => ?_) (n + 21) μ4 (by rw [Nat.one_mul]; exact s4.box.less (by omega))).mono fun ne μ5 ⟨q3, s5⟩ => ?_
  · simp only [wp_pure, w_seq, w_if, w_cmp, w_idx, w_var, w_cst, w_glo, w_blt, w_cons, w_nil, w_bin, w_cal, w_callk, w_not, w_set, w_setT, w_ret, w_exp, w_nx, w_rt, w_skip, w_flr, w_fln, wp_seal_dat, w_tup, w_lst, w_toDs_nil, w_toDs_cons, w_itee, w_isi, w_or, w_and, w_tb, w_comp, w_sseq, w_srng, w_sit, w_sil, wp_toDs, wipeD, w_slc, w_part0, w_part1, w_cutT, w_cutL, w_rep3, w_rep2L, w_isN, w_isnotN, w_listL, w_listT, w_tupl, w_tupt, w_len_t, w_len_l, w_eqI, w_eqB, w_neB, w_gt, w_lt, w_ge, w_le, w_add, w_par, w_parF, w_par3, w_par3F, w_snapD, w_snd, List.set_cons_zero, List.set_cons_succ, List.getElem?_cons_zero, List.getElem?_cons_succ, Option.some.injEq, exists_eq_left', iteF, List.map_cons, List.map_nil, and_self]
  · simp only [wp_bind, wp_pure, w_seq, w_if, w_cmp, w_idx, w_var, w_cst, w_glo, w_blt, w_cons, w_nil, w_bin, w_cal, w_callk, w_not, w_set, w_setT, w_ret, w_exp, w_nx, w_rt, w_skip, w_flr, w_fln, wp_seal_dat, w_tup, w_lst, w_toDs_nil, w_toDs_cons, w_itee, w_isi, w_or, w_and, w_tb, w_comp, w_sseq, w_srng, w_sit, w_sil, wp_toDs, wipeD, w_slc, w_part0, w_part1, w_cutT, w_cutL, w_rep3, w_rep2L, w_isN, w_isnotN, w_listL, w_listT, w_tupl, w_tupt, w_len_t, w_len_l, w_eqI, w_eqB, w_neB, w_gt, w_lt, w_ge, w_le, w_add, w_par, w_parF, w_par3, w_par3F, w_snapD, w_snd, List.set_cons_zero, List.set_cons_succ, List.getElem?_cons_zero, List.getElem?_cons_succ, Option.some.injEq, exists_eq_left', iteF, List.map_cons, List.map_nil]
    refine (take_st l_take (by decide) (by decide) B).mono fun v μ' ⟨r, e, _, _, st⟩ => ?_
    subst e
    simp only [wp_pure, w_seq, w_if, w_cmp, w_idx, w_var, w_cst, w_glo, w_blt, w_cons, w_nil, w_bin, w_cal, w_callk, w_not, w_set, w_setT, w_ret, w_exp, w_nx, w_rt, w_skip, w_flr, w_fln, wp_seal_dat, w_tup, w_lst, w_toDs_nil, w_toDs_cons, w_itee, w_isi, w_or, w_and, w_tb, w_comp, w_sseq, w_srng, w_sit, w_sil, wp_toDs, wipeD, w_slc, w_part0, w_part1, w_cutT, w_cutL, w_rep3, w_rep2L, w_isN, w_isnotN, w_listL, w_listT, w_tupl, w_tupt, w_len_t, w_len_l, w_eqI, w_eqB, w_neB, w_gt, w_lt, w_ge, w_le, w_add, w_par, w_parF, w_par3, w_par3F, w_snapD, w_snd, List.set_cons_zero, List.set_cons_succ, List.getElem?_cons_zero, List.getElem?_cons_succ, Option.some.injEq, exists_eq_left', iteF, List.map_cons, List.map_nil]
    exact st
  try simp only [wp_pure, w_seq, w_if, w_cmp, w_idx, w_var, w_cst, w_glo, w_blt, w_cons, w_nil, w_bin, w_cal, w_callk, w_not, w_set, w_setT, w_ret, w_exp, w_nx, w_rt, w_skip, w_flr, w_fln, wp_seal_dat, w_tup, w_lst, w_toDs_nil, w_toDs_cons, w_itee, w_isi, w_or, w_and, w_tb, w_comp, w_sseq, w_srng, w_sit, w_sil, wp_toDs, wipeD, w_slc, w_part0, w_part1, w_cutT, w_cutL, w_rep3, w_rep2L, w_isN, w_isnotN, w_listL, w_listT, w_tupl, w_tupt, w_len_t, w_len_l, w_eqI, w_eqB, w_neB, w_gt, w_lt, w_ge, w_le, w_add, w_par, w_parF, w_par3, w_par3F, w_snapD, w_snd, List.set_cons_zero, List.set_cons_succ, List.getElem?_cons_zero, List.getElem?_cons_succ, Option.some.injEq, exists_eq_left', iteF, List.map_cons, List.map_nil]
  refine (comp_filter (β := β) (t := 1) (fun x μ => ?_) mi (fun x hx m μ B => ?_) (n + 13) μ5 (by rw [Nat.one_mul]; exact s5.box.less (by omega))).mono fun ke μ6 ⟨q4, s6⟩ => ?_
  · simp only [wp_pure, w_seq, w_if, w_cmp, w_idx, w_var, w_cst, w_glo, w_blt, w_cons, w_nil, w_bin, w_cal, w_callk, w_not, w_set, w_setT, w_ret, w_exp, w_nx, w_rt, w_skip, w_flr, w_fln, wp_seal_dat, w_tup, w_lst, w_toDs_nil, w_toDs_cons, w_itee, w_isi, w_or, w_and, w_tb, w_comp, w_sseq, w_srng, w_sit, w_sil, wp_toDs, wipeD, w_slc, w_part0, w_part1, w_cutT, w_cutL, w_rep3, w_rep2L, w_isN, w_isnotN, w_listL, w_listT, w_tupl, w_tupt, w_len_t, w_len_l, w_eqI, w_eqB, w_neB, w_gt, w_lt, w_ge, w_le, w_add, w_par, w_parF, w_par3, w_par3F, w_snapD, w_snd, List.set_cons_zero, List.set_cons_succ, List.getElem?_cons_zero, List.getElem?_cons_succ, Option.some.injEq, exists_eq_left', iteF, List.map_cons, List.map_nil, and_self]
  · simp only [wp_bind, wp_pure, w_seq, w_if, w_cmp, w_idx, w_var, w_cst, w_glo, w_blt, w_cons, w_nil, w_bin, w_cal, w_callk, w_not, w_set, w_setT, w_ret, w_exp, w_nx, w_rt, w_skip, w_flr, w_fln, wp_seal_dat, w_tup, w_lst, w_toDs_nil, w_toDs_cons, w_itee, w_isi, w_or, w_and, w_tb, w_comp, w_sseq, w_srng, w_sit, w_sil, wp_toDs, wipeD, w_slc, w_part0, w_part1, w_cutT, w_cutL, w_rep3, w_rep2L, w_isN, w_isnotN, w_listL, w_listT, w_tupl, w_tupt, w_len_t, w_len_l, w_eqI, w_eqB, w_neB, w_gt, w_lt, w_ge, w_le, w_add, w_par, w_parF, w_par3, w_par3F, w_snapD, w_snd, List.set_cons_zero, List.set_cons_succ, List.getElem?_cons_zero, List.getElem?_cons_succ, Option.some.injEq, exists_eq_left', iteF, List.map_cons, List.map_nil, w_inT (((hw.pl.str.sub q1).flt (n := 1) x hx).cmpb (by decide)) (all_cmpb ((hw.pl.str.sub q2).flt (n := 1)) (by decide))]
    cases hasD wi x with
    | false =>
      simp only [wp_pure, w_seq, w_if, w_cmp, w_idx, w_var, w_cst, w_glo, w_blt, w_cons, w_nil, w_bin, w_cal, w_callk, w_not, w_set, w_setT, w_ret, w_exp, w_nx, w_rt, w_skip, w_flr, w_fln, wp_seal_dat, w_tup, w_lst, w_toDs_nil, w_toDs_cons, w_itee, w_isi, w_or, w_and, w_tb, w_comp, w_sseq, w_srng, w_sit, w_sil, wp_toDs, wipeD, w_slc, w_part0, w_part1, w_cutT, w_cutL, w_rep3, w_rep2L, w_isN, w_isnotN, w_listL, w_listT, w_tupl, w_tupt, w_len_t, w_len_l, w_eqI, w_eqB, w_neB, w_gt, w_lt, w_ge, w_le, w_add, w_par, w_parF, w_par3, w_par3F, w_snapD, w_snd, List.set_cons_zero, List.set_cons_succ, List.getElem?_cons_zero, List.getElem?_cons_succ, Option.some.injEq, exists_eq_left', iteF, List.map_cons, List.map_nil]
      exact .refl (B.less (by omega))
    | true =>
      simp only [wp_pure, w_seq, w_if, w_cmp, w_idx, w_var, w_cst, w_glo, w_blt, w_cons, w_nil, w_bin, w_cal, w_callk, w_not, w_set, w_setT, w_ret, w_exp, w_nx, w_rt, w_skip, w_flr, w_fln, wp_seal_dat, w_tup, w_lst, w_toDs_nil, w_toDs_cons, w_itee, w_isi, w_or, w_and, w_tb, w_comp, w_sseq, w_srng, w_sit, w_sil, wp_toDs, wipeD, w_slc, w_part0, w_part1, w_cutT, w_cutL, w_rep3, w_rep2L, w_isN, w_isnotN, w_listL, w_listT, w_tupl, w_tupt, w_len_t, w_len_l, w_eqI, w_eqB, w_neB, w_gt, w_lt, w_ge, w_le, w_add, w_par, w_parF, w_par3, w_par3F, w_snapD, w_snd, List.set_cons_zero, List.set_cons_succ, List.getElem?_cons_zero, List.getElem?_cons_succ, Option.some.injEq, exists_eq_left', iteF, List.map_cons, List.map_nil]
      refine (take_st l_take (by decide) (by decide) B).mono fun v μ' ⟨r, e, _, _, st⟩ => ?_
      subst e
      simp only [wp_pure, w_seq, w_if, w_cmp, w_idx, w_var, w_cst, w_glo, w_blt, w_cons, w_nil, w_bin, w_cal, w_callk, w_not, w_set, w_setT, w_ret, w_exp, w_nx, w_rt, w_skip, w_flr, w_fln, wp_seal_dat, w_tup, w_lst, w_toDs_nil, w_toDs_cons, w_itee, w_isi, w_or, w_and, w_tb, w_comp, w_sseq, w_srng, w_sit, w_sil, wp_toDs, wipeD, w_slc, w_part0, w_part1, w_cutT, w_cutL, w_rep3, w_rep2L, w_isN, w_isnotN, w_listL, w_listT, w_tupl, w_tupt, w_len_t, w_len_l, w_eqI, w_eqB, w_neB, w_gt, w_lt, w_ge, w_le, w_add, w_par, w_parF, w_par3, w_par3F, w_snapD, w_snd, List.set_cons_zero, List.set_cons_succ, List.getElem?_cons_zero, List.getElem?_cons_succ, Option.some.injEq, exists_eq_left', iteF, List.map_cons, List.map_nil]
      exact st
  try simp only [wp_pure, w_seq, w_if, w_cmp, w_idx, w_var, w_cst, w_glo, w_blt, w_cons, w_nil, w_bin, w_cal, w_callk, w_not, w_set, w_setT, w_ret, w_exp, w_nx, w_rt, w_skip, w_flr, w_fln, wp_seal_dat, w_tup, w_lst, w_toDs_nil, w_toDs_cons, w_itee, w_isi, w_or, w_and, w_tb, w_comp, w_sseq, w_srng, w_sit, w_sil, wp_toDs, wipeD, w_slc, w_part0, w_part1, w_cutT, w_cutL, w_rep3, w_rep2L, w_isN, w_isnotN, w_listL, w_listT, w_tupl, w_tupt, w_len_t, w_len_l, w_eqI, w_eqB, w_neB, w_gt, w_lt, w_ge, w_le, w_add, w_par, w_parF, w_par3, w_par3F, w_snapD, w_snd, List.set_cons_zero, List.set_cons_succ, List.getElem?_cons_zero, List.getElem?_cons_succ, Option.some.injEq, exists_eq_left', iteF, List.map_cons, List.map_nil]
  refine (comp_filter (β := β) (t := 1) (fun x μ => ?_) w.rs (fun x hx m μ B => ?_) (n + 5) μ6 (by rw [Nat.one_mul]; exact s6.box.less (by omega))).mono fun bo μ7 ⟨q5, s7⟩ => ?_
  · simp only [wp_pure, w_seq, w_if, w_cmp, w_idx, w_var, w_cst, w_glo, w_blt, w_cons, w_nil, w_bin, w_cal, w_callk, w_not, w_set, w_setT, w_ret, w_exp, w_nx, w_rt, w_skip, w_flr, w_fln, wp_seal_dat, w_tup, w_lst, w_toDs_nil, w_toDs_cons, w_itee, w_isi, w_or, w_and, w_tb, w_comp, w_sseq, w_srng, w_sit, w_sil, wp_toDs, wipeD, w_slc, w_part0, w_part1, w_cutT, w_cutL, w_rep3, w_rep2L, w_isN, w_isnotN, w_listL, w_listT, w_tupl, w_tupt, w_len_t, w_len_l, w_eqI, w_eqB, w_neB, w_gt, w_lt, w_ge, w_le, w_add, w_par, w_parF, w_par3, w_par3F, w_snapD, w_snd, List.set_cons_zero, List.set_cons_succ, List.getElem?_cons_zero, List.getElem?_cons_succ, Option.some.injEq, exists_eq_left', iteF, List.map_cons, List.map_nil, and_self]
  · simp only [wp_bind, wp_pure, w_seq, w_if, w_cmp, w_idx, w_var, w_cst, w_glo, w_blt, w_cons, w_nil, w_bin, w_cal, w_callk, w_not, w_set, w_setT, w_ret, w_exp, w_nx, w_rt, w_skip, w_flr, w_fln, wp_seal_dat, w_tup, w_lst, w_toDs_nil, w_toDs_cons, w_itee, w_isi, w_or, w_and, w_tb, w_comp, w_sseq, w_srng, w_sit, w_sil, wp_toDs, wipeD, w_slc, w_part0, w_part1, w_cutT, w_cutL, w_rep3, w_rep2L, w_isN, w_isnotN, w_listL, w_listT, w_tupl, w_tupt, w_len_t, w_len_l, w_eqI, w_eqB, w_neB, w_gt, w_lt, w_ge, w_le, w_add, w_par, w_parF, w_par3, w_par3F, w_snapD, w_snd, List.set_cons_zero, List.set_cons_succ, List.getElem?_cons_zero, List.getElem?_cons_succ, Option.some.injEq, exists_eq_left', iteF, List.map_cons, List.map_nil]
    refine (take_st l_take (by decide) (by decide) B).mono fun v μ' ⟨r, e, _, _, st⟩ => ?_
    subst e
    simp only [wp_pure, w_seq, w_if, w_cmp, w_idx, w_var, w_cst, w_glo, w_blt, w_cons, w_nil, w_bin, w_cal, w_callk, w_not, w_set, w_setT, w_ret, w_exp, w_nx, w_rt, w_skip, w_flr, w_fln, wp_seal_dat, w_tup, w_lst, w_toDs_nil, w_toDs_cons, w_itee, w_isi, w_or, w_and, w_tb, w_comp, w_sseq, w_srng, w_sit, w_sil, wp_toDs, wipeD, w_slc, w_part0, w_part1, w_cutT, w_cutL, w_rep3, w_rep2L, w_isN, w_isnotN, w_listL, w_listT, w_tupl, w_tupt, w_len_t, w_len_l, w_eqI, w_eqB, w_neB, w_gt, w_lt, w_ge, w_le, w_add, w_par, w_parF, w_par3, w_par3F, w_snapD, w_snd, List.set_cons_zero, List.set_cons_succ, List.getElem?_cons_zero, List.getElem?_cons_succ, Option.some.injEq, exists_eq_left', iteF, List.map_cons, List.map_nil]
    exact st
  try simp only [wp_pure, w_seq, w_if, w_cmp, w_idx, w_var, w_cst, w_glo, w_blt, w_cons, w_nil, w_bin, w_cal, w_callk, w_not, w_set, w_setT, w_ret, w_exp, w_nx, w_rt, w_skip, w_flr, w_fln, wp_seal_dat, w_tup, w_lst, w_toDs_nil, w_toDs_cons, w_itee, w_isi, w_or, w_and, w_tb, w_comp, w_sseq, w_srng, w_sit, w_sil, wp_toDs, wipeD, w_slc, w_part0, w_part1, w_cutT, w_cutL, w_rep3, w_rep2L, w_isN, w_isnotN, w_listL, w_listT, w_tupl, w_tupt, w_len_t, w_len_l, w_eqI, w_eqB, w_neB, w_gt, w_lt, w_ge, w_le, w_add, w_par, w_parF, w_par3, w_par3F, w_snapD, w_snd, List.set_cons_zero, List.set_cons_succ, List.getElem?_cons_zero, List.getElem?_cons_succ, Option.some.injEq, exists_eq_left', iteF, List.map_cons, List.map_nil]
  refine ⟨rfl, ?_⟩
  refine (few_ok l_take l_few (ds := sw5) (n := n) (by decide) (by decide) s7.box).mono fun v μ8 ⟨sw, e, q6, s8⟩ => ?_
  subst e
  have sf := (((((s2.trans s3).trans s4).trans s5).trans s6).trans s7).trans s8
  simp only [wp_pure, w_seq, w_if, w_cmp, w_idx, w_var, w_cst, w_glo, w_blt, w_cons, w_nil, w_bin, w_cal, w_callk, w_not, w_set, w_setT, w_ret, w_exp, w_nx, w_rt, w_skip, w_flr, w_fln, wp_seal_dat, w_tup, w_lst, w_toDs_nil, w_toDs_cons, w_itee, w_isi, w_or, w_and, w_tb, w_comp, w_sseq, w_srng, w_sit, w_sil, wp_toDs, wipeD, w_slc, w_part0, w_part1, w_cutT, w_cutL, w_rep3, w_rep2L, w_isN, w_isnotN, w_listL, w_listT, w_tupl, w_tupt, w_len_t, w_len_l, w_eqI, w_eqB, w_neB, w_gt, w_lt, w_ge, w_le, w_add, w_par, w_parF, w_par3, w_par3F, w_snapD, w_snd, List.set_cons_zero, List.set_cons_succ, List.getElem?_cons_zero, List.getElem?_cons_succ, Option.some.injEq, exists_eq_left', iteF, List.map_cons, List.map_nil, sf.take]
  refine ⟨rfl, rfl, ⟨[.int a, .int b, .int c], [mi, ne, wi, ke, bo], sw, .non⟩, rfl, ⟨⟨a, b, c, rfl⟩, fun l hl => ?_, rfl, sw5_str.sub q6, .non⟩, fun l hl => ?_, rfl, sf⟩
  · simp only [List.mem_cons, List.mem_nil_iff, or_false] at hl
    rcases hl with rfl | rfl | rfl | rfl | rfl
    · exact hw.pl.str.sub q1
    · exact (hw.pl.str.sub q1).sub q3
    · exact hw.pl.str.sub q2
    · exact (hw.pl.str.sub q1).sub q4
    · exact hw.pl.str.sub q5
  · have h3 := q3.length_le
    have h4 := q4.length_le
    have h5 := q5.length_le
    simp only [List.mem_cons, List.mem_nil_iff, or_false] at hl
    rcases hl with rfl | rfl | rfl | rfl | rfl <;> omega
theorem spot_ok (hw : w.Ok) (B : Box β (n + 52) μ) : wp (callK Z.tab (k + 4) "_law_spot" [.ref β, .dat w.d]) (fun v μ' => ∃ s : SD, v = .dat s.d ∧ s.Ok ∧ s.Le 8 ∧ Stp β n μ μ') μ := by
  refine wp_call l_spot rfl ?_
  show wp (G.exec _ f__law_spot.body [some (.ref β), some (.dat w.d), none, none, none]) _ _
  simp only [f__law_spot, wp_pure, w_seq, w_if, w_cmp, w_idx, w_var, w_cst, w_glo, w_blt, w_cons, w_nil, w_bin, w_cal, w_callk, w_not, w_set, w_setT, w_ret, w_exp, w_nx, w_rt, w_skip, w_flr, w_fln, wp_seal_dat, w_tup, w_lst, w_toDs_nil, w_toDs_cons, w_itee, w_isi, w_or, w_and, w_tb, w_comp, w_sseq, w_srng, w_sit, w_sil, wp_toDs, wipeD, w_slc, w_part0, w_part1, w_cutT, w_cutL, w_rep3, w_rep2L, w_isN, w_isnotN, w_listL, w_listT, w_tupl, w_tupt, w_len_t, w_len_l, w_eqI, w_eqB, w_neB, w_gt, w_lt, w_ge, w_le, w_add, w_par, w_parF, w_par3, w_par3F, w_snapD, w_snd, List.set_cons_zero, List.set_cons_succ, List.getElem?_cons_zero, List.getElem?_cons_succ, Option.some.injEq, exists_eq_left', iteF, List.map_cons, List.map_nil]
  refine (stand_ok (n := n + 3) hw B).mono fun v μ1 ⟨s, e, h1, h2, h3, s1⟩ => ?_
  subst e
  simp only [wp_pure, w_seq, w_if, w_cmp, w_idx, w_var, w_cst, w_glo, w_blt, w_cons, w_nil, w_bin, w_cal, w_callk, w_not, w_set, w_setT, w_ret, w_exp, w_nx, w_rt, w_skip, w_flr, w_fln, wp_seal_dat, w_tup, w_lst, w_toDs_nil, w_toDs_cons, w_itee, w_isi, w_or, w_and, w_tb, w_comp, w_sseq, w_srng, w_sit, w_sil, wp_toDs, wipeD, w_slc, w_part0, w_part1, w_cutT, w_cutL, w_rep3, w_rep2L, w_isN, w_isnotN, w_listL, w_listT, w_tupl, w_tupt, w_len_t, w_len_l, w_eqI, w_eqB, w_neB, w_gt, w_lt, w_ge, w_le, w_add, w_par, w_parF, w_par3, w_par3F, w_snapD, w_snd, List.set_cons_zero, List.set_cons_succ, List.getElem?_cons_zero, List.getElem?_cons_succ, Option.some.injEq, exists_eq_left', iteF, List.map_cons, List.map_nil, WD.d, w_ix_t, WD.i2]
  have hr6 : ∀ x ∈ w.fs, ∃ n o a g st t, x = .tup [.str n, o, a, g, st, t] ∧ Flt 4 x ∧ (t = .non ∨ ∃ ds, t = .tup ds ∧ ds ≠ [] ∧ ds.length ≤ 3) := hw.rw
  have i5 : ∀ n o a g st t : D, L2.atI [n, o, a, g, st, t] 5 = some t := fun _ _ _ _ _ _ => rfl
  have i0 : ∀ n o a g st t : D, L2.atI [n, o, a, g, st, t] 0 = some n := fun _ _ _ _ _ _ => rfl
  let p : D → Bool := fun x => match x with
    | .tup [_, _, _, _, _, t] => !isNone (.dat t)
    | _ => false
  refine (comp_fm (p := p) (f := fun x => x) w.fs (fun x hx => ?_) fun x hx _ => ?_).mono fun ys μ2 ⟨q1, q2⟩ => ?_
  · obtain ⟨n, o, a, g, st, t, rfl, _, _⟩ := hr6 x hx
    simp only [wp_bind, wp_pure, w_seq, w_if, w_cmp, w_idx, w_var, w_cst, w_glo, w_blt, w_cons, w_nil, w_bin, w_cal, w_callk, w_not, w_set, w_setT, w_ret, w_exp, w_nx, w_rt, w_skip, w_flr, w_fln, wp_seal_dat, w_tup, w_lst, w_toDs_nil, w_toDs_cons, w_itee, w_isi, w_or, w_and, w_tb, w_comp, w_sseq, w_srng, w_sit, w_sil, wp_toDs, wipeD, w_slc, w_part0, w_part1, w_cutT, w_cutL, w_rep3, w_rep2L, w_isN, w_isnotN, w_listL, w_listT, w_tupl, w_tupt, w_len_t, w_len_l, w_eqI, w_eqB, w_neB, w_gt, w_lt, w_ge, w_le, w_add, w_par, w_parF, w_par3, w_par3F, w_snapD, w_snd, List.set_cons_zero, List.set_cons_succ, List.getElem?_cons_zero, List.getElem?_cons_succ, Option.some.injEq, exists_eq_left', iteF, List.map_cons, List.map_nil, w_ix_t, i5, and_true]
    rfl
  · simp only [wp_pure, w_seq, w_if, w_cmp, w_idx, w_var, w_cst, w_glo, w_blt, w_cons, w_nil, w_bin, w_cal, w_callk, w_not, w_set, w_setT, w_ret, w_exp, w_nx, w_rt, w_skip, w_flr, w_fln, wp_seal_dat, w_tup, w_lst, w_toDs_nil, w_toDs_cons, w_itee, w_isi, w_or, w_and, w_tb, w_comp, w_sseq, w_srng, w_sit, w_sil, wp_toDs, wipeD, w_slc, w_part0, w_part1, w_cutT, w_cutL, w_rep3, w_rep2L, w_isN, w_isnotN, w_listL, w_listT, w_tupl, w_tupt, w_len_t, w_len_l, w_eqI, w_eqB, w_neB, w_gt, w_lt, w_ge, w_le, w_add, w_par, w_parF, w_par3, w_par3F, w_snapD, w_snd, List.set_cons_zero, List.set_cons_succ, List.getElem?_cons_zero, List.getElem?_cons_succ, Option.some.injEq, exists_eq_left', iteF, List.map_cons, List.map_nil, and_self]
  subst q1 q2
  rw [List.map_id']
  have cy : (D.lst (w.fs.filter p)).cmpb = true := lst_cmpb (n := 4) (fun d hd => by
    obtain ⟨n, o, a, g, st, t, e, h, _⟩ := hr6 d (List.mem_filter.mp hd).1
    exact h) (by decide)
  simp only [wp_pure, w_seq, w_if, w_cmp, w_idx, w_var, w_cst, w_glo, w_blt, w_cons, w_nil, w_bin, w_cal, w_callk, w_not, w_set, w_setT, w_ret, w_exp, w_nx, w_rt, w_skip, w_flr, w_fln, wp_seal_dat, w_tup, w_lst, w_toDs_nil, w_toDs_cons, w_itee, w_isi, w_or, w_and, w_tb, w_comp, w_sseq, w_srng, w_sit, w_sil, wp_toDs, wipeD, w_slc, w_part0, w_part1, w_cutT, w_cutL, w_rep3, w_rep2L, w_isN, w_isnotN, w_listL, w_listT, w_tupl, w_tupt, w_len_t, w_len_l, w_eqI, w_eqB, w_neB, w_gt, w_lt, w_ge, w_le, w_add, w_par, w_parF, w_par3, w_par3F, w_snapD, w_snd, List.set_cons_zero, List.set_cons_succ, List.getElem?_cons_zero, List.getElem?_cons_succ, Option.some.injEq, exists_eq_left', iteF, List.map_cons, List.map_nil, w_eqD cy (show (D.lst []).cmpb = true by decide), eqv_nilL]
  refine ⟨rfl, ?_⟩
  cases he : (w.fs.filter p).isEmpty with
  | true =>
    simp only [wp_pure, w_seq, w_if, w_cmp, w_idx, w_var, w_cst, w_glo, w_blt, w_cons, w_nil, w_bin, w_cal, w_callk, w_not, w_set, w_setT, w_ret, w_exp, w_nx, w_rt, w_skip, w_flr, w_fln, wp_seal_dat, w_tup, w_lst, w_toDs_nil, w_toDs_cons, w_itee, w_isi, w_or, w_and, w_tb, w_comp, w_sseq, w_srng, w_sit, w_sil, wp_toDs, wipeD, w_slc, w_part0, w_part1, w_cutT, w_cutL, w_rep3, w_rep2L, w_isN, w_isnotN, w_listL, w_listT, w_tupl, w_tupt, w_len_t, w_len_l, w_eqI, w_eqB, w_neB, w_gt, w_lt, w_ge, w_le, w_add, w_par, w_parF, w_par3, w_par3F, w_snapD, w_snd, List.set_cons_zero, List.set_cons_succ, List.getElem?_cons_zero, List.getElem?_cons_succ, Option.some.injEq, exists_eq_left', iteF, List.map_cons, List.map_nil, s1.take]
    exact ⟨s, rfl, h1, h2, s1.less (by omega)⟩
  | false =>
    simp only [wp_pure, w_seq, w_if, w_cmp, w_idx, w_var, w_cst, w_glo, w_blt, w_cons, w_nil, w_bin, w_cal, w_callk, w_not, w_set, w_setT, w_ret, w_exp, w_nx, w_rt, w_skip, w_flr, w_fln, wp_seal_dat, w_tup, w_lst, w_toDs_nil, w_toDs_cons, w_itee, w_isi, w_or, w_and, w_tb, w_comp, w_sseq, w_srng, w_sit, w_sil, wp_toDs, wipeD, w_slc, w_part0, w_part1, w_cutT, w_cutL, w_rep3, w_rep2L, w_isN, w_isnotN, w_listL, w_listT, w_tupl, w_tupt, w_len_t, w_len_l, w_eqI, w_eqB, w_neB, w_gt, w_lt, w_ge, w_le, w_add, w_par, w_parF, w_par3, w_par3F, w_snapD, w_snd, List.set_cons_zero, List.set_cons_succ, List.getElem?_cons_zero, List.getElem?_cons_succ, Option.some.injEq, exists_eq_left', iteF, List.map_cons, List.map_nil]
    refine (take_st l_take (n := n + 2) (by decide) (by decide) s1.box).mono fun v μ3 ⟨r, e, r1, r2, s2⟩ => ?_
    subst e
    simp only [wp_pure, w_seq, w_if, w_cmp, w_idx, w_var, w_cst, w_glo, w_blt, w_cons, w_nil, w_bin, w_cal, w_callk, w_not, w_set, w_setT, w_ret, w_exp, w_nx, w_rt, w_skip, w_flr, w_fln, wp_seal_dat, w_tup, w_lst, w_toDs_nil, w_toDs_cons, w_itee, w_isi, w_or, w_and, w_tb, w_comp, w_sseq, w_srng, w_sit, w_sil, wp_toDs, wipeD, w_slc, w_part0, w_part1, w_cutT, w_cutL, w_rep3, w_rep2L, w_isN, w_isnotN, w_listL, w_listT, w_tupl, w_tupt, w_len_t, w_len_l, w_eqI, w_eqB, w_neB, w_gt, w_lt, w_ge, w_le, w_add, w_par, w_parF, w_par3, w_par3F, w_snapD, w_snd, List.set_cons_zero, List.set_cons_succ, List.getElem?_cons_zero, List.getElem?_cons_succ, Option.some.injEq, exists_eq_left', iteF, List.map_cons, List.map_nil]
    cases r == 0 with
    | true =>
      simp only [wp_pure, w_seq, w_if, w_cmp, w_idx, w_var, w_cst, w_glo, w_blt, w_cons, w_nil, w_bin, w_cal, w_callk, w_not, w_set, w_setT, w_ret, w_exp, w_nx, w_rt, w_skip, w_flr, w_fln, wp_seal_dat, w_tup, w_lst, w_toDs_nil, w_toDs_cons, w_itee, w_isi, w_or, w_and, w_tb, w_comp, w_sseq, w_srng, w_sit, w_sil, wp_toDs, wipeD, w_slc, w_part0, w_part1, w_cutT, w_cutL, w_rep3, w_rep2L, w_isN, w_isnotN, w_listL, w_listT, w_tupl, w_tupt, w_len_t, w_len_l, w_eqI, w_eqB, w_neB, w_gt, w_lt, w_ge, w_le, w_add, w_par, w_parF, w_par3, w_par3F, w_snapD, w_snd, List.set_cons_zero, List.set_cons_succ, List.getElem?_cons_zero, List.getElem?_cons_succ, Option.some.injEq, exists_eq_left', iteF, List.map_cons, List.map_nil, (s1.trans s2).take]
      exact ⟨s, rfl, h1, h2, (s1.trans s2).less (by omega)⟩
    | false =>
      simp only [wp_pure, w_seq, w_if, w_cmp, w_idx, w_var, w_cst, w_glo, w_blt, w_cons, w_nil, w_bin, w_cal, w_callk, w_not, w_set, w_setT, w_ret, w_exp, w_nx, w_rt, w_skip, w_flr, w_fln, wp_seal_dat, w_tup, w_lst, w_toDs_nil, w_toDs_cons, w_itee, w_isi, w_or, w_and, w_tb, w_comp, w_sseq, w_srng, w_sit, w_sil, wp_toDs, wipeD, w_slc, w_part0, w_part1, w_cutT, w_cutL, w_rep3, w_rep2L, w_isN, w_isnotN, w_listL, w_listT, w_tupl, w_tupt, w_len_t, w_len_l, w_eqI, w_eqB, w_neB, w_gt, w_lt, w_ge, w_le, w_add, w_par, w_parF, w_par3, w_par3F, w_snapD, w_snd, List.set_cons_zero, List.set_cons_succ, List.getElem?_cons_zero, List.getElem?_cons_succ, Option.some.injEq, exists_eq_left', iteF, List.map_cons, List.map_nil]
      refine (of_l l_take l_of (n := n + 1) (by intro z; rw [z] at he; cases he) (Nat.lt_of_le_of_lt (List.length_filter_le ..) (by have := hw.len; omega)) s2.box).mono fun v μ4 ⟨d, e, hd, s3⟩ => ?_
      subst e
      obtain ⟨hd, hp⟩ := List.mem_filter.mp hd
      obtain ⟨x, o, a, g, st, t, rfl, _, ht⟩ := hr6 d hd
      have : ∃ ds, t = .tup ds ∧ ds ≠ [] ∧ ds.length ≤ 3 := by
        rcases ht with rfl | h
        · cases hp
        · exact h
      obtain ⟨ds, rfl, t1, t2⟩ := this
      have t3 : 0 < ds.length := List.length_pos_iff.mpr t1
      simp only [wp_pure, w_seq, w_if, w_cmp, w_idx, w_var, w_cst, w_glo, w_blt, w_cons, w_nil, w_bin, w_cal, w_callk, w_not, w_set, w_setT, w_ret, w_exp, w_nx, w_rt, w_skip, w_flr, w_fln, wp_seal_dat, w_tup, w_lst, w_toDs_nil, w_toDs_cons, w_itee, w_isi, w_or, w_and, w_tb, w_comp, w_sseq, w_srng, w_sit, w_sil, wp_toDs, wipeD, w_slc, w_part0, w_part1, w_cutT, w_cutL, w_rep3, w_rep2L, w_isN, w_isnotN, w_listL, w_listT, w_tupl, w_tupt, w_len_t, w_len_l, w_eqI, w_eqB, w_neB, w_gt, w_lt, w_ge, w_le, w_add, w_par, w_parF, w_par3, w_par3F, w_snapD, w_snd, List.set_cons_zero, List.set_cons_succ, List.getElem?_cons_zero, List.getElem?_cons_succ, Option.some.injEq, exists_eq_left', iteF, List.map_cons, List.map_nil, w_ix_t, i0, i5, SD.d]
      refine (take_st l_take (n := n) (by omega) (by omega) s3.box).mono fun v μ5 ⟨j, e, _, _, s4⟩ => ?_
      subst e
      have sf := ((s1.trans s2).trans s3).trans s4
      simp only [wp_pure, w_seq, w_if, w_cmp, w_idx, w_var, w_cst, w_glo, w_blt, w_cons, w_nil, w_bin, w_cal, w_callk, w_not, w_set, w_setT, w_ret, w_exp, w_nx, w_rt, w_skip, w_flr, w_fln, wp_seal_dat, w_tup, w_lst, w_toDs_nil, w_toDs_cons, w_itee, w_isi, w_or, w_and, w_tb, w_comp, w_sseq, w_srng, w_sit, w_sil, wp_toDs, wipeD, w_slc, w_part0, w_part1, w_cutT, w_cutL, w_rep3, w_rep2L, w_isN, w_isnotN, w_listL, w_listT, w_tupl, w_tupt, w_len_t, w_len_l, w_eqI, w_eqB, w_neB, w_gt, w_lt, w_ge, w_le, w_add, w_par, w_parF, w_par3, w_par3F, w_snapD, w_snd, List.set_cons_zero, List.set_cons_succ, List.getElem?_cons_zero, List.getElem?_cons_succ, Option.some.injEq, exists_eq_left', iteF, List.map_cons, List.map_nil]
      refine ⟨rfl, rfl, ?_⟩
      rw [show cut [D.tup s.ids, .tup (s.A.map .tup), .tup s.sw, s.at_] none (some 3) = [D.tup s.ids, .tup (s.A.map .tup), .tup s.sw] from rfl, w_addT (by show 4 ≤ _; decide)]
      simp only [wp_pure, w_seq, w_if, w_cmp, w_idx, w_var, w_cst, w_glo, w_blt, w_cons, w_nil, w_bin, w_cal, w_callk, w_not, w_set, w_setT, w_ret, w_exp, w_nx, w_rt, w_skip, w_flr, w_fln, wp_seal_dat, w_tup, w_lst, w_toDs_nil, w_toDs_cons, w_itee, w_isi, w_or, w_and, w_tb, w_comp, w_sseq, w_srng, w_sit, w_sil, wp_toDs, wipeD, w_slc, w_part0, w_part1, w_cutT, w_cutL, w_rep3, w_rep2L, w_isN, w_isnotN, w_listL, w_listT, w_tupl, w_tupt, w_len_t, w_len_l, w_eqI, w_eqB, w_neB, w_gt, w_lt, w_ge, w_le, w_add, w_par, w_parF, w_par3, w_par3F, w_snapD, w_snd, List.set_cons_zero, List.set_cons_succ, List.getElem?_cons_zero, List.getElem?_cons_succ, Option.some.injEq, exists_eq_left', iteF, List.map_cons, List.map_nil, sf.take]
      refine ⟨⟨s.ids, s.A, s.sw, .tup [.str x, .int j]⟩, rfl, ⟨h1.ids, h1.A, h1.five, h1.sw, ?_⟩, h2, sf⟩
      refine Flt.mono (n := 1) (.tup fun d hd => ?_) (by decide)
      simp only [List.mem_cons, List.mem_nil_iff, or_false] at hd
      rcases hd with rfl | rfl
      · exact .str
      · exact .int
end
end K05
set_option Elab.async false
set_option linter.all false
set_option maxRecDepth 100000
set_option maxHeartbeats 1000000
/-! D11: states changed a little. -/
namespace G
open PySem
theorem fold_len : ∀ (l ks : List Str), (l.foldl (fun ks k => if k ∈ ks then ks else k :: ks) ks).length ≤ ks.length + l.length
  | [], ks => Nat.le_refl _
  | x :: l, ks => by
    rw [List.foldl_cons]
    have := fold_len l (if x ∈ ks then ks else x :: ks)
    have h2 : (if x ∈ ks then ks else x :: ks).length ≤ ks.length + 1 := by split <;> simp
    simp only [List.length_cons]
    omega
theorem dedup_len (l : List Str) : (dedupS l).length ≤ l.length := by
  have := fold_len l []
  simpa [dedupS] using this
end G
namespace K05
open PySem G
theorem w_ssetT {ds : List D} (hs : StrL ds) (hl : ds.length < 64) : ∃ zs, StrL zs ∧ zs.length ≤ ds.length ∧ ∀ (Q : Val → Sto → Prop) (μ : Sto), wp (ssetM (.dat (.tup ds))) Q μ ↔ Q (.dat (.lst zs)) μ := by
  obtain ⟨xs, e1, e2⟩ := strs_of hs
  have hx : xs.length = ds.length := by rw [e2, List.length_map]
  refine ⟨(isort strLe (dedupS xs)).map .str, fun d hd => ?_, ?_, fun Q μ => ?_⟩
  · obtain ⟨y, _, rfl⟩ := List.mem_map.mp hd
    exact ⟨y, rfl⟩
  · rw [List.length_map, isort_len, ← hx]
    exact dedup_len xs
  · have e : ssetM (.dat (.tup ds)) = M.bind (M.ofOpt (strsOf ds)) fun ss => M.when (Nat.blt ss.length 64) (M.dat (.lst ((isort strLe (dedupS ss)).map .str))) := rfl
    rw [e, e1, wp_bind, wp_some, wp_when, wp_dat, show Nat.blt xs.length 64 = true from Nat.ble_eq_true_of_le (by omega)]
    exact ⟨fun z => z.2, fun z => ⟨rfl, z⟩⟩
theorem StrL.app {l r : List D} (h : StrL l) (h' : StrL r) : StrL (l ++ r) := fun d hd => by
  rcases List.mem_append.mp hd with hd | hd
  · exact h d hd
  · exact h' d hd
theorem len5 {l : List (List D)} (h : l.length = 5) : ∃ a b c d e, l = [a, b, c, d, e] := by
  match l, h with
  | [a, b, c, d, e], _ => exact ⟨a, b, c, d, e, rfl⟩
/-- a good set -/
structure GS (c : Nat) (l : List D) : Prop where
  str : StrL l
  len : l.length ≤ c
theorem GS.mono {b c : Nat} {l : List D} (h : GS b l) (hl : b ≤ c) : GS c l := ⟨h.str, Nat.le_trans h.len hl⟩
theorem l_varied : Z.tab.lookup ("_law_varied" : Str) = some f__law_varied := by rfl
section
variable {k n β b : Nat} {μ : Sto} {w : WD} {s : SD}
theorem varied_ok (hw : w.Ok) (hs : s.Ok) (h8 : 8 ≤ b) (h16 : b ≤ 16) (hl : s.Le b) (B : Box β (n + 20) μ) : wp (callK Z.tab (k + 3) "_law_varied" [.ref β, .dat w.d, .dat s.d]) (fun v μ' => ∃ s' : SD, v = .dat s'.d ∧ s'.Ok ∧ s'.Le (b + b) ∧ Stp β n μ μ') μ := by
  have hul := hw.fk.len
  have hrl := hw.pl.len
  obtain ⟨ids, A, sw, at_⟩ := s
  obtain ⟨mi, ne, wi, ke, bo, rfl⟩ := len5 hs.five
  obtain ⟨x, y, z, rfl⟩ := hs.ids
  have g1 : GS b mi := ⟨hs.A mi (by simp), hl mi (by simp)⟩
  have g2 : GS b ne := ⟨hs.A ne (by simp), hl ne (by simp)⟩
  have g3 : GS b wi := ⟨hs.A wi (by simp), hl wi (by simp)⟩
  have g4 : GS b ke := ⟨hs.A ke (by simp), hl ke (by simp)⟩
  have g5 : GS b bo := ⟨hs.A bo (by simp), hl bo (by simp)⟩
  have gp : GS b w.rs := ⟨hw.pl.str, Nat.le_trans hrl h8⟩
  have hsw : StrL sw := hs.sw
  have hat : Flt 2 at_ := hs.at_
  have G1 := g1.mono (show b ≤ b + b by omega)
  have G2 := g2.mono (show b ≤ b + b by omega)
  have G3 := g3.mono (show b ≤ b + b by omega)
  have G4 := g4.mono (show b ≤ b + b by omega)
  have G5 := g5.mono (show b ≤ b + b by omega)
  refine wp_call l_varied rfl ?_
  show wp (G.exec _ f__law_varied.body [some (.ref β), some (.dat w.d), some (.dat (.tup [.tup [.int x, .int y, .int z], .tup [.tup mi, .tup ne, .tup wi, .tup ke, .tup bo], .tup sw, at_])), none, none, none, none, none, none, none, none, none, none, none, none, none]) _ _
  simp only [f__law_varied]
  rw [w_seq, w_setT, w_var]
  refine ⟨_, rfl, _, rfl, ?_⟩
  rw [w_nx]
  simp only [List.set_cons_zero, List.set_cons_succ]
  rw [w_seq, w_par]
  simp only [w_cons, w_nil, w_idx, w_var, w_cst, w_cal, List.getElem?_cons_zero, List.getElem?_cons_succ, Option.some.injEq, exists_eq_left']
  refine (take_st l_take (n := n + 19) (by decide) (by decide) B).mono fun v μ1 ⟨r, e, r1, r2, s1⟩ => ?_
  subst e
  simp only [WD.d, w_ix_t, WD.i1, Option.some.injEq, exists_eq_left', w_parF, w_nx, List.set_cons_zero, List.set_cons_succ]
  rw [w_seq]
  refine (?_ : wp _ (fun fl μ' => ∃ (x y z : Int) (mi ne wi ke bo sw : List D) (at_ : D) (S o1 o2 o3 : Option Val), fl = .nx [some (.ref β), some (.dat w.d), S, some (.dat (.tup [.int x, .int y, .int z])), some (.dat (.tup sw)), some (.dat at_), some (.dat (.int r)), some (.dat (.tup w.rs)), some (.dat (.tup mi)), some (.dat (.tup ne)), some (.dat (.tup wi)), some (.dat (.tup ke)), some (.dat (.tup bo)), o1, o2, o3] ∧ GS (b + b) mi ∧ GS (b + b) ne ∧ GS (b + b) wi ∧ GS (b + b) ke ∧ GS (b + b) bo ∧ StrL sw ∧ Flt 2 at_ ∧ Stp β n μ1 μ') μ1).mono fun fl μ2 ⟨x, y, z, mi, ne, wi, ke, bo, sw, at_, S, o1, o2, o3, e, p1, p2, p3, p4, p5, p6, p7, s2⟩ => ?_
  · rw [w_if]
    simp only [w_cmp, w_var, w_cst, List.getElem?_cons_zero, List.getElem?_cons_succ, Option.some.injEq, exists_eq_left', w_eqI, w_tb]
    cases r == 0 with
    | true =>
      simp only [wp_pure, w_seq, w_if, w_cmp, w_idx, w_var, w_cst, w_glo, w_blt, w_cons, w_nil, w_bin, w_cal, w_callk, w_not, w_set, w_setT, w_ret, w_exp, w_nx, w_rt, w_skip, w_flr, w_fln, wp_seal_dat, w_tup, w_lst, w_toDs_nil, w_toDs_cons, w_itee, w_isi, w_or, w_and, w_tb, w_comp, w_sseq, w_srng, w_sit, w_sil, wp_toDs, wipeD, w_slc, w_part0, w_part1, w_cutT, w_cutL, w_rep3, w_rep2L, w_isN, w_isnotN, w_listL, w_listT, w_tupl, w_tupt, w_len_t, w_len_l, w_eqI, w_eqB, w_neB, w_gt, w_lt, w_ge, w_le, w_add, w_par, w_parF, w_par3, w_par3F, w_snapD, w_snd, List.set_cons_zero, List.set_cons_succ, List.getElem?_cons_zero, List.getElem?_cons_succ, Option.some.injEq, exists_eq_left', iteF, List.map_cons, List.map_nil, WD.d, w_ix_t, WD.i0, show L2.atI [D.int x, .int y, .int z] 0 = some (.int x) from rfl, show L2.atI [D.int x, .int y, .int z] 2 = some (.int z) from rfl]
      refine (of_t l_take l_of (n := n + 18) hw.fk.ne (by omega) s1.box).mono fun v μ2 ⟨d, e, hd, s2⟩ => ?_
      subst e
      obtain ⟨i, rfl⟩ := hw.fk.int d hd
      simp only [wp_pure, w_seq, w_if, w_cmp, w_idx, w_var, w_cst, w_glo, w_blt, w_cons, w_nil, w_bin, w_cal, w_callk, w_not, w_set, w_setT, w_ret, w_exp, w_nx, w_rt, w_skip, w_flr, w_fln, wp_seal_dat, w_tup, w_lst, w_toDs_nil, w_toDs_cons, w_itee, w_isi, w_or, w_and, w_tb, w_comp, w_sseq, w_srng, w_sit, w_sil, wp_toDs, wipeD, w_slc, w_part0, w_part1, w_cutT, w_cutL, w_rep3, w_rep2L, w_isN, w_isnotN, w_listL, w_listT, w_tupl, w_tupt, w_len_t, w_len_l, w_eqI, w_eqB, w_neB, w_gt, w_lt, w_ge, w_le, w_add, w_par, w_parF, w_par3, w_par3F, w_snapD, w_snd, List.set_cons_zero, List.set_cons_succ, List.getElem?_cons_zero, List.getElem?_cons_succ, Option.some.injEq, exists_eq_left', iteF, List.map_cons, List.map_nil]
      exact ⟨rfl, _, _, _, _, _, _, _, _, _, _, _, _, _, _, rfl, G1, G2, G3, G4, G5, hsw, hat, s2.less (by omega)⟩
    | false =>
    rw [iteF, w_seq, w_if]
    simp only [w_cmp, w_var, w_cst, List.getElem?_cons_zero, List.getElem?_cons_succ, Option.some.injEq, exists_eq_left', w_eqI, w_tb]
    cases r == 1 with
    | true =>
      simp only [wp_pure, w_seq, w_if, w_cmp, w_idx, w_var, w_cst, w_glo, w_blt, w_cons, w_nil, w_bin, w_cal, w_callk, w_not, w_set, w_setT, w_ret, w_exp, w_nx, w_rt, w_skip, w_flr, w_fln, wp_seal_dat, w_tup, w_lst, w_toDs_nil, w_toDs_cons, w_itee, w_isi, w_or, w_and, w_tb, w_comp, w_sseq, w_srng, w_sit, w_sil, wp_toDs, wipeD, w_slc, w_part0, w_part1, w_cutT, w_cutL, w_rep3, w_rep2L, w_isN, w_isnotN, w_listL, w_listT, w_tupl, w_tupt, w_len_t, w_len_l, w_eqI, w_eqB, w_neB, w_gt, w_lt, w_ge, w_le, w_add, w_par, w_parF, w_par3, w_par3F, w_snapD, w_snd, List.set_cons_zero, List.set_cons_succ, List.getElem?_cons_zero, List.getElem?_cons_succ, Option.some.injEq, exists_eq_left', iteF, List.map_cons, List.map_nil]
      refine ⟨rfl, ?_⟩
      refine (few_ok l_take l_few (ds := .str "fast" :: sw5) (n := n + 13) (by decide) (by decide) s1.box).mono fun v μ2 ⟨fl, e, q1, s2⟩ => ?_
      subst e
      have hfl : StrL fl := StrL.sub (.cons sw5_str) q1
      try simp only [wp_pure, w_seq, w_if, w_cmp, w_idx, w_var, w_cst, w_glo, w_blt, w_cons, w_nil, w_bin, w_cal, w_callk, w_not, w_set, w_setT, w_ret, w_exp, w_nx, w_rt, w_skip, w_flr, w_fln, wp_seal_dat, w_tup, w_lst, w_toDs_nil, w_toDs_cons, w_itee, w_isi, w_or, w_and, w_tb, w_comp, w_sseq, w_srng, w_sit, w_sil, wp_toDs, wipeD, w_slc, w_part0, w_part1, w_cutT, w_cutL, w_rep3, w_rep2L, w_isN, w_isnotN, w_listL, w_listT, w_tupl, w_tupt, w_len_t, w_len_l, w_eqI, w_eqB, w_neB, w_gt, w_lt, w_ge, w_le, w_add, w_par, w_parF, w_par3, w_par3F, w_snapD, w_snd, List.set_cons_zero, List.set_cons_succ, List.getElem?_cons_zero, List.getElem?_cons_succ, Option.some.injEq, exists_eq_left', iteF, List.map_cons, List.map_nil]
      refine ⟨rfl, ?_⟩
      refine (comp_fm (p := fun x => !(hasD sw x == hasD fl x)) (f := fun x => x) sw5 (fun x hx => ?_) fun x hx _ => ?_).mono fun ys μ3 ⟨q1, q2⟩ => ?_
      · have cx := (sw5_str.flt (n := 1) x hx).cmpb (by decide)
        simp only [wp_bind, wp_pure, w_seq, w_if, w_cmp, w_idx, w_var, w_cst, w_glo, w_blt, w_cons, w_nil, w_bin, w_cal, w_callk, w_not, w_set, w_setT, w_ret, w_exp, w_nx, w_rt, w_skip, w_flr, w_fln, wp_seal_dat, w_tup, w_lst, w_toDs_nil, w_toDs_cons, w_itee, w_isi, w_or, w_and, w_tb, w_comp, w_sseq, w_srng, w_sit, w_sil, wp_toDs, wipeD, w_slc, w_part0, w_part1, w_cutT, w_cutL, w_rep3, w_rep2L, w_isN, w_isnotN, w_listL, w_listT, w_tupl, w_tupt, w_len_t, w_len_l, w_eqI, w_eqB, w_neB, w_gt, w_lt, w_ge, w_le, w_add, w_par, w_parF, w_par3, w_par3F, w_snapD, w_snd, List.set_cons_zero, List.set_cons_succ, List.getElem?_cons_zero, List.getElem?_cons_succ, Option.some.injEq, exists_eq_left', iteF, List.map_cons, List.map_nil, w_inT cx (all_cmpb (hsw.flt (n := 1)) (by decide)), w_inT cx (all_cmpb (hfl.flt (n := 1)) (by decide)), and_self]
      · simp only [wp_pure, w_seq, w_if, w_cmp, w_idx, w_var, w_cst, w_glo, w_blt, w_cons, w_nil, w_bin, w_cal, w_callk, w_not, w_set, w_setT, w_ret, w_exp, w_nx, w_rt, w_skip, w_flr, w_fln, wp_seal_dat, w_tup, w_lst, w_toDs_nil, w_toDs_cons, w_itee, w_isi, w_or, w_and, w_tb, w_comp, w_sseq, w_srng, w_sit, w_sil, wp_toDs, wipeD, w_slc, w_part0, w_part1, w_cutT, w_cutL, w_rep3, w_rep2L, w_isN, w_isnotN, w_listL, w_listT, w_tupl, w_tupt, w_len_t, w_len_l, w_eqI, w_eqB, w_neB, w_gt, w_lt, w_ge, w_le, w_add, w_par, w_parF, w_par3, w_par3F, w_snapD, w_snd, List.set_cons_zero, List.set_cons_succ, List.getElem?_cons_zero, List.getElem?_cons_succ, Option.some.injEq, exists_eq_left', iteF, List.map_cons, List.map_nil, and_self]
      · subst q1 q2
        rw [List.map_id']
        try simp only [wp_pure, w_seq, w_if, w_cmp, w_idx, w_var, w_cst, w_glo, w_blt, w_cons, w_nil, w_bin, w_cal, w_callk, w_not, w_set, w_setT, w_ret, w_exp, w_nx, w_rt, w_skip, w_flr, w_fln, wp_seal_dat, w_tup, w_lst, w_toDs_nil, w_toDs_cons, w_itee, w_isi, w_or, w_and, w_tb, w_comp, w_sseq, w_srng, w_sit, w_sil, wp_toDs, wipeD, w_slc, w_part0, w_part1, w_cutT, w_cutL, w_rep3, w_rep2L, w_isN, w_isnotN, w_listL, w_listT, w_tupl, w_tupt, w_len_t, w_len_l, w_eqI, w_eqB, w_neB, w_gt, w_lt, w_ge, w_le, w_add, w_par, w_parF, w_par3, w_par3F, w_snapD, w_snd, List.set_cons_zero, List.set_cons_succ, List.getElem?_cons_zero, List.getElem?_cons_succ, Option.some.injEq, exists_eq_left', iteF, List.map_cons, List.map_nil]
        exact ⟨_, _, _, _, _, _, _, _, _, _, _, _, _, _, rfl, G1, G2, G3, G4, G5, sw5_str.sub List.filter_sublist, hat, s2.less (by omega)⟩
    | false =>
    rw [iteF, w_seq, w_if]
    simp only [w_cmp, w_var, w_cst, List.getElem?_cons_zero, List.getElem?_cons_succ, Option.some.injEq, exists_eq_left', w_eqI, w_tb]
    cases r == 2 with
    | true =>
      simp only [wp_pure, w_seq, w_if, w_cmp, w_idx, w_var, w_cst, w_glo, w_blt, w_cons, w_nil, w_bin, w_cal, w_callk, w_not, w_set, w_setT, w_ret, w_exp, w_nx, w_rt, w_skip, w_flr, w_fln, wp_seal_dat, w_tup, w_lst, w_toDs_nil, w_toDs_cons, w_itee, w_isi, w_or, w_and, w_tb, w_comp, w_sseq, w_srng, w_sit, w_sil, wp_toDs, wipeD, w_slc, w_part0, w_part1, w_cutT, w_cutL, w_rep3, w_rep2L, w_isN, w_isnotN, w_listL, w_listT, w_tupl, w_tupt, w_len_t, w_len_l, w_eqI, w_eqB, w_neB, w_gt, w_lt, w_ge, w_le, w_add, w_par, w_parF, w_par3, w_par3F, w_snapD, w_snd, List.set_cons_zero, List.set_cons_succ, List.getElem?_cons_zero, List.getElem?_cons_succ, Option.some.injEq, exists_eq_left', iteF, List.map_cons, List.map_nil]
      cases isNone (.dat at_) with
      | true =>
        simp only [wp_pure, w_seq, w_if, w_cmp, w_idx, w_var, w_cst, w_glo, w_blt, w_cons, w_nil, w_bin, w_cal, w_callk, w_not, w_set, w_setT, w_ret, w_exp, w_nx, w_rt, w_skip, w_flr, w_fln, wp_seal_dat, w_tup, w_lst, w_toDs_nil, w_toDs_cons, w_itee, w_isi, w_or, w_and, w_tb, w_comp, w_sseq, w_srng, w_sit, w_sil, wp_toDs, wipeD, w_slc, w_part0, w_part1, w_cutT, w_cutL, w_rep3, w_rep2L, w_isN, w_isnotN, w_listL, w_listT, w_tupl, w_tupt, w_len_t, w_len_l, w_eqI, w_eqB, w_neB, w_gt, w_lt, w_ge, w_le, w_add, w_par, w_parF, w_par3, w_par3F, w_snapD, w_snd, List.set_cons_zero, List.set_cons_succ, List.getElem?_cons_zero, List.getElem?_cons_succ, Option.some.injEq, exists_eq_left', iteF, List.map_cons, List.map_nil, Bool.not_true]
        exact ⟨_, _, _, _, _, _, _, _, _, _, _, _, _, _, rfl, G1, G2, G3, G4, G5, hsw, hat, (Stp.refl s1.box).less (by omega)⟩
      | false =>
        simp only [wp_pure, w_seq, w_if, w_cmp, w_idx, w_var, w_cst, w_glo, w_blt, w_cons, w_nil, w_bin, w_cal, w_callk, w_not, w_set, w_setT, w_ret, w_exp, w_nx, w_rt, w_skip, w_flr, w_fln, wp_seal_dat, w_tup, w_lst, w_toDs_nil, w_toDs_cons, w_itee, w_isi, w_or, w_and, w_tb, w_comp, w_sseq, w_srng, w_sit, w_sil, wp_toDs, wipeD, w_slc, w_part0, w_part1, w_cutT, w_cutL, w_rep3, w_rep2L, w_isN, w_isnotN, w_listL, w_listT, w_tupl, w_tupt, w_len_t, w_len_l, w_eqI, w_eqB, w_neB, w_gt, w_lt, w_ge, w_le, w_add, w_par, w_parF, w_par3, w_par3F, w_snapD, w_snd, List.set_cons_zero, List.set_cons_succ, List.getElem?_cons_zero, List.getElem?_cons_succ, Option.some.injEq, exists_eq_left', iteF, List.map_cons, List.map_nil, Bool.not_false]
        exact ⟨_, _, _, _, _, _, _, _, _, _, _, _, _, _, rfl, G1, G2, G3, G4, G5, hsw, .non, (Stp.refl s1.box).less (by omega)⟩
    | false =>
    rw [iteF, w_seq, w_if]
    simp only [w_cmp, w_var, w_cst, List.getElem?_cons_zero, List.getElem?_cons_succ, Option.some.injEq, exists_eq_left', w_eqI, w_tb]
    cases r == 3 with
    | true =>
      simp only [wp_pure, w_seq, w_if, w_cmp, w_idx, w_var, w_cst, w_glo, w_blt, w_cons, w_nil, w_bin, w_cal, w_callk, w_not, w_set, w_setT, w_ret, w_exp, w_nx, w_rt, w_skip, w_flr, w_fln, wp_seal_dat, w_tup, w_lst, w_toDs_nil, w_toDs_cons, w_itee, w_isi, w_or, w_and, w_tb, w_comp, w_sseq, w_srng, w_sit, w_sil, wp_toDs, wipeD, w_slc, w_part0, w_part1, w_cutT, w_cutL, w_rep3, w_rep2L, w_isN, w_isnotN, w_listL, w_listT, w_tupl, w_tupt, w_len_t, w_len_l, w_eqI, w_eqB, w_neB, w_gt, w_lt, w_ge, w_le, w_add, w_par, w_parF, w_par3, w_par3F, w_snapD, w_snd, List.set_cons_zero, List.set_cons_succ, List.getElem?_cons_zero, List.getElem?_cons_succ, Option.some.injEq, exists_eq_left', iteF, List.map_cons, List.map_nil, w_sset]
      refine (few_ok l_take l_few (n := n + 3) (by decide) (by decide) (s1.box.less (by have := gp.len; omega))).mono fun v μ2 ⟨fl, e, q1, s2⟩ => ?_
      subst e
      obtain ⟨zs, z1, z2, z3⟩ := w_ssetT (g1.str.app (gp.str.sub q1)) (by rw [List.length_append]; have := g1.len; have := q1.length_le; omega)
      rw [w_addT (by have := g1.len; have := q1.length_le; show _ ≤ 16777216; omega), z3]
      try simp only [wp_pure, w_seq, w_if, w_cmp, w_idx, w_var, w_cst, w_glo, w_blt, w_cons, w_nil, w_bin, w_cal, w_callk, w_not, w_set, w_setT, w_ret, w_exp, w_nx, w_rt, w_skip, w_flr, w_fln, wp_seal_dat, w_tup, w_lst, w_toDs_nil, w_toDs_cons, w_itee, w_isi, w_or, w_and, w_tb, w_comp, w_sseq, w_srng, w_sit, w_sil, wp_toDs, wipeD, w_slc, w_part0, w_part1, w_cutT, w_cutL, w_rep3, w_rep2L, w_isN, w_isnotN, w_listL, w_listT, w_tupl, w_tupt, w_len_t, w_len_l, w_eqI, w_eqB, w_neB, w_gt, w_lt, w_ge, w_le, w_add, w_par, w_parF, w_par3, w_par3F, w_snapD, w_snd, List.set_cons_zero, List.set_cons_succ, List.getElem?_cons_zero, List.getElem?_cons_succ, Option.some.injEq, exists_eq_left', iteF, List.map_cons, List.map_nil]
      have : GS (b + b) zs := ⟨z1, by rw [List.length_append] at z2; have := g1.len; have := gp.len; have := q1.length_le; omega⟩
      exact ⟨_, _, _, _, _, _, _, _, _, _, _, _, _, _, rfl, this, G2, G3, G4, G5, hsw, hat, s2.less (by omega)⟩
    | false =>
    rw [iteF, w_seq, w_if]
    simp only [w_cmp, w_var, w_cst, List.getElem?_cons_zero, List.getElem?_cons_succ, Option.some.injEq, exists_eq_left', w_eqI, w_tb]
    cases r == 4 with
    | true =>
      simp only [wp_pure, w_seq, w_if, w_cmp, w_idx, w_var, w_cst, w_glo, w_blt, w_cons, w_nil, w_bin, w_cal, w_callk, w_not, w_set, w_setT, w_ret, w_exp, w_nx, w_rt, w_skip, w_flr, w_fln, wp_seal_dat, w_tup, w_lst, w_toDs_nil, w_toDs_cons, w_itee, w_isi, w_or, w_and, w_tb, w_comp, w_sseq, w_srng, w_sit, w_sil, wp_toDs, wipeD, w_slc, w_part0, w_part1, w_cutT, w_cutL, w_rep3, w_rep2L, w_isN, w_isnotN, w_listL, w_listT, w_tupl, w_tupt, w_len_t, w_len_l, w_eqI, w_eqB, w_neB, w_gt, w_lt, w_ge, w_le, w_add, w_par, w_parF, w_par3, w_par3F, w_snapD, w_snd, List.set_cons_zero, List.set_cons_succ, List.getElem?_cons_zero, List.getElem?_cons_succ, Option.some.injEq, exists_eq_left', iteF, List.map_cons, List.map_nil, w_sset]
      refine (few_ok l_take l_few (n := n + 3) (by decide) (by decide) (s1.box.less (by have := g1.len; omega))).mono fun v μ2 ⟨fl, e, q1, s2⟩ => ?_
      subst e
      obtain ⟨zs, z1, z2, z3⟩ := w_ssetT (g2.str.app (g1.str.sub q1)) (by rw [List.length_append]; have := g1.len; have := g2.len; have := q1.length_le; omega)
      rw [w_addT (by have := g1.len; have := g2.len; have := q1.length_le; show _ ≤ 16777216; omega), z3]
      try simp only [wp_pure, w_seq, w_if, w_cmp, w_idx, w_var, w_cst, w_glo, w_blt, w_cons, w_nil, w_bin, w_cal, w_callk, w_not, w_set, w_setT, w_ret, w_exp, w_nx, w_rt, w_skip, w_flr, w_fln, wp_seal_dat, w_tup, w_lst, w_toDs_nil, w_toDs_cons, w_itee, w_isi, w_or, w_and, w_tb, w_comp, w_sseq, w_srng, w_sit, w_sil, wp_toDs, wipeD, w_slc, w_part0, w_part1, w_cutT, w_cutL, w_rep3, w_rep2L, w_isN, w_isnotN, w_listL, w_listT, w_tupl, w_tupt, w_len_t, w_len_l, w_eqI, w_eqB, w_neB, w_gt, w_lt, w_ge, w_le, w_add, w_par, w_parF, w_par3, w_par3F, w_snapD, w_snd, List.set_cons_zero, List.set_cons_succ, List.getElem?_cons_zero, List.getElem?_cons_succ, Option.some.injEq, exists_eq_left', iteF, List.map_cons, List.map_nil]
      have : GS (b + b) zs := ⟨z1, by rw [List.length_append] at z2; have := g1.len; have := g2.len; have := q1.length_le; omega⟩
      exact ⟨_, _, _, _, _, _, _, _, _, _, _, _, _, _, rfl, G1, this, G3, G4, G5, hsw, hat, s2.less (by omega)⟩
    | false =>
    rw [iteF, w_seq, w_if]
    simp only [w_cmp, w_var, w_cst, List.getElem?_cons_zero, List.getElem?_cons_succ, Option.some.injEq, exists_eq_left', w_eqI, w_tb]
    cases r == 5 with
    | true =>
      simp only [wp_pure, w_seq, w_if, w_cmp, w_idx, w_var, w_cst, w_glo, w_blt, w_cons, w_nil, w_bin, w_cal, w_callk, w_not, w_set, w_setT, w_ret, w_exp, w_nx, w_rt, w_skip, w_flr, w_fln, wp_seal_dat, w_tup, w_lst, w_toDs_nil, w_toDs_cons, w_itee, w_isi, w_or, w_and, w_tb, w_comp, w_sseq, w_srng, w_sit, w_sil, wp_toDs, wipeD, w_slc, w_part0, w_part1, w_cutT, w_cutL, w_rep3, w_rep2L, w_isN, w_isnotN, w_listL, w_listT, w_tupl, w_tupt, w_len_t, w_len_l, w_eqI, w_eqB, w_neB, w_gt, w_lt, w_ge, w_le, w_add, w_par, w_parF, w_par3, w_par3F, w_snapD, w_snd, List.set_cons_zero, List.set_cons_succ, List.getElem?_cons_zero, List.getElem?_cons_succ, Option.some.injEq, exists_eq_left', iteF, List.map_cons, List.map_nil, w_sset]
      refine (few_ok l_take l_few (n := n + 3) (by decide) (by decide) (s1.box.less (by have := gp.len; omega))).mono fun v μ2 ⟨fl, e, q1, s2⟩ => ?_
      subst e
      obtain ⟨zs, z1, z2, z3⟩ := w_ssetT (g3.str.app (gp.str.sub q1)) (by rw [List.length_append]; have := g3.len; have := q1.length_le; omega)
      rw [w_addT (by have := g3.len; have := q1.length_le; show _ ≤ 16777216; omega), z3]
      try simp only [wp_pure, w_seq, w_if, w_cmp, w_idx, w_var, w_cst, w_glo, w_blt, w_cons, w_nil, w_bin, w_cal, w_callk, w_not, w_set, w_setT, w_ret, w_exp, w_nx, w_rt, w_skip, w_flr, w_fln, wp_seal_dat, w_tup, w_lst, w_toDs_nil, w_toDs_cons, w_itee, w_isi, w_or, w_and, w_tb, w_comp, w_sseq, w_srng, w_sit, w_sil, wp_toDs, wipeD, w_slc, w_part0, w_part1, w_cutT, w_cutL, w_rep3, w_rep2L, w_isN, w_isnotN, w_listL, w_listT, w_tupl, w_tupt, w_len_t, w_len_l, w_eqI, w_eqB, w_neB, w_gt, w_lt, w_ge, w_le, w_add, w_par, w_parF, w_par3, w_par3F, w_snapD, w_snd, List.set_cons_zero, List.set_cons_succ, List.getElem?_cons_zero, List.getElem?_cons_succ, Option.some.injEq, exists_eq_left', iteF, List.map_cons, List.map_nil]
      have : GS (b + b) zs := ⟨z1, by rw [List.length_append] at z2; have := g3.len; have := gp.len; have := q1.length_le; omega⟩
      exact ⟨_, _, _, _, _, _, _, _, _, _, _, _, _, _, rfl, G1, G2, this, G4, G5, hsw, hat, s2.less (by omega)⟩
    | false =>
    rw [iteF, w_seq, w_if]
    simp only [w_cmp, w_var, w_cst, List.getElem?_cons_zero, List.getElem?_cons_succ, Option.some.injEq, exists_eq_left', w_eqI, w_tb]
    cases r == 6 with
    | true =>
      simp only [wp_pure, w_seq, w_if, w_cmp, w_idx, w_var, w_cst, w_glo, w_blt, w_cons, w_nil, w_bin, w_cal, w_callk, w_not, w_set, w_setT, w_ret, w_exp, w_nx, w_rt, w_skip, w_flr, w_fln, wp_seal_dat, w_tup, w_lst, w_toDs_nil, w_toDs_cons, w_itee, w_isi, w_or, w_and, w_tb, w_comp, w_sseq, w_srng, w_sit, w_sil, wp_toDs, wipeD, w_slc, w_part0, w_part1, w_cutT, w_cutL, w_rep3, w_rep2L, w_isN, w_isnotN, w_listL, w_listT, w_tupl, w_tupt, w_len_t, w_len_l, w_eqI, w_eqB, w_neB, w_gt, w_lt, w_ge, w_le, w_add, w_par, w_parF, w_par3, w_par3F, w_snapD, w_snd, List.set_cons_zero, List.set_cons_succ, List.getElem?_cons_zero, List.getElem?_cons_succ, Option.some.injEq, exists_eq_left', iteF, List.map_cons, List.map_nil]
      refine (comp_fm (p := fun x => hasD wi x) (f := fun x => x) mi (fun x hx => ?_) fun x hx _ => ?_).mono fun ys μ3 ⟨q1, q2⟩ => ?_
      · have cx := (g1.str.flt (n := 1) x hx).cmpb (by decide)
        simp only [wp_bind, wp_pure, w_seq, w_if, w_cmp, w_idx, w_var, w_cst, w_glo, w_blt, w_cons, w_nil, w_bin, w_cal, w_callk, w_not, w_set, w_setT, w_ret, w_exp, w_nx, w_rt, w_skip, w_flr, w_fln, wp_seal_dat, w_tup, w_lst, w_toDs_nil, w_toDs_cons, w_itee, w_isi, w_or, w_and, w_tb, w_comp, w_sseq, w_srng, w_sit, w_sil, wp_toDs, wipeD, w_slc, w_part0, w_part1, w_cutT, w_cutL, w_rep3, w_rep2L, w_isN, w_isnotN, w_listL, w_listT, w_tupl, w_tupt, w_len_t, w_len_l, w_eqI, w_eqB, w_neB, w_gt, w_lt, w_ge, w_le, w_add, w_par, w_parF, w_par3, w_par3F, w_snapD, w_snd, List.set_cons_zero, List.set_cons_succ, List.getElem?_cons_zero, List.getElem?_cons_succ, Option.some.injEq, exists_eq_left', iteF, List.map_cons, List.map_nil, w_inT cx (all_cmpb (g3.str.flt (n := 1)) (by decide)), and_self]
      · simp only [wp_pure, w_seq, w_if, w_cmp, w_idx, w_var, w_cst, w_glo, w_blt, w_cons, w_nil, w_bin, w_cal, w_callk, w_not, w_set, w_setT, w_ret, w_exp, w_nx, w_rt, w_skip, w_flr, w_fln, wp_seal_dat, w_tup, w_lst, w_toDs_nil, w_toDs_cons, w_itee, w_isi, w_or, w_and, w_tb, w_comp, w_sseq, w_srng, w_sit, w_sil, wp_toDs, wipeD, w_slc, w_part0, w_part1, w_cutT, w_cutL, w_rep3, w_rep2L, w_isN, w_isnotN, w_listL, w_listT, w_tupl, w_tupt, w_len_t, w_len_l, w_eqI, w_eqB, w_neB, w_gt, w_lt, w_ge, w_le, w_add, w_par, w_parF, w_par3, w_par3F, w_snapD, w_snd, List.set_cons_zero, List.set_cons_succ, List.getElem?_cons_zero, List.getElem?_cons_succ, Option.some.injEq, exists_eq_left', iteF, List.map_cons, List.map_nil, and_self]
      · subst q1 q2
        rw [List.map_id']
        have hlen : (mi.filter fun x => hasD wi x).length ≤ b := Nat.le_trans (List.length_filter_le ..) g1.len
        try simp only [wp_pure, w_seq, w_if, w_cmp, w_idx, w_var, w_cst, w_glo, w_blt, w_cons, w_nil, w_bin, w_cal, w_callk, w_not, w_set, w_setT, w_ret, w_exp, w_nx, w_rt, w_skip, w_flr, w_fln, wp_seal_dat, w_tup, w_lst, w_toDs_nil, w_toDs_cons, w_itee, w_isi, w_or, w_and, w_tb, w_comp, w_sseq, w_srng, w_sit, w_sil, wp_toDs, wipeD, w_slc, w_part0, w_part1, w_cutT, w_cutL, w_rep3, w_rep2L, w_isN, w_isnotN, w_listL, w_listT, w_tupl, w_tupt, w_len_t, w_len_l, w_eqI, w_eqB, w_neB, w_gt, w_lt, w_ge, w_le, w_add, w_par, w_parF, w_par3, w_par3F, w_snapD, w_snd, List.set_cons_zero, List.set_cons_succ, List.getElem?_cons_zero, List.getElem?_cons_succ, Option.some.injEq, exists_eq_left', iteF, List.map_cons, List.map_nil]
        refine (few_okL l_take l_few (n := n + 3) (by decide) (by decide) (s1.box.less (by omega))).mono fun v μ4 ⟨fl, e, q1, s2⟩ => ?_
        subst e
        try simp only [wp_pure, w_seq, w_if, w_cmp, w_idx, w_var, w_cst, w_glo, w_blt, w_cons, w_nil, w_bin, w_cal, w_callk, w_not, w_set, w_setT, w_ret, w_exp, w_nx, w_rt, w_skip, w_flr, w_fln, wp_seal_dat, w_tup, w_lst, w_toDs_nil, w_toDs_cons, w_itee, w_isi, w_or, w_and, w_tb, w_comp, w_sseq, w_srng, w_sit, w_sil, wp_toDs, wipeD, w_slc, w_part0, w_part1, w_cutT, w_cutL, w_rep3, w_rep2L, w_isN, w_isnotN, w_listL, w_listT, w_tupl, w_tupt, w_len_t, w_len_l, w_eqI, w_eqB, w_neB, w_gt, w_lt, w_ge, w_le, w_add, w_par, w_parF, w_par3, w_par3F, w_snapD, w_snd, List.set_cons_zero, List.set_cons_succ, List.getElem?_cons_zero, List.getElem?_cons_succ, Option.some.injEq, exists_eq_left', iteF, List.map_cons, List.map_nil]
        have : GS (b + b) fl := ⟨(g1.str.sub List.filter_sublist).sub q1, by have := q1.length_le; omega⟩
        exact ⟨_, _, _, _, _, _, _, _, _, _, _, _, _, _, rfl, G1, G2, G3, this, G5, hsw, hat, s2.less (by omega)⟩
    | false =>
      simp only [wp_pure, w_seq, w_if, w_cmp, w_idx, w_var, w_cst, w_glo, w_blt, w_cons, w_nil, w_bin, w_cal, w_callk, w_not, w_set, w_setT, w_ret, w_exp, w_nx, w_rt, w_skip, w_flr, w_fln, wp_seal_dat, w_tup, w_lst, w_toDs_nil, w_toDs_cons, w_itee, w_isi, w_or, w_and, w_tb, w_comp, w_sseq, w_srng, w_sit, w_sil, wp_toDs, wipeD, w_slc, w_part0, w_part1, w_cutT, w_cutL, w_rep3, w_rep2L, w_isN, w_isnotN, w_listL, w_listT, w_tupl, w_tupt, w_len_t, w_len_l, w_eqI, w_eqB, w_neB, w_gt, w_lt, w_ge, w_le, w_add, w_par, w_parF, w_par3, w_par3F, w_snapD, w_snd, List.set_cons_zero, List.set_cons_succ, List.getElem?_cons_zero, List.getElem?_cons_succ, Option.some.injEq, exists_eq_left', iteF, List.map_cons, List.map_nil]
      refine (few_ok l_take l_few (n := n + 3) (by decide) (by decide) (s1.box.less (by have := gp.len; omega))).mono fun v μ2 ⟨fl, e, q1, s2⟩ => ?_
      subst e
      try simp only [wp_pure, w_seq, w_if, w_cmp, w_idx, w_var, w_cst, w_glo, w_blt, w_cons, w_nil, w_bin, w_cal, w_callk, w_not, w_set, w_setT, w_ret, w_exp, w_nx, w_rt, w_skip, w_flr, w_fln, wp_seal_dat, w_tup, w_lst, w_toDs_nil, w_toDs_cons, w_itee, w_isi, w_or, w_and, w_tb, w_comp, w_sseq, w_srng, w_sit, w_sil, wp_toDs, wipeD, w_slc, w_part0, w_part1, w_cutT, w_cutL, w_rep3, w_rep2L, w_isN, w_isnotN, w_listL, w_listT, w_tupl, w_tupt, w_len_t, w_len_l, w_eqI, w_eqB, w_neB, w_gt, w_lt, w_ge, w_le, w_add, w_par, w_parF, w_par3, w_par3F, w_snapD, w_snd, List.set_cons_zero, List.set_cons_succ, List.getElem?_cons_zero, List.getElem?_cons_succ, Option.some.injEq, exists_eq_left', iteF, List.map_cons, List.map_nil]
      have : GS (b + b) fl := ⟨gp.str.sub q1, by have := q1.length_le; omega⟩
      exact ⟨_, _, _, _, _, _, _, _, _, _, _, _, _, _, rfl, G1, G2, G3, G4, this, hsw, hat, s2.less (by omega)⟩
  · subst e
    have sf := s1.trans s2
    simp only [wp_pure, w_seq, w_if, w_cmp, w_idx, w_var, w_cst, w_glo, w_blt, w_cons, w_nil, w_bin, w_cal, w_callk, w_not, w_set, w_setT, w_ret, w_exp, w_nx, w_rt, w_skip, w_flr, w_fln, wp_seal_dat, w_tup, w_lst, w_toDs_nil, w_toDs_cons, w_itee, w_isi, w_or, w_and, w_tb, w_comp, w_sseq, w_srng, w_sit, w_sil, wp_toDs, wipeD, w_slc, w_part0, w_part1, w_cutT, w_cutL, w_rep3, w_rep2L, w_isN, w_isnotN, w_listL, w_listT, w_tupl, w_tupt, w_len_t, w_len_l, w_eqI, w_eqB, w_neB, w_gt, w_lt, w_ge, w_le, w_add, w_par, w_parF, w_par3, w_par3F, w_snapD, w_snd, List.set_cons_zero, List.set_cons_succ, List.getElem?_cons_zero, List.getElem?_cons_succ, Option.some.injEq, exists_eq_left', iteF, List.map_cons, List.map_nil, sf.take]
    refine ⟨rfl, rfl, ⟨[.int x, .int y, .int z], [mi, ne, wi, ke, bo], sw, at_⟩, rfl, ⟨⟨x, y, z, rfl⟩, fun l hl => ?_, rfl, p6, p7⟩, fun l hl => ?_, sf⟩
    · simp only [List.mem_cons, List.mem_nil_iff, or_false] at hl
      rcases hl with rfl | rfl | rfl | rfl | rfl
      · exact p1.str
      · exact p2.str
      · exact p3.str
      · exact p4.str
      · exact p5.str
    · simp only [List.mem_cons, List.mem_nil_iff, or_false] at hl
      rcases hl with rfl | rfl | rfl | rfl | rfl
      · exact p1.len
      · exact p2.len
      · exact p3.len
      · exact p4.len
      · exact p5.len
end
end K05
set_option Elab.async false
set_option linter.all false
set_option maxRecDepth 100000
set_option maxHeartbeats 1000000
/-! D12: logins and closed files are right. -/
namespace G
open PySem
/-- own data of small depth -/
def Ow (n : Nat) (d : D) : Prop := d.own = true ∧ d.dep ≤ n
theorem owns_of : ∀ {ds : List D}, (∀ d ∈ ds, d.own = true) → D.owns ds = true
  | [], _ => rfl
  | d :: ds, h => by
    unfold D.owns
    rw [h d (List.mem_cons_self ..), owns_of fun x hx => h x (List.mem_cons_of_mem _ hx)]; rfl
theorem Flt.ow {n : Nat} {d : D} (h : Flt n d) : Ow n d := ⟨tpl_own d h.1, h.2⟩
theorem Ow.lst {n : Nat} {ds : List D} (h : ∀ d ∈ ds, Ow n d) : Ow (n + 1) (.lst ds) :=
  ⟨by rw [D.own]; exact owns_of fun d hd => (h d hd).1, by rw [D.dep]; exact Nat.succ_le_succ (deps_le fun d hd => (h d hd).2)⟩
theorem Ow.mono {n m : Nat} {d : D} (h : Ow n d) (l : n ≤ m) : Ow m d := ⟨h.1, Nat.le_trans h.2 l⟩
theorem Ow.cmpb {n : Nat} {d : D} (h : Ow n d) (hn : n ≤ 64) : d.cmpb = true := by
  unfold D.cmpb
  rw [h.1, Nat.ble_eq_true_of_le (Nat.le_trans h.2 hn)]
  rfl
theorem perm2 {α : Type} {a b : α} : permL [1, 0] [a, b] = [b, a] := rfl
end G
namespace K05
open PySem G
theorem l_logins : Z.tab.lookup ("_law_logins_right" : Str) = some f__law_logins_right := by rfl
theorem l_closedr : Z.tab.lookup ("_law_closed_right" : Str) = some f__law_closed_right := by rfl
section
variable {k n β : Nat} {μ : Sto} {w : WD}
theorem WD.Ok.flt (h : w.Ok) : Flt 6 w.d := by
  refine .tup fun d hd => ?_
  simp only [List.mem_cons, List.mem_nil_iff, or_false] at hd
  rcases hd with rfl | rfl | rfl
  · exact .tup h.fk.flt
  · exact .tup h.pl.str.flt
  · exact .tup fun f hf => by
      obtain ⟨_, _, _, _, _, _, _, q, _⟩ := h.rw f hf
      exact q
theorem hasD_mem {us : List D} (h : ∀ d ∈ us, ∃ i : Int, d = .int i) {u : D} (hu : u ∈ us) : hasD us u = true := by
  obtain ⟨i, rfl⟩ := h u hu
  refine List.any_eq_true.mpr ⟨_, hu, ?_⟩
  simp [D.eqv]
theorem logins_ok (hw : w.Ok) : wp (callK Z.tab (k + 10) "_law_logins_right" [.dat w.d, .dat (lisD w.d)]) (fun v μ' => v = .dat (.bl true) ∧ μ' = μ) μ := by
  have hμ : μ.take μ.length = μ := List.take_of_length_le (Nat.le_refl _)
  have hf := hw.flt
  have o1 : w.d.own = true := hf.ow.1
  have d1 : w.d.dep ≤ 6 := hf.2
  obtain ⟨o2, d2⟩ := lis_own w.d o1
  have e1 : tupD w.d = .tup [.tup w.us, .tup w.rs, .tup w.fs] := tpl_tup w.d hf.1
  have e2 : tupD (lisD w.d) = .tup [.tup w.us, .tup w.rs, .tup w.fs] := tpl_lis w.d hf.1
  refine wp_call l_logins rfl ?_
  show wp (G.exec _ f__law_logins_right.body [some (.dat w.d), some (.dat (lisD w.d)), none, none, none, none]) _ _
  simp only [f__law_logins_right]
  rw [w_seq, w_for]
  rw [show w.d = .tup [.tup w.us, .tup w.rs, .tup w.fs] from rfl]
  simp only [wp_pure, w_seq, w_if, w_cmp, w_idx, w_var, w_cst, w_glo, w_blt, w_cons, w_nil, w_bin, w_cal, w_callk, w_not, w_set, w_setT, w_ret, w_exp, w_nx, w_rt, w_skip, w_flr, w_fln, wp_seal_dat, w_tup, w_lst, w_toDs_nil, w_toDs_cons, w_itee, w_isi, w_or, w_and, w_tb, w_comp, w_sseq, w_srng, w_sit, w_sil, wp_toDs, wipeD, w_slc, w_part0, w_part1, w_cutT, w_cutL, w_rep3, w_rep2L, w_isN, w_isnotN, w_listL, w_listT, w_tupl, w_tupt, w_len_t, w_len_l, w_eqI, w_eqB, w_neB, w_gt, w_lt, w_ge, w_le, w_add, w_par, w_parF, w_par3, w_par3F, w_snapD, w_snd, List.set_cons_zero, List.set_cons_succ, List.getElem?_cons_zero, List.getElem?_cons_succ, Option.some.injEq, exists_eq_left', iteF, List.map_cons, List.map_nil, w_ix_t, WD.i0]
  rw [show D.tup [.tup w.us, .tup w.rs, .tup w.fs] = w.d from rfl]
  refine (for_search (J := fun ρ => ∃ a b c d, ρ = [some (.dat w.d), some (.dat (lisD w.d)), a, b, c, d]) (bad := fun _ => false) w.us (fun u hu ρ ⟨a, b, c, d, e⟩ => ?_) _ ⟨none, none, none, none, rfl⟩).mono fun fl μ1 ⟨q0, q1⟩ => ?_
  · subst e
    refine ⟨_, rfl, ?_⟩
    have hin := hasD_mem hw.fk.int hu
    have huf : Flt 1 u := hw.fk.flt u hu
    have hus : ∀ d ∈ w.us, Flt 1 d := hw.fk.flt
    obtain ⟨i, rfl⟩ := hw.fk.int u hu
    have due : ∀ l : List D, StrL l → Ow 4 (.lst [.tup [.tup [.int i, .int i, .int i], .tup [.tup l, .tup l, .tup [], .tup [], .tup w.rs], .tup [], .non], .tup [.tup [.int i, .int i, .int i], .tup [.tup l, .tup l, .tup [], .tup [], .tup w.rs], .tup [], .non], .non]) := fun l hl => by
      have f3 : Flt 3 (.tup [.tup [.int i, .int i, .int i], .tup [.tup l, .tup l, .tup [], .tup [], .tup w.rs], .tup [], .non]) := by
        refine .tup fun d hd => ?_
        simp only [List.mem_cons, List.mem_nil_iff, or_false] at hd
        rcases hd with rfl | rfl | rfl | rfl
        · refine .tup fun d hd => ?_
          simp only [List.mem_cons, List.mem_nil_iff, or_false] at hd
          rcases hd with rfl | rfl | rfl <;> exact .int
        · refine .tup fun d hd => ?_
          simp only [List.mem_cons, List.mem_nil_iff, or_false] at hd
          rcases hd with rfl | rfl | rfl | rfl | rfl
          · exact .tup hl.flt
          · exact .tup hl.flt
          · exact .tup fun _ h => nomatch h
          · exact .tup fun _ h => nomatch h
          · exact .tup hw.pl.str.flt
        · exact .tup fun _ h => nomatch h
        · exact .non
      refine .lst fun d hd => ?_
      simp only [List.mem_cons, List.mem_nil_iff, or_false] at hd
      rcases hd with rfl | rfl | rfl
      · exact f3.ow
      · exact f3.ow
      · exact Flt.ow .non
    rw [show w.d = .tup [.tup w.us, .tup w.rs, .tup w.fs] from rfl]
    simp only [wp_pure, w_seq, w_if, w_cmp, w_idx, w_var, w_cst, w_glo, w_blt, w_cons, w_nil, w_bin, w_cal, w_callk, w_not, w_set, w_setT, w_ret, w_exp, w_nx, w_rt, w_skip, w_flr, w_fln, wp_seal_dat, w_tup, w_lst, w_toDs_nil, w_toDs_cons, w_itee, w_isi, w_or, w_and, w_tb, w_comp, w_sseq, w_srng, w_sit, w_sil, wp_toDs, wipeD, w_slc, w_part0, w_part1, w_cutT, w_cutL, w_rep3, w_rep2L, w_isN, w_isnotN, w_listL, w_listT, w_tupl, w_tupt, w_len_t, w_len_l, w_eqI, w_eqB, w_neB, w_gt, w_lt, w_ge, w_le, w_add, w_par, w_parF, w_par3, w_par3F, w_snapD, w_snd, List.set_cons_zero, List.set_cons_succ, List.getElem?_cons_zero, List.getElem?_cons_succ, Option.some.injEq, exists_eq_left', iteF, List.map_cons, List.map_nil, w_ix_t, WD.i1, perm2]
    have he : D.eqv (.int i) (.int 0) = (i == 0) := by rfl
    have L1 := fun μ => login_ok (k := k + 8) (μ := μ) (rs := w.rs) (fs := .tup w.fs) o1 (by omega) e1 hus huf hin
    have L2 := fun μ => login_ok (k := k + 8) (μ := μ) (rs := w.rs) (fs := .tup w.fs) o2 (by omega) e2 hus huf hin
    have H := fun μ => heard_ok (k := k + 7) (μ := μ) (rs := w.rs) (fs := .tup w.fs) o1 (by omega) e1 hus huf
    simp only [loginD, he, hin, if_true] at L1 L2 H
    cases hz : i == 0 with
    | true =>
      rw [hz] at L1 L2
      simp only [wp_pure, w_seq, w_if, w_cmp, w_idx, w_var, w_cst, w_glo, w_blt, w_cons, w_nil, w_bin, w_cal, w_callk, w_not, w_set, w_setT, w_ret, w_exp, w_nx, w_rt, w_skip, w_flr, w_fln, wp_seal_dat, w_tup, w_lst, w_toDs_nil, w_toDs_cons, w_itee, w_isi, w_or, w_and, w_tb, w_comp, w_sseq, w_srng, w_sit, w_sil, wp_toDs, wipeD, w_slc, w_part0, w_part1, w_cutT, w_cutL, w_rep3, w_rep2L, w_isN, w_isnotN, w_listL, w_listT, w_tupl, w_tupt, w_len_t, w_len_l, w_eqI, w_eqB, w_neB, w_gt, w_lt, w_ge, w_le, w_add, w_par, w_parF, w_par3, w_par3F, w_snapD, w_snd, List.set_cons_zero, List.set_cons_succ, List.getElem?_cons_zero, List.getElem?_cons_succ, Option.some.injEq, exists_eq_left', iteF, List.map_cons, List.map_nil, w_ix_t, WD.i1, perm2]
      refine ⟨rfl, rfl, rfl, rfl, rfl, rfl, ?_⟩
      refine (L1 μ).mono fun v μ1 ⟨q1, q2⟩ => ?_
      subst q1 q2
      try simp only [wp_pure, w_seq, w_if, w_cmp, w_idx, w_var, w_cst, w_glo, w_blt, w_cons, w_nil, w_bin, w_cal, w_callk, w_not, w_set, w_setT, w_ret, w_exp, w_nx, w_rt, w_skip, w_flr, w_fln, wp_seal_dat, w_tup, w_lst, w_toDs_nil, w_toDs_cons, w_itee, w_isi, w_or, w_and, w_tb, w_comp, w_sseq, w_srng, w_sit, w_sil, wp_toDs, wipeD, w_slc, w_part0, w_part1, w_cutT, w_cutL, w_rep3, w_rep2L, w_isN, w_isnotN, w_listL, w_listT, w_tupl, w_tupt, w_len_t, w_len_l, w_eqI, w_eqB, w_neB, w_gt, w_lt, w_ge, w_le, w_add, w_par, w_parF, w_par3, w_par3F, w_snapD, w_snd, List.set_cons_zero, List.set_cons_succ, List.getElem?_cons_zero, List.getElem?_cons_succ, Option.some.injEq, exists_eq_left', iteF, List.map_cons, List.map_nil]
      refine ⟨rfl, (L2 _).mono fun v μ2 ⟨q1, q2⟩ => ?_⟩
      subst q1 q2
      try simp only [wp_pure, w_seq, w_if, w_cmp, w_idx, w_var, w_cst, w_glo, w_blt, w_cons, w_nil, w_bin, w_cal, w_callk, w_not, w_set, w_setT, w_ret, w_exp, w_nx, w_rt, w_skip, w_flr, w_fln, wp_seal_dat, w_tup, w_lst, w_toDs_nil, w_toDs_cons, w_itee, w_isi, w_or, w_and, w_tb, w_comp, w_sseq, w_srng, w_sit, w_sil, wp_toDs, wipeD, w_slc, w_part0, w_part1, w_cutT, w_cutL, w_rep3, w_rep2L, w_isN, w_isnotN, w_listL, w_listT, w_tupl, w_tupt, w_len_t, w_len_l, w_eqI, w_eqB, w_neB, w_gt, w_lt, w_ge, w_le, w_add, w_par, w_parF, w_par3, w_par3F, w_snapD, w_snd, List.set_cons_zero, List.set_cons_succ, List.getElem?_cons_zero, List.getElem?_cons_succ, Option.some.injEq, exists_eq_left', iteF, List.map_cons, List.map_nil]
      refine (H _).mono fun v μ3 ⟨q1, q2⟩ => ?_
      subst q1 q2
      try simp only [wp_pure, w_seq, w_if, w_cmp, w_idx, w_var, w_cst, w_glo, w_blt, w_cons, w_nil, w_bin, w_cal, w_callk, w_not, w_set, w_setT, w_ret, w_exp, w_nx, w_rt, w_skip, w_flr, w_fln, wp_seal_dat, w_tup, w_lst, w_toDs_nil, w_toDs_cons, w_itee, w_isi, w_or, w_and, w_tb, w_comp, w_sseq, w_srng, w_sit, w_sil, wp_toDs, wipeD, w_slc, w_part0, w_part1, w_cutT, w_cutL, w_rep3, w_rep2L, w_isN, w_isnotN, w_listL, w_listT, w_tupl, w_tupt, w_len_t, w_len_l, w_eqI, w_eqB, w_neB, w_gt, w_lt, w_ge, w_le, w_add, w_par, w_parF, w_par3, w_par3F, w_snapD, w_snd, List.set_cons_zero, List.set_cons_succ, List.getElem?_cons_zero, List.getElem?_cons_succ, Option.some.injEq, exists_eq_left', iteF, List.map_cons, List.map_nil]
      refine ⟨rfl, rfl, ?_⟩
      obtain ⟨g1, g2⟩ := due w.rs hw.pl.str
      refine (same_ok l_same (k + 9) _ g1 (by omega) (by omega) _).mono fun v μ4 ⟨q1, q2⟩ => ?_
      subst q1 q2
      simp only [wp_pure, w_seq, w_if, w_cmp, w_idx, w_var, w_cst, w_glo, w_blt, w_cons, w_nil, w_bin, w_cal, w_callk, w_not, w_set, w_setT, w_ret, w_exp, w_nx, w_rt, w_skip, w_flr, w_fln, wp_seal_dat, w_tup, w_lst, w_toDs_nil, w_toDs_cons, w_itee, w_isi, w_or, w_and, w_tb, w_comp, w_sseq, w_srng, w_sit, w_sil, wp_toDs, wipeD, w_slc, w_part0, w_part1, w_cutT, w_cutL, w_rep3, w_rep2L, w_isN, w_isnotN, w_listL, w_listT, w_tupl, w_tupt, w_len_t, w_len_l, w_eqI, w_eqB, w_neB, w_gt, w_lt, w_ge, w_le, w_add, w_par, w_parF, w_par3, w_par3F, w_snapD, w_snd, List.set_cons_zero, List.set_cons_succ, List.getElem?_cons_zero, List.getElem?_cons_succ, Option.some.injEq, exists_eq_left', iteF, List.map_cons, List.map_nil, Bool.not_true]
      refine ⟨trivial, ?_⟩
      exact ⟨_, rfl, _, _, _, _, rfl⟩
    | false =>
      rw [hz] at L1 L2
      simp only [wp_pure, w_seq, w_if, w_cmp, w_idx, w_var, w_cst, w_glo, w_blt, w_cons, w_nil, w_bin, w_cal, w_callk, w_not, w_set, w_setT, w_ret, w_exp, w_nx, w_rt, w_skip, w_flr, w_fln, wp_seal_dat, w_tup, w_lst, w_toDs_nil, w_toDs_cons, w_itee, w_isi, w_or, w_and, w_tb, w_comp, w_sseq, w_srng, w_sit, w_sil, wp_toDs, wipeD, w_slc, w_part0, w_part1, w_cutT, w_cutL, w_rep3, w_rep2L, w_isN, w_isnotN, w_listL, w_listT, w_tupl, w_tupt, w_len_t, w_len_l, w_eqI, w_eqB, w_neB, w_gt, w_lt, w_ge, w_le, w_add, w_par, w_parF, w_par3, w_par3F, w_snapD, w_snd, List.set_cons_zero, List.set_cons_succ, List.getElem?_cons_zero, List.getElem?_cons_succ, Option.some.injEq, exists_eq_left', iteF, List.map_cons, List.map_nil, w_ix_t, WD.i1, perm2]
      refine ⟨rfl, rfl, rfl, rfl, rfl, rfl, rfl, ?_⟩
      refine (L1 μ).mono fun v μ1 ⟨q1, q2⟩ => ?_
      subst q1 q2
      try simp only [wp_pure, w_seq, w_if, w_cmp, w_idx, w_var, w_cst, w_glo, w_blt, w_cons, w_nil, w_bin, w_cal, w_callk, w_not, w_set, w_setT, w_ret, w_exp, w_nx, w_rt, w_skip, w_flr, w_fln, wp_seal_dat, w_tup, w_lst, w_toDs_nil, w_toDs_cons, w_itee, w_isi, w_or, w_and, w_tb, w_comp, w_sseq, w_srng, w_sit, w_sil, wp_toDs, wipeD, w_slc, w_part0, w_part1, w_cutT, w_cutL, w_rep3, w_rep2L, w_isN, w_isnotN, w_listL, w_listT, w_tupl, w_tupt, w_len_t, w_len_l, w_eqI, w_eqB, w_neB, w_gt, w_lt, w_ge, w_le, w_add, w_par, w_parF, w_par3, w_par3F, w_snapD, w_snd, List.set_cons_zero, List.set_cons_succ, List.getElem?_cons_zero, List.getElem?_cons_succ, Option.some.injEq, exists_eq_left', iteF, List.map_cons, List.map_nil]
      refine ⟨rfl, (L2 _).mono fun v μ2 ⟨q1, q2⟩ => ?_⟩
      subst q1 q2
      try simp only [wp_pure, w_seq, w_if, w_cmp, w_idx, w_var, w_cst, w_glo, w_blt, w_cons, w_nil, w_bin, w_cal, w_callk, w_not, w_set, w_setT, w_ret, w_exp, w_nx, w_rt, w_skip, w_flr, w_fln, wp_seal_dat, w_tup, w_lst, w_toDs_nil, w_toDs_cons, w_itee, w_isi, w_or, w_and, w_tb, w_comp, w_sseq, w_srng, w_sit, w_sil, wp_toDs, wipeD, w_slc, w_part0, w_part1, w_cutT, w_cutL, w_rep3, w_rep2L, w_isN, w_isnotN, w_listL, w_listT, w_tupl, w_tupt, w_len_t, w_len_l, w_eqI, w_eqB, w_neB, w_gt, w_lt, w_ge, w_le, w_add, w_par, w_parF, w_par3, w_par3F, w_snapD, w_snd, List.set_cons_zero, List.set_cons_succ, List.getElem?_cons_zero, List.getElem?_cons_succ, Option.some.injEq, exists_eq_left', iteF, List.map_cons, List.map_nil]
      refine (H _).mono fun v μ3 ⟨q1, q2⟩ => ?_
      subst q1 q2
      try simp only [wp_pure, w_seq, w_if, w_cmp, w_idx, w_var, w_cst, w_glo, w_blt, w_cons, w_nil, w_bin, w_cal, w_callk, w_not, w_set, w_setT, w_ret, w_exp, w_nx, w_rt, w_skip, w_flr, w_fln, wp_seal_dat, w_tup, w_lst, w_toDs_nil, w_toDs_cons, w_itee, w_isi, w_or, w_and, w_tb, w_comp, w_sseq, w_srng, w_sit, w_sil, wp_toDs, wipeD, w_slc, w_part0, w_part1, w_cutT, w_cutL, w_rep3, w_rep2L, w_isN, w_isnotN, w_listL, w_listT, w_tupl, w_tupt, w_len_t, w_len_l, w_eqI, w_eqB, w_neB, w_gt, w_lt, w_ge, w_le, w_add, w_par, w_parF, w_par3, w_par3F, w_snapD, w_snd, List.set_cons_zero, List.set_cons_succ, List.getElem?_cons_zero, List.getElem?_cons_succ, Option.some.injEq, exists_eq_left', iteF, List.map_cons, List.map_nil]
      refine ⟨rfl, rfl, ?_⟩
      obtain ⟨g1, g2⟩ := due [] .nil
      refine (same_ok l_same (k + 9) _ g1 (by omega) (by omega) _).mono fun v μ4 ⟨q1, q2⟩ => ?_
      subst q1 q2
      simp only [wp_pure, w_seq, w_if, w_cmp, w_idx, w_var, w_cst, w_glo, w_blt, w_cons, w_nil, w_bin, w_cal, w_callk, w_not, w_set, w_setT, w_ret, w_exp, w_nx, w_rt, w_skip, w_flr, w_fln, wp_seal_dat, w_tup, w_lst, w_toDs_nil, w_toDs_cons, w_itee, w_isi, w_or, w_and, w_tb, w_comp, w_sseq, w_srng, w_sit, w_sil, wp_toDs, wipeD, w_slc, w_part0, w_part1, w_cutT, w_cutL, w_rep3, w_rep2L, w_isN, w_isnotN, w_listL, w_listT, w_tupl, w_tupt, w_len_t, w_len_l, w_eqI, w_eqB, w_neB, w_gt, w_lt, w_ge, w_le, w_add, w_par, w_parF, w_par3, w_par3F, w_snapD, w_snd, List.set_cons_zero, List.set_cons_succ, List.getElem?_cons_zero, List.getElem?_cons_succ, Option.some.injEq, exists_eq_left', iteF, List.map_cons, List.map_nil, Bool.not_true]
      refine ⟨trivial, ?_⟩
      exact ⟨_, rfl, _, _, _, _, rfl⟩
  · subst q0
    rw [show w.us.any (fun _ => false) = false by simp, if_neg (by decide)] at q1
    obtain ⟨_, rfl, a, b, c, d, rfl⟩ := q1
    have hus : ∀ d ∈ w.us, Flt 1 d := hw.fk.flt
    rw [show w.d = .tup [.tup w.us, .tup w.rs, .tup w.fs] from rfl]
    simp only [wp_pure, w_seq, w_if, w_cmp, w_idx, w_var, w_cst, w_glo, w_blt, w_cons, w_nil, w_bin, w_cal, w_callk, w_not, w_set, w_setT, w_ret, w_exp, w_nx, w_rt, w_skip, w_flr, w_fln, wp_seal_dat, w_tup, w_lst, w_toDs_nil, w_toDs_cons, w_itee, w_isi, w_or, w_and, w_tb, w_comp, w_sseq, w_srng, w_sit, w_sil, wp_toDs, wipeD, w_slc, w_part0, w_part1, w_cutT, w_cutL, w_rep3, w_rep2L, w_isN, w_isnotN, w_listL, w_listT, w_tupl, w_tupt, w_len_t, w_len_l, w_eqI, w_eqB, w_neB, w_gt, w_lt, w_ge, w_le, w_add, w_par, w_parF, w_par3, w_par3F, w_snapD, w_snd, List.set_cons_zero, List.set_cons_succ, List.getElem?_cons_zero, List.getElem?_cons_succ, Option.some.injEq, exists_eq_left', iteF, List.map_cons, List.map_nil, w_ix_t, WD.i0]
    rw [show D.tup [.tup w.us, .tup w.rs, .tup w.fs] = w.d from rfl]
    refine ⟨rfl, ?_⟩
    have hx4 : ∀ x ∈ ([.int 1, .int 5, .int 7, .int 999] : List D), Flt 1 x := fun x hx => by
      simp only [List.mem_cons, List.mem_nil_iff, or_false] at hx
      rcases hx with rfl | rfl | rfl | rfl <;> exact .int
    refine (comp_fm (p := fun x => !hasD w.us x) (f := fun x => x) ([.int 1, .int 5, .int 7, .int 999] : List D) (fun x hx => ?_) fun x hx _ => ?_).mono fun ys μ2 ⟨q1, q2⟩ => ?_
    · simp only [wp_bind, wp_pure, w_seq, w_if, w_cmp, w_idx, w_var, w_cst, w_glo, w_blt, w_cons, w_nil, w_bin, w_cal, w_callk, w_not, w_set, w_setT, w_ret, w_exp, w_nx, w_rt, w_skip, w_flr, w_fln, wp_seal_dat, w_tup, w_lst, w_toDs_nil, w_toDs_cons, w_itee, w_isi, w_or, w_and, w_tb, w_comp, w_sseq, w_srng, w_sit, w_sil, wp_toDs, wipeD, w_slc, w_part0, w_part1, w_cutT, w_cutL, w_rep3, w_rep2L, w_isN, w_isnotN, w_listL, w_listT, w_tupl, w_tupt, w_len_t, w_len_l, w_eqI, w_eqB, w_neB, w_gt, w_lt, w_ge, w_le, w_add, w_par, w_parF, w_par3, w_par3F, w_snapD, w_snd, List.set_cons_zero, List.set_cons_succ, List.getElem?_cons_zero, List.getElem?_cons_succ, Option.some.injEq, exists_eq_left', iteF, List.map_cons, List.map_nil, WD.d, w_ix_t, WD.i0, w_ninT ((hx4 x hx).cmpb (by decide)) (all_cmpb hus (by decide)), and_self]
    · simp only [wp_pure, w_seq, w_if, w_cmp, w_idx, w_var, w_cst, w_glo, w_blt, w_cons, w_nil, w_bin, w_cal, w_callk, w_not, w_set, w_setT, w_ret, w_exp, w_nx, w_rt, w_skip, w_flr, w_fln, wp_seal_dat, w_tup, w_lst, w_toDs_nil, w_toDs_cons, w_itee, w_isi, w_or, w_and, w_tb, w_comp, w_sseq, w_srng, w_sit, w_sil, wp_toDs, wipeD, w_slc, w_part0, w_part1, w_cutT, w_cutL, w_rep3, w_rep2L, w_isN, w_isnotN, w_listL, w_listT, w_tupl, w_tupt, w_len_t, w_len_l, w_eqI, w_eqB, w_neB, w_gt, w_lt, w_ge, w_le, w_add, w_par, w_parF, w_par3, w_par3F, w_snapD, w_snd, List.set_cons_zero, List.set_cons_succ, List.getElem?_cons_zero, List.getElem?_cons_succ, Option.some.injEq, exists_eq_left', iteF, List.map_cons, List.map_nil, and_self]
    subst q1 q2
    rw [List.map_id']
    try simp only [wp_pure, w_seq, w_if, w_cmp, w_idx, w_var, w_cst, w_glo, w_blt, w_cons, w_nil, w_bin, w_cal, w_callk, w_not, w_set, w_setT, w_ret, w_exp, w_nx, w_rt, w_skip, w_flr, w_fln, wp_seal_dat, w_tup, w_lst, w_toDs_nil, w_toDs_cons, w_itee, w_isi, w_or, w_and, w_tb, w_comp, w_sseq, w_srng, w_sit, w_sil, wp_toDs, wipeD, w_slc, w_part0, w_part1, w_cutT, w_cutL, w_rep3, w_rep2L, w_isN, w_isnotN, w_listL, w_listT, w_tupl, w_tupt, w_len_t, w_len_l, w_eqI, w_eqB, w_neB, w_gt, w_lt, w_ge, w_le, w_add, w_par, w_parF, w_par3, w_par3F, w_snapD, w_snd, List.set_cons_zero, List.set_cons_succ, List.getElem?_cons_zero, List.getElem?_cons_succ, Option.some.injEq, exists_eq_left', iteF, List.map_cons, List.map_nil]
    refine (comp_pure (f := fun x => .lst [x]) (fun x => ?_) _ fun x hx => ?_).mono fun ys μ2 ⟨q1, q2⟩ => ?_
    · simp only [wp_bind, wp_pure, w_seq, w_if, w_cmp, w_idx, w_var, w_cst, w_glo, w_blt, w_cons, w_nil, w_bin, w_cal, w_callk, w_not, w_set, w_setT, w_ret, w_exp, w_nx, w_rt, w_skip, w_flr, w_fln, wp_seal_dat, w_tup, w_lst, w_toDs_nil, w_toDs_cons, w_itee, w_isi, w_or, w_and, w_tb, w_comp, w_sseq, w_srng, w_sit, w_sil, wp_toDs, wipeD, w_slc, w_part0, w_part1, w_cutT, w_cutL, w_rep3, w_rep2L, w_isN, w_isnotN, w_listL, w_listT, w_tupl, w_tupt, w_len_t, w_len_l, w_eqI, w_eqB, w_neB, w_gt, w_lt, w_ge, w_le, w_add, w_par, w_parF, w_par3, w_par3F, w_snapD, w_snd, List.set_cons_zero, List.set_cons_succ, List.getElem?_cons_zero, List.getElem?_cons_succ, Option.some.injEq, exists_eq_left', iteF, List.map_cons, List.map_nil, and_self]
    · obtain ⟨hx, hx'⟩ := List.mem_filter.mp hx
      try simp only [wp_pure, w_seq, w_if, w_cmp, w_idx, w_var, w_cst, w_glo, w_blt, w_cons, w_nil, w_bin, w_cal, w_callk, w_not, w_set, w_setT, w_ret, w_exp, w_nx, w_rt, w_skip, w_flr, w_fln, wp_seal_dat, w_tup, w_lst, w_toDs_nil, w_toDs_cons, w_itee, w_isi, w_or, w_and, w_tb, w_comp, w_sseq, w_srng, w_sit, w_sil, wp_toDs, wipeD, w_slc, w_part0, w_part1, w_cutT, w_cutL, w_rep3, w_rep2L, w_isN, w_isnotN, w_listL, w_listT, w_tupl, w_tupt, w_len_t, w_len_l, w_eqI, w_eqB, w_neB, w_gt, w_lt, w_ge, w_le, w_add, w_par, w_parF, w_par3, w_par3F, w_snapD, w_snd, List.set_cons_zero, List.set_cons_succ, List.getElem?_cons_zero, List.getElem?_cons_succ, Option.some.injEq, exists_eq_left', iteF, List.map_cons, List.map_nil]
      refine (heard_ok (k := k + 7) (rs := w.rs) (fs := .tup w.fs) o1 (by omega) e1 hus (hx4 x hx)).mono fun v μ3 ⟨q1, q2⟩ => ?_
      have : hasD w.us x = false := by simpa using hx'
      rw [this] at q1
      exact ⟨q1, q2⟩
    subst q1 q2
    try simp only [wp_pure, w_seq, w_if, w_cmp, w_idx, w_var, w_cst, w_glo, w_blt, w_cons, w_nil, w_bin, w_cal, w_callk, w_not, w_set, w_setT, w_ret, w_exp, w_nx, w_rt, w_skip, w_flr, w_fln, wp_seal_dat, w_tup, w_lst, w_toDs_nil, w_toDs_cons, w_itee, w_isi, w_or, w_and, w_tb, w_comp, w_sseq, w_srng, w_sit, w_sil, wp_toDs, wipeD, w_slc, w_part0, w_part1, w_cutT, w_cutL, w_rep3, w_rep2L, w_isN, w_isnotN, w_listL, w_listT, w_tupl, w_tupt, w_len_t, w_len_l, w_eqI, w_eqB, w_neB, w_gt, w_lt, w_ge, w_le, w_add, w_par, w_parF, w_par3, w_par3F, w_snapD, w_snd, List.set_cons_zero, List.set_cons_succ, List.getElem?_cons_zero, List.getElem?_cons_succ, Option.some.injEq, exists_eq_left', iteF, List.map_cons, List.map_nil]
    refine (comp_pure (f := fun x => .lst [x]) (fun x => ?_) _ fun x hx => ?_).mono fun ys μ2 ⟨q1, q2⟩ => ?_
    · simp only [wp_bind, wp_pure, w_seq, w_if, w_cmp, w_idx, w_var, w_cst, w_glo, w_blt, w_cons, w_nil, w_bin, w_cal, w_callk, w_not, w_set, w_setT, w_ret, w_exp, w_nx, w_rt, w_skip, w_flr, w_fln, wp_seal_dat, w_tup, w_lst, w_toDs_nil, w_toDs_cons, w_itee, w_isi, w_or, w_and, w_tb, w_comp, w_sseq, w_srng, w_sit, w_sil, wp_toDs, wipeD, w_slc, w_part0, w_part1, w_cutT, w_cutL, w_rep3, w_rep2L, w_isN, w_isnotN, w_listL, w_listT, w_tupl, w_tupt, w_len_t, w_len_l, w_eqI, w_eqB, w_neB, w_gt, w_lt, w_ge, w_le, w_add, w_par, w_parF, w_par3, w_par3F, w_snapD, w_snd, List.set_cons_zero, List.set_cons_succ, List.getElem?_cons_zero, List.getElem?_cons_succ, Option.some.injEq, exists_eq_left', iteF, List.map_cons, List.map_nil, and_self]
    · simp only [wp_pure, w_seq, w_if, w_cmp, w_idx, w_var, w_cst, w_glo, w_blt, w_cons, w_nil, w_bin, w_cal, w_callk, w_not, w_set, w_setT, w_ret, w_exp, w_nx, w_rt, w_skip, w_flr, w_fln, wp_seal_dat, w_tup, w_lst, w_toDs_nil, w_toDs_cons, w_itee, w_isi, w_or, w_and, w_tb, w_comp, w_sseq, w_srng, w_sit, w_sil, wp_toDs, wipeD, w_slc, w_part0, w_part1, w_cutT, w_cutL, w_rep3, w_rep2L, w_isN, w_isnotN, w_listL, w_listT, w_tupl, w_tupt, w_len_t, w_len_l, w_eqI, w_eqB, w_neB, w_gt, w_lt, w_ge, w_le, w_add, w_par, w_parF, w_par3, w_par3F, w_snapD, w_snd, List.set_cons_zero, List.set_cons_succ, List.getElem?_cons_zero, List.getElem?_cons_succ, Option.some.injEq, exists_eq_left', iteF, List.map_cons, List.map_nil, and_self]
      exact ⟨rfl, trivial⟩
    subst q1 q2
    try simp only [wp_pure, w_seq, w_if, w_cmp, w_idx, w_var, w_cst, w_glo, w_blt, w_cons, w_nil, w_bin, w_cal, w_callk, w_not, w_set, w_setT, w_ret, w_exp, w_nx, w_rt, w_skip, w_flr, w_fln, wp_seal_dat, w_tup, w_lst, w_toDs_nil, w_toDs_cons, w_itee, w_isi, w_or, w_and, w_tb, w_comp, w_sseq, w_srng, w_sit, w_sil, wp_toDs, wipeD, w_slc, w_part0, w_part1, w_cutT, w_cutL, w_rep3, w_rep2L, w_isN, w_isnotN, w_listL, w_listT, w_tupl, w_tupt, w_len_t, w_len_l, w_eqI, w_eqB, w_neB, w_gt, w_lt, w_ge, w_le, w_add, w_par, w_parF, w_par3, w_par3F, w_snapD, w_snd, List.set_cons_zero, List.set_cons_succ, List.getElem?_cons_zero, List.getElem?_cons_succ, Option.some.injEq, exists_eq_left', iteF, List.map_cons, List.map_nil]
    have g : Ow 3 (.lst ((List.filter (fun x => !hasD w.us x) ([.int 1, .int 5, .int 7, .int 999] : List D)).map fun x => .lst [x])) := by
      refine .lst fun d hd => ?_
      obtain ⟨x, hx, rfl⟩ := List.mem_map.mp hd
      refine .lst fun y hy => ?_
      rw [List.mem_singleton.mp hy]
      exact (hx4 x (List.mem_filter.mp hx).1).ow
    obtain ⟨g1, g2⟩ := g
    refine (same_ok l_same (k + 9) _ g1 (by omega) (by omega) _).mono fun v μ4 ⟨q1, q2⟩ => ?_
    subst q1 q2
    simp only [wp_pure, w_seq, w_if, w_cmp, w_idx, w_var, w_cst, w_glo, w_blt, w_cons, w_nil, w_bin, w_cal, w_callk, w_not, w_set, w_setT, w_ret, w_exp, w_nx, w_rt, w_skip, w_flr, w_fln, wp_seal_dat, w_tup, w_lst, w_toDs_nil, w_toDs_cons, w_itee, w_isi, w_or, w_and, w_tb, w_comp, w_sseq, w_srng, w_sit, w_sil, wp_toDs, wipeD, w_slc, w_part0, w_part1, w_cutT, w_cutL, w_rep3, w_rep2L, w_isN, w_isnotN, w_listL, w_listT, w_tupl, w_tupt, w_len_t, w_len_l, w_eqI, w_eqB, w_neB, w_gt, w_lt, w_ge, w_le, w_add, w_par, w_parF, w_par3, w_par3F, w_snapD, w_snd, List.set_cons_zero, List.set_cons_succ, List.getElem?_cons_zero, List.getElem?_cons_succ, Option.some.injEq, exists_eq_left', iteF, List.map_cons, List.map_nil, hμ, and_self]
theorem closed_right_ok (hw : w.Ok) (B : Box β (n + 24) μ) : wp (callK Z.tab (k + 10) "_law_closed_right" [.ref β, .dat w.d, .dat (lisD w.d)]) (fun v μ' => v = .dat (.bl true) ∧ Stp β n μ μ') μ := by
  have hf := hw.flt
  have o1 : w.d.own = true := hf.ow.1
  have d1 : w.d.dep ≤ 6 := hf.2
  obtain ⟨o2, d2⟩ := lis_own w.d o1
  have e1 : tupD w.d = .tup [.tup w.us, .tup w.rs, .tup w.fs] := tpl_tup w.d hf.1
  have e2 : tupD (lisD w.d) = .tup [.tup w.us, .tup w.rs, .tup w.fs] := tpl_lis w.d hf.1
  have hlen := hw.len
  have r6 : ∀ x ∈ w.fs, ∃ n o a g s t, x = .tup [.str n, o, a, g, s, t] ∧ Flt 4 x := fun x hx => by
    obtain ⟨n, o, a, g, s, t, e, h, _⟩ := hw.rw x hx
    exact ⟨n, o, a, g, s, t, e, h⟩
  refine wp_call l_closedr rfl ?_
  show wp (G.exec _ f__law_closed_right.body [some (.ref β), some (.dat w.d), some (.dat (lisD w.d)), none, none, none, none, none]) _ _
  simp only [f__law_closed_right]
  rw [w_seq, w_for]
  simp only [wp_pure, w_seq, w_if, w_cmp, w_idx, w_var, w_cst, w_glo, w_blt, w_cons, w_nil, w_bin, w_cal, w_callk, w_not, w_set, w_setT, w_ret, w_exp, w_nx, w_rt, w_skip, w_flr, w_fln, wp_seal_dat, w_tup, w_lst, w_toDs_nil, w_toDs_cons, w_itee, w_isi, w_or, w_and, w_tb, w_comp, w_sseq, w_srng, w_sit, w_sil, wp_toDs, wipeD, w_slc, w_part0, w_part1, w_cutT, w_cutL, w_rep3, w_rep2L, w_isN, w_isnotN, w_listL, w_listT, w_tupl, w_tupt, w_len_t, w_len_l, w_eqI, w_eqB, w_neB, w_gt, w_lt, w_ge, w_le, w_add, w_par, w_parF, w_par3, w_par3F, w_snapD, w_snd, List.set_cons_zero, List.set_cons_succ, List.getElem?_cons_zero, List.getElem?_cons_succ, Option.some.injEq, exists_eq_left', iteF, List.map_cons, List.map_nil, w_rng]
  refine ⟨rfl, ?_⟩
  refine wp_for (I := fun r ρ μ' => Stp β (n + 8 * r.length) μ μ' ∧ ∃ a b c d e, ρ = [some (.ref β), some (.dat w.d), some (.dat (lisD w.d)), a, b, c, d, e]) ?_ ?_ (rangeD 3) _ μ ⟨.refl B, none, none, none, none, none, rfl⟩
  · rintro x r ρ μ1 ⟨s1, a, b, c, d, e, rfl⟩
    refine ⟨_, rfl, ?_⟩
    let nf : D → D := fun x => match x with
      | .tup (n :: _) => n
      | d => d
    rw [show w.d = .tup [.tup w.us, .tup w.rs, .tup w.fs] from rfl]
    simp only [wp_pure, w_seq, w_if, w_cmp, w_idx, w_var, w_cst, w_glo, w_blt, w_cons, w_nil, w_bin, w_cal, w_callk, w_not, w_set, w_setT, w_ret, w_exp, w_nx, w_rt, w_skip, w_flr, w_fln, wp_seal_dat, w_tup, w_lst, w_toDs_nil, w_toDs_cons, w_itee, w_isi, w_or, w_and, w_tb, w_comp, w_sseq, w_srng, w_sit, w_sil, wp_toDs, wipeD, w_slc, w_part0, w_part1, w_cutT, w_cutL, w_rep3, w_rep2L, w_isN, w_isnotN, w_listL, w_listT, w_tupl, w_tupt, w_len_t, w_len_l, w_eqI, w_eqB, w_neB, w_gt, w_lt, w_ge, w_le, w_add, w_par, w_parF, w_par3, w_par3F, w_snapD, w_snd, List.set_cons_zero, List.set_cons_succ, List.getElem?_cons_zero, List.getElem?_cons_succ, Option.some.injEq, exists_eq_left', iteF, List.map_cons, List.map_nil, w_ix_t, WD.i2]
    refine (comp_pure (f := nf) (fun x => ?_) w.fs fun x hx => ?_).mono fun ys μ2 ⟨q1, q2⟩ => ?_
    · simp only [wp_bind, wp_pure, w_seq, w_if, w_cmp, w_idx, w_var, w_cst, w_glo, w_blt, w_cons, w_nil, w_bin, w_cal, w_callk, w_not, w_set, w_setT, w_ret, w_exp, w_nx, w_rt, w_skip, w_flr, w_fln, wp_seal_dat, w_tup, w_lst, w_toDs_nil, w_toDs_cons, w_itee, w_isi, w_or, w_and, w_tb, w_comp, w_sseq, w_srng, w_sit, w_sil, wp_toDs, wipeD, w_slc, w_part0, w_part1, w_cutT, w_cutL, w_rep3, w_rep2L, w_isN, w_isnotN, w_listL, w_listT, w_tupl, w_tupt, w_len_t, w_len_l, w_eqI, w_eqB, w_neB, w_gt, w_lt, w_ge, w_le, w_add, w_par, w_parF, w_par3, w_par3F, w_snapD, w_snd, List.set_cons_zero, List.set_cons_succ, List.getElem?_cons_zero, List.getElem?_cons_succ, Option.some.injEq, exists_eq_left', iteF, List.map_cons, List.map_nil, and_self]
    · obtain ⟨n, o, a, g, s, t, rfl, _⟩ := r6 x hx
      simp only [wp_pure, w_seq, w_if, w_cmp, w_idx, w_var, w_cst, w_glo, w_blt, w_cons, w_nil, w_bin, w_cal, w_callk, w_not, w_set, w_setT, w_ret, w_exp, w_nx, w_rt, w_skip, w_flr, w_fln, wp_seal_dat, w_tup, w_lst, w_toDs_nil, w_toDs_cons, w_itee, w_isi, w_or, w_and, w_tb, w_comp, w_sseq, w_srng, w_sit, w_sil, wp_toDs, wipeD, w_slc, w_part0, w_part1, w_cutT, w_cutL, w_rep3, w_rep2L, w_isN, w_isnotN, w_listL, w_listT, w_tupl, w_tupt, w_len_t, w_len_l, w_eqI, w_eqB, w_neB, w_gt, w_lt, w_ge, w_le, w_add, w_par, w_parF, w_par3, w_par3F, w_snapD, w_snd, List.set_cons_zero, List.set_cons_succ, List.getElem?_cons_zero, List.getElem?_cons_succ, Option.some.injEq, exists_eq_left', iteF, List.map_cons, List.map_nil, w_ix_t, show L2.atI [D.str n, o, a, g, s, t] 0 = some (.str n) from rfl, and_true]
      rfl
    subst q1 q2
    try simp only [wp_pure, w_seq, w_if, w_cmp, w_idx, w_var, w_cst, w_glo, w_blt, w_cons, w_nil, w_bin, w_cal, w_callk, w_not, w_set, w_setT, w_ret, w_exp, w_nx, w_rt, w_skip, w_flr, w_fln, wp_seal_dat, w_tup, w_lst, w_toDs_nil, w_toDs_cons, w_itee, w_isi, w_or, w_and, w_tb, w_comp, w_sseq, w_srng, w_sit, w_sil, wp_toDs, wipeD, w_slc, w_part0, w_part1, w_cutT, w_cutL, w_rep3, w_rep2L, w_isN, w_isnotN, w_listL, w_listT, w_tupl, w_tupt, w_len_t, w_len_l, w_eqI, w_eqB, w_neB, w_gt, w_lt, w_ge, w_le, w_add, w_par, w_parF, w_par3, w_par3F, w_snapD, w_snd, List.set_cons_zero, List.set_cons_succ, List.getElem?_cons_zero, List.getElem?_cons_succ, Option.some.injEq, exists_eq_left', iteF, List.map_cons, List.map_nil]
    have hb : Box β (n + 8 * r.length + (w.fs.map nf).length) μ2 := s1.box.less (by rw [List.length_map, List.length_cons]; omega)
    refine (few_okL l_take l_few (by decide) (by decide) hb).mono fun v μ3 ⟨so, ev, q1, s2⟩ => ?_
    subst ev
    have hso : StrL so := fun d hd => by
      obtain ⟨x, hx, rfl⟩ := List.mem_map.mp (q1.mem hd)
      obtain ⟨n, o, a, g, s, t, rfl, _⟩ := r6 x hx
      exact ⟨n, rfl⟩
    simp only [wp_pure, w_seq, w_if, w_cmp, w_idx, w_var, w_cst, w_glo, w_blt, w_cons, w_nil, w_bin, w_cal, w_callk, w_not, w_set, w_setT, w_ret, w_exp, w_nx, w_rt, w_skip, w_flr, w_fln, wp_seal_dat, w_tup, w_lst, w_toDs_nil, w_toDs_cons, w_itee, w_isi, w_or, w_and, w_tb, w_comp, w_sseq, w_srng, w_sit, w_sil, wp_toDs, wipeD, w_slc, w_part0, w_part1, w_cutT, w_cutL, w_rep3, w_rep2L, w_isN, w_isnotN, w_listL, w_listT, w_tupl, w_tupt, w_len_t, w_len_l, w_eqI, w_eqB, w_neB, w_gt, w_lt, w_ge, w_le, w_add, w_par, w_parF, w_par3, w_par3F, w_snapD, w_snd, List.set_cons_zero, List.set_cons_succ, List.getElem?_cons_zero, List.getElem?_cons_succ, Option.some.injEq, exists_eq_left', iteF, List.map_cons, List.map_nil, w_ix_t, WD.i2]
    have c6 : ∀ n o a g s t : D, closeF so (.tup [n, o, a, g, s, t]) = if hasD so n then .tup [n, o, a, g, .tup [], t] else .tup [n, o, a, g, s, t] := fun _ _ _ _ _ _ => rfl
    refine (comp_pure (f := closeF so) (fun x => ?_) w.fs fun x hx => ?_).mono fun ys μ4 ⟨q1, q2⟩ => ?_
    · simp only [wp_bind, wp_pure, w_seq, w_if, w_cmp, w_idx, w_var, w_cst, w_glo, w_blt, w_cons, w_nil, w_bin, w_cal, w_callk, w_not, w_set, w_setT, w_ret, w_exp, w_nx, w_rt, w_skip, w_flr, w_fln, wp_seal_dat, w_tup, w_lst, w_toDs_nil, w_toDs_cons, w_itee, w_isi, w_or, w_and, w_tb, w_comp, w_sseq, w_srng, w_sit, w_sil, wp_toDs, wipeD, w_slc, w_part0, w_part1, w_cutT, w_cutL, w_rep3, w_rep2L, w_isN, w_isnotN, w_listL, w_listT, w_tupl, w_tupt, w_len_t, w_len_l, w_eqI, w_eqB, w_neB, w_gt, w_lt, w_ge, w_le, w_add, w_par, w_parF, w_par3, w_par3F, w_snapD, w_snd, List.set_cons_zero, List.set_cons_succ, List.getElem?_cons_zero, List.getElem?_cons_succ, Option.some.injEq, exists_eq_left', iteF, List.map_cons, List.map_nil, and_self]
    · obtain ⟨n, o, a, g, s, t, rfl, _⟩ := r6 x hx
      simp only [wp_pure, w_seq, w_if, w_cmp, w_idx, w_var, w_cst, w_glo, w_blt, w_cons, w_nil, w_bin, w_cal, w_callk, w_not, w_set, w_setT, w_ret, w_exp, w_nx, w_rt, w_skip, w_flr, w_fln, wp_seal_dat, w_tup, w_lst, w_toDs_nil, w_toDs_cons, w_itee, w_isi, w_or, w_and, w_tb, w_comp, w_sseq, w_srng, w_sit, w_sil, wp_toDs, wipeD, w_slc, w_part0, w_part1, w_cutT, w_cutL, w_rep3, w_rep2L, w_isN, w_isnotN, w_listL, w_listT, w_tupl, w_tupt, w_len_t, w_len_l, w_eqI, w_eqB, w_neB, w_gt, w_lt, w_ge, w_le, w_add, w_par, w_parF, w_par3, w_par3F, w_snapD, w_snd, List.set_cons_zero, List.set_cons_succ, List.getElem?_cons_zero, List.getElem?_cons_succ, Option.some.injEq, exists_eq_left', iteF, List.map_cons, List.map_nil, w_ix_t, show L2.atI [D.str n, o, a, g, s, t] 0 = some (.str n) from rfl, w_inT (Flt.cmpb (n := 1) .str (by decide)) (all_cmpb (hso.flt (n := 1)) (by decide))]
      cases hh : hasD so (.str n) with
      | true =>
        simp only [wp_pure, w_seq, w_if, w_cmp, w_idx, w_var, w_cst, w_glo, w_blt, w_cons, w_nil, w_bin, w_cal, w_callk, w_not, w_set, w_setT, w_ret, w_exp, w_nx, w_rt, w_skip, w_flr, w_fln, wp_seal_dat, w_tup, w_lst, w_toDs_nil, w_toDs_cons, w_itee, w_isi, w_or, w_and, w_tb, w_comp, w_sseq, w_srng, w_sit, w_sil, wp_toDs, wipeD, w_slc, w_part0, w_part1, w_cutT, w_cutL, w_rep3, w_rep2L, w_isN, w_isnotN, w_listL, w_listT, w_tupl, w_tupt, w_len_t, w_len_l, w_eqI, w_eqB, w_neB, w_gt, w_lt, w_ge, w_le, w_add, w_par, w_parF, w_par3, w_par3F, w_snapD, w_snd, List.set_cons_zero, List.set_cons_succ, List.getElem?_cons_zero, List.getElem?_cons_succ, Option.some.injEq, exists_eq_left', iteF, List.map_cons, List.map_nil, w_ix_t, show L2.atI [D.str n, o, a, g, s, t] 5 = some t from rfl]
        refine ⟨rfl, rfl, ?_⟩
        rw [show cut [D.str n, o, a, g, s, t] none (some 4) = [.str n, o, a, g] from rfl, w_addT (by show 6 ≤ _; decide), c6, hh]
        exact ⟨rfl, rfl⟩
      | false =>
        simp only [wp_pure, w_seq, w_if, w_cmp, w_idx, w_var, w_cst, w_glo, w_blt, w_cons, w_nil, w_bin, w_cal, w_callk, w_not, w_set, w_setT, w_ret, w_exp, w_nx, w_rt, w_skip, w_flr, w_fln, wp_seal_dat, w_tup, w_lst, w_toDs_nil, w_toDs_cons, w_itee, w_isi, w_or, w_and, w_tb, w_comp, w_sseq, w_srng, w_sit, w_sil, wp_toDs, wipeD, w_slc, w_part0, w_part1, w_cutT, w_cutL, w_rep3, w_rep2L, w_isN, w_isnotN, w_listL, w_listT, w_tupl, w_tupt, w_len_t, w_len_l, w_eqI, w_eqB, w_neB, w_gt, w_lt, w_ge, w_le, w_add, w_par, w_parF, w_par3, w_par3F, w_snapD, w_snd, List.set_cons_zero, List.set_cons_succ, List.getElem?_cons_zero, List.getElem?_cons_succ, Option.some.injEq, exists_eq_left', iteF, List.map_cons, List.map_nil, w_ix_t, show L2.atI [D.str n, o, a, g, s, t] 5 = some t from rfl, show L2.atI [D.str n, o, a, g, s, t] 4 = some s from rfl]
        refine ⟨rfl, ?_⟩
        rw [show cut [D.str n, o, a, g, s, t] none (some 4) = [.str n, o, a, g] from rfl, w_addT (by show 6 ≤ _; decide), c6, hh]
        exact ⟨rfl, rfl⟩
    subst q1 q2
    try simp only [wp_pure, w_seq, w_if, w_cmp, w_idx, w_var, w_cst, w_glo, w_blt, w_cons, w_nil, w_bin, w_cal, w_callk, w_not, w_set, w_setT, w_ret, w_exp, w_nx, w_rt, w_skip, w_flr, w_fln, wp_seal_dat, w_tup, w_lst, w_toDs_nil, w_toDs_cons, w_itee, w_isi, w_or, w_and, w_tb, w_comp, w_sseq, w_srng, w_sit, w_sil, wp_toDs, wipeD, w_slc, w_part0, w_part1, w_cutT, w_cutL, w_rep3, w_rep2L, w_isN, w_isnotN, w_listL, w_listT, w_tupl, w_tupt, w_len_t, w_len_l, w_eqI, w_eqB, w_neB, w_gt, w_lt, w_ge, w_le, w_add, w_par, w_parF, w_par3, w_par3F, w_snapD, w_snd, List.set_cons_zero, List.set_cons_succ, List.getElem?_cons_zero, List.getElem?_cons_succ, Option.some.injEq, exists_eq_left', iteF, List.map_cons, List.map_nil]
    have hr6 : ∀ d ∈ w.fs, Row6 d := fun d hd => by
      obtain ⟨n, o, a, g, s, t, e, _⟩ := r6 d hd
      exact ⟨.str n, o, a, g, s, t, e, .str⟩
    have hout : Flt 6 (.tup [.tup w.us, .tup w.rs, .tup (w.fs.map (closeF so))]) := by
      refine .tup fun d hd => ?_
      simp only [List.mem_cons, List.mem_nil_iff, or_false] at hd
      rcases hd with rfl | rfl | rfl
      · exact .tup hw.fk.flt
      · exact .tup hw.pl.str.flt
      · refine .tup fun f hf => ?_
        obtain ⟨x, hx, rfl⟩ := List.mem_map.mp hf
        obtain ⟨n, o, a, g, s, t, rfl, h⟩ := r6 x hx
        rw [c6]
        split
        · refine .tup fun y hy => ?_
          simp only [List.mem_cons, List.mem_nil_iff, or_false] at hy
          rcases hy with rfl | rfl | rfl | rfl | rfl | rfl
          · exact .str
          · exact h.mem _ (by simp)
          · exact h.mem _ (by simp)
          · exact h.mem _ (by simp)
          · exact .tup fun _ z => nomatch z
          · exact h.mem _ (by simp)
        · exact h
    refine (closed_ok (k := k + 8) (ns := so) o1 (by omega) e1 (.inl rfl) hso.flt hr6).mono fun v μ5 ⟨q1, q2⟩ => ?_
    subst q1 q2
    simp only [wp_pure, w_seq, w_if, w_cmp, w_idx, w_var, w_cst, w_glo, w_blt, w_cons, w_nil, w_bin, w_cal, w_callk, w_not, w_set, w_setT, w_ret, w_exp, w_nx, w_rt, w_skip, w_flr, w_fln, wp_seal_dat, w_tup, w_lst, w_toDs_nil, w_toDs_cons, w_itee, w_isi, w_or, w_and, w_tb, w_comp, w_sseq, w_srng, w_sit, w_sil, wp_toDs, wipeD, w_slc, w_part0, w_part1, w_cutT, w_cutL, w_rep3, w_rep2L, w_isN, w_isnotN, w_listL, w_listT, w_tupl, w_tupt, w_len_t, w_len_l, w_eqI, w_eqB, w_neB, w_gt, w_lt, w_ge, w_le, w_add, w_par, w_parF, w_par3, w_par3F, w_snapD, w_snd, List.set_cons_zero, List.set_cons_succ, List.getElem?_cons_zero, List.getElem?_cons_succ, Option.some.injEq, exists_eq_left', iteF, List.map_cons, List.map_nil, perm2]
    refine ⟨rfl, ?_⟩
    refine (closed_ok (k := k + 8) (ns := so) o2 (by omega) e2 (.inr rfl) hso.flt hr6).mono fun v μ6 ⟨q1, q2⟩ => ?_
    subst q1 q2
    simp only [wp_pure, w_seq, w_if, w_cmp, w_idx, w_var, w_cst, w_glo, w_blt, w_cons, w_nil, w_bin, w_cal, w_callk, w_not, w_set, w_setT, w_ret, w_exp, w_nx, w_rt, w_skip, w_flr, w_fln, wp_seal_dat, w_tup, w_lst, w_toDs_nil, w_toDs_cons, w_itee, w_isi, w_or, w_and, w_tb, w_comp, w_sseq, w_srng, w_sit, w_sil, wp_toDs, wipeD, w_slc, w_part0, w_part1, w_cutT, w_cutL, w_rep3, w_rep2L, w_isN, w_isnotN, w_listL, w_listT, w_tupl, w_tupt, w_len_t, w_len_l, w_eqI, w_eqB, w_neB, w_gt, w_lt, w_ge, w_le, w_add, w_par, w_parF, w_par3, w_par3F, w_snapD, w_snd, List.set_cons_zero, List.set_cons_succ, List.getElem?_cons_zero, List.getElem?_cons_succ, Option.some.injEq, exists_eq_left', iteF, List.map_cons, List.map_nil]
    refine ⟨rfl, rfl, ?_⟩
    rw [show cut [D.tup w.us, .tup w.rs, .tup w.fs] none (some 2) = [.tup w.us, .tup w.rs] from rfl, w_addT (by show 3 ≤ _; decide)]
    try simp only [wp_pure, w_seq, w_if, w_cmp, w_idx, w_var, w_cst, w_glo, w_blt, w_cons, w_nil, w_bin, w_cal, w_callk, w_not, w_set, w_setT, w_ret, w_exp, w_nx, w_rt, w_skip, w_flr, w_fln, wp_seal_dat, w_tup, w_lst, w_toDs_nil, w_toDs_cons, w_itee, w_isi, w_or, w_and, w_tb, w_comp, w_sseq, w_srng, w_sit, w_sil, wp_toDs, wipeD, w_slc, w_part0, w_part1, w_cutT, w_cutL, w_rep3, w_rep2L, w_isN, w_isnotN, w_listL, w_listT, w_tupl, w_tupt, w_len_t, w_len_l, w_eqI, w_eqB, w_neB, w_gt, w_lt, w_ge, w_le, w_add, w_par, w_parF, w_par3, w_par3F, w_snapD, w_snd, List.set_cons_zero, List.set_cons_succ, List.getElem?_cons_zero, List.getElem?_cons_succ, Option.some.injEq, exists_eq_left', iteF, List.map_cons, List.map_nil]
    refine ⟨rfl, ?_⟩
    obtain ⟨g1, g2⟩ : Ow 7 (.lst [.tup [.tup w.us, .tup w.rs, .tup (w.fs.map (closeF so))], .tup [.tup w.us, .tup w.rs, .tup (w.fs.map (closeF so))]]) := by
      refine .lst fun d hd => ?_
      simp only [List.mem_cons, List.mem_nil_iff, or_false, or_self] at hd
      subst hd
      exact hout.ow
    refine (same_ok l_same (k + 9) _ g1 (by omega) (by omega) _).mono fun v μ7 ⟨q1, q2⟩ => ?_
    subst q1 q2
    simp only [wp_pure, w_seq, w_if, w_cmp, w_idx, w_var, w_cst, w_glo, w_blt, w_cons, w_nil, w_bin, w_cal, w_callk, w_not, w_set, w_setT, w_ret, w_exp, w_nx, w_rt, w_skip, w_flr, w_fln, wp_seal_dat, w_tup, w_lst, w_toDs_nil, w_toDs_cons, w_itee, w_isi, w_or, w_and, w_tb, w_comp, w_sseq, w_srng, w_sit, w_sil, wp_toDs, wipeD, w_slc, w_part0, w_part1, w_cutT, w_cutL, w_rep3, w_rep2L, w_isN, w_isnotN, w_listL, w_listT, w_tupl, w_tupt, w_len_t, w_len_l, w_eqI, w_eqB, w_neB, w_gt, w_lt, w_ge, w_le, w_add, w_par, w_parF, w_par3, w_par3F, w_snapD, w_snd, List.set_cons_zero, List.set_cons_succ, List.getElem?_cons_zero, List.getElem?_cons_succ, Option.some.injEq, exists_eq_left', iteF, List.map_cons, List.map_nil, Bool.not_true]
    exact ⟨s1.trans s2, _, _, _, _, _, rfl⟩
  · rintro ρ μ1 ⟨s1, a, b, c, d, e, rfl⟩
    simp only [wp_pure, w_seq, w_if, w_cmp, w_idx, w_var, w_cst, w_glo, w_blt, w_cons, w_nil, w_bin, w_cal, w_callk, w_not, w_set, w_setT, w_ret, w_exp, w_nx, w_rt, w_skip, w_flr, w_fln, wp_seal_dat, w_tup, w_lst, w_toDs_nil, w_toDs_cons, w_itee, w_isi, w_or, w_and, w_tb, w_comp, w_sseq, w_srng, w_sit, w_sil, wp_toDs, wipeD, w_slc, w_part0, w_part1, w_cutT, w_cutL, w_rep3, w_rep2L, w_isN, w_isnotN, w_listL, w_listT, w_tupl, w_tupt, w_len_t, w_len_l, w_eqI, w_eqB, w_neB, w_gt, w_lt, w_ge, w_le, w_add, w_par, w_parF, w_par3, w_par3F, w_snapD, w_snd, List.set_cons_zero, List.set_cons_succ, List.getElem?_cons_zero, List.getElem?_cons_succ, Option.some.injEq, exists_eq_left', iteF, List.map_cons, List.map_nil, s1.take]
    exact ⟨trivial, s1⟩
end
end K05
set_option Elab.async false
set_option linter.all false
set_option maxRecDepth 100000
set_option maxHeartbeats 1000000
/-! D13: within is right. -/
namespace G
open PySem
theorem w_isB {μ : Sto} {Q : Val → Sto → Prop} {i j : Bool} : wp (opCmp .iss (.dat (.bl i)) (.dat (.bl j))) Q μ ↔ Q (.dat (.bl (decide (i = j)))) μ := wp_dat
end G
namespace K05
open PySem G
theorem l_withinr : Z.tab.lookup ("_law_within_right" : Str) = some f__law_within_right := by rfl
theorem l_hand : Z.tab.lookup ("_law_by_hand" : Str) = some f__law_by_hand := by rfl
theorem l_right : Z.tab.lookup ("_law_right" : Str) = some f__law_right := by rfl
theorem hasD_str {l : List D} (h : StrL l) {x : D} (hx : x ∈ l) : hasD l x = true := by
  obtain ⟨i, rfl⟩ := h x hx
  refine List.any_eq_true.mpr ⟨_, hx, ?_⟩
  exact eqv_refl _ rfl
theorem partB_self {a : List D} (h : StrL a) : partB a a = true := List.all_eq_true.mpr fun x hx => hasD_str h hx
theorem parts_self : ∀ {A : List (List D)}, (∀ a ∈ A, StrL a) → (A.zip A).all (fun q => partB q.1 q.2) = true
  | [], _ => rfl
  | a :: A, h => by
    rw [List.zip_cons_cons, List.all_cons, partB_self (h a (List.mem_cons_self ..)), parts_self fun x hx => h x (List.mem_cons_of_mem _ hx)]; rfl
theorem within_self {s : SD} (h : s.Ok) : withinB s s = true := by
  have e3 : swB s.sw s.sw = true := by
    unfold swB
    cases hasD s.sw (.str "fast") <;> simp
  rw [withinB, eqv_refl _ h.idsF.ow.1, eqv_refl _ h.at_.ow.1, e3, partsB, parts_self h.A]; rfl
section
variable {k n β : Nat} {μ : Sto} {w : WD} {s t : SD}
theorem SD.lis (hs : s.Ok) : (lisD s.d).own = true ∧ (lisD s.d).dep ≤ 4 ∧ tupD (lisD s.d) = s.d ∧ s.d.own = true ∧ s.d.dep ≤ 4 ∧ tupD s.d = s.d := by
  have f := hs.flt
  obtain ⟨a, b⟩ := lis_own s.d f.ow.1
  exact ⟨a, by rw [b]; exact f.2, tpl_lis _ f.1, f.ow.1, f.2, tpl_tup _ f.1⟩
theorem within_right_ok (hw : w.Ok) (B : Box β (n + 610) μ) : wp (callK Z.tab (k + 10) "_law_within_right" [.ref β, .dat w.d]) (fun v μ' => v = .dat (.bl true) ∧ Stp β n μ μ') μ := by
  refine wp_call l_withinr rfl ?_
  show wp (G.exec _ f__law_within_right.body [some (.ref β), some (.dat w.d), none, none, none, none, none, none, none, none]) _ _
  simp only [f__law_within_right]
  rw [w_seq]
  simp only [w_set, w_cal, w_cons, w_nil, w_var, List.getElem?_cons_zero, List.getElem?_cons_succ, Option.some.injEq, exists_eq_left']
  refine (spot_ok (k := k + 5) (n := n + 558) hw B).mono fun v μ1 ⟨s, e, hs, h8, s1⟩ => ?_
  subst e
  rw [w_nx, w_seq, w_for]
  simp only [wp_pure, w_seq, w_if, w_cmp, w_idx, w_var, w_cst, w_glo, w_blt, w_cons, w_nil, w_bin, w_cal, w_callk, w_not, w_set, w_setT, w_ret, w_exp, w_nx, w_rt, w_skip, w_flr, w_fln, wp_seal_dat, w_tup, w_lst, w_toDs_nil, w_toDs_cons, w_itee, w_isi, w_or, w_and, w_tb, w_comp, w_sseq, w_srng, w_sit, w_sil, wp_toDs, wipeD, w_slc, w_part0, w_part1, w_cutT, w_cutL, w_rep3, w_rep2L, w_isN, w_isnotN, w_listL, w_listT, w_tupl, w_tupt, w_len_t, w_len_l, w_eqI, w_eqB, w_neB, w_gt, w_lt, w_ge, w_le, w_add, w_par, w_parF, w_par3, w_par3F, w_snapD, w_snd, List.set_cons_zero, List.set_cons_succ, List.getElem?_cons_zero, List.getElem?_cons_succ, Option.some.injEq, exists_eq_left', iteF, List.map_cons, List.map_nil, w_rng]
  refine ⟨rfl, ?_⟩
  refine wp_for (I := fun r ρ μ' => Stp β (n + 93 * r.length) μ μ' ∧ ∃ a b c d e f g, ρ = [some (.ref β), some (.dat w.d), some (.dat s.d), a, b, c, d, e, f, g]) ?_ ?_ (rangeD 6) _ μ1 ⟨s1, _, _, _, _, _, _, _, rfl⟩
  · rintro x r ρ μ2 ⟨s2, a, b, c, d, e, f, g, rfl⟩
    refine ⟨_, rfl, ?_⟩
    rw [List.length_cons] at s2
    rw [w_seq]
    simp only [w_set, w_var, List.set_cons_zero, List.set_cons_succ, List.getElem?_cons_zero, List.getElem?_cons_succ, Option.some.injEq, exists_eq_left', w_nx]
    rw [w_seq, w_for]
    simp only [w_srng, w_cal, w_cons, w_nil, w_var, w_cst, List.getElem?_cons_zero, List.getElem?_cons_succ, Option.some.injEq, exists_eq_left']
    refine (take_st l_take (n := n + 93 * r.length + 92) (by decide) (by decide) (s2.box.less (by omega))).mono fun v μ3 ⟨i, e, i1, i2, s3⟩ => ?_
    subst e
    simp only [w_rng, wp_toDs]
    refine ⟨by simp only [Bool.and_eq_true, decide_eq_true_eq]; omega, ?_⟩
    have hl : (rangeD i.toNat).length = i.toNat := by simp [rangeD]
    refine wp_for (I := fun q ρ μ' => Stp β (n + 93 * r.length + 52 + 20 * q.length) μ μ' ∧ ∃ (t : SD) (bd : Nat), t.Ok ∧ t.Le bd ∧ 8 ≤ bd ∧ bd * 2 ^ q.length ≤ 32 ∧ ∃ a c d e f g, ρ = [some (.ref β), some (.dat w.d), some (.dat s.d), a, some (.dat t.d), c, d, e, f, g]) ?_ ?_ (rangeD i.toNat) _ μ3 ⟨(s2.trans s3).less (by rw [hl]; omega), s, 8, hs, h8, Nat.le_refl _, ?_, _, _, _, _, _, _, rfl⟩
    · rintro y q ρ μ4 ⟨s4, t, bd, ht, hle, hb8, hbd, a, c, d, e, f, g, rfl⟩
      refine ⟨_, rfl, ?_⟩
      rw [List.length_cons] at s4 hbd
      have hp : 1 ≤ 2 ^ q.length := Nat.one_le_two_pow
      have hb16 : bd ≤ 16 := by
        rw [Nat.pow_succ, ← Nat.mul_assoc] at hbd
        have : bd * 1 ≤ bd * 2 ^ q.length := Nat.mul_le_mul_left _ hp
        omega
      simp only [wp_pure, w_seq, w_if, w_cmp, w_idx, w_var, w_cst, w_glo, w_blt, w_cons, w_nil, w_bin, w_cal, w_callk, w_not, w_set, w_setT, w_ret, w_exp, w_nx, w_rt, w_skip, w_flr, w_fln, wp_seal_dat, w_tup, w_lst, w_toDs_nil, w_toDs_cons, w_itee, w_isi, w_or, w_and, w_tb, w_comp, w_sseq, w_srng, w_sit, w_sil, wp_toDs, wipeD, w_slc, w_part0, w_part1, w_cutT, w_cutL, w_rep3, w_rep2L, w_isN, w_isnotN, w_listL, w_listT, w_tupl, w_tupt, w_len_t, w_len_l, w_eqI, w_eqB, w_neB, w_gt, w_lt, w_ge, w_le, w_add, w_par, w_parF, w_par3, w_par3F, w_snapD, w_snd, List.set_cons_zero, List.set_cons_succ, List.getElem?_cons_zero, List.getElem?_cons_succ, Option.some.injEq, exists_eq_left', iteF, List.map_cons, List.map_nil]
      refine (varied_ok (k := k + 6) (n := n + 93 * r.length + 52 + 20 * q.length) hw ht hb8 hb16 hle (s4.box.less (by omega))).mono fun v μ5 ⟨t', e, ht', hle', s5⟩ => ?_
      subst e
      try simp only [wp_pure, w_seq, w_if, w_cmp, w_idx, w_var, w_cst, w_glo, w_blt, w_cons, w_nil, w_bin, w_cal, w_callk, w_not, w_set, w_setT, w_ret, w_exp, w_nx, w_rt, w_skip, w_flr, w_fln, wp_seal_dat, w_tup, w_lst, w_toDs_nil, w_toDs_cons, w_itee, w_isi, w_or, w_and, w_tb, w_comp, w_sseq, w_srng, w_sit, w_sil, wp_toDs, wipeD, w_slc, w_part0, w_part1, w_cutT, w_cutL, w_rep3, w_rep2L, w_isN, w_isnotN, w_listL, w_listT, w_tupl, w_tupt, w_len_t, w_len_l, w_eqI, w_eqB, w_neB, w_gt, w_lt, w_ge, w_le, w_add, w_par, w_parF, w_par3, w_par3F, w_snapD, w_snd, List.set_cons_zero, List.set_cons_succ, List.getElem?_cons_zero, List.getElem?_cons_succ, Option.some.injEq, exists_eq_left', iteF, List.map_cons, List.map_nil]
      refine ⟨s4.trans s5, t', bd + bd, ht', hle', by omega, ?_, _, _, _, _, _, _, rfl⟩
      rw [Nat.pow_succ, ← Nat.mul_assoc] at hbd
      rw [Nat.add_mul]
      omega
    · rintro ρ μ4 ⟨s4, t, bd, ht, hle, hb8, hbd, a, c, d, e, f, g, rfl⟩
      rw [w_nx, w_seq, w_for]
      simp only [w_sseq, w_tup, w_cons, w_nil, w_var, w_cal, w_cst, List.getElem?_cons_zero, List.getElem?_cons_succ, Option.some.injEq, exists_eq_left', w_toDs_nil, w_toDs_cons]
      refine ⟨rfl, rfl, ?_⟩
      refine (spot_ok (k := k + 5) (n := n + 93 * r.length) hw s4.box).mono fun v μ5 ⟨u, e, hu, _, s5⟩ => ?_
      subst e
      try simp only [wp_pure, w_seq, w_if, w_cmp, w_idx, w_var, w_cst, w_glo, w_blt, w_cons, w_nil, w_bin, w_cal, w_callk, w_not, w_set, w_setT, w_ret, w_exp, w_nx, w_rt, w_skip, w_flr, w_fln, wp_seal_dat, w_tup, w_lst, w_toDs_nil, w_toDs_cons, w_itee, w_isi, w_or, w_and, w_tb, w_comp, w_sseq, w_srng, w_sit, w_sil, wp_toDs, wipeD, w_slc, w_part0, w_part1, w_cutT, w_cutL, w_rep3, w_rep2L, w_isN, w_isnotN, w_listL, w_listT, w_tupl, w_tupt, w_len_t, w_len_l, w_eqI, w_eqB, w_neB, w_gt, w_lt, w_ge, w_le, w_add, w_par, w_parF, w_par3, w_par3F, w_snapD, w_snd, List.set_cons_zero, List.set_cons_succ, List.getElem?_cons_zero, List.getElem?_cons_succ, Option.some.injEq, exists_eq_left', iteF, List.map_cons, List.map_nil]
      refine ⟨rfl, rfl, ?_⟩
      refine (for_search (J := fun ρ => ∃ a c d e f g, ρ = [some (.ref β), some (.dat w.d), some (.dat s.d), a, some (.dat t.d), c, d, e, f, g]) (bad := fun _ => false) [.tup [s.d, t.d], .tup [t.d, s.d], .tup [s.d, u.d]] (fun x hx ρ ⟨a, c, d, e, f, g, e0⟩ => ?_) _ ⟨_, _, _, _, _, _, rfl⟩).mono fun fl μ6 ⟨q0, q1⟩ => ?_
      · subst e0
        have : ∃ y z : SD, x = .tup [y.d, z.d] ∧ y.Ok ∧ z.Ok := by
          simp only [List.mem_cons, List.mem_nil_iff, or_false] at hx
          rcases hx with rfl | rfl | rfl
          · exact ⟨_, _, rfl, hs, ht⟩
          · exact ⟨_, _, rfl, ht, hs⟩
          · exact ⟨_, _, rfl, hs, hu⟩
        obtain ⟨y, z, rfl, hy, hz⟩ := this
        refine ⟨_, rfl, ?_⟩
        obtain ⟨y1, y2, y3, y4, y5, y6⟩ := SD.lis hy
        obtain ⟨z1, z2, z3, z4, z5, z6⟩ := SD.lis hz
        have pr : Ow 5 (.lst [y.d, z.d]) := .lst fun d hd => by
          simp only [List.mem_cons, List.mem_nil_iff, or_false] at hd
          rcases hd with rfl | rfl
          · exact hy.flt.ow
          · exact hz.flt.ow
        have ls := fun μ => lists_ok l_lists (k + 9) (.lst [y.d, z.d]) pr.1 (by have := pr.2; omega) μ
        have el : lisD (.lst [y.d, z.d]) = .lst [lisD y.d, lisD z.d] := rfl
        have ol : Ow 5 (.lst [lisD y.d, lisD z.d]) := by
          obtain ⟨a, b⟩ := lis_own _ pr.1
          rw [← el]
          exact ⟨a, by rw [b]; exact pr.2⟩
        rw [el] at ls
        simp only [wp_pure, w_seq, w_if, w_cmp, w_idx, w_var, w_cst, w_glo, w_blt, w_cons, w_nil, w_bin, w_cal, w_callk, w_not, w_set, w_setT, w_ret, w_exp, w_nx, w_rt, w_skip, w_flr, w_fln, wp_seal_dat, w_tup, w_lst, w_toDs_nil, w_toDs_cons, w_itee, w_isi, w_or, w_and, w_tb, w_comp, w_sseq, w_srng, w_sit, w_sil, wp_toDs, wipeD, w_slc, w_part0, w_part1, w_cutT, w_cutL, w_rep3, w_rep2L, w_isN, w_isnotN, w_listL, w_listT, w_tupl, w_tupt, w_len_t, w_len_l, w_eqI, w_eqB, w_neB, w_gt, w_lt, w_ge, w_le, w_add, w_par, w_parF, w_par3, w_par3F, w_snapD, w_snd, List.set_cons_zero, List.set_cons_succ, List.getElem?_cons_zero, List.getElem?_cons_succ, Option.some.injEq, exists_eq_left', iteF, List.map_cons, List.map_nil]
        refine ⟨rfl, (ls _).mono fun v μ7 ⟨q1, q2⟩ => ?_⟩
        subst q1 q2
        try simp only [wp_pure, w_seq, w_if, w_cmp, w_idx, w_var, w_cst, w_glo, w_blt, w_cons, w_nil, w_bin, w_cal, w_callk, w_not, w_set, w_setT, w_ret, w_exp, w_nx, w_rt, w_skip, w_flr, w_fln, wp_seal_dat, w_tup, w_lst, w_toDs_nil, w_toDs_cons, w_itee, w_isi, w_or, w_and, w_tb, w_comp, w_sseq, w_srng, w_sit, w_sil, wp_toDs, wipeD, w_slc, w_part0, w_part1, w_cutT, w_cutL, w_rep3, w_rep2L, w_isN, w_isnotN, w_listL, w_listT, w_tupl, w_tupt, w_len_t, w_len_l, w_eqI, w_eqB, w_neB, w_gt, w_lt, w_ge, w_le, w_add, w_par, w_parF, w_par3, w_par3F, w_snapD, w_snd, List.set_cons_zero, List.set_cons_succ, List.getElem?_cons_zero, List.getElem?_cons_succ, Option.some.injEq, exists_eq_left', iteF, List.map_cons, List.map_nil]
        refine (due_ok (k := k + 7) hy hz).mono fun v μ8 ⟨q1, q2⟩ => ?_
        subst q1 q2
        simp only [wp_pure, w_seq, w_if, w_cmp, w_idx, w_var, w_cst, w_glo, w_blt, w_cons, w_nil, w_bin, w_cal, w_callk, w_not, w_set, w_setT, w_ret, w_exp, w_nx, w_rt, w_skip, w_flr, w_fln, wp_seal_dat, w_tup, w_lst, w_toDs_nil, w_toDs_cons, w_itee, w_isi, w_or, w_and, w_tb, w_comp, w_sseq, w_srng, w_sit, w_sil, wp_toDs, wipeD, w_slc, w_part0, w_part1, w_cutT, w_cutL, w_rep3, w_rep2L, w_isN, w_isnotN, w_listL, w_listT, w_tupl, w_tupt, w_len_t, w_len_l, w_eqI, w_eqB, w_neB, w_gt, w_lt, w_ge, w_le, w_add, w_par, w_parF, w_par3, w_par3F, w_snapD, w_snd, List.set_cons_zero, List.set_cons_succ, List.getElem?_cons_zero, List.getElem?_cons_succ, Option.some.injEq, exists_eq_left', iteF, List.map_cons, List.map_nil]
        refine (within_ok (k := k + 7) y4 (by omega) y6 z4 (by omega) z6 hy hz).mono fun v μ9 ⟨q1, q2⟩ => ?_
        subst q1 q2
        simp only [wp_pure, w_seq, w_if, w_cmp, w_idx, w_var, w_cst, w_glo, w_blt, w_cons, w_nil, w_bin, w_cal, w_callk, w_not, w_set, w_setT, w_ret, w_exp, w_nx, w_rt, w_skip, w_flr, w_fln, wp_seal_dat, w_tup, w_lst, w_toDs_nil, w_toDs_cons, w_itee, w_isi, w_or, w_and, w_tb, w_comp, w_sseq, w_srng, w_sit, w_sil, wp_toDs, wipeD, w_slc, w_part0, w_part1, w_cutT, w_cutL, w_rep3, w_rep2L, w_isN, w_isnotN, w_listL, w_listT, w_tupl, w_tupt, w_len_t, w_len_l, w_eqI, w_eqB, w_neB, w_gt, w_lt, w_ge, w_le, w_add, w_par, w_parF, w_par3, w_par3F, w_snapD, w_snd, List.set_cons_zero, List.set_cons_succ, List.getElem?_cons_zero, List.getElem?_cons_succ, Option.some.injEq, exists_eq_left', iteF, List.map_cons, List.map_nil, w_ix_l, show L2.atI [lisD y.d, lisD z.d] 1 = some (lisD z.d) from rfl, show L2.atI [lisD y.d, lisD z.d] 0 = some (lisD y.d) from rfl, perm2]
        refine ⟨rfl, ?_⟩
        refine (within_ok (k := k + 7) y1 (by omega) y3 z1 (by omega) z3 hy hz).mono fun v μ10 ⟨q1, q2⟩ => ?_
        subst q1 q2
        rw [due_within]
        try simp only [wp_pure, w_seq, w_if, w_cmp, w_idx, w_var, w_cst, w_glo, w_blt, w_cons, w_nil, w_bin, w_cal, w_callk, w_not, w_set, w_setT, w_ret, w_exp, w_nx, w_rt, w_skip, w_flr, w_fln, wp_seal_dat, w_tup, w_lst, w_toDs_nil, w_toDs_cons, w_itee, w_isi, w_or, w_and, w_tb, w_comp, w_sseq, w_srng, w_sit, w_sil, wp_toDs, wipeD, w_slc, w_part0, w_part1, w_cutT, w_cutL, w_rep3, w_rep2L, w_isN, w_isnotN, w_listL, w_listT, w_tupl, w_tupt, w_len_t, w_len_l, w_eqI, w_eqB, w_neB, w_gt, w_lt, w_ge, w_le, w_add, w_par, w_parF, w_par3, w_par3F, w_snapD, w_snd, List.set_cons_zero, List.set_cons_succ, List.getElem?_cons_zero, List.getElem?_cons_succ, Option.some.injEq, exists_eq_left', iteF, List.map_cons, List.map_nil]
        refine ⟨rfl, rfl, ?_⟩
        refine (same_ok l_same (k + 9) (.lst [.bl (withinB y z), .bl (withinB y z)]) rfl (by show 1 < k + 9; omega) (by show 1 ≤ 64; omega) _).mono fun v μ11 ⟨q1, q2⟩ => ?_
        subst q1 q2
        simp only [wp_pure, w_seq, w_if, w_cmp, w_idx, w_var, w_cst, w_glo, w_blt, w_cons, w_nil, w_bin, w_cal, w_callk, w_not, w_set, w_setT, w_ret, w_exp, w_nx, w_rt, w_skip, w_flr, w_fln, wp_seal_dat, w_tup, w_lst, w_toDs_nil, w_toDs_cons, w_itee, w_isi, w_or, w_and, w_tb, w_comp, w_sseq, w_srng, w_sit, w_sil, wp_toDs, wipeD, w_slc, w_part0, w_part1, w_cutT, w_cutL, w_rep3, w_rep2L, w_isN, w_isnotN, w_listL, w_listT, w_tupl, w_tupt, w_len_t, w_len_l, w_eqI, w_eqB, w_neB, w_gt, w_lt, w_ge, w_le, w_add, w_par, w_parF, w_par3, w_par3F, w_snapD, w_snd, List.set_cons_zero, List.set_cons_succ, List.getElem?_cons_zero, List.getElem?_cons_succ, Option.some.injEq, exists_eq_left', iteF, List.map_cons, List.map_nil, Bool.not_true]
        refine ⟨rfl, (ls _).mono fun v μ12 ⟨q1, q2⟩ => ?_⟩
        subst q1 q2
        rw [w_neD (ol.cmpb (by decide)) (ol.cmpb (by decide)), eqv_refl _ ol.1]
        simp only [wp_pure, w_seq, w_if, w_cmp, w_idx, w_var, w_cst, w_glo, w_blt, w_cons, w_nil, w_bin, w_cal, w_callk, w_not, w_set, w_setT, w_ret, w_exp, w_nx, w_rt, w_skip, w_flr, w_fln, wp_seal_dat, w_tup, w_lst, w_toDs_nil, w_toDs_cons, w_itee, w_isi, w_or, w_and, w_tb, w_comp, w_sseq, w_srng, w_sit, w_sil, wp_toDs, wipeD, w_slc, w_part0, w_part1, w_cutT, w_cutL, w_rep3, w_rep2L, w_isN, w_isnotN, w_listL, w_listT, w_tupl, w_tupt, w_len_t, w_len_l, w_eqI, w_eqB, w_neB, w_gt, w_lt, w_ge, w_le, w_add, w_par, w_parF, w_par3, w_par3F, w_snapD, w_snd, List.set_cons_zero, List.set_cons_succ, List.getElem?_cons_zero, List.getElem?_cons_succ, Option.some.injEq, exists_eq_left', iteF, List.map_cons, List.map_nil, Bool.not_true]
        exact ⟨trivial, _, rfl, _, _, _, _, _, _, rfl⟩
      · subst q0
        simp only [List.any_cons, List.any_nil, Bool.or_self, Bool.false_eq_true, if_false] at q1
        obtain ⟨_, rfl, a, c, d, e, f, g, rfl⟩ := q1
        try simp only [wp_pure, w_seq, w_if, w_cmp, w_idx, w_var, w_cst, w_glo, w_blt, w_cons, w_nil, w_bin, w_cal, w_callk, w_not, w_set, w_setT, w_ret, w_exp, w_nx, w_rt, w_skip, w_flr, w_fln, wp_seal_dat, w_tup, w_lst, w_toDs_nil, w_toDs_cons, w_itee, w_isi, w_or, w_and, w_tb, w_comp, w_sseq, w_srng, w_sit, w_sil, wp_toDs, wipeD, w_slc, w_part0, w_part1, w_cutT, w_cutL, w_rep3, w_rep2L, w_isN, w_isnotN, w_listL, w_listT, w_tupl, w_tupt, w_len_t, w_len_l, w_eqI, w_eqB, w_neB, w_gt, w_lt, w_ge, w_le, w_add, w_par, w_parF, w_par3, w_par3F, w_snapD, w_snd, List.set_cons_zero, List.set_cons_succ, List.getElem?_cons_zero, List.getElem?_cons_succ, Option.some.injEq, exists_eq_left', iteF, List.map_cons, List.map_nil]
        exact ⟨s4.trans s5, _, _, _, _, _, _, _, rfl⟩
    · rw [hl]
      have : i.toNat = 0 ∨ i.toNat = 1 ∨ i.toNat = 2 := by omega
      rcases this with h | h | h <;> rw [h] <;> decide
  · rintro ρ μ2 ⟨s2, a, b, c, d, e, f, g, rfl⟩
    obtain ⟨_, _, _, y4, y5, y6⟩ := SD.lis hs
    simp only [wp_pure, w_seq, w_if, w_cmp, w_idx, w_var, w_cst, w_glo, w_blt, w_cons, w_nil, w_bin, w_cal, w_callk, w_not, w_set, w_setT, w_ret, w_exp, w_nx, w_rt, w_skip, w_flr, w_fln, wp_seal_dat, w_tup, w_lst, w_toDs_nil, w_toDs_cons, w_itee, w_isi, w_or, w_and, w_tb, w_comp, w_sseq, w_srng, w_sit, w_sil, wp_toDs, wipeD, w_slc, w_part0, w_part1, w_cutT, w_cutL, w_rep3, w_rep2L, w_isN, w_isnotN, w_listL, w_listT, w_tupl, w_tupt, w_len_t, w_len_l, w_eqI, w_eqB, w_neB, w_gt, w_lt, w_ge, w_le, w_add, w_par, w_parF, w_par3, w_par3F, w_snapD, w_snd, List.set_cons_zero, List.set_cons_succ, List.getElem?_cons_zero, List.getElem?_cons_succ, Option.some.injEq, exists_eq_left', iteF, List.map_cons, List.map_nil]
    refine (within_ok (k := k + 7) y4 (by omega) y6 y4 (by omega) y6 hs hs).mono fun v μ9 ⟨q1, q2⟩ => ?_
    subst q1 q2
    rw [within_self hs]
    simp only [wp_pure, w_seq, w_if, w_cmp, w_idx, w_var, w_cst, w_glo, w_blt, w_cons, w_nil, w_bin, w_cal, w_callk, w_not, w_set, w_setT, w_ret, w_exp, w_nx, w_rt, w_skip, w_flr, w_fln, wp_seal_dat, w_tup, w_lst, w_toDs_nil, w_toDs_cons, w_itee, w_isi, w_or, w_and, w_tb, w_comp, w_sseq, w_srng, w_sit, w_sil, wp_toDs, wipeD, w_slc, w_part0, w_part1, w_cutT, w_cutL, w_rep3, w_rep2L, w_isN, w_isnotN, w_listL, w_listT, w_tupl, w_tupt, w_len_t, w_len_l, w_eqI, w_eqB, w_neB, w_gt, w_lt, w_ge, w_le, w_add, w_par, w_parF, w_par3, w_par3F, w_snapD, w_snd, List.set_cons_zero, List.set_cons_succ, List.getElem?_cons_zero, List.getElem?_cons_succ, Option.some.injEq, exists_eq_left', iteF, List.map_cons, List.map_nil, w_isB, s2.take]
    exact ⟨rfl, s2⟩
end
end K05
set_option Elab.async false
set_option linter.all false
set_option maxRecDepth 100000
set_option maxHeartbeats 1000000
/-! D14: by hand; a box is right. -/
namespace K05
open PySem G
def hA : List (List D) := [[.str "a"], [], [], [], [.str "a", .str "b"]]
def hI : List D := [.int 0, .int 1, .int 0]
def hSlow : SD := ⟨hI, hA, [.str "keep"], .non⟩
def hFast : SD := ⟨hI, hA, [.str "fast", .str "keep"], .non⟩
def hLess : SD := ⟨hI, [[], [], [], [], [.str "a", .str "b"]], [.str "keep"], .non⟩
theorem hA_ok : ∀ a ∈ hA, StrL a := fun a ha => by
  simp only [hA, List.mem_cons, List.mem_nil_iff, or_false] at ha
  rcases ha with rfl | rfl | rfl | rfl | rfl
  · exact .cons .nil
  · exact .nil
  · exact .nil
  · exact .nil
  · exact .cons (.cons .nil)
theorem slow_ok : hSlow.Ok := ⟨⟨0, 1, 0, rfl⟩, hA_ok, rfl, .cons .nil, .non⟩
theorem fast_ok : hFast.Ok := ⟨⟨0, 1, 0, rfl⟩, hA_ok, rfl, .cons (.cons .nil), .non⟩
theorem less_ok' : hLess.Ok := ⟨⟨0, 1, 0, rfl⟩, fun a ha => by
  simp only [hLess, List.mem_cons, List.mem_nil_iff, or_false] at ha
  rcases ha with rfl | rfl | rfl | rfl | rfl
  · exact .nil
  · exact .nil
  · exact .nil
  · exact .nil
  · exact .cons (.cons .nil), rfl, .cons .nil, .non⟩
section
variable {k n β : Nat} {μ : Sto} {s t : SD}
theorem within_d (hs : s.Ok) (ht : t.Ok) {b : Bool} (e : withinB s t = b) : wp (callK Z.tab (k + 9) "within" [.dat s.d, .dat t.d]) (fun v μ' => v = .dat (.bl b) ∧ μ' = μ) μ := by
  obtain ⟨_, _, _, y4, y5, y6⟩ := SD.lis hs
  obtain ⟨_, _, _, z4, z5, z6⟩ := SD.lis ht
  rw [← e]
  exact within_ok (k := k + 7) y4 (by omega) y6 z4 (by omega) z6 hs ht
theorem hand_ok : wp (callK Z.tab (k + 10) "_law_by_hand" []) (fun v μ' => v = .dat (.bl true) ∧ μ' = μ) μ := by
  have hμ : μ.take μ.length = μ := List.take_of_length_le (Nat.le_refl _)
  refine wp_call l_hand rfl ?_
  show wp (G.exec _ f__law_by_hand.body [none, none, none, none, none]) _ _
  simp only [f__law_by_hand, wp_pure, w_seq, w_if, w_cmp, w_idx, w_var, w_cst, w_glo, w_blt, w_cons, w_nil, w_bin, w_cal, w_callk, w_not, w_set, w_setT, w_ret, w_exp, w_nx, w_rt, w_skip, w_flr, w_fln, wp_seal_dat, w_tup, w_lst, w_toDs_nil, w_toDs_cons, w_itee, w_isi, w_or, w_and, w_tb, w_comp, w_sseq, w_srng, w_sit, w_sil, wp_toDs, wipeD, w_slc, w_part0, w_part1, w_cutT, w_cutL, w_rep3, w_rep2L, w_isN, w_isnotN, w_listL, w_listT, w_tupl, w_tupt, w_len_t, w_len_l, w_eqI, w_eqB, w_neB, w_gt, w_lt, w_ge, w_le, w_add, w_par, w_parF, w_par3, w_par3F, w_snapD, w_snd, List.set_cons_zero, List.set_cons_succ, List.getElem?_cons_zero, List.getElem?_cons_succ, Option.some.injEq, exists_eq_left', iteF, List.map_cons, List.map_nil]
  refine ⟨rfl, rfl, rfl, rfl, rfl, rfl, rfl, rfl, rfl, rfl, rfl, rfl, rfl, rfl, rfl, ?_⟩
  rw [show cut [D.tup [D.str "a"], D.tup [], D.tup [], D.tup [], D.tup [D.str "a", D.str "b"]] (some 1) none = [D.tup [], D.tup [], D.tup [], D.tup [D.str "a", D.str "b"]] from rfl, w_addT (by show 5 ≤ _; decide)]
  try simp only [wp_pure, w_seq, w_if, w_cmp, w_idx, w_var, w_cst, w_glo, w_blt, w_cons, w_nil, w_bin, w_cal, w_callk, w_not, w_set, w_setT, w_ret, w_exp, w_nx, w_rt, w_skip, w_flr, w_fln, wp_seal_dat, w_tup, w_lst, w_toDs_nil, w_toDs_cons, w_itee, w_isi, w_or, w_and, w_tb, w_comp, w_sseq, w_srng, w_sit, w_sil, wp_toDs, wipeD, w_slc, w_part0, w_part1, w_cutT, w_cutL, w_rep3, w_rep2L, w_isN, w_isnotN, w_listL, w_listT, w_tupl, w_tupt, w_len_t, w_len_l, w_eqI, w_eqB, w_neB, w_gt, w_lt, w_ge, w_le, w_add, w_par, w_parF, w_par3, w_par3F, w_snapD, w_snd, List.set_cons_zero, List.set_cons_succ, List.getElem?_cons_zero, List.getElem?_cons_succ, Option.some.injEq, exists_eq_left', iteF, List.map_cons, List.map_nil]
  refine ⟨rfl, rfl, ?_⟩
  refine (within_d (k := k) fast_ok slow_ok (b := true) (by decide +kernel)).mono fun v μ1 ⟨q1, q2⟩ => ?_
  subst q1 q2
  try simp only [wp_pure, w_seq, w_if, w_cmp, w_idx, w_var, w_cst, w_glo, w_blt, w_cons, w_nil, w_bin, w_cal, w_callk, w_not, w_set, w_setT, w_ret, w_exp, w_nx, w_rt, w_skip, w_flr, w_fln, wp_seal_dat, w_tup, w_lst, w_toDs_nil, w_toDs_cons, w_itee, w_isi, w_or, w_and, w_tb, w_comp, w_sseq, w_srng, w_sit, w_sil, wp_toDs, wipeD, w_slc, w_part0, w_part1, w_cutT, w_cutL, w_rep3, w_rep2L, w_isN, w_isnotN, w_listL, w_listT, w_tupl, w_tupt, w_len_t, w_len_l, w_eqI, w_eqB, w_neB, w_gt, w_lt, w_ge, w_le, w_add, w_par, w_parF, w_par3, w_par3F, w_snapD, w_snd, List.set_cons_zero, List.set_cons_succ, List.getElem?_cons_zero, List.getElem?_cons_succ, Option.some.injEq, exists_eq_left', iteF, List.map_cons, List.map_nil]
  refine (within_d (k := k) slow_ok fast_ok (b := false) (by decide +kernel)).mono fun v μ2 ⟨q1, q2⟩ => ?_
  subst q1 q2
  try simp only [wp_pure, w_seq, w_if, w_cmp, w_idx, w_var, w_cst, w_glo, w_blt, w_cons, w_nil, w_bin, w_cal, w_callk, w_not, w_set, w_setT, w_ret, w_exp, w_nx, w_rt, w_skip, w_flr, w_fln, wp_seal_dat, w_tup, w_lst, w_toDs_nil, w_toDs_cons, w_itee, w_isi, w_or, w_and, w_tb, w_comp, w_sseq, w_srng, w_sit, w_sil, wp_toDs, wipeD, w_slc, w_part0, w_part1, w_cutT, w_cutL, w_rep3, w_rep2L, w_isN, w_isnotN, w_listL, w_listT, w_tupl, w_tupt, w_len_t, w_len_l, w_eqI, w_eqB, w_neB, w_gt, w_lt, w_ge, w_le, w_add, w_par, w_parF, w_par3, w_par3F, w_snapD, w_snd, List.set_cons_zero, List.set_cons_succ, List.getElem?_cons_zero, List.getElem?_cons_succ, Option.some.injEq, exists_eq_left', iteF, List.map_cons, List.map_nil]
  refine (within_d (k := k) fast_ok fast_ok (b := true) (by decide +kernel)).mono fun v μ3 ⟨q1, q2⟩ => ?_
  subst q1 q2
  try simp only [wp_pure, w_seq, w_if, w_cmp, w_idx, w_var, w_cst, w_glo, w_blt, w_cons, w_nil, w_bin, w_cal, w_callk, w_not, w_set, w_setT, w_ret, w_exp, w_nx, w_rt, w_skip, w_flr, w_fln, wp_seal_dat, w_tup, w_lst, w_toDs_nil, w_toDs_cons, w_itee, w_isi, w_or, w_and, w_tb, w_comp, w_sseq, w_srng, w_sit, w_sil, wp_toDs, wipeD, w_slc, w_part0, w_part1, w_cutT, w_cutL, w_rep3, w_rep2L, w_isN, w_isnotN, w_listL, w_listT, w_tupl, w_tupt, w_len_t, w_len_l, w_eqI, w_eqB, w_neB, w_gt, w_lt, w_ge, w_le, w_add, w_par, w_parF, w_par3, w_par3F, w_snapD, w_snd, List.set_cons_zero, List.set_cons_succ, List.getElem?_cons_zero, List.getElem?_cons_succ, Option.some.injEq, exists_eq_left', iteF, List.map_cons, List.map_nil]
  refine (within_d (k := k) less_ok' slow_ok (b := true) (by decide +kernel)).mono fun v μ4 ⟨q1, q2⟩ => ?_
  subst q1 q2
  try simp only [wp_pure, w_seq, w_if, w_cmp, w_idx, w_var, w_cst, w_glo, w_blt, w_cons, w_nil, w_bin, w_cal, w_callk, w_not, w_set, w_setT, w_ret, w_exp, w_nx, w_rt, w_skip, w_flr, w_fln, wp_seal_dat, w_tup, w_lst, w_toDs_nil, w_toDs_cons, w_itee, w_isi, w_or, w_and, w_tb, w_comp, w_sseq, w_srng, w_sit, w_sil, wp_toDs, wipeD, w_slc, w_part0, w_part1, w_cutT, w_cutL, w_rep3, w_rep2L, w_isN, w_isnotN, w_listL, w_listT, w_tupl, w_tupt, w_len_t, w_len_l, w_eqI, w_eqB, w_neB, w_gt, w_lt, w_ge, w_le, w_add, w_par, w_parF, w_par3, w_par3F, w_snapD, w_snd, List.set_cons_zero, List.set_cons_succ, List.getElem?_cons_zero, List.getElem?_cons_succ, Option.some.injEq, exists_eq_left', iteF, List.map_cons, List.map_nil]
  refine (within_d (k := k) less_ok' fast_ok (b := false) (by decide +kernel)).mono fun v μ5 ⟨q1, q2⟩ => ?_
  subst q1 q2
  try simp only [wp_pure, w_seq, w_if, w_cmp, w_idx, w_var, w_cst, w_glo, w_blt, w_cons, w_nil, w_bin, w_cal, w_callk, w_not, w_set, w_setT, w_ret, w_exp, w_nx, w_rt, w_skip, w_flr, w_fln, wp_seal_dat, w_tup, w_lst, w_toDs_nil, w_toDs_cons, w_itee, w_isi, w_or, w_and, w_tb, w_comp, w_sseq, w_srng, w_sit, w_sil, wp_toDs, wipeD, w_slc, w_part0, w_part1, w_cutT, w_cutL, w_rep3, w_rep2L, w_isN, w_isnotN, w_listL, w_listT, w_tupl, w_tupt, w_len_t, w_len_l, w_eqI, w_eqB, w_neB, w_gt, w_lt, w_ge, w_le, w_add, w_par, w_parF, w_par3, w_par3F, w_snapD, w_snd, List.set_cons_zero, List.set_cons_succ, List.getElem?_cons_zero, List.getElem?_cons_succ, Option.some.injEq, exists_eq_left', iteF, List.map_cons, List.map_nil]
  refine ⟨rfl, ?_⟩
  refine (within_d (k := k) slow_ok less_ok' (b := false) (by decide +kernel)).mono fun v μ6 ⟨q1, q2⟩ => ?_
  subst q1 q2
  try simp only [wp_pure, w_seq, w_if, w_cmp, w_idx, w_var, w_cst, w_glo, w_blt, w_cons, w_nil, w_bin, w_cal, w_callk, w_not, w_set, w_setT, w_ret, w_exp, w_nx, w_rt, w_skip, w_flr, w_fln, wp_seal_dat, w_tup, w_lst, w_toDs_nil, w_toDs_cons, w_itee, w_isi, w_or, w_and, w_tb, w_comp, w_sseq, w_srng, w_sit, w_sil, wp_toDs, wipeD, w_slc, w_part0, w_part1, w_cutT, w_cutL, w_rep3, w_rep2L, w_isN, w_isnotN, w_listL, w_listT, w_tupl, w_tupt, w_len_t, w_len_l, w_eqI, w_eqB, w_neB, w_gt, w_lt, w_ge, w_le, w_add, w_par, w_parF, w_par3, w_par3F, w_snapD, w_snd, List.set_cons_zero, List.set_cons_succ, List.getElem?_cons_zero, List.getElem?_cons_succ, Option.some.injEq, exists_eq_left', iteF, List.map_cons, List.map_nil]
  refine ⟨rfl, ?_⟩
  rw [w_addL (by show 6 ≤ _; decide)]
  try simp only [wp_pure, w_seq, w_if, w_cmp, w_idx, w_var, w_cst, w_glo, w_blt, w_cons, w_nil, w_bin, w_cal, w_callk, w_not, w_set, w_setT, w_ret, w_exp, w_nx, w_rt, w_skip, w_flr, w_fln, wp_seal_dat, w_tup, w_lst, w_toDs_nil, w_toDs_cons, w_itee, w_isi, w_or, w_and, w_tb, w_comp, w_sseq, w_srng, w_sit, w_sil, wp_toDs, wipeD, w_slc, w_part0, w_part1, w_cutT, w_cutL, w_rep3, w_rep2L, w_isN, w_isnotN, w_listL, w_listT, w_tupl, w_tupt, w_len_t, w_len_l, w_eqI, w_eqB, w_neB, w_gt, w_lt, w_ge, w_le, w_add, w_par, w_parF, w_par3, w_par3F, w_snapD, w_snd, List.set_cons_zero, List.set_cons_succ, List.getElem?_cons_zero, List.getElem?_cons_succ, Option.some.injEq, exists_eq_left', iteF, List.map_cons, List.map_nil]
  refine ⟨rfl, ?_⟩
  refine (same_ok l_same (k + 9) (.lst [.bl true, .bl false, .bl true, .bl true, .bl false, .bl false]) rfl (by show 1 < k + 9; omega) (by show 1 ≤ 64; omega) _).mono fun v μ11 ⟨q1, q2⟩ => ?_
  subst q1 q2
  simp only [wp_pure, w_seq, w_if, w_cmp, w_idx, w_var, w_cst, w_glo, w_blt, w_cons, w_nil, w_bin, w_cal, w_callk, w_not, w_set, w_setT, w_ret, w_exp, w_nx, w_rt, w_skip, w_flr, w_fln, wp_seal_dat, w_tup, w_lst, w_toDs_nil, w_toDs_cons, w_itee, w_isi, w_or, w_and, w_tb, w_comp, w_sseq, w_srng, w_sit, w_sil, wp_toDs, wipeD, w_slc, w_part0, w_part1, w_cutT, w_cutL, w_rep3, w_rep2L, w_isN, w_isnotN, w_listL, w_listT, w_tupl, w_tupt, w_len_t, w_len_l, w_eqI, w_eqB, w_neB, w_gt, w_lt, w_ge, w_le, w_add, w_par, w_parF, w_par3, w_par3F, w_snapD, w_snd, List.set_cons_zero, List.set_cons_succ, List.getElem?_cons_zero, List.getElem?_cons_succ, Option.some.injEq, exists_eq_left', iteF, List.map_cons, List.map_nil, hμ, and_self]
theorem right_ok (B : Box β (n + 11608) μ) : wp (callK Z.tab (k + 11) "_law_right" [.ref β]) (fun v μ' => v = .dat (.bl true) ∧ Stp β n μ μ') μ := by
  refine wp_call l_right rfl ?_
  show wp (G.exec _ f__law_right.body [some (.ref β), none, none, none]) _ _
  simp only [f__law_right]
  rw [w_seq, w_if]
  simp only [w_not, w_cal, w_nil]
  refine (hand_ok (k := k)).mono fun v μ1 ⟨q1, q2⟩ => ?_
  subst q1 q2
  simp only [wp_pure, w_seq, w_if, w_cmp, w_idx, w_var, w_cst, w_glo, w_blt, w_cons, w_nil, w_bin, w_cal, w_callk, w_not, w_set, w_setT, w_ret, w_exp, w_nx, w_rt, w_skip, w_flr, w_fln, wp_seal_dat, w_tup, w_lst, w_toDs_nil, w_toDs_cons, w_itee, w_isi, w_or, w_and, w_tb, w_comp, w_sseq, w_srng, w_sit, w_sil, wp_toDs, wipeD, w_slc, w_part0, w_part1, w_cutT, w_cutL, w_rep3, w_rep2L, w_isN, w_isnotN, w_listL, w_listT, w_tupl, w_tupt, w_len_t, w_len_l, w_eqI, w_eqB, w_neB, w_gt, w_lt, w_ge, w_le, w_add, w_par, w_parF, w_par3, w_par3F, w_snapD, w_snd, List.set_cons_zero, List.set_cons_succ, List.getElem?_cons_zero, List.getElem?_cons_succ, Option.some.injEq, exists_eq_left', iteF, List.map_cons, List.map_nil, Bool.not_true]
  rw [w_for]
  simp only [wp_pure, w_seq, w_if, w_cmp, w_idx, w_var, w_cst, w_glo, w_blt, w_cons, w_nil, w_bin, w_cal, w_callk, w_not, w_set, w_setT, w_ret, w_exp, w_nx, w_rt, w_skip, w_flr, w_fln, wp_seal_dat, w_tup, w_lst, w_toDs_nil, w_toDs_cons, w_itee, w_isi, w_or, w_and, w_tb, w_comp, w_sseq, w_srng, w_sit, w_sil, wp_toDs, wipeD, w_slc, w_part0, w_part1, w_cutT, w_cutL, w_rep3, w_rep2L, w_isN, w_isnotN, w_listL, w_listT, w_tupl, w_tupt, w_len_t, w_len_l, w_eqI, w_eqB, w_neB, w_gt, w_lt, w_ge, w_le, w_add, w_par, w_parF, w_par3, w_par3F, w_snapD, w_snd, List.set_cons_zero, List.set_cons_succ, List.getElem?_cons_zero, List.getElem?_cons_succ, Option.some.injEq, exists_eq_left', iteF, List.map_cons, List.map_nil, w_rng]
  refine ⟨rfl, ?_⟩
  refine wp_for (I := fun r ρ μ' => Stp β (n + 1451 * r.length) μ1 μ' ∧ ∃ a b c, ρ = [some (.ref β), a, b, c]) ?_ ?_ (rangeD 8) _ μ1 ⟨.refl B, _, _, _, rfl⟩
  · rintro x r ρ μ2 ⟨s2, a, b, c, rfl⟩
    refine ⟨_, rfl, ?_⟩
    rw [List.length_cons] at s2
    simp only [wp_pure, w_seq, w_if, w_cmp, w_idx, w_var, w_cst, w_glo, w_blt, w_cons, w_nil, w_bin, w_cal, w_callk, w_not, w_set, w_setT, w_ret, w_exp, w_nx, w_rt, w_skip, w_flr, w_fln, wp_seal_dat, w_tup, w_lst, w_toDs_nil, w_toDs_cons, w_itee, w_isi, w_or, w_and, w_tb, w_comp, w_sseq, w_srng, w_sit, w_sil, wp_toDs, wipeD, w_slc, w_part0, w_part1, w_cutT, w_cutL, w_rep3, w_rep2L, w_isN, w_isnotN, w_listL, w_listT, w_tupl, w_tupt, w_len_t, w_len_l, w_eqI, w_eqB, w_neB, w_gt, w_lt, w_ge, w_le, w_add, w_par, w_parF, w_par3, w_par3F, w_snapD, w_snd, List.set_cons_zero, List.set_cons_succ, List.getElem?_cons_zero, List.getElem?_cons_succ, Option.some.injEq, exists_eq_left', iteF, List.map_cons, List.map_nil]
    refine (whole_ok (k := k + 4) (n := n + 1451 * r.length + 634) (s2.box.less (by omega))).mono fun v μ3 ⟨w, e, hw, s3⟩ => ?_
    subst e
    try simp only [wp_pure, w_seq, w_if, w_cmp, w_idx, w_var, w_cst, w_glo, w_blt, w_cons, w_nil, w_bin, w_cal, w_callk, w_not, w_set, w_setT, w_ret, w_exp, w_nx, w_rt, w_skip, w_flr, w_fln, wp_seal_dat, w_tup, w_lst, w_toDs_nil, w_toDs_cons, w_itee, w_isi, w_or, w_and, w_tb, w_comp, w_sseq, w_srng, w_sit, w_sil, wp_toDs, wipeD, w_slc, w_part0, w_part1, w_cutT, w_cutL, w_rep3, w_rep2L, w_isN, w_isnotN, w_listL, w_listT, w_tupl, w_tupt, w_len_t, w_len_l, w_eqI, w_eqB, w_neB, w_gt, w_lt, w_ge, w_le, w_add, w_par, w_parF, w_par3, w_par3F, w_snapD, w_snd, List.set_cons_zero, List.set_cons_succ, List.getElem?_cons_zero, List.getElem?_cons_succ, Option.some.injEq, exists_eq_left', iteF, List.map_cons, List.map_nil]
    have hf := hw.flt
    have lo : Ow 6 (lisD w.d) := by
      obtain ⟨a, b⟩ := lis_own _ hf.ow.1
      exact ⟨a, by rw [b]; exact hf.2⟩
    have ls := fun μ => lists_ok l_lists (k + 10) w.d hf.ow.1 (by have := hf.2; omega) μ
    refine (ls _).mono fun v μ4 ⟨q1, q2⟩ => ?_
    subst q1 q2
    try simp only [wp_pure, w_seq, w_if, w_cmp, w_idx, w_var, w_cst, w_glo, w_blt, w_cons, w_nil, w_bin, w_cal, w_callk, w_not, w_set, w_setT, w_ret, w_exp, w_nx, w_rt, w_skip, w_flr, w_fln, wp_seal_dat, w_tup, w_lst, w_toDs_nil, w_toDs_cons, w_itee, w_isi, w_or, w_and, w_tb, w_comp, w_sseq, w_srng, w_sit, w_sil, wp_toDs, wipeD, w_slc, w_part0, w_part1, w_cutT, w_cutL, w_rep3, w_rep2L, w_isN, w_isnotN, w_listL, w_listT, w_tupl, w_tupt, w_len_t, w_len_l, w_eqI, w_eqB, w_neB, w_gt, w_lt, w_ge, w_le, w_add, w_par, w_parF, w_par3, w_par3F, w_snapD, w_snd, List.set_cons_zero, List.set_cons_succ, List.getElem?_cons_zero, List.getElem?_cons_succ, Option.some.injEq, exists_eq_left', iteF, List.map_cons, List.map_nil]
    refine (logins_ok (k := k) hw).mono fun v μ5 ⟨q1, q2⟩ => ?_
    subst q1 q2
    simp only [wp_pure, w_seq, w_if, w_cmp, w_idx, w_var, w_cst, w_glo, w_blt, w_cons, w_nil, w_bin, w_cal, w_callk, w_not, w_set, w_setT, w_ret, w_exp, w_nx, w_rt, w_skip, w_flr, w_fln, wp_seal_dat, w_tup, w_lst, w_toDs_nil, w_toDs_cons, w_itee, w_isi, w_or, w_and, w_tb, w_comp, w_sseq, w_srng, w_sit, w_sil, wp_toDs, wipeD, w_slc, w_part0, w_part1, w_cutT, w_cutL, w_rep3, w_rep2L, w_isN, w_isnotN, w_listL, w_listT, w_tupl, w_tupt, w_len_t, w_len_l, w_eqI, w_eqB, w_neB, w_gt, w_lt, w_ge, w_le, w_add, w_par, w_parF, w_par3, w_par3F, w_snapD, w_snd, List.set_cons_zero, List.set_cons_succ, List.getElem?_cons_zero, List.getElem?_cons_succ, Option.some.injEq, exists_eq_left', iteF, List.map_cons, List.map_nil, Bool.not_true]
    refine (closed_right_ok (k := k) (n := n + 1451 * r.length + 610) hw s3.box).mono fun v μ6 ⟨q1, s4⟩ => ?_
    subst q1
    simp only [wp_pure, w_seq, w_if, w_cmp, w_idx, w_var, w_cst, w_glo, w_blt, w_cons, w_nil, w_bin, w_cal, w_callk, w_not, w_set, w_setT, w_ret, w_exp, w_nx, w_rt, w_skip, w_flr, w_fln, wp_seal_dat, w_tup, w_lst, w_toDs_nil, w_toDs_cons, w_itee, w_isi, w_or, w_and, w_tb, w_comp, w_sseq, w_srng, w_sit, w_sil, wp_toDs, wipeD, w_slc, w_part0, w_part1, w_cutT, w_cutL, w_rep3, w_rep2L, w_isN, w_isnotN, w_listL, w_listT, w_tupl, w_tupt, w_len_t, w_len_l, w_eqI, w_eqB, w_neB, w_gt, w_lt, w_ge, w_le, w_add, w_par, w_parF, w_par3, w_par3F, w_snapD, w_snd, List.set_cons_zero, List.set_cons_succ, List.getElem?_cons_zero, List.getElem?_cons_succ, Option.some.injEq, exists_eq_left', iteF, List.map_cons, List.map_nil, Bool.not_true]
    refine (within_right_ok (k := k) (n := n + 1451 * r.length) hw s4.box).mono fun v μ7 ⟨q1, s5⟩ => ?_
    subst q1
    simp only [wp_pure, w_seq, w_if, w_cmp, w_idx, w_var, w_cst, w_glo, w_blt, w_cons, w_nil, w_bin, w_cal, w_callk, w_not, w_set, w_setT, w_ret, w_exp, w_nx, w_rt, w_skip, w_flr, w_fln, wp_seal_dat, w_tup, w_lst, w_toDs_nil, w_toDs_cons, w_itee, w_isi, w_or, w_and, w_tb, w_comp, w_sseq, w_srng, w_sit, w_sil, wp_toDs, wipeD, w_slc, w_part0, w_part1, w_cutT, w_cutL, w_rep3, w_rep2L, w_isN, w_isnotN, w_listL, w_listT, w_tupl, w_tupt, w_len_t, w_len_l, w_eqI, w_eqB, w_neB, w_gt, w_lt, w_ge, w_le, w_add, w_par, w_parF, w_par3, w_par3F, w_snapD, w_snd, List.set_cons_zero, List.set_cons_succ, List.getElem?_cons_zero, List.getElem?_cons_succ, Option.some.injEq, exists_eq_left', iteF, List.map_cons, List.map_nil, Bool.not_true]
    refine (ls _).mono fun v μ8 ⟨q1, q2⟩ => ?_
    subst q1 q2
    rw [w_neD (lo.cmpb (by decide)) (lo.cmpb (by decide)), eqv_refl _ lo.1]
    simp only [wp_pure, w_seq, w_if, w_cmp, w_idx, w_var, w_cst, w_glo, w_blt, w_cons, w_nil, w_bin, w_cal, w_callk, w_not, w_set, w_setT, w_ret, w_exp, w_nx, w_rt, w_skip, w_flr, w_fln, wp_seal_dat, w_tup, w_lst, w_toDs_nil, w_toDs_cons, w_itee, w_isi, w_or, w_and, w_tb, w_comp, w_sseq, w_srng, w_sit, w_sil, wp_toDs, wipeD, w_slc, w_part0, w_part1, w_cutT, w_cutL, w_rep3, w_rep2L, w_isN, w_isnotN, w_listL, w_listT, w_tupl, w_tupt, w_len_t, w_len_l, w_eqI, w_eqB, w_neB, w_gt, w_lt, w_ge, w_le, w_add, w_par, w_parF, w_par3, w_par3F, w_snapD, w_snd, List.set_cons_zero, List.set_cons_succ, List.getElem?_cons_zero, List.getElem?_cons_succ, Option.some.injEq, exists_eq_left', iteF, List.map_cons, List.map_nil, Bool.not_true]
    exact ⟨((s2.trans s3).trans s4).trans s5, _, _, _, rfl⟩
  · rintro ρ μ2 ⟨s2, a, b, c, rfl⟩
    simp only [wp_pure, w_seq, w_if, w_cmp, w_idx, w_var, w_cst, w_glo, w_blt, w_cons, w_nil, w_bin, w_cal, w_callk, w_not, w_set, w_setT, w_ret, w_exp, w_nx, w_rt, w_skip, w_flr, w_fln, wp_seal_dat, w_tup, w_lst, w_toDs_nil, w_toDs_cons, w_itee, w_isi, w_or, w_and, w_tb, w_comp, w_sseq, w_srng, w_sit, w_sil, wp_toDs, wipeD, w_slc, w_part0, w_part1, w_cutT, w_cutL, w_rep3, w_rep2L, w_isN, w_isnotN, w_listL, w_listT, w_tupl, w_tupt, w_len_t, w_len_l, w_eqI, w_eqB, w_neB, w_gt, w_lt, w_ge, w_le, w_add, w_par, w_parF, w_par3, w_par3F, w_snapD, w_snd, List.set_cons_zero, List.set_cons_succ, List.getElem?_cons_zero, List.getElem?_cons_succ, Option.some.injEq, exists_eq_left', iteF, List.map_cons, List.map_nil, s2.take]
    exact ⟨trivial, s2⟩
end
end K05
set_option Elab.async false
set_option linter.all false
set_option maxRecDepth 100000
set_option maxHeartbeats 1000000
/-! D15: cells, boxes, the law. -/
namespace G
open PySem
def IntL (l : List D) : Prop := ∀ d ∈ l, ∃ i : Int, d = .int i
theorem ixN_in {n : Nat} {r : Int} (h1 : 0 ≤ r) (h2 : r < n) : L2.ixN n r = some r.toNat := by
  unfold L2.ixN
  rw [if_pos h1, if_pos h2]
theorem cut_to {α : Type} (xs : List α) : cut xs none (some 3) = xs.take 3 := by
  unfold cut
  show (xs.drop 0).take (min 3 xs.length - 0) = _
  rw [List.drop_zero, Nat.sub_zero]
  by_cases h : 3 ≤ xs.length
  · rw [Nat.min_eq_left h]
  · rw [Nat.min_eq_right (by omega), List.take_of_length_le (Nat.le_refl _), List.take_of_length_le (by omega)]
theorem cut_from {α : Type} (xs : List α) : (∀ x ∈ cut xs (some 3) (some 63), x ∈ xs) ∧ (cut xs (some 3) (some 63)).length ≤ xs.length ∧ (cut xs (some 3) (some 63) ≠ [] → 3 ≤ xs.length) := by
  unfold cut
  show (∀ x ∈ (xs.drop (min 3 xs.length)).take (min 63 xs.length - min 3 xs.length), x ∈ xs) ∧ _ ∧ _
  refine ⟨fun x hx => List.mem_of_mem_drop (List.mem_of_mem_take hx), ?_, fun h => ?_⟩
  · show ((xs.drop (min 3 xs.length)).take (min 63 xs.length - min 3 xs.length)).length ≤ _
    rw [List.length_take, List.length_drop]
    omega
  · have h : (xs.drop (min 3 xs.length)).take (min 63 xs.length - min 3 xs.length) ≠ [] := h
    have := List.length_pos_iff.mpr h
    rw [List.length_take, List.length_drop] at this
    omega
theorem enum_in : ∀ {l : List D} {k n : Nat}, k + l.length ≤ n → IntL l → ∀ x ∈ enumFrom k l, ∃ (j : Nat) (i : Int), j ≤ n ∧ x = .tup [.int j, .int i]
  | [], _, _, _, _, x, h => by cases h
  | d :: l, k, n, hk, hl, x, h => by
    rw [List.length_cons] at hk
    unfold enumFrom at h
    rcases List.mem_cons.mp h with rfl | h
    · obtain ⟨i, rfl⟩ := hl d (List.mem_cons_self ..)
      exact ⟨k, i, by omega, rfl⟩
    · exact enum_in (k := k + 1) (by omega) (fun y hy => hl y (List.mem_cons_of_mem _ hy)) x h
section
variable {φ : Str → List Val → M Val} {ρ : Env} {μ : Sto} {Q : Val → Sto → Prop} {QL : List Val → Sto → Prop}
theorem w_senum {e : Ex} : wp (evL φ (.sEnum e) ρ) QL μ ↔ wp (ev φ e ρ) (fun v μ1 => wp (snapItems v) (fun q μ2 => q.1 = true ∧ QL ((enumFrom 0 q.2).map .dat) μ2) μ1) μ := by rw [evL]; simp only [wp_bind, wp_when, wp_pure]
theorem w_clistL {ds : List D} : wp (opBlt .clist [.dat (.lst ds)]) Q μ ↔ Q (.ref μ.length) (μ ++ [.lst ds]) := by
  have e : opBlt .clist [.dat (.lst ds)] = M.bind (M.pure (true, ds)) fun p => newCell (.lst p.2) := rfl
  rw [e, wp_bind, wp_pure, wp_new]
theorem w_truR {n : Nat} {ds : List D} {QB : Bool → Sto → Prop} (h : μ[n]? = some (.lst ds)) : wp (truth (.ref n)) QB μ ↔ QB (!ds.isEmpty) μ := by
  have e : truth (.ref n) = M.bind (cellAt n) fun
    | .lst ds => M.pure (!ds.isEmpty)
    | _ => M.fail := rfl
  rw [e, wp_bind, wp_cell h]
  show wp (M.pure (!ds.isEmpty)) _ μ ↔ _
  rw [wp_pure]
theorem w_pow {i j : Int} : wp (opBin .pow (.dat (.int i)) (.dat (.int j))) Q μ ↔ isP i j = true ∧ Q (.dat (.int (i ^ j.toNat))) μ := by
  have e : opBin .pow (.dat (.int i)) (.dat (.int j)) = M.when (isP i j) (M.dat (.int (i ^ j.toNat))) := rfl
  rw [e, wp_when, wp_dat]
theorem w_intB {b : Bool} : wp (opBlt .int [.dat (.bl b)]) Q μ ↔ Q (.dat (.int (if b then 1 else 0))) μ := wp_dat
theorem comp_any {i : Nat} {cond : Env → M Bool} {elt : Env → M Val} {f : D → D} (hc : ∀ x μ, wp (cond (ρ.set i (some (.dat x)))) (fun b μ' => b = true ∧ μ' = μ) μ) : ∀ (ds : List D) (he : ∀ x ∈ ds, ∀ μ, wp (elt (ρ.set i (some (.dat x)))) (fun v _ => v = .dat (f x)) μ) (μ : Sto), wp (compM (.nm i) cond elt ρ ds) (fun ys _ => ys = ds.map f) μ
  | [], _, μ => by
    unfold compM
    exact wp_pure.mpr rfl
  | x :: r, he, μ => by
    unfold compM
    simp only [asg, wp_bind, wp_some]
    refine (hc x μ).mono fun b μ1 ⟨e1, e2⟩ => ?_
    subst e1 e2
    simp only [wp_bind, wp_pure]
    refine (he x (List.mem_cons_self ..) _).mono fun v μ2 e1 => ?_
    subst e1
    simp only [toD, wp_pure]
    exact (comp_any hc r (fun y hy => he y (List.mem_cons_of_mem _ hy)) μ2).mono fun ys μ2 q1 => by rw [List.map_cons, q1]
end
end G
namespace K05
open PySem G
theorem l_cells : Z.tab.lookup ("_law_cells" : Str) = some f__law_cells := by rfl
theorem l_box : Z.tab.lookup ("_law_box" : Str) = some f__law_box := by rfl
theorem l_law : Z.tab.lookup ("law" : Str) = some f_law := by rfl
section
variable {k n β : Nat} {μ : Sto}
theorem cells_ok {xs : List D} (hx : IntL xs) (hl : xs.length ≤ 63) : wp (callK Z.tab (k + 1) "_law_cells" [.dat (.frz xs), .dat (.int 3)]) (fun v μ' => ∃ cs, v = .dat (.lst cs) ∧ IntL cs ∧ cs.length ≤ 3 ∧ cs ≠ [] ∧ μ' = μ) μ := by
  refine wp_call l_cells rfl ?_
  show wp (G.exec _ f__law_cells.body [some (.dat (.frz xs)), some (.dat (.int 3)), none, none, none, none]) _ _
  obtain ⟨c1, c2, c3⟩ := cut_from xs
  simp only [f__law_cells, wp_pure, w_seq, w_if, w_cmp, w_idx, w_var, w_cst, w_glo, w_blt, w_cons, w_nil, w_bin, w_cal, w_callk, w_not, w_set, w_setT, w_ret, w_exp, w_nx, w_rt, w_skip, w_flr, w_fln, wp_seal_dat, w_tup, w_lst, w_toDs_nil, w_toDs_cons, w_itee, w_isi, w_or, w_and, w_tb, w_comp, w_sseq, w_srng, w_sit, w_sil, wp_toDs, wipeD, w_slc, w_part0, w_part1, w_cutT, w_cutL, w_rep3, w_rep2L, w_isN, w_isnotN, w_listL, w_listT, w_tupl, w_tupt, w_len_t, w_len_l, w_eqI, w_eqB, w_neB, w_gt, w_lt, w_ge, w_le, w_add, w_par, w_parF, w_par3, w_par3F, w_snapD, w_snd, List.set_cons_zero, List.set_cons_succ, List.getElem?_cons_zero, List.getElem?_cons_succ, Option.some.injEq, exists_eq_left', iteF, List.map_cons, List.map_nil, w_cutF, cut_to, w_clistL]
  have at1 : ∀ c : Cell, (μ ++ [c])[μ.length]? = some c := fun c => by
    rw [List.getElem?_append_right (Nat.le_refl _), Nat.sub_self]; rfl
  have tk : ∀ (c : Cell) (l : List Cell), ((μ ++ l).set μ.length c).take μ.length = μ := fun c l => by
    rw [List.set_append_right _ _ (Nat.le_refl _), List.take_append_of_le_length (Nat.le_refl _), List.take_of_length_le (Nat.le_refl _)]
  rw [w_truR (at1 _)]
  cases xs with
  | nil =>
    simp only [List.take_nil, List.isEmpty_nil, Bool.not_true, w_clst, wp_pure, w_seq, w_if, w_cmp, w_idx, w_var, w_cst, w_glo, w_blt, w_cons, w_nil, w_bin, w_cal, w_callk, w_not, w_set, w_setT, w_ret, w_exp, w_nx, w_rt, w_skip, w_flr, w_fln, wp_seal_dat, w_tup, w_lst, w_toDs_nil, w_toDs_cons, w_itee, w_isi, w_or, w_and, w_tb, w_comp, w_sseq, w_srng, w_sit, w_sil, wp_toDs, wipeD, w_slc, w_part0, w_part1, w_cutT, w_cutL, w_rep3, w_rep2L, w_isN, w_isnotN, w_listL, w_listT, w_tupl, w_tupt, w_len_t, w_len_l, w_eqI, w_eqB, w_neB, w_gt, w_lt, w_ge, w_le, w_add, w_par, w_parF, w_par3, w_par3F, w_snapD, w_snd, List.set_cons_zero, List.set_cons_succ, List.getElem?_cons_zero, List.getElem?_cons_succ, Option.some.injEq, exists_eq_left', iteF, List.map_cons, List.map_nil]
    refine ⟨rfl, ?_⟩
    rw [w_for]
    simp only [w_senum, wp_pure, w_seq, w_if, w_cmp, w_idx, w_var, w_cst, w_glo, w_blt, w_cons, w_nil, w_bin, w_cal, w_callk, w_not, w_set, w_setT, w_ret, w_exp, w_nx, w_rt, w_skip, w_flr, w_fln, wp_seal_dat, w_tup, w_lst, w_toDs_nil, w_toDs_cons, w_itee, w_isi, w_or, w_and, w_tb, w_comp, w_sseq, w_srng, w_sit, w_sil, wp_toDs, wipeD, w_slc, w_part0, w_part1, w_cutT, w_cutL, w_rep3, w_rep2L, w_isN, w_isnotN, w_listL, w_listT, w_tupl, w_tupt, w_len_t, w_len_l, w_eqI, w_eqB, w_neB, w_gt, w_lt, w_ge, w_le, w_add, w_par, w_parF, w_par3, w_par3F, w_snapD, w_snd, List.set_cons_zero, List.set_cons_succ, List.getElem?_cons_zero, List.getElem?_cons_succ, Option.some.injEq, exists_eq_left', iteF, List.map_cons, List.map_nil, w_cutF, w_snl]
    refine ⟨trivial, ?_⟩
    show wp (G.forM _ _ [] _) _ _
    unfold G.forM
    rw [wp_pure]
    simp only [wp_pure, w_seq, w_if, w_cmp, w_idx, w_var, w_cst, w_glo, w_blt, w_cons, w_nil, w_bin, w_cal, w_callk, w_not, w_set, w_setT, w_ret, w_exp, w_nx, w_rt, w_skip, w_flr, w_fln, wp_seal_dat, w_tup, w_lst, w_toDs_nil, w_toDs_cons, w_itee, w_isi, w_or, w_and, w_tb, w_comp, w_sseq, w_srng, w_sit, w_sil, wp_toDs, wipeD, w_slc, w_part0, w_part1, w_cutT, w_cutL, w_rep3, w_rep2L, w_isN, w_isnotN, w_listL, w_listT, w_tupl, w_tupt, w_len_t, w_len_l, w_eqI, w_eqB, w_neB, w_gt, w_lt, w_ge, w_le, w_add, w_par, w_parF, w_par3, w_par3F, w_snapD, w_snd, List.set_cons_zero, List.set_cons_succ, List.getElem?_cons_zero, List.getElem?_cons_succ, Option.some.injEq, exists_eq_left', iteF, List.map_cons, List.map_nil]
    have ln : (μ ++ [Cell.lst []]).length = μ.length + 1 := by rw [List.length_append]; rfl
    rw [wp_seal_ref (ds := [.int 0]) (by rw [List.getElem?_append_right (Nat.le_refl _), Nat.sub_self]; rfl)]
    refine ⟨_, rfl, fun d hd => ⟨0, List.mem_singleton.mp hd⟩, by decide, by simp, ?_⟩
    rw [List.set_append_right _ _ (Nat.le_refl _), List.append_assoc, List.take_append_of_le_length (Nat.le_refl _), List.take_of_length_le (Nat.le_refl _)]
  | cons y ys =>
    rw [show (!((y :: ys).take 3).isEmpty) = true by rfl]
    simp only [wp_pure, w_seq, w_if, w_cmp, w_idx, w_var, w_cst, w_glo, w_blt, w_cons, w_nil, w_bin, w_cal, w_callk, w_not, w_set, w_setT, w_ret, w_exp, w_nx, w_rt, w_skip, w_flr, w_fln, wp_seal_dat, w_tup, w_lst, w_toDs_nil, w_toDs_cons, w_itee, w_isi, w_or, w_and, w_tb, w_comp, w_sseq, w_srng, w_sit, w_sil, wp_toDs, wipeD, w_slc, w_part0, w_part1, w_cutT, w_cutL, w_rep3, w_rep2L, w_isN, w_isnotN, w_listL, w_listT, w_tupl, w_tupt, w_len_t, w_len_l, w_eqI, w_eqB, w_neB, w_gt, w_lt, w_ge, w_le, w_add, w_par, w_parF, w_par3, w_par3F, w_snapD, w_snd, List.set_cons_zero, List.set_cons_succ, List.getElem?_cons_zero, List.getElem?_cons_succ, Option.some.injEq, exists_eq_left', iteF, List.map_cons, List.map_nil]
    rw [w_for]
    simp only [w_senum, wp_pure, w_seq, w_if, w_cmp, w_idx, w_var, w_cst, w_glo, w_blt, w_cons, w_nil, w_bin, w_cal, w_callk, w_not, w_set, w_setT, w_ret, w_exp, w_nx, w_rt, w_skip, w_flr, w_fln, wp_seal_dat, w_tup, w_lst, w_toDs_nil, w_toDs_cons, w_itee, w_isi, w_or, w_and, w_tb, w_comp, w_sseq, w_srng, w_sit, w_sil, wp_toDs, wipeD, w_slc, w_part0, w_part1, w_cutT, w_cutL, w_rep3, w_rep2L, w_isN, w_isnotN, w_listL, w_listT, w_tupl, w_tupt, w_len_t, w_len_l, w_eqI, w_eqB, w_neB, w_gt, w_lt, w_ge, w_le, w_add, w_par, w_parF, w_par3, w_par3F, w_snapD, w_snd, List.set_cons_zero, List.set_cons_succ, List.getElem?_cons_zero, List.getElem?_cons_succ, Option.some.injEq, exists_eq_left', iteF, List.map_cons, List.map_nil, w_cutF, w_snl]
    refine ⟨trivial, ?_⟩
    refine wp_for (I := fun r ρ μ' => (∀ x ∈ r, ∃ (j : Nat) (i : Int), j ≤ 63 ∧ x = .tup [.int j, .int i]) ∧ ∃ l a b c, ρ = [some (.dat (.frz (y :: ys))), some (.dat (.int 3)), some (.ref μ.length), a, b, c] ∧ μ' = μ ++ [.lst l] ∧ IntL l ∧ l.length ≤ 3 ∧ l ≠ [] ∧ (r ≠ [] → l.length = 3)) ?_ ?_ (enumFrom 0 (cut (y :: ys) (some 3) (some 63))) _ _ ⟨enum_in (by omega) fun d hd => hx d (c1 d hd), (y :: ys).take 3, _, _, _, rfl, rfl, fun d hd => hx d (List.mem_of_mem_take hd), by rw [List.length_take]; omega, by simp, fun h => ?_⟩
    · rintro x r ρ μ1 ⟨hr, l, a, b, c, rfl, rfl, h1, h2, h3, h4⟩
      obtain ⟨j, i, hj, rfl⟩ := hr x (List.mem_cons_self ..)
      have h4 := h4 (by simp)
      refine ⟨_, rfl, ?_⟩
      have b1 : (0 : Int) ≤ (j : Int) % 3 := Int.emod_nonneg _ (by decide)
      have b2 : (j : Int) % 3 < l.length := by rw [h4]; exact Int.emod_lt_of_pos _ (by decide)
      obtain ⟨d, e1, e2⟩ := atI_in b1 b2
      obtain ⟨z, rfl⟩ := h1 d e2
      simp only [wp_pure, w_seq, w_if, w_cmp, w_idx, w_var, w_cst, w_glo, w_blt, w_cons, w_nil, w_bin, w_cal, w_callk, w_not, w_set, w_setT, w_ret, w_exp, w_nx, w_rt, w_skip, w_flr, w_fln, wp_seal_dat, w_tup, w_lst, w_toDs_nil, w_toDs_cons, w_itee, w_isi, w_or, w_and, w_tb, w_comp, w_sseq, w_srng, w_sit, w_sil, wp_toDs, wipeD, w_slc, w_part0, w_part1, w_cutT, w_cutL, w_rep3, w_rep2L, w_isN, w_isnotN, w_listL, w_listT, w_tupl, w_tupt, w_len_t, w_len_l, w_eqI, w_eqB, w_neB, w_gt, w_lt, w_ge, w_le, w_add, w_par, w_parF, w_par3, w_par3F, w_snapD, w_snd, List.set_cons_zero, List.set_cons_succ, List.getElem?_cons_zero, List.getElem?_cons_succ, Option.some.injEq, exists_eq_left', iteF, List.map_cons, List.map_nil, w_int, w_mod, w_setIx, w_ixr, at1, Cell.lst.injEq, e1, w_mul, w_six, ixN_in b1 b2]
      refine ⟨by decide, by rw [isW_of (i := (j : Int) + 2) (by omega) (by omega), Bool.or_true], fun x hx => hr x (List.mem_cons_of_mem _ hx), l.set ((j : Int) % 3).toNat (.int (z + i * ((j : Int) + 2))), _, _, _, rfl, ?_, fun d hd => ?_, ?_, ?_, ?_⟩
      · rw [List.set_append_right _ _ (Nat.le_refl _), Nat.sub_self]; rfl
      · rcases List.mem_or_eq_of_mem_set hd with h | h
        · exact h1 d h
        · exact ⟨_, h⟩
      · rw [List.length_set]; exact h2
      · intro z
        have := congrArg List.length z
        rw [List.length_set, h4] at this
        cases this
      · intro _
        rw [List.length_set]; exact h4
    · rintro ρ μ1 ⟨hr, l, a, b, c, rfl, rfl, h1, h2, h3, h4⟩
      simp only [wp_pure, w_seq, w_if, w_cmp, w_idx, w_var, w_cst, w_glo, w_blt, w_cons, w_nil, w_bin, w_cal, w_callk, w_not, w_set, w_setT, w_ret, w_exp, w_nx, w_rt, w_skip, w_flr, w_fln, wp_seal_dat, w_tup, w_lst, w_toDs_nil, w_toDs_cons, w_itee, w_isi, w_or, w_and, w_tb, w_comp, w_sseq, w_srng, w_sit, w_sil, wp_toDs, wipeD, w_slc, w_part0, w_part1, w_cutT, w_cutL, w_rep3, w_rep2L, w_isN, w_isnotN, w_listL, w_listT, w_tupl, w_tupt, w_len_t, w_len_l, w_eqI, w_eqB, w_neB, w_gt, w_lt, w_ge, w_le, w_add, w_par, w_parF, w_par3, w_par3F, w_snapD, w_snd, List.set_cons_zero, List.set_cons_succ, List.getElem?_cons_zero, List.getElem?_cons_succ, Option.some.injEq, exists_eq_left', iteF, List.map_cons, List.map_nil]
      rw [wp_seal_ref (at1 _), tk]
      exact ⟨l, rfl, h1, h2, h3, rfl⟩
    · have : cut (y :: ys) (some 3) (some 63) ≠ [] := fun z => h (by rw [z]; rfl)
      rw [List.length_take]
      have := c3 this
      omega
theorem box_ok {cs : List D} {j : Int} (hc : IntL cs) (h0 : 0 ≤ j) (h1 : j < cs.length) (h2 : cs.length ≤ 3) : wp (callK Z.tab (k + 1) "_law_box" [.dat (.lst cs), .dat (.int j)]) (fun v μ' => v = .ref μ.length ∧ Box μ.length 20000 μ') μ := by
  refine wp_call l_box rfl ?_
  show wp (G.exec _ f__law_box.body [some (.dat (.lst cs)), some (.dat (.int j)), none]) _ _
  obtain ⟨d, e1, e2⟩ := atI_in h0 h1
  obtain ⟨i, rfl⟩ := hc d e2
  simp only [f__law_box, wp_pure, w_seq, w_if, w_cmp, w_idx, w_var, w_cst, w_glo, w_blt, w_cons, w_nil, w_bin, w_cal, w_callk, w_not, w_set, w_setT, w_ret, w_exp, w_nx, w_rt, w_skip, w_flr, w_fln, wp_seal_dat, w_tup, w_lst, w_toDs_nil, w_toDs_cons, w_itee, w_isi, w_or, w_and, w_tb, w_comp, w_sseq, w_srng, w_sit, w_sil, wp_toDs, wipeD, w_slc, w_part0, w_part1, w_cutT, w_cutL, w_rep3, w_rep2L, w_isN, w_isnotN, w_listL, w_listT, w_tupl, w_tupt, w_len_t, w_len_l, w_eqI, w_eqB, w_neB, w_gt, w_lt, w_ge, w_le, w_add, w_par, w_parF, w_par3, w_par3F, w_snapD, w_snd, List.set_cons_zero, List.set_cons_succ, List.getElem?_cons_zero, List.getElem?_cons_succ, Option.some.injEq, exists_eq_left', iteF, List.map_cons, List.map_nil, decide_eq_true h1, w_ix_l, e1, w_clst, w_abs, w_pow, w_intB, w_mul, w_int, w_mod, wp_keep]
  have at1 : ∀ c : Cell, (μ ++ [c])[μ.length]? = some c := fun c => by
    rw [List.getElem?_append_right (Nat.le_refl _), Nat.sub_self]; rfl
  have wb : ∀ b : Bool, isW (if b then (1 : Int) else 0) = true := fun b => by cases b <;> decide
  have ab : (0 : Int) ≤ if i < 0 then -i else i := by split <;> omega
  have hm : (0 : Int) ≤ i % 2305843009213693951 := Int.emod_nonneg _ (by decide)
  have hm2 : i % 2305843009213693951 < 2305843009213693951 := Int.emod_lt_of_pos _ (by decide)
  refine ⟨by decide, by rw [wb, Bool.or_true], by decide, by rw [show isW 39373 = true by decide, Bool.true_or], rfl, trivial, ⟨_, _, _, at1 _, ?_, by omega, by omega, by omega, by decide⟩⟩
  refine Int.mul_nonneg ab ?_
  generalize decide (10 ^ Int.toNat 18 ≤ if i < 0 then -i else i) = q
  cases q <;> decide
theorem law_ok {xs : List D} (hx : IntL xs) (hl : xs.length ≤ 63) : wp (callK Z.tab (k + 12) "law" [.dat (.frz xs)]) (fun v _ => v = .dat (.bl true)) μ := by
  refine wp_call l_law rfl ?_
  show wp (G.exec _ f_law.body [some (.dat (.frz xs)), none, none]) _ _
  simp only [f_law, wp_pure, w_seq, w_if, w_cmp, w_idx, w_var, w_cst, w_glo, w_blt, w_cons, w_nil, w_bin, w_cal, w_callk, w_not, w_set, w_setT, w_ret, w_exp, w_nx, w_rt, w_skip, w_flr, w_fln, wp_seal_dat, w_tup, w_lst, w_toDs_nil, w_toDs_cons, w_itee, w_isi, w_or, w_and, w_tb, w_comp, w_sseq, w_srng, w_sit, w_sil, wp_toDs, wipeD, w_slc, w_part0, w_part1, w_cutT, w_cutL, w_rep3, w_rep2L, w_isN, w_isnotN, w_listL, w_listT, w_tupl, w_tupt, w_len_t, w_len_l, w_eqI, w_eqB, w_neB, w_gt, w_lt, w_ge, w_le, w_add, w_par, w_parF, w_par3, w_par3F, w_snapD, w_snd, List.set_cons_zero, List.set_cons_succ, List.getElem?_cons_zero, List.getElem?_cons_succ, Option.some.injEq, exists_eq_left', iteF, List.map_cons, List.map_nil]
  refine (cells_ok (k := k + 10) hx hl).mono fun v μ1 ⟨cs, e, c1, c2, c3, c4⟩ => ?_
  subst e c4
  simp only [wp_pure, w_seq, w_if, w_cmp, w_idx, w_var, w_cst, w_glo, w_blt, w_cons, w_nil, w_bin, w_cal, w_callk, w_not, w_set, w_setT, w_ret, w_exp, w_nx, w_rt, w_skip, w_flr, w_fln, wp_seal_dat, w_tup, w_lst, w_toDs_nil, w_toDs_cons, w_itee, w_isi, w_or, w_and, w_tb, w_comp, w_sseq, w_srng, w_sit, w_sil, wp_toDs, wipeD, w_slc, w_part0, w_part1, w_cutT, w_cutL, w_rep3, w_rep2L, w_isN, w_isnotN, w_listL, w_listT, w_tupl, w_tupt, w_len_t, w_len_l, w_eqI, w_eqB, w_neB, w_gt, w_lt, w_ge, w_le, w_add, w_par, w_parF, w_par3, w_par3F, w_snapD, w_snd, List.set_cons_zero, List.set_cons_succ, List.getElem?_cons_zero, List.getElem?_cons_succ, Option.some.injEq, exists_eq_left', iteF, List.map_cons, List.map_nil, w_rng]
  refine ⟨by simp only [Bool.and_eq_true, decide_eq_true_eq]; omega, ?_⟩
  refine (comp_any (f := fun _ => .bl true) (fun x μ => ?_) (rangeD (cs.length : Int).toNat) (fun x hx μ => ?_) μ1).mono fun ys μ2 q1 => ?_
  · simp only [wp_bind, wp_pure, w_seq, w_if, w_cmp, w_idx, w_var, w_cst, w_glo, w_blt, w_cons, w_nil, w_bin, w_cal, w_callk, w_not, w_set, w_setT, w_ret, w_exp, w_nx, w_rt, w_skip, w_flr, w_fln, wp_seal_dat, w_tup, w_lst, w_toDs_nil, w_toDs_cons, w_itee, w_isi, w_or, w_and, w_tb, w_comp, w_sseq, w_srng, w_sit, w_sil, wp_toDs, wipeD, w_slc, w_part0, w_part1, w_cutT, w_cutL, w_rep3, w_rep2L, w_isN, w_isnotN, w_listL, w_listT, w_tupl, w_tupt, w_len_t, w_len_l, w_eqI, w_eqB, w_neB, w_gt, w_lt, w_ge, w_le, w_add, w_par, w_parF, w_par3, w_par3F, w_snapD, w_snd, List.set_cons_zero, List.set_cons_succ, List.getElem?_cons_zero, List.getElem?_cons_succ, Option.some.injEq, exists_eq_left', iteF, List.map_cons, List.map_nil, and_self]
  · have : ∃ j : Nat, j < cs.length ∧ x = .int j := by
      simp only [rangeD, List.mem_map, List.mem_range] at hx
      obtain ⟨j, hj, rfl⟩ := hx
      exact ⟨j, by omega, rfl⟩
    obtain ⟨j, hj, rfl⟩ := this
    simp only [wp_pure, w_seq, w_if, w_cmp, w_idx, w_var, w_cst, w_glo, w_blt, w_cons, w_nil, w_bin, w_cal, w_callk, w_not, w_set, w_setT, w_ret, w_exp, w_nx, w_rt, w_skip, w_flr, w_fln, wp_seal_dat, w_tup, w_lst, w_toDs_nil, w_toDs_cons, w_itee, w_isi, w_or, w_and, w_tb, w_comp, w_sseq, w_srng, w_sit, w_sil, wp_toDs, wipeD, w_slc, w_part0, w_part1, w_cutT, w_cutL, w_rep3, w_rep2L, w_isN, w_isnotN, w_listL, w_listT, w_tupl, w_tupt, w_len_t, w_len_l, w_eqI, w_eqB, w_neB, w_gt, w_lt, w_ge, w_le, w_add, w_par, w_parF, w_par3, w_par3F, w_snapD, w_snd, List.set_cons_zero, List.set_cons_succ, List.getElem?_cons_zero, List.getElem?_cons_succ, Option.some.injEq, exists_eq_left', iteF, List.map_cons, List.map_nil]
    refine (box_ok (k := k + 10) c1 (by omega) (by omega) c2).mono fun v μ3 ⟨e, B⟩ => ?_
    subst e
    try simp only [wp_pure, w_seq, w_if, w_cmp, w_idx, w_var, w_cst, w_glo, w_blt, w_cons, w_nil, w_bin, w_cal, w_callk, w_not, w_set, w_setT, w_ret, w_exp, w_nx, w_rt, w_skip, w_flr, w_fln, wp_seal_dat, w_tup, w_lst, w_toDs_nil, w_toDs_cons, w_itee, w_isi, w_or, w_and, w_tb, w_comp, w_sseq, w_srng, w_sit, w_sil, wp_toDs, wipeD, w_slc, w_part0, w_part1, w_cutT, w_cutL, w_rep3, w_rep2L, w_isN, w_isnotN, w_listL, w_listT, w_tupl, w_tupt, w_len_t, w_len_l, w_eqI, w_eqB, w_neB, w_gt, w_lt, w_ge, w_le, w_add, w_par, w_parF, w_par3, w_par3F, w_snapD, w_snd, List.set_cons_zero, List.set_cons_succ, List.getElem?_cons_zero, List.getElem?_cons_succ, Option.some.injEq, exists_eq_left', iteF, List.map_cons, List.map_nil]
    exact (right_ok (k := k) (n := 8392) B).mono fun v μ4 ⟨q, _⟩ => q
  · subst q1
    rw [show (rangeD (cs.length : Int).toNat).map (fun _ => D.bl true) = (rangeD (cs.length : Int).toNat).map (fun x => D.bl ((fun _ => true) x)) from rfl, w_allM]
    simp only [wp_pure, w_seq, w_if, w_cmp, w_idx, w_var, w_cst, w_glo, w_blt, w_cons, w_nil, w_bin, w_cal, w_callk, w_not, w_set, w_setT, w_ret, w_exp, w_nx, w_rt, w_skip, w_flr, w_fln, wp_seal_dat, w_tup, w_lst, w_toDs_nil, w_toDs_cons, w_itee, w_isi, w_or, w_and, w_tb, w_comp, w_sseq, w_srng, w_sit, w_sil, wp_toDs, wipeD, w_slc, w_part0, w_part1, w_cutT, w_cutL, w_rep3, w_rep2L, w_isN, w_isnotN, w_listL, w_listT, w_tupl, w_tupt, w_len_t, w_len_l, w_eqI, w_eqB, w_neB, w_gt, w_lt, w_ge, w_le, w_add, w_par, w_parF, w_par3, w_par3F, w_snapD, w_snd, List.set_cons_zero, List.set_cons_succ, List.getElem?_cons_zero, List.getElem?_cons_succ, Option.some.injEq, exists_eq_left', iteF, List.map_cons, List.map_nil, D.bl.injEq, Val.dat.injEq]
    exact List.all_eq_true.mpr fun _ _ => rfl
theorem plain : ∀ ns : List Int, ns.length ≤ 63 → ∃ μ', callK Z.tab 40 "law" [.dat (.frz (ns.map .int))] [] = some (.ok (.dat (.bl true)), μ') := fun ns h => by
  have : IntL (ns.map D.int) := fun d hd => by
    obtain ⟨i, _, rfl⟩ := List.mem_map.mp hd
    exact ⟨i, rfl⟩
  obtain ⟨v, μ', e, q⟩ := law_ok (k := 28) (μ := []) this (by rw [List.length_map]; exact h)
  exact ⟨μ', by rw [e, q]⟩
end
end K05
set_option Elab.async false
set_option linter.all false
set_option maxRecDepth 100000
set_option maxHeartbeats 0
open PySem PySem.W PySem.Calls PyProof.Rows
theorem PySem.Challenge.cw_comeby_k05_logins_closed_files_and_withi_holds : PySem.Challenge.rw_comeby_k05_logins_closed_files_and_withi.Holds := by
  w_on; o_law
  refine HandSHeadRun.head_any (r := OpenLaw.row PySem.Challenge.rw_comeby_k05_logins_closed_files_and_withi) (q := view (OpenLaw.row PySem.Challenge.rw_comeby_k05_logins_closed_files_and_withi).prog [42]) (H := K05.hk) (ob := K05.ob) (M := 6000) (loose := K05.loose) (d := HandSHeadRun.topDef (OpenLaw.row PySem.Challenge.rw_comeby_k05_logins_closed_files_and_withi).prog 42) (kwd := []) K05.ob_eq
    (by kernel_rfl) (fun s => by kernel_rfl) K05.run (by kernel_rfl) (by kernel_rfl) (by kernel_rfl) (by rfl) (by first | assumption | decide +kernel) (by decide +kernel) ⟨rfl, rfl, rfl, rfl, rfl, by decide +kernel⟩ ?hw ?hc
  case hw => w_witness2
  case hc =>
    refine L2.walk_ofE (l := PySem.Challenge.rw_comeby_k05_logins_closed_files_and_withi) (n := 63) (k := 42) (x := "_law_script") (CX := C8.CX0) rfl (by decide) (by kernel_rfl) ⟨rfl, by decide, by decide⟩ ?F (fun _ _ _ _ z => z)
    intro w mg fa h Y G hmg0
    obtain ⟨K, KX, hf, c, hx⟩ := Y
    have hmg : mg ("law" : PySem.Str) = some (.ref fa) := by
      have e : (HandSHeadRun.topDef (OpenLaw.row PySem.Challenge.rw_comeby_k05_logins_closed_files_and_withi).prog 42).name = ("law" : PySem.Str) := by kernel_rfl
      rw [← e]
      exact hmg0
    obtain ⟨fd, hb, hT, hF⟩ := K05.Z.law (w := w) (k := 40) (n := 63) (x := "law") (y := "_law_script") (e := (K05.d_law, K05.f_law)) K05.Zok KX G hf c hx (by kernel_rfl) (by kernel_rfl) (by simp [K05.Z, K05.ents]) (by kernel_rfl) hmg K05.plain (by decide)
    exact ⟨K, fd, fun vs H Q E => _root_.G.spF K 1 (_root_.G.callK K05.Z.tab 40 "law") vs H Q fun _ _ _ => False, KX, hb, hT, hF⟩
