import PyProof.Rows.All
import Wide.All
import OpenK.AllK
import Wide.FinOn
import HandS.ForMost
import HandS.Walk
import HandS.IsInst
import HandS.Deep
import HandS.Style
import HandS.DictComp
import HandS.Star
import HandS.Flow
import HandS.Defaults
import HandS.More
import HandS.SetKeys
import HandS.ListItems
import HandS.SortInts
import HandS.WordsDict
import HandS.SortRule
import KE.KeyNested
import KE.KDictKeyed
import HandS.Exc
import HandS.ExcInit
import KE.KExcSuper
import KE.KSuper
import HandS.ExcCtx
import HandS.HeadHook1
import HandS.HeadHook2
import HandS.HeadEnd
import HandS.Head0
import HandS.Head1
import HandS.Head2
import HandS.Zip
import HandS.HotCalls
import PySem.Challenge.RW_planmill_k97_whole_main_great_clauses_an
set_option Elab.async false
set_option linter.all false
set_option maxRecDepth 100000
section
/-! Px -/
set_option maxHeartbeats 4000000
/-! Px: an own exception class over an own class over ValueError, whose __init__ says super().__init__('text') and keeps its argument in a field. -/
namespace PySem
namespace Px
open PySem.W PySem.Calls PyProof.Rows PySem.HandSPX
def pA (fld : Str) (p1 p2 : Pos) : Arguments := { posonlyargs := [], args := [{ arg := "self", annotation := none, pos := p1 }, { arg := fld, annotation := none, pos := p2 }], vararg := none, kwonlyargs := [], kw_defaults := [], kwarg := none, defaults := [] }
structure Ps where
  (p1 p2 a1 a2 a3 a4 a5 a6 q1 q2 q3 q4 : Pos)
  kk : Nat
def pB (fld txt : Str) (P : Ps) : List Stmt := [.Expr (.Call (.Attribute (.Call (.Name "super" P.a1) [] [] P.a2) "__init__" P.a3) [.Constant (.str txt) P.kk P.a4] [] P.a5) P.a6, .Assign [.Attribute (.Name "self" P.q1) fld P.q2] (.Name fld P.q3) P.q4]
def pS (fld : Str) : Scope := { kind := .function, names := [(PySem.Str.ofString "self", .local), (fld, .local), (PySem.Str.ofString "__class__", .free), (PySem.Str.ofString "super", .globalImplicit)], isGenerator := false, isCoroutine := false, more := [] }
abbrev pFd (qual fld txt : Str) (P : Ps) (doc pm : Value) (an : Option Addr) (cdv ct : Value) (cc : Addr) : FuncData := ksFn "__init__" qual (pA fld P.p1 P.p2) (pB fld txt P) (pS fld) .none .none doc pm an cdv ct cc
/-- what the written part says of the class at C, of its __init__ at fI -/
structure PxC (prog : Program) (K : Frag) (C fI : Addr) (qual fld txt : Str) (P : Ps) : Prop where
  cls : ∃ nm q N bs bm sn sub ab col dd k0 k1 k2 k3 k5, K.lookup C = some (excClassObj nm q C N bs bm true sn sub ab col dd k0 k1 k2 k3 k5 "ValueError.__new__") ∧ refsVE bm = true ∧ alongIn K "__init__" bm = some (some (.builtin "ValueError.__init__"))
  sa : findIn K (.ref C) "__setattr__" = some (some (.builtin "object.__setattr__"))
  ga : findIn K (.ref C) "__getattribute__" = some (some (.builtin "BaseException.__getattribute__"))
  gg : findIn K (.ref C) "__getattr__" = some none
  noN : findIn K (.ref C) fld = some none
  iC : findIn K (.ref C) "__init__" = some (some (.ref fI))
  tC : typeIn K (.ref fI) = some (.type "function")
  kC : keepIn K (.ref C) = true
  exC : subIn K (.ref C) (.type "BaseException") = some true
  veC : subIn K (.ref C) (.type "ValueError") = some true
  selfC : mroIn K C (.ref C) = some true
  tyC : typeIn K (.ref C) = some (.type "type")
  hdC : hasDictIn K C = true
  opq : nsIn K cStatics "thirdparty.any" = some none
  fn : ∃ (oc : Value) (od : Option Addr) (doc pm : Value) (an : Option Addr) (cda : Addr) (ct : Value) (osl : Array (Option Value)) (cc : Addr) (ccl : Value) (cdd : Option Addr) (vs : Array Value) (ccs : Array (Option Value)) (tf : Tok) (file : Str) (cl : Value) (cld : Option Addr) (csl : Array (Option Value)),
    K.lookup fI = some ⟨oc, od, .func (pFd qual fld txt P doc pm an (.ref cda) ct cc), osl⟩ ∧ codeIn K (.ref cda) qual = true ∧
    K.lookup cda = some ⟨ccl, cdd, .fields vs, ccs⟩ ∧ vs[2]? = some (.str file tf) ∧ ((prog.main.file : Str) == file) = true ∧ K.lookup cc = some ⟨cl, cld, .cell (some (.ref C)), csl⟩
  top : (prog.main.scope.names.lookup ("super" : Str)).isSome = false
/-- what is asked of the field's name -/
structure OkF (qual fld txt : Str) (P : Ps) : Prop where
  mc : ∃ pl : Env → Sem Bool, ∀ env : Env, eval (.Call (.Attribute (.Call (.Name "super" P.a1) [] [] P.a2) "__init__" P.a3) [.Constant (.str txt) P.kk P.a4] [] P.a5) env = (do
      let ov ← attributeBase (.Call (.Name "super" P.a1) [] [] P.a2) "__init__" env (eval (.Call (.Name "super" P.a1) [] [] P.a2) env)
      standAt P.a3.atName
      let (f, first) ← holding [ov] (getMethod ov "__init__" (pl env))
      callWith P.a5 f first (backTo P.a5 (starEach [.Constant (.str txt) P.kk P.a4] env)) [])
  bind : ∀ (doc pm : Value) (an : Option Addr) (cdv ct : Value) (cc : Addr) (u v : Value), bindArgs (pFd qual fld txt P doc pm an cdv ct cc) ⟨[u, v], []⟩ = pure [(("self" : Str), u), (fld, v)]
  loc : (pS fld).names.lookup fld = some .local
  ne : fld ≠ "self"
  lc : (pS fld).names.lookup ("__class__" : Str) = some .free
  lsu : (pS fld).names.lookup ("super" : Str) = some .globalImplicit
  dbg : (fld == ("__debug__" : Str)) = false
structure InitEnd (h h' : Heap) (x C dx t1 : Addr) (fld : Str) (v : Value) : Prop where
  keep : ∀ b o, b ≠ x → h.get? b = some o → h'.get? b = some o
  obj : h'.get? x = some { cls := .ref C, dict := some dx, data := .fields #[.ref t1, .none, .none, .none, .bool false, .none] }
  dbig : h.objs.size ≤ dx
  dne : dx ≠ x
  ns : h'.Ns1 dx (fun y => if y = fld then some v else none)
theorem callWith_mw {M : Model} {A : Around} {E : Value → Shared → Prop} {s : Shared} {i : String} {x u : Addr} {pos : Pos} {env : Env} {e : Expr} {Q : Value → Shared → Prop}
    (h : wpAny M A (spliced (backTo pos (starEach [e] env))) (fun vs s₁ => KxsAt i u x s₁.heap ∧ wpAny M A (call (.ref u) vs) Q E s₁) E s)
    (he : starEach [e] env = (false, eval e env) :: starEach [] env := by rfl) : wpAny M A (callWith pos (.ref u) [] (backTo pos (starEach [e] env)) []) Q E s := by
  rw [he] at h ⊢
  refine kxs_callWith (i := i) (x := x) (by show (false || (backTo pos (starEach [] env)).any (·.1)) = false; rfl) ?_
  exact evalArgs_plain h
theorem call_mw {prog : Program} {w : World} {A : Around} {E : Value → Shared → Prop} {h : Heap} {g : Array GenState} {d : Drawn} {t : Nat} {os : OsState} {nm q : Str} {C N : Addr} {bs bm : List Value} {hdct : Bool} {sn : List Str} {sub : List Value} {ab : Bool} {col : Option Bool} {dd : Option Addr} {k0 k1 k2 k3 k5 : Option Value}
    {u e t0 : Addr} {rest : List Value} {Q : Value → Shared → Prop}
    (hC : h.get? C = some (excClassObj nm q C N bs bm hdct sn sub ab col dd k0 k1 k2 k3 k5 "ValueError.__new__")) (he : h.get? e = some (excO C t0)) (hu : h.get? u = some (kxs_mw "ValueError.__init__" e)) (hrest : rest.length ≤ sizeLine)
    (hq : ∀ h' t1, (∀ b o, b ≠ e → h.get? b = some o → h'.get? b = some o) → h'.get? e = some (excO C t1) → Q .none ⟨h', g, d, t, os⟩) :
    wpAny (model prog w) A (call (.ref u) rest) Q E ⟨h, g, d, t, os⟩ := by
  refine wpAny_call (codeAny_of_tree ?_)
  show wpAny _ A.in1 (callAny (.ref u) ⟨rest, []⟩) _ _ _
  simp only [callAny]
  refine wpAny_bind (wpAny_load hu ?_)
  simp only [kxs_mw, show (Value.type "method-wrapper" == Value.type "method" || Value.type "method-wrapper" == Value.type "builtin_function_or_method" || Value.type "method-wrapper" == Value.type "method-wrapper") = true by decide, if_true]
  refine KFB.if_so (by decide) ?_
  refine wpAny_bind (check_bound_init F.excBase_ValueError.toExcCallFacts hC he rfl ?_)
  refine wpAny_bind (wpAny_pure (wpAny_pure ?_))
  refine ⟨plainId_quiet F.excBase_ValueError.init.plain _, codeAny_builtin F.excBase_ValueError.initEntry ?_⟩
  rw [Around.under_plainId F.excBase_ValueError.init.plain _]
  wp_walk
  refine hq _ h.objs.size (fun b o hb ho => ?_) ?_
  · rw [Heap.get?_update_other _ _ (Ne.symm hb)]
    exact Heap.get?_push_of_some _ ho
  · rw [Heap.get?_update_self _ (Heap.get?_push_of_some _ he) rfl]
    rfl
theorem ldC {M : Model} {s : Shared} {env : Env} {m : Str → Option Value} {x : Str} {pos : Pos} {v : Value} {Q : Value → Shared → Prop} {A : Around} {E : Value → Shared → Prop} (hn : s.heap.Ns env.locals m) (hv : m x = some v) (h : Q v s)
    (hk : env.scope.kind = .function) (hl : env.kindOf x = some .local) (hd : (x == ("__debug__" : Str)) = false) :
    wpAny M A (eval (.Name x pos) env) Q E s := wpAny_Name (wpAny_loadName_local hk hl hn hv h) hd
theorem look_fld {fld : Str} {u v : Value} : List.lookup fld [(("self" : Str), u), (fld, v)].reverse = some v := by simp [List.lookup]
theorem look_self {fld : Str} {u v : Value} (h : fld ≠ "self") : List.lookup ("self" : Str) [(("self" : Str), u), (fld, v)].reverse = some u := by
  have e : (("self" : Str) == fld) = false := by simpa using fun z : ("self" : Str) = fld => h z.symm
  simp [List.lookup, e]
section
variable {prog : Program} {w : World} {A : Around} {E : Value → Shared → Prop} {R : Result → Shared → Prop} {s : Shared} {K : Frag} {mg mb : Str → Option Value} {C fI : Addr} {qual fld txt : Str} {P : Ps}
theorem px_init (T : PxC prog K C fI qual fld txt P) (O : OkF qual fld txt P) {x t0 : Addr} {v : Value} (X : K.In s.heap) (hlim : s.heap.NoLimit) (hx : s.heap.get? x = some (excO C t0)) (hnx : K.lookup x = none) (hroom : A.depth < recursionLimit)
    (G : s.heap.Ns mainGlobals mg) (hsup : mg "super" = none) (B : s.heap.Ns builtinsNs mb) (hbs : mb "super" = some (.type "super"))
    (hq : ∀ h' tk dx t1, InitEnd s.heap h' x C dx t1 fld v → R (.ok (.ret .none)) { s with heap := h', toks := tk }) :
    codeAny (model prog w) A (.call (.ref fI) ⟨[.ref x, v], []⟩) R s := by
  obtain ⟨oc, od, doc, pm, an, cda, ct, osl, cc, ccl, cdd, vs, ccs, tf, file, cl, cld, csl, ho, hcd, hco, hvs, hfile, hcc⟩ := T.fn
  obtain ⟨nm, q, N, bs, bm, sn, sub, ab, col, dd, k0, k1, k2, k3, k5, hC, hbm, hal⟩ := T.cls
  have hcl : clsIn K C = some { name := nm, bases := bs, mro := .ref C :: bm, ns := N, qualname := q, hasDict := true, slotNames := sn, subclasses := sub, abstract := ab, collection := col, hasDel := false } := by unfold clsIn; rw [hC] <;> rfl
  refine ks_codeAny_call_defAt (binds := [(("self" : Str), .ref x), (fld, v)]) hroom (X _ _ ho) rfl hlim (codeRec_of X hcd) rfl (BindsTo.of_eq (O.bind ..)) (by show ∀ y ∈ (pS fld).names, y.2 ≠ .cell; simp [pS]) (fun y hy => ?_) (fun h₁ hns hk₁ => ?_)
  · rcases List.mem_cons.mp hy with rfl | hy
    · rfl
    · rw [List.mem_singleton] at hy
      subst hy
      exact O.loc
  have hxL : s.heap.objs.size ≠ x := Nat.ne_of_gt (Heap.lt_size hx)
  have X₁ : K.In h₁ := X.keeps hk₁
  have hx₁ := hk₁ _ _ hx
  have G₁ := Heap.Ns.keeps G hk₁
  have B₁ := Heap.Ns.keeps B hk₁
  obtain ⟨pl, hmc⟩ := O.mc
  obtain ⟨hp, g, d, tk, os⟩ := s
  dsimp only at hx hlim X G B hq hns hk₁ hxL
  show _root_.PySem.wpAt (model prog w) _ _ (execs (_ :: _) _) _ _ _
  have hgl : ∀ {h2 : Heap}, (∀ b o, h₁.get? b = some o → h2.get? b = some o) → h2.Ns mainGlobals mg := fun k => Heap.Ns.keeps G₁ k
  have hns' : ∀ {h2 : Heap}, (∀ b o, h₁.get? b = some o → h2.get? b = some o) → h2.Ns hp.objs.size (fun y => List.lookup y [(("self" : Str), Value.ref x), (fld, v)].reverse) := fun k => Heap.Ns.keeps hns k
  refine ks_wpAt_execs_cons (ks_wpAt_Expr_any (ks_wpAt_MethodCall (pl := pl _) ?_ (hmc _)))
  · refine ks_wpAt_super_base (f := fI) (cc := cda) (ar := { arg := "self", annotation := none, pos := P.p1 }) O.lsu O.lc (by decide) rfl (X₁ _ _ ho) rfl rfl rfl (X₁ _ _ hco) rfl hvs hfile T.top ?_
    refine ks_loadName_global rfl O.lsu (loadGlobal_builtin G₁ hsup B₁ hbs ⟨rfl, ?_⟩)
    refine wpAny_loadName_free rfl O.lc rfl ⟨_, X₁ _ _ hcc, rfl⟩ ?_
    refine wpAny_loadName_local rfl rfl hns (v := .ref x) (look_self O.ne) ?_
    refine ks_wpAny_isType_cls (X₁ _ _ hC) rfl ⟨rfl, ?_⟩
    refine ks_wpAny_call_super (X₁ _ _ hC) rfl hx₁ rfl (fun c z => by cases z) (looks_mroIn X₁ T.selfC) (fun h2 hso k2 => ?_)
    have X₂ : K.In h2 := X₁.keeps k2
    have hx₂ := k2 _ _ hx₁
    have hI : Looks (model prog w) h2 (isInstance (.ref x) (.type "ValueError")) true := (show InstAt h2 x (excO C t0) C none from ⟨hx₂, rfl, rfl, trivial⟩).type.andThen (looks_subIn X₂ T.veC)
    refine kxs_getMethod kxs_ValueError hso (looks_opaque X₂ T.opq) (l₀ := .ref C :: bm) (l := bm) ((looks_clsIn X₂ hcl).andThen .now) (by simp [List.dropWhile_cons]) X₂ hal hI (ks_ne X₂ (show InstAt h2 x (excO C t0) C none from ⟨hx₂, rfl, rfl, trivial⟩) hcl) (by decide) ?_
    have k3 : ∀ b o, h2.get? b = some o → (h2.push (kxs_mw "ValueError.__init__" x)).get? b = some o := fun b o e => Heap.get?_push_of_some _ e
    have hu : (h2.push (kxs_mw "ValueError.__init__" x)).get? h2.objs.size = some (kxs_mw "ValueError.__init__" x) := Heap.get?_push_at rfl rfl
    have X₃ : K.In (h2.push (kxs_mw "ValueError.__init__" x)) := X₂.keeps k3
    refine callWith_mw (i := "ValueError.__init__") (x := x) (PyProof.Rows.spliced_more (Calls.Constant_str (PyProof.Rows.spliced_none ⟨hu, ?_⟩)) rfl)
    refine call_mw (X₃ _ _ hC) (k3 _ _ hx₂) hu (by rw [sizeLine_eq]; show 1 ≤ 16777216; decide) (fun h4 t1 k4 hx4 => ?_)
    dsimp only
    have ks : ∀ b o, b ≠ x → h₁.get? b = some o → h4.get? b = some o := fun b o hb e => k4 b o hb (k3 _ _ (k2 _ _ e))
    have hns4 : h4.Ns hp.objs.size (fun y => List.lookup y [(("self" : Str), Value.ref x), (fld, v)].reverse) := by
      obtain ⟨o, es, ep, e1, e2⟩ := hns
      exact ⟨o, es, ep, ks _ _ hxL e1, e2⟩
    have X₄ : K.In h4 := fun b o e => ks b o (fun z => by subst z; rw [hnx] at e; cases e) (X₁ b o e)
    refine wpAt_of_wpAny (wpAny_execs_cons (plainObj_wpAny_Assign_Attribute ?_))
    refine ldC (v := v) hns4 look_fld (ldC (v := .ref x) hns4 (look_self O.ne) ?_ rfl rfl (by decide)) rfl O.loc O.dbg
    refine set_plain X₄ (ox := excO C t1) (od := none) ⟨hx4, rfl, rfl, trivial⟩ T.sa ?_
    refine exc_osa X₄ hx4 hcl (show refsVE (.ref C :: bm) = true from hbm) rfl T.noN (fun h5 tk5 dx k5 dn dne hx5 hn5 => ?_)
    show wpAny _ _ (execs _ _) _ _ _
    refine wpAny_execs_nil (hq h5 tk5 dx t1 ⟨fun b o hb e => k5 b o hb (ks b o hb (hk₁ b o e)), hx5, Nat.le_of_lt (Nat.lt_of_lt_of_le hns4.lt dn), dne, hn5⟩)
/-- a made one -/
structure Made (h h' : Heap) (e C d : Addr) (fld : Str) (v : Value) : Prop where
  keep : ∀ b o, h.get? b = some o → h'.get? b = some o
  new : h.objs.size ≤ e
  obj : ∃ oe vs, h'.get? e = some oe ∧ oe.cls = .ref C ∧ oe.dict = some d ∧ oe.data = .fields vs ∧ vs[1]? = some .none ∧ vs[2]? = some .none
  dbig : h.objs.size ≤ d
  dne : d ≠ e
  ns : h'.Ns1 d (fun y => if y = fld then some v else none)
theorem one_size (v : Value) : [v].length ≤ sizeLine := by
  rw [sizeLine_eq]
  exact (by decide : 1 ≤ 16777216)
theorem px_made (T : PxC prog K C fI qual fld txt P) (O : OkF qual fld txt P) {v : Value} (X : K.In s.heap) (hlim : s.heap.NoLimit) (hroom : A.depth + 1 < recursionLimit)
    (G : s.heap.Ns mainGlobals mg) (hsup : mg "super" = none) (B : s.heap.Ns builtinsNs mb) (hbs : mb "super" = some (.type "super"))
    (hq : ∀ h' tk e d, Made s.heap h' e C d fld v → R (.ok (.ret (.ref e))) { s with heap := h', toks := tk }) :
    codeAny (model prog w) A (.call (.ref C) ⟨[v], []⟩) R s := by
  obtain ⟨nm, q, N, bs, bm, sn, sub, ab, col, dd, k0, k1, k2, k3, k5, hC, hbm, _⟩ := T.cls
  obtain ⟨hp, g, dr, tk, os⟩ := s
  have k : ∀ b o, hp.get? b = some o → ((hp.push (kdv_tup [v])).push (excO C hp.objs.size)).get? b = some o := fun b o e => Heap.get?_push_of_some _ (Heap.get?_push_of_some _ e)
  have hget : ((hp.push (kdv_tup [v])).push (excO C hp.objs.size)).get? (hp.objs.size + 1) = some (excO C hp.objs.size) := by heap_get
  have hnx : K.lookup (hp.objs.size + 1) = none := by
    cases e : K.lookup (hp.objs.size + 1) with
    | none => rfl
    | some o =>
      have z : hp.get? (hp.objs.size + 1) = some o := X _ _ e
      exact absurd (Nat.lt_of_succ_lt (Heap.lt_size z)) (Nat.lt_irrefl _)
  refine call_own F.excBase_ValueError (fun X => refsVE_contains X bm hbm) (X _ _ hC) (looks_findIn X T.iC) (fun self => bind_fn X self T.tC) (one_size v) ?_
  refine px_init (s := ⟨(hp.push (kdv_tup [v])).push (excO C hp.objs.size), g, dr, tk, os⟩) T O (X.keeps k) (hlim.keeps k) hget hnx ?_ (Heap.Ns.keeps G k) hsup (Heap.Ns.keeps B k) hbs fun h' tk' dx t1 ⟨k', hx, dn, dne, hns⟩ => ?_
  · show A.depth + 1 < recursionLimit
    exact hroom
  · have old : ∀ b o, hp.get? b = some o → h'.get? b = some o := fun b o e => k' b o (Nat.ne_of_lt (Nat.lt_succ_of_lt (Heap.lt_size e))) (k b o e)
    have z : hp.objs.size + 1 + 1 ≤ dx := by
      first
        | (simpa only [Heap.size_push] using dn)
        | exact dn
        | (have q := dn; rw [Heap.size_push, Heap.size_push] at q; exact q)
    exact ⟨rfl, hq h' tk' (hp.objs.size + 1) dx ⟨old, Nat.le_succ _, ⟨_, _, hx, rfl, rfl, rfl, rfl, rfl⟩, Nat.le_trans (Nat.le_trans (Nat.le_succ _) (Nat.le_succ _)) z, dne, hns⟩⟩
end
end Px
end PySem
/-! Px2 -/
set_option maxHeartbeats 4000000
/-! Px2: raise X(e), e.f of such a class. The steps follow the library's skeleton of an own error. -/
namespace L2
open PySem PySem.Spec PyProof.Rows PySem.Px
theorem relO_px {fld : Str} {v : V} {v' : Value} (r : RelV v v') (f : Str) : RelO (List.lookup f [(fld, v)]) (if f = fld then some v' else none) := by
  by_cases hw : f = fld
  · subst hw
    rw [if_pos rfl]
    have q : List.lookup f [(f, v)] = some v := by simp [List.lookup]
    rw [q]
    exact r
  · rw [if_neg hw]
    have qw : (f == fld) = false := by simpa using hw
    have q2 : List.lookup f [(fld, v)] = none := by simp [List.lookup, qw]
    rw [q2]
    trivial
/-- what is known of the class x of the module -/
structure PxT (P : Program) (K : PySem.W.Frag) (mg : Str → Option Value) (x : Str) (C : Addr) (fld : Str) : Prop where
  gC : mg x = some (.ref C)
  sup : mg "super" = none
  te : PySem.W.exmOne K (.ref C) (.ref C) = some true
  cls : ∃ fI qual txt Po, PxC P K C fI qual fld txt Po ∧ OkF qual fld txt Po
section
variable {X : Cx} {C : Addr} {x fld : Str}
/-- X(e) -/
def tMkPx (C : Addr) (fld : Str) (ta : TA) : St → Hp → XK → Prop := fun σ H Q => ta σ H fun vs H1 => ∃ v, vs = [v] ∧ ∀ d, H1 d = none → Q (.ref C) (some d) (upd H1 d (.xd [(fld, v)]))
theorem pmk_px {a : Expr} {ta : TA} {p pos : Pos} {k : Nat} (T : PxT X.prog X.K X.mg x C fld) (hr : Room k X.A) (ha : PA X [a] ta) (hg : Gl X x := by rfl) (hdb : (x == ("__debug__" : Str)) = false := by decide)
    (he : starEach (a :: []) X.env = (false, eval a X.env) :: starEach [] X.env := by rfl) (hpl : (backTo pos (starEach [] X.env)).any (·.1) = false := by rfl) :
    L2N.PMk X (.Call (.Name x p) [a] [] pos) (tMkPx C fld ta) := by
  intro pins s σ H Q I h
  obtain ⟨fI, qual, txt, Po, TC, O⟩ := T.cls
  refine wpAny_Call_Name_kw (ld_glob I hg T.gC ?_ hdb)
  refine PySem.W.callWith_K (h₀ := X.base) I.ok.mod.kin TC.kC (thn (ha.run pos pins s σ H _ I h) fun us s1 hh => ?_) he hpl
  obtain ⟨vs, H1, I1, r1, v, ev, q1⟩ := hh
  subst ev
  refine ⟨I1.kIn, ?_⟩
  cases r1 with
  | cons rv rn =>
    rename_i v' us'
    cases rn
    show wpAny _ _ (call (.ref C) [v']) _ _ _
    have hlim := I1.nolimit
    have hG : s1.heap.Ns mainGlobals X.mg := I1.mod.glob.keeps I1.bk
    obtain ⟨mb, hb1, hb2⟩ := I1.mod.blt
    have hB : s1.heap.Ns builtinsNs mb := hb1.keeps I1.bk
    have hbs : mb "super" = some (.type "super") := (hb2 "super" (by decide)).trans (by decide +kernel)
    obtain ⟨hp, g, dr, tk, os⟩ := s1
    refine wpAny_call (px_made TC O I1.kIn hlim (by have := hr.dp; omega) hG T.sup hB hbs fun h' tk' e d M => ?_)
    show L2N.MkP X pins σ Q (.ref e) ⟨h', g, dr, tk', os⟩
    obtain ⟨oe, fv, hoe, hc, hd, hdat, h1, h2⟩ := M.obj
    have hns := M.ns
    obtain ⟨G', g1, g2⟩ := restrict h' fun b => decide (b ≠ e)
    have gk : ∀ b, b ≠ e → G'.get? b = h'.get? b := fun b hb => g1 b (decide_eq_true hb)
    have ge : G'.get? e = none := g2 e (by simp)
    have old : ∀ b o, hp.get? b = some o → G'.get? b = some o := fun b o q => (gk b (Nat.ne_of_lt (Nat.lt_of_lt_of_le (Heap.lt_size q) M.new))).trans (M.keep b o q)
    have ob : ObjOk X.prog X.w (upd H1 d (.xd [(fld, v)])) G' d (.xd [(fld, v)]) :=
      ⟨_, hns.at (fun o q => (gk d M.dne).trans q), fun f => relO_px rv f⟩
    have J : Inv X pins σ (upd H1 d (.xd [(fld, v)])) ⟨G', g, dr, tk', os⟩ := I1.laid (t' := tk') old M.dbig ob
    refine ⟨e, oe, fv, ⟨G', g, dr, tk', os⟩, _, .ref C, some d, rfl, J, fun b o q => ?_, ge, hoe, ⟨hc, hd, fun vs e => by rw [hdat] at e; cases e; exact h2⟩, hdat, h1, ?_, rfl, I1.bare, raises_own TC.exC TC.tyC, q1 d (I1.hok.fresh M.dbig)⟩
    · by_cases hb : b = e
      · have q' : G'.get? b = some o := q
        rw [hb, ge] at q'; cases q'
      · exact (gk b hb).symm.trans q
    · rw [upd_ne (Ne.symm M.dne)]
      exact I1.hok.fresh M.new
/-- raise X(e) -/
def tRaisePx (C : Addr) (fld : Str) (W : WX) (ta : TA) : TS := fun _ σ H => tMkPx C fld ta σ H fun cls d H' => W cls d σ H'
theorem ps_raisePx {a : Expr} {ta : TA} {W : WX} {p pos pos2 : Pos} {k : Nat} (hc : X.calm = true) (T : PxT X.prog X.K X.mg x C fld) (hr : Room k X.A) (tk : L2N.Takes X W) (ha : PA X [a] ta) (hg : Gl X x := by rfl) (hdb : (x == ("__debug__" : Str)) = false := by decide)
    (he : starEach (a :: []) X.env = (false, eval a X.env) :: starEach [] X.env := by rfl) (hpl : (backTo pos (starEach [] X.env)).any (·.1) = false := by rfl) :
    PS X (.Raise (some (.Call (.Name x p) [a] [] pos)) none pos2) (tRaisePx C fld W ta) := L2N.ps_raise hc tk (pmk_px T hr ha hg hdb he hpl)
/-- e.f, e the exception that the suite holds (at a; its class cls, its dict d) -/
def tByPx (C : Addr) (fld : Str) (a : Addr) (cls : Value) (d : Option Addr) (te : TE) : TE := fun σ H Q => te σ H fun x H1 => x = .ref a ∧ cls = .ref C ∧ ∃ (dd : Addr) (v : V), d = some dd ∧ H1 dd = some (.xd [(fld, v)]) ∧ Q v H1
theorem pe_byPx {a : Addr} {oe : Obj} {cls : Value} {d : Option Addr} {pn : List (Addr × Obj)} {e : Expr} {te : TE} {pos : Pos} (T : PxT X.prog X.K X.mg x C fld) (hz : Zc cls d oe) (hf : ∃ vs, oe.data = .fields vs) (he : PE (X.suite a ((a, oe) :: pn)) e te)
    (hb : attributeBase e fld X.env (eval e X.env) = eval e X.env := by rfl) :
    PE (X.suite a ((a, oe) :: pn)) (.Attribute e fld pos) (tByPx C fld a cls d te) := by
  refine ⟨fun pins s σ H Q I h => ?_⟩
  obtain ⟨fI, qual, txt, Po, TC, O⟩ := T.cls
  refine attr_of hb (thn (he.run pins s σ H _ I h) fun u s1 hh => ?_)
  obtain ⟨x, H1, I1, rx, ex, ec, dd, v, ed, ea, q⟩ := hh
  subst ex
  obtain rfl : u = Value.ref a := rx
  subst ec
  subst ed
  obtain ⟨ha, _⟩ := I1.pin (a, oe) (List.mem_append_left _ List.mem_cons_self)
  obtain ⟨vs, hd⟩ := hf
  have hx : ObjOk X.prog X.w H1 s1.heap dd (.xd [(fld, v)]) := I1.hok dd _ ea
  obtain ⟨mA, hns, hr⟩ := hx
  obtain ⟨od, ho, hl⟩ := lookIn_ns hns
  have l : List.lookup fld [(fld, v)] = some v := by simp [List.lookup]
  obtain ⟨u, hu, ru⟩ := RelO.some_of (v := v) (o := mA fld) (by rw [← l]; exact hr fld)
  have J : PySem.W.InstAt s1.heap a oe C (some od) := ⟨ha, hz.1, by unfold PySem.W.notCls; rw [hd] <;> rfl, by rw [hz.2]; exact ho⟩
  exact HandSPX.exc_get I1.kIn J TC.ga TC.gg TC.exC (PySem.W.findObj_own TC.hdC TC.noN rfl (by rw [hl, hu])) (handed_of ru) ⟨v, H1, I1.tok _, ru, q⟩
end
end L2
/-! Hk -/
set_option maxHeartbeats 4000000
/-! Hk: a head's facts: defs, names, lists, own exception classes (of Px). -/
namespace HkZ
open PySem PySem.Spec PyProof.Rows L2 He PySem.Px
/-! ### own exception classes -/
structure ExD where
  cls : Str
  qual : Str
  fld : Str
  txt : Str
  po : Ps
abbrev FnU : Type := Option (Str × Str × Arguments × FuncBody × Scope × Addr × Value × Value × Addr)
def fiOf (K : PySem.W.Frag) (x : Str) : Addr := ma K (ga K x) "__init__"
def fnU (K : PySem.W.Frag) (x : Str) : FnU := match K.lookup (fiOf K x) with
  | some ⟨_, _, .func fd, _⟩ => some (fd.name, fd.qualname, fd.params, fd.body, fd.scope, fd.globals, fd.defaults, fd.kwdefaults, fd.builtins)
  | _ => none
def ExD.val (d : ExD) : FnU := some ("__init__", d.qual, pA d.fld d.po.p1 d.po.p2, .stmts (pB d.fld d.txt d.po), pS d.fld, mainGlobals, .none, .none, builtinsNs)
/-- the class object -/
def clsB (K : PySem.W.Frag) (C : Addr) : Bool := match K.lookup C with
  | some ⟨.type "type", _, .cls cd, sl⟩ => (match cd.mro, sl.toList with
    | .ref C' :: bm, [_, _, _, _, some (.builtin n), _] => C' == C && (n == "ValueError.__new__" && (!cd.hasDel && (cd.hasDict && (PySem.HandSPX.refsVE bm && eqO (PySem.W.alongIn K "__init__" bm) (some (some (.builtin "ValueError.__init__")))))))
    | _, _ => false)
  | _ => false
theorem clsB_ok {K : PySem.W.Frag} {C : Addr} (h : clsB K C = true) : ∃ nm q N bs bm sn sub ab col dd k0 k1 k2 k3 k5, K.lookup C = some (excClassObj nm q C N bs bm true sn sub ab col dd k0 k1 k2 k3 k5 "ValueError.__new__") ∧ PySem.HandSPX.refsVE bm = true ∧ PySem.W.alongIn K "__init__" bm = some (some (.builtin "ValueError.__init__")) := by
  unfold clsB at h
  split at h
  · rename_i dd cd sl ho
    split at h
    · rename_i C' bm k0 k1 k2 k3 n k5 hm hs
      obtain ⟨a1, h⟩ := ba h
      obtain ⟨a2, h⟩ := ba h
      obtain ⟨a3, h⟩ := ba h
      obtain ⟨a4, h⟩ := ba h
      obtain ⟨a5, a6⟩ := ba h
      have e1 := beq_iff_eq.mp a1
      have e2 := beq_iff_eq.mp a2
      obtain ⟨nm, bs, mro, ns, qn, hd, sn, sub, ab, col, del⟩ := cd
      dsimp only at hm a3 a4
      have e3 : del = false := by simpa using a3
      subst hm e1 e2 e3 a4
      have hsl : sl = #[k0, k1, k2, k3, some (.builtin "ValueError.__new__"), k5] := by
        obtain ⟨l⟩ := sl
        simp only at hs
        rw [hs]
      subst hsl
      exact ⟨nm, qn, ns, bs, bm, sn, sub, ab, col, dd, k0, k1, k2, k3, k5, ho, a5, eqO_ok a6⟩
    · cases h
  · cases h
def fileB (o : Option Value) (file : Str) : Bool := match o with
  | some (.str f _) => file == f
  | _ => false
theorem fileB_ok {o : Option Value} {file : Str} (h : fileB o file = true) : ∃ f tf, o = some (.str f tf) ∧ (file == f) = true := by
  unfold fileB at h
  split at h
  · exact ⟨_, _, rfl, h⟩
  · cases h
/-- its __init__'s code object and cell -/
def clB (K : PySem.W.Frag) (C : Addr) (fI : Addr) (file qual : Str) : Bool := match K.lookup fI with
  | some ⟨_, _, .func fd, _⟩ => (match fd.closure, fd.code with
    | [(n, cc)], .ref cda => n == ("__class__" : Str) && (PySem.W.codeIn K (.ref cda) qual && ((match K.lookup cc with
      | some ⟨_, _, .cell (some (.ref D)), _⟩ => D == C
      | _ => false) && (match K.lookup cda with
      | some ⟨_, _, .fields vs, _⟩ => fileB vs[2]? file
      | _ => false)))
    | _, _ => false)
  | _ => false
def ExD.ok (K : PySem.W.Frag) (file : Str) (d : ExD) : Bool :=
  clsB K (ga K d.cls) && (eqO (PySem.W.findIn K (.ref (ga K d.cls)) "__setattr__") (some (some (.builtin "object.__setattr__"))) && (eqO (PySem.W.findIn K (.ref (ga K d.cls)) "__getattribute__") (some (some (.builtin "BaseException.__getattribute__"))) && (eqO (PySem.W.findIn K (.ref (ga K d.cls)) "__getattr__") (some none) &&
  (eqO (PySem.W.findIn K (.ref (ga K d.cls)) d.fld) (some none) && (eqO (PySem.W.findIn K (.ref (ga K d.cls)) "__init__") (some (some (.ref (fiOf K d.cls)))) && (decide (PySem.W.typeIn K (.ref (fiOf K d.cls)) = some (.type "function")) && (PySem.W.keepIn K (.ref (ga K d.cls)) &&
  (decide (PySem.W.subIn K (.ref (ga K d.cls)) (.type "BaseException") = some true) && (decide (PySem.W.subIn K (.ref (ga K d.cls)) (.type "ValueError") = some true) && (decide (PySem.W.mroIn K (ga K d.cls) (.ref (ga K d.cls)) = some true) && (decide (PySem.W.typeIn K (.ref (ga K d.cls)) = some (.type "type")) &&
  (PySem.W.hasDictIn K (ga K d.cls) && (eqO (PySem.W.nsIn K cStatics "thirdparty.any") (some none) && (decide (PySem.W.exmOne K (.ref (ga K d.cls)) (.ref (ga K d.cls)) = some true) && (eqO (PySem.W.nsIn K mainGlobals d.cls) (some (some (.ref (ga K d.cls)))) && clB K (ga K d.cls) (fiOf K d.cls) file d.qual)))))))))))))))
theorem ExD.px {P : Program} {K : PySem.W.Frag} {h : Heap} {mg : Str → Option Value} {d : ExD} (X : K.In h) (G : h.Ns mainGlobals mg) (hsup : mg "super" = none) (top : (P.main.scope.names.lookup ("super" : Str)).isSome = false) (O : OkF d.qual d.fld d.txt d.po) (e : fnU K d.cls = d.val) (c : d.ok K P.main.file = true) : PxT P K mg d.cls (ga K d.cls) d.fld := by
  unfold ExD.ok at c
  obtain ⟨c1, c⟩ := ba c
  obtain ⟨c2, c⟩ := ba c
  obtain ⟨c3, c⟩ := ba c
  obtain ⟨c4, c⟩ := ba c
  obtain ⟨c5, c⟩ := ba c
  obtain ⟨c6, c⟩ := ba c
  obtain ⟨c7, c⟩ := ba c
  obtain ⟨c8, c⟩ := ba c
  obtain ⟨c9, c⟩ := ba c
  obtain ⟨c10, c⟩ := ba c
  obtain ⟨c11, c⟩ := ba c
  obtain ⟨c12, c⟩ := ba c
  obtain ⟨c13, c⟩ := ba c
  obtain ⟨c14, c⟩ := ba c
  obtain ⟨c15, c⟩ := ba c
  obtain ⟨c16, c17⟩ := ba c
  refine ⟨PySem.W.mg_of X G (eqO_ok c16), hsup, of_decide_eq_true c15, fiOf K d.cls, d.qual, d.txt, d.po, ⟨clsB_ok c1, eqO_ok c2, eqO_ok c3, eqO_ok c4, eqO_ok c5, eqO_ok c6, of_decide_eq_true c7, c8, of_decide_eq_true c9, of_decide_eq_true c10, of_decide_eq_true c11, of_decide_eq_true c12, c13, eqO_ok c14, ?_, top⟩, O⟩
  unfold fnU at e
  unfold clB at c17
  cases q : K.lookup (fiOf K d.cls) with
  | none => rw [q] at c17; cases c17
  | some o =>
    obtain ⟨oc, od, dt, osl⟩ := o
    rw [q] at c17 e
    cases dt with
    | func fd =>
      obtain ⟨n1, n2, n3, n4, n5, n6, n7, n8, n9, n10, n11, n12, n13, n14, n15⟩ := fd
      have e2 : (some (n1, n2, n3, n4, n5, n6, n8, n9, n15) : FnU) = d.val := e
      unfold ExD.val at e2
      simp only [Option.some.injEq, Prod.mk.injEq] at e2
      obtain ⟨h1, h2, h3, h4, h5, h6, h7, h8, h9⟩ := e2
      subst h1 h2 h3 h4 h5 h6 h7 h8 h9
      dsimp only at c17
      split at c17
      · rename_i nn cc cda
        obtain ⟨k1, c17⟩ := ba c17
        obtain ⟨k2, c17⟩ := ba c17
        obtain ⟨k3, k4⟩ := ba c17
        have en := beq_iff_eq.mp k1
        subst en
        split at k3
        · rename_i cl cld D csl hcell
          have eD := beq_iff_eq.mp k3
          subst eD
          split at k4
          · rename_i ccl cdd vs ccs hco
            obtain ⟨f, tf, hvs, hf⟩ := fileB_ok k4
            refine ⟨oc, od, n10, n11, n12, cda, n14, osl, cc, ccl, cdd, vs, ccs, tf, f, cl, cld, csl, ?_, k2, hco, hvs, hf, hcell⟩
            rfl
          · cases k4
        · cases k3
      · cases c17
    | _ => cases c17
/-! ### the part looked at: by levels -/
def upG (g : Addr → Option Obj) (as : List Addr) : List Addr := as.flatMap fun a => match g a with
  | some o => refsD o
  | none => []
def lvG (g : Addr → Option Obj) : Nat → List Addr → List Addr
  | 0, as => as
  | n + 1, as => as ++ lvG g n (upG g as)
def asZ (g : Addr → Option Obj) (n : Nat) : List Addr := lvG g n [mainGlobals, cStatics]
/-! ### the Hook -/
structure Fx where
  fa : List Fa
  fn : List DefD
  ls : List (Str × List Dv)
  xs : List ExD
  file : Str
abbrev AlZ : Type := AlD × Bool × List FnU
def obsZ (F : Fx) (K : PySem.W.Frag) : AlZ := (obsD F.fa F.fn K, (F.ls.all fun l => lstB K l.1 l.2) && F.xs.all fun d => d.ok K F.file, F.xs.map fun d => fnU K d.cls)
def valZ (F : Fx) : AlZ := (valD F.fn, true, F.xs.map ExD.val)
def SaysZ (F : Fx) (K : PySem.W.Frag) : Prop := obsZ F K = valZ F
def obsZG (n : Nat) (F : Fx) (g : Addr → Option Obj) : AlZ := obsZ F (frG g (asZ g n))
def hookZ (n : Nat) (F : Fx) : PySem.W.Hook where
  α := AlZ
  obs := fun s => obsZG n F s.heap.get?
  val := fun _ => valZ F
  says := fun _ h => ∃ K : PySem.W.Frag, K.In h ∧ SaysZ F K
  of := fun _ _ e => ⟨_, frG_in, e⟩
  keeps := fun _ _ _ ⟨K, hK, c⟩ k => ⟨K, PySem.W.Frag.In.keeps hK k, c⟩
theorem obsZG_eq {n : Nat} {F : Fx} {g : Addr → Option Obj} {s : Shared} (h : ∀ a, g a = s.heap.get? a) : obsZG n F g = (hookZ n F).obs s := by
  have e : g = s.heap.get? := funext h
  rw [e] <;> rfl
section
variable {F : Fx} {K : PySem.W.Frag}
theorem SaysZ.d (c : SaysZ F K) : SaysD F.fa F.fn K := congrArg (fun z : AlZ => z.1) c
theorem SaysZ.fact (c : SaysZ F K) (i : Nat) {f : Fa} (h : F.fa[i]? = some f := by rfl) : f.ok K = true := c.d.fact i h
theorem SaysZ.def_ (c : SaysZ F K) (i : Nat) {d : DefD} (h : F.fn[i]? = some d := by rfl) : ∃ fd, FunD K d.name d.qual d.params d.body d.scope (d.dvs K) (d.kws K) (fAd K d.at_) fd := c.d.def_ i h
theorem SaysZ.bools (c : SaysZ F K) : ((F.ls.all fun l => lstB K l.1 l.2) && F.xs.all fun d => d.ok K F.file) = true := congrArg (fun z : AlZ => z.2.1) c
theorem SaysZ.lst (c : SaysZ F K) (i : Nat) {l : Str × List Dv} (h : F.ls[i]? = some l := by rfl) : lstB K l.1 l.2 = true := List.all_eq_true.mp (ba c.bools).1 l (List.mem_of_getElem? h)
theorem SaysZ.exc (c : SaysZ F K) (i : Nat) {d : ExD} (h : F.xs[i]? = some d := by rfl) : d.ok K F.file = true ∧ fnU K d.cls = d.val := by
  refine ⟨List.all_eq_true.mp (ba c.bools).2 d (List.mem_of_getElem? h), ?_⟩
  have e : F.xs.map (fun d => fnU K d.cls) = F.xs.map ExD.val := congrArg (fun z : AlZ => z.2.2) c
  have e2 : (F.xs.map fun d => fnU K d.cls)[i]? = (F.xs.map ExD.val)[i]? := by rw [e]
  rw [List.getElem?_map, List.getElem?_map, h] at e2
  exact Option.some.inj e2
end
end HkZ
/-! Pm1 -/
set_option maxHeartbeats 2000000
/-! Pm1: typed triples over HandS: monotone facts about a heap whose owned part is hidden. -/
namespace Pm
open PySem PySem.Spec PyProof.Rows L2

/-- a fact that stays when the heap grows -/
structure Pr where
  holds : Hp → Prop
  mono : ∀ {G G' : Hp}, L2.Same G G' → holds G → holds G'
def Pr.le (p q : Pr) : Prop := ∀ G, p.holds G → q.holds G
theorem Pr.le.refl (p : Pr) : p.le p := fun _ h => h
def pTop : Pr := ⟨fun _ => True, fun _ _ => trivial⟩
def pAnd (p q : Pr) : Pr := ⟨fun G => p.holds G ∧ q.holds G, fun s h => ⟨p.mono s h.1, q.mono s h.2⟩⟩
def pEx {α : Type} (p : α → Pr) : Pr := ⟨fun G => ∃ x, (p x).holds G, fun s ⟨x, h⟩ => ⟨x, (p x).mono s h⟩⟩
def pP (p : Prop) : Pr := ⟨fun _ => p, fun _ h => h⟩
def pAt (a : Addr) (o : HO) : Pr := ⟨fun G => G a = some o, fun s h => s _ _ h⟩
def pSq (K : PySem.W.Frag) (a : Addr) (xs : List V) : Pr := ⟨fun G => SqL K G a xs, fun s h => s.seq h⟩

/-- what is owned: addresses with what stands there -/
abbrev Own := List (Addr × HO)
def dom (A : Own) : List Addr := A.map (·.1)
def hide (A : Own) (H : Hp) : Hp := fun b => if b ∈ dom A then none else H b
structure Own.Ok (A : Own) (H : Hp) : Prop where
  at_ : ∀ p ∈ A, H p.1 = some p.2
  nd : (dom A).Nodup
theorem hide_of {A : Own} {H : Hp} {b : Addr} {o : HO} (h : hide A H b = some o) : H b = some o ∧ b ∉ dom A := by
  unfold hide at h
  split at h
  · cases h
  · exact ⟨h, by assumption⟩
theorem hide_out {A : Own} {H : Hp} {b : Addr} (h : b ∉ dom A) : hide A H b = H b := by
  unfold hide
  rw [if_neg h]
theorem hide_le {A : Own} {H : Hp} : L2.Same (hide A H) H := fun _ _ h => (hide_of h).1
theorem Own.Ok.some {A : Own} {H : Hp} (ok : A.Ok H) {a : Addr} (h : a ∈ dom A) : ∃ o, H a = some o := by
  obtain ⟨p, hp, rfl⟩ := List.mem_map.mp h
  exact ⟨_, ok.at_ p hp⟩
theorem Own.Ok.out {A : Own} {H : Hp} (ok : A.Ok H) {a : Addr} (h : H a = none) : a ∉ dom A := fun z => by
  obtain ⟨o, e⟩ := ok.some z
  rw [h] at e
  cases e
/-- a new object is laid -/
theorem Own.Ok.laid {A : Own} {H : Hp} (ok : A.Ok H) {p : Addr} (h : H p = none) (o : HO) : A.Ok (upd H p o) :=
  ⟨fun q hq => by rw [upd_ne (fun z => ok.out h (List.mem_map.mpr ⟨q, hq, z⟩))]; exact ok.at_ q hq, ok.nd⟩
theorem same_laid {A : Own} {H : Hp} (ok : A.Ok H) {p : Addr} (h : H p = none) (o : HO) : L2.Same (hide A H) (hide A (upd H p o)) := fun b u e => by
  obtain ⟨e1, e2⟩ := hide_of e
  rw [hide_out e2, upd_ne (ne_of_none e1 h)]
  exact e1
theorem hide_laid {A : Own} {H : Hp} (ok : A.Ok H) {p : Addr} (h : H p = none) (o : HO) : hide A (upd H p o) p = some o := by
  rw [hide_out (ok.out h), upd_same]

/-- the owned part stays, the rest grows -/
structure Ext (A : Own) (H H' : Hp) : Prop where
  ok : A.Ok H'
  same : L2.Same (hide A H) (hide A H')
theorem Ext.refl {A : Own} {H : Hp} (ok : A.Ok H) : Ext A H H := ⟨ok, L2.Same.refl _⟩
theorem Ext.trans {A : Own} {H H1 H2 : Hp} (a : Ext A H H1) (b : Ext A H1 H2) : Ext A H H2 := ⟨b.ok, a.same.trans b.same⟩
theorem Ext.laid {A : Own} {H : Hp} (ok : A.Ok H) {p : Addr} (h : H p = none) (o : HO) : Ext A H (upd H p o) := ⟨ok.laid h o, same_laid ok h o⟩

/-! ### semantic wishes -/
section
variable (X : Cx)
def Ev (e : Expr) (σ : L2.St) (H : Hp) (Q : VK) : Prop := ∀ (pins : List (Addr × Obj)) (s : Shared), Inv X pins σ H s → wpAny (model X.prog X.w) X.A (eval e X.env) (EP X pins σ Q) X.xe s
def Et (e : Expr) (σ : L2.St) (H : Hp) (Q : Bool → Hp → Prop) : Prop := ∀ (pins : List (Addr × Obj)) (s : Shared), Inv X pins σ H s → wpAny (model X.prog X.w) X.A (isTrue e X.env (eval e X.env)) (TP X pins σ Q) X.xe s
def Es (st : Stmt) (D : Ends) (σ : L2.St) (H : Hp) : Prop := ∀ (pins : List (Addr × Obj)) (s : Shared), Inv X pins σ H s → wpAny (model X.prog X.w) X.A (exec st X.env) (SP X pins D) X.xe s
def Ess (st : List Stmt) (D : Ends) (σ : L2.St) (H : Hp) : Prop := ∀ (pins : List (Addr × Obj)) (s : Shared), Inv X pins σ H s → wpAny (model X.prog X.w) X.A (execs st X.env) (SP X pins D) X.xe s
end
section
variable {X : Cx}
theorem evPE (e : Expr) : PE X e (Ev X e) := ⟨fun pins s σ H Q I h => h pins s I⟩
theorem etPT (e : Expr) : PT X e (Et X e) := ⟨fun pins s σ H Q I h => h pins s I⟩
theorem esPS (st : Stmt) : PS X st (Es X st) := ⟨fun pins s σ H D I h => h pins s I⟩
theorem essPSs (st : List Stmt) : PSs X st (Ess X st) := ⟨fun pins s σ H D I h => h pins s I⟩
theorem Ev.of {e : Expr} {t : TE} {σ : L2.St} {H : Hp} {Q : VK} (h : PE X e t) (q : t σ H Q) : Ev X e σ H Q := fun pins s I => h.run pins s σ H Q I q
theorem Et.of {e : Expr} {t : TT} {σ : L2.St} {H : Hp} {Q : Bool → Hp → Prop} (h : PT X e t) (q : t σ H Q) : Et X e σ H Q := fun pins s I => h.run pins s σ H Q I q
theorem Es.of {e : Stmt} {t : TS} {σ : L2.St} {H : Hp} {D : Ends} (h : PS X e t) (q : t D σ H) : Es X e D σ H := fun pins s I => h.run pins s σ H D I q
theorem Ess.of {e : List Stmt} {t : TS} {σ : L2.St} {H : Hp} {D : Ends} (h : PSs X e t) (q : t D σ H) : Ess X e D σ H := fun pins s I => h.run pins s σ H D I q
end

/-! ### triples -/
/-- e gives, from any heap with these facts and these owned objects, a value with R -/
def E3 (X : Cx) (A : Own) (Γ : Pr) (σ : L2.St) (e : Expr) (R : V → Pr) : Prop :=
  ∀ (H : Hp) (Q : VK), A.Ok H → Γ.holds (hide A H) → (∀ v H', Ext A H H' → (R v).holds (hide A H') → Q v H') → Ev X e σ H Q
/-- a test -/
def T3 (X : Cx) (A : Own) (Γ : Pr) (σ : L2.St) (e : Expr) (b : Bool) : Prop :=
  ∀ (H : Hp) (Q : Bool → Hp → Prop), A.Ok H → Γ.holds (hide A H) → (∀ H', Ext A H H' → Q b H') → Et X e σ H Q
/-- arguments -/
def A3 (X : Cx) (A : Own) (Γ : Pr) (σ : L2.St) (es : List Expr) (R : List V → Pr) : Prop :=
  ∀ (H : Hp) (Q : List V → Hp → Prop), A.Ok H → Γ.holds (hide A H) → (∀ vs H', Ext A H H' → (R vs).holds (hide A H') → Q vs H') →
    ∀ (pos : Pos) (pins : List (Addr × Obj)) (s : Shared), Inv X pins σ H s → wpAny (model X.prog X.w) X.A (spliced (backTo pos (starEach es X.env))) (AP X pins σ Q) X.xe s
end Pm
open PySem PySem.Spec L2 Pm in
@[irreducible, local semireducible] def Pm.B3 (X : Cx) (A : Own) (Γ : Pr) (σ : L2.St) (st : List Stmt) (D : Ends) : Prop := ∀ H : Hp, A.Ok H → Γ.holds (hide A H) → Ess X st D σ H
namespace Pm
open PySem PySem.Spec PyProof.Rows L2
def S3 (X : Cx) (A : Own) (Γ : Pr) (σ : L2.St) (st : Stmt) (D : Ends) : Prop := ∀ H : Hp, A.Ok H → Γ.holds (hide A H) → Es X st D σ H

/-! ### what values stand for -/
def RV (w : V) : V → Pr := fun v => pP (v = w)
abbrev RI (i : Int) : V → Pr := RV (.int i)
abbrev RB (b : Bool) : V → Pr := RV (.bl b)
abbrev RS (x : Str) : V → Pr := RV (.str x)
abbrev RN : V → Pr := RV .non
/-- an item for an item -/
def pAll {α β : Type} (R : α → β → Pr) : List α → List β → Pr
  | [], [] => pTop
  | x :: xs, v :: vs => pAnd (R x v) (pAll R xs vs)
  | _, _ => pP False
/-- a list object, a tuple object of such items -/
def RL {α : Type} (R : α → V → Pr) (xs : List α) : V → Pr := fun v => pEx fun a => pEx fun vs => pAnd (pP (v = .ref a)) (pAnd (pAt a (.lst vs)) (pAll R xs vs))
def RT {α : Type} (R : α → V → Pr) (xs : List α) : V → Pr := fun v => pEx fun a => pEx fun vs => pAnd (pP (v = .ref a)) (pAnd (pAt a (.tup vs)) (pAll R xs vs))
/-- a pair, a triple -/
def RT2 {α β : Type} (R1 : α → V → Pr) (R2 : β → V → Pr) (x : α × β) : V → Pr := fun v => pEx fun a => pEx fun v1 => pEx fun v2 => pAnd (pP (v = .ref a)) (pAnd (pAt a (.tup [v1, v2])) (pAnd (R1 x.1 v1) (R2 x.2 v2)))
theorem pAll_len {α β : Type} {R : α → β → Pr} {G : Hp} : ∀ {xs : List α} {vs : List β}, (pAll R xs vs).holds G → xs.length = vs.length
  | [], [], _ => rfl
  | _ :: xs, _ :: vs, h => congrArg Nat.succ (pAll_len (xs := xs) (vs := vs) h.2)
theorem pAll_get {α β : Type} {R : α → β → Pr} {G : Hp} : ∀ {xs : List α} {vs : List β} {i : Nat} {x : α}, (pAll R xs vs).holds G → xs[i]? = some x → ∃ v, vs[i]? = some v ∧ (R x v).holds G
  | _ :: _, v :: _, 0, _, h, e => by
    simp at e
    subst e
    exact ⟨v, rfl, h.1⟩
  | _ :: xs, _ :: vs, i + 1, x, h, e => by
    obtain ⟨v, e1, e2⟩ := pAll_get (xs := xs) (vs := vs) (i := i) h.2 (by simpa using e)
    exact ⟨v, by simpa using e1, e2⟩
theorem pAll_app {α β : Type} {R : α → β → Pr} {G : Hp} : ∀ {xs ys : List α} {vs ws : List β}, (pAll R xs vs).holds G → (pAll R ys ws).holds G → (pAll R (xs ++ ys) (vs ++ ws)).holds G
  | [], _, [], _, _, h => h
  | _ :: _, _, _ :: _, _, h1, h => ⟨h1.1, pAll_app h1.2 h⟩
theorem pAll_one {α β : Type} {R : α → β → Pr} {G : Hp} {x : α} {v : β} (h : (R x v).holds G) : (pAll R [x] [v]).holds G := ⟨h, trivial⟩
/-- values that are what they stand for -/
theorem pAll_rv {α : Type} {f : α → V} {G : Hp} : ∀ {xs : List α} {vs : List V}, (pAll (fun x => RV (f x)) xs vs).holds G → vs = xs.map f
  | [], [], _ => rfl
  | x :: xs, v :: vs, h => by
    have e1 : v = f x := h.1
    rw [e1, pAll_rv (xs := xs) (vs := vs) h.2]
    rfl
theorem pAll_of {α : Type} {f : α → V} {G : Hp} : ∀ {xs : List α}, (pAll (fun x => RV (f x)) xs (xs.map f)).holds G
  | [] => trivial
  | _ :: xs => ⟨rfl, pAll_of (xs := xs)⟩
end Pm
/-! Pm2 -/
set_option maxHeartbeats 2000000
/-! Pm2: expressions. -/
namespace Pm
open PySem PySem.Spec L2

/-! ### facts -/
theorem Pr.le.trans {p q r : Pr} (a : p.le q) (b : q.le r) : p.le r := fun G h => b G (a G h)
def pSame (G0 : Hp) : Pr := ⟨fun G => L2.Same G0 G, fun s h => h.trans s⟩
def pOwn (B : Own) : Pr := ⟨fun G => ∀ p ∈ B, G p.1 = some p.2, fun s h p hp => s _ _ (h p hp)⟩
def PN : List V → Pr := fun vs => pP (vs = [])
def PC (R : V → Pr) (Ps : List V → Pr) : List V → Pr := fun vs => pEx fun v => pEx fun r => pAnd (pP (vs = v :: r)) (pAnd (R v) (Ps r))

section
variable {X : Cx} {A : Own} {Γ Δ : Pr} {σ : L2.St} {a b c e : Expr} {R Ra Rb Rc : V → Pr} {pos : Pos}

theorem E3.imp (h : E3 X A Γ σ e Ra) (i : ∀ v, (pAnd Γ (Ra v)).le (R v)) : E3 X A Γ σ e R := fun H Q ok g k => h H Q ok g fun v H' x r => k v H' x (i v _ ⟨Γ.mono x.same g, r⟩)
theorem E3.pre (h : E3 X A Δ σ e R) (i : Γ.le Δ) : E3 X A Γ σ e R := fun H Q ok g k => h H Q ok (i _ g) k
theorem T3.pre {t : Bool} (h : T3 X A Δ σ e t) (i : Γ.le Δ) : T3 X A Γ σ e t := fun H Q ok g k => h H Q ok (i _ g) k
/-- a fact that has no heap in it, taken out -/
theorem E3.fact {p : Prop} (i : ∀ G, Γ.holds G → p) (h : p → E3 X A Γ σ e R) : E3 X A Γ σ e R := fun H Q ok g k => h (i _ g) H Q ok g k

/-! ### names, constants -/
theorem e_int {i : Int} {j pos} : E3 X A Γ σ (.Constant (.int i) j pos) (RI i) := fun H Q ok g k => Ev.of pe_int (k _ _ (Ext.refl ok) rfl)
theorem e_bl {i : Bool} {j pos} : E3 X A Γ σ (.Constant (.bool i) j pos) (RB i) := fun H Q ok g k => Ev.of pe_bl (k _ _ (Ext.refl ok) rfl)
theorem e_str {i : Str} {j pos} : E3 X A Γ σ (.Constant (.str i) j pos) (RS i) := fun H Q ok g k => Ev.of pe_str (k _ _ (Ext.refl ok) rfl)
theorem e_non {j pos} : E3 X A Γ σ (.Constant .none j pos) RN := fun H Q ok g k => Ev.of pe_non (k _ _ (Ext.refl ok) rfl)
/-- a name of the def, with what is known of its value -/
theorem e_var (i : Nat) {x : Str} {v : V} (h : Γ.le (R v)) (hs : σ[i]? = some (some v) := by rfl) (hN : X.N[i]? = some x := by rfl) (hv : Vis X.env.scope x := by first | exact Or.inl rfl | exact Or.inr (Or.inl rfl) | exact Or.inr (Or.inr rfl))
    (hd : (x == ("__debug__" : Str)) = false := by decide) (hcd : (x == ("__classdict__" : Str)) = false := by decide) : E3 X A Γ σ (.Name x pos) R :=
  fun H Q ok g k => Ev.of (pe_var hN hv hd hcd) ⟨v, hs, k _ _ (Ext.refl ok) (h _ g)⟩
/-- .. its value itself -/
theorem e_v (i : Nat) {x : Str} {v : V} (hs : σ[i]? = some (some v) := by rfl) (hN : X.N[i]? = some x := by rfl) (hv : Vis X.env.scope x := by first | exact Or.inl rfl | exact Or.inr (Or.inl rfl) | exact Or.inr (Or.inr rfl))
    (hd : (x == ("__debug__" : Str)) = false := by decide) (hcd : (x == ("__classdict__" : Str)) = false := by decide) : E3 X A Γ σ (.Name x pos) (RV v) := e_var i (fun _ _ => rfl) hs hN hv hd hcd
/-- a module's constant -/
theorem e_glob {x : Str} {v : V} {u : Value} (hm : X.mg x = some u) (r : RelV v u) (h : Γ.le (R v)) (hg : Gl X x := by rfl) (hd : (x == ("__debug__" : Str)) = false := by decide) : E3 X A Γ σ (.Name x pos) R :=
  fun H Q ok g k => Ev.of (pe_glob hg hm r hd) (k _ _ (Ext.refl ok) (h _ g))
theorem e_gI {x : Str} {i : Int} (hm : ∃ t, X.mg x = some (.int i t)) (hg : Gl X x := by rfl) (hd : (x == ("__debug__" : Str)) = false := by decide) : E3 X A Γ σ (.Name x pos) (RI i) := by
  obtain ⟨t, hm⟩ := hm
  exact e_glob (v := .int i) hm ⟨t, rfl⟩ (fun _ _ => rfl) hg hd
theorem e_gS {x z : Str} (hm : ∃ t, X.mg x = some (.str z t)) (hg : Gl X x := by rfl) (hd : (x == ("__debug__" : Str)) = false := by decide) : E3 X A Γ σ (.Name x pos) (RS z) := by
  obtain ⟨t, hm⟩ := hm
  exact e_glob (v := .str z) hm ⟨t, rfl⟩ (fun _ _ => rfl) hg hd
/-- a list that may be read: of the module, or tracked -/
def RQ (K : PySem.W.Frag) (xs : List V) : V → Pr := fun v => pEx fun a => pAnd (pP (v = .ref a)) (pSq K a xs)
theorem e_gL {x : Str} {a : Addr} {xs : List V} (hm : X.mg x = some (.ref a)) (hq : ∀ H, SqL X.K H a xs) (hg : Gl X x := by rfl) (hd : (x == ("__debug__" : Str)) = false := by decide) : E3 X A Γ σ (.Name x pos) (RQ X.K xs) :=
  e_glob (v := .ref a) hm rfl (fun G _ => ⟨a, rfl, hq G⟩) hg hd

/-! ### operators -/
/-- what an operator's reading asks, told of the facts -/
def Op3 (A : Own) (Γ : Pr) (Ra Rb : V → Pr) (r : R2) (R : V → Pr) : Prop :=
  ∀ x y H (Q : VK), A.Ok H → Γ.holds (hide A H) → (Ra x).holds (hide A H) → (Rb y).holds (hide A H) → (∀ v H', Ext A H H' → (R v).holds (hide A H') → Q v H') → r x y H Q
theorem run2 {r : R2} (hr : Op3 A Γ Ra Rb r R) (ha : E3 X A Γ σ a Ra) (hb : E3 X A Γ σ b Rb) {H : Hp} {Q : VK} (ok : A.Ok H) (g : Γ.holds (hide A H)) (k : ∀ v H', Ext A H H' → (R v).holds (hide A H') → Q v H') : tOp r (Ev X a) (Ev X b) σ H Q :=
  ha H _ ok g fun x H1 x1 r1 => hb H1 _ x1.ok (Γ.mono x1.same g) fun y H2 x2 r2 => hr x y H2 Q x2.ok (Γ.mono (x1.same.trans x2.same) g) ((Ra x).mono x2.same r1) r2 fun v H' x3 r3 => k v H' ((x1.trans x2).trans x3) r3
theorem e_bin {op : Operator} {r : R2} (ho : OpR X (binaryOp op) r) (hr : Op3 A Γ Ra Rb r R) (ha : E3 X A Γ σ a Ra) (hb : E3 X A Γ σ b Rb) : E3 X A Γ σ (.BinOp a op b pos) R :=
  fun H Q ok g k => Ev.of (pe_op ho (evPE a) (evPE b)) (run2 hr ha hb ok g k)
theorem e_cmp {op : CmpOp} {r : R2} (ho : OpR X (compareOp op) r) (hm : behindInMarks op b = false) (hr : Op3 A Γ Ra Rb r R) (ha : E3 X A Γ σ a Ra) (hb : E3 X A Γ σ b Rb) : E3 X A Γ σ (.Compare a [op] [b] pos) R :=
  fun H Q ok g k => Ev.of (pe_cmpR ho (evPE a) (evPE b) hm) (run2 hr ha hb ok g k)
theorem t_cmp {op : CmpOp} {r : R2} {t : Bool} (ho : OpR X (compareOp op) r) (hm : behindInMarks op b = false) (hr : Op3 A Γ Ra Rb r (RB t)) (ha : E3 X A Γ σ a Ra) (hb : E3 X A Γ σ b Rb) : T3 X A Γ σ (.Compare a [op] [b] pos) t :=
  fun H Q ok g k => Et.of (pt_cmpR ho (evPE a) (evPE b) hm) (run2 (R := RB t) hr ha hb ok g fun v H' x r => ⟨t, r, k _ x⟩)
theorem e_ix {r : R2} (ho : IxR X r) (hr : Op3 A Γ Ra Rb r R) (ha : E3 X A Γ σ a Ra) (hb : E3 X A Γ σ b Rb) (hs : PlainIx b := by intro _ _; rfl) : E3 X A Γ σ (.Subscript a b pos) R :=
  fun H Q ok g k => Ev.of (pe_ix ho (evPE a) (evPE b) hs) (run2 hr ha hb ok g k)

/-! ### ints -/
section
variable {i j : Int}
theorem o_I0 {g : Int → Int → V} {w : V} (e : g i j = w) : Op3 A Γ (RI i) (RI j) (rI0 g) (RV w) := fun x y H Q ok _ hx hy k => ⟨i, j, hx, hy, k _ _ (Ext.refl ok) e⟩
theorem o_I {C : Int → Int → Prop} {g : Int → Int → V} {w : V} (hc : C i j) (e : g i j = w) : Op3 A Γ (RI i) (RI j) (rI C g) (RV w) := fun x y H Q ok _ hx hy k => ⟨i, j, hx, hy, hc, k _ _ (Ext.refl ok) e⟩
theorem e_add (ha : E3 X A Γ σ a (RI i)) (hb : E3 X A Γ σ b (RI j)) : E3 X A Γ σ (.BinOp a .Add b pos) (RI (i + j)) := e_bin op_add (o_I0 rfl) ha hb
theorem e_sub (ha : E3 X A Γ σ a (RI i)) (hb : E3 X A Γ σ b (RI j)) : E3 X A Γ σ (.BinOp a .Sub b pos) (RI (i - j)) := e_bin op_sub (o_I0 rfl) ha hb
theorem e_mul (ha : E3 X A Γ σ a (RI i)) (hb : E3 X A Γ σ b (RI j)) (hc : CMul i j) : E3 X A Γ σ (.BinOp a .Mult b pos) (RI (i * j)) := e_bin op_mul (o_I hc rfl) ha hb
theorem e_mod (ha : E3 X A Γ σ a (RI i)) (hb : E3 X A Γ σ b (RI j)) (hc : 0 < j := by decide) : E3 X A Γ σ (.BinOp a .Mod b pos) (RI (i % j)) := e_bin op_mod (o_I hc rfl) ha hb
theorem e_fdiv (ha : E3 X A Γ σ a (RI i)) (hb : E3 X A Γ σ b (RI j)) (hc : CDiv i j := by exact ⟨by decide, by decide⟩) : E3 X A Γ σ (.BinOp a .FloorDiv b pos) (RI (i / j)) := e_bin op_fdiv (o_I hc rfl) ha hb
theorem e_shl (ha : E3 X A Γ σ a (RI i)) (hb : E3 X A Γ σ b (RI j)) (hc : CPow i j) : E3 X A Γ σ (.BinOp a .LShift b pos) (RI (i * 2 ^ j.toNat)) := e_bin op_shl (o_I hc rfl) ha hb
theorem e_shr (ha : E3 X A Γ σ a (RI i)) (hb : E3 X A Γ σ b (RI j)) (hc : 0 ≤ j) : E3 X A Γ σ (.BinOp a .RShift b pos) (RI (i / 2 ^ j.toNat)) := e_bin op_shr (o_I hc rfl) ha hb
theorem e_lt (ha : E3 X A Γ σ a (RI i)) (hb : E3 X A Γ σ b (RI j)) : E3 X A Γ σ (.Compare a [.Lt] [b] pos) (RB (decide (i < j))) := e_cmp op_lt (nomark _) (o_I0 rfl) ha hb
theorem e_le (ha : E3 X A Γ σ a (RI i)) (hb : E3 X A Γ σ b (RI j)) : E3 X A Γ σ (.Compare a [.LtE] [b] pos) (RB (decide (i ≤ j))) := e_cmp op_le (nomark _) (o_I0 rfl) ha hb
theorem e_gt (ha : E3 X A Γ σ a (RI i)) (hb : E3 X A Γ σ b (RI j)) : E3 X A Γ σ (.Compare a [.Gt] [b] pos) (RB (decide (i > j))) := e_cmp op_gt (nomark _) (o_I0 rfl) ha hb
theorem e_ge (ha : E3 X A Γ σ a (RI i)) (hb : E3 X A Γ σ b (RI j)) : E3 X A Γ σ (.Compare a [.GtE] [b] pos) (RB (decide (i ≥ j))) := e_cmp op_ge (nomark _) (o_I0 rfl) ha hb
theorem t_lt (ha : E3 X A Γ σ a (RI i)) (hb : E3 X A Γ σ b (RI j)) : T3 X A Γ σ (.Compare a [.Lt] [b] pos) (decide (i < j)) := t_cmp op_lt (nomark _) (o_I0 rfl) ha hb
theorem t_le (ha : E3 X A Γ σ a (RI i)) (hb : E3 X A Γ σ b (RI j)) : T3 X A Γ σ (.Compare a [.LtE] [b] pos) (decide (i ≤ j)) := t_cmp op_le (nomark _) (o_I0 rfl) ha hb
theorem t_gt (ha : E3 X A Γ σ a (RI i)) (hb : E3 X A Γ σ b (RI j)) : T3 X A Γ σ (.Compare a [.Gt] [b] pos) (decide (i > j)) := t_cmp op_gt (nomark _) (o_I0 rfl) ha hb
theorem t_ge (ha : E3 X A Γ σ a (RI i)) (hb : E3 X A Γ σ b (RI j)) : T3 X A Γ σ (.Compare a [.GtE] [b] pos) (decide (i ≥ j)) := t_cmp op_ge (nomark _) (o_I0 rfl) ha hb
end
/-- scalars -/
theorem o_eq {x y : V} (hs : scal x y = true) : Op3 A Γ (RV x) (RV y) rEq (RB (decide (x = y))) := fun u w H Q ok _ hx hy k => by
  have e1 : u = x := hx
  have e2 : w = y := hy
  subst e1 e2
  exact ⟨hs, k _ _ (Ext.refl ok) rfl⟩
theorem o_ne {x y : V} (hs : scal x y = true) : Op3 A Γ (RV x) (RV y) rNe (RB (!decide (x = y))) := fun u w H Q ok _ hx hy k => by
  have e1 : u = x := hx
  have e2 : w = y := hy
  subst e1 e2
  exact ⟨hs, k _ _ (Ext.refl ok) rfl⟩
theorem e_eq {x y : V} (ha : E3 X A Γ σ a (RV x)) (hb : E3 X A Γ σ b (RV y)) (hs : scal x y = true := by rfl) : E3 X A Γ σ (.Compare a [.Eq] [b] pos) (RB (decide (x = y))) := e_cmp op_eq (nomark _) (o_eq hs) ha hb
theorem t_eq {x y : V} (ha : E3 X A Γ σ a (RV x)) (hb : E3 X A Γ σ b (RV y)) (hs : scal x y = true := by rfl) : T3 X A Γ σ (.Compare a [.Eq] [b] pos) (decide (x = y)) := t_cmp op_eq (nomark _) (o_eq hs) ha hb
theorem e_ne {x y : V} (ha : E3 X A Γ σ a (RV x)) (hb : E3 X A Γ σ b (RV y)) (hs : scal x y = true := by rfl) : E3 X A Γ σ (.Compare a [.NotEq] [b] pos) (RB (!decide (x = y))) := e_cmp op_ne (nomark _) (o_ne hs) ha hb
theorem t_ne {x y : V} (ha : E3 X A Γ σ a (RV x)) (hb : E3 X A Γ σ b (RV y)) (hs : scal x y = true := by rfl) : T3 X A Γ σ (.Compare a [.NotEq] [b] pos) (!decide (x = y)) := t_cmp op_ne (nomark _) (o_ne hs) ha hb

/-! ### and, or, not, if -/
/-- a truth value's expression as a test -/
theorem t_of {t : Bool} (h : E3 X A Γ σ e (RB t)) (he : ∀ whole, isTrue e X.env whole = (do let v ← whole; standAt e.pos; holding [v] (truthy v)) := by intro _; rfl) : T3 X A Γ σ e t :=
  fun H Q ok g k => Et.of (pt_val (evPE e) he) (h H _ ok g fun v H' x r => ⟨t, r, k _ x⟩)
theorem t_not {t : Bool} (h : T3 X A Γ σ a t) : T3 X A Γ σ (.UnaryOp .Not a pos) (!t) := fun H Q ok g k => Et.of (pt_not (etPT a)) (h H _ ok g fun H' x => k _ x)
theorem e_not {t : Bool} (h : E3 X A Γ σ a (RB t)) : E3 X A Γ σ (.UnaryOp .Not a pos) (RB (!t)) := fun H Q ok g k => Ev.of (pe_not (evPE a)) (h H _ ok g fun v H' x r => ⟨t, r, k _ _ x rfl⟩)
theorem e_if {t : Bool} (hc : T3 X A Γ σ c t) (ha : t = true → E3 X A Γ σ a R) (hb : t = false → E3 X A Γ σ b R) : E3 X A Γ σ (.IfExp c a b pos) R := fun H Q ok g k =>
  Ev.of (pe_ifExp (etPT c) (evPE a) (evPE b)) (hc H _ ok g fun H' x => by
    cases t with
    | true => exact iteT (ha rfl H' Q x.ok (Γ.mono x.same g) fun v H2 y r => k v H2 (x.trans y) r)
    | false => exact iteF (hb rfl H' Q x.ok (Γ.mono x.same g) fun v H2 y r => k v H2 (x.trans y) r))
/-- a semantic and, or: W is what PW asks -/
def W3 (X : Cx) (A : Own) (Γ : Pr) (σ : L2.St) (e : Expr) (b : Bool) : Prop := ∀ (H : Hp) (Q : Bool → Hp → Prop), A.Ok H → Γ.holds (hide A H) → (∀ H', Ext A H H' → Q b H') →
  ∀ (whole : Sem Value) (pins : List (Addr × Obj)) (s : Shared), Inv X pins σ H s → wpAny (model X.prog X.w) X.A (isTrue e X.env whole) (TP X pins σ Q) X.xe s
def Ew (X : Cx) (e : Expr) (σ : L2.St) (H : Hp) (Q : Bool → Hp → Prop) : Prop := ∀ (whole : Sem Value) (pins : List (Addr × Obj)) (s : Shared), Inv X pins σ H s → wpAny (model X.prog X.w) X.A (isTrue e X.env whole) (TP X pins σ Q) X.xe s
theorem ewPW (e : Expr) : PW X e (Ew X e) := ⟨fun wh pins s σ H Q I h => h wh pins s I⟩
theorem W3.t {t : Bool} (h : W3 X A Γ σ e t) : T3 X A Γ σ e t := fun H Q ok g k pins s I => h H Q ok g k _ pins s I
theorem w_and1 {t : Bool} (h : T3 X A Γ σ a t) : W3 X A Γ σ (.BoolOp .And [a] pos) t := fun H Q ok g k wh pins s I => (pw_and1 (etPT a)).run wh pins s σ H Q I (h H Q ok g k)
theorem w_or1 {t : Bool} (h : T3 X A Γ σ a t) : W3 X A Γ σ (.BoolOp .Or [a] pos) t := fun H Q ok g k wh pins s I => (pw_or1 (etPT a)).run wh pins s σ H Q I (h H Q ok g k)
theorem w_and {rest : List Expr} {t u : Bool} (h : T3 X A Γ σ a t) (hb : t = true → W3 X A Γ σ (.BoolOp .And (b :: rest) pos) u) : W3 X A Γ σ (.BoolOp .And (a :: b :: rest) pos) (t && u) := fun H Q ok g k wh pins s I =>
  (pw_and (etPT a) (ewPW (.BoolOp .And (b :: rest) pos))).run wh pins s σ H Q I (h H _ ok g fun H' x => by
    cases t with
    | true => exact iteT (hb rfl H' Q x.ok (Γ.mono x.same g) fun H2 y => k H2 (x.trans y))
    | false => exact iteF (k _ x))
theorem w_or {rest : List Expr} {t u : Bool} (h : T3 X A Γ σ a t) (hb : t = false → W3 X A Γ σ (.BoolOp .Or (b :: rest) pos) u) : W3 X A Γ σ (.BoolOp .Or (a :: b :: rest) pos) (t || u) := fun H Q ok g k wh pins s I =>
  (pw_or (etPT a) (ewPW (.BoolOp .Or (b :: rest) pos))).run wh pins s σ H Q I (h H _ ok g fun H' x => by
    cases t with
    | true => exact iteT (k _ x)
    | false => exact iteF (hb rfl H' Q x.ok (Γ.mono x.same g) fun H2 y => k H2 (x.trans y)))
theorem t_and {t u : Bool} (h : T3 X A Γ σ a t) (hb : t = true → T3 X A Γ σ b u) : T3 X A Γ σ (.BoolOp .And [a, b] pos) (t && u) := (w_and h fun e => w_and1 (hb e)).t
theorem t_or {t u : Bool} (h : T3 X A Γ σ a t) (hb : t = false → T3 X A Γ σ b u) : T3 X A Γ σ (.BoolOp .Or [a, b] pos) (t || u) := (w_or h fun e => w_or1 (hb e)).t
theorem t_and3 {t u w : Bool} (h : T3 X A Γ σ a t) (hb : t = true → T3 X A Γ σ b u) (hc : t = true → u = true → T3 X A Γ σ c w) : T3 X A Γ σ (.BoolOp .And [a, b, c] pos) (t && (u && w)) := (w_and h fun e => w_and (hb e) fun e2 => w_and1 (hc e e2)).t
theorem t_or3 {t u w : Bool} (h : T3 X A Γ σ a t) (hb : t = false → T3 X A Γ σ b u) (hc : t = false → u = false → T3 X A Γ σ c w) : T3 X A Γ σ (.BoolOp .Or [a, b, c] pos) (t || (u || w)) := (w_or h fun e => w_or (hb e) fun e2 => w_or1 (hc e e2)).t
/-- .. as values -/
theorem e_one {op} {t : Bool} (h : E3 X A Γ σ a (RB t)) : E3 X A Γ σ (.BoolOp op [a] pos) (RB t) := fun H Q ok g k => Ev.of (pe_one (evPE a)) (h H Q ok g k)
theorem e_andL {rest : List Expr} {t u : Bool} (h : E3 X A Γ σ a (RB t)) (hb : t = true → E3 X A Γ σ (.BoolOp .And (b :: rest) pos) (RB u)) : E3 X A Γ σ (.BoolOp .And (a :: b :: rest) pos) (RB (t && u)) := fun H Q ok g k =>
  Ev.of (pe_and (evPE a) (evPE _)) (h H _ ok g fun v H' x r => ⟨t, r, by
    cases t with
    | true => exact iteT (hb rfl H' Q x.ok (Γ.mono x.same g) fun v H2 y r => k v H2 (x.trans y) r)
    | false => exact iteF (k _ _ x rfl)⟩)
theorem e_orL {rest : List Expr} {t u : Bool} (h : E3 X A Γ σ a (RB t)) (hb : t = false → E3 X A Γ σ (.BoolOp .Or (b :: rest) pos) (RB u)) : E3 X A Γ σ (.BoolOp .Or (a :: b :: rest) pos) (RB (t || u)) := fun H Q ok g k =>
  Ev.of (pe_or (evPE a) (evPE _)) (h H _ ok g fun v H' x r => ⟨t, r, by
    cases t with
    | true => exact iteT (k _ _ x rfl)
    | false => exact iteF (hb rfl H' Q x.ok (Γ.mono x.same g) fun v H2 y r => k v H2 (x.trans y) r)⟩)
theorem e_and {t u : Bool} (h : E3 X A Γ σ a (RB t)) (hb : t = true → E3 X A Γ σ b (RB u)) : E3 X A Γ σ (.BoolOp .And [a, b] pos) (RB (t && u)) := e_andL h fun e => e_one (hb e)
theorem e_or {t u : Bool} (h : E3 X A Γ σ a (RB t)) (hb : t = false → E3 X A Γ σ b (RB u)) : E3 X A Γ σ (.BoolOp .Or [a, b] pos) (RB (t || u)) := e_orL h fun e => e_one (hb e)
/-- low <= x <= high -/
theorem e_chain {op op' : CmpOp} {g g' : Int → Int → Bool} {i j l : Int} (ho : OpR X (compareOp op) (rI0 fun i j => .bl (g i j))) (ho' : OpR X (compareOp op') (rI0 fun i j => .bl (g' i j))) (ha : E3 X A Γ σ a (RI i)) (hb : E3 X A Γ σ b (RI j)) (hc : E3 X A Γ σ c (RI l))
    (hm : lastMarks [op, op'] [b, c] = false := by with_unfolding_all rfl) : E3 X A Γ σ (.Compare a [op, op'] [b, c] pos) (RB (g i j && g' j l)) := fun H Q ok gm k =>
  Ev.of (pe_chain ho ho' (evPE a) (evPE b) (evPE c) hm) (ha H _ ok gm fun x H1 x1 r1 => hb H1 _ x1.ok (Γ.mono x1.same gm) fun y H2 x2 r2 => ⟨i, j, r1, r2, g i j, rfl, by
    cases e : g i j with
    | true => exact iteT (hc H2 _ x2.ok (Γ.mono (x1.same.trans x2.same) gm) fun z H3 x3 r3 => ⟨j, l, r2, r3, k _ _ ((x1.trans x2).trans x3) (by rw [e]; rfl)⟩)
    | false => exact iteF (k _ _ (x1.trans x2) (by rw [e]; rfl))⟩)
theorem t_chain {op op' : CmpOp} {g g' : Int → Int → Bool} {i j l : Int} (ho : OpR X (compareOp op) (rI0 fun i j => .bl (g i j))) (ho' : OpR X (compareOp op') (rI0 fun i j => .bl (g' i j))) (ha : E3 X A Γ σ a (RI i)) (hb : E3 X A Γ σ b (RI j)) (hc : E3 X A Γ σ c (RI l))
    (hm : lastMarks [op, op'] [b, c] = false := by with_unfolding_all rfl) : T3 X A Γ σ (.Compare a [op, op'] [b, c] pos) (g i j && g' j l) := fun H Q ok gm k =>
  Et.of (pt_chain ho ho' (evPE a) (evPE b) (evPE c) hm) (ha H _ ok gm fun x H1 x1 r1 => hb H1 _ x1.ok (Γ.mono x1.same gm) fun y H2 x2 r2 => ⟨i, j, r1, r2, g i j, rfl, by
    cases e : g i j with
    | true => exact iteT (hc H2 _ x2.ok (Γ.mono (x1.same.trans x2.same) gm) fun z H3 x3 r3 => ⟨j, l, r2, r3, _, rfl, by have q := k _ ((x1.trans x2).trans x3); rw [e] at q; exact q⟩)
    | false => exact iteF ⟨_, rfl, by have q := k _ (x1.trans x2); rw [e] at q; exact q⟩⟩)
theorem e_isN {w : V} (ha : E3 X A Γ σ a (RV w)) : E3 X A Γ σ (.Compare a [.Is] [.Constant .none j p2] pos) (RB (decide (w = .non))) := fun H Q ok g k =>
  Ev.of (pe_cmp (pc_isN (evPE a)) rfl) (ha H _ ok g fun v H' x r => by cases (show v = w from r); exact k _ _ x rfl)
theorem t_isN {w : V} (ha : E3 X A Γ σ a (RV w)) : T3 X A Γ σ (.Compare a [.Is] [.Constant .none j p2] pos) (decide (w = .non)) := fun H Q ok g k =>
  Et.of (pt_cmp (pc_isN (evPE a)) rfl) (ha H _ ok g fun v H' x r => by cases (show v = w from r); exact ⟨_, rfl, k _ x⟩)
theorem e_notN {w : V} (ha : E3 X A Γ σ a (RV w)) : E3 X A Γ σ (.Compare a [.IsNot] [.Constant .none j p2] pos) (RB (!decide (w = .non))) := fun H Q ok g k =>
  Ev.of (pe_cmp (pc_notN (evPE a)) rfl) (ha H _ ok g fun v H' x r => by cases (show v = w from r); exact k _ _ x rfl)
theorem t_notN {w : V} (ha : E3 X A Γ σ a (RV w)) : T3 X A Γ σ (.Compare a [.IsNot] [.Constant .none j p2] pos) (!decide (w = .non)) := fun H Q ok g k =>
  Et.of (pt_cmp (pc_notN (evPE a)) rfl) (ha H _ ok g fun v H' x r => by cases (show v = w from r); exact ⟨_, rfl, k _ x⟩)

/-! ### arguments, displays -/
theorem a_nil : A3 X A Γ σ [] PN := fun H Q ok g k pos pins s I => (pa_nil (X := X)).run pos pins s σ H Q I (k _ _ (Ext.refl ok) rfl)
/-- the semantic reading of arguments -/
def Ea (X : Cx) (es : List Expr) (σ : L2.St) (H : Hp) (Q : List V → Hp → Prop) : Prop := ∀ (pos : Pos) (pins : List (Addr × Obj)) (s : Shared), Inv X pins σ H s → wpAny (model X.prog X.w) X.A (spliced (backTo pos (starEach es X.env))) (AP X pins σ Q) X.xe s
theorem eaPA (es : List Expr) : PA X es (Ea X es) := ⟨fun pos pins s σ H Q I h => h pos pins s I⟩
theorem a_cons {es : List Expr} {Ps : List V → Pr} (h : E3 X A Γ σ e R) (hr : A3 X A Γ σ es Ps) (hs : starEach (e :: es) X.env = (false, eval e X.env) :: starEach es X.env := by rfl) : A3 X A Γ σ (e :: es) (PC R Ps) :=
  fun H Q ok g k pos pins s I => (pa_cons (evPE e) (eaPA es) hs).run pos pins s σ H Q I (h H _ ok g fun x H1 x1 r1 => hr H1 _ x1.ok (Γ.mono x1.same g) fun xs H2 x2 r2 => k _ _ (x1.trans x2) ⟨x, xs, rfl, (R x).mono x2.same r1, r2⟩)
theorem A3.ea {es : List Expr} {Ps : List V → Pr} (h : A3 X A Γ σ es Ps) {H : Hp} {Q : List V → Hp → Prop} (ok : A.Ok H) (g : Γ.holds (hide A H)) (k : ∀ vs H', Ext A H H' → (Ps vs).holds (hide A H') → Q vs H') : Ea X es σ H Q := fun pos pins s I => h H Q ok g k pos pins s I

/-- what is new at p: the object o; the rest has grown -/
structure New (A : Own) (H H' : Hp) (p : Addr) (o : HO) : Prop where
  at_ : H' p = some o
  out : p ∉ dom A
  was : hide A H p = none
  ok : A.Ok H'
  same : L2.Same (hide A H) (hide ((p, o) :: A) H')
theorem New.ok1 {A : Own} {H H' : Hp} {p : Addr} {o : HO} (n : New A H H' p o) : Own.Ok ((p, o) :: A) H' := ⟨fun q hq => (List.mem_cons.mp hq).elim (fun e => by rw [e]; exact n.at_) (n.ok.at_ q), List.nodup_cons.mpr ⟨n.out, n.ok.nd⟩⟩
theorem hide_one {A : Own} {H : Hp} {p : Addr} {o : HO} : L2.Same (hide ((p, o) :: A) H) (hide A H) := fun b u e => by
  obtain ⟨e1, e2⟩ := hide_of e
  rw [hide_out (fun z => e2 (List.mem_cons_of_mem _ z))]
  exact e1
theorem New.ext {A : Own} {H H' : Hp} {p : Addr} {o : HO} (n : New A H H' p o) : Ext A H H' := ⟨n.ok, n.same.trans hide_one⟩
theorem New.laid {A : Own} {H H1 : Hp} (x : Ext A H H1) {p : Addr} (h : H1 p = none) (o : HO) : New A H (upd H1 p o) p o where
  at_ := upd_same
  out := x.ok.out h
  was := by
    cases e : hide A H p with
    | none => rfl
    | some u =>
      have z := (hide_of (x.same _ _ e)).1
      rw [h] at z
      cases z
  ok := x.ok.laid h o
  same := fun b u e => by
    obtain ⟨e1, e2⟩ := hide_of (x.same _ _ e)
    have ne : b ≠ p := ne_of_none e1 h
    have nd : b ∉ dom ((p, o) :: A) := fun z => (List.mem_cons.mp z).elim ne e2
    rw [hide_out nd, upd_ne ne]
    exact e1
/-- e gives a new object, of which R holds (where it is hidden) -/
def F3 (X : Cx) (A : Own) (Γ : Pr) (σ : L2.St) (e : Expr) (R : HO → Pr) : Prop :=
  ∀ (H : Hp) (Q : VK), A.Ok H → Γ.holds (hide A H) → (∀ p o H', New A H H' p o → (R o).holds (hide ((p, o) :: A) H') → Q (.ref p) H') → Ev X e σ H Q
/-- a new list, tuple, dict of what is told -/
def OL {α : Type} (R : α → V → Pr) (xs : List α) : HO → Pr := fun o => pEx fun vs => pAnd (pP (o = .lst vs)) (pAll R xs vs)
def OT {α : Type} (R : α → V → Pr) (xs : List α) : HO → Pr := fun o => pEx fun vs => pAnd (pP (o = .tup vs)) (pAll R xs vs)
/-- the object itself at the value -/
def RO (R : HO → Pr) : V → Pr := fun v => pEx fun a => pEx fun o => pAnd (pP (v = .ref a)) (pAnd (pAt a o) (R o))
theorem F3.v {R : HO → Pr} (h : F3 X A Γ σ e R) : E3 X A Γ σ e (RO R) := fun H Q ok g k => h H Q ok g fun p o H' n r => k _ _ n.ext ⟨p, o, rfl, by
  show hide A H' p = some o
  rw [hide_out n.out]
  exact n.at_, (R o).mono hide_one r⟩
theorem RO.lst {α : Type} {P : α → V → Pr} {xs : List α} {v : V} : (RO (OL P xs) v).le (RL P xs v) := fun G ⟨a, o, e, h, vs, eo, r⟩ => by
  cases (show o = .lst vs from eo)
  exact ⟨a, vs, e, h, r⟩
theorem RO.tup {α : Type} {P : α → V → Pr} {xs : List α} {v : V} : (RO (OT P xs) v).le (RT P xs v) := fun G ⟨a, o, e, h, vs, eo, r⟩ => by
  cases (show o = .tup vs from eo)
  exact ⟨a, vs, e, h, r⟩
theorem F3.rl {α : Type} {P : α → V → Pr} {xs : List α} (h : F3 X A Γ σ e (OL P xs)) : E3 X A Γ σ e (RL P xs) := h.v.imp fun v G z => RO.lst _ z.2
theorem F3.rt {α : Type} {P : α → V → Pr} {xs : List α} (h : F3 X A Γ σ e (OT P xs)) : E3 X A Γ σ e (RT P xs) := h.v.imp fun v G z => RO.tup _ z.2
theorem f_lst {es : List Expr} {Ps : List V → Pr} (h : A3 X A Γ σ es Ps) (hl : ∀ vs G, (Ps vs).holds G → vs.length ≤ 1000) : F3 X A Γ σ (.List es pos) (fun o => pEx fun vs => pAnd (pP (o = .lst vs)) (Ps vs)) := fun H Q ok g k =>
  Ev.of (pe_lst (eaPA es)) (h.ea ok g fun vs H1 x1 r1 => ⟨Nat.le_of_lt (small1000 (hl _ _ r1)), fun p hp => k p _ _ (New.laid x1 hp _) ⟨vs, rfl, (Ps vs).mono (New.laid (Ext.refl x1.ok) hp _).same r1⟩⟩)
theorem f_tup {es : List Expr} {x1} {Ps : List V → Pr} (h : A3 X A Γ σ es Ps) (hl : ∀ vs G, (Ps vs).holds G → vs.length ≤ 1000) : F3 X A Γ σ (.Tuple es x1 pos) (fun o => pEx fun vs => pAnd (pP (o = .tup vs)) (Ps vs)) := fun H Q ok g k =>
  Ev.of (pe_tup (eaPA es)) (h.ea ok g fun vs H1 x1 r1 => ⟨Nat.le_of_lt (small1000 (hl _ _ r1)), fun p hp => k p _ _ (New.laid x1 hp _) ⟨vs, rfl, (Ps vs).mono (New.laid (Ext.refl x1.ok) hp _).same r1⟩⟩)
/-- a pair -/
theorem e_tup2 {α β : Type} {R1 : α → V → Pr} {R2 : β → V → Pr} {x : α} {y : β} {k} (ha : E3 X A Γ σ a (R1 x)) (hb : E3 X A Γ σ b (R2 y))
    (h1 : starEach [a, b] X.env = (false, eval a X.env) :: starEach [b] X.env := by rfl) (h2 : starEach [b] X.env = (false, eval b X.env) :: starEach [] X.env := by rfl) : E3 X A Γ σ (.Tuple [a, b] k pos) (RT2 R1 R2 (x, y)) :=
  (f_tup (a_cons ha (a_cons hb a_nil h2) h1) (fun vs G ⟨v, r, e, _, w, r', e', _, e2⟩ => by cases (show r' = [] from e2); cases (show r = [w] from e'); cases (show vs = [v, w] from e); show 2 ≤ 1000; decide)).v.imp
    fun u G ⟨_, p, o, e, ho, vs, eo, v, r, e1, r1, w, r', e2, r2, e3⟩ => by
      cases (show r' = [] from e3)
      cases (show r = [w] from e2)
      cases (show vs = [v, w] from e1)
      cases (show o = .tup [v, w] from eo)
      exact ⟨p, v, w, e, ho, r1, r2⟩
end
end Pm
/-! Pm3 -/
set_option maxHeartbeats 2000000
/-! Pm3: promises, calls, statements, loops, comprehensions. -/
namespace Pm
open PySem PySem.Spec L2

/-! ### promises -/
/-- what a def that changes nothing promises: from data d with the arguments as pre tells, a value as post tells -/
def spF {δ : Type} (pre : δ → List V → Pr) (post : δ → V → Pr) : Sp := fun vs H Q _ => ∃ (d : δ) (A : Own), A.Ok H ∧ (pre d vs).holds (hide A H) ∧ ∀ v H', Ext A H H' → (post d v).holds (hide A H') → Q v H'
/-- a def of the module, where it stands, with its promise -/
structure Fd (P : Program) (w : World) (K : PySem.W.Frag) (mg : Str → Option Value) (base : Heap) (x : Str) (k : Nat) (sp : Sp) : Prop where
  ex : ∃ (f : Addr) (fd : FuncData) (ps : List Str), FnOk P w K mg base CX0 k f fd ps sp ∧ mg x = some (.ref f) ∧ PySem.W.keepIn K (.ref f) = true ∧ Binds K fd ps []
section
variable {X : Cx} {A B : Own} {Γ Δ : Pr} {σ : L2.St} {a b c e : Expr} {R Ra Rb Rc : V → Pr} {pos : Pos} {es : List Expr} {Ps : List V → Pr}

theorem ev_call {x : Str} {k : Nat} {sp : Sp} {p : Pos} {H : Hp} {Q : VK} (F : Fd X.prog X.w X.K X.mg X.base x k sp) (hr : Room k X.A) (h : Ea X (e :: es) σ H fun vs H1 => sp vs H1 Q E0) (hg : Gl X x := by rfl) (hdb : (x == ("__debug__" : Str)) = false := by decide)
    (he : starEach (e :: es) X.env = (false, eval e X.env) :: starEach es X.env := by rfl) (hpl : (backTo pos (starEach es X.env)).any (·.1) = false := by rfl) : Ev X (.Call (.Name x p) (e :: es) [] pos) σ H Q := by
  obtain ⟨f, fd, ps, G, hm, hk, hb⟩ := F.ex
  refine Ev.of (pe_call G hr hg hm hk hb .nil pass0 (eaPA (e :: es)) hdb he hpl) ?_
  show Ea X (e :: es) σ H fun vs H1 => sp (vs ++ []) H1 Q E0
  simpa only [List.append_nil] using h
theorem e_call {δ : Type} {pre : δ → List V → Pr} {post : δ → V → Pr} {x : Str} {k : Nat} {p : Pos} (F : Fd X.prog X.w X.K X.mg X.base x k (spF pre post)) (hr : Room k X.A) (d : δ) (ha : A3 X A Γ σ (e :: es) Ps) (hp : ∀ vs, (pAnd Γ (Ps vs)).le (pre d vs)) (hR : ∀ v, (post d v).le (R v) := by exact fun _ _ h => h) (hg : Gl X x := by rfl) (hdb : (x == ("__debug__" : Str)) = false := by decide)
    (he : starEach (e :: es) X.env = (false, eval e X.env) :: starEach es X.env := by rfl) (hpl : (backTo pos (starEach es X.env)).any (·.1) = false := by rfl) : E3 X A Γ σ (.Call (.Name x p) (e :: es) [] pos) R := fun H Q ok g k =>
  ev_call F hr (ha.ea ok g fun vs H1 x1 r1 => ⟨d, A, x1.ok, hp vs _ ⟨Γ.mono x1.same g, r1⟩, fun v H' x2 r2 => k v H' (x1.trans x2) (hR v _ r2)⟩) hg hdb he hpl
/-- a built-in by its name -/
def Ca3 (A : Own) (Γ : Pr) (Ps : List V → Pr) (r : List V → Hp → VK → Prop) (R : V → Pr) : Prop :=
  ∀ vs H (Q : VK), A.Ok H → Γ.holds (hide A H) → (Ps vs).holds (hide A H) → (∀ v H', Ext A H H' → (R v).holds (hide A H') → Q v H') → r vs H Q
theorem e_blt {id : String} {x : Str} {p : Pos} {r : List V → Hp → VK → Prop} (hc : CallR X (.builtin id) r) (hm : X.mg x = none) (hv : bootBuiltins x = some (.builtin id)) (ha : A3 X A Γ σ (e :: es) Ps) (h : Ca3 A Γ Ps r R) (hg : Gl X x := by rfl) (hn : x ≠ "__name__" := by decide) (hdb : (x == ("__debug__" : Str)) = false := by decide)
    (he : starEach (e :: es) X.env = (false, eval e X.env) :: starEach es X.env := by rfl) (hpl : (backTo pos (starEach es X.env)).any (·.1) = false := by rfl) : E3 X A Γ σ (.Call (.Name x p) (e :: es) [] pos) R := fun H Q ok g k =>
  Ev.of (pe_callB hc hg hm hv (eaPA (e :: es)) hn hdb he hpl) (ha.ea ok g fun vs H1 x1 r1 => h vs H1 Q x1.ok (Γ.mono x1.same g) r1 fun v H' x2 r2 => k v H' (x1.trans x2) r2)
theorem e_bty {id : String} {x : Str} {p : Pos} {r : List V → Hp → VK → Prop} (hc : CallR X (.type id) r) (hm : X.mg x = none) (hv : bootBuiltins x = some (.type id)) (ha : A3 X A Γ σ (e :: es) Ps) (h : Ca3 A Γ Ps r R) (hg : Gl X x := by rfl) (hn : x ≠ "__name__" := by decide) (hdb : (x == ("__debug__" : Str)) = false := by decide)
    (he : starEach (e :: es) X.env = (false, eval e X.env) :: starEach es X.env := by rfl) (hpl : (backTo pos (starEach es X.env)).any (·.1) = false := by rfl) : E3 X A Γ σ (.Call (.Name x p) (e :: es) [] pos) R := fun H Q ok g k =>
  Ev.of (pe_callTy hc hg hm hv (eaPA (e :: es)) hn hdb he hpl) (ha.ea ok g fun vs H1 x1 r1 => h vs H1 Q x1.ok (Γ.mono x1.same g) r1 fun v H' x2 r2 => k v H' (x1.trans x2) r2)

/-! ### a def's body -/
/-- what its return has to hand on -/
def Post (A : Own) (G0 : Hp) (P : V → Pr) (Q : VK) : Prop := ∀ v H', A.Ok H' → L2.Same G0 (hide A H') → (P v).holds (hide A H') → Q v H'
theorem fd_mk {δ : Type} {pre : δ → List V → Pr} {post : δ → V → Pr} {P : Program} {w : World} {K : PySem.W.Frag} {mg : Str → Option Value} {base : Heap} {x : Str} {params : Arguments} {body : List Stmt} {scope : Scope} {f : Addr} {fd : FuncData} {k : Nat} {N ps : List Str}
    (F : FunD K x x params body scope [] [] f fd) (gm : mg x = some (.ref f)) (S : FnScope N ps scope)
    (nb : ∀ (kV doc pm : Value) (an : Option Addr) (cdv ct : Value) (us : List Value), us.length = ps.length → bindArgs (PySem.W.fnOf x x params body scope .none kV doc pm an cdv ct) ⟨us, []⟩ = pure (ps.zip us))
    (hl : ∀ d vs G, (pre d vs).holds G → vs.length = ps.length)
    (hb : ∀ (cdv : Value) (Ar : Around) (outer : List Env) (s : Shared) (H : Hp) (vs : List V) (d : δ) (A : Own) (G0 : Hp) (D : Ends), Room k (Ar.deeper (PyProof.Rows.envOfC x scope s.heap.objs.size f cdv)) → Post A G0 (post d) D.rt → (∀ σ H', D.nx σ H' = D.rt .non H') →
      B3 (cxOf CX0 P w K mg base N x scope f cdv Ar outer s H E0).nox A (pAnd (pSame G0) (pre d vs)) (start N vs) body D) : Fd P w K mg base x (k + 1) (spF pre post) := by
  refine ⟨f, fd, ps, ?_, gm, F.kp, F.bindsN nb⟩
  refine F.ok S (fun vs H Q E ⟨d, A, ok, h, _⟩ => hl d vs _ h) fun cdv Ar outer s H vs Q E hr ⟨d, A, ok, h, q⟩ => ⟨_, (essPSs (X := (cxOf CX0 P w K mg base N x scope f cdv Ar outer s H E).nox) body).nox, ?_⟩
  refine hb cdv Ar outer s H vs d A (hide A H) { nx := fun _ H' => Q .non H', rt := Q } hr (fun v H' ok' sm r => q v H' ⟨ok', sm⟩ r) (fun _ _ => rfl) H ok ⟨L2.Same.refl _, h⟩

/-! ### blocks -/
variable {rest : List Stmt} {D : Ends} {st : Stmt}
theorem B3.pre {blk : List Stmt} (h : B3 X A Δ σ blk D) (i : Γ.le Δ) : B3 X A Γ σ blk D := fun H ok g => h H ok (i _ g)
theorem B3.ex {α : Type} {p : α → Pr} {blk : List Stmt} (h : ∀ x, B3 X A (pAnd Γ (p x)) σ blk D) : B3 X A (pAnd Γ (pEx p)) σ blk D := fun H ok ⟨g, x, r⟩ => h x H ok ⟨g, r⟩
theorem B3.fact {p : Prop} {blk : List Stmt} (i : ∀ G, Γ.holds G → p) (h : p → B3 X A Γ σ blk D) : B3 X A Γ σ blk D := fun H ok g => h (i _ g) H ok g
/-- what is owned at the head is let go: a fact from now on -/
theorem hide_app {B A : Own} {H : Hp} : L2.Same (hide (B ++ A) H) (hide A H) := fun b u e => by
  obtain ⟨e1, e2⟩ := hide_of e
  rw [hide_out (fun z => e2 (by unfold dom; rw [List.map_append]; exact List.mem_append_right _ z))]
  exact e1
theorem own_app {B A : Own} {H : Hp} (ok : Own.Ok (B ++ A) H) : A.Ok H ∧ (pOwn B).holds (hide A H) := by
  have nd := ok.nd
  unfold dom at nd
  rw [List.map_append] at nd
  obtain ⟨n1, n2, n3⟩ := List.nodup_append.mp nd
  refine ⟨⟨fun p hp => ok.at_ p (List.mem_append_right _ hp), n2⟩, fun p hp => ?_⟩
  rw [hide_out (fun z => n3 _ (List.mem_map.mpr ⟨p, hp, rfl⟩) _ z rfl)]
  exact ok.at_ p (List.mem_append_left _ hp)
theorem b_let {p : Addr} {o : HO} {blk : List Stmt} (h : B3 X A (pAnd Γ (pAt p o)) σ blk D) : B3 X ((p, o) :: A) Γ σ blk D := fun H ok g => by
  have ok2 : Own.Ok ([(p, o)] ++ A) H := ok
  obtain ⟨o1, o2⟩ := own_app ok2
  exact h H o1 ⟨Γ.mono (hide_app (B := [(p, o)])) g, o2 (p, o) (List.mem_singleton.mpr rfl)⟩
theorem b_cons {H : Hp} (h : Es X st { D with nx := fun σ' H' => Ess X rest D σ' H' } σ H) : Ess X (st :: rest) D σ H := Ess.of (pss_cons (esPS st) (essPSs rest)) h
theorem b_nil (h : ∀ H, A.Ok H → Γ.holds (hide A H) → D.nx σ H) : B3 X A Γ σ [] D := fun H ok g => Ess.of pss_nil (h H ok g)
theorem b_go {D' : Ends} (h : B3 X A Γ σ rest D) (e : D'.nx = fun σ' H' => Ess X rest D σ' H') : B3 X A Γ σ [] D' := b_nil fun H ok g => by
  rw [e]
  exact h H ok g
theorem b_ret {A0 : Own} {G0 : Hp} {P : V → Pr} (B : Own) (h : E3 X (B ++ A0) Γ σ e R) (hq : Post A0 G0 P D.rt) (hs : Γ.le (pSame G0)) (hp : ∀ v, (pAnd (pOwn B) (pAnd Γ (R v))).le (P v)) : B3 X (B ++ A0) Γ σ (.Return (some e) pos :: rest) D := fun H ok g =>
  b_cons (Es.of (ps_ret (evPE e)) (h H _ ok g fun v H' x r => by
    obtain ⟨o1, o2⟩ := own_app x.ok
    have g' := Γ.mono x.same g
    refine hq v H' o1 ((hs _ g').trans hide_app) (hp v _ ⟨o2, Γ.mono hide_app g', (R v).mono hide_app r⟩)))
theorem b_ret0 {A0 : Own} {G0 : Hp} {P : V → Pr} (hq : Post A0 G0 P D.rt) (h : E3 X A0 Γ σ e R) (hs : Γ.le (pSame G0)) (hp : ∀ v, (pAnd Γ (R v)).le (P v)) : B3 X A0 Γ σ (.Return (some e) pos :: rest) D :=
  b_ret [] h hq hs fun v G z => hp v G z.2
section
variable {i : Nat} {x : Str} {pos' : Pos}
theorem b_set (i : Nat) (h : E3 X A Γ σ e R) (k : ∀ v, B3 X A (pAnd Γ (R v)) (σ.set i (some v)) rest D) (hN : X.N.Nodup := by assumption) (hi : X.N[i]? = some x := by rfl) (hx : Loc X.env.scope x := by first | exact .inl rfl | exact .inr rfl) (hs : swapsWith e (some (.Name x pos')) pos.line X.env = pure false := by rfl)
    (hf : X.fn x = true ∨ X.env.scope.names.lookup x = some .local := by first | exact .inl rfl | exact .inr rfl) : B3 X A Γ σ (.Assign [.Name x pos'] e pos :: rest) D := fun H ok g =>
  b_cons (Es.of (ps_set hN hi hx (evPE e) hs hf) (h H _ ok g fun v H' x r => k v H' x.ok ⟨Γ.mono x.same g, r⟩))
theorem b_setV (i : Nat) {w : V} (h : E3 X A Γ σ e (RV w)) (k : B3 X A Γ (σ.set i (some w)) rest D) (hN : X.N.Nodup := by assumption) (hi : X.N[i]? = some x := by rfl) (hx : Loc X.env.scope x := by first | exact .inl rfl | exact .inr rfl) (hs : swapsWith e (some (.Name x pos')) pos.line X.env = pure false := by rfl)
    (hf : X.fn x = true ∨ X.env.scope.names.lookup x = some .local := by first | exact .inl rfl | exact .inr rfl) : B3 X A Γ σ (.Assign [.Name x pos'] e pos :: rest) D :=
  b_set i h (fun v H ok ⟨g, r⟩ => by cases (show v = w from r); exact k H ok g) hN hi hx hs hf
/-- a new object becomes one's own -/
theorem b_setO (i : Nat) {R : HO → Pr} (h : F3 X A Γ σ e R) (k : ∀ p o, B3 X ((p, o) :: A) (pAnd Γ (R o)) (σ.set i (some (.ref p))) rest D) (hN : X.N.Nodup := by assumption) (hi : X.N[i]? = some x := by rfl) (hx : Loc X.env.scope x := by first | exact .inl rfl | exact .inr rfl) (hs : swapsWith e (some (.Name x pos')) pos.line X.env = pure false := by rfl)
    (hf : X.fn x = true ∨ X.env.scope.names.lookup x = some .local := by first | exact .inl rfl | exact .inr rfl) : B3 X A Γ σ (.Assign [.Name x pos'] e pos :: rest) D := fun H ok g =>
  b_cons (Es.of (ps_set hN hi hx (evPE e) hs hf) (h H _ ok g fun p o H' n r => k p o H' n.ok1 ⟨Γ.mono n.same g, r⟩))
/-- .. a list -/
theorem b_setL (i : Nat) {α : Type} {P : α → V → Pr} {xs : List α} (h : F3 X A Γ σ e (OL P xs)) (k : ∀ p vs, B3 X ((p, .lst vs) :: A) (pAnd Γ (pAll P xs vs)) (σ.set i (some (.ref p))) rest D) (hN : X.N.Nodup := by assumption) (hi : X.N[i]? = some x := by rfl) (hx : Loc X.env.scope x := by first | exact .inl rfl | exact .inr rfl) (hs : swapsWith e (some (.Name x pos')) pos.line X.env = pure false := by rfl)
    (hf : X.fn x = true ∨ X.env.scope.names.lookup x = some .local := by first | exact .inl rfl | exact .inr rfl) : B3 X A Γ σ (.Assign [.Name x pos'] e pos :: rest) D :=
  b_setO i h (fun p o H ok ⟨g, vs, eo, r⟩ => by cases (show o = .lst vs from eo); exact k p vs H ok ⟨g, r⟩) hN hi hx hs hf
end
theorem b_if {ta tb : List Stmt} {t : Bool} (hc : T3 X A Γ σ c t) (ha : t = true → B3 X A Γ σ ta { D with nx := fun σ' H' => Ess X rest D σ' H' }) (hb : t = false → B3 X A Γ σ tb { D with nx := fun σ' H' => Ess X rest D σ' H' }) : B3 X A Γ σ (.If c ta tb pos :: rest) D := fun H ok g =>
  b_cons (Es.of (ps_if (etPT c) (essPSs ta) (essPSs tb)) (hc H _ ok g fun H' x => by
    cases t with
    | true => exact iteT (ha rfl H' x.ok (Γ.mono x.same g))
    | false => exact iteF (hb rfl H' x.ok (Γ.mono x.same g))))
/-- an if without else -/
theorem b_when {ta : List Stmt} {t : Bool} (hc : T3 X A Γ σ c t) (ha : t = true → B3 X A Γ σ ta { D with nx := fun σ' H' => Ess X rest D σ' H' }) (hb : t = false → B3 X A Γ σ rest D) : B3 X A Γ σ (.If c ta [] pos :: rest) D :=
  b_if hc ha fun e => b_go (hb e) rfl
/-- an expression whose value is dropped -/
theorem b_expr (h : E3 X A Γ σ e R) (k : ∀ v, B3 X A (pAnd Γ (R v)) σ rest D) (hs : swapsWith e none pos.line X.env = pure false := by rfl) : B3 X A Γ σ (.Expr e pos :: rest) D := fun H ok g =>
  b_cons (Es.of (ps_expr (evPE e) hs) (h H _ ok g fun v H' x r => k v H' x.ok ⟨Γ.mono x.same g, r⟩))
/-- an owned object is changed -/
theorem own_put {A1 A2 : Own} {p : Addr} {o o' : HO} {H : Hp} (ok : Own.Ok (A1 ++ (p, o) :: A2) H) : Own.Ok (A1 ++ (p, o') :: A2) (upd H p o') ∧ hide (A1 ++ (p, o') :: A2) (upd H p o') = hide (A1 ++ (p, o) :: A2) H ∧ H p = some o := by
  have ed : dom (A1 ++ (p, o') :: A2) = dom (A1 ++ (p, o) :: A2) := by unfold dom; rw [List.map_append, List.map_append]; rfl
  have nd := ok.nd
  unfold dom at nd
  rw [List.map_append] at nd
  obtain ⟨n1, n2, n3⟩ := List.nodup_append.mp nd
  have n4 : p ∉ dom A2 := (List.nodup_cons.mp n2).1
  refine ⟨⟨fun q hq => ?_, by rw [ed]; exact ok.nd⟩, ?_, ok.at_ (p, o) (List.mem_append_right _ (List.mem_cons_self ..))⟩
  · rcases List.mem_append.mp hq with hq | hq
    · rw [upd_ne (fun z => n3 _ (List.mem_map.mpr ⟨q, hq, rfl⟩) p (List.mem_cons_self ..) z)]
      exact ok.at_ q (List.mem_append_left _ hq)
    · rcases List.mem_cons.mp hq with e | hq
      · subst e
        exact upd_same
      · rw [upd_ne (fun z => n4 (List.mem_map.mpr ⟨q, hq, z⟩))]
        exact ok.at_ q (List.mem_append_right _ (List.mem_cons_of_mem _ hq))
  · funext b
    unfold hide
    rw [ed]
    split
    · rfl
    · rename_i hb
      rw [upd_ne (fun z => hb (by rw [z]; exact List.mem_map.mpr ⟨(p, o), List.mem_append_right _ (List.mem_cons_self ..), rfl⟩))]
/-- told.append(e) -/
theorem b_app (A1 : Own) {A2 : Own} {p : Addr} {vs : List V} {o : Expr} {apos cpos : Pos} (ho : E3 X (A1 ++ (p, .lst vs) :: A2) Γ σ o (RV (.ref p))) (h : E3 X (A1 ++ (p, .lst vs) :: A2) Γ σ e R) (hl : ∀ G, Γ.holds G → vs.length < sizeLine) (k : ∀ v, B3 X (A1 ++ (p, .lst (vs ++ [v])) :: A2) (pAnd Γ (R v)) σ rest D)
    (he : starEach [e] X.env = (false, eval e X.env) :: starEach [] X.env := by rfl) (hx : PE X (.Call (.Attribute o "append" apos) [e] [] cpos) (tBM X.K "list" rAppend (Ev X o) (Ea X [e])))
    (hs : swapsWith (.Call (.Attribute o "append" apos) [e] [] cpos) none pos.line X.env = pure false := by rfl) : B3 X (A1 ++ (p, .lst vs) :: A2) Γ σ (.Expr (.Call (.Attribute o "append" apos) [e] [] cpos) pos :: rest) D := fun H ok g =>
  b_cons (Es.of (ps_expr hx hs) (ho H _ ok g fun u H1 x1 r1 => by
    cases (show u = .ref p from r1)
    have h0 : H1 p = some (.lst vs) := x1.ok.at_ _ (List.mem_append_right _ (List.mem_cons_self ..))
    refine ⟨.inl ⟨rfl, _, SqL.of h0⟩, A3.ea (a_cons h a_nil he) x1.ok (Γ.mono x1.same g) fun ws H2 x2 r2 => ?_⟩
    obtain ⟨v, r, e1, rv, e2⟩ := r2
    cases (show r = [] from e2)
    cases (show ws = [v] from e1)
    obtain ⟨o1, o2, o3⟩ := own_put (o' := .lst (vs ++ [v])) x2.ok
    refine ⟨p, vs, v, rfl, rfl, o3, hl _ g, k v _ o1 ?_⟩
    rw [o2]
    exact ⟨Γ.mono (x1.same.trans x2.same) g, rv⟩))

/-! ### walks -/
structure WalkT {β : Type} (J : It) (zs : List β) (Gd : Pr) (Rz : β → V → Pr) : Prop where
  goes : ∀ i H, i < zs.length → Gd.holds H → J.go i H
  stops : ∀ H, Gd.holds H → J.stop zs.length H
  yields : ∀ (A : Own) (i : Nat) (z : β) (H : Hp) (x : V) (H' : Hp), zs[i]? = some z → A.Ok H → Gd.holds (hide A H) → J.yld i H x H' → Ext A H H' ∧ (Rz z x).holds (hide A H')
def Ei (X : Cx) (tg iter : Expr) (σ : L2.St) (H : Hp) (R : It → Hp → Prop) : Prop := ∀ (pins : List (Addr × Obj)) (s : Shared), Inv X pins σ H s →
  wpAny (model X.prog X.w) X.A (eval iter X.env) (fun v s1 => wpAny (model X.prog X.w) X.A (pyIter v) (PIE X pins σ tg R) X.xe s1) X.xe s
theorem eiPI (tg iter : Expr) : PI X tg iter (Ei X tg iter) := ⟨fun pins s σ H R I h => h pins s I⟩
theorem Ei.of {tg iter : Expr} {w : TI} {H : Hp} {R : It → Hp → Prop} (h : PI X tg iter w) (q : w σ H R) : Ei X tg iter σ H R := fun pins s I => h.run pins s σ H R I q
/-- iter yields zs, one by one -/
def I3 {β : Type} (X : Cx) (A : Own) (Γ : Pr) (σ : L2.St) (tg iter : Expr) (zs : List β) (Rz : β → V → Pr) : Prop :=
  ∀ (H : Hp) (R : It → Hp → Prop), A.Ok H → Γ.holds (hide A H) → (∀ J Gd H1, Ext A H H1 → WalkT J zs Gd Rz → Gd.holds (hide A H1) → R J H1) → Ei X tg iter σ H R
/-- a target: what is stored for an item -/
structure Tg3 {β ω : Type} (X : Cx) (tg : Expr) (g : TG) (Rz : β → V → Pr) (st : ω → L2.St → L2.St) (Γt : β → ω → Pr) : Prop where
  pg : PG X tg g
  run : ∀ z x σ (A : Own) H Q, A.Ok H → (Rz z x).holds (hide A H) → (∀ w, (Γt z w).holds (hide A H) → Q (st w σ) H) → g x σ H Q
theorem tg_name {β : Type} {Rz : β → V → Pr} (i : Nat) {x : Str} {pos : Pos} (hN : X.N.Nodup := by assumption) (hi : X.N[i]? = some x := by rfl) (hx : Loc X.env.scope x := by first | exact .inl rfl | exact .inr rfl) (hf : X.fn x = true ∨ X.env.scope.names.lookup x = some .local := by first | exact .inl rfl | exact .inr rfl) :
    Tg3 X (.Name x pos) (gName i) Rz (fun (w : V) σ => σ.set i (some w)) Rz := ⟨pg_name hN hi hx hf, fun z x σ A H Q ok r k => k x r⟩
theorem tg_pair {β γ : Type} {R1 : β → V → Pr} {R2 : γ → V → Pr} (i j : Nat) {x y : Str} {p1 p2 pos : Pos} {kt : Nat} (hc : X.calm = true := by rfl) (hN : X.N.Nodup := by assumption) (hi : X.N[i]? = some x := by rfl) (hj : X.N[j]? = some y := by rfl) (hx : Loc X.env.scope x := by first | exact .inl rfl | exact .inr rfl) (hy : Loc X.env.scope y := by first | exact .inl rfl | exact .inr rfl)
    (hf : X.fn x = true ∨ X.env.scope.names.lookup x = some .local := by first | exact .inl rfl | exact .inr rfl) (hf2 : X.fn y = true ∨ X.env.scope.names.lookup y = some .local := by first | exact .inl rfl | exact .inr rfl)
    (h1 : (assignEach [.Name x p1, .Name y p2] X.env).map (·.2) = assign (.Name x p1) X.env :: (assignEach [.Name y p2] X.env).map (·.2) := by rfl) (h2 : (assignEach [.Name y p2] X.env).map (·.2) = assign (.Name y p2) X.env :: (assignEach [] X.env).map (·.2) := by rfl)
    (hn : (assignEach [.Name x p1, .Name y p2] X.env).length = 2 := by rfl) (hst : (assignEach [.Name x p1, .Name y p2] X.env).findIdx? (·.1) = none := by rfl) :
    Tg3 X (.Tuple [.Name x p1, .Name y p2] kt pos) (gTup X.K 2 (gCons (gName i) (gCons (gName j) gNil))) (RT2 R1 R2) (fun (w : V × V) σ => (σ.set i (some w.1)).set j (some w.2)) (fun z w => pAnd (R1 z.1 w.1) (R2 z.2 w.2)) :=
  ⟨pg_tup hc (pgs_cons (pg_name hN hi hx hf) (pgs_cons (pg_name hN hj hy hf2) pgs_nil h2) h1) hn hst, fun z x σ A H Q ok ⟨a, v1, v2, e, ho, r1, r2⟩ k => ⟨a, [v1, v2], e, SqT.of (hide_le _ _ ho), rfl, v1, [v2], rfl, v2, [], rfl, rfl, k (v1, v2) ⟨r1, r2⟩⟩⟩

/-! ### for -/
/-- the ends of a turn -/
def Nx {δ : Type} (sd : δ → L2.St) (Ad : δ → Own) (Γd : δ → Pr) (rel : δ → Prop) : L2.St → Hp → Prop := fun σ' H' => ∃ d, rel d ∧ σ' = sd d ∧ (Ad d).Ok H' ∧ (Γd d).holds (hide (Ad d) H')
theorem b_end {δ : Type} {sd : δ → L2.St} {Ad : δ → Own} {Γd : δ → Pr} {rel : δ → Prop} (d : δ) (hr : rel d) (hσ : σ = sd d) (hA : A = Ad d) (hg : Γ.le (Γd d)) (hD : D.nx = Nx sd Ad Γd rel) : B3 X A Γ σ [] D := b_nil fun H ok g => by
  rw [hD]
  subst hA
  exact ⟨d, hr, hσ, ok, hg _ g⟩
theorem b_for {β ω δ : Type} {zs : List β} {Rz : β → V → Pr} {tg iter : Expr} {body : List Stmt} {g : TG} {stw : ω → L2.St → L2.St} {Γt : β → ω → Pr} (sd : δ → L2.St) (Ad : δ → Own) (Γd : δ → Pr) (rel : Nat → δ → Prop)
    (hi : I3 X A Γ σ tg iter zs Rz) (ht : Tg3 X tg g Rz stw Γt) (d0 : δ) (h0 : rel 0 d0 ∧ σ = sd d0 ∧ A = Ad d0) (hΓ : Γ.le (Γd d0))
    (hs : ∀ (Gd : Pr) i z d w, zs[i]? = some z → rel i d → B3 X (Ad d) (pAnd (pAnd (Γd d) Gd) (Γt z w)) (stw w (sd d)) body { D with nx := Nx sd Ad (fun d => pAnd (Γd d) Gd) (rel (i + 1)), ct := Nx sd Ad (fun d => pAnd (Γd d) Gd) (rel (i + 1)), bk := fun σ' H' => Ess X rest D σ' H' })
    (hd : ∀ d, rel zs.length d → B3 X (Ad d) (Γd d) (sd d) rest D)
    (hp : PassesOwn (model X.prog X.w) X.A X.env X.xe := by exact PassesOwn.never) (hc : X.calm = true := by rfl) (hf : ∀ x, foldedSetIterable iter X.env x = pure x := by intro _; rfl) : B3 X A Γ σ (.For tg iter body [] pos :: rest) D := fun H ok gm =>
  b_cons (Es.of (ps_for hp hc (eiPI tg iter) ht.pg (essPSs body) hf) (hi H _ ok gm fun J Gd H1 x1 wk g1 => by
    obtain ⟨r0, e1, e2⟩ := h0
    subst e1
    subst e2
    refine ⟨fun i m σ H => m = zs.length - i ∧ i ≤ zs.length ∧ Nx sd Ad (fun d => pAnd (Γd d) Gd) (rel i) σ H, ⟨zs.length, by simp, Nat.zero_le _, d0, r0, rfl, x1.ok, hΓ _ (Γ.mono x1.same gm), g1⟩, ?_⟩
    rintro i m σ H ⟨rfl, hle, d, r, e, okd, gd, gg⟩
    subst e
    by_cases hlt : i < zs.length
    · refine .inr ⟨wk.goes i H hlt (Gd.mono hide_le gg), Nx sd Ad (fun d => pAnd (Γd d) Gd) (rel (i + 1)), fun σ' H' p' => ⟨zs.length - (i + 1), by omega, rfl, hlt, p'⟩, fun x H' y => ?_⟩
      obtain ⟨xt, rz⟩ := wk.yields (Ad d) i zs[i] H x H' (List.getElem?_eq_getElem hlt) okd gg y
      exact ht.run zs[i] x (sd d) (Ad d) H' _ xt.ok rz fun w hw => hs Gd i zs[i] d w (List.getElem?_eq_getElem hlt) r H' xt.ok ⟨⟨(Γd d).mono xt.same gd, Gd.mono xt.same gg⟩, hw⟩
    · have ei : i = zs.length := by omega
      subst ei
      exact .inl ⟨wk.stops H (Gd.mono hide_le gg), hd d r H okd gd⟩))
/-- while -/
theorem b_while {δ : Type} {body : List Stmt} (sd : δ → L2.St) (Ad : δ → Own) (Γd : δ → Pr) (rel : δ → Prop) (μ : δ → Nat) (t : δ → Bool) (d0 : δ) (h0 : rel d0 ∧ σ = sd d0 ∧ A = Ad d0) (hΓ : Γ.le (Γd d0))
    (hc : ∀ d, rel d → T3 X (Ad d) (Γd d) (sd d) c (t d))
    (hs : ∀ d, rel d → t d = true → B3 X (Ad d) (Γd d) (sd d) body { D with nx := Nx sd Ad Γd (fun d' => rel d' ∧ μ d' < μ d), ct := Nx sd Ad Γd (fun d' => rel d' ∧ μ d' < μ d), bk := fun σ' H' => Ess X rest D σ' H' })
    (hd : ∀ d, rel d → t d = false → B3 X (Ad d) (Γd d) (sd d) rest D)
    (hp : PassesOwn (model X.prog X.w) X.A X.env X.xe := by exact PassesOwn.never) : B3 X A Γ σ (.While c body [] pos :: rest) D := fun H ok gm =>
  b_cons (Es.of (ps_while hp (etPT c) (essPSs body)) (by
    obtain ⟨r0, e1, e2⟩ := h0
    subst e1
    subst e2
    refine ⟨fun m σ H => ∃ d, rel d ∧ m = μ d ∧ σ = sd d ∧ (Ad d).Ok H ∧ (Γd d).holds (hide (Ad d) H), ⟨μ d0, d0, r0, rfl, rfl, ok, hΓ _ gm⟩, ?_⟩
    rintro m σ H ⟨d, r, rfl, rfl, okd, gd⟩
    refine hc d r H _ okd gd fun H1 x1 => ?_
    have g1 := (Γd d).mono x1.same gd
    cases e : t d with
    | true => exact iteT ⟨Nx sd Ad Γd (fun d' => rel d' ∧ μ d' < μ d), fun σ' H' ⟨d', ⟨r1, r2⟩, e1, o1, g2⟩ => ⟨μ d', r2, d', r1, rfl, e1, o1, g2⟩, hs d r e H1 x1.ok g1⟩
    | false => exact iteF (hd d r e H1 x1.ok g1)))
end
end Pm
/-! Pm4 -/
set_option maxHeartbeats 2000000
/-! Pm4: sources of walks, comprehensions. -/
namespace Pm
open PySem PySem.Spec L2
section
variable {X : Cx} {A B : Own} {Γ Δ : Pr} {σ : L2.St} {a b c e : Expr} {R Ra Rb Rc : V → Pr} {pos : Pos} {es : List Expr} {Ps : List V → Pr} {tg : Expr}

/-! ### sources -/
theorem walkT_of {β : Type} {J : It} {zs : List β} {Gd : Pr} {Rz : β → V → Pr} {n : Nat} {G : Hp → Prop} {Y : Nat → Hp → V → Hp → Prop} (w : Walk J n G Y) (hn : zs.length = n) (hG : ∀ H, Gd.holds H → G H)
    (hy : ∀ (A : Own) (i : Nat) (z : β) (H : Hp) (x : V) (H' : Hp), zs[i]? = some z → A.Ok H → Gd.holds (hide A H) → Y i H x H' → Ext A H H' ∧ (Rz z x).holds (hide A H')) : WalkT J zs Gd Rz := by
  subst hn
  exact ⟨fun i H hi g => w.goes i H hi (hG H g), fun H g => w.stops H (hG H g), fun A i z H x H' hz ok g y => hy A i z H x H' hz ok g (w.yields i H x H' (List.getElem?_eq_some_iff.mp hz).1 (hG H (Gd.mono hide_le g)) y)⟩
/-- what stands at the i-th place -/
theorem pAll_at {α β : Type} {P : α → β → Pr} {G : Hp} {xs : List α} {vs : List β} {i : Nat} {z : α} {v : β} (h : (pAll P xs vs).holds G) (hz : xs[i]? = some z) (hv : vs[i]? = some v) : (P z v).holds G := by
  obtain ⟨w, e1, e2⟩ := pAll_get h hz
  rw [hv] at e1
  cases e1
  exact e2
theorem i_list {α : Type} {P : α → V → Pr} {xs : List α} (h : E3 X A Γ σ e (RL P xs)) : I3 X A Γ σ tg e xs P := fun H Q ok g k =>
  Ei.of (pi_list (evPE e)) (h H _ ok g fun v H1 x1 r => by
    obtain ⟨a, vs, ev, hv, hr⟩ := r
    have sq : SqL X.K H1 a vs := SqL.of (hide_le _ _ hv)
    exact ⟨a, ev, ⟨_, sq⟩, k _ (pAnd (pAt a (.lst vs)) (pAll P xs vs)) H1 x1 (walkT_of (walk_list (K := X.K) (a := a) (xs := vs)) (pAll_len hr) (fun H z => SqL.of z.1) fun A i z H x H' hz ok g y => by
      obtain ⟨eH, ex⟩ := y
      subst eH
      exact ⟨Ext.refl ok, pAll_at g.2 hz ex⟩) ⟨hv, hr⟩⟩)
theorem i_tup {α : Type} {P : α → V → Pr} {xs : List α} (h : E3 X A Γ σ e (RT P xs)) : I3 X A Γ σ tg e xs P := fun H Q ok g k =>
  Ei.of (pi_tup (evPE e)) (h H _ ok g fun v H1 x1 r => by
    obtain ⟨a, vs, ev, hv, hr⟩ := r
    have sq : SqT X.K H1 a vs := SqT.of (hide_le _ _ hv)
    exact ⟨a, ev, ⟨_, sq⟩, k _ (pAnd (pAt a (.tup vs)) (pAll P xs vs)) H1 x1 (walkT_of (walk_tup (K := X.K) (a := a) (xs := vs)) (pAll_len hr) (fun H z => SqT.of z.1) fun A i z H x H' hz ok g y => by
      obtain ⟨eH, ex⟩ := y
      subst eH
      exact ⟨Ext.refl ok, pAll_at g.2 hz ex⟩) ⟨hv, hr⟩⟩)
theorem i_range {j : Int} {p : Pos} (hm : X.mg "range" = none) (h : E3 X A Γ σ e (RI j)) (h1 : -(2 ^ 62) ≤ j) (h2 : j < 2 ^ 62) (hg : Gl X "range" := by rfl) (hs : starEach [e] X.env = [(false, eval e X.env)] := by rfl) :
    I3 X A Γ σ tg (.Call (.Name "range" p) [e] [] pos) (List.range j.toNat) (fun (k : Nat) => RI k) := fun H Q ok g k =>
  Ei.of (pi_range1 hg hm (eaPA [e]) hs) (A3.ea (a_cons h a_nil hs) ok g fun vs H1 x1 r => by
    obtain ⟨v, r, e1, rv, e2⟩ := r
    cases (show r = [] from e2)
    cases (show vs = [v] from e1)
    cases (show v = .int j from rv)
    exact ⟨j, rfl, h1, h2, k _ pTop H1 x1 (walkT_of (walk_range (lo := 0) (n := j.toNat)) (List.length_range ..) (fun _ _ => trivial) fun A i z H x H' hz ok g y => by
      obtain ⟨eH, ex⟩ := y
      subst eH
      have hi := (List.getElem?_eq_some_iff.mp hz).1
      rw [List.length_range] at hi
      rw [List.getElem?_range hi] at hz
      cases hz
      refine ⟨Ext.refl ok, ?_⟩
      rw [ex]
      show V.int _ = V.int _
      rw [Int.zero_add]) trivial⟩)
theorem ext_pair {A : Own} {H : Hp} {T : Addr} {x y : V} (ok : A.Ok H) (hT : H T = none) : Ext A H (upd H T (.tup [x, y])) := Ext.laid ok hT _
theorem i_zip {α β : Type} {P1 : α → V → Pr} {P2 : β → V → Pr} {xs : List α} {ys : List β} {p tpos : Pos} {elts : List Expr} {kk : Nat} {e2 : Expr} (hm : X.mg "zip" = none) (h : E3 X A Γ σ e (RL P1 xs)) (h2 : E3 X A Γ σ e2 (RL P2 ys)) (hg : Gl X "zip" := by rfl)
    (hs : starEach [e, e2] X.env = [(false, eval e X.env), (false, eval e2 X.env)] := by rfl) (hs1 : starEach [e, e2] X.env = (false, eval e X.env) :: starEach [e2] X.env := by rfl) (hs2 : starEach [e2] X.env = (false, eval e2 X.env) :: starEach [] X.env := by rfl)
    (hp : PI X (.Tuple elts kk tpos) (.Call (.Name "zip" p) [e, e2] [] pos) (iZip X.K (Ea X [e, e2]))) :
    I3 X A Γ σ (.Tuple elts kk tpos) (.Call (.Name "zip" p) [e, e2] [] pos) (xs.zip ys) (RT2 P1 P2) := fun H Q ok g k =>
  Ei.of hp (A3.ea (a_cons h (a_cons h2 a_nil hs2) hs1) ok g fun vs H1 x1 r => by
    obtain ⟨v, r, e1, rv, w, r', e2, rw, e3⟩ := r
    cases (show r' = [] from e3)
    cases (show r = [w] from e2)
    cases (show vs = [v, w] from e1)
    obtain ⟨a, vs, ev, hv, hr⟩ := rv
    obtain ⟨b, ws, ew, hw, hr2⟩ := rw
    cases (show v = .ref a from ev)
    cases (show w = .ref b from ew)
    refine ⟨a, b, vs, ws, rfl, SqL.of (hide_le _ _ hv), SqL.of (hide_le _ _ hw), k _ (pAnd (pAnd (pAt a (.lst vs)) (pAll P1 xs vs)) (pAnd (pAt b (.lst ws)) (pAll P2 ys ws))) H1 x1
      (walkT_of (walk_zip (K := X.K) (a := a) (b := b) (xs := vs) (ys := ws) rfl) (by rw [List.length_zip, pAll_len hr, pAll_len hr2]) (fun H z => ⟨SqL.of z.1.1, SqL.of z.2.1⟩) fun A i z H x H' hz ok g y => ?_) ⟨⟨hv, hr⟩, hw, hr2⟩⟩
    obtain ⟨T, x1, y1, rfl, hT, rfl, q1, q2⟩ := y
    obtain ⟨z1, z2⟩ := z
    have hz' := List.getElem?_zip_eq_some.mp hz
    have ex := Ext.laid ok hT (.tup [x1, y1])
    exact ⟨ex, T, x1, y1, rfl, hide_laid ok hT _, (P1 z1 x1).mono ex.same (pAll_at g.1.2 hz'.1 q1), (P2 z2 y1).mono ex.same (pAll_at g.2.2 hz'.2 q2)⟩)
/-- (0, x0), (1, x1), .. -/
def enumL {α : Type} (xs : List α) : List (Nat × α) := (List.range xs.length).zip xs
theorem i_enum {α : Type} {P : α → V → Pr} {xs : List α} {p tpos : Pos} {elts : List Expr} {kk : Nat} (h : E3 X A Γ σ e (RL P xs)) (hs : starEach [e] X.env = (false, eval e X.env) :: starEach [] X.env := by rfl)
    (hp : PI X (.Tuple elts kk tpos) (.Call (.Name "enumerate" p) [e] [] pos) (iEnum X.K (Ea X [e]))) :
    I3 X A Γ σ (.Tuple elts kk tpos) (.Call (.Name "enumerate" p) [e] [] pos) (enumL xs) (RT2 (fun (k : Nat) => RI k) P) := fun H Q ok g k =>
  Ei.of hp (A3.ea (a_cons h a_nil hs) ok g fun vs H1 x1 r => by
    obtain ⟨v, r, e1, rv, e3⟩ := r
    cases (show r = [] from e3)
    cases (show vs = [v] from e1)
    obtain ⟨a, vs, ev, hv, hr⟩ := rv
    cases (show v = .ref a from ev)
    refine ⟨a, vs, rfl, SqL.of (hide_le _ _ hv), k _ (pAnd (pAt a (.lst vs)) (pAll P xs vs)) H1 x1
      (walkT_of (walk_enum (K := X.K) (a := a) (xs := vs)) (by unfold enumL; rw [List.length_zip, List.length_range, Nat.min_self, pAll_len hr]) (fun H z => SqL.of z.1) fun A i z H x H' hz ok g y => ?_) ⟨hv, hr⟩⟩
    obtain ⟨T, x1, y1, rfl, hT, rfl, q1, q2⟩ := y
    obtain ⟨z1, z2⟩ := z
    have hz' := List.getElem?_zip_eq_some.mp hz
    have hi := (List.getElem?_eq_some_iff.mp hz'.1).1
    rw [List.length_range] at hi
    have e4 := hz'.1
    rw [List.getElem?_range hi] at e4
    cases e4
    cases q1
    have ex := Ext.laid ok hT (.tup [.int ((z1 : Nat) : Int), y1])
    exact ⟨ex, T, _, y1, rfl, hide_laid ok hT _, rfl, (P z2 y1).mono ex.same (pAll_at g.2 hz'.2 q2)⟩)
theorem i_rev {α : Type} {P : α → V → Pr} {xs : List α} {p : Pos} (hm : X.mg "reversed" = none) (h : E3 X A Γ σ e (RL P xs)) (hg : Gl X "reversed" := by rfl) (hs1 : starEach [e] X.env = [(false, eval e X.env)] := by rfl) (hs : starEach [e] X.env = (false, eval e X.env) :: starEach [] X.env := by rfl) :
    I3 X A Γ σ tg (.Call (.Name "reversed" p) [e] [] pos) xs.reverse P := fun H Q ok g k =>
  Ei.of (pi_reversed hg hm (eaPA [e]) hs1) (A3.ea (a_cons h a_nil hs) ok g fun vs H1 x1 r => by
    obtain ⟨v, r, e1, rv, e3⟩ := r
    cases (show r = [] from e3)
    cases (show vs = [v] from e1)
    obtain ⟨a, vs, ev, hv, hr⟩ := rv
    cases (show v = .ref a from ev)
    refine ⟨a, vs, rfl, SqL.of (hide_le _ _ hv), k _ (pAnd (pAt a (.lst vs)) (pAll P xs vs)) H1 x1
      (walkT_of (walk_rev (K := X.K) (a := a) (xs := vs)) (by rw [List.length_reverse, pAll_len hr]) (fun H z => SqL.of z.1) fun A i z H x H' hz ok g y => ?_) ⟨hv, hr⟩⟩
    obtain ⟨eH, ex⟩ := y
    subst eH
    have hi := (List.getElem?_eq_some_iff.mp hz).1
    rw [List.length_reverse] at hi
    rw [List.getElem?_reverse hi] at hz
    rw [← pAll_len g.2] at ex
    exact ⟨Ext.refl ok, pAll_at g.2 hz ex⟩)
theorem i_str {z : Str} (h : E3 X A Γ σ e (RS z)) : I3 X A Γ σ tg e z.cps.toList (fun c => RS ⟨#[c]⟩) := fun H Q ok g k =>
  Ei.of (pi_str (evPE e)) (h H _ ok g fun v H1 x1 r => ⟨z, r, k _ pTop H1 x1 (walkT_of (walk_str (z := z)) (by simp) (fun _ _ => trivial) fun A i c H x H' hz ok g y => by
    obtain ⟨eH, c', e1, ex⟩ := y
    subst eH
    have e2 : z.cps.toList[i]? = some c' := by rw [Array.getElem?_toList]; exact e1
    rw [e2] at hz
    cases hz
    exact ⟨Ext.refl ok, ex⟩) trivial⟩)

/-! ### comprehensions -/
/-- a target in a comprehension's block -/
structure TgC {β ω : Type} (X : Cx) (tg : Expr) (scope : Scope) (g : TG) (Rz : β → V → Pr) (st : ω → L2.St → L2.St) (Γt : β → ω → Pr) : Prop where
  pg : ∀ (s : Shared) (H : Hp) (C : Addr) (cl : List (Str × Addr)) (fp : List Addr), PG (X.blk s H scope (compEnvC scope cl C X.env) fp) tg g
  run : ∀ z x σ (A : Own) H Q, A.Ok H → (Rz z x).holds (hide A H) → (∀ w, (Γt z w).holds (hide A H) → Q (st w σ) H) → g x σ H Q
theorem tc_name {β : Type} {scope : Scope} {Rz : β → V → Pr} (i : Nat) {x : Str} {pos : Pos} (hN : X.N.Nodup := by assumption) (hi : X.N[i]? = some x := by rfl)
    (hx : ∀ (s : Shared) (H : Hp) (C : Addr) (cl : List (Str × Addr)) (fp : List Addr), Loc (X.blk s H scope (compEnvC scope cl C X.env) fp).env.scope x := by first | exact fun _ _ _ _ _ => .inl rfl | exact fun _ _ _ _ _ => .inr rfl)
    (hf : ∀ (s : Shared) (H : Hp) (C : Addr) (cl : List (Str × Addr)) (fp : List Addr), (X.blk s H scope (compEnvC scope cl C X.env) fp).fn x = true ∨ (X.blk s H scope (compEnvC scope cl C X.env) fp).env.scope.names.lookup x = some .local := by first | exact fun _ _ _ _ _ => .inr rfl | exact fun _ _ _ _ _ => .inl rfl) :
    TgC X (.Name x pos) scope (gName i) Rz (fun (w : V) σ => σ.set i (some w)) Rz := ⟨fun s H C cl fp => pg_name hN hi (hx s H C cl fp) (hf s H C cl fp), fun z x σ A H Q ok r k => k x r⟩
theorem tc_pair {β γ : Type} {scope : Scope} {R1 : β → V → Pr} {R2 : γ → V → Pr} (i j : Nat) {tg : Expr} 
    (hp : ∀ (s : Shared) (H : Hp) (C : Addr) (cl : List (Str × Addr)) (fp : List Addr), PG (X.blk s H scope (compEnvC scope cl C X.env) fp) tg (gTup X.K 2 (gCons (gName i) (gCons (gName j) gNil)))) :
    TgC X tg scope (gTup X.K 2 (gCons (gName i) (gCons (gName j) gNil))) (RT2 R1 R2) (fun (w : V × V) σ => (σ.set i (some w.1)).set j (some w.2)) (fun z w => pAnd (R1 z.1 w.1) (R2 z.2 w.2)) :=
  ⟨hp, fun z x σ A H Q ok ⟨a, v1, v2, e, ho, r1, r2⟩ k => ⟨a, [v1, v2], e, SqT.of (hide_le _ _ ho), rfl, v1, [v2], rfl, v2, [], rfl, rfl, k (v1, v2) ⟨r1, r2⟩⟩⟩
/-- an element (or a test), in the block, whatever else is owned -/
abbrev Blk (X : Cx) (scope : Scope) (P : Cx → Prop) : Prop := ∀ (s : Shared) (H : Hp) (C : Addr) (cl : List (Str × Addr)) (fp : List Addr), P (X.blk s H scope (compEnvC scope cl C X.env) fp)
/-- what a reading of a new object tells -/
def TE3 (A : Own) (Γ : Pr) (σ : L2.St) (t : TE) (R : HO → Pr) : Prop := ∀ (H : Hp) (Q : VK), A.Ok H → Γ.holds (hide A H) → (∀ p o H', New A H H' p o → (R o).holds (hide ((p, o) :: A) H') → Q (.ref p) H') → t σ H Q
/-- an expression read in a comprehension's block -/
def teBlk (X : Cx) (scope : Scope) (elt : Expr) : TE := fun σ' H' Q' => ∀ (s : Shared) (H : Hp) (C : Addr) (cl : List (Str × Addr)) (fp : List Addr), Ev (X.blk s H scope (compEnvC scope cl C X.env) fp) elt σ' H' Q'
theorem teBlk_pe (X : Cx) (scope : Scope) (elt : Expr) : ∀ (s : Shared) (H : Hp) (C : Addr) (cl : List (Str × Addr)) (fp : List Addr), PE (X.blk s H scope (compEnvC scope cl C X.env) fp) elt (teBlk X scope elt) := fun s H C cl fp => ⟨fun pins s' σ' H' Q' I h => h s H C cl fp pins s' I⟩
theorem lcI_sem {β γ ω : Type} {zs : List β} {Rz : β → V → Pr} {own : List (Str × Nat)} {iter elt : Expr} {ifs : List Expr} {scope : Scope} {g : TG} {stw : ω → L2.St → L2.St} {Γt : β → ω → Pr} {tt : TT} (c : β → Bool) (f : β → γ) (Ry : γ → V → Pr)
    (hi : I3 X A Γ σ tg iter zs Rz) (ht : TgC X tg scope g Rz stw Γt) (ok : BlkOk X.N X.env.scope scope own)
    (hT : ∀ (s : Shared) (H : Hp) (C : Addr) (cl : List (Str × Addr)) (fp : List Addr), PTs (X.blk s H scope (compEnvC scope cl C X.env) fp) ifs tt)
    (hc : ∀ (Gd : Pr) (q : Addr × HO) z w, z ∈ zs → ∀ H' Q, Own.Ok (q :: A) H' → (pAnd (pAnd Γ Gd) (Γt z w)).holds (hide (q :: A) H') → (∀ H'', Ext (q :: A) H' H'' → Q (c z) H'') → tt (stw w (wipe σ (own.map (·.2)))) H' Q)
    (he : ∀ (Gd : Pr) (q : Addr × HO) z w, z ∈ zs → c z = true → Blk X scope fun Y => E3 Y (q :: A) (pAnd (pAnd Γ Gd) (Γt z w)) (stw w (wipe σ (own.map (·.2)))) elt (Ry (f z)))
    (hz : zs.length < sizeLine) (hw : ∀ w, wipe (stw w (wipe σ (own.map (·.2)))) (own.map (·.2)) = wipe σ (own.map (·.2)) := by intro _; rfl)
    (hcalm : X.calm = true := by rfl) (hN : X.N.Nodup := by assumption) (hs : ∀ x, foldedSetIterable iter X.env x = pure x := by intro _; rfl) : TE3 A Γ σ (tLc (Ei X tg iter) g tt (teBlk X scope elt) (own.map (·.2))) (OL Ry ((zs.filter c).map f)) := by
  intro H Q okA gm k
  refine hi H _ okA gm fun J Gd H1 x1 wk g1 D hD => ?_
  let Pv : Nat → Hp → Prop := fun i H' => ∃ acc : List V, Own.Ok ((D, .lst acc) :: A) H' ∧ L2.Same (hide A H) (hide ((D, .lst acc) :: A) H') ∧ (pAnd Γ Gd).holds (hide ((D, .lst acc) :: A) H') ∧ (pAll Ry (((zs.take i).filter c).map f) acc).holds (hide ((D, .lst acc) :: A) H')
  refine ⟨fun i m H' => m = zs.length - i ∧ i ≤ zs.length ∧ Pv i H', ⟨zs.length, by simp, Nat.zero_le _, [], ?_⟩, ?_⟩
  · have n := New.laid (A := A) (H := H1) (Ext.refl x1.ok) hD (.lst [])
    exact ⟨n.ok1, x1.same.trans n.same, ⟨Γ.mono (x1.same.trans n.same) gm, Gd.mono n.same g1⟩, trivial⟩
  rintro i m H' ⟨rfl, hle, acc, okD, sm, gg, ga⟩
  by_cases hlt : i < zs.length
  · refine .inr ⟨wk.goes i H' hlt (Gd.mono hide_le gg.2), Pv (i + 1), fun H'' p' => ⟨zs.length - (i + 1), by omega, rfl, hlt, p'⟩, fun x H2 y => ?_⟩
    have hzi := List.getElem?_eq_getElem hlt
    have hmem : zs[i] ∈ zs := List.getElem_mem hlt
    obtain ⟨xt, rz⟩ := wk.yields _ i zs[i] H' x H2 hzi okD gg.2 y
    have gg2 := (pAnd Γ Gd).mono xt.same gg
    have ga2 := (pAll Ry (((zs.take i).filter c).map f) acc).mono xt.same ga
    have sm2 := sm.trans xt.same
    have etk : zs.take (i + 1) = zs.take i ++ [zs[i]] := List.take_succ_eq_append_getElem hlt
    apply ht.run zs[i] x (wipe σ (own.map (·.2))) ((D, .lst acc) :: A) H2 _ xt.ok rz
    intro w hwt
    refine ⟨hw w, ?_⟩
    refine hc Gd (D, .lst acc) zs[i] w hmem H2 _ xt.ok ⟨gg2, hwt⟩ fun H3 x3 => ?_
    cases ec : c zs[i] with
    | true =>
      rw [if_pos rfl]
      intro s0 H0 C0 cl0 fp0
      refine he Gd (D, .lst acc) zs[i] w hmem ec s0 H0 C0 cl0 fp0 H3 _ x3.ok ⟨(pAnd Γ Gd).mono x3.same gg2, (Γt zs[i] w).mono x3.same hwt⟩ fun v H4 x4 rv => ?_
      have ga4 := (pAll Ry (((zs.take i).filter c).map f) acc).mono (x3.same.trans x4.same) ga2
      have okp := own_put (A1 := []) (o' := .lst (acc ++ [v])) x4.ok
      have hl : acc.length < sizeLine := by
        rw [← pAll_len ga4, List.length_map]
        refine Nat.lt_of_le_of_lt (Nat.le_trans (List.length_filter_le ..) ?_) hz
        rw [List.length_take]
        omega
      refine ⟨acc, okp.2.2, hl, acc ++ [v], okp.1, ?_⟩
      have eh : hide ((D, .lst (acc ++ [v])) :: A) (upd H4 D (.lst (acc ++ [v]))) = hide ((D, .lst acc) :: A) H4 := okp.2.1
      rw [eh]
      refine ⟨sm2.trans (x3.same.trans x4.same), (pAnd Γ Gd).mono (x3.same.trans x4.same) gg2, ?_⟩
      rw [etk, List.filter_append, List.map_append]
      have e1 : ([zs[i]].filter c).map f = [f zs[i]] := by simp [List.filter_cons, ec]
      rw [e1]
      exact pAll_app ga4 (pAll_one rv)
    | false =>
      rw [if_neg Bool.false_ne_true]
      refine ⟨acc, x3.ok, sm2.trans x3.same, (pAnd Γ Gd).mono x3.same gg2, ?_⟩
      rw [etk, List.filter_append, List.map_append]
      have e1 : ([zs[i]].filter c).map f = [] := by simp [List.filter_cons, ec]
      rw [e1, List.append_nil]
      exact (pAll Ry (((zs.take i).filter c).map f) acc).mono x3.same ga2
  · have ei : i = zs.length := by omega
    subst ei
    refine .inl ⟨wk.stops H' (Gd.mono hide_le gg.2), ?_⟩
    have o2 := own_app (B := [(D, .lst acc)]) okD
    rw [List.take_length] at ga
    refine k D (.lst acc) H' ⟨okD.at_ _ (List.mem_cons_self ..), (List.nodup_cons.mp okD.nd).1, ?_, o2.1, sm⟩ ⟨acc, rfl, ga⟩
    cases eD : hide A H D with
    | none => rfl
    | some u =>
      have z := (hide_of (x1.same _ _ eD)).1
      rw [hD] at z
      cases z
theorem f_lcI {β γ ω : Type} {zs : List β} {Rz : β → V → Pr} {own : List (Str × Nat)} {iter elt : Expr} {ifs : List Expr} {scope : Scope} {g : TG} {stw : ω → L2.St → L2.St} {Γt : β → ω → Pr} {tt : TT} (c : β → Bool) (f : β → γ) (Ry : γ → V → Pr)
    (hi : I3 X A Γ σ tg iter zs Rz) (ht : TgC X tg scope g Rz stw Γt) (ok : BlkOk X.N X.env.scope scope own)
    (hT : ∀ (s : Shared) (H : Hp) (C : Addr) (cl : List (Str × Addr)) (fp : List Addr), PTs (X.blk s H scope (compEnvC scope cl C X.env) fp) ifs tt)
    (hc : ∀ (Gd : Pr) (q : Addr × HO) z w, z ∈ zs → ∀ H' Q, Own.Ok (q :: A) H' → (pAnd (pAnd Γ Gd) (Γt z w)).holds (hide (q :: A) H') → (∀ H'', Ext (q :: A) H' H'' → Q (c z) H'') → tt (stw w (wipe σ (own.map (·.2)))) H' Q)
    (he : ∀ (Gd : Pr) (q : Addr × HO) z w, z ∈ zs → c z = true → Blk X scope fun Y => E3 Y (q :: A) (pAnd (pAnd Γ Gd) (Γt z w)) (stw w (wipe σ (own.map (·.2)))) elt (Ry (f z)))
    (hz : zs.length < sizeLine) (hw : ∀ w, wipe (stw w (wipe σ (own.map (·.2)))) (own.map (·.2)) = wipe σ (own.map (·.2)) := by intro _; rfl)
    (hcalm : X.calm = true := by rfl) (hN : X.N.Nodup := by assumption) (hs : ∀ x, foldedSetIterable iter X.env x = pure x := by intro _; rfl) : F3 X A Γ σ (.ListComp elt [⟨tg, iter, ifs, 0⟩] scope pos) (OL Ry ((zs.filter c).map f)) := fun H Q okA gm k =>
  Ev.of (pe_lc hcalm hN (eiPI tg iter) ok ht.pg hT (teBlk_pe X scope elt) hs) (lcI_sem c f Ry hi ht ok hT hc he hz hw hcalm hN hs H Q okA gm k)
/-- y = [..] on one line -/
theorem b_setLcI (i : Nat) {y : Str} {py spos : Pos} {rest : List Stmt} {D : Ends} {β γ ω : Type} {zs : List β} {Rz : β → V → Pr} {own : List (Str × Nat)} {iter elt : Expr} {ifs : List Expr} {scope : Scope} {g : TG} {stw : ω → L2.St → L2.St} {Γt : β → ω → Pr} {tt : TT} (c : β → Bool) (f : β → γ) (Ry : γ → V → Pr)
    (hi : I3 X A Γ σ tg iter zs Rz) (ht : TgC X tg scope g Rz stw Γt) (ok : BlkOk X.N X.env.scope scope own)
    (hT : ∀ (s : Shared) (H : Hp) (C : Addr) (cl : List (Str × Addr)) (fp : List Addr), PTs (X.blk s H scope (compEnvC scope cl C X.env) fp) ifs tt)
    (hc : ∀ (Gd : Pr) (q : Addr × HO) z w, z ∈ zs → ∀ H' Q, Own.Ok (q :: A) H' → (pAnd (pAnd Γ Gd) (Γt z w)).holds (hide (q :: A) H') → (∀ H'', Ext (q :: A) H' H'' → Q (c z) H'') → tt (stw w (wipe σ (own.map (·.2)))) H' Q)
    (he : ∀ (Gd : Pr) (q : Addr × HO) z w, z ∈ zs → c z = true → Blk X scope fun Y => E3 Y (q :: A) (pAnd (pAnd Γ Gd) (Γt z w)) (stw w (wipe σ (own.map (·.2)))) elt (Ry (f z)))
    (hz : zs.length < sizeLine) (hw : ∀ w, wipe (stw w (wipe σ (own.map (·.2)))) (own.map (·.2)) = wipe σ (own.map (·.2)) := by intro _; rfl)
    (k : ∀ v, B3 X A (pAnd Γ (RL Ry ((zs.filter c).map f) v)) (σ.set i (some v)) rest D) (hy : X.N[i]? = some y := by rfl) (hyl : X.env.scope.names.lookup y = some .local := by rfl) (hsw : swapsWith (.ListComp elt [⟨tg, iter, ifs, 0⟩] scope pos) (some (.Name y py)) spos.line X.env = pure true := by rfl)
    (hcalm : X.calm = true := by rfl) (hN : X.N.Nodup := by assumption) (hs : ∀ x, foldedSetIterable iter X.env x = pure x := by intro _; rfl) : B3 X A Γ σ (.Assign [.Name y py] (.ListComp elt [⟨tg, iter, ifs, 0⟩] scope pos) spos :: rest) D := fun H okA gm =>
  b_cons (Es.of (ps_setLc hcalm hN hy hyl hsw (eiPI tg iter) ok ht.pg hT (teBlk_pe X scope elt) hs) (lcI_sem c f Ry hi ht ok hT hc he hz hw hcalm hN hs H (fun x H1 => Ess X rest D (σ.set i (some x)) H1) okA gm fun p o H' n r => k _ H' n.ok ⟨Γ.mono n.ext.same gm, RO.lst _ ⟨p, o, rfl, (by show hide A H' p = some o; rw [hide_out n.out]; exact n.at_), (OL Ry ((zs.filter c).map f) o).mono hide_one r⟩⟩))
theorem f_lc {β γ ω : Type} {zs : List β} {Rz : β → V → Pr} {own : List (Str × Nat)} {iter elt : Expr} {scope : Scope} {g : TG} {stw : ω → L2.St → L2.St} {Γt : β → ω → Pr} (f : β → γ) (Ry : γ → V → Pr)
    (hi : I3 X A Γ σ tg iter zs Rz) (ht : TgC X tg scope g Rz stw Γt) (ok : BlkOk X.N X.env.scope scope own)
    (he : ∀ (Gd : Pr) (q : Addr × HO) z w, z ∈ zs → Blk X scope fun Y => E3 Y (q :: A) (pAnd (pAnd Γ Gd) (Γt z w)) (stw w (wipe σ (own.map (·.2)))) elt (Ry (f z)))
    (hz : zs.length < sizeLine) (hw : ∀ w, wipe (stw w (wipe σ (own.map (·.2)))) (own.map (·.2)) = wipe σ (own.map (·.2)) := by intro _; rfl)
    (hcalm : X.calm = true := by rfl) (hN : X.N.Nodup := by assumption) (hs : ∀ x, foldedSetIterable iter X.env x = pure x := by intro _; rfl) : F3 X A Γ σ (.ListComp elt [⟨tg, iter, [], 0⟩] scope pos) (OL Ry (zs.map f)) := by
  have h := f_lcI (pos := pos) (ifs := []) (tt := tYes) (fun _ => true) f Ry hi ht ok (fun _ _ _ _ _ => pts_nil) (fun Gd q z w _ H' Q ok _ k => k H' (Ext.refl ok)) (fun Gd q z w hm _ => he Gd q z w hm) hz hw hcalm hN hs
  have e : (zs.filter fun _ => true) = zs := by simp
  rw [e] at h
  exact h
/-- .. with a test -/
theorem f_lcF {β γ ω : Type} {zs : List β} {Rz : β → V → Pr} {own : List (Str × Nat)} {iter elt cx : Expr} {scope : Scope} {g : TG} {stw : ω → L2.St → L2.St} {Γt : β → ω → Pr} (c : β → Bool) (f : β → γ) (Ry : γ → V → Pr)
    (hi : I3 X A Γ σ tg iter zs Rz) (ht : TgC X tg scope g Rz stw Γt) (ok : BlkOk X.N X.env.scope scope own)
    (hc : ∀ (Gd : Pr) (q : Addr × HO) z w, z ∈ zs → Blk X scope fun Y => T3 Y (q :: A) (pAnd (pAnd Γ Gd) (Γt z w)) (stw w (wipe σ (own.map (·.2)))) cx (c z))
    (he : ∀ (Gd : Pr) (q : Addr × HO) z w, z ∈ zs → c z = true → Blk X scope fun Y => E3 Y (q :: A) (pAnd (pAnd Γ Gd) (Γt z w)) (stw w (wipe σ (own.map (·.2)))) elt (Ry (f z)))
    (hz : zs.length < sizeLine) (hw : ∀ w, wipe (stw w (wipe σ (own.map (·.2)))) (own.map (·.2)) = wipe σ (own.map (·.2)) := by intro _; rfl)
    (hcalm : X.calm = true := by rfl) (hN : X.N.Nodup := by assumption) (hs : ∀ x, foldedSetIterable iter X.env x = pure x := by intro _; rfl) : F3 X A Γ σ (.ListComp elt [⟨tg, iter, [cx], 0⟩] scope pos) (OL Ry ((zs.filter c).map f)) :=
  f_lcI (tt := fun σ' H' Q' => ∀ (s : Shared) (H : Hp) (C : Addr) (cl : List (Str × Addr)) (fp : List Addr), Et (X.blk s H scope (compEnvC scope cl C X.env) fp) cx σ' H' Q') c f Ry hi ht ok
    (fun s H C cl fp => pts_one ⟨fun pins s' σ' H' Q' I h => h s H C cl fp pins s' I⟩) (fun Gd q z w hm H' Q ok g k s0 H0 C0 cl0 fp0 => hc Gd q z w hm s0 H0 C0 cl0 fp0 H' Q ok g k) he hz hw hcalm hN hs
theorem b_setLc (i : Nat) {y : Str} {py spos : Pos} {rest : List Stmt} {D : Ends} {β γ ω : Type} {zs : List β} {Rz : β → V → Pr} {own : List (Str × Nat)} {iter elt : Expr} {scope : Scope} {g : TG} {stw : ω → L2.St → L2.St} {Γt : β → ω → Pr} (f : β → γ) (Ry : γ → V → Pr)
    (hi : I3 X A Γ σ tg iter zs Rz) (ht : TgC X tg scope g Rz stw Γt) (ok : BlkOk X.N X.env.scope scope own)
    (he : ∀ (Gd : Pr) (q : Addr × HO) z w, z ∈ zs → Blk X scope fun Y => E3 Y (q :: A) (pAnd (pAnd Γ Gd) (Γt z w)) (stw w (wipe σ (own.map (·.2)))) elt (Ry (f z)))
    (hz : zs.length < sizeLine) (hw : ∀ w, wipe (stw w (wipe σ (own.map (·.2)))) (own.map (·.2)) = wipe σ (own.map (·.2)) := by intro _; rfl)
    (k : ∀ v, B3 X A (pAnd Γ (RL Ry (zs.map f) v)) (σ.set i (some v)) rest D) (hy : X.N[i]? = some y := by rfl) (hyl : X.env.scope.names.lookup y = some .local := by rfl) (hsw : swapsWith (.ListComp elt [⟨tg, iter, [], 0⟩] scope pos) (some (.Name y py)) spos.line X.env = pure true := by rfl)
    (hcalm : X.calm = true := by rfl) (hN : X.N.Nodup := by assumption) (hs : ∀ x, foldedSetIterable iter X.env x = pure x := by intro _; rfl) : B3 X A Γ σ (.Assign [.Name y py] (.ListComp elt [⟨tg, iter, [], 0⟩] scope pos) spos :: rest) D := by
  refine b_setLcI (pos := pos) (ifs := []) (tt := tYes) i (fun _ => true) f Ry hi ht ok (fun _ _ _ _ _ => pts_nil) (fun Gd q z w _ H' Q ok _ k => k H' (Ext.refl ok)) (fun Gd q z w hm _ => he Gd q z w hm) hz hw ?_ hy hyl hsw hcalm hN hs
  have e : (zs.filter fun _ => true) = zs := by simp
  rw [e]
  exact k
/-- .. with a test -/
theorem b_setLcF (i : Nat) {y : Str} {py spos : Pos} {rest : List Stmt} {D : Ends} {β γ ω : Type} {zs : List β} {Rz : β → V → Pr} {own : List (Str × Nat)} {iter elt cx : Expr} {scope : Scope} {g : TG} {stw : ω → L2.St → L2.St} {Γt : β → ω → Pr} (c : β → Bool) (f : β → γ) (Ry : γ → V → Pr)
    (hi : I3 X A Γ σ tg iter zs Rz) (ht : TgC X tg scope g Rz stw Γt) (ok : BlkOk X.N X.env.scope scope own)
    (hc : ∀ (Gd : Pr) (q : Addr × HO) z w, z ∈ zs → Blk X scope fun Y => T3 Y (q :: A) (pAnd (pAnd Γ Gd) (Γt z w)) (stw w (wipe σ (own.map (·.2)))) cx (c z))
    (he : ∀ (Gd : Pr) (q : Addr × HO) z w, z ∈ zs → c z = true → Blk X scope fun Y => E3 Y (q :: A) (pAnd (pAnd Γ Gd) (Γt z w)) (stw w (wipe σ (own.map (·.2)))) elt (Ry (f z)))
    (hz : zs.length < sizeLine) (hw : ∀ w, wipe (stw w (wipe σ (own.map (·.2)))) (own.map (·.2)) = wipe σ (own.map (·.2)) := by intro _; rfl)
    (k : ∀ v, B3 X A (pAnd Γ (RL Ry ((zs.filter c).map f) v)) (σ.set i (some v)) rest D) (hy : X.N[i]? = some y := by rfl) (hyl : X.env.scope.names.lookup y = some .local := by rfl) (hsw : swapsWith (.ListComp elt [⟨tg, iter, [cx], 0⟩] scope pos) (some (.Name y py)) spos.line X.env = pure true := by rfl)
    (hcalm : X.calm = true := by rfl) (hN : X.N.Nodup := by assumption) (hs : ∀ x, foldedSetIterable iter X.env x = pure x := by intro _; rfl) : B3 X A Γ σ (.Assign [.Name y py] (.ListComp elt [⟨tg, iter, [cx], 0⟩] scope pos) spos :: rest) D :=
  b_setLcI (pos := pos) i (tt := fun σ' H' Q' => ∀ (s : Shared) (H : Hp) (C : Addr) (cl : List (Str × Addr)) (fp : List Addr), Et (X.blk s H scope (compEnvC scope cl C X.env) fp) cx σ' H' Q') c f Ry hi ht ok
    (fun s H C cl fp => pts_one ⟨fun pins s' σ' H' Q' I h => h s H C cl fp pins s' I⟩) (fun Gd q z w hm H' Q ok g k s0 H0 C0 cl0 fp0 => hc Gd q z w hm s0 H0 C0 cl0 fp0 H' Q ok g k) he hz hw k hy hyl hsw hcalm hN hs
end
end Pm
/-! Pm5 -/
set_option maxHeartbeats 2000000
/-! Pm5: built-ins over what values stand for. -/
namespace Pm
open PySem PySem.Spec L2

/-! ### what may be seen as a list, as a tuple -/
/-- Ra's value is a list or tuple whose items have P -/
def Sees (K : PySem.W.Frag) (A : Own) (Γ : Pr) (Ra : V → Pr) (P : List V → Pr) : Prop := ∀ v H, A.Ok H → Γ.holds (hide A H) → (Ra v).holds (hide A H) → ∃ a vs, v = .ref a ∧ (SqL K H a vs ∨ SqT K H a vs) ∧ (P vs).holds (hide A H)
def SeesL (K : PySem.W.Frag) (A : Own) (Γ : Pr) (Ra : V → Pr) (P : List V → Pr) : Prop := ∀ v H, A.Ok H → Γ.holds (hide A H) → (Ra v).holds (hide A H) → ∃ a vs, v = .ref a ∧ SqL K H a vs ∧ (P vs).holds (hide A H)
section
variable {K : PySem.W.Frag} {A : Own} {Γ : Pr} {Ra : V → Pr} {P : List V → Pr}
theorem SeesL.s (h : SeesL K A Γ Ra P) : Sees K A Γ Ra P := fun v H ok g r => by
  obtain ⟨a, vs, e, s, p⟩ := h v H ok g r
  exact ⟨a, vs, e, .inl s, p⟩
theorem s_rl {α : Type} {R : α → V → Pr} {xs : List α} : SeesL K A Γ (RL R xs) (pAll R xs) := fun v H ok g ⟨a, vs, e, h, r⟩ => ⟨a, vs, e, SqL.of (hide_le _ _ h), r⟩
theorem s_rt {α : Type} {R : α → V → Pr} {xs : List α} : Sees K A Γ (RT R xs) (pAll R xs) := fun v H ok g ⟨a, vs, e, h, r⟩ => ⟨a, vs, e, .inr (SqT.of (hide_le _ _ h)), r⟩
theorem s_q {xs : List V} : SeesL K A Γ (RQ K xs) (fun vs => pP (vs = xs)) := fun v H ok g ⟨a, e, h⟩ => ⟨a, xs, e, L2.Same.seq hide_le h, rfl⟩
theorem s_rt2 {α β : Type} {R1 : α → V → Pr} {R2 : β → V → Pr} {x : α × β} : Sees K A Γ (RT2 R1 R2 x) (fun vs => pEx fun v1 => pEx fun v2 => pAnd (pP (vs = [v1, v2])) (pAnd (R1 x.1 v1) (R2 x.2 v2))) :=
  fun v H ok g ⟨a, v1, v2, e, h, r1, r2⟩ => ⟨a, _, e, .inr (SqT.of (hide_le _ _ h)), v1, v2, rfl, r1, r2⟩
/-- an owned list -/
theorem s_own {p : Addr} {vs : List V} (h : (p, HO.lst vs) ∈ A) : SeesL K A Γ (RV (.ref p)) (fun ws => pP (ws = vs)) := fun v H ok g e => ⟨p, vs, e, SqL.of (ok.at_ _ h), rfl⟩
end

section
variable {X : Cx} {A B : Own} {Γ Δ : Pr} {σ : L2.St} {a b c e : Expr} {R Ra Rb Rc : V → Pr} {pos : Pos} {es : List Expr} {Ps : List V → Pr} {P : List V → Pr}
abbrev one1 (X : Cx) (e : Expr) : Prop := starEach [e] X.env = (false, eval e X.env) :: starEach [] X.env
theorem pc1 {R : V → Pr} {vs : List V} {G : Hp} (h : (PC R PN vs).holds G) : ∃ v, vs = [v] ∧ (R v).holds G := by
  obtain ⟨v, r, e1, rv, e2⟩ := h
  cases (show r = [] from e2)
  exact ⟨v, e1, rv⟩
theorem pc2 {R R' : V → Pr} {vs : List V} {G : Hp} (h : (PC R (PC R' PN) vs).holds G) : ∃ v w, vs = [v, w] ∧ (R v).holds G ∧ (R' w).holds G := by
  obtain ⟨v, r, e1, rv, h2⟩ := h
  obtain ⟨w, e2, rw⟩ := pc1 h2
  cases e2
  exact ⟨v, w, e1, rv, rw⟩
theorem pc3 {R R' R'' : V → Pr} {vs : List V} {G : Hp} (h : (PC R (PC R' (PC R'' PN)) vs).holds G) : ∃ v w z, vs = [v, w, z] ∧ (R v).holds G ∧ (R' w).holds G ∧ (R'' z).holds G := by
  obtain ⟨v, r, e1, rv, h2⟩ := h
  obtain ⟨w, z, e2, rw, rz⟩ := pc2 h2
  cases e2
  exact ⟨v, w, z, e1, rv, rw, rz⟩

/-! ### len -/
theorem e_len {p : Pos} {n : Nat} (hm : X.mg "len" = none) (h : E3 X A Γ σ e Ra) (hs : Sees X.K A Γ Ra P) (hn : ∀ vs G, Γ.holds G → (P vs).holds G → vs.length = n) (hg : Gl X "len" := by rfl) (h1 : one1 X e := by rfl) : E3 X A Γ σ (.Call (.Name "len" p) [e] [] pos) (RI n) :=
  e_blt (es := []) call_len_seq hm boot_len (a_cons h a_nil h1) (fun vs H Q ok g r k => by
    obtain ⟨v, rfl, rv⟩ := pc1 r
    obtain ⟨a, ws, rfl, s, p⟩ := hs v H ok g rv
    exact ⟨a, ws, rfl, s, k _ _ (Ext.refl ok) (by show V.int _ = V.int _; rw [hn ws _ g p])⟩) hg (by decide) (by decide) h1 (by rfl)
theorem e_lenL {p : Pos} {α : Type} {R : α → V → Pr} {xs : List α} (hm : X.mg "len" = none) (h : E3 X A Γ σ e (RL R xs)) (hg : Gl X "len" := by rfl) (h1 : one1 X e := by rfl) : E3 X A Γ σ (.Call (.Name "len" p) [e] [] pos) (RI xs.length) := e_len hm h s_rl.s (fun vs G _ r => (pAll_len r).symm) hg h1
theorem e_lenT {p : Pos} {α : Type} {R : α → V → Pr} {xs : List α} (hm : X.mg "len" = none) (h : E3 X A Γ σ e (RT R xs)) (hg : Gl X "len" := by rfl) (h1 : one1 X e := by rfl) : E3 X A Γ σ (.Call (.Name "len" p) [e] [] pos) (RI xs.length) := e_len hm h s_rt (fun vs G _ r => (pAll_len r).symm) hg h1
theorem e_len2 {p : Pos} {α β : Type} {R1 : α → V → Pr} {R2 : β → V → Pr} {x : α × β} (hm : X.mg "len" = none) (h : E3 X A Γ σ e (RT2 R1 R2 x)) (hg : Gl X "len" := by rfl) (h1 : one1 X e := by rfl) : E3 X A Γ σ (.Call (.Name "len" p) [e] [] pos) (RI ((2 : Nat) : Int)) :=
  e_len hm h s_rt2 (fun vs G _ ⟨v1, v2, e, _⟩ => by cases (show vs = [v1, v2] from e); rfl) hg h1
theorem e_lenO {p : Pos} {q : Addr} {vs : List V} (hm : X.mg "len" = none) (h : E3 X A Γ σ e (RV (.ref q))) (ho : (q, HO.lst vs) ∈ A) (hg : Gl X "len" := by rfl) (h1 : one1 X e := by rfl) : E3 X A Γ σ (.Call (.Name "len" p) [e] [] pos) (RI vs.length) :=
  e_len hm h (s_own ho).s (fun ws G _ r => congrArg List.length r) hg h1
theorem e_lenS {p : Pos} {z : Str} (hm : X.mg "len" = none) (h : E3 X A Γ σ e (RS z)) (hz : z.length ≤ sizeLine) (hg : Gl X "len" := by rfl) (h1 : one1 X e := by rfl) : E3 X A Γ σ (.Call (.Name "len" p) [e] [] pos) (RI z.length) :=
  e_blt (es := []) call_len_str hm boot_len (a_cons h a_nil h1) (fun vs H Q ok g r k => by
    obtain ⟨v, rfl, rv⟩ := pc1 r
    cases (show v = .str z from rv)
    exact ⟨z, rfl, hz, k _ _ (Ext.refl ok) rfl⟩) hg (by decide) (by decide) h1 (by rfl)

/-! ### items -/
theorem e_at {i : Int} (ha : E3 X A Γ σ a Ra) (hb : E3 X A Γ σ b (RI i)) (hs : Sees X.K A Γ Ra P) (hv : ∀ vs G, Γ.holds G → (P vs).holds G → ∃ v, atI vs i = some v ∧ (R v).holds G) (hp : PlainIx b := by intro _ _; rfl) : E3 X A Γ σ (.Subscript a b pos) R :=
  e_ix ix_seq (fun x y H Q ok g rx ry k => by
    obtain ⟨p, vs, rfl, s, r⟩ := hs x H ok g rx
    cases (show y = .int i from ry)
    obtain ⟨v, e1, e2⟩ := hv vs _ g r
    rcases s with s | s
    · exact .inl ⟨p, vs, i, v, rfl, rfl, s, e1, k _ _ (Ext.refl ok) e2⟩
    · exact .inr (.inl ⟨p, vs, i, v, rfl, rfl, s, e1, k _ _ (Ext.refl ok) e2⟩)) ha hb hp
theorem at_all {α : Type} {R : α → V → Pr} {xs : List α} {x : α} {j : Nat} {i : Int} (hj : i = (j : Int)) (hx : xs[j]? = some x) (vs : List V) (G : Hp) (h : (pAll R xs vs).holds G) : ∃ v, atI vs i = some v ∧ (R x v).holds G := by
  obtain ⟨v, e1, e2⟩ := pAll_get h hx
  exact ⟨v, by rw [hj]; exact atI_nat e1, e2⟩
theorem e_atL {α : Type} {R : α → V → Pr} {xs : List α} {x : α} {i : Int} (j : Nat) (ha : E3 X A Γ σ a (RL R xs)) (hb : E3 X A Γ σ b (RI i)) (hj : i = (j : Int)) (hx : xs[j]? = some x) (hp : PlainIx b := by intro _ _; rfl) : E3 X A Γ σ (.Subscript a b pos) (R x) := e_at ha hb s_rl.s (fun vs G _ h => at_all hj hx vs G h) hp
theorem e_atT {α : Type} {R : α → V → Pr} {xs : List α} {x : α} {i : Int} (j : Nat) (ha : E3 X A Γ σ a (RT R xs)) (hb : E3 X A Γ σ b (RI i)) (hj : i = (j : Int)) (hx : xs[j]? = some x) (hp : PlainIx b := by intro _ _; rfl) : E3 X A Γ σ (.Subscript a b pos) (R x) := e_at ha hb s_rt (fun vs G _ h => at_all hj hx vs G h) hp
theorem e_fst {α β : Type} {R1 : α → V → Pr} {R2 : β → V → Pr} {x : α × β} {k p} (ha : E3 X A Γ σ a (RT2 R1 R2 x)) : E3 X A Γ σ (.Subscript a (.Constant (.int 0) k p) pos) (R1 x.1) :=
  e_at ha e_int s_rt2 fun vs G _ ⟨v1, v2, e, r1, r2⟩ => ⟨v1, by cases (show vs = [v1, v2] from e); rfl, r1⟩
theorem e_snd {α β : Type} {R1 : α → V → Pr} {R2 : β → V → Pr} {x : α × β} {k p} (ha : E3 X A Γ σ a (RT2 R1 R2 x)) : E3 X A Γ σ (.Subscript a (.Constant (.int 1) k p) pos) (R2 x.2) :=
  e_at ha e_int s_rt2 fun vs G _ ⟨v1, v2, e, r1, r2⟩ => ⟨v2, by cases (show vs = [v1, v2] from e); rfl, r2⟩
/-- the last one, xs[-1] -/
theorem atI_neg1 {α : Type} {xs : List α} {x : α} (h : xs.getLast? = some x) : atI xs (-1) = some x := by
  obtain ⟨ys, rfl⟩ := List.getLast?_eq_some_iff.mp h
  exact atI_last ys x
theorem e_chr {z : Str} {i : Int} {ch : Nat} (ha : E3 X A Γ σ a (RS z)) (hb : E3 X A Γ σ b (RI i)) (hz : z.length ≤ sizeLine) (hx : atI z.cps.toList i = some ch) (hp : PlainIx b := by intro _ _; rfl) : E3 X A Γ σ (.Subscript a b pos) (RS ⟨#[ch]⟩) :=
  e_ix ix_str (fun x y H Q ok g rx ry k => by
    cases (show x = .str z from rx)
    cases (show y = .int i from ry)
    exact ⟨z, i, ch, rfl, rfl, hz, hx, k _ _ (Ext.refl ok) rfl⟩) ha hb hp

/-! ### in -/
theorem flat_strs (xs : List Str) : (xs.map V.str).all flatV = true := by
  induction xs with
  | nil => rfl
  | cons x r ih => exact ih
theorem inV_strs (x : Str) (xs : List Str) : inV (.str x) (xs.map V.str) = decide (x ∈ xs) := by
  induction xs with
  | nil => rfl
  | cons y r ih =>
    show (eqV (.str y) (.str x) || inV (.str x) (r.map V.str)) = _
    rw [ih]
    show ((y == x) || _) = _
    by_cases e : y = x
    · subst e; simp
    · have e2 : ¬ x = y := fun z => e z.symm
      simp [e, e2]
theorem o_inS {x : Str} {xs : List Str} (hs : Sees X.K A Γ Rb P) (hP : ∀ vs G, Γ.holds G → (P vs).holds G → vs = xs.map V.str) : Op3 A Γ (RS x) Rb (rIn X.K false) (RB (decide (x ∈ xs))) := fun u w H Q ok g hu hw k => by
  cases (show u = .str x from hu)
  obtain ⟨p, vs, rfl, s, r⟩ := hs w H ok g hw
  cases hP vs _ g r
  exact ⟨p, _, rfl, s, rfl, flat_strs xs, k _ _ (Ext.refl ok) (by show V.bl _ = V.bl _; rw [← inV_strs]; rfl)⟩
theorem o_notInS {x : Str} {xs : List Str} (hs : Sees X.K A Γ Rb P) (hP : ∀ vs G, Γ.holds G → (P vs).holds G → vs = xs.map V.str) : Op3 A Γ (RS x) Rb (rIn X.K true) (RB (!decide (x ∈ xs))) := fun u w H Q ok g hu hw k => by
  cases (show u = .str x from hu)
  obtain ⟨p, vs, rfl, s, r⟩ := hs w H ok g hw
  cases hP vs _ g r
  exact ⟨p, _, rfl, s, rfl, flat_strs xs, k _ _ (Ext.refl ok) (by show V.bl _ = V.bl _; rw [← inV_strs]; rfl)⟩
theorem pAll_strs {xs : List Str} {vs : List V} {G : Hp} (h : (pAll RS xs vs).holds G) : vs = xs.map V.str := pAll_rv (f := V.str) h
/-- a text in a list of texts: of the module, or tracked -/
theorem e_inQ {x : Str} {xs : List Str} (ha : E3 X A Γ σ a (RS x)) (hb : E3 X A Γ σ b (RQ X.K (xs.map V.str))) (hm : behindInMarks .In b = false := by with_unfolding_all rfl) : E3 X A Γ σ (.Compare a [.In] [b] pos) (RB (decide (x ∈ xs))) := e_cmp op_in_seq hm (o_inS s_q.s fun _ _ _ e => e) ha hb
theorem t_inQ {x : Str} {xs : List Str} (ha : E3 X A Γ σ a (RS x)) (hb : E3 X A Γ σ b (RQ X.K (xs.map V.str))) (hm : behindInMarks .In b = false := by with_unfolding_all rfl) : T3 X A Γ σ (.Compare a [.In] [b] pos) (decide (x ∈ xs)) := t_cmp op_in_seq hm (o_inS s_q.s fun _ _ _ e => e) ha hb
theorem e_ninQ {x : Str} {xs : List Str} (ha : E3 X A Γ σ a (RS x)) (hb : E3 X A Γ σ b (RQ X.K (xs.map V.str))) (hm : behindInMarks .NotIn b = false := by with_unfolding_all rfl) : E3 X A Γ σ (.Compare a [.NotIn] [b] pos) (RB (!decide (x ∈ xs))) := e_cmp op_notIn_seq hm (o_notInS s_q.s fun _ _ _ e => e) ha hb
theorem t_ninQ {x : Str} {xs : List Str} (ha : E3 X A Γ σ a (RS x)) (hb : E3 X A Γ σ b (RQ X.K (xs.map V.str))) (hm : behindInMarks .NotIn b = false := by with_unfolding_all rfl) : T3 X A Γ σ (.Compare a [.NotIn] [b] pos) (!decide (x ∈ xs)) := t_cmp op_notIn_seq hm (o_notInS s_q.s fun _ _ _ e => e) ha hb
theorem e_inL {x : Str} {xs : List Str} (ha : E3 X A Γ σ a (RS x)) (hb : E3 X A Γ σ b (RL RS xs)) (hm : behindInMarks .In b = false := by with_unfolding_all rfl) : E3 X A Γ σ (.Compare a [.In] [b] pos) (RB (decide (x ∈ xs))) := e_cmp op_in_seq hm (o_inS s_rl.s fun _ _ _ => pAll_strs) ha hb
theorem t_inL {x : Str} {xs : List Str} (ha : E3 X A Γ σ a (RS x)) (hb : E3 X A Γ σ b (RL RS xs)) (hm : behindInMarks .In b = false := by with_unfolding_all rfl) : T3 X A Γ σ (.Compare a [.In] [b] pos) (decide (x ∈ xs)) := t_cmp op_in_seq hm (o_inS s_rl.s fun _ _ _ => pAll_strs) ha hb
theorem e_ninL {x : Str} {xs : List Str} (ha : E3 X A Γ σ a (RS x)) (hb : E3 X A Γ σ b (RL RS xs)) (hm : behindInMarks .NotIn b = false := by with_unfolding_all rfl) : E3 X A Γ σ (.Compare a [.NotIn] [b] pos) (RB (!decide (x ∈ xs))) := e_cmp op_notIn_seq hm (o_notInS s_rl.s fun _ _ _ => pAll_strs) ha hb
theorem t_ninL {x : Str} {xs : List Str} (ha : E3 X A Γ σ a (RS x)) (hb : E3 X A Γ σ b (RL RS xs)) (hm : behindInMarks .NotIn b = false := by with_unfolding_all rfl) : T3 X A Γ σ (.Compare a [.NotIn] [b] pos) (!decide (x ∈ xs)) := t_cmp op_notIn_seq hm (o_notInS s_rl.s fun _ _ _ => pAll_strs) ha hb
/-- a sign in a text -/
theorem e_inC {ch : Nat} {z : Str} (ha : E3 X A Γ σ a (RS ⟨#[ch]⟩)) (hb : E3 X A Γ σ b (RS z)) (hm : behindInMarks .In b = false := by with_unfolding_all rfl) : E3 X A Γ σ (.Compare a [.In] [b] pos) (RB (decide (ch ∈ z.cps.toList))) :=
  e_cmp op_in_sign hm (fun u w H Q ok g hu hw k => ⟨ch, z, hu, hw, k _ _ (Ext.refl ok) rfl⟩) ha hb
theorem t_ninC {ch : Nat} {z : Str} (ha : E3 X A Γ σ a (RS ⟨#[ch]⟩)) (hb : E3 X A Γ σ b (RS z)) (hm : behindInMarks .NotIn b = false := by with_unfolding_all rfl) : T3 X A Γ σ (.Compare a [.NotIn] [b] pos) (!decide (ch ∈ z.cps.toList)) :=
  t_cmp op_notIn_sign hm (fun u w H Q ok g hu hw k => ⟨ch, z, hu, hw, k _ _ (Ext.refl ok) rfl⟩) ha hb

/-! ### all, any -/
theorem e_all {p : Pos} {bs : List Bool} (hm : X.mg "all" = none) (h : E3 X A Γ σ e (RL RB bs)) (hc : X.calm = true := by rfl) (hg : Gl X "all" := by rfl) (h1 : one1 X e := by rfl) : E3 X A Γ σ (.Call (.Name "all" p) [e] [] pos) (RB (bs.all id)) :=
  e_blt (es := []) (cr_all hc) hm (by decide +kernel) (a_cons h a_nil h1) (fun vs H Q ok g r k => by
    obtain ⟨v, rfl, a, ws, rfl, h, rw⟩ := pc1 r
    cases pAll_rv (f := V.bl) rw
    exact ⟨a, bs, rfl, SqL.of (hide_le _ _ h), k _ _ (Ext.refl ok) rfl⟩) hg (by decide) (by decide) h1 (by rfl)
theorem e_any {p : Pos} {bs : List Bool} (hm : X.mg "any" = none) (h : E3 X A Γ σ e (RL RB bs)) (hc : X.calm = true := by rfl) (hg : Gl X "any" := by rfl) (h1 : one1 X e := by rfl) : E3 X A Γ σ (.Call (.Name "any" p) [e] [] pos) (RB (bs.any id)) :=
  e_blt (es := []) (cr_any hc) hm (by decide +kernel) (a_cons h a_nil h1) (fun vs H Q ok g r k => by
    obtain ⟨v, rfl, a, ws, rfl, h, rw⟩ := pc1 r
    cases pAll_rv (f := V.bl) rw
    exact ⟨a, bs, rfl, SqL.of (hide_le _ _ h), k _ _ (Ext.refl ok) rfl⟩) hg (by decide) (by decide) h1 (by rfl)

/-! ### isinstance -/
theorem tyX_mono {K : PySem.W.Frag} {G G' : Hp} {v : V} {t : Value} (s : L2.Same G G') (h : TyX K G v t) : TyX K G' v t := by
  cases h with
  | base b =>
    cases b with
    | non => exact .base .non
    | bl y => exact .base (.bl y)
    | int i => exact .base (.int i)
    | str y => exact .base (.str y)
    | flt y => exact .base (.flt y)
    | lst e => exact .base (.lst (s _ _ e))
    | frz e => exact .base (.frz (s _ _ e))
    | tup e => exact .base (.tup (s _ _ e))
    | dK e => exact .base (.dK (s _ _ e))
    | dT e => exact .base (.dT (s _ _ e))
    | ins e cl ha hn htk hm => exact .base (.ins (s _ _ e) cl ha hn htk hm)
  | byt y => exact .byt y
  | set e => exact .set (s _ _ e)
  | kList e c => exact .kList e c
  | kTuple e c => exact .kTuple e c
  | kDict e c => exact .kDict e c
  | fTuple e => exact .fTuple (s _ _ e)
  | fDict e => exact .fDict (s _ _ e)
/-- of the built-in type T -/
def pTy (K : PySem.W.Frag) (T : String) (v : V) : Pr := ⟨fun G => TyX K G v (.type T), fun s h => tyX_mono s h⟩
theorem ty_rl {K : PySem.W.Frag} {α : Type} {R : α → V → Pr} {xs : List α} {v : V} : (RL R xs v).le (pTy K "list" v) := fun G ⟨a, vs, e, h, r⟩ => by subst e; exact .base (.lst h)
theorem ty_rt {K : PySem.W.Frag} {α : Type} {R : α → V → Pr} {xs : List α} {v : V} : (RT R xs v).le (pTy K "tuple" v) := fun G ⟨a, vs, e, h, r⟩ => by subst e; exact .base (.tup h)
theorem ty_rt2 {K : PySem.W.Frag} {α β : Type} {R1 : α → V → Pr} {R2 : β → V → Pr} {x : α × β} {v : V} : (RT2 R1 R2 x v).le (pTy K "tuple" v) := fun G ⟨a, v1, v2, e, h, r⟩ => by subst e; exact .base (.tup h)
theorem ty_ri {K : PySem.W.Frag} {i : Int} {v : V} : (RI i v).le (pTy K "int" v) := fun G e => by cases (show v = .int i from e); exact .base (.int i)
theorem ty_rb {K : PySem.W.Frag} {i : Bool} {v : V} : (RB i v).le (pTy K "bool" v) := fun G e => by cases (show v = .bl i from e); exact .base (.bl i)
theorem ty_rs {K : PySem.W.Frag} {i : Str} {v : V} : (RS i v).le (pTy K "str" v) := fun G e => by cases (show v = .str i from e); exact .base (.str i)
theorem ty_rn {K : PySem.W.Frag} {v : V} : (RN v).le (pTy K "NoneType" v) := fun G e => by cases (show v = .non from e); exact .base .non
/-- a built-in type's name -/
theorem e_ty {x : Str} {n : String} (hm : X.mg x = none) (hv : bootBuiltins x = some (.type n)) (hg : Gl X x := by rfl) (hn : x ≠ "__name__" := by decide) (hd : (x == ("__debug__" : Str)) = false := by decide) : E3 X A Γ σ (.Name x pos) (RV (.ty n)) :=
  fun H Q ok g k => Ev.of (pe_bltn (v := .ty n) hg hm hv rfl hn hd) (k _ _ (Ext.refl ok) rfl)
/-- isinstance(e, T) -/
theorem e_isi {p : Pos} {T : String} {C : String} {t : Bool} (hm : X.mg "isinstance" = none) (h : E3 X A Γ σ e Ra) (hT : ∀ v, (Ra v).le (pTy X.K T v)) (hc : E3 X A Γ σ c (RV (.ty C))) (hk : kitB T C = some t) (hg : Gl X "isinstance" := by rfl)
    (h1 : starEach [e, c] X.env = (false, eval e X.env) :: starEach [c] X.env := by rfl) (h2 : one1 X c := by rfl) : E3 X A Γ σ (.Call (.Name "isinstance" p) [e, c] [] pos) (RB t) :=
  e_blt (es := [c]) call_isi hm (by decide +kernel) (a_cons h (a_cons hc a_nil h2) h1) (fun vs H Q ok g r k => by
    obtain ⟨v, w, rfl, rv, rw⟩ := pc2 r
    cases (show w = .ty C from rw)
    exact ⟨v, .ty C, .type T, .type C, t, rfl, .ty C, tyX_mono hide_le (hT v _ rv), kit_ty hk, k _ _ (Ext.refl ok) rfl⟩) hg (by decide) (by decide) h1 (by show ((backTo pos (starEach [c] X.env)).any (·.1)) = false; rw [h2]; rfl)
/-- built-in types' names -/
theorem e_tI (hm : X.mg "int" = none) (hg : Gl X "int" := by rfl) : E3 X A Γ σ (.Name "int" pos) (RV (.ty "int")) := e_ty hm (by decide +kernel) hg (by decide) (by decide)
theorem e_tB (hm : X.mg "bool" = none) (hg : Gl X "bool" := by rfl) : E3 X A Γ σ (.Name "bool" pos) (RV (.ty "bool")) := e_ty hm (by decide +kernel) hg (by decide) (by decide)
theorem e_tS (hm : X.mg "str" = none) (hg : Gl X "str" := by rfl) : E3 X A Γ σ (.Name "str" pos) (RV (.ty "str")) := e_ty hm (by decide +kernel) hg (by decide) (by decide)
theorem e_tL (hm : X.mg "list" = none) (hg : Gl X "list" := by rfl) : E3 X A Γ σ (.Name "list" pos) (RV (.ty "list")) := e_ty hm (by decide +kernel) hg (by decide) (by decide)
theorem e_tT (hm : X.mg "tuple" = none) (hg : Gl X "tuple" := by rfl) : E3 X A Γ σ (.Name "tuple" pos) (RV (.ty "tuple")) := e_ty hm (by decide +kernel) hg (by decide) (by decide)
theorem e_tD (hm : X.mg "dict" = none) (hg : Gl X "dict" := by rfl) : E3 X A Γ σ (.Name "dict" pos) (RV (.ty "dict")) := e_ty hm (by decide +kernel) hg (by decide) (by decide)
/-- isinstance(e, (list, tuple)), and of three -/
theorem o_names {es : List Expr} {Ps : List V → Pr} {k} (h : A3 X A Γ σ es Ps) (hl : ∀ vs G, (Ps vs).holds G → vs.length ≤ 1000) : E3 X A Γ σ (.Tuple es k pos) (RO (fun o => pEx fun vs => pAnd (pP (o = .tup vs)) (Ps vs))) := (f_tup h hl).v
theorem e_isi2 {p tpos : Pos} {k : Nat} {c1 c2 : Expr} {T C1 C2 : String} {t : Bool} (hm : X.mg "isinstance" = none) (h : E3 X A Γ σ e Ra) (hT : ∀ v, (Ra v).le (pTy X.K T v)) (h1 : E3 X A Γ σ c1 (RV (.ty C1))) (h2 : E3 X A Γ σ c2 (RV (.ty C2))) (hk : PySem.W.kitAny X.K (.type T) [.type C1, .type C2] = some t) (hg : Gl X "isinstance" := by rfl)
    (s1 : starEach [e, .Tuple [c1, c2] k tpos] X.env = (false, eval e X.env) :: starEach [.Tuple [c1, c2] k tpos] X.env := by rfl) (s2 : one1 X (.Tuple [c1, c2] k tpos) := by rfl) (s3 : starEach [c1, c2] X.env = (false, eval c1 X.env) :: starEach [c2] X.env := by rfl) (s4 : one1 X c2 := by rfl) : E3 X A Γ σ (.Call (.Name "isinstance" p) [e, .Tuple [c1, c2] k tpos] [] pos) (RB t) :=
  e_blt (es := [.Tuple [c1, c2] k tpos]) call_isiT hm (by decide +kernel) (a_cons h (a_cons (o_names (a_cons h1 (a_cons h2 a_nil s4) s3) (fun vs G z => by obtain ⟨v, w, rfl, _⟩ := pc2 z; show 2 ≤ 1000; decide)) a_nil s2) s1) (fun vs H Q ok g r kk => by
    obtain ⟨v, w, rfl, rv, tp, o, rfl, ho, ws, eo, rw⟩ := pc2 r
    obtain ⟨w1, w2, rfl, r1, r2⟩ := pc2 rw
    cases (show o = .tup [w1, w2] from eo)
    cases (show w1 = .ty C1 from r1)
    cases (show w2 = .ty C2 from r2)
    exact ⟨v, tp, [.ty C1, .ty C2], .type T, [.type C1, .type C2], t, rfl, hide_le _ _ ho, .cons (.ty C1) (.cons (.ty C2) .nil), tyX_mono hide_le (hT v _ rv), hk, kk _ _ (Ext.refl ok) rfl⟩) hg (by decide) (by decide) s1 (by show ((backTo pos (starEach [.Tuple [c1, c2] k tpos] X.env)).any (·.1)) = false; rw [s2]; rfl)
theorem kit2 {K : PySem.W.Frag} {T C1 C2 : String} {b1 b2 : Bool} (h1 : kitB T C1 = some b1) (h2 : kitB T C2 = some b2) : PySem.W.kitAny K (.type T) [.type C1, .type C2] = some (b1 || b2) := by
  cases b1 with
  | true => exact kitAny_cons (kit_ty h1) (fun z => by cases z) (fun _ => rfl)
  | false => exact kitAny_cons (kit_ty h1) (fun _ => kitAny_cons (kit_ty h2) (fun z => by rw [z]; exact kitAny_nil) (fun z => by rw [z]; rfl)) (fun z => by cases z)
/-- low <= x <= high -/
theorem e_leLe {i j l : Int} {c : Expr} (ha : E3 X A Γ σ a (RI i)) (hb : E3 X A Γ σ b (RI j)) (hc : E3 X A Γ σ c (RI l)) (hm : lastMarks [.LtE, .LtE] [b, c] = false := by with_unfolding_all rfl) : E3 X A Γ σ (.Compare a [.LtE, .LtE] [b, c] pos) (RB (decide (i ≤ j) && decide (j ≤ l))) := e_chain op_le op_le ha hb hc hm
theorem t_leLe {i j l : Int} {c : Expr} (ha : E3 X A Γ σ a (RI i)) (hb : E3 X A Γ σ b (RI j)) (hc : E3 X A Γ σ c (RI l)) (hm : lastMarks [.LtE, .LtE] [b, c] = false := by with_unfolding_all rfl) : T3 X A Γ σ (.Compare a [.LtE, .LtE] [b, c] pos) (decide (i ≤ j) && decide (j ≤ l)) := t_chain op_le op_le ha hb hc hm
theorem e_leLt {i j l : Int} {c : Expr} (ha : E3 X A Γ σ a (RI i)) (hb : E3 X A Γ σ b (RI j)) (hc : E3 X A Γ σ c (RI l)) (hm : lastMarks [.LtE, .Lt] [b, c] = false := by with_unfolding_all rfl) : E3 X A Γ σ (.Compare a [.LtE, .Lt] [b, c] pos) (RB (decide (i ≤ j) && decide (j < l))) := e_chain op_le op_lt ha hb hc hm
end
end Pm
/-! B97 -/
set_option maxHeartbeats 2000000
/-! the defs by their places -/
namespace L97
open PySem PySem.Spec L2 Pm
def top (i : Nat) : Stmt := PySem.Challenge.pw_planmill_k97_whole_main_great_clauses_an.main.body.getD i (.Pass ⟨0, 0, 0, 0⟩)
abbrev sis_integer : Stmt := top 4
abbrev sis_between : Stmt := top 5
abbrev sis_list : Stmt := top 6
abbrev sis_name : Stmt := top 7
abbrev sBadBook___init__ : Stmt := inClass (top 10) 0
abbrev sBadTree___init__ : Stmt := inClass (top 11) 0
abbrev sBadWorld___init__ : Stmt := inClass (top 12) 0
abbrev sRefused___init__ : Stmt := inClass (top 13) 0
abbrev sTooGreat___init__ : Stmt := inClass (top 14) 0
abbrev sBadClauses___init__ : Stmt := inClass (top 16) 0
abbrev sBadProof___init__ : Stmt := inClass (top 17) 0
abbrev sis_letter : Stmt := top 26
abbrev sparts_of : Stmt := top 27
abbrev sis_head : Stmt := top 28
abbrev sis_within : Stmt := top 29
abbrev sis_tree : Stmt := top 30
abbrev sall_nodes : Stmt := top 31
abbrev sall_names : Stmt := top 32
abbrev scheck_tree : Stmt := top 33
abbrev sis_line : Stmt := top 34
abbrev sis_book : Stmt := top 35
abbrev sunlike : Stmt := top 38
abbrev sleaf_kind : Stmt := top 39
abbrev spaired_kind : Stmt := top 40
abbrev skind_of : Stmt := top 41
abbrev skinds_of_book : Stmt := top 42
abbrev scheck_book : Stmt := top 43
abbrev skind_up : Stmt := top 44
abbrev sletters_of : Stmt := top 45
abbrev sjoin : Stmt := top 47
abbrev sis_truths : Stmt := top 48
abbrev sis_of : Stmt := top 49
abbrev sworld_at_place : Stmt := top 50
abbrev sspread : Stmt := top 51
abbrev shalves : Stmt := top 52
abbrev sjoined_row : Stmt := top 53
abbrev sbound_row : Stmt := top 54
abbrev srow_in : Stmt := top 55
abbrev slines_needed : Stmt := top 56
abbrev srows_of_book : Stmt := top 57
abbrev swhole_row : Stmt := top 58
abbrev sis_literal : Stmt := top 62
abbrev sis_clause : Stmt := top 63
abbrev sletters_within : Stmt := top 64
abbrev sare_clauses : Stmt := top 65
abbrev scheck_clauses : Stmt := top 66
abbrev sclause_letters : Stmt := top 67
abbrev sholds_in : Stmt := top 68
abbrev sclauses_hold : Stmt := top 69
abbrev sliteral_tree : Stmt := top 70
abbrev sjoined_trees : Stmt := top 71
abbrev sclauses_tree : Stmt := top 72
abbrev smet : Stmt := top 73
abbrev stold_clause : Stmt := top 74
abbrev sstepped : Stmt := top 78
abbrev sclauses_along : Stmt := top 79
abbrev sis_proof : Stmt := top 80
abbrev sproof_clauses : Stmt := top 81
abbrev sbroken_clause : Stmt := top 82
abbrev srefuted : Stmt := top 83
abbrev srefute_up : Stmt := top 84
abbrev sshorter_proof : Stmt := top 85
abbrev smoved_step : Stmt := top 86
abbrev sStore___init__ : Stmt := inClass (top 88) 0
abbrev sStore_add_row : Stmt := inClass (top 88) 1
abbrev sStore_take_table : Stmt := inClass (top 88) 8
abbrev sStore_take_truths : Stmt := inClass (top 88) 9
abbrev sStore_put_row : Stmt := inClass (top 88) 12
abbrev sStore_tell_table : Stmt := inClass (top 88) 13
abbrev sis_triple : Stmt := top 92
abbrev sletters_rise : Stmt := top 93
abbrev srow_letters : Stmt := top 94
abbrev sis_table : Stmt := top 95
abbrev struth_by : Stmt := top 96
abbrev stable_by_row : Stmt := top 97
abbrev scheck_both : Stmt := top 99
abbrev sshared_letters : Stmt := top 100
abbrev sworlds_where : Stmt := top 101
abbrev sis_between_by : Stmt := top 102
abbrev sclause_row : Stmt := top 103
abbrev srows_along : Stmt := top 104
abbrev sbetween_by : Stmt := top 105
abbrev syes_places : Stmt := top 107
abbrev sworld_count : Stmt := top 108
abbrev s_law_spring : Stmt := top 110
abbrev s_law_draw : Stmt := top 111
abbrev s_law_mixed : Stmt := top 113
abbrev s_law_same : Stmt := top 114
abbrev s_law_t_worlds : Stmt := top 122
abbrev s_law_l_letters : Stmt := top 133
abbrev s_law_l_hold : Stmt := top 134
abbrev s_law_l_met : Stmt := top 138
abbrev s_law_l_worlds : Stmt := top 139
abbrev s_law_l_along : Stmt := top 140
abbrev s_law_l_index : Stmt := top 141
abbrev s_law_l_proof : Stmt := top 142
abbrev s_law_f_birds : Stmt := top 143
abbrev s_law_f_odd : Stmt := top 144
abbrev s_law_f_line : Stmt := top 145
abbrev s_law_f_ring : Stmt := top 146
abbrev s_law_f_asked : Stmt := top 147
abbrev slaw : Stmt := top 148
abbrev nis_integer : List Str := ["thing"]
theorem cis_integer : FnScope nis_integer ["thing"] (defScope sis_integer) := ⟨rfl, rfl, rfl, by decide +kernel, rfl, by decide +kernel, by decide +kernel⟩
abbrev nis_between : List Str := ["thing", "low", "high"]
theorem cis_between : FnScope nis_between ["thing", "low", "high"] (defScope sis_between) := ⟨rfl, rfl, rfl, by decide +kernel, rfl, by decide +kernel, by decide +kernel⟩
abbrev nis_list : List Str := ["thing"]
theorem cis_list : FnScope nis_list ["thing"] (defScope sis_list) := ⟨rfl, rfl, rfl, by decide +kernel, rfl, by decide +kernel, by decide +kernel⟩
abbrev nis_name : List Str := ["thing", "sign"]
theorem cis_name : FnScope nis_name ["thing"] (defScope sis_name) := ⟨rfl, rfl, rfl, by decide +kernel, rfl, by decide +kernel, by decide +kernel⟩
abbrev nis_letter : List Str := ["thing"]
theorem cis_letter : FnScope nis_letter ["thing"] (defScope sis_letter) := ⟨rfl, rfl, rfl, by decide +kernel, rfl, by decide +kernel, by decide +kernel⟩
abbrev nparts_of : List Str := ["node"]
theorem cparts_of : FnScope nparts_of ["node"] (defScope sparts_of) := ⟨rfl, rfl, rfl, by decide +kernel, rfl, by decide +kernel, by decide +kernel⟩
abbrev nis_head : List Str := ["thing", "word"]
theorem cis_head : FnScope nis_head ["thing"] (defScope sis_head) := ⟨rfl, rfl, rfl, by decide +kernel, rfl, by decide +kernel, by decide +kernel⟩
abbrev nis_within : List Str := ["thing", "nodes", "deepest", "left", "many", "node", "deep", "part"]
theorem cis_within : FnScope nis_within ["thing", "nodes", "deepest"] (defScope sis_within) := ⟨rfl, rfl, rfl, by decide +kernel, rfl, by decide +kernel, by decide +kernel⟩
abbrev nis_tree : List Str := ["thing"]
theorem cis_tree : FnScope nis_tree ["thing"] (defScope sis_tree) := ⟨rfl, rfl, rfl, by decide +kernel, rfl, by decide +kernel, by decide +kernel⟩
abbrev nall_nodes : List Str := ["tree", "left", "told", "node"]
theorem call_nodes : FnScope nall_nodes ["tree"] (defScope sall_nodes) := ⟨rfl, rfl, rfl, by decide +kernel, rfl, by decide +kernel, by decide +kernel⟩
abbrev nall_names : List Str := ["tree", "node"]
theorem call_names : FnScope nall_names ["tree"] (defScope sall_names) := ⟨rfl, rfl, rfl, by decide +kernel, rfl, by decide +kernel, by decide +kernel⟩
abbrev ncheck_tree : List Str := ["tree"]
theorem ccheck_tree : FnScope ncheck_tree ["tree"] (defScope scheck_tree) := ⟨rfl, rfl, rfl, by decide +kernel, rfl, by decide +kernel, by decide +kernel⟩
abbrev nis_line : List Str := ["thing"]
theorem cis_line : FnScope nis_line ["thing"] (defScope sis_line) := ⟨rfl, rfl, rfl, by decide +kernel, rfl, by decide +kernel, by decide +kernel⟩
abbrev nis_book : List Str := ["thing", "seen", "line", "name"]
theorem cis_book : FnScope nis_book ["thing"] (defScope sis_book) := ⟨rfl, rfl, rfl, by decide +kernel, rfl, by decide +kernel, by decide +kernel⟩
abbrev nunlike : List Str := ["names", "one"]
theorem cunlike : FnScope nunlike ["names"] (defScope sunlike) := ⟨rfl, rfl, rfl, by decide +kernel, rfl, by decide +kernel, by decide +kernel⟩
abbrev nleaf_kind : List Str := ["node", "known", "path"]
theorem cleaf_kind : FnScope nleaf_kind ["node", "known", "path"] (defScope sleaf_kind) := ⟨rfl, rfl, rfl, by decide +kernel, rfl, by decide +kernel, by decide +kernel⟩
abbrev npaired_kind : List Str := ["first", "second", "path", "letters"]
theorem cpaired_kind : FnScope npaired_kind ["first", "second", "path"] (defScope spaired_kind) := ⟨rfl, rfl, rfl, by decide +kernel, rfl, by decide +kernel, by decide +kernel⟩
abbrev nkind_of : List Str := ["node", "known", "path", "word", "first", "second", "inner", "one"]
theorem ckind_of : FnScope nkind_of ["node", "known", "path"] (defScope skind_of) := ⟨rfl, rfl, rfl, by decide +kernel, rfl, by decide +kernel, by decide +kernel⟩
abbrev nkinds_of_book : List Str := ["book", "told", "name", "tree", "kind"]
theorem ckinds_of_book : FnScope nkinds_of_book ["book"] (defScope skinds_of_book) := ⟨rfl, rfl, rfl, by decide +kernel, rfl, by decide +kernel, by decide +kernel⟩
abbrev ncheck_book : List Str := ["book", "told"]
theorem ccheck_book : FnScope ncheck_book ["book"] (defScope scheck_book) := ⟨rfl, rfl, rfl, by decide +kernel, rfl, by decide +kernel, by decide +kernel⟩
abbrev nkind_up : List Str := ["book", "tree", "known", "kind"]
theorem ckind_up : FnScope nkind_up ["book", "tree"] (defScope skind_up) := ⟨rfl, rfl, rfl, by decide +kernel, rfl, by decide +kernel, by decide +kernel⟩
abbrev nletters_of : List Str := ["book", "tree", "kind"]
theorem cletters_of : FnScope nletters_of ["book", "tree"] (defScope sletters_of) := ⟨rfl, rfl, rfl, by decide +kernel, rfl, by decide +kernel, by decide +kernel⟩
abbrev njoin : List Str := ["word", "one", "other"]
theorem cjoin : FnScope njoin ["word", "one", "other"] (defScope sjoin) := ⟨rfl, rfl, rfl, by decide +kernel, rfl, by decide +kernel, by decide +kernel⟩
abbrev nis_truths : List Str := ["thing", "one"]
theorem cis_truths : FnScope nis_truths ["thing"] (defScope sis_truths) := ⟨rfl, rfl, rfl, by decide +kernel, rfl, by decide +kernel, by decide +kernel⟩
abbrev nis_of : List Str := ["letters", "thing", "letter"]
theorem cis_of : FnScope nis_of ["letters", "thing"] (defScope sis_of) := ⟨rfl, rfl, rfl, by decide +kernel, rfl, by decide +kernel, by decide +kernel⟩
abbrev nworld_at_place : List Str := ["letters", "place", "told", "at", "letter"]
theorem cworld_at_place : FnScope nworld_at_place ["letters", "place"] (defScope sworld_at_place) := ⟨rfl, rfl, rfl, by decide +kernel, rfl, by decide +kernel, by decide +kernel⟩
abbrev nspread : List Str := ["letters", "row", "wider", "places", "letter", "at", "bit"]
theorem cspread : FnScope nspread ["letters", "row", "wider"] (defScope sspread) := ⟨rfl, rfl, rfl, by decide +kernel, rfl, by decide +kernel, by decide +kernel⟩
abbrev nhalves : List Str := ["letters", "row", "letter", "block", "low", "at", "truth"]
theorem chalves : FnScope nhalves ["letters", "row", "letter"] (defScope shalves) := ⟨rfl, rfl, rfl, by decide +kernel, rfl, by decide +kernel, by decide +kernel⟩
abbrev njoined_row : List Str := ["word", "first", "second", "letters", "one", "other", "letter", "here", "there"]
theorem cjoined_row : FnScope njoined_row ["word", "first", "second"] (defScope sjoined_row) := ⟨rfl, rfl, rfl, by decide +kernel, rfl, by decide +kernel, by decide +kernel⟩
abbrev nbound_row : List Str := ["word", "letter", "inner", "one", "letters", "row", "low", "high", "other", "here", "there"]
theorem cbound_row : FnScope nbound_row ["word", "letter", "inner"] (defScope sbound_row) := ⟨rfl, rfl, rfl, by decide +kernel, rfl, by decide +kernel, by decide +kernel⟩
abbrev nrow_in : List Str := ["node", "known", "word", "letters", "row", "truth"]
theorem crow_in : FnScope nrow_in ["node", "known"] (defScope srow_in) := ⟨rfl, rfl, rfl, by decide +kernel, rfl, by decide +kernel, by decide +kernel⟩
abbrev nlines_needed : List Str := ["book", "trees", "wanted", "told", "name", "tree", "other"]
theorem clines_needed : FnScope nlines_needed ["book", "trees"] (defScope slines_needed) := ⟨rfl, rfl, rfl, by decide +kernel, rfl, by decide +kernel, by decide +kernel⟩
abbrev nrows_of_book : List Str := ["book", "known", "name", "tree"]
theorem crows_of_book : FnScope nrows_of_book ["book"] (defScope srows_of_book) := ⟨rfl, rfl, rfl, by decide +kernel, rfl, by decide +kernel, by decide +kernel⟩
abbrev nwhole_row : List Str := ["book", "tree"]
theorem cwhole_row : FnScope nwhole_row ["book", "tree"] (defScope swhole_row) := ⟨rfl, rfl, rfl, by decide +kernel, rfl, by decide +kernel, by decide +kernel⟩
abbrev nis_literal : List Str := ["thing"]
theorem cis_literal : FnScope nis_literal ["thing"] (defScope sis_literal) := ⟨rfl, rfl, rfl, by decide +kernel, rfl, by decide +kernel, by decide +kernel⟩
abbrev nis_clause : List Str := ["thing", "one", "other"]
theorem cis_clause : FnScope nis_clause ["thing"] (defScope sis_clause) := ⟨rfl, rfl, rfl, by decide +kernel, rfl, by decide +kernel, by decide +kernel⟩
abbrev nletters_within : List Str := ["clauses", "clause", "letter", "_truth"]
theorem cletters_within : FnScope nletters_within ["clauses"] (defScope sletters_within) := ⟨rfl, rfl, rfl, by decide +kernel, rfl, by decide +kernel, by decide +kernel⟩
abbrev nare_clauses : List Str := ["thing", "one"]
theorem care_clauses : FnScope nare_clauses ["thing"] (defScope sare_clauses) := ⟨rfl, rfl, rfl, by decide +kernel, rfl, by decide +kernel, by decide +kernel⟩
abbrev ncheck_clauses : List Str := ["clauses"]
theorem ccheck_clauses : FnScope ncheck_clauses ["clauses"] (defScope scheck_clauses) := ⟨rfl, rfl, rfl, by decide +kernel, rfl, by decide +kernel, by decide +kernel⟩
abbrev nclause_letters : List Str := ["clauses"]
theorem cclause_letters : FnScope nclause_letters ["clauses"] (defScope sclause_letters) := ⟨rfl, rfl, rfl, by decide +kernel, rfl, by decide +kernel, by decide +kernel⟩
abbrev nholds_in : List Str := ["clause", "world", "letter", "truth"]
theorem cholds_in : FnScope nholds_in ["clause", "world"] (defScope sholds_in) := ⟨rfl, rfl, rfl, by decide +kernel, rfl, by decide +kernel, by decide +kernel⟩
abbrev nclauses_hold : List Str := ["clauses", "world", "clause"]
theorem cclauses_hold : FnScope nclauses_hold ["clauses", "world"] (defScope sclauses_hold) := ⟨rfl, rfl, rfl, by decide +kernel, rfl, by decide +kernel, by decide +kernel⟩
abbrev nliteral_tree : List Str := ["pair"]
theorem cliteral_tree : FnScope nliteral_tree ["pair"] (defScope sliteral_tree) := ⟨rfl, rfl, rfl, by decide +kernel, rfl, by decide +kernel, by decide +kernel⟩
abbrev njoined_trees : List Str := ["word", "trees", "none", "whole", "one"]
theorem cjoined_trees : FnScope njoined_trees ["word", "trees", "none"] (defScope sjoined_trees) := ⟨rfl, rfl, rfl, by decide +kernel, rfl, by decide +kernel, by decide +kernel⟩
abbrev nclauses_tree : List Str := ["clauses", "trees", "clause", "pair"]
theorem cclauses_tree : FnScope nclauses_tree ["clauses"] (defScope sclauses_tree) := ⟨rfl, rfl, rfl, by decide +kernel, rfl, by decide +kernel, by decide +kernel⟩
abbrev nmet : List Str := ["one", "other", "letter", "found", "name", "truth"]
theorem cmet : FnScope nmet ["one", "other", "letter"] (defScope smet) := ⟨rfl, rfl, rfl, by decide +kernel, rfl, by decide +kernel, by decide +kernel⟩
abbrev ntold_clause : List Str := ["clause", "letter", "truth"]
theorem ctold_clause : FnScope ntold_clause ["clause"] (defScope stold_clause) := ⟨rfl, rfl, rfl, by decide +kernel, rfl, by decide +kernel, by decide +kernel⟩
abbrev nstepped : List Str := ["clauses", "told", "step", "at"]
theorem cstepped : FnScope nstepped ["clauses", "told", "step"] (defScope sstepped) := ⟨rfl, rfl, rfl, by decide +kernel, rfl, by decide +kernel, by decide +kernel⟩
abbrev nclauses_along : List Str := ["clauses", "thing", "told", "step", "here"]
theorem cclauses_along : FnScope nclauses_along ["clauses", "thing"] (defScope sclauses_along) := ⟨rfl, rfl, rfl, by decide +kernel, rfl, by decide +kernel, by decide +kernel⟩
abbrev nis_proof : List Str := ["clauses", "thing", "told"]
theorem cis_proof : FnScope nis_proof ["clauses", "thing"] (defScope sis_proof) := ⟨rfl, rfl, rfl, by decide +kernel, rfl, by decide +kernel, by decide +kernel⟩
abbrev nproof_clauses : List Str := ["clauses", "proof"]
theorem cproof_clauses : FnScope nproof_clauses ["clauses", "proof"] (defScope sproof_clauses) := ⟨rfl, rfl, rfl, by decide +kernel, rfl, by decide +kernel, by decide +kernel⟩
abbrev nbroken_clause : List Str := ["clauses", "world", "at", "clause", "letter", "truth"]
theorem cbroken_clause : FnScope nbroken_clause ["clauses", "world"] (defScope sbroken_clause) := ⟨rfl, rfl, rfl, by decide +kernel, rfl, by decide +kernel, by decide +kernel⟩
abbrev nrefuted : List Str := ["clauses", "letters", "world", "steps", "told", "at", "letter", "first", "second"]
theorem crefuted : FnScope nrefuted ["clauses", "letters", "world", "steps", "told"] (defScope srefuted) := ⟨rfl, rfl, rfl, by decide +kernel, rfl, by decide +kernel, by decide +kernel⟩
abbrev nrefute_up : List Str := ["clauses", "letters", "place", "last", "world", "steps", "told", "clause"]
theorem crefute_up : FnScope nrefute_up ["clauses"] (defScope srefute_up) := ⟨rfl, rfl, rfl, by decide +kernel, rfl, by decide +kernel, by decide +kernel⟩
abbrev nshorter_proof : List Str := ["clauses", "proof", "told", "needed", "at", "firsts", "places", "clause", "numbers", "steps"]
theorem cshorter_proof : FnScope nshorter_proof ["clauses", "proof"] (defScope sshorter_proof) := ⟨rfl, rfl, rfl, by decide +kernel, rfl, by decide +kernel, by decide +kernel⟩
abbrev nmoved_step : List Str := ["step", "places", "numbers"]
theorem cmoved_step : FnScope nmoved_step ["step", "places", "numbers"] (defScope smoved_step) := ⟨rfl, rfl, rfl, by decide +kernel, rfl, by decide +kernel, by decide +kernel⟩
abbrev nStore___init__ : List Str := ["self"]
theorem cStore___init__ : FnScope nStore___init__ ["self"] (defScope sStore___init__) := ⟨rfl, rfl, rfl, by decide +kernel, rfl, by decide +kernel, by decide +kernel⟩
abbrev nStore_add_row : List Str := ["self", "letter", "low", "high", "triple"]
theorem cStore_add_row : FnScope nStore_add_row ["self", "letter", "low", "high"] (defScope sStore_add_row) := ⟨rfl, rfl, rfl, by decide +kernel, rfl, by decide +kernel, by decide +kernel⟩
abbrev nStore_take_table : List Str := ["self", "table", "numbers", "letter", "low", "high"]
theorem cStore_take_table : FnScope nStore_take_table ["self", "table"] (defScope sStore_take_table) := ⟨rfl, rfl, rfl, by decide +kernel, rfl, by decide +kernel, by decide +kernel⟩
abbrev nStore_take_truths : List Str := ["self", "letters", "row", "here", "letter", "truth", "at"]
theorem cStore_take_truths : FnScope nStore_take_truths ["self", "letters", "row"] (defScope sStore_take_truths) := ⟨rfl, rfl, rfl, by decide +kernel, rfl, by decide +kernel, by decide +kernel⟩
abbrev nStore_put_row : List Str := ["self", "number", "places", "rows", "letter", "low", "high"]
theorem cStore_put_row : FnScope nStore_put_row ["self", "number", "places", "rows"] (defScope sStore_put_row) := ⟨rfl, rfl, rfl, by decide +kernel, rfl, by decide +kernel, by decide +kernel⟩
abbrev nStore_tell_table : List Str := ["self", "number", "places", "rows"]
theorem cStore_tell_table : FnScope nStore_tell_table ["self", "number"] (defScope sStore_tell_table) := ⟨rfl, rfl, rfl, by decide +kernel, rfl, by decide +kernel, by decide +kernel⟩
abbrev nis_triple : List Str := ["thing", "numbers"]
theorem cis_triple : FnScope nis_triple ["thing", "numbers"] (defScope sis_triple) := ⟨rfl, rfl, rfl, by decide +kernel, rfl, by decide +kernel, by decide +kernel⟩
abbrev nletters_rise : List Str := ["rows", "letter", "low", "high", "number"]
theorem cletters_rise : FnScope nletters_rise ["rows"] (defScope sletters_rise) := ⟨rfl, rfl, rfl, by decide +kernel, rfl, by decide +kernel, by decide +kernel⟩
abbrev nrow_letters : List Str := ["rows", "row"]
theorem crow_letters : FnScope nrow_letters ["rows"] (defScope srow_letters) := ⟨rfl, rfl, rfl, by decide +kernel, rfl, by decide +kernel, by decide +kernel⟩
abbrev nis_table : List Str := ["thing", "store", "root", "rows", "row", "at"]
theorem cis_table : FnScope nis_table ["thing"] (defScope sis_table) := ⟨rfl, rfl, rfl, by decide +kernel, rfl, by decide +kernel, by decide +kernel⟩
abbrev ntruth_by : List Str := ["table", "world", "number", "letter", "low", "high"]
theorem ctruth_by : FnScope ntruth_by ["table", "world"] (defScope struth_by) := ⟨rfl, rfl, rfl, by decide +kernel, rfl, by decide +kernel, by decide +kernel⟩
abbrev ntable_by_row : List Str := ["letters", "row", "store"]
theorem ctable_by_row : FnScope ntable_by_row ["letters", "row"] (defScope stable_by_row) := ⟨rfl, rfl, rfl, by decide +kernel, rfl, by decide +kernel, by decide +kernel⟩
abbrev ncheck_both : List Str := ["ones", "others"]
theorem ccheck_both : FnScope ncheck_both ["ones", "others"] (defScope scheck_both) := ⟨rfl, rfl, rfl, by decide +kernel, rfl, by decide +kernel, by decide +kernel⟩
abbrev nshared_letters : List Str := ["ones", "others", "right", "letter"]
theorem cshared_letters : FnScope nshared_letters ["ones", "others"] (defScope sshared_letters) := ⟨rfl, rfl, rfl, by decide +kernel, rfl, by decide +kernel, by decide +kernel⟩
abbrev nworlds_where : List Str := ["clauses", "letters", "told", "place", "world", "clause"]
theorem cworlds_where : FnScope nworlds_where ["clauses", "letters"] (defScope sworlds_where) := ⟨rfl, rfl, rfl, by decide +kernel, rfl, by decide +kernel, by decide +kernel⟩
abbrev nis_between_by : List Str := ["ones", "others", "thing", "shared", "letter", "world"]
theorem cis_between_by : FnScope nis_between_by ["ones", "others", "thing"] (defScope sis_between_by) := ⟨rfl, rfl, rfl, by decide +kernel, rfl, by decide +kernel, by decide +kernel⟩
abbrev nclause_row : List Str := ["clause", "shared", "told", "letter", "truth"]
theorem cclause_row : FnScope nclause_row ["clause", "shared"] (defScope sclause_row) := ⟨rfl, rfl, rfl, by decide +kernel, rfl, by decide +kernel, by decide +kernel⟩
abbrev nrows_along : List Str := ["ones", "others", "proof", "step", "right", "told", "is_one", "word"]
theorem crows_along : FnScope nrows_along ["ones", "others", "proof"] (defScope srows_along) := ⟨rfl, rfl, rfl, by decide +kernel, rfl, by decide +kernel, by decide +kernel⟩
abbrev nbetween_by : List Str := ["ones", "others", "proof", "letters", "row"]
theorem cbetween_by : FnScope nbetween_by ["ones", "others", "proof"] (defScope sbetween_by) := ⟨rfl, rfl, rfl, by decide +kernel, rfl, by decide +kernel, by decide +kernel⟩
abbrev nyes_places : List Str := ["row", "place", "truth"]
theorem cyes_places : FnScope nyes_places ["row"] (defScope syes_places) := ⟨rfl, rfl, rfl, by decide +kernel, rfl, by decide +kernel, by decide +kernel⟩
abbrev nworld_count : List Str := ["book", "tree"]
theorem cworld_count : FnScope nworld_count ["book", "tree"] (defScope sworld_count) := ⟨rfl, rfl, rfl, by decide +kernel, rfl, by decide +kernel, by decide +kernel⟩
abbrev n_law_spring : List Str := ["script", "turn", "cell", "mix", "at", "one"]
theorem c_law_spring : FnScope n_law_spring ["script", "turn"] (defScope s_law_spring) := ⟨rfl, rfl, rfl, by decide +kernel, rfl, by decide +kernel, by decide +kernel⟩
abbrev n_law_draw : List Str := ["spring", "many", "mixed", "digit"]
theorem c_law_draw : FnScope n_law_draw ["spring", "many"] (defScope s_law_draw) := ⟨rfl, rfl, rfl, by decide +kernel, rfl, by decide +kernel, by decide +kernel⟩
abbrev n_law_mixed : List Str := ["spring", "some", "left", "k"]
theorem c_law_mixed : FnScope n_law_mixed ["spring", "some"] (defScope s_law_mixed) := ⟨rfl, rfl, rfl, by decide +kernel, rfl, by decide +kernel, by decide +kernel⟩
abbrev n_law_same : List Str := ["found", "due", "is_alike", "one", "other"]
theorem c_law_same : FnScope n_law_same ["found", "due"] (defScope s_law_same) := ⟨rfl, rfl, rfl, by decide +kernel, rfl, by decide +kernel, by decide +kernel⟩
abbrev n_law_t_worlds : List Str := ["letters", "found", "letter", "more", "world", "bit"]
theorem c_law_t_worlds : FnScope n_law_t_worlds ["letters"] (defScope s_law_t_worlds) := ⟨rfl, rfl, rfl, by decide +kernel, rfl, by decide +kernel, by decide +kernel⟩
abbrev n_law_l_letters : List Str := ["clauses", "found", "clause", "pair"]
theorem c_law_l_letters : FnScope n_law_l_letters ["clauses"] (defScope s_law_l_letters) := ⟨rfl, rfl, rfl, by decide +kernel, rfl, by decide +kernel, by decide +kernel⟩
abbrev n_law_l_hold : List Str := ["clauses", "world", "clause", "letter", "truth"]
theorem c_law_l_hold : FnScope n_law_l_hold ["clauses", "world"] (defScope s_law_l_hold) := ⟨rfl, rfl, rfl, by decide +kernel, rfl, by decide +kernel, by decide +kernel⟩
abbrev n_law_l_met : List Str := ["one", "other", "letter", "found", "name", "truth", "pair"]
theorem c_law_l_met : FnScope n_law_l_met ["one", "other", "letter"] (defScope s_law_l_met) := ⟨rfl, rfl, rfl, by decide +kernel, rfl, by decide +kernel, by decide +kernel⟩
abbrev n_law_l_worlds : List Str := ["clauses", "letters", "world"]
theorem c_law_l_worlds : FnScope n_law_l_worlds ["clauses", "letters"] (defScope s_law_l_worlds) := ⟨rfl, rfl, rfl, by decide +kernel, rfl, by decide +kernel, by decide +kernel⟩
abbrev n_law_l_along : List Str := ["clauses", "proof", "found", "step", "here", "pair"]
theorem c_law_l_along : FnScope n_law_l_along ["clauses", "proof"] (defScope s_law_l_along) := ⟨rfl, rfl, rfl, by decide +kernel, rfl, by decide +kernel, by decide +kernel⟩
abbrev n_law_l_index : List Str := ["thing", "many"]
theorem c_law_l_index : FnScope n_law_l_index ["thing", "many"] (defScope s_law_l_index) := ⟨rfl, rfl, rfl, by decide +kernel, rfl, by decide +kernel, by decide +kernel⟩
abbrev n_law_l_proof : List Str := ["clauses", "thing", "found"]
theorem c_law_l_proof : FnScope n_law_l_proof ["clauses", "thing"] (defScope s_law_l_proof) := ⟨rfl, rfl, rfl, by decide +kernel, rfl, by decide +kernel, by decide +kernel⟩
abbrev n_law_f_birds : List Str := ["many", "holes", "found", "hole", "bird", "other", "clause"]
theorem c_law_f_birds : FnScope n_law_f_birds ["many", "holes"] (defScope s_law_f_birds) := ⟨rfl, rfl, rfl, by decide +kernel, rfl, by decide +kernel, by decide +kernel⟩
abbrev n_law_f_odd : List Str := ["letters", "is_odd", "found", "world", "letter"]
theorem c_law_f_odd : FnScope n_law_f_odd ["letters", "is_odd"] (defScope s_law_f_odd) := ⟨rfl, rfl, rfl, by decide +kernel, rfl, by decide +kernel, by decide +kernel⟩
abbrev n_law_f_line : List Str := ["names", "is_odd", "found", "one", "other"]
theorem c_law_f_line : FnScope n_law_f_line ["names", "is_odd"] (defScope s_law_f_line) := ⟨rfl, rfl, rfl, by decide +kernel, rfl, by decide +kernel, by decide +kernel⟩
abbrev n_law_f_ring : List Str := ["size", "colours", "place", "found", "names", "colour", "name", "other"]
theorem c_law_f_ring : FnScope n_law_f_ring ["size", "colours"] (defScope s_law_f_ring) := ⟨rfl, rfl, rfl, by decide +kernel, rfl, by decide +kernel, by decide +kernel⟩
abbrev n_law_f_asked : List Str := ["spring", "clauses", "is_barred", "told", "short", "letters", "least"]
theorem c_law_f_asked : FnScope n_law_f_asked ["spring", "clauses", "is_barred"] (defScope s_law_f_asked) := ⟨rfl, rfl, rfl, by decide +kernel, rfl, by decide +kernel, by decide +kernel⟩
abbrev nlaw : List Str := ["script", "turn", "e", "spring", "size", "line", "holds", "less", "barred", "cut", "told", "shared", "table", "place", "ring", "names", "is_odd", "clauses", "due", "mixed", "ones", "others", "letter", "k"]
theorem claw : FnScope nlaw ["script"] (defScope slaw) := ⟨rfl, rfl, rfl, by decide +kernel, rfl, by decide +kernel, by decide +kernel⟩
end L97
/-! H97 -/
set_option maxHeartbeats 0
namespace L97h
open PySem PySem.Spec PyProof.Rows L2 He HkZ L97
def dF (x : Str) (st : Stmt) : DefD := ⟨(x, none), x, x, defArgs st, defBody st, defScope st, [], []⟩
def dM (c m q : Str) (st : Stmt) : DefD := ⟨(c, some m), m, q, defArgs st, defBody st, defScope st, [], []⟩
def fn : List DefD := [dF "is_integer" sis_integer, dF "is_between" sis_between, dF "is_list" sis_list, dF "is_name" sis_name, dF "is_letter" sis_letter, dF "parts_of" sparts_of, dF "is_head" sis_head, dF "is_within" sis_within, dF "is_tree" sis_tree, dF "all_nodes" sall_nodes, dF "all_names" sall_names, dF "check_tree" scheck_tree, dF "is_line" sis_line, dF "is_book" sis_book, dF "unlike" sunlike, dF "leaf_kind" sleaf_kind, dF "paired_kind" spaired_kind, dF "kind_of" skind_of, dF "kinds_of_book" skinds_of_book, dF "check_book" scheck_book, dF "kind_up" skind_up, dF "letters_of" sletters_of, dF "join" sjoin, dF "is_truths" sis_truths, dF "is_of" sis_of, dF "world_at_place" sworld_at_place, dF "spread" sspread, dF "halves" shalves, dF "joined_row" sjoined_row, dF "bound_row" sbound_row, dF "row_in" srow_in, dF "lines_needed" slines_needed, dF "rows_of_book" srows_of_book, dF "whole_row" swhole_row, dF "is_literal" sis_literal, dF "is_clause" sis_clause, dF "letters_within" sletters_within, dF "are_clauses" sare_clauses, dF "check_clauses" scheck_clauses, dF "clause_letters" sclause_letters, dF "holds_in" sholds_in, dF "clauses_hold" sclauses_hold, dF "literal_tree" sliteral_tree, dF "joined_trees" sjoined_trees, dF "clauses_tree" sclauses_tree, dF "met" smet, dF "told_clause" stold_clause, dF "stepped" sstepped, dF "clauses_along" sclauses_along, dF "is_proof" sis_proof, dF "proof_clauses" sproof_clauses, dF "broken_clause" sbroken_clause, dF "refuted" srefuted, dF "refute_up" srefute_up, dF "shorter_proof" sshorter_proof, dF "moved_step" smoved_step, dF "is_triple" sis_triple, dF "letters_rise" sletters_rise, dF "row_letters" srow_letters, dF "is_table" sis_table, dF "truth_by" struth_by, dF "table_by_row" stable_by_row, dF "check_both" scheck_both, dF "shared_letters" sshared_letters, dF "worlds_where" sworlds_where, dF "is_between_by" sis_between_by, dF "clause_row" sclause_row, dF "rows_along" srows_along, dF "between_by" sbetween_by, dF "yes_places" syes_places, dF "world_count" sworld_count, dF "_law_spring" s_law_spring, dF "_law_draw" s_law_draw, dF "_law_mixed" s_law_mixed, dF "_law_same" s_law_same, dF "_law_t_worlds" s_law_t_worlds, dF "_law_l_letters" s_law_l_letters, dF "_law_l_hold" s_law_l_hold, dF "_law_l_met" s_law_l_met, dF "_law_l_worlds" s_law_l_worlds, dF "_law_l_along" s_law_l_along, dF "_law_l_index" s_law_l_index, dF "_law_l_proof" s_law_l_proof, dF "_law_f_birds" s_law_f_birds, dF "_law_f_odd" s_law_f_odd, dF "_law_f_line" s_law_f_line, dF "_law_f_ring" s_law_f_ring, dF "_law_f_asked" s_law_f_asked, dF "law" slaw, dM "Store" "__init__" "Store.__init__" sStore___init__, dM "Store" "add_row" "Store.add_row" sStore_add_row, dM "Store" "take_table" "Store.take_table" sStore_take_table, dM "Store" "take_truths" "Store.take_truths" sStore_take_truths, dM "Store" "put_row" "Store.put_row" sStore_put_row, dM "Store" "tell_table" "Store.tell_table" sStore_tell_table]
def fa : List Fa := [.glo "is_integer", .glo "is_between", .glo "is_list", .glo "is_name", .glo "is_letter", .glo "parts_of", .glo "is_head", .glo "is_within", .glo "is_tree", .glo "all_nodes", .glo "all_names", .glo "check_tree", .glo "is_line", .glo "is_book", .glo "unlike", .glo "leaf_kind", .glo "paired_kind", .glo "kind_of", .glo "kinds_of_book", .glo "check_book", .glo "kind_up", .glo "letters_of", .glo "join", .glo "is_truths", .glo "is_of", .glo "world_at_place", .glo "spread", .glo "halves", .glo "joined_row", .glo "bound_row", .glo "row_in", .glo "lines_needed", .glo "rows_of_book", .glo "whole_row", .glo "is_literal", .glo "is_clause", .glo "letters_within", .glo "are_clauses", .glo "check_clauses", .glo "clause_letters", .glo "holds_in", .glo "clauses_hold", .glo "literal_tree", .glo "joined_trees", .glo "clauses_tree", .glo "met", .glo "told_clause", .glo "stepped", .glo "clauses_along", .glo "is_proof", .glo "proof_clauses", .glo "broken_clause", .glo "refuted", .glo "refute_up", .glo "shorter_proof", .glo "moved_step", .glo "is_triple", .glo "letters_rise", .glo "row_letters", .glo "is_table", .glo "truth_by", .glo "table_by_row", .glo "check_both", .glo "shared_letters", .glo "worlds_where", .glo "is_between_by", .glo "clause_row", .glo "rows_along", .glo "between_by", .glo "yes_places", .glo "world_count", .glo "_law_spring", .glo "_law_draw", .glo "_law_mixed", .glo "_law_same", .glo "_law_t_worlds", .glo "_law_l_letters", .glo "_law_l_hold", .glo "_law_l_met", .glo "_law_l_worlds", .glo "_law_l_along", .glo "_law_l_index", .glo "_law_l_proof", .glo "_law_f_birds", .glo "_law_f_odd", .glo "_law_f_line", .glo "_law_f_ring", .glo "_law_f_asked", .glo "law", .free "all", .free "any", .free "bool", .free "dict", .free "enumerate", .free "int", .free "isinstance", .free "len", .free "list", .free "range", .free "reversed", .free "sorted", .free "str", .free "super", .free "tuple", .free "zip", .str "LETTERS" "abcdefghijklmnopqrstuvwxyz", .str "SIGNS" "abcdefghijklmnopqrstuvwxyz0123456789", .glo "WORDS", .glo "PAIRED", .glo "BOUND", .glo "PLAIN", .int "TWELVE_trees" 12, .int "FORTY" 40, .int "SIXTY_trees" 60, .int "MOST" 12, .int "MANY" 300, .int "TWELVE_clauses" 12, .int "TEN" 10, .int "LONG" 9000, .int "THOUSAND" 1000, .int "SIXTY_tables" 60, .glo "Store", .cls "Store", .mkr "Store", .meth "Store" "add_row", .meth "Store" "take_table", .meth "Store" "take_truths", .meth "Store" "put_row", .meth "Store" "tell_table", .noat "Store" "triples", .noat "Store" "numbers", .noat "Store" "found"]
def ls : List (Str × List Dv) := [("WORDS", [.str "always", .str "and", .str "ever", .str "every", .str "follows", .str "let", .str "no", .str "not", .str "or", .str "same", .str "some", .str "yes"]), ("PAIRED", [.str "both", .str "either", .str "if", .str "alike", .str "apart"]), ("BOUND", [.str "some", .str "every"]), ("PLAIN", [.str "yes", .str "no"])]
def xs : List ExD := [⟨"TooGreat", "TooGreat.__init__", "most", "too great", ⟨⟨44, 17, 44, 21⟩, ⟨44, 23, 44, 27⟩, ⟨45, 8, 45, 13⟩, ⟨45, 8, 45, 15⟩, ⟨45, 8, 45, 24⟩, ⟨45, 25, 45, 36⟩, ⟨45, 8, 45, 37⟩, ⟨45, 8, 45, 37⟩, ⟨46, 8, 46, 12⟩, ⟨46, 8, 46, 17⟩, ⟨46, 20, 46, 24⟩, ⟨46, 8, 46, 24⟩, 0⟩⟩]
def F : Fx := ⟨fa, fn, ls, xs, PySem.Challenge.pw_planmill_k97_whole_main_great_clauses_an.main.file⟩
abbrev R : PySem.W.OpenRow := PySem.W.OpenLaw.row PySem.Challenge.rw_planmill_k97_whole_main_great_clauses_an
abbrev hk : PySem.W.Hook := hookZ 4 F
def ob (s : PySem.W.SharedT) : AlZ := obsZG 4 F (HandSHeadRun.getT s)
theorem ob_eq (s : PySem.W.SharedT) : ob s = hk.obs s.abs := obsZG_eq (HandSHeadRun.getT_eq s)
def nm0 : List PySem.Str := ["_wall", "LETTERS", "SIGNS", "is_integer", "is_between", "is_list", "is_name", "PlanError", "BadBook", "BadTree", "BadWorld", "Refused", "TooGreat", "BadClauses", "BadProof", "WORDS", "PAIRED", "BOUND", "PLAIN", "TWELVE_trees"]
def nm1 : List PySem.Str := ["FORTY", "SIXTY_trees", "is_letter", "parts_of", "is_head", "is_within", "is_tree", "all_nodes", "all_names", "check_tree", "is_line", "is_book", "MOST", "unlike", "leaf_kind", "paired_kind", "kind_of", "kinds_of_book", "check_book", "kind_up"]
def nm2 : List PySem.Str := ["letters_of", "join", "is_truths", "is_of", "world_at_place", "spread", "halves", "joined_row", "bound_row", "row_in", "lines_needed", "rows_of_book", "whole_row", "MANY", "TWELVE_clauses", "is_literal", "is_clause", "letters_within", "are_clauses", "check_clauses"]
def nm3 : List PySem.Str := ["clause_letters", "holds_in", "clauses_hold", "literal_tree", "joined_trees", "clauses_tree", "met", "told_clause", "TEN", "LONG", "stepped", "clauses_along", "is_proof", "proof_clauses", "broken_clause", "refuted", "refute_up", "shorter_proof", "moved_step", "Store"]
def nm4 : List PySem.Str := ["THOUSAND", "SIXTY_tables", "is_triple", "letters_rise", "row_letters", "is_table", "truth_by", "table_by_row", "check_both", "shared_letters", "worlds_where", "is_between_by", "clause_row", "rows_along", "between_by", "yes_places", "world_count", "_law_spring", "_law_draw", "_law_pick"]
def nm5 : List PySem.Str := ["_law_mixed", "_law_same", "_law_b_names", "_law_t_parts", "_law_t_join", "_law_t_free", "_law_t_known", "_law_t_letters", "_law_t_truth", "_law_t_worlds", "_law_t_row", "_law_t_wider", "_law_t_rows", "_law_t_table", "_law_t_closed", "_law_t_size", "_law_t_leaf", "_law_t_drawn", "_law_t_book", "_law_b_letters"]
def nm6 : List PySem.Str := ["_law_l_letters", "_law_l_hold", "_law_l_clause", "_law_l_clauses", "_law_l_with", "_law_l_met", "_law_l_worlds", "_law_l_along", "_law_l_index", "_law_l_proof", "_law_f_birds", "_law_f_odd", "_law_f_line", "_law_f_ring", "_law_f_asked"]
def names : List PySem.Str := nm0 ++ nm1 ++ nm2 ++ nm3 ++ nm4 ++ nm5 ++ nm6
open PySem.W PySem.Calls HandSHeadRun
abbrev qv : Program := PySem.W.view R.prog [148]
def KK (s : PySem.W.SharedT) : PySem.W.Frag := frG (HandSHeadRun.getT s) (asZ (HandSHeadRun.getT s) 4)
noncomputable def X (w : World) (os : OsState) : Option PySem.W.SharedT := endF (stepQ (denQ tabQ) R.prog w) 20000 R.prog w os
theorem runA (w : World) : ∀ os : OsState, (X w os).map (fun s => (HandSHeadRun.looksF R.prog (boot_heap w.params) s.abs, seenQ qv names (importedModules R.prog.main.body) (fun s => xlAt qv [] s && recOk R.toRowW.records s) s.abs)) = some (true, openGood qv names) := by
  intro os
  kernel_rfl
theorem runB (w : World) : ∀ os : OsState, (X w os).map (fun s => F.fa.all fun f => f.ok (KK s)) = some true := by
  intro os
  kernel_rfl
theorem runC (w : World) : ∀ os : OsState, (X w os).map (fun s => F.fn.all fun d => d.ok (KK s)) = some true := by
  intro os
  kernel_rfl
theorem runD (w : World) : ∀ os : OsState, (X w os).map (fun s => (F.fn.map fun d => fnW (KK s) d.at_, (F.ls.all fun l => lstB (KK s) l.1 l.2) && F.xs.all fun d => d.ok (KK s) F.file, F.xs.map fun d => fnU (KK s) d.cls)) = some (F.fn.map DefD.val, true, F.xs.map ExD.val) := by
  intro os
  kernel_rfl
theorem run (w : World) : HandSHeadRun.RunEq R qv hk ob 20000 names w := by
  intro os
  obtain ⟨s, h0, hA⟩ := Option.map_eq_some_iff.mp (runA w os)
  obtain ⟨s1, h1, hB⟩ := Option.map_eq_some_iff.mp (runB w os)
  obtain ⟨s2, h2, hC⟩ := Option.map_eq_some_iff.mp (runC w os)
  obtain ⟨s3, h3, hD⟩ := Option.map_eq_some_iff.mp (runD w os)
  rw [h0] at h1 h2 h3
  cases h1
  cases h2
  cases h3
  have e : endF (stepQ (denQ tabQ) R.prog w) 20000 R.prog w os = some s := h0
  rw [e]
  show some (_, _, _) = some (_, _, _)
  have eA1 := congrArg Prod.fst hA
  have eA2 := congrArg Prod.snd hA
  have eo : ob s = hk.val w := by
    show ((((F.fa.all fun f => f.ok (KK s)) && F.fn.all fun d => d.ok (KK s), F.fn.map fun d => fnW (KK s) d.at_), (F.ls.all fun l => lstB (KK s) l.1 l.2) && F.xs.all fun d => d.ok (KK s) F.file, F.xs.map fun d => fnU (KK s) d.cls) : AlZ) = ((true, F.fn.map DefD.val), true, F.xs.map ExD.val)
    rw [hB, hC]
    have eD1 := congrArg Prod.fst hD
    have eD2 := congrArg (fun z => z.2.1) hD
    have eD3 := congrArg (fun z => z.2.2) hD
    dsimp only at eD1 eD2 eD3
    rw [eD1, eD2, eD3]
    rfl
  dsimp only at eA1 eA2
  rw [eA1, eA2, eo]
end L97h
/-! Pm6 -/
set_option maxHeartbeats 2000000
/-! Pm6: dicts, slices, sorting, more built-ins. -/
namespace Pm
open PySem PySem.Spec L2

/-! ### a dict of keys that are ints or texts -/
def RD (kvs : List (Key × V)) : V → Pr := fun v => pEx fun a => pAnd (pP (v = .ref a)) (pAt a (.dK kvs))
def SeesD (A : Own) (Γ : Pr) (Ra : V → Pr) (P : List (Key × V) → Pr) : Prop := ∀ v H, A.Ok H → Γ.holds (hide A H) → (Ra v).holds (hide A H) → ∃ a kvs, v = .ref a ∧ H a = some (.dK kvs) ∧ (P kvs).holds (hide A H)
section
variable {X : Cx} {A B : Own} {Γ Δ : Pr} {σ : L2.St} {a b c e o : Expr} {R Ra Rb Rc : V → Pr} {pos apos cpos : Pos} {es : List Expr} {Ps : List V → Pr} {Pd : List (Key × V) → Pr} {P : List V → Pr} {rest : List Stmt} {D : Ends}
theorem sd_rd {kvs : List (Key × V)} : SeesD A Γ (RD kvs) (fun ks => pP (ks = kvs)) := fun v H ok g ⟨a, e, h⟩ => ⟨a, kvs, e, hide_le _ _ h, rfl⟩
theorem sd_own {p : Addr} {kvs : List (Key × V)} (h : (p, HO.dK kvs) ∈ A) : SeesD A Γ (RV (.ref p)) (fun ks => pP (ks = kvs)) := fun v H ok g e => ⟨p, kvs, e, ok.at_ _ h, rfl⟩
theorem e_dget {k : Key} (hu : X.A.units + 1 < cLine) (ho : E3 X A Γ σ o Ra) (hi : E3 X A Γ σ e (RV (kV k))) (hs : SeesD A Γ Ra Pd) (hv : ∀ kvs G, Γ.holds G → (Pd kvs).holds G → ∃ v, valV kvs k = some v ∧ (R v).holds G) (hp : NoSl e := by intro _ _; rfl) : E3 X A Γ σ (.Subscript o e pos) R := fun H Q ok g kk =>
  Ev.of (pe_dget hu (evPE o) (evPE e) hp) (ho H _ ok g fun x H1 x1 r1 => hi H1 _ x1.ok (Γ.mono x1.same g) fun y H2 x2 r2 => by
    obtain ⟨a, kvs, rfl, h, p⟩ := hs x H2 x2.ok (Γ.mono (x1.same.trans x2.same) g) ((Ra x).mono x2.same r1)
    cases (show y = kV k from r2)
    obtain ⟨v, e1, e2⟩ := hv kvs _ (Γ.mono (x1.same.trans x2.same) g) p
    exact ⟨a, v, rfl, by rw [← e1]; exact DGet.k h, kk _ _ (x1.trans x2) e2⟩)
theorem e_din {k : Key} {t : Bool} (hu : X.A.units + 1 < cLine) (hi : E3 X A Γ σ e (RV (kV k))) (ho : E3 X A Γ σ o Ra) (hs : SeesD A Γ Ra Pd) (hv : ∀ kvs G, Γ.holds G → (Pd kvs).holds G → (valV kvs k).isSome = t) (hm : behindInMarks .In o = false := by with_unfolding_all rfl) : E3 X A Γ σ (.Compare e [.In] [o] pos) (RB t) := fun H Q ok g kk =>
  Ev.of (pe_cmp (pc_din hu (evPE e) (evPE o)) hm) (hi H _ ok g fun y H1 x1 r1 => ho H1 _ x1.ok (Γ.mono x1.same g) fun x H2 x2 r2 => by
    obtain ⟨a, kvs, rfl, h, p⟩ := hs x H2 x2.ok (Γ.mono (x1.same.trans x2.same) g) r2
    cases (show y = kV k from r1)
    exact ⟨a, _, rfl, DGet.k h, kk _ _ (x1.trans x2) (by show V.bl _ = V.bl _; rw [hv kvs _ (Γ.mono (x1.same.trans x2.same) g) p])⟩)
theorem t_din {k : Key} {t : Bool} (hu : X.A.units + 1 < cLine) (hi : E3 X A Γ σ e (RV (kV k))) (ho : E3 X A Γ σ o Ra) (hs : SeesD A Γ Ra Pd) (hv : ∀ kvs G, Γ.holds G → (Pd kvs).holds G → (valV kvs k).isSome = t) (hm : behindInMarks .In o = false := by with_unfolding_all rfl) : T3 X A Γ σ (.Compare e [.In] [o] pos) t := fun H Q ok g kk =>
  Et.of (pt_cmp (pc_din hu (evPE e) (evPE o)) hm) (hi H _ ok g fun y H1 x1 r1 => ho H1 _ x1.ok (Γ.mono x1.same g) fun x H2 x2 r2 => by
    obtain ⟨a, kvs, rfl, h, p⟩ := hs x H2 x2.ok (Γ.mono (x1.same.trans x2.same) g) r2
    cases (show y = kV k from r1)
    exact ⟨a, _, rfl, DGet.k h, t, by rw [hv kvs _ (Γ.mono (x1.same.trans x2.same) g) p], kk _ (x1.trans x2)⟩)
theorem f_dnew : F3 X A Γ σ (.Dict [] [] pos) (fun o => pP (o = .dK [])) := fun H Q ok g k => Ev.of pe_dnewK (fun p hp => k p _ _ (New.laid (Ext.refl ok) hp _) rfl)
theorem f_dnewT : F3 X A Γ σ (.Dict [] [] pos) (fun o => pP (o = .dT [])) := fun H Q ok g k => Ev.of pe_dnewT (fun p hp => k p _ _ (New.laid (Ext.refl ok) hp _) rfl)
/-- d[k] = e of an owned dict -/
theorem b_dput (A1 : Own) {A2 : Own} {p : Addr} {kvs : List (Key × V)} {k : Key} {pos' : Pos} (hu : X.A.units + 1 < cLine) (hv : E3 X (A1 ++ (p, .dK kvs) :: A2) Γ σ e R) (ho : E3 X (A1 ++ (p, .dK kvs) :: A2) Γ σ o (RV (.ref p))) (hi : E3 X (A1 ++ (p, .dK kvs) :: A2) Γ σ a (RV (kV k))) (hl : ∀ G, Γ.holds G → kvs.length < sizeLine)
    (kk : ∀ v, B3 X (A1 ++ (p, .dK (putK kvs k v)) :: A2) (pAnd Γ (R v)) σ rest D) (hs : swapsWith e (some (.Subscript o a pos')) pos.line X.env = pure false := by rfl) : B3 X (A1 ++ (p, .dK kvs) :: A2) Γ σ (.Assign [.Subscript o a pos'] e pos :: rest) D := fun H ok g =>
  b_cons (Es.of (ps_dput hu (evPE o) (evPE a) (evPE e) hs) (hv H _ ok g fun v H1 x1 r1 => ho H1 _ x1.ok (Γ.mono x1.same g) fun x H2 x2 r2 => hi H2 _ x2.ok (Γ.mono (x1.same.trans x2.same) g) fun y H3 x3 r3 => by
    cases (show x = .ref p from r2)
    cases (show y = kV k from r3)
    obtain ⟨o1, o2, o3⟩ := own_put (o' := .dK (putK kvs k v)) x3.ok
    refine ⟨p, _, rfl, DPut.k o3 (hl _ g), kk v _ o1 ?_⟩
    rw [o2]
    exact ⟨Γ.mono ((x1.same.trans x2.same).trans x3.same) g, (R v).mono (x2.same.trans x3.same) r1⟩))

/-! ### slices -/
theorem f_slice {lo hi : Option Expr} {l h : Option Int} {p2 : Pos} {tl th : TO} (ha : E3 X A Γ σ a Ra) (hs : SeesL X.K A Γ Ra P) (hl : PO X lo tl) (hh : PO X hi th) (l1 : ∀ H Q, A.Ok H → Γ.holds (hide A H) → (∀ H', Ext A H H' → Q l H') → tl σ H Q) (h1 : ∀ H Q, A.Ok H → Γ.holds (hide A H) → (∀ H', Ext A H H' → Q h H') → th σ H Q) :
    F3 X A Γ σ (.Subscript a (.Slice lo hi none p2) pos) (fun o => pEx fun vs => pAnd (pP (o = .lst (cutV vs l h))) (P vs)) := fun H Q ok g k =>
  Ev.of (pe_slice sl_list (evPE a) hl hh) (ha H _ ok g fun x H1 x1 r1 => l1 H1 _ x1.ok (Γ.mono x1.same g) fun H2 x2 => h1 H2 _ x2.ok (Γ.mono (x1.same.trans x2.same) g) fun H3 x3 => by
    obtain ⟨q, vs, rfl, s, p⟩ := hs x H3 x3.ok (Γ.mono ((x1.same.trans x2.same).trans x3.same) g) ((Ra x).mono (x2.same.trans x3.same) r1)
    exact ⟨q, vs, rfl, s, fun r hr => k r _ _ (New.laid ((x1.trans x2).trans x3) hr _) ⟨vs, rfl, (P vs).mono (New.laid (Ext.refl x3.ok) hr _).same p⟩⟩)
theorem six_nat {m d n : Nat} : HT.sIx m d (some (n : Int)) = min n m := by
  unfold HT.sIx
  have h0 : ¬ ((n : Int) < 0) := by omega
  simp only [h0, if_false, Int.toNat_natCast]
  try rfl
theorem cut_from {n : Nat} (vs : List V) : cutV vs (some (n : Int)) none = vs.drop n := by
  unfold cutV
  rw [six_nat]
  show (vs.drop (min n vs.length)).take (vs.length - min n vs.length) = vs.drop n
  by_cases h : n ≤ vs.length
  · rw [Nat.min_eq_left h]
    exact List.take_of_length_le (by rw [List.length_drop]; omega)
  · rw [Nat.min_eq_right (by omega), List.drop_eq_nil_of_le (Nat.le_refl _), List.drop_eq_nil_of_le (by omega)]
    simp
theorem cut_to {n : Nat} (vs : List V) : cutV vs none (some (n : Int)) = vs.take n := by
  unfold cutV
  rw [six_nat]
  show (vs.drop 0).take (min n vs.length - 0) = vs.take n
  rw [List.drop_zero, Nat.sub_zero]
  by_cases h : n ≤ vs.length
  · rw [Nat.min_eq_left h]
  · rw [Nat.min_eq_right (by omega), List.take_of_length_le (Nat.le_refl _), List.take_of_length_le (by omega)]
theorem pAll_drop {α β : Type} {R : α → β → Pr} {G : Hp} : ∀ {xs : List α} {vs : List β} (n : Nat), (pAll R xs vs).holds G → (pAll R (xs.drop n) (vs.drop n)).holds G
  | _, _, 0, h => h
  | [], [], _ + 1, h => h
  | _ :: _, _ :: _, n + 1, h => pAll_drop n h.2
theorem pAll_take {α β : Type} {R : α → β → Pr} {G : Hp} : ∀ {xs : List α} {vs : List β} (n : Nat), (pAll R xs vs).holds G → (pAll R (xs.take n) (vs.take n)).holds G
  | [], [], 0, _ => trivial
  | _ :: _, _ :: _, 0, _ => trivial
  | [], [], _ + 1, h => h
  | _ :: _, _ :: _, n + 1, h => ⟨h.1, pAll_take n h.2⟩
/-- xs[n:] -/
theorem f_from {α : Type} {T : α → V → Pr} {xs : List α} {i : Int} {p2 : Pos} (n : Nat) (ha : E3 X A Γ σ a (RL T xs)) (hb : E3 X A Γ σ b (RI i)) (hi : i = (n : Int)) : F3 X A Γ σ (.Subscript a (.Slice (some b) none none p2) pos) (OL T (xs.drop n)) := fun H Q ok g k =>
  f_slice (l := some (n : Int)) (h := none) ha s_rl (po_some (evPE b)) po_none (fun H Q ok g k => hb H _ ok g fun v H' x r => ⟨(n : Int), by rw [← hi]; exact r, k _ x⟩) (fun H Q ok g k => k _ (Ext.refl ok)) H Q ok g fun p o H' nw ⟨vs, eo, r⟩ => k p o H' nw ⟨vs.drop n, by rw [← cut_from]; exact eo, pAll_drop n r⟩
/-- xs[:n] -/
theorem f_to {α : Type} {T : α → V → Pr} {xs : List α} {i : Int} {p2 : Pos} (n : Nat) (ha : E3 X A Γ σ a (RL T xs)) (hb : E3 X A Γ σ b (RI i)) (hi : i = (n : Int)) : F3 X A Γ σ (.Subscript a (.Slice none (some b) none p2) pos) (OL T (xs.take n)) := fun H Q ok g k =>
  f_slice (l := none) (h := some (n : Int)) ha s_rl po_none (po_some (evPE b)) (fun H Q ok g k => k _ (Ext.refl ok)) (fun H Q ok g k => hb H _ ok g fun v H' x r => ⟨(n : Int), by rw [← hi]; exact r, k _ x⟩) H Q ok g fun p o H' nw ⟨vs, eo, r⟩ => k p o H' nw ⟨vs.take n, by rw [← cut_to]; exact eo, pAll_take n r⟩

/-! ### texts -/
theorem e_ltS {x y : Str} (ha : E3 X A Γ σ a (RS x)) (hb : E3 X A Γ σ b (RS y)) : E3 X A Γ σ (.Compare a [.Lt] [b] pos) (RB (decide (x.cps.toList < y.cps.toList))) :=
  e_cmp op_lt_str (nomark _) (fun u w H Q ok g hu hw k => ⟨x, y, hu, hw, k _ _ (Ext.refl ok) rfl⟩) ha hb
theorem e_addS {x y : Str} (ha : E3 X A Γ σ a (RS x)) (hb : E3 X A Γ σ b (RS y)) (hl : x.length + y.length ≤ sizeLine) : E3 X A Γ σ (.BinOp a .Add b pos) (RS (x ++ y)) :=
  e_bin op_add_str (fun u w H Q ok g hu hw k => ⟨x, y, hu, hw, hl, k _ _ (Ext.refl ok) rfl⟩) ha hb
theorem e_strI {p : Pos} {i : Int} (hm : X.mg "str" = none) (h : E3 X A Γ σ e (RI i)) (hi : i.natAbs.log2 < 1920) (hg : Gl X "str" := by rfl) (h1 : one1 X e := by rfl) : E3 X A Γ σ (.Call (.Name "str" p) [e] [] pos) (RS (toString i)) :=
  e_bty (es := []) call_str_int hm (by decide +kernel) (a_cons h a_nil h1) (fun vs H Q ok g r k => by
    obtain ⟨v, rfl, rv⟩ := pc1 r
    cases (show v = .int i from rv)
    exact ⟨i, rfl, hi, k _ _ (Ext.refl ok) rfl⟩) hg (by decide) (by decide) h1 (by rfl)
theorem e_intI {p : Pos} {i : Int} (hm : X.mg "int" = none) (h : E3 X A Γ σ e (RI i)) (hg : Gl X "int" := by rfl) (h1 : one1 X e := by rfl) : E3 X A Γ σ (.Call (.Name "int" p) [e] [] pos) (RI i) :=
  e_bty (es := []) call_int1 hm (by decide +kernel) (a_cons h a_nil h1) (fun vs H Q ok g r k => by
    obtain ⟨v, rfl, rv⟩ := pc1 r
    cases (show v = .int i from rv)
    exact .inl ⟨i, rfl, k _ _ (Ext.refl ok) rfl⟩) hg (by decide) (by decide) h1 (by rfl)
theorem e_intB {p : Pos} {t : Bool} (hm : X.mg "int" = none) (h : E3 X A Γ σ e (RB t)) (hg : Gl X "int" := by rfl) (h1 : one1 X e := by rfl) : E3 X A Γ σ (.Call (.Name "int" p) [e] [] pos) (RI (if t then 1 else 0)) :=
  e_bty (es := []) call_int1 hm (by decide +kernel) (a_cons h a_nil h1) (fun vs H Q ok g r k => by
    obtain ⟨v, rfl, rv⟩ := pc1 r
    cases (show v = .bl t from rv)
    exact .inr ⟨t, rfl, k _ _ (Ext.refl ok) rfl⟩) hg (by decide) (by decide) h1 (by rfl)

/-! ### lists put together, made anew -/
theorem f_cat {α : Type} {T : α → V → Pr} {xs ys : List α} (ha : E3 X A Γ σ a (RL T xs)) (hb : E3 X A Γ σ b (RL T ys)) (hl : xs.length + ys.length ≤ sizeLine) : F3 X A Γ σ (.BinOp a .Add b pos) (OL T (xs ++ ys)) := fun H Q ok g k =>
  Ev.of (pe_op op_cat (evPE a) (evPE b)) (ha H _ ok g fun x H1 x1 r1 => hb H1 _ x1.ok (Γ.mono x1.same g) fun y H2 x2 r2 => by
    obtain ⟨p, vs, rfl, h1, p1⟩ := (RL T xs x).mono x2.same r1
    obtain ⟨q, ws, rfl, h2, p2⟩ := r2
    exact ⟨p, q, vs, ws, rfl, rfl, hide_le _ _ h1, hide_le _ _ h2, by rw [← pAll_len p1, ← pAll_len p2]; exact hl, fun r hr => k r _ _ (New.laid (x1.trans x2) hr _) ⟨vs ++ ws, rfl, (pAll T (xs ++ ys) (vs ++ ws)).mono (New.laid (Ext.refl x2.ok) hr _).same (pAll_app p1 p2)⟩⟩)
/-- list(xs), xs a list or a tuple -/
theorem f_list {p : Pos} (hm : X.mg "list" = none) (h : E3 X A Γ σ e Ra) (hs : Sees X.K A Γ Ra P) (hg : Gl X "list" := by rfl) (h1 : one1 X e := by rfl) : F3 X A Γ σ (.Call (.Name "list" p) [e] [] pos) (fun o => pEx fun vs => pAnd (pP (o = .lst vs)) (P vs)) := fun H Q ok g k =>
  Ev.of (pe_callTy call_list_of hg hm (by decide +kernel) (eaPA [e]) (by decide) (by decide) h1 (by rfl)) (A3.ea (a_cons h a_nil h1) ok g fun vs H1 x1 r1 => by
    obtain ⟨v, rfl, rv⟩ := pc1 r1
    obtain ⟨a, ws, rfl, s, p⟩ := hs v H1 x1.ok (Γ.mono x1.same g) rv
    exact ⟨a, ws, rfl, s, fun l hl => k l _ _ (New.laid x1 hl _) ⟨ws, rfl, (P ws).mono (New.laid (Ext.refl x1.ok) hl _).same p⟩⟩)
theorem f_listL {p : Pos} {α : Type} {T : α → V → Pr} {xs : List α} (hm : X.mg "list" = none) (h : E3 X A Γ σ e (RL T xs)) (hg : Gl X "list" := by rfl) (h1 : one1 X e := by rfl) : F3 X A Γ σ (.Call (.Name "list" p) [e] [] pos) (OL T xs) := f_list hm h s_rl.s hg h1
/-- tuple(xs), xs a list -/
theorem f_tupleL {p : Pos} {α : Type} {T : α → V → Pr} {xs : List α} (hm : X.mg "tuple" = none) (h : E3 X A Γ σ e (RL T xs)) (hg : Gl X "tuple" := by rfl) (h1 : one1 X e := by rfl) : F3 X A Γ σ (.Call (.Name "tuple" p) [e] [] pos) (OT T xs) := fun H Q ok g k =>
  Ev.of (pe_callTy call_tuple_of hg hm (by decide +kernel) (eaPA [e]) (by decide) (by decide) h1 (by rfl)) (A3.ea (a_cons h a_nil h1) ok g fun vs H1 x1 r1 => by
    obtain ⟨v, rfl, a, ws, rfl, hh, p⟩ := pc1 r1
    exact ⟨a, ws, rfl, .inl ⟨SqL.of (hide_le _ _ hh), fun l hl => k l _ _ (New.laid x1 hl _) ⟨ws, rfl, (pAll T xs ws).mono (New.laid (Ext.refl x1.ok) hl _).same p⟩⟩⟩)
/-- [*a, *b] -/
theorem f_star2 {α : Type} {T : α → V → Pr} {xs ys : List α} {p1 p2 : Pos} (ha : E3 X A Γ σ a (RL T xs)) (hb : E3 X A Γ σ b (RL T ys)) (hl : xs.length + ys.length ≤ sizeLine)
    (h1 : starEach [.Starred a p1, .Starred b p2] X.env = (true, eval a X.env) :: starEach [.Starred b p2] X.env := by rfl) (h2 : starEach [.Starred b p2] X.env = (true, eval b X.env) :: starEach [] X.env := by rfl) : F3 X A Γ σ (.List [.Starred a p1, .Starred b p2] pos) (OL T (xs ++ ys)) := fun H Q ok g k =>
  Ev.of (pe_lst (StX.pa_star (evPE a) (StX.pa_star (evPE b) pa_nil h2) h1)) (ha H _ ok g fun x H1 x1 r1 => by
    obtain ⟨p, vs, rfl, hv, q1⟩ := r1
    refine ⟨p, vs, rfl, .inr (SqL.of (hide_le _ _ hv)), hb H1 _ x1.ok (Γ.mono x1.same g) fun y H2 x2 r2 => ?_⟩
    obtain ⟨q, ws, rfl, hw, q2⟩ := r2
    refine ⟨q, ws, rfl, .inr (SqL.of (hide_le _ _ hw)), ?_⟩
    have q1' := (pAll T xs vs).mono x2.same q1
    show (vs ++ (ws ++ [])).length ≤ sizeLine ∧ _
    rw [List.append_nil]
    refine ⟨by rw [List.length_append, ← pAll_len q1', ← pAll_len q2]; exact hl, fun r hr => ?_⟩
    exact k r _ _ (New.laid (x1.trans x2) hr _) ⟨vs ++ ws, rfl, (pAll T (xs ++ ys) (vs ++ ws)).mono (New.laid (Ext.refl x2.ok) hr _).same (pAll_app q1' q2)⟩)
/-- [x], [x, y] .. of one kind -/
theorem f_nil {α : Type} {T : α → V → Pr} : F3 X A Γ σ (.List [] pos) (OL T []) := fun H Q ok g k => f_lst a_nil (fun vs G e => by cases (show vs = [] from e); show 0 ≤ 1000; decide) H Q ok g fun p o H' n ⟨vs, eo, e⟩ => k p o H' n ⟨vs, eo, by cases (show vs = [] from e); trivial⟩
theorem f_one {α : Type} {T : α → V → Pr} {x : α} (ha : E3 X A Γ σ a (T x)) (h1 : one1 X a := by rfl) : F3 X A Γ σ (.List [a] pos) (OL T [x]) := fun H Q ok g k => f_lst (a_cons ha a_nil h1) (fun vs G e => by obtain ⟨v, rfl, _⟩ := pc1 e; show 1 ≤ 1000; decide) H Q ok g fun p o H' n ⟨vs, eo, e⟩ => k p o H' n ⟨vs, eo, by obtain ⟨v, rfl, r⟩ := pc1 e; exact ⟨r, trivial⟩⟩
theorem f_two {α : Type} {T : α → V → Pr} {x y : α} (ha : E3 X A Γ σ a (T x)) (hb : E3 X A Γ σ b (T y)) (h1 : starEach [a, b] X.env = (false, eval a X.env) :: starEach [b] X.env := by rfl) (h2 : one1 X b := by rfl) : F3 X A Γ σ (.List [a, b] pos) (OL T [x, y]) := fun H Q ok g k =>
  f_lst (a_cons ha (a_cons hb a_nil h2) h1) (fun vs G e => by obtain ⟨v, w, rfl, _⟩ := pc2 e; show 2 ≤ 1000; decide) H Q ok g fun p o H' n ⟨vs, eo, e⟩ => k p o H' n ⟨vs, eo, by obtain ⟨v, w, rfl, r, r2⟩ := pc2 e; exact ⟨r, r2, trivial⟩⟩
/-- xs[::-1] -/
theorem f_rev {α : Type} {T : α → V → Pr} {xs : List α} {k1 : Nat} {p1 p2 p3 : Pos} (ha : E3 X A Γ σ a (RL T xs)) (hr : ∀ vs G, (pAll T xs vs).holds G → (pAll T xs.reverse vs.reverse).holds G) : F3 X A Γ σ (.Subscript a (.Slice none none (some (.UnaryOp .USub (.Constant (.int 1) k1 p1) p2)) p3) pos) (OL T xs.reverse) := fun H Q ok g k =>
  Ev.of (pe_revL (evPE a)) (ha H _ ok g fun x H1 x1 r1 => by
    obtain ⟨p, vs, rfl, hv, q1⟩ := r1
    exact ⟨p, vs, rfl, SqL.of (hide_le _ _ hv), fun r hp => k r _ _ (New.laid x1 hp _) ⟨vs.reverse, rfl, (pAll T xs.reverse vs.reverse).mono (New.laid (Ext.refl x1.ok) hp _).same (hr vs _ q1)⟩⟩)
end

/-! ### sorted texts -/
abbrev ltS (x y : Str) : Prop := x.cps.toList < y.cps.toList
end Pm
/-! Pm7 -/
set_option maxHeartbeats 2000000
/-! Pm7: shorthands. -/
namespace Pm
open PySem PySem.Spec L2
section
variable {X : Cx} {A B : Own} {Γ Δ : Pr} {σ : L2.St} {a b c e o : Expr} {R Ra Rb Rc : V → Pr} {pos : Pos} {tg : Expr}
theorem i_zipL {α β : Type} {P1 : α → V → Pr} {P2 : β → V → Pr} {xs : List α} {ys : List β} {p tpos : Pos} {elts : List Expr} {kk : Nat} {e2 : Expr} (hm : X.mg "zip" = none) (h : E3 X A Γ σ e (RL P1 xs)) (h2 : E3 X A Γ σ e2 (RL P2 ys)) (hg : Gl X "zip" := by rfl)
    (hs : starEach [e, e2] X.env = [(false, eval e X.env), (false, eval e2 X.env)] := by rfl) (hs1 : starEach [e, e2] X.env = (false, eval e X.env) :: starEach [e2] X.env := by rfl) (hs2 : starEach [e2] X.env = (false, eval e2 X.env) :: starEach [] X.env := by rfl) (hpl : (backTo pos (starEach [e2] X.env)).any (·.1) = false := by rfl) :
    I3 X A Γ σ (.Tuple elts kk tpos) (.Call (.Name "zip" p) [e, e2] [] pos) (xs.zip ys) (RT2 P1 P2) := i_zip hm h h2 hg hs hs1 hs2 (pi_zip hg hm (eaPA [e, e2]) hs1 hpl)
/-- a pair as a target in a comprehension -/
theorem tc_two {β γ : Type} {scope : Scope} {R1 : β → V → Pr} {R2 : γ → V → Pr} (i j : Nat) {x y : Str} {p1 p2 p3 : Pos} {kt : Nat} (hN : X.N.Nodup := by assumption) (hi : X.N[i]? = some x := by rfl) (hj : X.N[j]? = some y := by rfl)
    (hx : ∀ (s : Shared) (H : Hp) (C : Addr) (cl : List (Str × Addr)) (fp : List Addr), Loc (X.blk s H scope (compEnvC scope cl C X.env) fp).env.scope x := by first | exact fun _ _ _ _ _ => .inl rfl | exact fun _ _ _ _ _ => .inr rfl)
    (hf : ∀ (s : Shared) (H : Hp) (C : Addr) (cl : List (Str × Addr)) (fp : List Addr), (X.blk s H scope (compEnvC scope cl C X.env) fp).fn x = true ∨ (X.blk s H scope (compEnvC scope cl C X.env) fp).env.scope.names.lookup x = some .local := by first | exact fun _ _ _ _ _ => .inr rfl | exact fun _ _ _ _ _ => .inl rfl)
    (hx2 : ∀ (s : Shared) (H : Hp) (C : Addr) (cl : List (Str × Addr)) (fp : List Addr), Loc (X.blk s H scope (compEnvC scope cl C X.env) fp).env.scope y := by first | exact fun _ _ _ _ _ => .inl rfl | exact fun _ _ _ _ _ => .inr rfl)
    (hf2 : ∀ (s : Shared) (H : Hp) (C : Addr) (cl : List (Str × Addr)) (fp : List Addr), (X.blk s H scope (compEnvC scope cl C X.env) fp).fn y = true ∨ (X.blk s H scope (compEnvC scope cl C X.env) fp).env.scope.names.lookup y = some .local := by first | exact fun _ _ _ _ _ => .inr rfl | exact fun _ _ _ _ _ => .inl rfl) (hc : X.calm = true := by rfl) :
    TgC X (.Tuple [.Name x p1, .Name y p2] kt p3) scope (gTup X.K 2 (gCons (gName i) (gCons (gName j) gNil))) (RT2 R1 R2) (fun (w : V × V) σ => (σ.set i (some w.1)).set j (some w.2)) (fun z w => pAnd (R1 z.1 w.1) (R2 z.2 w.2)) :=
  tc_pair i j fun s H C cl fp => pg_tup hc (pgs_cons (pg_name hN hi (hx s H C cl fp) (hf s H C cl fp)) (pgs_cons (pg_name hN hj (hx2 s H C cl fp) (hf2 s H C cl fp)) pgs_nil rfl) rfl) rfl rfl
/-- a name, with what is known of it searched for -/
theorem e_x (i : Nat) {x : Str} {v : V} (hs : σ[i]? = some (some v) := by rfl) (h : Γ.le (R v) := by first | exact fun _ z => z.2 | exact fun _ z => z.1.2 | exact fun _ z => z.1.1.2 | exact fun _ z => z.1.1.1.2 | exact fun _ z => z.1.1.1.1.2 | exact fun _ z => z.1.1.1.1.1.2 | exact fun _ z => z.1.1.1.1.1.1.2 | exact fun _ z => z.1.1.1.1.1.1.1.2 | exact fun _ z => z.1.1.1.1.1.1.1.1.2 | exact fun _ z => z.2.1 | exact fun _ z => z.2.2 | exact fun _ z => z.2.2.2 | exact fun _ z => z.2.2.1 | exact fun _ z => z.2.1.2 | exact fun _ z => z.2.1.1 | exact fun _ z => z.1.2.1 | exact fun _ z => z.1.2.2 | exact fun _ z => z.1.2.2.2 | exact fun _ z => z.1.2.2.1 | exact fun _ z => z.1.2.1.2 | exact fun _ z => z.1.2.1.1 | exact fun _ z => z.1.1.2.1 | exact fun _ z => z.1.1.2.2 | exact fun _ z => z.1.1.2.2.2 | exact fun _ z => z.1.1.2.2.1 | exact fun _ z => z.1.1.2.1.2 | exact fun _ z => z.1.1.2.1.1 | exact fun _ z => z.1.1.1.2.1 | exact fun _ z => z.1.1.1.2.2 | exact fun _ z => z.1.1.1.2.2.2 | exact fun _ z => z.1.1.1.2.2.1 | exact fun _ z => z.1.1.1.2.1.2 | exact fun _ z => z.1.1.1.2.1.1 | exact fun _ z => z.1.1.1.1.2.1 | exact fun _ z => z.1.1.1.1.2.2 | exact fun _ z => z.1.1.1.1.2.2.2 | exact fun _ z => z.1.1.1.1.2.2.1 | exact fun _ z => z.1.1.1.1.2.1.2 | exact fun _ z => z.1.1.1.1.2.1.1 | exact fun _ z => z.1.1.1.1.1.2.1 | exact fun _ z => z.1.1.1.1.1.2.2 | exact fun _ z => z.1.1.1.1.1.2.2.2 | exact fun _ z => z.1.1.1.1.1.2.2.1 | exact fun _ z => z.1.1.1.1.1.2.1.2 | exact fun _ z => z.1.1.1.1.1.2.1.1 | exact fun _ z => z.1.1.1.1.1.1.2.1 | exact fun _ z => z.1.1.1.1.1.1.2.2 | exact fun _ z => z.1.1.1.1.1.1.2.2.2 | exact fun _ z => z.1.1.1.1.1.1.2.2.1 | exact fun _ z => z.1.1.1.1.1.1.2.1.2 | exact fun _ z => z.1.1.1.1.1.1.2.1.1) (hN : X.N[i]? = some x := by rfl) (hv : Vis X.env.scope x := by first | exact Or.inl rfl | exact Or.inr (Or.inl rfl) | exact Or.inr (Or.inr rfl))
    (hd : (x == ("__debug__" : Str)) = false := by decide) (hcd : (x == ("__classdict__" : Str)) = false := by decide) : E3 X A Γ σ (.Name x pos) R := e_var i h hs hN hv hd hcd
theorem b_rt {A0 : Own} {G0 : Hp} {P : V → Pr} {D : Ends} {rest : List Stmt} (hq : Post A0 G0 P D.rt) (h : E3 X A0 Γ σ e R) (hp : ∀ v, (pAnd Γ (R v)).le (P v) := by exact fun _ _ z => z.2) (hs : Γ.le (pSame G0) := by first | exact fun _ z => z | exact fun _ z => z.1 | exact fun _ z => z.1.1 | exact fun _ z => z.1.1.1 | exact fun _ z => z.1.1.1.1 | exact fun _ z => z.1.1.1.1.1 | exact fun _ z => z.1.1.1.1.1.1 | exact fun _ z => z.1.1.1.1.1.1.1 | exact fun _ z => z.1.1.1.1.1.1.1.1 | exact fun _ z => z.1.1.1.1.1.1.1.1.1 | exact fun _ z => z.1.1.1.1.1.1.1.1.1.1) : B3 X A0 Γ σ (.Return (some e) pos :: rest) D := b_ret0 hq h hs hp
/-- a call of a def of a lower level -/
theorem e_c {δ : Type} {pre : δ → List V → Pr} {post : δ → V → Pr} {x : Str} {k k' : Nat} {p : Pos} {es : List Expr} {Ps : List V → Pr} (F : Fd X.prog X.w X.K X.mg X.base x k (spF pre post)) (hr : Room k' X.A) (d : δ) (ha : A3 X A Γ σ (e :: es) Ps) (hp : ∀ vs, (pAnd Γ (Ps vs)).le (pre d vs) := by exact fun _ _ h => h.2) (hR : ∀ v, (post d v).le (R v) := by exact fun _ _ h => h) (hk : k ≤ k' := by first | decide | omega) (hg : Gl X x := by rfl) (hdb : (x == ("__debug__" : Str)) = false := by decide)
    (he : starEach (e :: es) X.env = (false, eval e X.env) :: starEach es X.env := by rfl) (hpl : (backTo pos (starEach es X.env)).any (·.1) = false := by rfl) : E3 X A Γ σ (.Call (.Name x p) (e :: es) [] pos) R := e_call F (hr.mono hk) d ha hp hR hg hdb he hpl
end
theorem all_tt {α : Type} (xs : List α) : (xs.map fun _ => true).all id = true := by simp
end Pm
/-! Dc2 -/
set_option maxHeartbeats 2000000
/-! Dc2: a dict comprehension with two clauses. The library has the list's with two and the dict's with one; statement and proof follow those two, step by step. -/
namespace L2
open PySem PySem.Spec PyProof.Rows
theorem compTurnD2_out (kx vx t0 i0 t1 i1 : Expr) (ifs0 ifs1 : List Expr) (scope : Scope) (pos : Pos) (it : Value) (D : Addr) (env : Env) :
    compTurn (.DictComp kx vx [⟨t0, i0, ifs0, 0⟩, ⟨t1, i1, ifs1, 0⟩] scope pos) 0 it (.ref D) env = (do
      standAt i0.pos
      match ← pyNext it with
      | none => pure (.done .next)
      | some v =>
        letOwnedTupleGo t0 it v
        assign t0 env v
        let mut ok := true
        for c in ifs0 do
          if ok then ok ← isTrue c env (eval c env)
        if ok then
          let x ← eval i1 env
          standAt i1.pos
          let x ← foldedSetIterable i1 env x
          let _ ← runOwn (.compStart (.DictComp kx vx [⟨t0, i0, ifs0, 0⟩, ⟨t1, i1, ifs1, 0⟩] scope pos) 1 (← holding [x] (pyIter x)) (.ref D) env) env
        again (.compLoop (.DictComp kx vx [⟨t0, i0, ifs0, 0⟩, ⟨t1, i1, ifs1, 0⟩] scope pos) 0 it (.ref D) env)) := by rfl
theorem compTurnD2_in (kx vx t0 i0 t1 i1 : Expr) (ifs0 ifs1 : List Expr) (scope : Scope) (pos : Pos) (it : Value) (D : Addr) (env : Env) :
    compTurn (.DictComp kx vx [⟨t0, i0, ifs0, 0⟩, ⟨t1, i1, ifs1, 0⟩] scope pos) 1 it (.ref D) env = (do
      standAt i1.pos
      match ← pyNext it with
      | none => pure (.done .next)
      | some v =>
        letOwnedTupleGo t1 it v
        assign t1 env v
        let mut ok := true
        for c in ifs1 do
          if ok then ok ← isTrue c env (eval c env)
        if ok then
          (do
            let kv ← eval kx env
            let vv ← holding [kv] (eval vx env)
            standAt { kx.pos with endLine := vx.pos.endLine, endCol := vx.pos.endCol }
            holding [kv, vv] (dictSet D kv vv))
        again (.compLoop (.DictComp kx vx [⟨t0, i0, ifs0, 0⟩, ⟨t1, i1, ifs1, 0⟩] scope pos) 1 it (.ref D) env)) := by rfl

section
variable {prog : Program} {w : World} {A : Around} {R : Result → Shared → Prop} {s : Shared} {kx vx t0 i0 t1 i1 : Expr} {ifs0 ifs1 : List Expr} {scope : Scope} {pos : Pos} {it : Value} {D : Addr} {env : Env}
/-- the loop of the first clause -/
theorem compLoopD2_out (hs : ∀ x, foldedSetIterable i1 env x = pure x) (I : Nat → Shared → Prop)
    (turn : ∀ n s, I n s → wpAny (model prog w) A (pyNext it) (fun r s₁ => match r with
      | none => R (.ok .next) s₁
      | some v => wpAny (model prog w) A (letOwnedTupleGo t0 it v) (fun _ s₁' => wpAny (model prog w) A (assign t0 env v) (fun _ s₂ =>
          wpAny (model prog w) A (forIn ifs0 true fun c r => if r = true then do let ok ← isTrue c env (eval c env); pure (ForInStep.yield ok) else pure (ForInStep.yield r)) (fun ok s₃ =>
            if ok = true then wpAny (model prog w) A (eval i1 env) (fun x s₄ => wpAny (model prog w) A (pyIter x) (fun it1 s₅ =>
              codeAny (model prog w) A (.compStart (.DictComp kx vx [⟨t0, i0, ifs0, 0⟩, ⟨t1, i1, ifs1, 0⟩] scope pos) 1 it1 (.ref D) env) (fun r s' => match r with
                | .ok _ => ∃ m, m < n ∧ I m s'
                | .error _ => False) s₅) (notedBy (model prog w) A env fun e s' => R (.error e) s') s₄) (notedBy (model prog w) A env fun e s' => R (.error e) s') s₃
            else ∃ m, m < n ∧ I m s₃) (notedBy (model prog w) A env fun e s' => R (.error e) s') s₂) (notedBy (model prog w) A env fun e s' => R (.error e) s') s₁') (notedBy (model prog w) A env fun e s' => R (.error e) s') s₁) (notedBy (model prog w) A env fun e s' => R (.error e) s') s)
    (n : Nat) (h : I n s) :
    codeAny (model prog w) A (.compLoop (.DictComp kx vx [⟨t0, i0, ifs0, 0⟩, ⟨t1, i1, ifs1, 0⟩] scope pos) 0 it (.ref D) env) R s := by
  refine codeAny_loop rfl I (fun n s hI => ?_) n h
  show wpAny _ A ((compTurn (.DictComp kx vx [⟨t0, i0, ifs0, 0⟩, ⟨t1, i1, ifs1, 0⟩] scope pos) 0 it (.ref D) env).onRaise (fun x => do noteFrame x env; theTreesLotGoes x)) _ _ s
  refine wpAny_noted ?_
  rw [compTurnD2_out]
  refine wpAny_bind (wpAny_standAt (wpAny_bind (wpAny_mono (turn n s hI) (fun r s₁ h₁ => ?_) fun _ _ h' => h')))
  cases r with
  | none => exact wpAny_pure h₁
  | some v =>
    refine wpAny_bind (wpAny_mono h₁ (fun _ s₁' h₁' => ?_) fun _ _ h' => h')
    refine wpAny_bind (wpAny_mono h₁' (fun _ s₂ h₂ => wpAny_bind (wpAny_mono h₂ (fun ok s₃ h₃ => ?_) fun _ _ h' => h')) fun _ _ h' => h')
    cases ok with
    | false => exact wpAny_pure ⟨rfl, h₃⟩
    | true =>
      refine wpAny_bind (wpAny_mono h₃ (fun x s₄ h₄ => ?_) fun _ _ h' => h')
      refine wpAny_bind (wpAny_standAt (wpAny_bind (wpAny_of_eq (hs x) (wpAny_bind (wpAny_holding (wpAny_mono h₄ (fun it1 s₅ h₅ => ?_) fun _ _ h' => h'))))))
      refine wpAny_bind (wpAny_runOwn ?_)
      rw [Around.mark_none]
      refine codeAny_mono h₅ fun r s' hr => ?_
      cases r with
      | ok f =>
        first
          | exact wpAny_pure ⟨rfl, hr⟩
          | exact wpAny_bind (wpAny_pure (wpAny_pure ⟨rfl, hr⟩))
      | error e => exact hr.elim
/-- the loop of the second -/
theorem compLoopD2_in (I : Nat → Shared → Prop)
    (turn : ∀ n s, I n s → wpAny (model prog w) A (pyNext it) (fun r s₁ => match r with
      | none => R (.ok .next) s₁
      | some v => wpAny (model prog w) A (letOwnedTupleGo t1 it v) (fun _ s₁' => wpAny (model prog w) A (assign t1 env v) (fun _ s₂ =>
          wpAny (model prog w) A (forIn ifs1 true fun c r => if r = true then do let ok ← isTrue c env (eval c env); pure (ForInStep.yield ok) else pure (ForInStep.yield r)) (fun ok s₃ =>
            if ok = true then wpAny (model prog w) A (eval kx env) (fun kv s₄ => wpAny (model prog w) A (eval vx env) (fun vv s₅ =>
              wpAny (model prog w) A (dictSet D kv vv) (fun _ s₆ => ∃ m, m < n ∧ I m s₆) (notedBy (model prog w) A env fun e s' => R (.error e) s') s₅) (notedBy (model prog w) A env fun e s' => R (.error e) s') s₄) (notedBy (model prog w) A env fun e s' => R (.error e) s') s₃
            else ∃ m, m < n ∧ I m s₃) (notedBy (model prog w) A env fun e s' => R (.error e) s') s₂) (notedBy (model prog w) A env fun e s' => R (.error e) s') s₁') (notedBy (model prog w) A env fun e s' => R (.error e) s') s₁) (notedBy (model prog w) A env fun e s' => R (.error e) s') s)
    (n : Nat) (h : I n s) :
    codeAny (model prog w) A (.compLoop (.DictComp kx vx [⟨t0, i0, ifs0, 0⟩, ⟨t1, i1, ifs1, 0⟩] scope pos) 1 it (.ref D) env) R s := by
  refine codeAny_loop rfl I (fun n s hI => ?_) n h
  show wpAny _ A ((compTurn (.DictComp kx vx [⟨t0, i0, ifs0, 0⟩, ⟨t1, i1, ifs1, 0⟩] scope pos) 1 it (.ref D) env).onRaise (fun x => do noteFrame x env; theTreesLotGoes x)) _ _ s
  refine wpAny_noted ?_
  rw [compTurnD2_in]
  refine wpAny_bind (wpAny_standAt (wpAny_bind (wpAny_mono (turn n s hI) (fun r s₁ h₁ => ?_) fun _ _ h' => h')))
  cases r with
  | none => exact wpAny_pure h₁
  | some v =>
    refine wpAny_bind (wpAny_mono h₁ (fun _ s₁' h₁' => ?_) fun _ _ h' => h')
    refine wpAny_bind (wpAny_mono h₁' (fun _ s₂ h₂ => wpAny_bind (wpAny_mono h₂ (fun ok s₃ h₃ => ?_) fun _ _ h' => h')) fun _ _ h' => h')
    cases ok with
    | false => exact wpAny_pure ⟨rfl, h₃⟩
    | true =>
      exact wpAny_bind (wpAny_bind (wpAny_mono h₃ (fun kv s₄ h₄ => wpAny_bind (wpAny_holding (wpAny_mono h₄ (fun vv s₅ h₅ => wpAny_bind (wpAny_standAt (wpAny_holding (wpAny_mono h₅ (fun _ s₆ h₆ => wpAny_pure ⟨rfl, h₆⟩) fun _ _ h' => h')))) fun _ _ h' => h'))) fun _ _ h' => h'))
/-- the second clause's start -/
theorem compStartD1_ok (h0 : codeAny (model prog w) A (.compLoop (.DictComp kx vx [⟨t0, i0, ifs0, 0⟩, ⟨t1, i1, ifs1, 0⟩] scope pos) 1 it (.ref D) env) R s)
    (h : wpAny (model prog w) A (pyIter it) (fun it' s' => codeAny (model prog w) A (.compLoop (.DictComp kx vx [⟨t0, i0, ifs0, 0⟩, ⟨t1, i1, ifs1, 0⟩] scope pos) 1 it' (.ref D) env) R s')
      (notedBy (model prog w) A env fun x s' => R (.error x) s') s) :
    codeAny (model prog w) A (.compStart (.DictComp kx vx [⟨t0, i0, ifs0, 0⟩, ⟨t1, i1, ifs1, 0⟩] scope pos) 1 it (.ref D) env) R s := by
  refine codeAny_of_tree ?_
  show wpAny _ _ ((compStart (.DictComp kx vx [⟨t0, i0, ifs0, 0⟩, ⟨t1, i1, ifs1, 0⟩] scope pos) 1 it (.ref D) env).onRaise (fun x => do noteFrame x env; standAt theWindowsPlace)) _ _ s
  refine wpAny_notedAt ?_
  unfold compStart
  show wpAny _ _ (ask >>= _) _ _ s
  refine wpAny_bind (wpAny_askSetting (wpAny_ite ?_))
  split
  · first
      | exact wpAny_bind (wpAny_pure (wpAny_pure (And.intro rfl h0)))
      | exact wpAny_pure (And.intro rfl h0)
  · first
      | exact wpAny_bind (wpAny_rule (wpAny_bind (wpAny_standAt (wpAny_bind (wpAny_mono h (fun it' s' h' => wpAny_pure (And.intro rfl h')) fun _ _ x => x)))))
      | (refine wpAny_bind (wpAny_rule ?_); show wpAny _ _ (standAt i1.pos >>= _) _ _ s; exact wpAny_bind (wpAny_standAt (wpAny_bind (wpAny_mono h (fun it' s' h' => wpAny_pure (And.intro rfl h')) fun _ _ x => x))))
end

section
variable {X : Cx}
/-- {k: v for tg in iter if .. for tg1 in iter1 if ..}, keys ints or texts -/
def tDc2 (wi : TI) (g : TG) (tt : TT) (wi1 : TI) (g1 : TG) (tt1 : TT) (tk tv : TE) (vs vs1 : List Nat) : TE := fun σ H Q => wi σ H fun J H1 => ∀ D, H1 D = none → ∃ W : Nat → Nat → Hp → Prop, (∃ m, W 0 m (upd H1 D (.dK []))) ∧ ∀ i m H, W i m H →
  (J.stop i H ∧ Q (.ref D) H) ∨ (J.go i H ∧ ∃ Nx : Hp → Prop, (∀ H', Nx H' → ∃ m', m' < m ∧ W (i + 1) m' H') ∧ ∀ x H', J.yld i H x H' → g x (wipe σ vs) H' fun σ2 H2 => wipe σ2 vs = wipe σ vs ∧ tt σ2 H2 fun b H3 =>
    if b = true then wi1 σ2 H3 fun J1 H4 => ∃ W1 : Nat → Nat → Hp → Prop, (∃ m, W1 0 m H4) ∧ ∀ j k H, W1 j k H →
      (J1.stop j H ∧ Nx H) ∨ (J1.go j H ∧ ∃ Nx1 : Hp → Prop, (∀ H', Nx1 H' → ∃ k', k' < k ∧ W1 (j + 1) k' H') ∧ ∀ x H', J1.yld j H x H' → g1 x (wipe σ2 vs1) H' fun σ3 H5 => wipe σ3 vs1 = wipe σ2 vs1 ∧ tt1 σ3 H5 fun b H6 =>
        if b = true then tk σ3 H6 fun y H7 => tv σ3 H7 fun z H8 => ∃ kvs k, y = kV k ∧ H8 D = some (.dK kvs) ∧ kvs.length < sizeLine ∧ Nx1 (upd H8 D (.dK (putK kvs k z))) else Nx1 H6)
    else Nx H3)
theorem dc2_core {pins : List (Addr × Obj)} {s : Shared} {σ : St} {H : Hp} {Q : VK} {kx vx tg iter tg1 iter1 : Expr} {ifs ifs1 : List Expr} {scope : Scope} {own : List (Str × Nat)} {vs1 : List Nat} {pos pos' : Pos} {wi wi1 : TI} {g g1 : TG} {tt tt1 : TT} {tk tv : TE} {use : Option (Value → Sem Unit)} {Qf : Value → Shared → Prop}
    (hc : X.calm = true) (hN : X.N.Nodup) (I : Inv X pins σ H s) (hi : PI X tg iter wi) (ok : BlkOk X.N X.env.scope scope own) (hv : ∀ i ∈ vs1, i ∈ own.map (·.2))
    (hg : ∀ (s : Shared) (H : Hp) (C : Addr) (cl : List (Str × Addr)) (fp : List Addr), PG (X.blk s H scope (compEnvC scope cl C X.env) fp) tg g) (ht : ∀ (s : Shared) (H : Hp) (C : Addr) (cl : List (Str × Addr)) (fp : List Addr), PTs (X.blk s H scope (compEnvC scope cl C X.env) fp) ifs tt)
    (hk : ∀ (s : Shared) (H : Hp) (C : Addr) (cl : List (Str × Addr)) (fp : List Addr), PE (X.blk s H scope (compEnvC scope cl C X.env) fp) kx tk)
    (he : ∀ (s : Shared) (H : Hp) (C : Addr) (cl : List (Str × Addr)) (fp : List Addr), PE (X.blk s H scope (compEnvC scope cl C X.env) fp) vx tv) (hs : ∀ x, foldedSetIterable iter X.env x = pure x)
    (hi1 : ∀ (s : Shared) (H : Hp) (C : Addr) (cl : List (Str × Addr)) (fp : List Addr), PI (X.blk s H scope (compEnvC scope cl C X.env) fp) tg1 iter1 wi1)
    (hg1 : ∀ (s : Shared) (H : Hp) (C : Addr) (cl : List (Str × Addr)) (fp : List Addr), PG (X.blk s H scope (compEnvC scope cl C X.env) fp) tg1 g1)
    (ht1 : ∀ (s : Shared) (H : Hp) (C : Addr) (cl : List (Str × Addr)) (fp : List Addr), PTs (X.blk s H scope (compEnvC scope cl C X.env) fp) ifs1 tt1)
    (hs1 : ∀ env x, foldedSetIterable iter1 env x = pure x)
    (h : tDc2 wi g tt wi1 g1 tt1 tk tv (own.map (·.2)) vs1 σ H Q)
    (hRR : ∀ D C s' m H', Inv X pins σ H' s' → Q (.ref D) H' → s'.heap.Ns C m → FpOk X pins H' C → compPost (model X.prog X.w) X.A X.xe use Qf (.ref D) C (.ok .next) s') :
    wpAny (model X.prog X.w) X.A (comprehension (.DictComp kx vx [⟨tg, iter, ifs, 0⟩, ⟨tg1, iter1, ifs1, 0⟩] scope pos) scope X.env pos' newDict false (eval iter X.env) use) Qf X.xe s := by
  have hfree : ∀ y ∈ scope.names, y.2 = .free → ∃ c, X.env.cells.lookup y.1 = some c := fun y hy e => by
    rcases ok.free y hy e with k | k
    · exact I.ok.has _ (.inl k)
    · exact I.ok.has _ (.inr k)
  refine wpAny_comprehension_free (use := use) rfl hs (closure_ok hfree) ok.kind (fun y hy e => by rw [ok.uniq y hy, e])
    (thn (hi.run pins s σ H _ I h) fun xv s1 hx => thn hx fun itv s2 h2 => ?_)
  obtain ⟨it, fp, tn, J, H2, e, I2, T, st2, f2, q⟩ := h2
  subst e
  refine wpAny_newObj_type (newEnv_comp ?_) 
  generalize hD : s2.heap.objs.size = D
  have hDn : H2 D = none := I2.hok.fresh (Nat.le_of_eq hD)
  obtain ⟨W, ⟨m0, w0⟩, turn⟩ := q D hDn
  -- the new list
  generalize hs3 : ({ s2 with heap := s2.heap.push { cls := .type "dict", data := .dict #[] } } : Shared) = s3
  have I3 : Inv X pins σ (upd H2 D (.dK [])) s3 := by
    rw [← hs3]
    refine I2.laid (t' := s2.toks) (fun b o e => Heap.get?_push_of_some _ e) (Nat.le_of_eq hD) ?_
    rw [← hD]
    exact dk_empty s2.heap I2.big
  have h3 : s3.heap = s2.heap.push { cls := .type "dict", data := .dict #[] } := by rw [← hs3]
  have sz : ∀ b ∈ fp, b < s2.heap.objs.size := fun b hb => by
    obtain ⟨o, e, _⟩ := T.obj _ _ st2 b hb
    exact Heap.lt_size e
  have f3 : ∀ b ∈ fp, FpOk X pins (upd H2 D (.dK [])) b ∧ b < s3.heap.objs.size := fun b hb => by
    have hlt := sz b hb
    refine ⟨⟨?_, (f2 b hb).2⟩, by rw [h3, Heap.size_push]; exact Nat.lt_succ_of_lt hlt⟩
    rw [upd_ne (by rw [← hD]; exact Nat.ne_of_lt hlt)]
    exact (f2 b hb).1
  have st3 : tn 0 s3.heap := T.keep _ _ _ st2 fun b _ o e => by rw [h3]; exact Heap.get?_push_of_some _ e
  have I4 := block_start I3 ok hN f3
  have pg := hg s3 (upd H2 D (.dK [])) s3.heap.objs.size (cellsFrom (s3.heap.objs.size + 1) scope.names (cloFrom X.env.cells scope.names [])) fp
  have pt := ht s3 (upd H2 D (.dK [])) s3.heap.objs.size (cellsFrom (s3.heap.objs.size + 1) scope.names (cloFrom X.env.cells scope.names [])) fp
  have pk := hk s3 (upd H2 D (.dK [])) s3.heap.objs.size (cellsFrom (s3.heap.objs.size + 1) scope.names (cloFrom X.env.cells scope.names [])) fp
  have pe := he s3 (upd H2 D (.dK [])) s3.heap.objs.size (cellsFrom (s3.heap.objs.size + 1) scope.names (cloFrom X.env.cells scope.names [])) fp
  have pi1 := hi1 s3 (upd H2 D (.dK [])) s3.heap.objs.size (cellsFrom (s3.heap.objs.size + 1) scope.names (cloFrom X.env.cells scope.names [])) fp
  have pg1 := hg1 s3 (upd H2 D (.dK [])) s3.heap.objs.size (cellsFrom (s3.heap.objs.size + 1) scope.names (cloFrom X.env.cells scope.names [])) fp
  have pt1 := ht1 s3 (upd H2 D (.dK [])) s3.heap.objs.size (cellsFrom (s3.heap.objs.size + 1) scope.names (cloFrom X.env.cells scope.names [])) fp
  show codeAny _ _ (.compStart (.DictComp kx vx [⟨tg, iter, ifs, 0⟩, ⟨tg1, iter1, ifs1, 0⟩] scope pos) 0 (.ref it) (.ref D) (compEnvC scope (cellsFrom (s3.heap.objs.size + 1) scope.names (cloFrom X.env.cells scope.names [])) s3.heap.objs.size X.env)) (compPost (model X.prog X.w) X.A X.xe use Qf (.ref D) s3.heap.objs.size) { s3 with heap := pushCells (s3.heap.push { cls := .type "dict", data := .dict #[] }) scope.names }
  have nfp : ∀ b ∈ fp, (upd H2 D (.dK [])) b = none := fun b hb => (f3 b hb).1.1
  generalize hce : compEnvC scope (cellsFrom (s3.heap.objs.size + 1) scope.names (cloFrom X.env.cells scope.names [])) s3.heap.objs.size X.env = ce at I4 pg pt pk pe pi1 pg1 pt1 ⊢
  have cL : ce.locals = s3.heap.objs.size := by subst hce; rfl
  generalize hH3 : upd H2 D (.dK []) = H3 at I3 I4 pg pt pk pe pi1 pg1 pt1 w0 nfp f3
  generalize hs4 : ({ s3 with heap := pushCells (s3.heap.push { cls := .type "dict", data := .dict #[] }) scope.names } : Shared) = s4 at I4 ⊢
  have st4 : tn 0 s4.heap := T.keep _ _ _ st3 fun b _ o e => by rw [← hs4]; exact pushCells_keeps _ _ _ _ (Heap.get?_push_of_some _ e)
  have stat : ∀ {σ' : St} {H' : Hp} {s' : Shared}, Inv (X.blk s3 H3 scope ce fp) [] σ' H' s' → (∀ b ∈ fp, H' b = none) → ∀ b ∈ fp, FpOk (X.blk s3 H3 scope ce fp) [] H' b := fun {σ' H' s'} I' hn b hb =>
    ⟨hn b hb, (I'.ok.exf b hb).1, I'.ok.exfs b hb, .inl hb, fun x c e => (I'.ok.exf b hb).2 x c e, fun p hp => absurd (show p ∈ ([] : List (Addr × Obj)) ++ [] from hp) (by simp)⟩
  have loop : codeAny (model X.prog X.w) X.A (.compLoop (.DictComp kx vx [⟨tg, iter, ifs, 0⟩, ⟨tg1, iter1, ifs1, 0⟩] scope pos) 0 (.ref it) (.ref D) ce) (compPost (model X.prog X.w) X.A X.xe use Qf (.ref D) s3.heap.objs.size) s4 := by
    refine compLoopD2_out (hs1 ce) (fun n s' => ∃ i H', Inv (X.blk s3 H3 scope ce fp) [] (wipe σ (own.map (·.2))) H' s' ∧ tn i s'.heap ∧ (∀ b ∈ fp, H' b = none) ∧ W i n H') ?_ m0 ⟨0, H3, I4, st4, nfp, w0⟩
    rintro n s5 ⟨i, H5, I5, st5, n5, w5⟩
    rcases turn i n H5 w5 with ⟨stop, qq⟩ | ⟨go, Nx, hNx, step⟩
    · have td := T.done (X.blk s3 H3 scope ce fp) rfl rfl rfl hc i [] s5 _ H5 (fun _ _ => False) I5 (stat I5 n5) st5 stop
      refine thnF td fun r s6 ⟨hr, I6⟩ => ?_
      subst hr
      -- back in the def's context
      have I7 : Inv X pins σ H5 s6 := I3.call' (ch := fp) I6.os I6.base I6.hok I6.bare fun b hb => ⟨(f3 b hb).1.2.2.2.1, (f3 b hb).1.2.1, (f3 b hb).1.2.2.2.2.1, (f3 b hb).1.2.2.2.2.2⟩
      have nC : H5 s3.heap.objs.size = none := by
        have z : H5 ce.locals = none := I6.free
        rw [cL] at z
        exact z
      obtain ⟨m, hn, _⟩ := I6.loc
      have hn : s6.heap.Ns ce.locals m := hn
      rw [cL] at hn
      exact hRR D s3.heap.objs.size s6 m H5 I7 qq hn (I3.fpOk (Nat.le_refl _) nC)
    · have ti := T.item (X.blk s3 H3 scope ce fp) rfl rfl rfl hc i [] s5 _ H5 (fun _ _ => False) I5 (stat I5 n5) st5 go
      refine thnF ti fun r s6 ⟨u, hr, h6⟩ => ?_
      subst hr
      refine thnF h6 fun _ s7 ⟨x, H7, I7, r7, y7, st7, n7⟩ => ?_
      have I7' := I7.pinned (stat I7 n7) (T.obj _ _ st7)
      refine thnF (pg.run _ s7 _ H7 x u _ I7' r7 (step x H7 y7)) fun _ s8 ⟨σ8, H8, I8, hw8, q8⟩ => ?_
      refine thnF (pt.run _ s8 σ8 H8 _ I8 q8) fun b s9 ⟨H9, I9, q9⟩ => ?_
      -- the turn's end, from any slots that know what the block knew at its start
      have fin : ∀ {σ9 : St} {s' : Shared} {H' : Hp}, Inv (X.blk s3 H3 scope ce fp) ([] ++ pinsAt fp s7.heap) σ9 H' s' → (wipe σ (own.map (·.2))).length = σ9.length → (∀ (j : Nat) v, (wipe σ (own.map (·.2)))[j]? = some (some v) → σ9[j]? = some (some v)) → Nx H' →
          ∃ m, m < n ∧ ∃ i H', Inv (X.blk s3 H3 scope ce fp) [] (wipe σ (own.map (·.2))) H' s' ∧ tn i s'.heap ∧ (∀ b ∈ fp, H' b = none) ∧ W i m H' := fun {σ9 s' H'} I' hl hk nx => by
        obtain ⟨m', hm, w'⟩ := hNx H' nx
        have pin' : ∀ b ∈ fp, ∀ o, s7.heap.get? b = some o → s'.heap.get? b = some o ∧ H' b = none := fun b hb o e =>
          let z := I'.pin (b, o) (List.mem_append_right _ (List.mem_append_right _ (mem_pinsAt hb e)))
          ⟨z.1, z.2.1⟩
        refine ⟨m', hm, i + 1, H', (I'.unpinned (pins := [])).weak hl hk, T.keep _ _ _ st7 fun b hb o e => (pin' b hb o e).1, fun b hb => ?_, w'⟩
        obtain ⟨o, e, _⟩ := T.obj _ _ st7 b hb
        exact (pin' b hb o e).2
      have hl8 : (wipe σ (own.map (·.2))).length = σ8.length := by rw [← hw8, wipe_length]
      have hk8 : ∀ (j : Nat) v, (wipe σ (own.map (·.2)))[j]? = some (some v) → σ8[j]? = some (some v) := fun j v e => by
        rw [← hw8] at e
        exact (wipe_some e).1
      have hk9 : ∀ (j : Nat) v, (wipe σ (own.map (·.2)))[j]? = some (some v) → (wipe σ8 vs1)[j]? = some (some v) := fun j v e => by
        rw [← hw8] at e
        obtain ⟨e1, e2⟩ := wipe_some e
        rw [wipe_out fun z => e2 (hv j z)]
        exact e1
      cases b with
      | false =>
        simp only [Bool.false_eq_true, if_false] at q9 ⊢
        exact fin I9 hl8 hk8 q9
      | true =>
        simp only [if_true] at q9 ⊢
        refine thnF (pi1.run _ s9 σ8 H9 _ I9 q9) fun xv s10 hx => thnF hx fun itv s11 h11 => ?_
        obtain ⟨it1, fp1, tn1, J1, H11, e1, I11, T1, st11, f11, W1, ⟨m1, w1⟩, turn1⟩ := h11
        subst e1
        -- the inner loop
        have stat1 : ∀ {H' : Hp}, (∀ b ∈ fp1, H' b = none) → ∀ b ∈ fp1, FpOk (X.blk s3 H3 scope ce fp) ([] ++ pinsAt fp s7.heap) H' b := fun hn b hb => ⟨hn b hb, (f11 b hb).2⟩
        have loop1 : codeAny (model X.prog X.w) X.A (.compLoop (.DictComp kx vx [⟨tg, iter, ifs, 0⟩, ⟨tg1, iter1, ifs1, 0⟩] scope pos) 1 (.ref it1) (.ref D) ce)
            (fun r s' => match r with
              | .ok _ => ∃ m, m < n ∧ ∃ i H', Inv (X.blk s3 H3 scope ce fp) [] (wipe σ (own.map (·.2))) H' s' ∧ tn i s'.heap ∧ (∀ b ∈ fp, H' b = none) ∧ W i m H'
              | .error _ => False) s11 := by
          refine compLoopD2_in (fun k s' => ∃ j H', Inv (X.blk s3 H3 scope ce fp) ([] ++ pinsAt fp s7.heap) (wipe σ8 vs1) H' s' ∧ tn1 j s'.heap ∧ (∀ b ∈ fp1, H' b = none) ∧ W1 j k H') ?_ m1 ⟨0, H11, I11.weak (wipe_length _ _) (fun j v e => (wipe_some e).1), st11, fun b hb => (f11 b hb).1, w1⟩
          rintro k s12 ⟨j, H12, I12, st12, n12, w12⟩
          rcases turn1 j k H12 w12 with ⟨stop1, nx1⟩ | ⟨go1, Nx1, hNx1, step1⟩
          · refine thnF (T1.done (X.blk s3 H3 scope ce fp) rfl rfl rfl hc j _ s12 (wipe σ8 vs1) H12 (fun _ _ => False) I12 (stat1 n12) st12 stop1) fun r s13 ⟨hr, I13⟩ => ?_
            subst hr
            exact fin I13 (hl8.trans (wipe_length σ8 vs1).symm) hk9 nx1
          · refine thnF (T1.item (X.blk s3 H3 scope ce fp) rfl rfl rfl hc j _ s12 (wipe σ8 vs1) H12 (fun _ _ => False) I12 (stat1 n12) st12 go1) fun r s13 ⟨u1, hr, h13⟩ => ?_
            subst hr
            refine thnF h13 fun _ s14 ⟨x1, H14, I14, r14, y14, st14, n14⟩ => ?_
            have I14' := I14.pinned (stat1 n14) (T1.obj _ _ st14)
            refine thnF (pg1.run _ s14 (wipe σ8 vs1) H14 x1 u1 _ I14' r14 (step1 x1 H14 y14)) fun _ s15 ⟨σ15, H15, I15, hw15, q15⟩ => ?_
            refine thnF (pt1.run _ s15 σ15 H15 _ I15 q15) fun b1 s16 ⟨H16, I16, q16⟩ => ?_
            have fin1 : ∀ {s' : Shared} {H' : Hp}, Inv (X.blk s3 H3 scope ce fp) (([] ++ pinsAt fp s7.heap) ++ pinsAt fp1 s14.heap) σ15 H' s' → Nx1 H' → ∃ m, m < k ∧ ∃ j H', Inv (X.blk s3 H3 scope ce fp) ([] ++ pinsAt fp s7.heap) (wipe σ8 vs1) H' s' ∧ tn1 j s'.heap ∧ (∀ b ∈ fp1, H' b = none) ∧ W1 j m H' := fun {s' H'} I' nx => by
              obtain ⟨m', hm, w'⟩ := hNx1 H' nx
              have pin' : ∀ b ∈ fp1, ∀ o, s14.heap.get? b = some o → s'.heap.get? b = some o ∧ H' b = none := fun b hb o e =>
                let z := I'.pin (b, o) (List.mem_append_right _ (List.mem_append_right _ (mem_pinsAt hb e)))
                ⟨z.1, z.2.1⟩
              refine ⟨m', hm, j + 1, H', I'.unpinned.weak (by rw [← hw15, wipe_length]) (fun j v e => by rw [← hw15] at e; exact (wipe_some e).1), T1.keep _ _ _ st14 fun b hb o e => (pin' b hb o e).1, fun b hb => ?_, w'⟩
              obtain ⟨o, e, _⟩ := T1.obj _ _ st14 b hb
              exact (pin' b hb o e).2
            cases b1 with
            | false =>
              simp only [Bool.false_eq_true, if_false] at q16 ⊢
              exact fin1 I16 q16
            | true =>
              simp only [if_true] at q16 ⊢
              refine thnF (pk.run _ s16 σ15 H16 _ I16 q16) fun z s17 ⟨yk, H17, I17, r17, q17⟩ => ?_
              refine thnF (pe.run _ s17 σ15 H17 _ I17 q17) fun z2 s18 ⟨yv, H18, I18, r18, kvs, k2, ek, hD18, hz18, nx⟩ => ?_
              subst ek
              exact d_dictSet (X := X.blk s3 H3 scope ce fp) I18 hD18 hz18 r17 r18 fun s19 I19 => fin1 I19 nx
        exact compStartD1_ok loop1 (T1.self X.A 0 _ _ _ st11 loop1)
  exact codeAny_compStart_dict loop (T.self X.A 0 _ _ _ st4 loop)
/-- as a value -/
theorem pe_dc2 {kx vx tg iter tg1 iter1 : Expr} {ifs ifs1 : List Expr} {scope : Scope} {own : List (Str × Nat)} {vs1 : List Nat} {pos : Pos} {wi wi1 : TI} {g g1 : TG} {tt tt1 : TT} {tk tv : TE} (hc : X.calm = true) (hN : X.N.Nodup) (hi : PI X tg iter wi) (ok : BlkOk X.N X.env.scope scope own) (hv : ∀ i ∈ vs1, i ∈ own.map (·.2))
    (hg : ∀ (s : Shared) (H : Hp) (C : Addr) (cl : List (Str × Addr)) (fp : List Addr), PG (X.blk s H scope (compEnvC scope cl C X.env) fp) tg g) (ht : ∀ (s : Shared) (H : Hp) (C : Addr) (cl : List (Str × Addr)) (fp : List Addr), PTs (X.blk s H scope (compEnvC scope cl C X.env) fp) ifs tt)
    (hi1 : ∀ (s : Shared) (H : Hp) (C : Addr) (cl : List (Str × Addr)) (fp : List Addr), PI (X.blk s H scope (compEnvC scope cl C X.env) fp) tg1 iter1 wi1)
    (hg1 : ∀ (s : Shared) (H : Hp) (C : Addr) (cl : List (Str × Addr)) (fp : List Addr), PG (X.blk s H scope (compEnvC scope cl C X.env) fp) tg1 g1) (ht1 : ∀ (s : Shared) (H : Hp) (C : Addr) (cl : List (Str × Addr)) (fp : List Addr), PTs (X.blk s H scope (compEnvC scope cl C X.env) fp) ifs1 tt1)
    (hk : ∀ (s : Shared) (H : Hp) (C : Addr) (cl : List (Str × Addr)) (fp : List Addr), PE (X.blk s H scope (compEnvC scope cl C X.env) fp) kx tk)
    (he : ∀ (s : Shared) (H : Hp) (C : Addr) (cl : List (Str × Addr)) (fp : List Addr), PE (X.blk s H scope (compEnvC scope cl C X.env) fp) vx tv) (hs : ∀ x, foldedSetIterable iter X.env x = pure x := by intro _; rfl) (hs1 : ∀ env x, foldedSetIterable iter1 env x = pure x := by intro _ _; rfl) :
    PE X (.DictComp kx vx [⟨tg, iter, ifs, 0⟩, ⟨tg1, iter1, ifs1, 0⟩] scope pos) (tDc2 wi g tt wi1 g1 tt1 tk tv (own.map (·.2)) vs1) := by
  refine ⟨fun pins s σ H Q I h => ?_⟩
  rw [arm_eval_DictComp]
  refine dc2_core hc hN I hi ok hv hg ht hk he hs hi1 hg1 ht1 hs1 h fun D C s' m H' I' q hn f => ⟨m, hn, fun h'' sb => ?_⟩
  obtain ⟨f0, f1, f2, f3, f4, f5⟩ := f
  exact ⟨.ref D, H', I'.turned (t' := s'.toks) (fun b o hb e => (sb.2 b hb).trans e) f0 f1 f3 f4 f5, rfl, q⟩
end
end L2
/-! Pm8 -/
set_option maxHeartbeats 2000000
/-! Pm8: dict comprehensions, list comprehensions with two clauses. -/
namespace Pm
open PySem PySem.Spec L2
/-- puts, one behind another -/
def putAll {β : Type} (kf : β → Key) (vf : β → V) (d : List (Key × V)) (zs : List β) : List (Key × V) := zs.foldl (fun d z => putK d (kf z) (vf z)) d
theorem putAll_len {β : Type} (kf : β → Key) (vf : β → V) : ∀ (zs : List β) (d : List (Key × V)), (putAll kf vf d zs).length ≤ d.length + zs.length
  | [], d => Nat.le_refl _
  | z :: zs, d => by
    have h := putAll_len kf vf zs (putK d (kf z) (vf z))
    have h2 := length_putK d (kf z) (vf z)
    show (putAll kf vf (putK d (kf z) (vf z)) zs).length ≤ _
    rw [List.length_cons]
    omega
theorem putAll_snoc {β : Type} (kf : β → Key) (vf : β → V) (d : List (Key × V)) (zs : List β) (z : β) : putAll kf vf d (zs ++ [z]) = putK (putAll kf vf d zs) (kf z) (vf z) := by
  unfold putAll
  rw [List.foldl_append]
  rfl
theorem putAll_app {β : Type} (kf : β → Key) (vf : β → V) (d : List (Key × V)) (zs ys : List β) : putAll kf vf d (zs ++ ys) = putAll kf vf (putAll kf vf d zs) ys := List.foldl_append
section
variable {X : Cx} {A B : Own} {Γ Δ : Pr} {σ : L2.St} {a b c e : Expr} {R Ra Rb Rc : V → Pr} {pos : Pos} {tg : Expr}
theorem f_dcI {β ω : Type} {zs : List β} {Rz : β → V → Pr} {own : List (Str × Nat)} {iter kx vx : Expr} {ifs : List Expr} {scope : Scope} {g : TG} {stw : ω → L2.St → L2.St} {Γt : β → ω → Pr} {tt : TT} (c : β → Bool) (kf : β → Key) (vf : β → V)
    (hi : I3 X A Γ σ tg iter zs Rz) (ht : TgC X tg scope g Rz stw Γt) (ok : BlkOk X.N X.env.scope scope own)
    (hT : ∀ (s : Shared) (H : Hp) (C : Addr) (cl : List (Str × Addr)) (fp : List Addr), PTs (X.blk s H scope (compEnvC scope cl C X.env) fp) ifs tt)
    (hc : ∀ (Gd : Pr) (q : Addr × HO) z w, z ∈ zs → ∀ H' Q, Own.Ok (q :: A) H' → (pAnd (pAnd Γ Gd) (Γt z w)).holds (hide (q :: A) H') → (∀ H'', Ext (q :: A) H' H'' → Q (c z) H'') → tt (stw w (wipe σ (own.map (·.2)))) H' Q)
    (hk : ∀ (Gd : Pr) (q : Addr × HO) z w, z ∈ zs → c z = true → Blk X scope fun Y => E3 Y (q :: A) (pAnd (pAnd Γ Gd) (Γt z w)) (stw w (wipe σ (own.map (·.2)))) kx (RV (kV (kf z))))
    (he : ∀ (Gd : Pr) (q : Addr × HO) z w, z ∈ zs → c z = true → Blk X scope fun Y => E3 Y (q :: A) (pAnd (pAnd Γ Gd) (Γt z w)) (stw w (wipe σ (own.map (·.2)))) vx (RV (vf z)))
    (hz : zs.length < sizeLine) (hw : ∀ w, wipe (stw w (wipe σ (own.map (·.2)))) (own.map (·.2)) = wipe σ (own.map (·.2)) := by intro _; rfl)
    (hcalm : X.calm = true := by rfl) (hN : X.N.Nodup := by assumption) (hs : ∀ x, foldedSetIterable iter X.env x = pure x := by intro _; rfl) : F3 X A Γ σ (.DictComp kx vx [⟨tg, iter, ifs, 0⟩] scope pos) (fun o => pP (o = .dK (putAll kf vf [] (zs.filter c)))) := by
  intro H Q okA gm k
  let tk : TE := fun σ' H' Q' => ∀ (s : Shared) (H : Hp) (C : Addr) (cl : List (Str × Addr)) (fp : List Addr), Ev (X.blk s H scope (compEnvC scope cl C X.env) fp) kx σ' H' Q'
  let te : TE := fun σ' H' Q' => ∀ (s : Shared) (H : Hp) (C : Addr) (cl : List (Str × Addr)) (fp : List Addr), Ev (X.blk s H scope (compEnvC scope cl C X.env) fp) vx σ' H' Q'
  have htk : ∀ (s : Shared) (H : Hp) (C : Addr) (cl : List (Str × Addr)) (fp : List Addr), PE (X.blk s H scope (compEnvC scope cl C X.env) fp) kx tk := fun s H C cl fp => ⟨fun pins s' σ' H' Q' I h => h s H C cl fp pins s' I⟩
  have hte : ∀ (s : Shared) (H : Hp) (C : Addr) (cl : List (Str × Addr)) (fp : List Addr), PE (X.blk s H scope (compEnvC scope cl C X.env) fp) vx te := fun s H C cl fp => ⟨fun pins s' σ' H' Q' I h => h s H C cl fp pins s' I⟩
  refine Ev.of (pe_dc hcalm hN (eiPI tg iter) ok ht.pg hT htk hte hs) (hi H _ okA gm fun J Gd H1 x1 wk g1 D hD => ?_)
  let Pv : Nat → Hp → Prop := fun i H' => ∃ acc : List (Key × V), Own.Ok ((D, .dK acc) :: A) H' ∧ L2.Same (hide A H) (hide ((D, .dK acc) :: A) H') ∧ (pAnd Γ Gd).holds (hide ((D, .dK acc) :: A) H') ∧ acc = putAll kf vf [] ((zs.take i).filter c)
  refine ⟨fun i m H' => m = zs.length - i ∧ i ≤ zs.length ∧ Pv i H', ⟨zs.length, by simp, Nat.zero_le _, [], ?_⟩, ?_⟩
  · have n := New.laid (A := A) (H := H1) (Ext.refl x1.ok) hD (.dK [])
    exact ⟨n.ok1, x1.same.trans n.same, ⟨Γ.mono (x1.same.trans n.same) gm, Gd.mono n.same g1⟩, rfl⟩
  rintro i m H' ⟨rfl, hle, acc, okD, sm, gg, ga⟩
  by_cases hlt : i < zs.length
  · refine .inr ⟨wk.goes i H' hlt (Gd.mono hide_le gg.2), Pv (i + 1), fun H'' p' => ⟨zs.length - (i + 1), by omega, rfl, hlt, p'⟩, fun x H2 y => ?_⟩
    have hzi := List.getElem?_eq_getElem hlt
    have hmem : zs[i] ∈ zs := List.getElem_mem hlt
    obtain ⟨xt, rz⟩ := wk.yields _ i zs[i] H' x H2 hzi okD gg.2 y
    have gg2 := (pAnd Γ Gd).mono xt.same gg
    have sm2 := sm.trans xt.same
    have etk : zs.take (i + 1) = zs.take i ++ [zs[i]] := List.take_succ_eq_append_getElem hlt
    apply ht.run zs[i] x (wipe σ (own.map (·.2))) ((D, .dK acc) :: A) H2 _ xt.ok rz
    intro w hwt
    refine ⟨hw w, ?_⟩
    refine hc Gd (D, .dK acc) zs[i] w hmem H2 _ xt.ok ⟨gg2, hwt⟩ fun H3 x3 => ?_
    cases ec : c zs[i] with
    | true =>
      rw [if_pos rfl]
      intro s0 H0 C0 cl0 fp0
      refine hk Gd (D, .dK acc) zs[i] w hmem ec s0 H0 C0 cl0 fp0 H3 _ x3.ok ⟨(pAnd Γ Gd).mono x3.same gg2, (Γt zs[i] w).mono x3.same hwt⟩ fun v H4 x4 rv => ?_
      intro s0 H0 C0 cl0 fp0
      refine he Gd (D, .dK acc) zs[i] w hmem ec s0 H0 C0 cl0 fp0 H4 _ x4.ok ⟨(pAnd Γ Gd).mono (x3.same.trans x4.same) gg2, (Γt zs[i] w).mono (x3.same.trans x4.same) hwt⟩ fun u H5 x5 ru => ?_
      cases (show u = vf zs[i] from ru)
      have okp := own_put (A1 := []) (o' := .dK (putK acc (kf zs[i]) (vf zs[i]))) x5.ok
      have hl : acc.length < sizeLine := by
        rw [ga]
        refine Nat.lt_of_le_of_lt (Nat.le_trans (putAll_len ..) ?_) hz
        rw [List.length_nil, Nat.zero_add]
        refine Nat.le_trans (List.length_filter_le ..) ?_
        rw [List.length_take]
        omega
      refine ⟨acc, kf zs[i], rv, okp.2.2, hl, putK acc (kf zs[i]) (vf zs[i]), okp.1, ?_⟩
      have eh : hide ((D, .dK (putK acc (kf zs[i]) (vf zs[i]))) :: A) (upd H5 D (.dK (putK acc (kf zs[i]) (vf zs[i])))) = hide ((D, .dK acc) :: A) H5 := okp.2.1
      rw [eh]
      refine ⟨sm2.trans ((x3.same.trans x4.same).trans x5.same), (pAnd Γ Gd).mono ((x3.same.trans x4.same).trans x5.same) gg2, ?_⟩
      rw [etk, List.filter_append]
      have e1 : ([zs[i]].filter c) = [zs[i]] := by simp [List.filter_cons, ec]
      rw [e1, putAll_snoc, ga]
    | false =>
      rw [if_neg Bool.false_ne_true]
      refine ⟨acc, x3.ok, sm2.trans x3.same, (pAnd Γ Gd).mono x3.same gg2, ?_⟩
      rw [etk, List.filter_append]
      have e1 : ([zs[i]].filter c) = [] := by simp [List.filter_cons, ec]
      rw [e1, List.append_nil]
      exact ga
  · have ei : i = zs.length := by omega
    subst ei
    refine .inl ⟨wk.stops H' (Gd.mono hide_le gg.2), ?_⟩
    have o2 := own_app (B := [(D, .dK acc)]) okD
    rw [List.take_length] at ga
    refine k D (.dK acc) H' ⟨okD.at_ _ (List.mem_cons_self ..), (List.nodup_cons.mp okD.nd).1, ?_, o2.1, sm⟩ (congrArg HO.dK ga)
    cases eD : hide A H D with
    | none => rfl
    | some u =>
      have z := (hide_of (x1.same _ _ eD)).1
      rw [hD] at z
      cases z
theorem f_dc {β ω : Type} {zs : List β} {Rz : β → V → Pr} {own : List (Str × Nat)} {iter kx vx : Expr} {scope : Scope} {g : TG} {stw : ω → L2.St → L2.St} {Γt : β → ω → Pr} (kf : β → Key) (vf : β → V)
    (hi : I3 X A Γ σ tg iter zs Rz) (ht : TgC X tg scope g Rz stw Γt) (ok : BlkOk X.N X.env.scope scope own)
    (hk : ∀ (Gd : Pr) (q : Addr × HO) z w, z ∈ zs → Blk X scope fun Y => E3 Y (q :: A) (pAnd (pAnd Γ Gd) (Γt z w)) (stw w (wipe σ (own.map (·.2)))) kx (RV (kV (kf z))))
    (he : ∀ (Gd : Pr) (q : Addr × HO) z w, z ∈ zs → Blk X scope fun Y => E3 Y (q :: A) (pAnd (pAnd Γ Gd) (Γt z w)) (stw w (wipe σ (own.map (·.2)))) vx (RV (vf z)))
    (hz : zs.length < sizeLine) (hw : ∀ w, wipe (stw w (wipe σ (own.map (·.2)))) (own.map (·.2)) = wipe σ (own.map (·.2)) := by intro _; rfl)
    (hcalm : X.calm = true := by rfl) (hN : X.N.Nodup := by assumption) (hs : ∀ x, foldedSetIterable iter X.env x = pure x := by intro _; rfl) : F3 X A Γ σ (.DictComp kx vx [⟨tg, iter, [], 0⟩] scope pos) (fun o => pP (o = .dK (putAll kf vf [] zs))) := by
  have h := f_dcI (pos := pos) (ifs := []) (tt := tYes) (fun _ => true) kf vf hi ht ok (fun _ _ _ _ _ => pts_nil) (fun Gd q z w _ H' Q ok _ k => k H' (Ext.refl ok)) (fun Gd q z w hm _ => hk Gd q z w hm) (fun Gd q z w hm _ => he Gd q z w hm) hz hw hcalm hN hs
  have e : (zs.filter fun _ => true) = zs := by simp
  rw [e] at h
  exact h
theorem f_dcF {β ω : Type} {zs : List β} {Rz : β → V → Pr} {own : List (Str × Nat)} {iter kx vx cx : Expr} {scope : Scope} {g : TG} {stw : ω → L2.St → L2.St} {Γt : β → ω → Pr} (c : β → Bool) (kf : β → Key) (vf : β → V)
    (hi : I3 X A Γ σ tg iter zs Rz) (ht : TgC X tg scope g Rz stw Γt) (ok : BlkOk X.N X.env.scope scope own)
    (hc : ∀ (Gd : Pr) (q : Addr × HO) z w, z ∈ zs → Blk X scope fun Y => T3 Y (q :: A) (pAnd (pAnd Γ Gd) (Γt z w)) (stw w (wipe σ (own.map (·.2)))) cx (c z))
    (hk : ∀ (Gd : Pr) (q : Addr × HO) z w, z ∈ zs → c z = true → Blk X scope fun Y => E3 Y (q :: A) (pAnd (pAnd Γ Gd) (Γt z w)) (stw w (wipe σ (own.map (·.2)))) kx (RV (kV (kf z))))
    (he : ∀ (Gd : Pr) (q : Addr × HO) z w, z ∈ zs → c z = true → Blk X scope fun Y => E3 Y (q :: A) (pAnd (pAnd Γ Gd) (Γt z w)) (stw w (wipe σ (own.map (·.2)))) vx (RV (vf z)))
    (hz : zs.length < sizeLine) (hw : ∀ w, wipe (stw w (wipe σ (own.map (·.2)))) (own.map (·.2)) = wipe σ (own.map (·.2)) := by intro _; rfl)
    (hcalm : X.calm = true := by rfl) (hN : X.N.Nodup := by assumption) (hs : ∀ x, foldedSetIterable iter X.env x = pure x := by intro _; rfl) : F3 X A Γ σ (.DictComp kx vx [⟨tg, iter, [cx], 0⟩] scope pos) (fun o => pP (o = .dK (putAll kf vf [] (zs.filter c)))) :=
  f_dcI (tt := fun σ' H' Q' => ∀ (s : Shared) (H : Hp) (C : Addr) (cl : List (Str × Addr)) (fp : List Addr), Et (X.blk s H scope (compEnvC scope cl C X.env) fp) cx σ' H' Q') c kf vf hi ht ok
    (fun s H C cl fp => pts_one ⟨fun pins s' σ' H' Q' I h => h s H C cl fp pins s' I⟩) (fun Gd q z w hm H' Q ok g k s0 H0 C0 cl0 fp0 => hc Gd q z w hm s0 H0 C0 cl0 fp0 H' Q ok g k) hk he hz hw hcalm hN hs
/-- two clauses -/
theorem f_dc2 {β γ ω ω1 : Type} {zs : List β} {Rz : β → V → Pr} {Rz1 : γ → V → Pr} {own : List (Str × Nat)} {vs1 : List Nat} {iter kx vx tg1 iter1 : Expr} {scope : Scope} {g g1 : TG} {stw : ω → L2.St → L2.St} {Γt : β → ω → Pr} {stw1 : ω1 → L2.St → L2.St} {Γt1 : γ → ω1 → Pr} (ys : β → List γ) (kf : γ → Key) (vf : γ → V)
    (hi : I3 X A Γ σ tg iter zs Rz) (ht : TgC X tg scope g Rz stw Γt) (ok : BlkOk X.N X.env.scope scope own) (hv : ∀ i ∈ vs1, i ∈ own.map (·.2))
    (hi1 : ∀ (Gd : Pr) (q : Addr × HO) z w, z ∈ zs → Blk X scope fun Y => I3 Y (q :: A) (pAnd (pAnd Γ Gd) (Γt z w)) (stw w (wipe σ (own.map (·.2)))) tg1 iter1 (ys z) Rz1)
    (ht1 : TgC X tg1 scope g1 Rz1 stw1 Γt1)
    (hk : ∀ (Gd : Pr) (q : Addr × HO) z w y w1, z ∈ zs → y ∈ ys z → Blk X scope fun Y => E3 Y (q :: A) (pAnd (pAnd Γ Gd) (Γt1 y w1)) (stw1 w1 (wipe (stw w (wipe σ (own.map (·.2)))) vs1)) kx (RV (kV (kf y))))
    (he : ∀ (Gd : Pr) (q : Addr × HO) z w y w1, z ∈ zs → y ∈ ys z → Blk X scope fun Y => E3 Y (q :: A) (pAnd (pAnd Γ Gd) (Γt1 y w1)) (stw1 w1 (wipe (stw w (wipe σ (own.map (·.2)))) vs1)) vx (RV (vf y)))
    (hz : (zs.flatMap ys).length < sizeLine) (hw : ∀ w, wipe (stw w (wipe σ (own.map (·.2)))) (own.map (·.2)) = wipe σ (own.map (·.2)) := by intro _; rfl) (hw1 : ∀ w w1, wipe (stw1 w1 (wipe (stw w (wipe σ (own.map (·.2)))) vs1)) vs1 = wipe (stw w (wipe σ (own.map (·.2)))) vs1 := by intro _ _; rfl)
    (hcalm : X.calm = true := by rfl) (hN : X.N.Nodup := by assumption) (hs : ∀ x, foldedSetIterable iter X.env x = pure x := by intro _; rfl) (hs1 : ∀ env x, foldedSetIterable iter1 env x = pure x := by intro _ _; rfl) :
    F3 X A Γ σ (.DictComp kx vx [⟨tg, iter, [], 0⟩, ⟨tg1, iter1, [], 0⟩] scope pos) (fun o => pP (o = .dK (putAll kf vf [] (zs.flatMap ys)))) := by
  intro H Q okA gm k
  let tk : TE := fun σ' H' Q' => ∀ (s : Shared) (H : Hp) (C : Addr) (cl : List (Str × Addr)) (fp : List Addr), Ev (X.blk s H scope (compEnvC scope cl C X.env) fp) kx σ' H' Q'
  let te : TE := fun σ' H' Q' => ∀ (s : Shared) (H : Hp) (C : Addr) (cl : List (Str × Addr)) (fp : List Addr), Ev (X.blk s H scope (compEnvC scope cl C X.env) fp) vx σ' H' Q'
  let ti : TI := fun σ' H' Q' => ∀ (s : Shared) (H : Hp) (C : Addr) (cl : List (Str × Addr)) (fp : List Addr), Ei (X.blk s H scope (compEnvC scope cl C X.env) fp) tg1 iter1 σ' H' Q'
  have htk : ∀ (s : Shared) (H : Hp) (C : Addr) (cl : List (Str × Addr)) (fp : List Addr), PE (X.blk s H scope (compEnvC scope cl C X.env) fp) kx tk := fun s H C cl fp => ⟨fun pins s' σ' H' Q' I h => h s H C cl fp pins s' I⟩
  have hte : ∀ (s : Shared) (H : Hp) (C : Addr) (cl : List (Str × Addr)) (fp : List Addr), PE (X.blk s H scope (compEnvC scope cl C X.env) fp) vx te := fun s H C cl fp => ⟨fun pins s' σ' H' Q' I h => h s H C cl fp pins s' I⟩
  have hti : ∀ (s : Shared) (H : Hp) (C : Addr) (cl : List (Str × Addr)) (fp : List Addr), PI (X.blk s H scope (compEnvC scope cl C X.env) fp) tg1 iter1 ti := fun s H C cl fp => ⟨fun pins s' σ' H' Q' I h => h s H C cl fp pins s' I⟩
  refine Ev.of (pe_dc2 hcalm hN (eiPI tg iter) ok hv ht.pg (fun _ _ _ _ _ => pts_nil) hti ht1.pg (fun _ _ _ _ _ => pts_nil) htk hte hs hs1) (hi H _ okA gm fun J Gd H1 x1 wk g1 D hD => ?_)
  let Pv : Nat → Hp → Prop := fun i H' => ∃ acc : List (Key × V), Own.Ok ((D, .dK acc) :: A) H' ∧ L2.Same (hide A H) (hide ((D, .dK acc) :: A) H') ∧ (pAnd Γ Gd).holds (hide ((D, .dK acc) :: A) H') ∧ acc = putAll kf vf [] ((zs.take i).flatMap ys)
  refine ⟨fun i m H' => m = zs.length - i ∧ i ≤ zs.length ∧ Pv i H', ⟨zs.length, by simp, Nat.zero_le _, [], ?_⟩, ?_⟩
  · have n := New.laid (A := A) (H := H1) (Ext.refl x1.ok) hD (.dK [])
    exact ⟨n.ok1, x1.same.trans n.same, ⟨Γ.mono (x1.same.trans n.same) gm, Gd.mono n.same g1⟩, rfl⟩
  rintro i m H' ⟨rfl, hle, acc, okD, sm, gg, ga⟩
  by_cases hlt : i < zs.length
  · refine .inr ⟨wk.goes i H' hlt (Gd.mono hide_le gg.2), Pv (i + 1), fun H'' p' => ⟨zs.length - (i + 1), by omega, rfl, hlt, p'⟩, fun x H2 y => ?_⟩
    have hzi := List.getElem?_eq_getElem hlt
    have hmem : zs[i] ∈ zs := List.getElem_mem hlt
    obtain ⟨xt, rz⟩ := wk.yields _ i zs[i] H' x H2 hzi okD gg.2 y
    have gg2 := (pAnd Γ Gd).mono xt.same gg
    have sm2 := sm.trans xt.same
    have etk : (zs.take (i + 1)).flatMap ys = (zs.take i).flatMap ys ++ ys zs[i] := by rw [List.take_succ_eq_append_getElem hlt, List.flatMap_append]; simp
    have hlen : ((zs.take i).flatMap ys ++ ys zs[i]).length < sizeLine := by
      rw [← etk]
      refine Nat.lt_of_le_of_lt ?_ hz
      have e3 : zs.flatMap ys = (zs.take (i + 1)).flatMap ys ++ (zs.drop (i + 1)).flatMap ys := by rw [← List.flatMap_append, List.take_append_drop]
      rw [e3, List.length_append]
      omega
    apply ht.run zs[i] x (wipe σ (own.map (·.2))) ((D, .dK acc) :: A) H2 _ xt.ok rz
    intro w hwt
    refine ⟨hw w, ?_⟩
    dsimp only [tYes]
    rw [if_pos rfl]
    intro s0 H0 C0 cl0 fp0
    refine hi1 Gd (D, .dK acc) zs[i] w hmem s0 H0 C0 cl0 fp0 H2 _ xt.ok ⟨gg2, hwt⟩ fun J1 Gd1 H3 x3 wk1 g3 => ?_
    let P1 : Nat → Hp → Prop := fun j H' => ∃ acc : List (Key × V), Own.Ok ((D, .dK acc) :: A) H' ∧ L2.Same (hide A H) (hide ((D, .dK acc) :: A) H') ∧ (pAnd (pAnd Γ Gd) Gd1).holds (hide ((D, .dK acc) :: A) H') ∧ acc = putAll kf vf [] ((zs.take i).flatMap ys ++ (ys zs[i]).take j)
    refine ⟨fun j m H' => m = (ys zs[i]).length - j ∧ j ≤ (ys zs[i]).length ∧ P1 j H', ⟨(ys zs[i]).length, by simp, Nat.zero_le _, acc, x3.ok, sm2.trans x3.same, ⟨(pAnd Γ Gd).mono x3.same gg2, g3⟩, by rw [List.take_zero, List.append_nil]; exact ga⟩, ?_⟩
    rintro j m H4 ⟨rfl, hle1, acc1, okD1, sm4, gg4, ga4⟩
    by_cases hlt1 : j < (ys zs[i]).length
    · refine .inr ⟨wk1.goes j H4 hlt1 (Gd1.mono hide_le gg4.2), P1 (j + 1), fun H'' p' => ⟨(ys zs[i]).length - (j + 1), by omega, rfl, hlt1, p'⟩, fun x H5 y => ?_⟩
      have hyj := List.getElem?_eq_getElem hlt1
      obtain ⟨xt5, rz5⟩ := wk1.yields _ j (ys zs[i])[j] H4 x H5 hyj okD1 gg4.2 y
      apply ht1.run (ys zs[i])[j] x _ ((D, .dK acc1) :: A) H5 _ xt5.ok rz5
      intro w1 hwt1
      refine ⟨hw1 w w1, ?_⟩
      rw [if_pos rfl]
      intro s0 H0 C0 cl0 fp0
      have gg5 := (pAnd (pAnd Γ Gd) Gd1).mono xt5.same gg4
      refine hk Gd (D, .dK acc1) zs[i] w (ys zs[i])[j] w1 hmem (List.getElem_mem hlt1) s0 H0 C0 cl0 fp0 H5 _ xt5.ok ⟨gg5.1, hwt1⟩ fun v H6 x6 rv => ?_
      intro s0 H0 C0 cl0 fp0
      refine he Gd (D, .dK acc1) zs[i] w (ys zs[i])[j] w1 hmem (List.getElem_mem hlt1) s0 H0 C0 cl0 fp0 H6 _ x6.ok ⟨(pAnd Γ Gd).mono x6.same gg5.1, (Γt1 _ w1).mono x6.same hwt1⟩ fun u H7 x7 ru => ?_
      cases (show u = vf _ from ru)
      have okp := own_put (A1 := []) (o' := .dK (putK acc1 (kf (ys zs[i])[j]) (vf (ys zs[i])[j]))) x7.ok
      have etk1 : (ys zs[i]).take (j + 1) = (ys zs[i]).take j ++ [(ys zs[i])[j]] := List.take_succ_eq_append_getElem hlt1
      have hl : acc1.length < sizeLine := by
        rw [ga4]
        refine Nat.lt_of_le_of_lt (Nat.le_trans (putAll_len ..) ?_) hlen
        rw [List.length_nil, Nat.zero_add, List.length_append, List.length_append, List.length_take]
        omega
      refine ⟨acc1, kf (ys zs[i])[j], rv, okp.2.2, hl, _, okp.1, ?_⟩
      have eh : hide ((D, .dK (putK acc1 (kf (ys zs[i])[j]) (vf (ys zs[i])[j]))) :: A) (upd H7 D (.dK (putK acc1 (kf (ys zs[i])[j]) (vf (ys zs[i])[j])))) = hide ((D, .dK acc1) :: A) H7 := okp.2.1
      rw [eh]
      refine ⟨sm4.trans ((xt5.same.trans x6.same).trans x7.same), (pAnd (pAnd Γ Gd) Gd1).mono (x6.same.trans x7.same) gg5, ?_⟩
      rw [etk1, ← List.append_assoc, putAll_snoc, ga4]
    · have ei : j = (ys zs[i]).length := by omega
      subst ei
      refine .inl ⟨wk1.stops H4 (Gd1.mono hide_le gg4.2), acc1, okD1, sm4, gg4.1, ?_⟩
      rw [List.take_length] at ga4
      rw [etk]
      exact ga4
  · have ei : i = zs.length := by omega
    subst ei
    refine .inl ⟨wk.stops H' (Gd.mono hide_le gg.2), ?_⟩
    have o2 := own_app (B := [(D, .dK acc)]) okD
    rw [List.take_length] at ga
    refine k D (.dK acc) H' ⟨okD.at_ _ (List.mem_cons_self ..), (List.nodup_cons.mp okD.nd).1, ?_, o2.1, sm⟩ (congrArg HO.dK ga)
    cases eD : hide A H D with
    | none => rfl
    | some u =>
      have z := (hide_of (x1.same _ _ eD)).1
      rw [hD] at z
      cases z
end
end Pm
/-! Pm9 -/
set_option maxHeartbeats 2000000
/-! Pm9: sorting texts. -/
namespace Pm
open PySem PySem.Spec L2
def insS (x : Str) : List Str → List Str
  | [] => [x]
  | y :: r => if ltCps y.cps.toList x.cps.toList then y :: insS x r else x :: y :: r
def sortS : List Str → List Str
  | [] => []
  | x :: r => insS x (sortS r)
abbrev leS (a b : Str) : Prop := ltCps b.cps.toList a.cps.toList = false
theorem ltS_iff {a b : Str} : ltCps a.cps.toList b.cps.toList = true ↔ ltS a b := by rw [PyProof.Rows.ltCps_eq]; simp
theorem leS_iff {a b : Str} : leS a b ↔ a.cps.toList ≤ b.cps.toList := by
  unfold leS
  rw [PyProof.Rows.ltCps_eq]
  simp
theorem leS_trans {a b c : Str} (h : leS a b) (h2 : leS b c) : leS a c := by
  rw [leS_iff] at *
  exact List.le_trans h h2
theorem leS_total (a b : Str) : leS a b ∨ leS b a := by
  rw [leS_iff, leS_iff]
  exact List.le_total _ _
theorem str_ext {a b : Str} (h : a.cps.toList = b.cps.toList) : a = b := by
  cases a with | mk x => cases b with | mk y => exact congrArg Str.mk (by cases x; cases y; simp at h; rw [h])
theorem leS_anti {a b : Str} (h : leS a b) (h2 : leS b a) : a = b := by
  rw [leS_iff] at *
  exact str_ext (List.le_antisymm h h2)
theorem lt_leS {a b : Str} (h : ltS a b) : leS a b := by
  rw [leS_iff]
  exact List.le_of_lt h
theorem ltS_of {a b : Str} (h : leS a b) (ne : a ≠ b) : ltS a b := by
  rw [← ltS_iff]
  cases e : ltCps a.cps.toList b.cps.toList with
  | true => rfl
  | false => exact absurd (leS_anti h e) ne
theorem insS_perm (x : Str) : ∀ l, (insS x l).Perm (x :: l)
  | [] => List.Perm.refl _
  | y :: r => by
    unfold insS
    split
    · exact ((insS_perm x r).cons y).trans (List.Perm.swap x y r)
    · exact List.Perm.refl _
theorem sortS_perm : ∀ l, (sortS l).Perm l
  | [] => List.Perm.refl _
  | x :: r => (insS_perm x _).trans ((sortS_perm r).cons x)
theorem insS_pw {x : Str} : ∀ {l : List Str}, l.Pairwise leS → (insS x l).Pairwise leS
  | [], _ => by simp [insS]
  | y :: r, h => by
    obtain ⟨h1, h2⟩ := List.pairwise_cons.mp h
    unfold insS
    split
    · rename_i hc
      refine List.pairwise_cons.mpr ⟨fun z hz => ?_, insS_pw h2⟩
      rcases List.mem_cons.mp ((insS_perm x r).mem_iff.mp hz) with e | hz
      · subst e
        exact lt_leS (ltS_iff.mp hc)
      · exact h1 z hz
    · rename_i hc
      have hc : leS x y := by
        unfold leS
        simpa using hc
      refine List.pairwise_cons.mpr ⟨fun z hz => ?_, h⟩
      rcases List.mem_cons.mp hz with e | hz
      · subst e
        exact hc
      · exact leS_trans hc (h1 z hz)
theorem sortS_pw : ∀ l, (sortS l).Pairwise leS
  | [] => List.Pairwise.nil
  | x :: r => insS_pw (sortS_pw r)
theorem rising_pw : ∀ (l : List Str) (p : Str), PyProof.Rows.risingS p l = true → (p :: l).Pairwise leS
  | [], p, _ => by simp
  | x :: r, p, h => by
    have h : (!ltCps x.cps.toList p.cps.toList && PyProof.Rows.risingS x r) = true := h
    simp only [Bool.and_eq_true, Bool.not_eq_true'] at h
    have q := rising_pw r x h.2
    refine List.pairwise_cons.mpr ⟨fun z hz => ?_, q⟩
    rcases List.mem_cons.mp hz with e | hz
    · subst e
      exact h.1
    · exact leS_trans (show leS p x from h.1) ((List.pairwise_cons.mp q).1 z hz)
theorem sorted_pw : ∀ (l : List Str), PyProof.Rows.sortedS l = true → l.Pairwise leS
  | [], _ => List.Pairwise.nil
  | x :: r, h => rising_pw r x h
theorem sortS_uniq {ys l : List Str} (h : ys.Perm l) (hs : PyProof.Rows.sortedS ys = true) : ys = sortS l :=
  List.Perm.eq_of_pairwise (fun a b _ _ h1 h2 => leS_anti h1 h2) (sorted_pw _ hs) (sortS_pw l) (h.trans (sortS_perm l).symm)
theorem sortS_id {l : List Str} (h : l.Pairwise leS) : sortS l = l :=
  List.Perm.eq_of_pairwise (fun a b _ _ h1 h2 => leS_anti h1 h2) (sortS_pw l) h (sortS_perm l)
theorem sortS_congr {l l' : List Str} (h : l.Perm l') : sortS l = sortS l' :=
  List.Perm.eq_of_pairwise (fun a b _ _ h1 h2 => leS_anti h1 h2) (sortS_pw l) (sortS_pw l') ((sortS_perm l).trans (h.trans (sortS_perm l').symm))
theorem mem_sortS {x : Str} {l : List Str} : x ∈ sortS l ↔ x ∈ l := (sortS_perm l).mem_iff
theorem sortS_lt {l : List Str} (h : l.Nodup) : (sortS l).Pairwise ltS := by
  have hn : (sortS l).Nodup := (sortS_perm l).nodup_iff.mpr h
  exact (List.pairwise_and_iff.mpr ⟨sortS_pw l, hn⟩).imp fun z => ltS_of z.1 z.2
theorem lt_sortS {l : List Str} (h : l.Pairwise ltS) : sortS l = l := sortS_id (h.imp lt_leS)

section
variable {X : Cx} {A B : Own} {Γ Δ : Pr} {σ : L2.St} {a b c e : Expr} {R Ra Rb Rc : V → Pr} {pos : Pos} {tg : Expr} {P : List V → Pr} {Pd : List (Key × V) → Pr}
theorem pAll_strOf {G : Hp} {xs : List Str} : (pAll RS xs (xs.map V.str)).holds G := pAll_of (f := V.str)
/-- sorted(d), keys texts -/
theorem f_sortD {p : Pos} {ks : List Str} (hm : X.mg "sorted" = none) (h : E3 X A Γ σ e Ra) (hs : SeesD A Γ Ra Pd) (hk : ∀ kvs G, Γ.holds G → (Pd kvs).holds G → kvs.map (·.1) = ks.map Sum.inr) (h64 : ks.length < 64) (hcalm : X.calm = true := by rfl) (hg : Gl X "sorted" := by rfl) (h1 : one1 X e := by rfl) :
    F3 X A Γ σ (.Call (.Name "sorted" p) [e] [] pos) (OL RS (sortS ks)) := fun H Q ok g k =>
  Ev.of (pe_callB (call_sortedD hcalm) hg hm (by decide +kernel) (eaPA [e]) (by decide) (by decide) h1 (by rfl)) (A3.ea (a_cons h a_nil h1) ok g fun vs H1 x1 r1 => by
    obtain ⟨v, rfl, rv⟩ := pc1 r1
    obtain ⟨q, kvs, rfl, hd, hp⟩ := hs v H1 x1.ok (Γ.mono x1.same g) rv
    refine ⟨q, kvs, ks, rfl, Rd.of hd, hk _ _ (Γ.mono x1.same g) hp, h64, fun ys l hy ho hl => ?_⟩
    cases sortS_uniq hy ho
    exact k l _ _ (New.laid x1 hl _) ⟨_, rfl, pAll_strOf⟩)
/-- sorted(xs), texts -/
theorem f_sortL {p : Pos} {ks : List Str} (hm : X.mg "sorted" = none) (h : E3 X A Γ σ e Ra) (hs : SeesL X.K A Γ Ra P) (hk : ∀ vs G, Γ.holds G → (P vs).holds G → vs = ks.map V.str) (h64 : ks.length < 64) (hg : Gl X "sorted" := by rfl) (h1 : one1 X e := by rfl) :
    F3 X A Γ σ (.Call (.Name "sorted" p) [e] [] pos) (OL RS (sortS ks)) := fun H Q ok g k =>
  Ev.of (pe_callB cr_sortedS hg hm (by decide +kernel) (eaPA [e]) (by decide) (by decide) h1 (by rfl)) (A3.ea (a_cons h a_nil h1) ok g fun vs H1 x1 r1 => by
    obtain ⟨v, rfl, rv⟩ := pc1 r1
    obtain ⟨q, vs, rfl, hd, hp⟩ := hs v H1 x1.ok (Γ.mono x1.same g) rv
    cases hk _ _ (Γ.mono x1.same g) hp
    refine ⟨q, ks, rfl, hd, h64, fun ys l hy ho hl => ?_⟩
    cases sortS_uniq hy ho
    exact k l _ _ (New.laid x1 hl _) ⟨_, rfl, pAll_strOf⟩)
theorem f_sortLS {p : Pos} {ks : List Str} (hm : X.mg "sorted" = none) (h : E3 X A Γ σ e (RL RS ks)) (h64 : ks.length < 64) (hg : Gl X "sorted" := by rfl) (h1 : one1 X e := by rfl) : F3 X A Γ σ (.Call (.Name "sorted" p) [e] [] pos) (OL RS (sortS ks)) := f_sortL hm h s_rl (fun _ _ _ z => pAll_strs z) h64 hg h1
/-- the dict of an expression that makes one -/
theorem F3.rd {kvs : List (Key × V)} (h : F3 X A Γ σ e (fun o => pP (o = .dK kvs))) : E3 X A Γ σ e (RD kvs) := h.v.imp fun v G ⟨_, p, o, e, ho, eo⟩ => by
  cases (show o = .dK kvs from eo)
  exact ⟨p, e, ho⟩
theorem f_sortRD {p : Pos} {ks : List Str} {kvs : List (Key × V)} (hm : X.mg "sorted" = none) (h : E3 X A Γ σ e (RD kvs)) (hk : kvs.map (·.1) = ks.map Sum.inr) (h64 : ks.length < 64) (hcalm : X.calm = true := by rfl) (hg : Gl X "sorted" := by rfl) (h1 : one1 X e := by rfl) : F3 X A Γ σ (.Call (.Name "sorted" p) [e] [] pos) (OL RS (sortS ks)) :=
  f_sortD hm h sd_rd (fun kvs' G _ z => by cases (show kvs' = kvs from z); exact hk) h64 hcalm hg h1
end

end Pm
/-! Pm10 -/
set_option maxHeartbeats 2000000
/-! Pm10: typed dicts. -/
namespace Pm
open PySem PySem.Spec L2
section
variable {κ β γ : Type} [DecidableEq κ]
def putD (d : List (κ × β)) (k : κ) (v : β) : List (κ × β) := if (d.any fun p => decide (p.1 = k)) = true then d.map (fun p => if p.1 = k then (p.1, v) else p) else d ++ [(k, v)]
def getD (d : List (κ × β)) (k : κ) : Option β := (d.find? fun p => decide (p.1 = k)).map (·.2)
def putsD (kf : γ → κ) (vf : γ → β) (d : List (κ × β)) (zs : List γ) : List (κ × β) := zs.foldl (fun d z => putD d (kf z) (vf z)) d
/-- keys, each once, in the order of their coming -/
def nubA (ks xs : List κ) : List κ := xs.foldl (fun ks x => if x ∈ ks then ks else ks ++ [x]) ks
abbrev keysD (d : List (κ × β)) : List κ := d.map (·.1)
theorem any_keys {d : List (κ × β)} {k : κ} : (d.any fun p => decide (p.1 = k)) = decide (k ∈ keysD d) := by
  induction d with
  | nil => rfl
  | cons p d ih =>
    rw [List.any_cons, ih]
    by_cases e : p.1 = k
    · simp [e]
    · have e2 : ¬ k = p.1 := fun z => e z.symm
      simp [e, e2]
theorem putD_in {d : List (κ × β)} {k : κ} {v : β} (h : k ∈ keysD d) : putD d k v = d.map fun p => if p.1 = k then (p.1, v) else p := by
  unfold putD
  rw [any_keys, decide_eq_true h, if_pos rfl]
theorem putD_out {d : List (κ × β)} {k : κ} {v : β} (h : k ∉ keysD d) : putD d k v = d ++ [(k, v)] := by
  unfold putD
  rw [any_keys, decide_eq_false h, if_neg Bool.false_ne_true]
theorem keys_put {d : List (κ × β)} {k : κ} {v : β} : keysD (putD d k v) = if k ∈ keysD d then keysD d else keysD d ++ [k] := by
  by_cases h : k ∈ keysD d
  · rw [putD_in h, if_pos h]
    show (d.map _).map _ = d.map _
    rw [List.map_map]
    refine List.map_congr_left fun p _ => ?_
    show (if p.1 = k then (p.1, v) else p).1 = p.1
    split <;> rfl
  · rw [putD_out h, if_neg h]
    show (d ++ [(k, v)]).map _ = _
    rw [List.map_append]
    rfl
theorem keys_puts {kf : γ → κ} {vf : γ → β} : ∀ {zs : List γ} {d : List (κ × β)}, keysD (putsD kf vf d zs) = nubA (keysD d) (zs.map kf)
  | [], d => rfl
  | z :: zs, d => by
    show keysD (putsD kf vf (putD d (kf z) (vf z)) zs) = nubA _ (zs.map kf)
    rw [keys_puts, keys_put]
theorem nubA_nodup : ∀ {xs ks : List κ}, ks.Nodup → (nubA ks xs).Nodup
  | [], ks, h => h
  | x :: xs, ks, h => by
    show (nubA (if x ∈ ks then ks else ks ++ [x]) xs).Nodup
    refine nubA_nodup ?_
    split
    · exact h
    · rename_i hx
      exact List.nodup_append.mpr ⟨h, by simp, fun a ha b hb e => by
        rw [List.mem_singleton] at hb
        subst hb
        subst e
        exact hx ha⟩
theorem mem_nubA {x : κ} : ∀ {xs ks : List κ}, x ∈ nubA ks xs ↔ x ∈ ks ∨ x ∈ xs
  | [], ks => by simp [nubA]
  | y :: xs, ks => by
    show x ∈ nubA (if y ∈ ks then ks else ks ++ [y]) xs ↔ _
    rw [mem_nubA]
    by_cases h : y ∈ ks
    · rw [if_pos h, List.mem_cons]
      refine ⟨fun z => z.elim .inl fun z => .inr (.inr z), fun z => ?_⟩
      rcases z with z | z | z
      · exact .inl z
      · exact .inl (z ▸ h)
      · exact .inr z
    · rw [if_neg h, List.mem_cons, List.mem_append, List.mem_singleton, or_assoc]
theorem nubA_len : ∀ {xs ks : List κ}, (nubA ks xs).length ≤ ks.length + xs.length
  | [], ks => Nat.le_refl _
  | x :: xs, ks => by
    have h := nubA_len (xs := xs) (ks := if x ∈ ks then ks else ks ++ [x])
    show (nubA (if x ∈ ks then ks else ks ++ [x]) xs).length ≤ _
    have h2 : (if x ∈ ks then ks else ks ++ [x]).length ≤ ks.length + 1 := by
      split
      · omega
      · rw [List.length_append]; simp
    rw [List.length_cons]
    omega
theorem get_put {d : List (κ × β)} {k k' : κ} {v : β} : getD (putD d k v) k' = if k = k' then some v else getD d k' := by
  by_cases h : k ∈ keysD d
  · rw [putD_in h]
    induction d with
    | nil => cases h
    | cons p d ih =>
      unfold getD
      rw [List.map_cons, List.find?_cons, List.find?_cons]
      by_cases e : p.1 = k
      · rw [if_pos e]
        by_cases e2 : k = k'
        · have e3 : p.1 = k' := e.trans e2
          simp [e2, e3]
        · have e3 : ¬ p.1 = k' := fun z => e2 (e.symm.trans z)
          rw [if_neg e2]
          simp only [decide_eq_false e3]
          by_cases h2 : k ∈ keysD d
          · have q := ih h2
            rw [if_neg e2] at q
            exact q
          · have em : (d.map fun p => if p.1 = k then (p.1, v) else p) = d := by
              have : ∀ p ∈ d, (if p.1 = k then (p.1, v) else p) = p := fun p hp => if_neg fun (z : p.1 = k) => h2 (z ▸ List.mem_map.mpr ⟨p, hp, rfl⟩)
              rw [List.map_congr_left this, List.map_id']
            rw [em]
      · rw [if_neg e]
        have h2 : k ∈ keysD d := (List.mem_cons.mp h).elim (fun z => absurd z.symm e) id
        by_cases e3 : p.1 = k'
        · have e4 : ¬ k = k' := fun z => e (e3.trans z.symm)
          simp [e3, e4]
        · simp only [decide_eq_false e3]
          exact ih h2
  · rw [putD_out h]
    unfold getD
    rw [List.find?_append]
    by_cases e2 : k = k'
    · subst e2
      have hn : d.find? (fun p => decide (p.1 = k)) = none := by
        rw [List.find?_eq_none]
        intro p hp
        simp only [decide_eq_true_eq]
        exact fun z => h (z ▸ List.mem_map.mpr ⟨p, hp, rfl⟩)
      rw [hn]
      simp
    · have e3 : ([(k, v)] : List (κ × β)).find? (fun p => decide (p.1 = k')) = none := by simp [e2]
      rw [e3]
      simp [e2]
theorem get_none {d : List (κ × β)} {k : κ} : getD d k = none ↔ k ∉ keysD d := by
  unfold getD
  rw [Option.map_eq_none_iff, List.find?_eq_none]
  constructor
  · intro h hk
    obtain ⟨p, hp, rfl⟩ := List.mem_map.mp hk
    exact h p hp (by simp)
  · intro h p hp
    simp only [decide_eq_true_eq]
    exact fun z => h (z ▸ List.mem_map.mpr ⟨p, hp, rfl⟩)
theorem get_isSome {d : List (κ × β)} {k : κ} : (getD d k).isSome = decide (k ∈ keysD d) := by
  cases h : getD d k with
  | none => simp [get_none.mp h]
  | some v =>
    have : k ∈ keysD d := Decidable.byContradiction fun z => by rw [get_none.mpr z] at h; cases h
    simp [this]
theorem get_of_mem {d : List (κ × β)} (hn : (keysD d).Nodup) {p : κ × β} (h : p ∈ d) : getD d p.1 = some p.2 := by
  induction d with
  | nil => cases h
  | cons q d ih =>
    obtain ⟨h1, h2⟩ := List.nodup_cons.mp hn
    unfold getD
    rw [List.find?_cons]
    rcases List.mem_cons.mp h with e | h
    · subst e; simp
    · have e : ¬ q.1 = p.1 := fun z => h1 (List.mem_map.mpr ⟨p, h, z.symm⟩)
      simp only [decide_eq_false e]
      exact ih h2 h
theorem mem_of_get {d : List (κ × β)} {k : κ} {v : β} (h : getD d k = some v) : (k, v) ∈ d := by
  unfold getD at h
  obtain ⟨p, hp, rfl⟩ := Option.map_eq_some_iff.mp h
  have h1 := List.mem_of_find?_eq_some hp
  have h2 := List.find?_some hp
  simp only [decide_eq_true_eq] at h2
  rw [← h2]
  exact h1

/-! ### as the model's dict -/
def kvs (ι : κ → Key) (f : β → V) (d : List (κ × β)) : List (Key × V) := d.map fun p => (ι p.1, f p.2)
variable {ι : κ → Key} {f : β → V}
theorem kvs_len (d : List (κ × β)) : (kvs ι f d).length = d.length := List.length_map ..
theorem kvs_put (hι : ∀ a b, ι a = ι b → a = b) (d : List (κ × β)) (k : κ) (v : β) : putK (kvs ι f d) (ι k) (f v) = kvs ι f (putD d k v) := by
  have ea : ((kvs ι f d).any fun kv => decide (kv.1 = ι k)) = d.any fun p => decide (p.1 = k) := by
    unfold kvs
    rw [List.any_map]
    congr 1
    funext p
    show decide (ι p.1 = ι k) = decide (p.1 = k)
    by_cases e : p.1 = k
    · simp [e]
    · have : ¬ ι p.1 = ι k := fun z => e (hι _ _ z)
      simp [e, this]
  unfold putK putD
  rw [ea]
  split
  · unfold kvs
    rw [List.map_map, List.map_map]
    refine List.map_congr_left fun p _ => ?_
    show (if ι p.1 = ι k then (ι p.1, f v) else (ι p.1, f p.2)) = (ι (if p.1 = k then (p.1, v) else p).1, f (if p.1 = k then (p.1, v) else p).2)
    by_cases e : p.1 = k
    · simp [e]
    · have : ¬ ι p.1 = ι k := fun z => e (hι _ _ z)
      simp [e, this]
  · unfold kvs
    rw [List.map_append]
    rfl
theorem kvs_puts (hι : ∀ a b, ι a = ι b → a = b) (kf : γ → κ) (vf : γ → β) : ∀ (zs : List γ) (d : List (κ × β)), putAll (fun z => ι (kf z)) (fun z => f (vf z)) (kvs ι f d) zs = kvs ι f (putsD kf vf d zs)
  | [], d => rfl
  | z :: zs, d => by
    show putAll _ _ (putK (kvs ι f d) (ι (kf z)) (f (vf z))) zs = kvs ι f (putsD kf vf (putD d (kf z) (vf z)) zs)
    rw [kvs_put hι, kvs_puts hι]
theorem kvs_get (hι : ∀ a b, ι a = ι b → a = b) (d : List (κ × β)) (k : κ) : valV (kvs ι f d) (ι k) = (getD d k).map f := by
  unfold valV getD kvs
  rw [List.find?_map]
  have : ((fun (kv : Key × V) => decide (kv.1 = ι k)) ∘ fun (p : κ × β) => (ι p.1, f p.2)) = fun p => decide (p.1 = k) := by
    funext p
    show decide (ι p.1 = ι k) = decide (p.1 = k)
    by_cases e : p.1 = k
    · simp [e]
    · have : ¬ ι p.1 = ι k := fun z => e (hι _ _ z)
      simp [e, this]
  rw [this, Option.map_map, Option.map_map]
  rfl
theorem kvs_keys (d : List (κ × β)) : (kvs ι f d).map (·.1) = (keysD d).map ι := by unfold kvs; rw [List.map_map, List.map_map]; rfl
end
theorem inr_inj : ∀ a b : Str, (Sum.inr a : Key) = Sum.inr b → a = b := fun _ _ h => by cases h; rfl
theorem inl_inj : ∀ a b : Int, (Sum.inl a : Key) = Sum.inl b → a = b := fun _ _ h => by cases h; rfl
theorem inlN_inj : ∀ a b : Nat, (Sum.inl (a : Int) : Key) = Sum.inl (b : Int) → a = b := fun a b h => by
  have h : (a : Int) = b := by injection h
  omega
abbrev kS : Str → Key := Sum.inr
abbrev kN : Nat → Key := fun n => Sum.inl (n : Int)
end Pm
/-! Pm11 -/
set_option maxHeartbeats 2000000
/-! Pm11: typed dicts in expressions, locked walks, methods. -/
namespace Pm
open PySem PySem.Spec L2
/-- a world: letters with truths -/
abbrev Wd := List (Str × Bool)
abbrev RW (w : Wd) : V → Pr := RD (kvs kS V.bl w)
section
variable {X : Cx} {A B : Own} {Γ Δ : Pr} {σ : L2.St} {a b c e o : Expr} {R Ra Rb Rc : V → Pr} {pos apos cpos : Pos} {tg : Expr} {P : List V → Pr} {Pd : List (Key × V) → Pr} {rest : List Stmt} {D : Ends}
variable {κ β : Type} [DecidableEq κ] {ι : κ → Key} {f : β → V}
/-! ### typed dicts -/
theorem e_dgetK {d : List (κ × β)} {k : κ} {v : β} (hι : ∀ a b, ι a = ι b → a = b) (hu : X.A.units + 1 < cLine) (ho : E3 X A Γ σ o (RD (kvs ι f d))) (hi : E3 X A Γ σ e (RV (kV (ι k)))) (hv : getD d k = some v) (hp : NoSl e := by intro _ _; rfl) : E3 X A Γ σ (.Subscript o e pos) (RV (f v)) :=
  e_dget hu ho hi sd_rd (fun ks G _ z => by cases (show ks = _ from z); exact ⟨f v, by rw [kvs_get hι, hv]; rfl, rfl⟩) hp
theorem e_dinK {d : List (κ × β)} {k : κ} (hι : ∀ a b, ι a = ι b → a = b) (hu : X.A.units + 1 < cLine) (hi : E3 X A Γ σ e (RV (kV (ι k)))) (ho : E3 X A Γ σ o (RD (kvs ι f d))) (hm : behindInMarks .In o = false := by with_unfolding_all rfl) : E3 X A Γ σ (.Compare e [.In] [o] pos) (RB (decide (k ∈ keysD d))) :=
  e_din hu hi ho sd_rd (fun ks G _ z => by cases (show ks = _ from z); rw [kvs_get hι, Option.isSome_map, get_isSome]) hm
theorem t_dinK {d : List (κ × β)} {k : κ} (hι : ∀ a b, ι a = ι b → a = b) (hu : X.A.units + 1 < cLine) (hi : E3 X A Γ σ e (RV (kV (ι k)))) (ho : E3 X A Γ σ o (RD (kvs ι f d))) (hm : behindInMarks .In o = false := by with_unfolding_all rfl) : T3 X A Γ σ (.Compare e [.In] [o] pos) (decide (k ∈ keysD d)) :=
  t_din hu hi ho sd_rd (fun ks G _ z => by cases (show ks = _ from z); rw [kvs_get hι, Option.isSome_map, get_isSome]) hm
/-- len of a dict -/
theorem e_lenD {p : Pos} {n : Nat} (hm : X.mg "len" = none) (h : E3 X A Γ σ e Ra) (hs : SeesD A Γ Ra Pd) (hn : ∀ kv G, Γ.holds G → (Pd kv).holds G → kv.length = n) (hg : Gl X "len" := by rfl) (h1 : one1 X e := by rfl) : E3 X A Γ σ (.Call (.Name "len" p) [e] [] pos) (RI n) :=
  e_blt (es := []) call_lenD hm boot_len (a_cons h a_nil h1) (fun vs H Q ok g r k => by
    obtain ⟨v, rfl, rv⟩ := pc1 r
    obtain ⟨q, kv, rfl, hd, hp⟩ := hs v H ok g rv
    exact ⟨q, kv, rfl, hd, k _ _ (Ext.refl ok) (by show V.int _ = V.int _; rw [hn kv _ g hp])⟩) hg (by decide) (by decide) h1 (by rfl)
theorem e_lenRD {p : Pos} {d : List (κ × β)} (hm : X.mg "len" = none) (h : E3 X A Γ σ e (RD (kvs ι f d))) (hg : Gl X "len" := by rfl) (h1 : one1 X e := by rfl) : E3 X A Γ σ (.Call (.Name "len" p) [e] [] pos) (RI d.length) := e_lenD hm h sd_rd (fun kv G _ z => by cases (show kv = _ from z); exact kvs_len d) hg h1
/-- d.get(k) -/
theorem e_get1 {d : List (κ × β)} {k : κ} (hι : ∀ a b, ι a = ι b → a = b) (hu : X.A.units + 1 < cLine) (ho : E3 X A Γ σ o (RD (kvs ι f d))) (hi : E3 X A Γ σ e (RV (kV (ι k)))) (m : M1 X o "get" apos e cpos := by exact ⟨rfl, rfl, rfl, rfl⟩) : E3 X A Γ σ (.Call (.Attribute o "get" apos) [e] [] cpos) (RV (((getD d k).map f).getD .non)) := fun H Q ok g kk =>
  Ev.of (pe_dget1 hu (evPE o) (evPE e) m) (ho H _ ok g fun x H1 x1 r1 => by
    obtain ⟨a, rfl, h⟩ := r1
    exact ⟨a, rfl, .inl ⟨_, .inl (hide_le _ _ h)⟩, hi H1 _ x1.ok (Γ.mono x1.same g) fun y H2 x2 r2 => by
      cases (show y = kV (ι k) from r2)
      exact ⟨_, DGet.k (hide_le _ _ (x2.same _ _ h)), kk _ _ (x1.trans x2) (by rw [kvs_get hι]; exact rfl)⟩⟩)
/-- d.get(k, x) -/
theorem e_get2 {c : Expr} {d : List (κ × β)} {k : κ} {x : V} (hι : ∀ a b, ι a = ι b → a = b) (hu : X.A.units + 1 < cLine) (ho : E3 X A Γ σ o Ra) (hs : SeesD A Γ Ra (fun ks => pP (ks = kvs ι f d))) (hi : E3 X A Γ σ e (RV (kV (ι k)))) (hc : E3 X A Γ σ c (RV x)) (m : M2 X o "get" apos e c cpos := by exact ⟨rfl, rfl, rfl, rfl⟩) : E3 X A Γ σ (.Call (.Attribute o "get" apos) [e, c] [] cpos) (RV (((getD d k).map f).getD x)) := fun H Q ok g kk =>
  Ev.of (pe_dget2 hu (evPE o) (evPE e) (evPE c) m) (ho H _ ok g fun v H1 x1 r1 => by
    obtain ⟨a, ks, rfl, h1, ek⟩ := hs v H1 x1.ok (Γ.mono x1.same g) r1
    refine ⟨a, rfl, .inl ⟨_, .inl h1⟩, hi H1 _ x1.ok (Γ.mono x1.same g) fun y H2 x2 r2 => ?_⟩
    cases (show y = kV (ι k) from r2)
    refine hc H2 _ x2.ok (Γ.mono (x1.same.trans x2.same) g) fun z H3 x3 r3 => ?_
    cases (show z = x from r3)
    obtain ⟨a', ks', e', h3, ek3⟩ := hs _ H3 x3.ok (Γ.mono ((x1.same.trans x2.same).trans x3.same) g) ((Ra (.ref a)).mono (x2.same.trans x3.same) r1)
    cases e'
    cases (show ks' = _ from ek3)
    exact ⟨_, DGet.k h3, kk _ _ ((x1.trans x2).trans x3) (by rw [kvs_get hι]; exact rfl)⟩)
/-! ### a dict locked while its items are gone through -/
theorem hide_in {A : Own} {H : Hp} {a : Addr} {u : HO} (h : hide A H a = some u) : a ∉ dom A := (hide_of h).2
theorem e_lock {d : Addr} {u : HO} {w : V} (mu : Mut (some u)) (h : ∀ G, Γ.holds G → G d = some u) (he : ∀ od, E3 X A (pAt d (.frz od u)) σ e (RV w)) : E3 X A Γ σ e (RV w) := fun H Q ok g k =>
  Ev.of (pe_lock (evPE e)) (by
    obtain ⟨hd, nd⟩ := hide_of (h _ g)
    refine ⟨d, u, hd, mu, fun od => ?_⟩
    have ne : ∀ p ∈ A, p.1 ≠ d := fun p hp z => nd (List.mem_map.mpr ⟨p, hp, z⟩)
    have ok1 : Own.Ok A (upd H d (.frz od u)) := ⟨fun p hp => by rw [upd_ne (ne p hp)]; exact ok.at_ p hp, ok.nd⟩
    have g1 : (pAt d (.frz od u)).holds (hide A (upd H d (.frz od u))) := by show hide A _ d = _; rw [hide_out nd]; exact upd_same
    refine he od _ _ ok1 g1 fun v H1 x1 r1 => ⟨(hide_of (x1.same _ _ g1)).1, k v _ ⟨⟨fun p hp => ?_, ok.nd⟩, fun b o e => ?_⟩ r1⟩
    · rw [upd_ne (ne p hp)]
      exact x1.ok.at_ p hp
    · obtain ⟨e1, e2⟩ := hide_of e
      rw [hide_out e2]
      by_cases eb : b = d
      · subst eb
        rw [hd] at e1
        cases e1
        exact upd_same
      · rw [upd_ne eb]
        exact (hide_of (x1.same b o (by rw [hide_out e2, upd_ne eb]; exact e1))).1)
theorem pAll_rvs {G : Hp} : ∀ (xs : List V), (pAll RV xs xs).holds G
  | [] => trivial
  | _ :: xs => ⟨rfl, pAll_rvs xs⟩
/-- for v in d.values() -/
theorem i_vals {d : Addr} {od : Obj} {ks : List (Key × V)} (ho : E3 X A (pAt d (.frz od (.dK ks))) σ o (RV (.ref d))) (hbase : attributeBase o "values" X.env (eval o X.env) = eval o X.env := by rfl) (hline : (apos.endLine == cpos.line) = true := by rfl) :
    I3 X A (pAt d (.frz od (.dK ks))) σ tg (.Call (.Attribute o "values" apos) [] [] cpos) (ks.map (·.2)) RV := fun H Q ok g k =>
  Ei.of (pi_values (evPE o) hbase hline) (ho H _ ok g fun v H1 x1 r => by
    cases (show v = .ref d from r)
    have hd := x1.same _ _ g
    refine ⟨d, od, ks, rfl, (hide_of hd).1, k _ (pAt d (.frz od (.dK ks))) H1 x1 (walkT_of walk_values (List.length_map ..) (fun H z => z) fun A i z H x H' hz ok g y => ?_) hd⟩
    obtain ⟨eH, key, ex⟩ := y
    subst eH
    rw [List.getElem?_map, ex] at hz
    cases hz
    exact ⟨Ext.refl ok, rfl⟩)
end
/-! ### data at any depth -/
theorem seqT {K : PySem.W.Frag} {H H' : Hp} {a : Addr} {xs : List V} (e : L2.Same H H') (h : SqT K H a xs) : SqT K H' a xs := by
  rcases h with (h | ⟨o, h⟩) | h
  · exact .inl (.inl (e _ _ h))
  · exact .inl (.inr ⟨o, e _ _ h⟩)
  · exact .inr h
mutual
theorem Dp.same {K : PySem.W.Frag} {H H' : Hp} (s : L2.Same H H') : ∀ (d : PyData) {v : V}, Dp K H v d → Dp K H' v d
  | .none, _, h => by cases h; exact .non
  | .bool b, _, h => by cases h; exact .bl b
  | .int i, _, h => by cases h; exact .int i
  | .str x, _, h => by cases h; exact .str x
  | .list ds, _, h => by
    cases h with
    | lst hs ha => exact .lst (s.seq hs) (DpAll.same s ds ha)
  | .tuple ds, _, h => by
    cases h with
    | tup hs ha => exact .tup (seqT s hs) (DpAll.same s ds ha)
  | .dict _, _, h => by cases h
theorem DpAll.same {K : PySem.W.Frag} {H H' : Hp} (s : L2.Same H H') : ∀ (ds : List PyData) {vs : List V}, DpAll K H vs ds → DpAll K H' vs ds
  | [], _, h => by cases h; exact .nil
  | d :: ds, _, h => by
    cases h with
    | cons h1 h2 => exact .cons (Dp.same s d h1) (DpAll.same s ds h2)
end
def pD (K : PySem.W.Frag) (v : V) (d : PyData) : Pr := ⟨fun G => Dp K G v d, fun s h => Dp.same s d h⟩
theorem d_ri {K : PySem.W.Frag} {i : Int} {v : V} : (RI i v).le (pD K v (.int i)) := fun G e => by cases (show v = _ from e); exact .int i
theorem d_rb {K : PySem.W.Frag} {i : Bool} {v : V} : (RB i v).le (pD K v (.bool i)) := fun G e => by cases (show v = _ from e); exact .bl i
theorem d_rs {K : PySem.W.Frag} {i : Str} {v : V} : (RS i v).le (pD K v (.str i)) := fun G e => by cases (show v = _ from e); exact .str i
theorem d_all {K : PySem.W.Frag} {α : Type} {T : α → V → Pr} {dt : α → PyData} (h : ∀ x v, (T x v).le (pD K v (dt x))) {G : Hp} : ∀ {xs : List α} {vs : List V}, (pAll T xs vs).holds G → DpAll K G vs (xs.map dt)
  | [], [], _ => .nil
  | x :: xs, v :: vs, z => .cons (h x v _ z.1) (d_all h z.2)
theorem d_rl {K : PySem.W.Frag} {α : Type} {T : α → V → Pr} {dt : α → PyData} (h : ∀ x v, (T x v).le (pD K v (dt x))) {xs : List α} {v : V} : (RL T xs v).le (pD K v (.list (xs.map dt))) := fun G ⟨a, vs, e, hv, r⟩ => by
  subst e
  exact .lst (SqL.of hv) (d_all h r)
theorem d_rt2 {K : PySem.W.Frag} {α β : Type} {R1 : α → V → Pr} {R2 : β → V → Pr} {d1 : α → PyData} {d2 : β → PyData} (h1 : ∀ x v, (R1 x v).le (pD K v (d1 x))) (h2 : ∀ x v, (R2 x v).le (pD K v (d2 x))) {x : α × β} {v : V} : (RT2 R1 R2 x v).le (pD K v (.tuple [d1 x.1, d2 x.2])) := fun G ⟨a, v1, v2, e, hv, r1, r2⟩ => by
  subst e
  exact .tup (SqT.of hv) (.cons (h1 _ _ _ r1) (.cons (h2 _ _ _ r2) .nil))
section
variable {X : Cx} {A B : Own} {Γ Δ : Pr} {σ : L2.St} {a b c e o : Expr} {R Ra Rb Rc : V → Pr} {pos apos cpos : Pos} {tg : Expr} {P : List V → Pr} {rest : List Stmt} {D : Ends}
theorem dp_up {K : PySem.W.Frag} {A : Own} {H : Hp} {v : V} {d : PyData} (h : (pD K v d).holds (hide A H)) : Dp K H v d := Dp.same hide_le d h
/-- x in a list, x not in a list -/
theorem t_inDp {d : PyData} {ds : List PyData} (hu : X.A.units + 65 < cLine) (ha : E3 X A Γ σ a Ra) (hb : E3 X A Γ σ b Rb) (h1 : ∀ v, (Ra v).le (pD X.K v d)) (h2 : ∀ v, (Rb v).le (pD X.K v (.list ds))) (s1 : SeqAt.shaped d = true) (s2 : SeqAt.shaped (.list ds) = true) (hm : behindInMarks .In b = false := by with_unfolding_all rfl) : T3 X A Γ σ (.Compare a [.In] [b] pos) (ds.any fun z => PyData.eqv z d) :=
  t_cmp (op_inD hu) hm (fun x y H Q ok g rx ry k => ⟨d, ds, dp_up (h1 _ _ rx), dp_up (h2 _ _ ry), s1, s2, k _ _ (Ext.refl ok) rfl⟩) ha hb
theorem t_ninDp {d : PyData} {ds : List PyData} (hu : X.A.units + 65 < cLine) (ha : E3 X A Γ σ a Ra) (hb : E3 X A Γ σ b Rb) (h1 : ∀ v, (Ra v).le (pD X.K v d)) (h2 : ∀ v, (Rb v).le (pD X.K v (.list ds))) (s1 : SeqAt.shaped d = true) (s2 : SeqAt.shaped (.list ds) = true) (hm : behindInMarks .NotIn b = false := by with_unfolding_all rfl) : T3 X A Γ σ (.Compare a [.NotIn] [b] pos) (!(ds.any fun z => PyData.eqv z d)) :=
  t_cmp (op_notInD hu) hm (fun x y H Q ok g rx ry k => ⟨d, ds, dp_up (h1 _ _ rx), dp_up (h2 _ _ ry), s1, s2, k _ _ (Ext.refl ok) rfl⟩) ha hb
theorem e_eqDp {d d' : PyData} (hu : X.A.units + 64 < cLine) (ha : E3 X A Γ σ a Ra) (hb : E3 X A Γ σ b Rb) (h1 : ∀ v, (Ra v).le (pD X.K v d)) (h2 : ∀ v, (Rb v).le (pD X.K v d')) (s1 : SeqAt.shaped d = true) (s2 : SeqAt.shaped d' = true) : E3 X A Γ σ (.Compare a [.Eq] [b] pos) (RB (PyData.eqv d d')) :=
  e_cmp (op_eqD hu) (nomark _) (fun x y H Q ok g rx ry k => ⟨d, d', dp_up (h1 _ _ rx), dp_up (h2 _ _ ry), s1, s2, k _ _ (Ext.refl ok) rfl⟩) ha hb
/-- xs.append(e), xs one's own in the i-th slot -/
theorem b_ap (A1 : Own) (i : Nat) {A2 : Own} {p : Addr} {vs : List V} {x : Str} {xp apos cpos : Pos} (h : E3 X (A1 ++ (p, .lst vs) :: A2) Γ σ e R) (hl : ∀ G, Γ.holds G → vs.length < sizeLine) (k : ∀ v, B3 X (A1 ++ (p, .lst (vs ++ [v])) :: A2) (pAnd Γ (R v)) σ rest D)
    (hσ : σ[i]? = some (some (.ref p)) := by rfl) (hN : X.N[i]? = some x := by rfl) (hv : Vis X.env.scope x := by first | exact Or.inl rfl | exact Or.inr (Or.inl rfl) | exact Or.inr (Or.inr rfl)) (hd : (x == ("__debug__" : Str)) = false := by decide) (hcd : (x == ("__classdict__" : Str)) = false := by decide)
    (he : starEach [e] X.env = (false, eval e X.env) :: starEach [] X.env := by rfl) (hbase : attributeBase (.Name x xp) "append" X.env (eval (.Name x xp) X.env) = eval (.Name x xp) X.env := by rfl)
    (hfew : ((backTo cpos (starEach [e] X.env)).all (fun x => !x.1) && (backToKw cpos (keywordEach [] X.env)).all (fun x => x.1.isSome) && decide ([e].length + ([] : List Keyword).length + (if ([] : List Keyword).isEmpty then 0 else 1) < 30)) = true := by rfl)
    (hline : (apos.endLine == cpos.line) = true := by rfl) (hplain : (backTo cpos (starEach [] X.env)).any (·.1) = false := by rfl)
    (hs : swapsWith (.Call (.Attribute (.Name x xp) "append" apos) [e] [] cpos) none pos.line X.env = pure false := by rfl) : B3 X (A1 ++ (p, .lst vs) :: A2) Γ σ (.Expr (.Call (.Attribute (.Name x xp) "append" apos) [e] [] cpos) pos :: rest) D :=
  b_app A1 (e_v i hσ hN hv hd hcd) h hl k he (pe_bm F.plainAttrs_list F.slot_list_append F.type_list_append mt_append (evPE _) (eaPA _) hbase hfew hline he hplain) hs
end
end Pm
/-! Pm12 -/
set_option maxHeartbeats 2000000
/-! Pm12: promises that see what the caller owns, plain tuples, tests that change. -/
namespace Pm
open PySem PySem.Spec L2
def spO {δ : Type} (pre : δ → Own → List V → Pr) (post : δ → Own → V → Pr) : Sp := fun vs H Q _ => ∃ (d : δ) (A : Own), A.Ok H ∧ (pre d A vs).holds (hide A H) ∧ ∀ v H', Ext A H H' → (post d A v).holds (hide A H') → Q v H'
/-- or none -/
def RM {α : Type} (R : α → V → Pr) : Option α → V → Pr
  | none => RN
  | some x => R x
/-- a tuple of just these plain values -/
def RP (vs : List V) : V → Pr := fun v => pEx fun a => pAnd (pP (v = .ref a)) (pAt a (.tup vs))
theorem s_rp {K : PySem.W.Frag} {A : Own} {Γ : Pr} {vs : List V} : Sees K A Γ (RP vs) (fun ws => pP (ws = vs)) := fun v H ok g ⟨a, e, h⟩ => ⟨a, vs, e, .inr (SqT.of (hide_le _ _ h)), rfl⟩
theorem ty_rp {K : PySem.W.Frag} {vs : List V} {v : V} : (RP vs v).le (pTy K "tuple" v) := fun G ⟨a, e, h⟩ => by subst e; exact .base (.tup h)
theorem ty_rd {K : PySem.W.Frag} {kv : List (Key × V)} {v : V} : (RD kv v).le (pTy K "dict" v) := fun G ⟨a, e, h⟩ => by subst e; exact .base (.dK h)
/-- an owned list of such items -/
def RLo {α : Type} (R : α → V → Pr) (xs : List α) (A : Own) : V → Pr := fun v => pEx fun p => pEx fun vs => pAnd (pP (v = .ref p ∧ (p, HO.lst vs) ∈ A)) (pAll R xs vs)
theorem s_rlo {K : PySem.W.Frag} {A : Own} {Γ : Pr} {α : Type} {R : α → V → Pr} {xs : List α} : SeesL K A Γ (RLo R xs A) (pAll R xs) := fun v H ok g ⟨p, vs, ⟨e, hm⟩, r⟩ => ⟨p, vs, e, SqL.of (ok.at_ _ hm), r⟩
section
variable {X : Cx} {A B : Own} {Γ Δ : Pr} {σ : L2.St} {a b c e o : Expr} {R Ra Rb Rc : V → Pr} {pos apos cpos : Pos} {tg : Expr} {P : List V → Pr} {rest : List Stmt} {D : Ends}
theorem e_co {δ : Type} {pre : δ → Own → List V → Pr} {post : δ → Own → V → Pr} {x : Str} {k k' : Nat} {p : Pos} {es : List Expr} {Ps : List V → Pr} (F : Fd X.prog X.w X.K X.mg X.base x k (spO pre post)) (hr : Room k' X.A) (d : δ) (ha : A3 X A Γ σ (e :: es) Ps) (hp : ∀ vs, (pAnd Γ (Ps vs)).le (pre d A vs) := by exact fun _ _ h => h.2) (hR : ∀ v, (post d A v).le (R v) := by exact fun _ _ h => h) (hk : k ≤ k' := by first | decide | omega) (hg : Gl X x := by rfl) (hdb : (x == ("__debug__" : Str)) = false := by decide)
    (he : starEach (e :: es) X.env = (false, eval e X.env) :: starEach es X.env := by rfl) (hpl : (backTo pos (starEach es X.env)).any (·.1) = false := by rfl) : E3 X A Γ σ (.Call (.Name x p) (e :: es) [] pos) R := fun H Q ok g kk =>
  ev_call F (hr.mono hk) (ha.ea ok g fun vs H1 x1 r1 => ⟨d, A, x1.ok, hp vs _ ⟨Γ.mono x1.same g, r1⟩, fun v H' x2 r2 => kk v H' (x1.trans x2) (hR v _ r2)⟩) hg hdb he hpl
theorem fd_mkO {δ : Type} {pre : δ → Own → List V → Pr} {post : δ → Own → V → Pr} {P : Program} {w : World} {K : PySem.W.Frag} {mg : Str → Option Value} {base : Heap} {x : Str} {params : Arguments} {body : List Stmt} {scope : Scope} {f : Addr} {fd : FuncData} {k : Nat} {N ps : List Str}
    (F : FunD K x x params body scope [] [] f fd) (gm : mg x = some (.ref f)) (S : FnScope N ps scope)
    (nb : ∀ (kV doc pm : Value) (an : Option Addr) (cdv ct : Value) (us : List Value), us.length = ps.length → bindArgs (PySem.W.fnOf x x params body scope .none kV doc pm an cdv ct) ⟨us, []⟩ = pure (ps.zip us))
    (hl : ∀ d A vs G, (pre d A vs).holds G → vs.length = ps.length)
    (hb : ∀ (cdv : Value) (Ar : Around) (outer : List Env) (s : Shared) (H : Hp) (vs : List V) (d : δ) (A : Own) (G0 : Hp) (D : Ends), Room k (Ar.deeper (PyProof.Rows.envOfC x scope s.heap.objs.size f cdv)) → Post A G0 (post d A) D.rt → (∀ σ H', D.nx σ H' = D.rt .non H') →
      B3 (cxOf CX0 P w K mg base N x scope f cdv Ar outer s H E0).nox A (pAnd (pSame G0) (pre d A vs)) (start N vs) body D) : Fd P w K mg base x (k + 1) (spO pre post) := by
  refine ⟨f, fd, ps, ?_, gm, F.kp, F.bindsN nb⟩
  refine F.ok S (fun vs H Q E ⟨d, A, ok, h, _⟩ => hl d A vs _ h) fun cdv Ar outer s H vs Q E hr ⟨d, A, ok, h, q⟩ => ⟨_, (essPSs (X := (cxOf CX0 P w K mg base N x scope f cdv Ar outer s H E).nox) body).nox, ?_⟩
  refine hb cdv Ar outer s H vs d A (hide A H) { nx := fun _ H' => Q .non H', rt := Q } hr (fun v H' ok' sm r => q v H' ⟨ok', sm⟩ r) (fun _ _ => rfl) H ok ⟨L2.Same.refl _, h⟩
theorem B3.pick {α : Type} {p : α → Pr} {q : Pr} {blk : List Stmt} (h : ∀ x, B3 X A (pAnd Γ (pAnd q (p x))) σ blk D) : B3 X A (pAnd Γ (pAnd q (pEx p))) σ blk D := fun H ok ⟨g, z, x, r⟩ => h x H ok ⟨g, z, r⟩
/-- what a value that may be none or a list is, taken out -/
theorem rl_ref {α : Type} {T : α → V → Pr} {xs : List α} {v : V} {G : Hp} (h : (RL T xs v).holds G) : ∃ a, v = .ref a := by obtain ⟨a, _, e, _⟩ := h; exact ⟨a, e⟩
/-- xs[lo:hi] of a tuple, not the whole -/
theorem f_sliceT {lo hi : Option Expr} {l h : Option Int} {p2 : Pos} {tl th : TO} (ha : E3 X A Γ σ a Ra) {vs : List V} (hs : ∀ v H, A.Ok H → Γ.holds (hide A H) → (Ra v).holds (hide A H) → ∃ p, v = .ref p ∧ SqT X.K H p vs) (hl : PO X lo tl) (hh : PO X hi th) (l1 : ∀ H Q, A.Ok H → Γ.holds (hide A H) → (∀ H', Ext A H H' → Q l H') → tl σ H Q) (h1 : ∀ H Q, A.Ok H → Γ.holds (hide A H) → (∀ H', Ext A H H' → Q h H') → th σ H Q)
    (nw : ¬ (HT.sIx vs.length 0 l = 0 ∧ HT.sIx vs.length vs.length h = vs.length)) : F3 X A Γ σ (.Subscript a (.Slice lo hi none p2) pos) (OT RV (cutV vs l h)) := fun H Q ok g k =>
  Ev.of (pe_slice sl_tup (evPE a) hl hh) (ha H _ ok g fun x H1 x1 r1 => l1 H1 _ x1.ok (Γ.mono x1.same g) fun H2 x2 => h1 H2 _ x2.ok (Γ.mono (x1.same.trans x2.same) g) fun H3 x3 => by
    obtain ⟨q, rfl, s⟩ := hs x H3 x3.ok (Γ.mono ((x1.same.trans x2.same).trans x3.same) g) ((Ra x).mono (x2.same.trans x3.same) r1)
    exact ⟨q, vs, rfl, s, nw, fun r hr => k r _ _ (New.laid ((x1.trans x2).trans x3) hr _) ⟨_, rfl, pAll_rvs _⟩⟩)
/-- an if whose test may change things -/
theorem b_ifE {ta tb : List Stmt} (h : ∀ H, A.Ok H → Γ.holds (hide A H) → Et X c σ H fun t H' => if t = true then Ess X ta { D with nx := fun σ' H' => Ess X rest D σ' H' } σ H' else Ess X tb { D with nx := fun σ' H' => Ess X rest D σ' H' } σ H') : B3 X A Γ σ (.If c ta tb pos :: rest) D := fun H ok g =>
  b_cons (Es.of (ps_if (etPT c) (essPSs ta) (essPSs tb)) (h H ok g))
theorem et_and {H : Hp} {Q : Bool → Hp → Prop} (ha : T3 X A Γ σ a true) (ok : A.Ok H) (g : Γ.holds (hide A H)) (hb : ∀ H', Ext A H H' → Et X b σ H' Q) : Et X (.BoolOp .And [a, b] pos) σ H Q := fun pins s I =>
  (pw_and (etPT a) (pw_and1 (pos := pos) (etPT b))).run _ pins s σ H Q I (ha H _ ok g fun H' x => iteT (hb H' x))
/-- d.setdefault(k, x) of an owned dict -/
theorem ev_setd (A1 : Own) {A2 : Own} {p : Addr} {κ β : Type} [DecidableEq κ] {ι : κ → Key} {f : β → V} {d : List (κ × β)} {k : κ} {x : β} {H : Hp} {Q : VK} (hι : ∀ a b, ι a = ι b → a = b) (ok : Own.Ok (A1 ++ (p, .dK (kvs ι f d)) :: A2) H) (g : Γ.holds (hide (A1 ++ (p, .dK (kvs ι f d)) :: A2) H))
    (ho : E3 X (A1 ++ (p, .dK (kvs ι f d)) :: A2) Γ σ o (RV (.ref p))) (hi : E3 X (A1 ++ (p, .dK (kvs ι f d)) :: A2) Γ σ e (RV (kV (ι k)))) (hc : E3 X (A1 ++ (p, .dK (kvs ι f d)) :: A2) Γ σ c (RV (f x))) (hl : d.length < sizeLine)
    (h1 : ∀ v H', getD d k = some v → Own.Ok (A1 ++ (p, .dK (kvs ι f d)) :: A2) H' → Γ.holds (hide (A1 ++ (p, .dK (kvs ι f d)) :: A2) H') → Q (f v) H') (h2 : ∀ H', getD d k = none → Own.Ok (A1 ++ (p, .dK (kvs ι f (putD d k x))) :: A2) H' → Γ.holds (hide (A1 ++ (p, .dK (kvs ι f (putD d k x))) :: A2) H') → Q (f x) H')
    (m : M2 X o "setdefault" apos e c cpos := by exact ⟨rfl, rfl, rfl, rfl⟩) : Ev X (.Call (.Attribute o "setdefault" apos) [e, c] [] cpos) σ H Q :=
  Ev.of (pe_dsetd (evPE o) (evPE e) (evPE c) m) (ho H _ ok g fun v H1 x1 r1 => by
    cases (show v = .ref p from r1)
    have hm : (p, HO.dK (kvs ι f d)) ∈ A1 ++ (p, .dK (kvs ι f d)) :: A2 := List.mem_append_right _ (List.mem_cons_self ..)
    refine ⟨p, rfl, .inl ⟨_, .inl (x1.ok.at_ _ hm)⟩, hi H1 _ x1.ok (Γ.mono x1.same g) fun y H2 x2 r2 => ?_⟩
    cases (show y = kV (ι k) from r2)
    refine hc H2 _ x2.ok (Γ.mono (x1.same.trans x2.same) g) fun z H3 x3 r3 => ?_
    cases (show z = f x from r3)
    have g3 := Γ.mono ((x1.same.trans x2.same).trans x3.same) g
    refine ⟨_, ι k, x3.ok.at_ _ hm, rfl, by rw [kvs_len]; exact hl, fun v hv => ?_, fun hn => ?_⟩
    · rw [kvs_get hι] at hv
      obtain ⟨w, hw, rfl⟩ := Option.map_eq_some_iff.mp hv
      exact h1 w H3 hw x3.ok g3
    · rw [kvs_get hι, Option.map_eq_none_iff] at hn
      obtain ⟨o1, o2, o3⟩ := own_put (o' := .dK (putK (kvs ι f d) (ι k) (f x))) x3.ok
      rw [kvs_put hι] at o1 o2 ⊢
      exact h2 _ hn o1 (by rw [o2]; exact g3))
end
end Pm
/-! Pm13 -/
set_option maxHeartbeats 2000000
/-! Pm13: more shorthands. -/
namespace Pm
open PySem PySem.Spec L2
theorem enumL_get {α : Type} {xs : List α} {i : Nat} {z : Nat × α} (h : (enumL xs)[i]? = some z) : z.1 = i ∧ xs[i]? = some z.2 ∧ i < xs.length := by
  unfold enumL at h
  obtain ⟨h1, h2⟩ := List.getElem?_zip_eq_some.mp h
  have hi := (List.getElem?_eq_some_iff.mp h1).1
  rw [List.length_range] at hi
  rw [List.getElem?_range hi] at h1
  exact ⟨(Option.some.inj h1).symm, h2, hi⟩
theorem enumL_len {α : Type} {xs : List α} : (enumL xs).length = xs.length := by unfold enumL; rw [List.length_zip, List.length_range, Nat.min_self]
theorem get_lt {α : Type} {xs : List α} {i : Nat} {x : α} (h : xs[i]? = some x) : i < xs.length := (List.getElem?_eq_some_iff.mp h).1
theorem take_snoc {α : Type} {xs : List α} {i : Nat} {x : α} (h : xs[i]? = some x) : xs.take (i + 1) = xs.take i ++ [x] := by
  obtain ⟨h1, rfl⟩ := List.getElem?_eq_some_iff.mp h
  exact List.take_succ_eq_append_getElem h1
theorem drop_cons' {α : Type} {xs : List α} {i : Nat} {x : α} (h : xs[i]? = some x) : xs.drop i = x :: xs.drop (i + 1) := by
  obtain ⟨h1, rfl⟩ := List.getElem?_eq_some_iff.mp h
  exact List.drop_eq_getElem_cons h1
theorem hu65 {k : Nat} {A : Around} (hr : Room k A) : A.units + 65 < cLine := by have := hr.un; omega
theorem hu64 {k : Nat} {A : Around} (hr : Room k A) : A.units + 64 < cLine := by have := hr.un; omega
theorem puts_len {κ β γ : Type} [DecidableEq κ] {kf : γ → κ} {vf : γ → β} : ∀ {zs : List γ} {d : List (κ × β)}, (putsD kf vf d zs).length ≤ d.length + zs.length
  | [], d => Nat.le_refl _
  | z :: zs, d => by
    have h := puts_len (kf := kf) (vf := vf) (zs := zs) (d := putD d (kf z) (vf z))
    have h2 : (putD d (kf z) (vf z)).length ≤ d.length + 1 := by
      unfold putD
      split
      · rw [List.length_map]; omega
      · rw [List.length_append]; simp
    show (putsD kf vf (putD d (kf z) (vf z)) zs).length ≤ _
    rw [List.length_cons]
    omega
theorem s_rlo1 {K : PySem.W.Frag} {A : Own} {q : Addr × HO} {Γ : Pr} {α : Type} {R : α → V → Pr} {xs : List α} : SeesL K (q :: A) Γ (RLo R xs A) (pAll R xs) := fun v H ok g ⟨p, vs, ⟨e, hm⟩, r⟩ => ⟨p, vs, e, SqL.of (ok.at_ _ (List.mem_cons_of_mem _ hm)), r⟩
theorem pAll_last {α β : Type} {R : α → β → Pr} {G : Hp} {xs : List α} {vs : List β} {x : α} (h : (pAll R xs vs).holds G) (hx : xs.getLast? = some x) : ∃ v, vs.getLast? = some v ∧ (R x v).holds G := by
  rw [List.getLast?_eq_getElem?] at hx
  obtain ⟨v, e1, e2⟩ := pAll_get h hx
  refine ⟨v, ?_, e2⟩
  rw [List.getLast?_eq_getElem?, ← pAll_len h]
  exact e1
section
variable {X : Cx} {A B : Own} {Γ Δ : Pr} {σ : L2.St} {a b c e o : Expr} {R Ra Rb Rc : V → Pr} {pos apos cpos : Pos} {tg : Expr} {P : List V → Pr} {rest : List Stmt} {D : Ends}
theorem e_neg {i : Int} (ha : E3 X A Γ σ a (RI i)) : E3 X A Γ σ (.UnaryOp .USub a pos) (RI (-i)) := fun H Q ok g k => Ev.of (pe_un un_neg (evPE a)) (ha H _ ok g fun v H' x r => ⟨i, r, k _ _ x rfl⟩)
theorem e_neg1 {kk : Nat} {p2 : Pos} : E3 X A Γ σ (.UnaryOp .USub (.Constant (.int 1) kk p2) pos) (RI (-1)) := e_neg e_int
theorem T3.eq {t t' : Bool} (h : T3 X A Γ σ e t) (q : t = t') : T3 X A Γ σ e t' := q ▸ h
theorem B3.at {blk : List Stmt} {H : Hp} (h : B3 X A Γ σ blk D) (ok : A.Ok H) (g : Γ.holds (hide A H)) : Ess X blk D σ H := h H ok g
theorem b_gon {D' : Ends} (e : D'.nx = fun σ' H' => Ess X rest D σ' H') (h : B3 X A Γ σ rest D) : B3 X A Γ σ [] D' := b_go h e
theorem b_fin {δ : Type} {sd : δ → L2.St} {Ad : δ → Own} {Γd : δ → Pr} {rel : δ → Prop} (hD : D.nx = Nx sd Ad Γd rel) (d : δ) (hr : rel d) (hσ : σ = sd d) (hA : A = Ad d) (hg : Γ.le (Γd d)) : B3 X A Γ σ [] D := b_end d hr hσ hA hg hD
theorem i_enumL {α : Type} {P : α → V → Pr} {xs : List α} {p tpos : Pos} {elts : List Expr} {kk : Nat} (hm : X.mg "enumerate" = none) (h : E3 X A Γ σ e (RL P xs)) (hg : Gl X "enumerate" := by rfl) (hs : starEach [e] X.env = (false, eval e X.env) :: starEach [] X.env := by rfl) (hs1 : starEach [e] X.env = [(false, eval e X.env)] := by rfl) :
    I3 X A Γ σ (.Tuple elts kk tpos) (.Call (.Name "enumerate" p) [e] [] pos) (enumL xs) (RT2 (fun (k : Nat) => RI k) P) := i_enum h hs (pi_enum hg hm (eaPA [e]) hs1)
end
end Pm
/-! Dm -/
set_option maxHeartbeats 2000000
/-! Dm: {**d, k: v}: the display whose first part is a dict. The loop follows the library's for dict.update (wpAny_mergeDict). -/
namespace L2
open PySem PySem.Spec PyProof.Rows
section
variable {prog : Program} {w : World} {K : Type} [DecidableEq K] {knd : KeyKind prog w K} {A : Around} {E : Value → Shared → Prop} {s : Shared}
theorem dictPut_pairs {d : Addr} {kvs : List (K × Value)} {k : K} {key v : Value} {Q : Unit → Shared → Prop} (hkey : knd.is k key = true) (hm : s.heap.DictOf knd d kvs)
    (hQ : ∀ h', h'.DictOf knd d (stored kvs k v) → Heap.SameBut d s.heap h' → Q () { s with heap := h' }) (hsz : kvs.length ≤ sizeLine) : wpAny (model prog w) A (dictPut d (knd.hash k) key v) Q E s := by
  obtain ⟨o, es, ep, ho, hc, hd, hk, hp, hn⟩ := hm
  have hes : es.size ≤ sizeLine := by have e1 := hp.length; have e2 : es.toList.length = es.size := by simp
                                      omega
  unfold dictPut
  refine wpAny_bind (wpAny_dictFind_of hkey ho hd hk ?_)
  have hidx : (es.findIdx? fun e => knd.is k e.key) = kvs.findIdx? fun kv => decide (kv.1 = k) := by
    rw [← hp.findIdx k]; obtain ⟨l⟩ := es; simp
  cases hi : es.findIdx? fun e => knd.is k e.key with
  | some i =>
    refine wpAny_updateDict ho hd (hQ _ ⟨_, _, ep, Heap.get?_update_self _ ho (Obj.isFreed_of_dict (Obj.data_mapDict hd _)),
      hc.mapDict _, Obj.data_mapDict hd _, hk.modify _ _, ?_, ?_⟩ (Heap.SameBut.update ..))
    · rw [stored, if_pos (any_of_findIdx_some (hidx ▸ hi))]
      have hl : (es.toList.findIdx? fun e => knd.is k e.key) = some i := by rw [← hi]; obtain ⟨l⟩ := es; simp
      have := hp.modify hn hl v
      obtain ⟨l⟩ := es
      simpa using this
    · rw [stored, if_pos (any_of_findIdx_some (hidx ▸ hi)), keys_map_store]; exact hn
  | none =>
    have hnot : k ∉ kvs.map (·.1) := not_mem_of_findIdx_none (hidx ▸ hi)
    have hany : ¬ (kvs.any fun kv => decide (kv.1 = k)) = true := by
      rw [List.any_eq_true]; rintro ⟨kv, hkv, he⟩
      exact hnot (List.mem_map.mpr ⟨kv, hkv, of_decide_eq_true he⟩)
    refine wpAny_updateDictKeys (hz := hes) ho hd (hQ _ ⟨_, _, ep + 1, Heap.get?_update_self _ ho (Obj.isFreed_of_dict (Obj.data_mapDictKeys hd _)),
      hc.mapDictKeys _, Obj.data_mapDictKeys hd _, hk.push hkey _, ?_, ?_⟩ (Heap.SameBut.update ..))
    · rw [stored, if_neg hany]
      have := hp.append hkey (knd.hash k) v
      obtain ⟨l⟩ := es
      simpa using this
    · rw [stored, if_neg hany, List.map_append, List.nodup_append]
      refine ⟨hn, by simp, ?_⟩
      intro a ha b hb
      simp only [List.map_cons, List.map_nil, List.mem_singleton] at hb
      subst hb
      exact fun e => hnot (e ▸ ha)
theorem mergeMapping_dict {d o : Addr} {kvs more : List (K × Value)} {Q : Unit → Shared → Prop} (hdo : d ≠ o) (hoS : (o == sysModules) = false) (hkr : ∀ k a, knd.is k (.ref a) = false)
    (hd : s.heap.DictOf knd d kvs) (ho : s.heap.DictOf knd o more) (hQ : ∀ h', h'.DictOf knd d (merged kvs more) → h'.DictOf knd o more → Heap.SameBut d s.heap h' → Q () { s with heap := h' })
    (hsz : kvs.length + more.length ≤ sizeLine) : wpAny (model prog w) A (mergeMapping d (.ref o) false) Q E s := by
  obtain ⟨od, esd, epd, hod, hcd, hdd, hkd, hpd, hnd⟩ := id hd
  obtain ⟨oo, eso, epo, hoo, hco, hdo', hko, hpo, hno⟩ := id ho
  have hlen : more.length = eso.size := by rw [← hpo.length]; simp
  unfold mergeMapping
  refine wpAny_bind (wpAny_isInstance ho.typeIs isSubtype_dict_dict ?_)
  dsimp only
  rw [if_pos rfl]
  refine wpAny_bind (wpAny_specialOf ho.typeIs F.slot_dict_iter.lookup ?_)
  have et : ((some (Value.builtin "dict.__iter__") : Option Value) == some (Value.builtin "dict.__iter__")) = true := by decide +kernel
  rw [et]
  refine wpAny_bind (wpAny_pure ?_)
  dsimp only
  rw [if_neg (by rw [hoS]; exact Bool.false_ne_true)]
  refine wpAny_bind (wpAny_dictEntries hod hdd ?_)
  have loop : wpAny (model prog w) A (do
      let l ← dictEntries o
      let size : Nat := l.size
      let epoch ← dictEpoch o
      forIn (List.range size) PUnit.unit fun i (_ : PUnit) => (do
          let l' ← dictEntries o
          match l'[i]? with
            | some e => do
              holding [e.key, e.val] (dictPut d e.hash e.key e.val)
              let ep' ← dictEpoch o
              if (ep' != epoch) = true then do
                  (unsupported "dict.changed-during-merge" : Sem PUnit)
                  pure (ForInStep.yield PUnit.unit)
                else pure (ForInStep.yield PUnit.unit)
            | _ => do
              (unsupported "dict.changed-during-merge" : Sem PUnit)
              pure (ForInStep.yield PUnit.unit) : Sem (ForInStep PUnit))
      pure ()) Q E s := by
    refine wpAny_bind (wpAny_dictEntries hoo hdo' ?_)
    refine wpAny_bind (wpAny_dictEpoch hoo hdo' ?_)
    refine wpAny_bind ?_
    rw [List.range_eq_range']
    refine wpAny_forIn_list _
      (fun rest _ s' => ∃ h' i, s' = { s with heap := h' } ∧ rest = List.range' i (eso.size - i) ∧ i ≤ eso.size ∧ h'.DictOf knd d (merged kvs (more.take i)) ∧ h'.get? o = some oo ∧ Heap.SameBut d s.heap h')
      _ ?_ ?_ _ _ ⟨s.heap, 0, rfl, by simp, Nat.zero_le _, by simpa [merged] using hd, hoo, Heap.SameBut.refl _ _⟩
    · rintro x rest b s' ⟨h', i, rfl, hr, hi, hd', hoo', hs'⟩
      have hlt : i < eso.size := by
        rcases Nat.lt_or_ge i eso.size with h | h
        · exact h
        · rw [Nat.sub_eq_zero_of_le h] at hr; simp at hr
      obtain ⟨rfl, hrest⟩ : x = i ∧ rest = List.range' (i + 1) (eso.size - (i + 1)) := by
        have e : eso.size - i = (eso.size - (i + 1)) + 1 := by omega
        rw [e, List.range'_succ] at hr
        injection hr with h1 h2
        exact ⟨h1, h2⟩
      refine wpAny_bind (wpAny_dictEntries hoo' hdo' ?_)
      rw [Array.getElem?_eq_getElem hlt]
      obtain ⟨kv, hkv⟩ : ∃ kv, more[x]? = some kv := ⟨more[x]'(by rw [hlen]; exact hlt), List.getElem?_eq_getElem _⟩
      obtain ⟨k, v⟩ := kv
      obtain ⟨hkey, hval⟩ := hpo.get? (e := eso[x]) (by simp [hlt]) hkv
      obtain ⟨k', hkey', hhash⟩ := hko eso[x] (Array.getElem_mem hlt)
      obtain rfl : k' = k := knd.inj _ _ _ hkey' hkey
      show wpAny _ _ (holding [eso[x].key, eso[x].val] (dictPut d eso[x].hash eso[x].key eso[x].val) >>= _) _ _ _
      rw [hhash, hval]
      have hmx : (merged kvs (more.take x)).length ≤ sizeLine := by
        have e1 := merged_length_le kvs (more.take x)
        have e2 : (more.take x).length ≤ more.length := by rw [List.length_take]; omega
        omega
      refine wpAny_bind (wpAny_holding (dictPut_pairs (hsz := hmx) hkey hd' fun h'' hd'' hs'' => ?_))
      have hoo'' : h''.get? o = some oo := (hs''.2 o (Ne.symm hdo)).trans hoo'
      refine wpAny_bind (wpAny_dictEpoch hoo'' hdo' ?_)
      rw [if_neg (by simp)]
      exact wpAny_pure ⟨h'', x + 1, rfl, hrest, hlt, by rw [merged_take_succ kvs more x (k', v) hkv]; exact hd'', hoo'', hs'.trans hs''⟩
    · rintro b s' ⟨h', i, rfl, hr, hi, hd', hoo', hs'⟩
      have hin : i = eso.size := by
        rcases Nat.lt_or_ge i eso.size with h | h
        · have e : eso.size - i = (eso.size - (i + 1)) + 1 := by omega
          rw [e, List.range'_succ] at hr; exact nomatch hr
        · exact Nat.le_antisymm hi h
      refine wpAny_pure (hQ h' ?_ ⟨oo, eso, epo, hoo', hco, hdo', hko, hpo, hno⟩ hs')
      rw [hin, ← hlen, List.take_length] at hd'; exact hd'
  split
  · refine wpAny_bind (wpAny_dictEntries hoo hdo' ?_)
    have hloop : ∀ f : DictEntry → PUnit → Sem (ForInStep PUnit), (∀ e ∈ eso.toList, ∀ u, f e u = pure (ForInStep.yield PUnit.unit)) → forIn eso PUnit.unit f = pure PUnit.unit := fun f hf => by
      rw [← Array.forIn_toList]
      exact forIn_yield_id _ fun e he c => hf e he c
    refine wpAny_bind (wpAny_of_eq (hloop _ fun e he u => ?_) loop)
    obtain ⟨k, hkey, _⟩ := hko e (Array.mem_toList_iff.mp he)
    cases ek : e.key with
    | ref a => rw [ek, hkr] at hkey; cases hkey
    | _ => rfl
  · exact loop
end
end L2
/-! Dm2 -/
set_option maxHeartbeats 2000000
namespace L2
open PySem PySem.Spec PyProof.Rows
theorem display_star1 (m k v : Sem Value) (Q : Value → Shared → Prop) (E : Value → Shared → Prop) (M : Model) (A : Around) (s : Shared)
    (h : wpAny M A (alloc { cls := .type "dict", data := .dict #[] }) (fun d s1 => wpAny M A m (fun x s2 => wpAny M A (mergeMapping d x false) (fun _ s3 =>
      wpAny M A (subDict [(k, v)]) (fun b s4 => wpAny M A (mergeMapping d (.ref b) false) (fun _ s5 => Q (.ref d) s5) (fun _ _ => False) s4) E s3) (fun _ _ => False) s2) E s1) E s) :
    wpAny M A (dictDisplay [(none, m), (some k, v)]) Q E s := by
  unfold dictDisplay
  dsimp only
  rw [List.forIn_cons]
  refine wpAny_bind ?_
  dsimp only
  refine wpAny_bind ?_
  refine wpAny_bind ?_
  rw [show ([] : List (Sem Value × Sem Value)).isEmpty = true from rfl, if_pos rfl]
  refine wpAny_pure ?_
  dsimp only
  refine wpAny_bind (wpAny_mono h (fun d s1 h1 => ?_) fun _ _ e => e)
  refine wpAny_bind (wpAny_holding (wpAny_mono h1 (fun x s2 h2 => ?_) fun _ _ e => e))
  refine wpAny_bind (wpAny_onRaise (wpAny_tryCatch (wpAny_onRaise (wpAny_holding (wpAny_mono h2 (fun _ s3 h3 => ?_) fun _ _ e => e.elim)))))
  refine wpAny_pure ?_
  dsimp only
  rw [List.forIn_cons]
  dsimp only
  refine wpAny_bind ?_
  rw [show ((([] : List (Sem Value × Sem Value)) ++ [(k, v)]).length == 17) = false from rfl, if_neg Bool.false_ne_true]
  refine wpAny_pure ?_
  dsimp only
  rw [List.forIn_nil]
  refine wpAny_pure ?_
  dsimp only
  refine wpAny_bind ?_
  rw [show (([] : List (Sem Value × Sem Value)) ++ [(k, v)]).isEmpty = false from rfl, if_neg Bool.false_ne_true]
  refine wpAny_bind (wpAny_holding (wpAny_mono h3 (fun b s4 h4 => ?_) fun _ _ e => e))
  refine wpAny_bind (wpAny_onRaise (wpAny_holding (wpAny_mono h4 (fun _ s5 h5 => ?_) fun _ _ e => e.elim)))
  exact wpAny_pure (wpAny_pure h5)
/-- {**d, k: v}, keys ints or texts: p the new dict, b the small one of the last pair -/
def tDStar (td tk tv : TE) : TE := fun σ H Q => ∀ p, H p = none → td σ (upd H p (.dK [])) fun x H1 => ∃ a kvs, x = .ref a ∧ a ≠ p ∧ H1 a = some (.dK kvs) ∧ H1 p = some (.dK []) ∧ kvs.length < sizeLine ∧
  ∀ b, upd H1 p (.dK (mergeK [] kvs)) b = none → b ≠ p → tk σ (upd (upd H1 p (.dK (mergeK [] kvs))) b (.dK [])) fun y H2 => tv σ H2 fun z H3 => ∃ k, y = kV k ∧ H3 p = some (.dK (mergeK [] kvs)) ∧ H3 b = some (.dK []) ∧
    Q (.ref p) (upd (upd H3 b (.dK (mergeK [] [(k, z)]))) p (.dK (mergeK (mergeK [] kvs) (mergeK [] [(k, z)]))))
theorem mix_noref {prog : Program} {w : World} (k : Key) (a : Addr) : (mixKind prog w).is k (.ref a) = false := by
  cases k <;> rfl
section
variable {X : Cx} {d k v : Expr} {td tk tv : TE} {pos : Pos}
theorem pe_dstar (hd : PE X d td) (hk : PE X k tk) (hv : PE X v tv) : PE X (.Dict [none, some k] [d, v] pos) (tDStar td tk tv) := by
  refine ⟨fun pins s σ H Q I q => ?_⟩
  rw [arm_eval_Dict]
  refine wpAny_bind (wpAny_standAt ?_)
  show wpAny _ _ (dictDisplay [(none, do let x ← eval d X.env; standAt pos; pure x), (some (eval k X.env), do let x ← eval v X.env; standAt pos; pure x)]) _ _ _
  refine display_star1 _ _ _ _ _ _ _ _ (wpAny_alloc ?_)
  have hn := I.hok.fresh (Nat.le_refl s.heap.objs.size)
  generalize hD : s.heap.objs.size = D at hn
  have I1 : Inv X pins σ (upd H D (.dK [])) { s with heap := s.heap.push { cls := .type "dict", data := .dict #[] } } := by
    rw [← hD]
    exact I.laid (a := s.heap.objs.size) (o := .dK []) (h' := s.heap.push { cls := .type "dict", data := .dict #[] }) (t' := s.toks) (fun _ _ q => Heap.get?_push_of_some _ q) (Nat.le_refl _) (dk_empty s.heap I.big)
  refine wpAny_bind (wpAny_mono (hd.run pins _ σ _ _ I1 (q D hn)) (fun u s2 h2 => ?_) fun _ _ e => e)
  obtain ⟨x, H1, I2, rx, a, kvs, rfl, ha, hHa, hHp, hl, q2⟩ := h2
  obtain rfl : u = Value.ref a := rx
  refine wpAny_bind (wpAny_standAt (wpAny_pure ?_))
  obtain ⟨za, lo, va, ra, dda⟩ := dk_of I2.hok hHa
  obtain ⟨zp, lp, vp, rp, ddp⟩ := dk_of I2.hok hHp
  cases rp
  refine mergeMapping_dict (knd := mixKind X.prog X.w) (fun z => ha z.symm) lo mix_noref ddp dda (fun h' dd' _ hs => ?_) (by rw [List.length_nil, Nat.zero_add, ← ra.length]; omega)
  have he : ∃ q, h'.get? D = some q := let ⟨q, _, _, hq, _⟩ := dd'; ⟨q, hq⟩
  have hz1 : (mergeK [] kvs).length ≤ sizeLine := by
    have := length_mergeK kvs []
    rw [List.length_nil] at this
    omega
  have I3 : Inv X pins σ (upd H1 D (.dK (mergeK [] kvs))) { s2 with heap := h' } := d_write (t' := s2.toks) I2 (by rw [hHp]; exact True.intro) hs he (dk_new hz1 lp (ra.merge .nil) dd')
  have hn3 := I3.hok.fresh (Nat.le_refl h'.objs.size)
  have hbD : h'.objs.size ≠ D := fun z => by
    obtain ⟨q, e⟩ := he
    exact absurd (Heap.lt_size e) (by rw [z]; exact Nat.lt_irrefl _)
  have q3 := q2 _ hn3 hbD
  have I4 := I3.laid (a := h'.objs.size) (o := .dK []) (h' := h'.push { cls := .type "dict", data := .dict #[] }) (t' := s2.toks) (fun _ _ q => Heap.get?_push_of_some _ q) (Nat.le_refl _) (dk_empty h' I3.big)
  refine wpAny_subDict (knd := mixKind X.prog X.w) (by show 1 ≤ 15; decide) (evalPairs_cons (wpAny_mono (hk.run pins _ σ _ _ I4 q3) (fun u s5 h5 => ?_) fun _ _ e => e))
  obtain ⟨y, H5, I5, ry, q5⟩ := h5
  refine wpAny_bind (wpAny_mono (hv.run pins _ σ _ _ I5 q5) (fun u2 s6 h6 => ?_) fun _ _ e => e)
  obtain ⟨z, H6, I6, rz, kk, rfl, h6p, h6b, q6⟩ := h6
  refine wpAny_bind (wpAny_standAt (wpAny_pure (evalPairs_nil ?_)))
  obtain ⟨z6, l6, v6, r6, dd6⟩ := dk_of I6.hok h6b
  cases r6
  have hkv : KV [(kk, z)] [(kk, u2)] := .cons ⟨rfl, rz⟩ .nil
  refine ⟨[(kk, u2)], ⟨kV_is ry, rfl, trivial⟩, dd6, fun h7 dd7 hs7 => ?_⟩
  have he7 : ∃ q, h7.get? h'.objs.size = some q := let ⟨q, _, _, hq, _⟩ := dd7; ⟨q, hq⟩
  have I7 : Inv X pins σ (upd H6 h'.objs.size (.dK (mergeK [] [(kk, z)]))) { s6 with heap := h7, toks := s6.toks + [(u, u2)].length } := d_write I6 (by rw [h6b]; exact True.intro) hs7 he7 (dk_new (by show 1 ≤ sizeLine; decide) l6 (hkv.merge .nil) dd7)
  have hp7 : upd H6 h'.objs.size (.dK (mergeK [] [(kk, z)])) D = some (.dK (mergeK [] kvs)) := by rw [upd_ne (Ne.symm hbD)]; exact h6p
  have hb7 : upd H6 h'.objs.size (.dK (mergeK [] [(kk, z)])) h'.objs.size = some (.dK (mergeK [] [(kk, z)])) := upd_same
  obtain ⟨z8, l8, v8, r8, dd8⟩ := dk_of I7.hok hp7
  obtain ⟨z9, l9, v9, r9, dd9⟩ := dk_of I7.hok hb7
  have hz9 : (mergeK (mergeK [] kvs) (mergeK [] [(kk, z)])).length ≤ sizeLine := by
    have h1 := length_mergeK (mergeK [] [(kk, z)]) (mergeK [] kvs)
    have h2 := length_mergeK kvs []
    have h3 : (mergeK [] [(kk, z)]).length = 1 := rfl
    rw [List.length_nil] at h2
    omega
  refine mergeMapping_dict (knd := mixKind X.prog X.w) (Ne.symm hbD) l9 mix_noref dd8 dd9 (fun h10 dd10 _ hs10 => ?_) (by
    rw [← r8.length, ← r9.length]
    have h2 := length_mergeK kvs []
    have h3 : (mergeK [] [(kk, z)]).length = 1 := rfl
    rw [List.length_nil] at h2
    omega)
  have he10 : ∃ q, h10.get? D = some q := let ⟨q, _, _, hq, _⟩ := dd10; ⟨q, hq⟩
  exact ⟨.ref D, _, d_write I7 (by rw [hp7]; exact True.intro) hs10 he10 (dk_new hz9 l8 (r9.merge r8) dd10), rfl, q6⟩
end
end L2
/-! SortD -/
set_option maxHeartbeats 2000000
/-! SortD: sorted(d) of a dict of ints, any number of them (the library's statement for fewer than 64, its list sort for any number). -/
namespace L2
open PySem PySem.Spec PyProof.Rows
section
variable {X : Cx}
theorem call_sortedDA (hcalm : X.calm = true) : CallR X (.builtin "sorted") (fun xs H Q => ∃ (a : Addr) (kvs : List (Key × V)) (ks : List Int), xs = [.ref a] ∧ Rd H a (.dK kvs) ∧ kvs.map (·.1) = ks.map Sum.inl ∧
    ∀ (ys : List Int) (p : Addr), ys.Perm ks → ys.Pairwise (· ≤ ·) → H p = none → Q (.ref p) (upd H p (.lst (ys.map V.int)))) := by
  intro pins s σ H xs us Q I r q
  obtain ⟨a, kvs, ks, ex, hd, hks, q⟩ := q
  subst ex
  obtain ⟨u, eu, rx⟩ := vals1 r
  subst eu
  cases rx
  obtain ⟨z, lo, vs, rel, dd⟩ := dk_rd I.hok hd
  obtain ⟨ep, hat⟩ := dd.dictAt
  have hkeys : vs.map (·.1) = ks.map Sum.inl := rel.keys.symm.trans hks
  have hl : vs.length = ks.length := by
    have e := congrArg List.length hkeys
    rw [List.length_map, List.length_map] at e
    exact e
  have h16 : vs.length ≤ sizeLine := by rw [← rel.length]; exact z
  refine Calls.call_function_entry PyProof.Rows.kind_sorted PyProof.Rows.plain_sorted PyProof.Rows.entry_sorted (PyProof.Rows.args_sorted1 _) ?_
  unfold Builtin.«sorted»
  refine wpAny_bind (m := checkCount "sorted" 1 1 _) (wpAny_pure ?_)
  refine wpAny_bind (PySem.W.kdu_collect (A := X.A.in1) (PySem.W.kdl_dict (knd := mixKind X.prog X.w) (kvs := vs) (ep := ep) lo) (I.ok.hd hcalm) hat h16 fun h' tk acc hk hacc => ?_)
  have hal : acc.toList.length = ks.length := by rw [Array.length_toList, hacc.1, hl]
  have hS : IntsAre acc.toList ks := ints_each hal fun j v e => by
    obtain ⟨k, x, e1, e2⟩ := hacc.2 j v (by rw [← Array.getElem?_toList]; exact e)
    have e3 : (vs.map (·.1))[j]? = some k := by rw [List.getElem?_map, e1]; rfl
    rw [hkeys, List.getElem?_map] at e3
    cases e4 : ks[j]? with
    | none => rw [e4] at e3; cases e3
    | some y =>
      rw [e4] at e3
      have e5 : Sum.inl y = k := Option.some.inj e3
      subst e5
      rcases keyIs_shape (show keyIs (Sum.inl y) v = true from e2) with ⟨i, t, ek, ev⟩ | ⟨z, t, ek, ev⟩
      · cases ek
        exact ⟨y, t, rfl, ev⟩
      · cases ek
  have I1 : Inv X pins σ H { s with heap := h', toks := tk } := I.kept hk
  refine wpAny_bind (wpAny_newList ?_ (by rw [hal, ← hl]; exact h16))
  have hoL : (h'.push (seqObj "list" acc.toList.toArray 0)).get? h'.objs.size = some (seqObj "list" acc.toList.toArray 0) := Heap.get?_push_size _ rfl
  show wpAny _ _ _ _ _ { s with heap := h'.push (seqObj "list" acc.toList.toArray 0), toks := tk }
  refine wpAny_bind (wpAny_holding (wpAny_call_entry PyProof.Rows.slot_list_sort ⟨_, hoL, rfl⟩ PyProof.Rows.entry_list_sort
    (SrtO.list_sort_ord (s := { s with heap := h'.push (seqObj "list" acc.toList.toArray 0), toks := tk }) SrtO.swo_int hoL (by rw [hal, ← hl]; exact h16) (fun h2 => SrtO.ints_sortable hS h2) fun out h1 h2 => ⟨_, rfl, ?_⟩) (PyProof.Rows.args_list_sort _)))
  obtain ⟨k1, k2, k3⟩ := SrtO.ints_out hS h1 h2
  obtain ⟨e', he'⟩ := PyProof.Rows.sortedHeap_at (vs := acc.toList) (out := out.toArray) hoL
  have hlen : ((out.map SrtO.iv).map V.int).length ≤ sizeLine := by
    rw [List.length_map, k2.length_eq, ← hl]
    exact h16
  refine wpAny_pure ⟨_, rfl, .ref h'.objs.size, upd H h'.objs.size (.lst ((out.map SrtO.iv).map V.int)), I1.laid (t' := tk) (fun b u e => ?_) (Nat.le_refl _)
    (show ObjOk X.prog X.w _ _ _ (.lst ((out.map SrtO.iv).map V.int)) from ⟨hlen, out, e', vals_of_ints k1, he'⟩), rfl, q _ _ k2 k3 (I1.hok.fresh (Nat.le_refl _))⟩
  have hb : b < h'.objs.size := Heap.lt_size e
  rw [PyProof.Rows.sortedHeap_old (Nat.ne_of_lt hb) (by rw [size_push']; exact Nat.lt_succ_of_lt hb)]
  exact Heap.get?_push_of_some _ e
end
end L2
/-! SortP -/
set_option maxHeartbeats 2000000
/-! SortP: sorted(xs), xs a list of pairs (text, truth) whose texts tell them apart. The steps follow the library's for pairs of ints. -/
namespace SrtL
open PySem PyProof.Rows PySem.Spec
open SrtO (Swo Cmp lt2 SortableO)
section
variable {prog : Program} {w : World} {A : Around} {E : Value → Shared → Prop} {s : Shared}
def IsLit (h : Heap) (v : Value) (x : Str) (b : Bool) : Prop := ∃ a o t n, v = .ref a ∧ h.get? a = some o ∧ o.cls = .type "tuple" ∧ o.data = .seq #[.str x t, .bool b] n
theorem IsLit.keeps {h h' : Heap} {v : Value} {x : Str} {b : Bool} (p : IsLit h v x b) (k : ∀ b o, h.get? b = some o → o.cls = .type "tuple" → h'.get? b = some o) : IsLit h' v x b := by
  obtain ⟨a, o, t, n, e, ho, hc, hd⟩ := p
  exact ⟨a, o, t, n, e, k _ _ ho hc, hc, hd⟩
theorem firsts_lit {h : Heap} : ∀ {vs : List Value}, (∀ v ∈ vs, ∃ x y, IsLit h v x y) → ∃ fs : List Value, PySem.W.KatTups h vs fs ∧ fs.length = vs.length ∧ ∀ f ∈ fs, ∃ x t, f = Value.str x t
  | [], _ => ⟨[], PySem.W.KatTups.nil, rfl, fun _ hm => by simp at hm⟩
  | v :: vs, hp => by
    obtain ⟨fs, h1, h2, h3⟩ := firsts_lit (vs := vs) fun v' hm => hp v' (List.mem_cons_of_mem _ hm)
    obtain ⟨x, y, a, o, t, n, e, ho, hc, hd⟩ := hp v (List.mem_cons_self ..)
    subst e
    refine ⟨.str x t :: fs, PySem.W.KatTups.cons ho hc hd rfl h1, by rw [List.length_cons, List.length_cons, h2], fun f hm => ?_⟩
    rcases List.mem_cons.mp hm with rfl | hm
    · exact ⟨x, t, rfl⟩
    · exact h3 f hm
def ltT (x y : Str) : Bool := decide (x.cps.toList < y.cps.toList)
theorem swo_str {α : Type} (k : α → Str) : Swo fun v u => ltT (k v) (k u) := by
  refine ⟨fun x y h => ?_, fun x y z h1 h2 => ?_⟩
  · have a := of_decide_eq_true (p := (k x).cps.toList < (k y).cps.toList) h
    exact decide_eq_false (p := (k y).cps.toList < (k x).cps.toList) (fun z => List.lt_irrefl _ (List.lt_trans a z))
  · have a := of_decide_eq_false (p := (k y).cps.toList < (k x).cps.toList) h1
    have b := of_decide_eq_false (p := (k z).cps.toList < (k y).cps.toList) h2
    exact decide_eq_false (p := (k z).cps.toList < (k x).cps.toList) (List.not_lt.mpr (List.le_trans (List.not_lt.mp a) (List.not_lt.mp b)))
theorem lit_cmp {vs : List Value} {k : Value → Str} {b : Value → Bool} (hp : ∀ v ∈ vs, IsLit s.heap v (k v) (b v)) (hb : ∀ v ∈ vs, ∀ u ∈ vs, k v = k u → b v = b u) : Cmp prog w A s (tuples' true) (fun p => p.1 ∈ vs) (lt2 fun v u => ltT (k v) (k u)) := by
  intro p q hm hm'
  have h1 := hp _ hm
  have h2 := hp _ hm'
  have h3 := hb _ hm _ hm'
  show wpAny (model prog w) A (keyLt' (tuples' true) p.1 q.1) (fun r s' => s' = s ∧ r = ltT (k p.1) (k q.1)) (fun _ _ => False) s
  generalize k p.1 = x at h1 h3 ⊢
  generalize b p.1 = y at h1 h3 ⊢
  generalize k q.1 = x' at h2 h3 ⊢
  generalize b q.1 = y' at h2 h3 ⊢
  obtain ⟨a, o, t, n, e, ho, hc, hd⟩ := h1
  obtain ⟨a', o', t', n', e', ho', hc', hd'⟩ := h2
  rw [e, e']
  refine PySem.W.kat_lt ho hd ho' hd' ?_
  show PySem.W.KatLex prog w A true (decide (2 < 2)) _ [(.str x t, .str x' t'), (.bool y, .bool y')] 0 s
  refine PySem.W.kat_cons (SeqAt.EqAt.str_str x t x' t' prog w _ _ ?_)
  refine PySem.W.kat_go (fun e1 => ?_) (fun e1 => ?_)
  · have ex : x = x' := by simpa using e1
    have ey := h3 ex
    refine PySem.W.kat_yes (PySem.W.kat_cons (SeqAt.EqAt.bool_bool y y' prog w _ _ ?_))
    refine PySem.W.kat_go (fun e2 => ?_) (fun e2 => ?_)
    · have e3 : ltT x x' = false := by
        rw [ex]
        exact decide_eq_false (List.lt_irrefl _)
      exact PySem.W.kat_yes (PySem.W.kat_nil ⟨rfl, e3.symm⟩)
    · rw [ey] at e2
      simp at e2
  · exact PySem.W.kat_no (oneLt_str ⟨rfl, rfl⟩)
theorem lits_sortableO {a : Addr} {vs : List Value} {k : Value → Str} {b : Value → Bool} (h0 : 0 < vs.length) (hp : ∀ v ∈ vs, IsLit s.heap v (k v) (b v)) (hb : ∀ v ∈ vs, ∀ u ∈ vs, k v = k u → b v = b u) (ha : ∀ o, s.heap.get? a = some o → o.cls ≠ .type "tuple") : SortableO prog w A s a vs fun v u => ltT (k v) (k u) := by
  intro h' keep
  have hp' : ∀ v ∈ vs, IsLit h' v (k v) (b v) := fun v hm => (hp v hm).keeps fun b o e c => keep b o (fun z => by subst z; exact ha o e c) e
  obtain ⟨fs, h1, h2, h3⟩ := firsts_lit fun v hm => ⟨_, _, hp' v hm⟩
  refine ⟨tuples' true, fun Q E hq => ?_, lit_cmp hp' hb⟩
  refine PySem.W.kat_kind (T := .type "str") h1 (by omega) (fun f hm => ?_) (by rfl) ?_
  · obtain ⟨x, t, rfl⟩ := h3 f hm
    exact PySem.W.Looks.now
  · have e : (Value.type "str" != Value.type "tuple") = true := by first | decide +kernel | rfl | decide
    rw [e]
    exact hq
end
end SrtL
namespace L2
open PySem PySem.Spec PyProof.Rows
def rSortedLit (K : PySem.W.Frag) : List V → Hp → VK → Prop := fun vs H Q => ∃ (a : Addr) (xs : List V) (k : V → Str) (b : V → Bool), vs = [V.ref a] ∧ SqL K H a xs ∧ (∀ x ∈ xs, ∃ t, x = V.ref t ∧ H t = some (.tup [.str (k x), .bl (b x)])) ∧ (∀ v ∈ xs, ∀ u ∈ xs, k v = k u → b v = b u) ∧
  ∀ ys p, SrtO.Srtd (fun v u => SrtL.ltT (k v) (k u)) ys → ys.Perm xs → H p = none → Q (.ref p) (upd H p (.lst ys))
section
variable {X : Cx}
theorem cr_sortedLit : CallR X (.builtin "sorted") (rSortedLit X.K) := by
  intro pins s σ H vs us Q I r h
  obtain ⟨a, xs, k, b, rfl, hs, hx, hb, q⟩ := h
  obtain ⟨its, rv, hl, hz⟩ := I.list hs
  obtain ⟨u, rfl, ru⟩ := vals1 r
  obtain rfl : u = Value.ref a := ru
  obtain ⟨e1, e2⟩ := refs_back rv fun x m => by
    obtain ⟨t, e, _⟩ := hx x m
    exact ⟨t, e⟩
  have hp : ∀ v ∈ its, SrtL.IsLit s.heap v (k (backV v)) (b (backV v)) := fun v hv => by
    obtain ⟨t, rfl⟩ := e2 v hv
    have hm : V.ref t ∈ xs := by rw [e1]; exact List.mem_map.mpr ⟨_, hv, rfl⟩
    obtain ⟨t', e, ht⟩ := hx _ hm
    cases e
    obtain ⟨_, its2, r2, o, ho, hc, n, hd⟩ := I.hok _ _ ht
    obtain ⟨u1, u2, rfl, ri, rj⟩ := vals2 r2
    obtain ⟨t1, rfl⟩ := ri
    cases rj
    exact ⟨t, o, t1, n, rfl, ho, hc, hd⟩
  have hb' : ∀ v ∈ its, ∀ u ∈ its, k (backV v) = k (backV u) → b (backV v) = b (backV u) := fun v hv u hu e => hb _ (by rw [e1]; exact List.mem_map.mpr ⟨_, hv, rfl⟩) _ (by rw [e1]; exact List.mem_map.mpr ⟨_, hu, rfl⟩) e
  refine SrtO.sorted_ord (SrtL.swo_str fun u => k (backV u)) hl.isList (by rw [← rv.length]; exact hz) (fun h2 h₁ a ha kk => ?_) fun out h1 h2 => ?_
  · refine SrtL.lits_sortableO (s := { s with heap := h₁ }) (b := fun u => b (backV u)) (by omega) (fun v hm => (hp v hm).keeps fun b o e _ => (kk b o e).2) hb' fun o e => ?_
    have e' : some o = some (seqObj "list" its.toArray 0) := e.symm.trans ha
    cases e'
    intro c
    exact absurd (Value.type.inj c) (by decide)
  · have h3 : ∀ u ∈ out, ∃ a, u = Value.ref a := fun u hu => e2 u (h2.perm.mem_iff.mp hu)
    obtain ⟨n, hn⟩ := sortedAll_at s.heap its out.toArray
    have hb : (out.map backV).Perm xs := by
      rw [e1]
      exact h2.perm.map backV
    refine ⟨.ref _, upd H (s.heap.objs.size + 1) (.lst (out.map backV)), I.laid (t' := s.toks) (fun _ _ => sortedAll_old) (Nat.le_succ _) ⟨?_, out, n, vals_back h3, hn⟩, rfl, q _ _ (SrtO.srtd_map h1) hb (I.hok.fresh (Nat.le_succ _))⟩
    rw [hb.length_eq]
    exact hz
end
end L2
/-! Pm14 -/
set_option maxHeartbeats 2000000
/-! Pm14: expressions that change owned objects; promises of defs that do. -/
namespace Pm
open PySem PySem.Spec L2
/-- the owned part goes from A to A', the rest grows -/
structure Chg (A A' : Own) (H H' : Hp) : Prop where
  ok : A'.Ok H'
  same : L2.Same (hide A H) (hide A' H')
theorem Ext.chg {A : Own} {H H' : Hp} (x : Ext A H H') : Chg A A H H' := ⟨x.ok, x.same⟩
theorem Chg.trans {A B C : Own} {H H1 H2 : Hp} (a : Chg A B H H1) (b : Chg B C H1 H2) : Chg A C H H2 := ⟨b.ok, a.same.trans b.same⟩
/-- e gives a value; what is owned becomes A' r -/
def M3 {ρ : Type} (X : Cx) (A : Own) (Γ : Pr) (σ : L2.St) (e : Expr) (A' : ρ → Own) (R : ρ → V → Pr) : Prop :=
  ∀ (H : Hp) (Q : VK), A.Ok H → Γ.holds (hide A H) → (∀ v r H', Chg A (A' r) H H' → (R r v).holds (hide (A' r) H') → Q v H') → Ev X e σ H Q
/-- a def that changes the first owned objects A1 d to A2 r -/
def spM {δ ρ : Type} (A1 : δ → Own) (A2 : ρ → Own) (pre : δ → List V → Pr) (post : δ → ρ → V → Pr) : Sp := fun vs H Q _ => ∃ (d : δ) (A : Own), Own.Ok (A1 d ++ A) H ∧ (pre d vs).holds (hide (A1 d ++ A) H) ∧
  ∀ v r H', Chg (A1 d ++ A) (A2 r ++ A) H H' → (post d r v).holds (hide (A2 r ++ A) H') → Q v H'
def PostM {ρ : Type} (A2 : ρ → Own) (A : Own) (G0 : Hp) (P : ρ → V → Pr) (Q : VK) : Prop := ∀ v r H', Own.Ok (A2 r ++ A) H' → L2.Same G0 (hide (A2 r ++ A) H') → (P r v).holds (hide (A2 r ++ A) H') → Q v H'
section
variable {X : Cx} {A B : Own} {Γ Δ : Pr} {σ : L2.St} {a b c e o : Expr} {R Ra Rb Rc : V → Pr} {pos apos cpos : Pos} {tg : Expr} {P : List V → Pr} {rest : List Stmt} {D : Ends}
theorem E3.m (h : E3 X A Γ σ e R) : M3 (ρ := Unit) X A Γ σ e (fun _ => A) (fun _ => R) := fun H Q ok g k => h H Q ok g fun v H' x r => k v () H' x.chg r
theorem m_call {δ ρ : Type} {A1 : δ → Own} {A2 : ρ → Own} {pre : δ → List V → Pr} {post : δ → ρ → V → Pr} {x : Str} {k k' : Nat} {p : Pos} {es : List Expr} {Ps : List V → Pr} (F : Fd X.prog X.w X.K X.mg X.base x k (spM A1 A2 pre post)) (hr : Room k' X.A) (d : δ) (A0 : Own) (hA : A = A1 d ++ A0) (ha : A3 X A Γ σ (e :: es) Ps) (hp : ∀ vs, (pAnd Γ (Ps vs)).le (pre d vs) := by exact fun _ _ h => h.2) (hk : k ≤ k' := by first | decide | omega) (hg : Gl X x := by rfl) (hdb : (x == ("__debug__" : Str)) = false := by decide)
    (he : starEach (e :: es) X.env = (false, eval e X.env) :: starEach es X.env := by rfl) (hpl : (backTo pos (starEach es X.env)).any (·.1) = false := by rfl) : M3 X A Γ σ (.Call (.Name x p) (e :: es) [] pos) (fun r => A2 r ++ A0) (fun r v => post d r v) := fun H Q ok g kk => by
  subst hA
  exact ev_call F (hr.mono hk) (ha.ea ok g fun vs H1 x1 r1 => ⟨d, A0, x1.ok, hp vs _ ⟨Γ.mono x1.same g, r1⟩, fun v r H' x2 r2 => kk v r H' (x1.chg.trans x2) r2⟩) hg hdb he hpl
theorem M3.imp {ρ : Type} {A' : ρ → Own} {R R' : ρ → V → Pr} (h : M3 X A Γ σ e A' R) (i : ∀ r v, (pAnd Γ (R r v)).le (R' r v)) : M3 X A Γ σ e A' R' := fun H Q ok g k => h H Q ok g fun v r H' x q => k v r H' x (i r v _ ⟨Γ.mono x.same g, q⟩)
theorem M3.pre {ρ : Type} {A' : ρ → Own} {R : ρ → V → Pr} (h : M3 X A Δ σ e A' R) (i : Γ.le Δ) : M3 X A Γ σ e A' R := fun H Q ok g k => h H Q ok (i _ g) k
/-- an operator whose right side changes -/
theorem m_binR {ρ : Type} {A' : ρ → Own} {Rb : ρ → V → Pr} {Rr : ρ → V → Pr} {op : Operator} {r : R2} {va : V} (ho : OpR X (binaryOp op) r) (ha : E3 X A Γ σ a (RV va)) (hb : M3 X A Γ σ b A' Rb) (hr : ∀ q, Op3 (A' q) Γ (RV va) (Rb q) r (Rr q)) : M3 X A Γ σ (.BinOp a op b pos) A' Rr := fun H Q ok g k =>
  Ev.of (pe_op ho (evPE a) (evPE b)) (ha H _ ok g fun x H1 x1 r1 => hb H1 _ x1.ok (Γ.mono x1.same g) fun y q H2 x2 r2 => hr q x y H2 Q x2.ok (Γ.mono (x1.same.trans x2.same) g) r1 r2 fun v H' x3 r3 => k v q H' ((x1.chg.trans x2).trans x3.chg) r3)
theorem m_cmpL {ρ : Type} {A' : ρ → Own} {Ra : ρ → V → Pr} {Rr : ρ → V → Pr} {op : CmpOp} {r : R2} {vb : V} (ho : OpR X (compareOp op) r) (hm : behindInMarks op b = false) (ha : M3 X A Γ σ a A' Ra) (hb : ∀ q, E3 X (A' q) Γ σ b (RV vb)) (hr : ∀ q, Op3 (A' q) Γ (Ra q) (RV vb) r (Rr q)) : M3 X A Γ σ (.Compare a [op] [b] pos) A' Rr := fun H Q ok g k =>
  Ev.of (pe_cmpR ho (evPE a) (evPE b) hm) (ha H _ ok g fun x q H1 x1 r1 => hb q H1 _ x1.ok (Γ.mono x1.same g) fun y H2 x2 r2 => hr q x y H2 Q x2.ok (Γ.mono (x1.same.trans x2.same) g) ((Ra q x).mono x2.same r1) r2 fun v H' x3 r3 => k v q H' ((x1.trans x2.chg).trans x3.chg) r3)
/-- x = e -/
theorem b_setM {ρ : Type} {A' : ρ → Own} {R : ρ → V → Pr} {x : Str} {pos' : Pos} (i : Nat) (h : M3 X A Γ σ e A' R) (k : ∀ v r, B3 X (A' r) (pAnd Γ (R r v)) (σ.set i (some v)) rest D) (hN : X.N.Nodup := by assumption) (hi : X.N[i]? = some x := by rfl) (hx : Loc X.env.scope x := by first | exact .inl rfl | exact .inr rfl) (hs : swapsWith e (some (.Name x pos')) pos.line X.env = pure false := by rfl)
    (hf : X.fn x = true ∨ X.env.scope.names.lookup x = some .local := by first | exact .inl rfl | exact .inr rfl) : B3 X A Γ σ (.Assign [.Name x pos'] e pos :: rest) D := fun H ok g =>
  b_cons (Es.of (ps_set hN hi hx (evPE e) hs hf) (h H _ ok g fun v r H' x q => k v r H' x.ok ⟨Γ.mono x.same g, q⟩))
theorem b_retM {ρ : Type} {A2 : ρ → Own} {A0 : Own} {G0 : Hp} {P : ρ → V → Pr} (hq : PostM A2 A0 G0 P D.rt) (r : ρ) (hA : A = A2 r ++ A0) (h : E3 X A Γ σ e R) (hp : ∀ v, (pAnd Γ (R v)).le (P r v)) (hs : Γ.le (pSame G0)) : B3 X A Γ σ (.Return (some e) pos :: rest) D := fun H ok g => by
  subst hA
  exact b_cons (Es.of (ps_ret (evPE e)) (h H _ ok g fun v H' x q => hq v r H' x.ok (hs _ (Γ.mono x.same g)) (hp v _ ⟨Γ.mono x.same g, q⟩)))
theorem fd_mkM {δ ρ : Type} {A1 : δ → Own} {A2 : ρ → Own} {pre : δ → List V → Pr} {post : δ → ρ → V → Pr} {P : Program} {w : World} {K : PySem.W.Frag} {mg : Str → Option Value} {base : Heap} {x : Str} {params : Arguments} {body : List Stmt} {scope : Scope} {f : Addr} {fd : FuncData} {k : Nat} {N ps : List Str}
    (F : FunD K x x params body scope [] [] f fd) (gm : mg x = some (.ref f)) (S : FnScope N ps scope)
    (nb : ∀ (kV doc pm : Value) (an : Option Addr) (cdv ct : Value) (us : List Value), us.length = ps.length → bindArgs (PySem.W.fnOf x x params body scope .none kV doc pm an cdv ct) ⟨us, []⟩ = pure (ps.zip us))
    (hl : ∀ d vs G, (pre d vs).holds G → vs.length = ps.length)
    (hb : ∀ (cdv : Value) (Ar : Around) (outer : List Env) (s : Shared) (H : Hp) (vs : List V) (d : δ) (A : Own) (G0 : Hp) (D : Ends), Room k (Ar.deeper (PyProof.Rows.envOfC x scope s.heap.objs.size f cdv)) → PostM A2 A G0 (post d) D.rt → (∀ σ H', D.nx σ H' = D.rt .non H') →
      B3 (cxOf CX0 P w K mg base N x scope f cdv Ar outer s H E0).nox (A1 d ++ A) (pAnd (pSame G0) (pre d vs)) (start N vs) body D) : Fd P w K mg base x (k + 1) (spM A1 A2 pre post) := by
  refine ⟨f, fd, ps, ?_, gm, F.kp, F.bindsN nb⟩
  refine F.ok S (fun vs H Q E ⟨d, A, ok, h, _⟩ => hl d vs _ h) fun cdv Ar outer s H vs Q E hr ⟨d, A, ok, h, q⟩ => ⟨_, (essPSs (X := (cxOf CX0 P w K mg base N x scope f cdv Ar outer s H E).nox) body).nox, ?_⟩
  refine hb cdv Ar outer s H vs d A (hide (A1 d ++ A) H) { nx := fun _ H' => Q .non H', rt := Q } hr (fun v r H' ok' sm z => q v r H' ⟨ok', sm⟩ z) (fun _ _ => rfl) H ok ⟨L2.Same.refl _, h⟩
theorem puts_id {κ β : Type} [DecidableEq κ] : ∀ (d acc : List (κ × β)), (keysD (acc ++ d)).Nodup → putsD (·.1) (·.2) acc d = acc ++ d
  | [], acc, _ => by rw [List.append_nil]; rfl
  | p :: d, acc, h => by
    show putsD _ _ (putD acc p.1 p.2) d = _
    have hn : p.1 ∉ keysD acc := by
      unfold keysD at h
      rw [List.map_append, List.map_cons] at h
      exact fun z => (List.nodup_append.mp h).2.2 _ z _ (List.mem_cons_self ..) rfl
    rw [putD_out hn]
    have e : acc ++ p :: d = (acc ++ [(p.1, p.2)]) ++ d := by simp
    rw [puts_id d (acc ++ [(p.1, p.2)]) (by rw [← e]; exact h), ← e]
theorem merge_kvs {κ β : Type} [DecidableEq κ] {ι : κ → Key} {f : β → V} (hι : ∀ a b, ι a = ι b → a = b) {d : List (κ × β)} (hn : (keysD d).Nodup) : mergeK [] (kvs ι f d) = kvs ι f d := by
  have h := kvs_puts (f := f) hι (fun p : κ × β => p.1) (fun p => p.2) d []
  rw [puts_id d [] (by simpa using hn)] at h
  rw [List.nil_append] at h
  refine Eq.trans ?_ h
  unfold mergeK putAll kvs
  rw [List.foldl_map]
  rfl
/-- {**d, k: v} -/
theorem f_dstar {κ β : Type} [DecidableEq κ] {ι : κ → Key} {f : β → V} {d : List (κ × β)} {k : κ} {x : β} (hι : ∀ a b, ι a = ι b → a = b) (hn : (keysD d).Nodup) (hl : d.length < sizeLine) (hd : ∀ q : Addr × HO, E3 X (q :: A) Γ σ a (RD (kvs ι f d))) (hk : ∀ q q' : Addr × HO, E3 X (q :: q' :: A) Γ σ b (RV (kV (ι k)))) (hv : ∀ q q' : Addr × HO, E3 X (q :: q' :: A) Γ σ c (RV (f x))) :
    F3 X A Γ σ (.Dict [none, some b] [a, c] pos) (fun o => pP (o = .dK (kvs ι f (putD d k x)))) := by
  intro H Q ok g kk
  refine Ev.of (pe_dstar (evPE a) (evPE b) (evPE c)) ?_
  intro D hD
  have n0 := New.laid (Ext.refl ok) hD (.dK [])
  refine hd (D, .dK []) _ _ n0.ok1 (Γ.mono n0.same g) fun v H1 x1 r1 => ?_
  obtain ⟨a', rfl, ha⟩ := r1
  obtain ⟨ha1, ha2⟩ := hide_of ha
  have hne : a' ≠ D := fun z => ha2 (List.mem_cons.mpr (.inl z))
  refine ⟨a', _, rfl, hne, ha1, x1.ok.at_ _ (List.mem_cons_self ..), by rw [kvs_len]; exact hl, fun bb hb hbD => ?_⟩
  rw [merge_kvs hι hn] at hb ⊢
  obtain ⟨o1, e1, _⟩ := own_put (A1 := []) (o' := .dK (kvs ι f d)) x1.ok
  have o1 : Own.Ok ((D, .dK (kvs ι f d)) :: A) (upd H1 D (.dK (kvs ι f d))) := o1
  have e1 : hide ((D, .dK (kvs ι f d)) :: A) (upd H1 D (.dK (kvs ι f d))) = hide ((D, .dK []) :: A) H1 := e1
  have n1 := New.laid (Ext.refl o1) hb (.dK [])
  have sm1 : L2.Same (hide A H) (hide ((bb, .dK []) :: (D, .dK (kvs ι f d)) :: A) (upd (upd H1 D (.dK (kvs ι f d))) bb (.dK []))) := by
    refine L2.Same.trans ?_ n1.same
    rw [e1]
    exact n0.same.trans x1.same
  refine hk _ _ _ _ n1.ok1 (Γ.mono sm1 g) fun y H2 x2 r2 => ?_
  cases (show y = kV (ι k) from r2)
  refine hv _ _ _ _ x2.ok (Γ.mono (sm1.trans x2.same) g) fun z H3 x3 r3 => ?_
  cases (show z = f x from r3)
  refine ⟨ι k, rfl, x3.ok.at_ _ (List.mem_cons_of_mem _ (List.mem_cons_self ..)), x3.ok.at_ _ (List.mem_cons_self ..), ?_⟩
  have es : mergeK [] [(ι k, f x)] = [(ι k, f x)] := rfl
  have ef : mergeK (kvs ι f d) [(ι k, f x)] = kvs ι f (putD d k x) := kvs_put hι d k x
  rw [es, ef]
  obtain ⟨o4, e4, _⟩ := own_put (A1 := []) (o' := .dK [(ι k, f x)]) x3.ok
  obtain ⟨o5, e5, _⟩ := own_put (A1 := [(bb, .dK [(ι k, f x)])]) (o' := .dK (kvs ι f (putD d k x))) o4
  have o6 := own_app (B := [(bb, .dK [(ι k, f x)])]) o5
  have sm5 : L2.Same (hide A H) (hide ((D, .dK (kvs ι f (putD d k x))) :: A) (upd (upd H3 bb (.dK [(ι k, f x)])) D (.dK (kvs ι f (putD d k x))))) := by
    refine L2.Same.trans ?_ (hide_app (B := [(bb, .dK [(ι k, f x)])]))
    rw [e5]
    have e4' : hide ([(bb, .dK [(ι k, f x)])] ++ (D, .dK (kvs ι f d)) :: A) (upd H3 bb (.dK [(ι k, f x)])) = hide ((bb, .dK []) :: (D, .dK (kvs ι f d)) :: A) H3 := e4
    rw [e4']
    exact (sm1.trans x2.same).trans x3.same
  refine kk D _ _ ⟨upd_same, n0.out, n0.was, ?_, sm5⟩ rfl
  exact (own_app (B := [(D, .dK (kvs ι f (putD d k x)))]) o6.1).1
end
end Pm
/-! Pm15 -/
set_option maxHeartbeats 2000000
/-! Pm15: tuples of plain values, defs of five arguments. -/
namespace Pm
open PySem PySem.Spec L2
section
variable {X : Cx} {A B : Own} {Γ Δ S : Pr} {σ : L2.St} {a b c e o : Expr} {R Ra Rb Rc : V → Pr} {pos apos cpos : Pos} {tg : Expr} {P : List V → Pr} {rest : List Stmt} {D : Ends}
theorem av_nil : A3 X A Γ σ [] (fun ws => pP (ws = [])) := a_nil
theorem av_cons {es : List Expr} {v : V} {vs : List V} (h : E3 X A Γ σ e (RV v)) (hr : A3 X A Γ σ es (fun ws => pP (ws = vs))) (hs : starEach (e :: es) X.env = (false, eval e X.env) :: starEach es X.env := by rfl) : A3 X A Γ σ (e :: es) (fun ws => pP (ws = v :: vs)) :=
  fun H Q ok g k pos pins s I => a_cons h hr hs H Q ok g (fun ws H' x ⟨u, r, e1, e2, e3⟩ => k ws H' x (by cases (show u = v from e2); cases (show r = vs from e3); exact e1)) pos pins s I
/-- a tuple of plain values -/
theorem e_tupP {es : List Expr} {vs : List V} {kk} (h : A3 X A Γ σ es (fun ws => pP (ws = vs))) (hl : vs.length ≤ 1000) : E3 X A Γ σ (.Tuple es kk pos) (RP vs) := (f_tup h (fun ws G e => by cases (show ws = vs from e); exact hl)).v.imp fun v G ⟨_, p, o, e, ho, ws, eo, ew⟩ => by
  have ew : ws = vs := ew
  have eo : o = .tup ws := eo
  subst ew eo
  exact ⟨p, e, ho⟩
theorem pc5 {R1 R2 R3 R4 R5 : V → Pr} {vs : List V} {G : Hp} (h : (PC R1 (PC R2 (PC R3 (PC R4 (PC R5 PN)))) vs).holds G) : ∃ v1 v2 v3 v4 v5, vs = [v1, v2, v3, v4, v5] ∧ (R1 v1).holds G ∧ (R2 v2).holds G ∧ (R3 v3).holds G ∧ (R4 v4).holds G ∧ (R5 v5).holds G := by
  obtain ⟨v, r, e1, rv, h2⟩ := h
  obtain ⟨w, r', e2, rw, h3⟩ := h2
  cases e2
  obtain ⟨u, x, y, e3, r1, r2, r3⟩ := pc3 h3
  cases e3
  exact ⟨v, w, u, x, y, e1, rv, rw, r1, r2, r3⟩
theorem in5 {N : List Str} {vs : List V} {blk : List Stmt} {R1 R2 R3 R4 R5 : V → Pr} (h : ∀ v1 v2 v3 v4 v5, B3 X A (pAnd (pAnd (pAnd (pAnd (pAnd S (R1 v1)) (R2 v2)) (R3 v3)) (R4 v4)) (R5 v5)) (start N [v1, v2, v3, v4, v5]) blk D) : B3 X A (pAnd S (PC R1 (PC R2 (PC R3 (PC R4 (PC R5 PN)))) vs)) (start N vs) blk D := fun H ok ⟨g, z⟩ => by
  obtain ⟨v1, v2, v3, v4, v5, rfl, r1, r2, r3, r4, r5⟩ := pc5 z
  exact h _ _ _ _ _ H ok ⟨⟨⟨⟨⟨g, r1⟩, r2⟩, r3⟩, r4⟩, r5⟩
theorem len5 {R1 R2 R3 R4 R5 : V → Pr} {vs : List V} {G : Hp} {a b c d e : Str} (h : (PC R1 (PC R2 (PC R3 (PC R4 (PC R5 PN)))) vs).holds G) : vs.length = [a, b, c, d, e].length := by obtain ⟨v1, v2, v3, v4, v5, rfl, _⟩ := pc5 h; rfl
/-- the facts ahead of the arguments are put first -/
theorem pre_swap {p q r : Pr} {blk : List Stmt} (h : B3 X A (pAnd (pAnd p q) r) σ blk D) : B3 X A (pAnd p (pAnd q r)) σ blk D := h.pre fun G z => ⟨⟨z.1, z.2.1⟩, z.2.2⟩
end
end Pm
/-! Pm16 -/
set_option maxHeartbeats 2000000
/-! Pm16: a, b = x, y. -/
namespace Pm
open PySem PySem.Spec L2
theorem ol_nil {α : Type} {T : α → V → Pr} {o : HO} {G : Hp} (h : (OL T [] o).holds G) : o = .lst [] := by
  obtain ⟨vs, e, r⟩ := h
  have e : o = .lst vs := e
  have := pAll_len r
  rw [List.length_nil] at this
  rw [e, List.length_eq_zero_iff.mp this.symm]
section
variable {X : Cx} {A B : Own} {Γ Δ S : Pr} {σ : L2.St} {a b c e o : Expr} {R Ra Rb Rc : V → Pr} {pos apos cpos : Pos} {tg : Expr} {P : List V → Pr} {rest : List Stmt} {D : Ends}
theorem Ev.mono {H : Hp} {Q Q' : VK} (h : Ev X e σ H Q) (k : ∀ v H', Q v H' → Q' v H') : Ev X e σ H Q' := fun pins s I => thn (h pins s I) fun u s1 ⟨x, H1, I1, r, q⟩ => ⟨x, H1, I1, r, k _ _ q⟩
theorem ea_two {H : Hp} {Q : List V → Hp → Prop} (h : Ev X a σ H fun v H1 => Ev X b σ H1 fun w H2 => Q [v, w] H2) (h1 : starEach [a, b] X.env = (false, eval a X.env) :: starEach [b] X.env := by rfl) (h2 : one1 X b := by rfl) : Ea X [a, b] σ H Q := fun pos pins s I =>
  (pa_cons (evPE a) (pa_cons (evPE b) pa_nil h2) h1).run pos pins s σ H Q I h
/-- two names at once -/
structure Par2 (X : Cx) (i j : Nat) (x y : Str) (px py pt : Pos) (kt : Nat) (k2 : Nat) (pt2 pos : Pos) (a b : Expr) : Prop where
  hij : i ≠ j
  hi : X.N[i]? = some x
  hj : X.N[j]? = some y
  hx : X.env.scope.names.lookup x = some .local
  hy : X.env.scope.names.lookup y = some .local
  hc : X.calm = true
  hw : swappedStores [.Tuple [.Name x px, .Name y py] kt pt] (.Tuple [a, b] k2 pt2) X.env = pure (some [x, y])
  hs : swapsWithSole [.Tuple [.Name x px, .Name y py] kt pt] (.Tuple [a, b] k2 pt2) pos.line X.env = pure false
  h1 : starEach [a, b] X.env = (false, eval a X.env) :: starEach [b] X.env
  h2 : one1 X b
theorem b_par (i j : Nat) {x y : Str} {px py pt pt2 : Pos} {kt k2 : Nat} (h : ∀ H, A.Ok H → Γ.holds (hide A H) → Ev X a σ H fun v H1 => Ev X b σ H1 fun w H2 => Ess X rest D ((σ.set i (some v)).set j (some w)) H2) (hN : X.N.Nodup := by assumption)
    (p : Par2 X i j x y px py pt kt k2 pt2 pos a b := by exact ⟨by decide, rfl, rfl, rfl, rfl, rfl, rfl, rfl, rfl, rfl⟩) : B3 X A Γ σ (.Assign [.Tuple [.Name x px, .Name y py] kt pt] (.Tuple [a, b] k2 pt2) pos :: rest) D := fun H ok g =>
  b_cons (Es.of (ps_par p.hc hN p.hi p.hj p.hij p.hx p.hy (eaPA [a, b]) p.hw p.hs) (ea_two ((h H ok g).mono fun v H1 q => q.mono fun w H2 q2 => ⟨v, w, rfl, q2⟩) p.h1 p.h2))
theorem b_parFF (i j : Nat) {x y : Str} {px py pt pt2 : Pos} {kt k2 : Nat} {Ra Rb : HO → Pr} (ha : F3 X A Γ σ a Ra) (hb : ∀ q : Addr × HO, F3 X (q :: A) Γ σ b Rb) (k : ∀ p o q o', B3 X ((q, o') :: (p, o) :: A) (pAnd (pAnd Γ (Ra o)) (Rb o')) ((σ.set i (some (.ref p))).set j (some (.ref q))) rest D) (hN : X.N.Nodup := by assumption)
    (p : Par2 X i j x y px py pt kt k2 pt2 pos a b := by exact ⟨by decide, rfl, rfl, rfl, rfl, rfl, rfl, rfl, rfl, rfl⟩) : B3 X A Γ σ (.Assign [.Tuple [.Name x px, .Name y py] kt pt] (.Tuple [a, b] k2 pt2) pos :: rest) D :=
  b_par i j (fun H ok g => ha H _ ok g fun p o H1 n r => hb (p, o) H1 _ n.ok1 (Γ.mono n.same g) fun q o' H2 n2 r2 => k p o q o' H2 n2.ok1 ⟨⟨Γ.mono (n.same.trans n2.same) g, (Ra o).mono n2.same r⟩, r2⟩) hN p
theorem b_parEE (i j : Nat) {x y : Str} {px py pt pt2 : Pos} {kt k2 : Nat} (ha : E3 X A Γ σ a Ra) (hb : E3 X A Γ σ b Rb) (k : ∀ v w, B3 X A (pAnd (pAnd Γ (Ra v)) (Rb w)) ((σ.set i (some v)).set j (some w)) rest D) (hN : X.N.Nodup := by assumption)
    (p : Par2 X i j x y px py pt kt k2 pt2 pos a b := by exact ⟨by decide, rfl, rfl, rfl, rfl, rfl, rfl, rfl, rfl, rfl⟩) : B3 X A Γ σ (.Assign [.Tuple [.Name x px, .Name y py] kt pt] (.Tuple [a, b] k2 pt2) pos :: rest) D :=
  b_par i j (fun H ok g => ha H _ ok g fun v H1 x1 r => hb H1 _ x1.ok (Γ.mono x1.same g) fun w H2 x2 r2 => k v w H2 x2.ok ⟨⟨Γ.mono (x1.same.trans x2.same) g, (Ra v).mono x2.same r⟩, r2⟩) hN p
theorem b_parFE (i j : Nat) {x y : Str} {px py pt pt2 : Pos} {kt k2 : Nat} {Ra : HO → Pr} (ha : F3 X A Γ σ a Ra) (hb : ∀ q : Addr × HO, E3 X (q :: A) Γ σ b Rb) (k : ∀ p o w, B3 X ((p, o) :: A) (pAnd (pAnd Γ (Ra o)) (Rb w)) ((σ.set i (some (.ref p))).set j (some w)) rest D) (hN : X.N.Nodup := by assumption)
    (p : Par2 X i j x y px py pt kt k2 pt2 pos a b := by exact ⟨by decide, rfl, rfl, rfl, rfl, rfl, rfl, rfl, rfl, rfl⟩) : B3 X A Γ σ (.Assign [.Tuple [.Name x px, .Name y py] kt pt] (.Tuple [a, b] k2 pt2) pos :: rest) D :=
  b_par i j (fun H ok g => ha H _ ok g fun p o H1 n r => hb (p, o) H1 _ n.ok1 (Γ.mono n.same g) fun w H2 x2 r2 => k p o w H2 x2.ok ⟨⟨Γ.mono (n.same.trans x2.same) g, (Ra o).mono x2.same r⟩, r2⟩) hN p
theorem b_parEM (i j : Nat) {ρ : Type} {A' : ρ → Own} {Rb : ρ → V → Pr} {x y : Str} {px py pt pt2 : Pos} {kt k2 : Nat} (ha : E3 X A Γ σ a Ra) (hb : M3 X A Γ σ b A' Rb) (k : ∀ v r w, B3 X (A' r) (pAnd (pAnd Γ (Ra v)) (Rb r w)) ((σ.set i (some v)).set j (some w)) rest D) (hN : X.N.Nodup := by assumption)
    (p : Par2 X i j x y px py pt kt k2 pt2 pos a b := by exact ⟨by decide, rfl, rfl, rfl, rfl, rfl, rfl, rfl, rfl, rfl⟩) : B3 X A Γ σ (.Assign [.Tuple [.Name x px, .Name y py] kt pt] (.Tuple [a, b] k2 pt2) pos :: rest) D :=
  b_par i j (fun H ok g => ha H _ ok g fun v H1 x1 r => hb H1 _ x1.ok (Γ.mono x1.same g) fun w q H2 x2 r2 => k v q w H2 x2.ok ⟨⟨Γ.mono (x1.same.trans x2.same) g, (Ra v).mono x2.same r⟩, r2⟩) hN p
/-- 1 << n -/
theorem e_pow2 {n : Nat} {kk : Nat} {p1 : Pos} (hb : E3 X A Γ σ b (RI n)) (hn : n ≤ 1000000) : E3 X A Γ σ (.BinOp (.Constant (.int 1) kk p1) .LShift b pos) (RI ((2 ^ n : Nat) : Int)) := (e_shl e_int hb ⟨by omega, by omega, by decide⟩).imp fun v G z => by
  have z2 : v = .int (1 * 2 ^ (n : Int).toNat) := z.2
  rw [z2, Int.toNat_natCast, Int.one_mul]
  show V.int _ = V.int _
  congr 1
theorem i_rangeN {m : Nat} {p : Pos} (hm : X.mg "range" = none) (h : E3 X A Γ σ e (RI m)) (h2 : m < 2 ^ 62) (hg : Gl X "range" := by rfl) (hs : starEach [e] X.env = [(false, eval e X.env)] := by rfl) :
    I3 X A Γ σ tg (.Call (.Name "range" p) [e] [] pos) (List.range m) (fun (k : Nat) => RI k) := i_range (j := m) hm h (by omega) (by omega) hg hs
/-- two owned objects change places -/
theorem B3.swap {p q : Addr × HO} {blk : List Stmt} (h : B3 X (p :: q :: A) Γ σ blk D) : B3 X (q :: p :: A) Γ σ blk D := fun H ok g => by
  have e : hide (p :: q :: A) H = hide (q :: p :: A) H := by
    funext b
    unfold hide
    have : (b ∈ dom (p :: q :: A)) = (b ∈ dom (q :: p :: A)) := by
      unfold dom
      simp only [List.map_cons, List.mem_cons]
      exact propext ⟨fun z => by rcases z with z | z | z <;> simp [z], fun z => by rcases z with z | z | z <;> simp [z]⟩
    simp only [this]
  refine h H ⟨fun r hr => ok.at_ r (by rcases List.mem_cons.mp hr with z | z; exact List.mem_cons_of_mem _ (List.mem_cons.mpr (.inl z)); rcases List.mem_cons.mp z with z | z; exact List.mem_cons.mpr (.inl z); exact List.mem_cons_of_mem _ (List.mem_cons_of_mem _ z)), ?_⟩ (by rw [e]; exact g)
  have n := ok.nd
  unfold dom at n ⊢
  simp only [List.map_cons, List.nodup_cons, List.mem_cons, not_or] at n ⊢
  exact ⟨⟨fun z => n.1.1 z.symm, n.2.1⟩, n.1.2, n.2.2⟩
end
end Pm
/-! Kd -/
set_option maxHeartbeats 2000000
/-! Kd: a dict whose keys are tuples of pairs (text, truth), by the kit's nested keys: {} and setdefault. -/
namespace L2
open PySem PySem.Spec PyProof.Rows
/-- the key of such a tuple -/
def litKey (l : Str × Bool) : NestedKey := .tup [.text l.1, .num (if l.2 = true then 1 else 0)]
def clKey (c : List (Str × Bool)) : NestedKey := .tup (c.map litKey)
theorem litKey_inj {l m : Str × Bool} (h : litKey l = litKey m) : l = m := by
  obtain ⟨a, b⟩ := l
  obtain ⟨c, d⟩ := m
  unfold litKey at h
  injection h with h
  injection h with h1 h2
  injection h2 with h2 _
  injection h1 with h1
  injection h2 with h2
  dsimp only at h1 h2
  subst h1
  cases b <;> cases d <;> simp_all
theorem map_litKey_inj : ∀ {c e : List (Str × Bool)}, c.map litKey = e.map litKey → c = e
  | [], [], _ => rfl
  | [], _ :: _, h => by cases h
  | _ :: _, [], h => by cases h
  | l :: c, m :: e, h => by
    injection h with h1 h2
    rw [litKey_inj h1, map_litKey_inj h2]
theorem clKey_inj {c e : List (Str × Bool)} (h : clKey c = clKey e) : c = e := by
  unfold clKey at h
  injection h with h
  exact map_litKey_inj h
abbrev Ks := List (List (Str × Bool) × Addr × Nat)
/-- what stands at d, by its own object alone -/
def rawN (P : Program) (w : World) (d : Addr) (xs : Ks) (h : Heap) : Prop := (d == sysModules) = false ∧ ∃ o es ep, ∃ ys : List (NestedKey × Addr × Value), h.get? d = some o ∧ o.ExactDict ∧ o.data = .dict es ep ∧ es.toList = ys.map (entryOfKey (nestedKind P w)) ∧
  Paired (fun (x : List (Str × Bool) × Addr × Nat) (y : NestedKey × Addr × Value) => y.1 = clKey x.1 ∧ y.2.1 = x.2.1 ∧ RelV (.int x.2.2) y.2.2) xs ys ∧ (xs.map (·.1)).Nodup
def NestD (P : Program) (w : World) (d : Addr) (xs : Ks) : HO := .ext (rawN P w d xs)
theorem rawN_ok {P : Program} {w : World} {d : Addr} {xs : Ks} {H : Hp} {h : Heap} (r : rawN P w d xs h) : ObjOk P w H h d (NestD P w d xs) := by
  obtain ⟨z, o, es, ep, ys, ho, r2⟩ := r
  refine ⟨⟨z, o, es, ep, ys, ho, r2⟩, ⟨o, ho⟩, fun h1 h2 p k => ?_⟩
  obtain ⟨z, o, es, ep, ys, ho, r⟩ := p
  exact ⟨z, o, es, ep, ys, k o ho, r⟩
/-- the tuple of pairs at b -/
def KeyAt (H : Hp) (b : Addr) (c : List (Str × Bool)) : Prop := ∃ ps : List Addr, H b = some (.tup (ps.map V.ref)) ∧ Paired (fun (l : Str × Bool) (t : Addr) => H t = some (.tup [.str l.1, .bl l.2])) c ps
section
variable {X : Cx}
theorem nested_lits {pins : List (Addr × Obj)} {σ : St} {H : Hp} {s : Shared} (I : Inv X pins σ H s) : ∀ {c : List (Str × Bool)} {ps : List Addr} {us : List Value}, Paired (fun (l : Str × Bool) (t : Addr) => H t = some (.tup [.str l.1, .bl l.2])) c ps → Vals (ps.map V.ref) us → NestedAll s.heap (c.map litKey) us
  | [], _, _, h, r => by
    cases h
    cases r
    exact .nil
  | l :: c, _, _, h, r => by
    cases h with
    | cons h1 h2 =>
      cases r with
      | cons r1 r2 =>
        cases r1
        obtain ⟨_, its, r3, o, ho, hc, n, hd⟩ := I.hok _ _ h1
        obtain ⟨u1, u2, rfl, ri, rj⟩ := vals2 r3
        obtain ⟨t1, rfl⟩ := ri
        cases rj
        exact .cons (.tup ho hc hd (.cons (.text _ _) (.cons (.bool rfl) .nil))) (nested_lits I h2 r2)
theorem depth_lits : ∀ c : List (Str × Bool), NestedKey.depthAll (c.map litKey) ≤ 1
  | [] => by simp [NestedKey.depthAll]
  | l :: c => by
    have := depth_lits c
    simp only [List.map_cons, NestedKey.depthAll, litKey, NestedKey.depth]
    omega
theorem nested_key {pins : List (Addr × Obj)} {σ : St} {H : Hp} {s : Shared} (I : Inv X pins σ H s) {b : Addr} {c : List (Str × Bool)} (h : KeyAt H b c) : (nestedKind X.prog X.w).is s.heap (clKey c) b := by
  obtain ⟨ps, hb, hp⟩ := h
  obtain ⟨_, its, r, o, ho, hc, n, hd⟩ := I.hok _ _ hb
  refine ⟨.tup ho hc hd (by simpa using nested_lits I hp r), ?_⟩
  have := depth_lits c
  unfold clKey
  simp only [NestedKey.depth]
  omega
/-- {}, to be such a dict -/
def tNestNew (P : Program) (w : World) : TE := fun _ H Q => ∀ p, H p = none → Q (.ref p) (upd H p (NestD P w p []))
theorem pe_nestNew {pos : Pos} : PE X (.Dict [] [] pos) (tNestNew X.prog X.w) := ⟨fun pins s σ H Q I h => by
  have hb := I.big
  exact wpAny_Dict_empty ⟨.ref s.heap.objs.size, _, I.laid (a := s.heap.objs.size) (o := NestD X.prog X.w s.heap.objs.size []) (t' := s.toks) (fun _ _ q => Heap.get?_push_of_some _ q) (Nat.le_refl _)
    (rawN_ok ⟨beq_eq_false_iff_ne.mpr (Ne.symm (Nat.ne_of_lt hb)), _, #[], 0, [], Heap.get?_push_size _ rfl, ⟨rfl, rfl, rfl⟩, rfl, rfl, .nil, List.nodup_nil⟩), rfl, h _ (I.hok.fresh (Nat.le_refl _))⟩⟩
theorem nest_at {pins : List (Addr × Obj)} {σ : St} {H : Hp} {s : Shared} {a : Addr} {xs : Ks} (I : Inv X pins σ H s) (d : H a = some (NestD X.prog X.w a xs)) :
    s.TypeIs (.ref a) "dict" ∧ (∀ b, Value.ref a = .ref b → ∃ ob, s.heap.get? b = some ob ∧ ob.dict = none) ∧ (a == sysModules) = false := by
  obtain ⟨⟨z, o, es, ep, ys, ho, he, r⟩, _⟩ := I.hok a _ d
  refine ⟨⟨o, ho, he.1⟩, fun b q => ?_, z⟩
  cases q
  exact ⟨o, ho, he.2.1⟩
def atNest (xs : Ks) (c : List (Str × Bool)) : Option Nat := (xs.find? fun x => decide (x.1 = c)).map (·.2.2)
theorem atKey_pair {xs : Ks} {ys : List (NestedKey × Addr × Value)} {c : List (Str × Bool)} (h : Paired (fun (x : List (Str × Bool) × Addr × Nat) (y : NestedKey × Addr × Value) => y.1 = clKey x.1 ∧ y.2.1 = x.2.1 ∧ RelV (.int x.2.2) y.2.2) xs ys) :
    (∀ p, atKey ys (clKey c) = some p → ∃ n, atNest xs c = some n ∧ RelV (.int n) p.2) ∧ (atKey ys (clKey c) = none → atNest xs c = none) := by
  induction h with
  | nil => exact ⟨fun p hp => absurd (show (none : Option (Addr × Value)) = some p from hp) (by simp), fun _ => rfl⟩
  | @cons x y xs ys h1 h2 ih =>
    unfold atKey atNest
    rw [List.find?_cons, List.find?_cons]
    by_cases e : x.1 = c
    · have e2 : y.1 = clKey c := by rw [h1.1, e]
      simp only [e, e2, decide_true]
      exact ⟨fun p hp => ⟨x.2.2, rfl, by cases hp; exact h1.2.2⟩, fun z => by cases z⟩
    · have e2 : ¬ y.1 = clKey c := fun z => e (clKey_inj (by rw [← h1.1, z]))
      simp only [e, e2, decide_false]
      exact ih
/-- d.setdefault(k, n) -/
def tNestSet (P : Program) (w : World) (td ty tx : TE) : TE := fun σ H Q => td σ H fun x H1 => ∃ a, x = .ref a ∧ (∃ xs, H1 a = some (NestD P w a xs)) ∧ ty σ H1 fun y H2 => tx σ H2 fun z H3 => ∃ (xs : Ks) (b : Addr) (c : List (Str × Bool)) (n : Nat), H3 a = some (NestD P w a xs) ∧ y = .ref b ∧ z = .int n ∧
  KeyAt H3 b c ∧ (∀ x ∈ xs, KeyAt H3 x.2.1 x.1) ∧ xs.length < sizeLine ∧ (∀ m, atNest xs c = some m → Q (.int m) H3) ∧ (atNest xs c = none → Q (.int n) (upd H3 a (NestD P w a (xs ++ [(c, b, n)]))))
theorem pe_nestSet {o e f : Expr} {td ty tx : TE} {apos cpos : Pos} (hu : X.A.units + 64 < cLine) (ho : PE X o td) (he : PE X e ty) (hf : PE X f tx) (m : M2 X o "setdefault" apos e f cpos) : PE X (.Call (.Attribute o "setdefault" apos) [e, f] [] cpos) (tNestSet X.prog X.w td ty tx) := by
  refine ⟨fun pins s σ H Q I h => ?_⟩
  refine wpAny_Call_method m.base m.few m.line PySem.F.plainAttrs_dict PySem.F.slot_dict_setdefault PySem.F.type_dict_setdefault (thn (ho.run pins s σ H _ I h) fun u s1 ⟨x, H1, I1, rx, a, ex, ⟨xs0, d⟩, q1⟩ => ?_)
  subst ex
  obtain rfl : u = Value.ref a := rx
  obtain ⟨t1, t2, _⟩ := nest_at I1 d
  refine ⟨t1, t2, ?_⟩
  rw [m.trees]
  refine Calls.callWith_builtin rfl (Calls.evalArgs_plain (Calls.spliced_cons (thn (he.run pins s1 σ H1 _ I1 q1) fun iv s2 ⟨y, H2, I2, ry, q2⟩ =>
    Calls.spliced_cons (thn (hf.run pins s2 σ H2 _ I2 q2) fun fv s3 ⟨z, H3, I3, rz, xs, b, c, n, ea, ey, ez, kb, kxs, hl, q3, q4⟩ => Calls.spliced_nil ?_))))
  subst ey ez
  obtain rfl : iv = Value.ref b := ry
  obtain ⟨⟨zs, ob, es, ep, ys, hob, hex, hdat, hes, hp, hnd⟩, _⟩ := I3.hok a _ ea
  have hkeys : ∀ x ∈ ys, (nestedKind X.prog X.w).is s3.heap x.1 x.2.1 := by
    intro y hy
    have : ∀ {xs : Ks} {ys : List (NestedKey × Addr × Value)}, Paired (fun (x : List (Str × Bool) × Addr × Nat) (y : NestedKey × Addr × Value) => y.1 = clKey x.1 ∧ y.2.1 = x.2.1 ∧ RelV (.int x.2.2) y.2.2) xs ys → ∀ y ∈ ys, ∃ x ∈ xs, y.1 = clKey x.1 ∧ y.2.1 = x.2.1 := by
      intro xs ys h
      induction h with
      | nil => intro y hy; cases hy
      | @cons x y xs ys h1 h2 ih =>
        intro y' hy'
        rcases List.mem_cons.mp hy' with e | hy'
        · subst e
          exact ⟨x, List.mem_cons_self .., h1.1, h1.2.1⟩
        · obtain ⟨x', hx', r⟩ := ih y' hy'
          exact ⟨x', List.mem_cons_of_mem _ hx', r⟩
    obtain ⟨x, hx, e1, e2⟩ := this hp y hy
    rw [e1, e2]
    exact nested_key I3 (kxs x hx)
  have hnk : (ys.map (·.1)).Nodup := by
    have : ∀ {xs : Ks} {ys : List (NestedKey × Addr × Value)}, Paired (fun (x : List (Str × Bool) × Addr × Nat) (y : NestedKey × Addr × Value) => y.1 = clKey x.1 ∧ y.2.1 = x.2.1 ∧ RelV (.int x.2.2) y.2.2) xs ys → ys.map (·.1) = (xs.map (·.1)).map clKey := by
      intro xs ys h
      induction h with
      | nil => rfl
      | @cons x y xs ys h1 h2 ih => rw [List.map_cons, List.map_cons, List.map_cons, ih, h1.1]
    rw [this hp]
    exact List.pairwise_map.mpr (hnd.imp fun {a b} z e => z (clKey_inj e))
  have hln : xs.length = ys.length := Paired.length hp
  have hdict : s3.heap.DictOfH (nestedKind X.prog X.w) a ys := ⟨ob, es, ep, hob, hex, hdat, hes, hkeys, hnk⟩
  obtain ⟨ak1, ak2⟩ := atKey_pair (c := c) hp
  refine call_setdefault_heap (knd := nestedKind X.prog X.w) (hsz := by omega) (by show X.A.units + 1 + 8 < cLine; omega) (nested_key I3 kb) zs hdict (fun p hp2 => ?_) (fun hn2 h' hm' hs => ?_)
  · obtain ⟨m', hm', rm⟩ := ak1 p hp2
    exact ⟨.int m', H3, I3.tok _, rm, q3 m' hm'⟩
  · rw [storedH_new hn2] at hm'
    obtain ⟨ob', es', ep', hob', hex', hdat', hes', _, hnd'⟩ := hm'
    have hcn : c ∉ xs.map (·.1) := fun z => by
      obtain ⟨x, hx, e⟩ := List.mem_map.mp z
      have := ak2 hn2
      unfold atNest at this
      rw [Option.map_eq_none_iff, List.find?_eq_none] at this
      exact this x hx (by simp [e])
    have hpair : Paired (fun (x : List (Str × Bool) × Addr × Nat) (y : NestedKey × Addr × Value) => y.1 = clKey x.1 ∧ y.2.1 = x.2.1 ∧ RelV (.int x.2.2) y.2.2) (xs ++ [(c, b, n)]) (ys ++ [(clKey c, b, fv)]) := by
      have : ∀ {xs : Ks} {ys : List (NestedKey × Addr × Value)}, Paired (fun (x : List (Str × Bool) × Addr × Nat) (y : NestedKey × Addr × Value) => y.1 = clKey x.1 ∧ y.2.1 = x.2.1 ∧ RelV (.int x.2.2) y.2.2) xs ys → Paired (fun (x : List (Str × Bool) × Addr × Nat) (y : NestedKey × Addr × Value) => y.1 = clKey x.1 ∧ y.2.1 = x.2.1 ∧ RelV (.int x.2.2) y.2.2) (xs ++ [(c, b, n)]) (ys ++ [(clKey c, b, fv)]) := by
        intro xs ys h
        induction h with
        | nil => exact .cons ⟨rfl, rfl, rz⟩ .nil
        | cons h1 h2 ih => exact .cons h1 ih
      exact this hp
    have hnew : rawN X.prog X.w a (xs ++ [(c, b, n)]) h' := ⟨zs, ob', es', ep', _, hob', hex', hdat', hes', hpair, by
      rw [List.map_append, List.nodup_append]
      exact ⟨hnd, by simp, fun x hx y hy e => by
        simp only [List.map_cons, List.map_nil, List.mem_singleton] at hy
        subst hy
        subst e
        exact hcn hx⟩⟩
    exact ⟨.int n, _, d_write I3 (by rw [ea]; exact True.intro) hs ⟨_, hob'⟩ (rawN_ok hnew), rz, q4 (ak2 hn2)⟩
end
end L2
/-! Pm17 -/
set_option maxHeartbeats 2000000
/-! Pm17: walks downward, displays of one pair, dicts of nested keys, sorted dicts of numbers. -/
namespace Pm
open PySem PySem.Spec L2
/-- the tuple of pairs at b -/
theorem keyAt_same {H H' : Hp} (s : L2.Same H H') {b : Addr} {c : List (Str × Bool)} (h : KeyAt H b c) : KeyAt H' b c := by
  obtain ⟨ps, h1, h2⟩ := h
  refine ⟨ps, s _ _ h1, ?_⟩
  clear h1
  induction h2 with
  | nil => exact .nil
  | cons a _ ih => exact .cons (s _ _ a) ih
def pKs (xs : Ks) : Pr := ⟨fun G => ∀ x ∈ xs, KeyAt G x.2.1 x.1, fun s h x hx => keyAt_same s (h x hx)⟩
theorem rt_key {c : List (Str × Bool)} {v : V} {G : Hp} (h : (RT (RT2 RS RB) c v).holds G) : ∃ b, v = .ref b ∧ KeyAt G b c := by
  obtain ⟨b, vs, e, hv, r⟩ := h
  refine ⟨b, e, ?_⟩
  have : ∀ {c : List (Str × Bool)} {vs : List V}, (pAll (RT2 RS RB) c vs).holds G → ∃ ps : List Addr, vs = ps.map V.ref ∧ Paired (fun (l : Str × Bool) (t : Addr) => G t = some (.tup [.str l.1, .bl l.2])) c ps := by
    intro c
    induction c with
    | nil =>
      intro vs h
      cases vs with
      | nil => exact ⟨[], rfl, .nil⟩
      | cons _ _ => exact h.elim
    | cons l c ih =>
      intro vs h
      cases vs with
      | nil => exact h.elim
      | cons v vs =>
        obtain ⟨h1, h2⟩ := h
        obtain ⟨t, v1, v2, e, ht, r1, r2⟩ := h1
        obtain ⟨ps, e2, hp⟩ := ih h2
        have r1 : v1 = .str l.1 := r1
        have r2 : v2 = .bl l.2 := r2
        have e : v = .ref t := e
        subst r1 r2
        exact ⟨t :: ps, by rw [e, e2]; rfl, .cons ht hp⟩
  obtain ⟨ps, e2, hp⟩ := this r
  have hv : G b = some (.tup vs) := hv
  rw [e2] at hv
  exact ⟨ps, hv, hp⟩
section
variable {X : Cx} {A B : Own} {Γ Δ S : Pr} {σ : L2.St} {a b c e o : Expr} {R Ra Rb Rc : V → Pr} {pos apos cpos : Pos} {tg : Expr} {P : List V → Pr} {rest : List Stmt} {D : Ends}
/-- n - 1, .., 0 -/
theorem i_down {n : Nat} {p : Pos} (hm : X.mg "range" = none) (ha : E3 X A Γ σ a (RI ((n : Int) - 1))) (hb : E3 X A Γ σ b (RI (-1))) (hc : E3 X A Γ σ c (RI (-1))) (hn : n < 2 ^ 62) (hg : Gl X "range" := by rfl)
    (h1 : starEach [a, b, c] X.env = (false, eval a X.env) :: starEach [b, c] X.env := by rfl) (h2 : starEach [b, c] X.env = (false, eval b X.env) :: starEach [c] X.env := by rfl) (h3 : one1 X c := by rfl) (hpl : (backTo pos (starEach [b, c] X.env)).any (·.1) = false := by rfl) :
    I3 X A Γ σ tg (.Call (.Name "range" p) [a, b, c] [] pos) (List.range n).reverse (fun (k : Nat) => RI k) := fun H Q ok g k =>
  Ei.of (pi_range3 hg hm (eaPA [a, b, c]) h1 hpl) (A3.ea (a_cons ha (a_cons hb (a_cons hc a_nil h3) h2) h1) ok g fun vs H1 x1 r => by
    obtain ⟨v1, v2, v3, rfl, r1, r2, r3⟩ := pc3 r
    cases (show v1 = .int ((n : Int) - 1) from r1)
    cases (show v2 = .int (-1) from r2)
    cases (show v3 = .int (-1) from r3)
    have hr := RgC.neg (i := (n : Int) - 1) (j := -1) (by omega) (by omega) (by decide) (by decide)
    have e : ((n : Int) - 1 - -1).toNat = n := by omega
    rw [e] at hr
    refine ⟨_, _, _, n, rfl, hr, k _ pTop H1 x1 (walkT_of (walk_rangeC (lo := (n : Int) - 1) (c := -1) (n := n)) (by rw [List.length_reverse, List.length_range]) (fun _ _ => trivial) fun A i z H x H' hz ok g y => ?_) trivial⟩
    obtain ⟨eH, ex⟩ := y
    subst eH
    have hi := (List.getElem?_eq_some_iff.mp hz).1
    rw [List.length_reverse, List.length_range] at hi
    rw [List.getElem?_reverse (by rw [List.length_range]; exact hi), List.length_range, List.getElem?_range (by omega)] at hz
    cases hz
    refine ⟨Ext.refl ok, ?_⟩
    rw [ex]
    show V.int _ = V.int _
    congr 1
    omega)
/-- {k: v} -/
theorem f_disp1 {k : Key} {v : V} (ha : ∀ q : Addr × HO, E3 X (q :: A) Γ σ a (RV (kV k))) (hb : ∀ q : Addr × HO, E3 X (q :: A) Γ σ b (RV v)) : F3 X A Γ σ (.Dict [some a] [b] pos) (fun o => pP (o = .dK [(k, v)])) := fun H Q ok g kk =>
  Ev.of (pe_disp (pps_cons (evPE a) (evPE b) pps_nil) rfl rfl (by simp) (by show 1 ≤ 15; decide)) fun D hD => by
    have n0 := New.laid (Ext.refl ok) hD (.dK [])
    refine ha (D, .dK []) _ _ n0.ok1 (Γ.mono n0.same g) fun y H1 x1 r1 => hb (D, .dK []) _ _ x1.ok (Γ.mono (n0.same.trans x1.same) g) fun z H2 x2 r2 => ?_
    cases (show y = kV k from r1)
    cases (show z = v from r2)
    refine ⟨x2.ok.at_ _ (List.mem_cons_self ..), [(k, v)], rfl, by show 1 ≤ 15; decide, ?_⟩
    obtain ⟨o1, e1, _⟩ := own_put (A1 := []) (o' := .dK [(k, v)]) x2.ok
    have e1' : hide ((D, .dK [(k, v)]) :: A) (upd H2 D (.dK [(k, v)])) = hide ((D, .dK []) :: A) H2 := e1
    refine kk D (.dK [(k, v)]) _ ⟨upd_same, n0.out, n0.was, (own_app (B := [(D, .dK [(k, v)])]) o1).1, ?_⟩ rfl
    show L2.Same (hide A H) (hide ((D, .dK [(k, v)]) :: A) (upd H2 D (.dK [(k, v)])))
    rw [e1']
    exact (n0.same.trans x1.same).trans x2.same
theorem f_nestNew : F3 X A Γ σ (.Dict [] [] pos) (fun o => pEx fun p => pP (o = NestD X.prog X.w p [])) := fun H Q ok g k => Ev.of pe_nestNew (fun p hp => k p _ _ (New.laid (Ext.refl ok) hp _) ⟨p, rfl⟩)
/-- .. at its own place -/
theorem f_nestNew' : ∀ (H : Hp) (Q : VK), A.Ok H → Γ.holds (hide A H) → (∀ p H', New A H H' p (NestD X.prog X.w p []) → Q (.ref p) H') → Ev X (.Dict [] [] pos) σ H Q := fun H Q ok g k => Ev.of pe_nestNew (fun p hp => k p _ (New.laid (Ext.refl ok) hp _))
/-- d.setdefault(k, n) -/
theorem m_nestSet (A1 : Own) {A2 : Own} {q : Addr} {xs : Ks} {cl : List (Str × Bool)} {n : Nat} (hu : X.A.units + 64 < cLine) (hA : A = A1 ++ (q, NestD X.prog X.w q xs) :: A2) (ho : E3 X A Γ σ o (RV (.ref q))) (he : E3 X A Γ σ e (RT (RT2 RS RB) cl)) (hc : E3 X A Γ σ c (RI n)) (hk : ∀ G, Γ.holds G → (pKs xs).holds G) (hl : xs.length < sizeLine)
    (m : M2 X o "setdefault" apos e c cpos := by exact ⟨rfl, rfl, rfl, rfl⟩) : M3 X A Γ σ (.Call (.Attribute o "setdefault" apos) [e, c] [] cpos) (fun r : Ks × Nat => A1 ++ (q, NestD X.prog X.w q r.1) :: A2)
      (fun r v => pAnd (pP (v = .int r.2 ∧ ((atNest xs cl = some r.2 ∧ r.1 = xs) ∨ (atNest xs cl = none ∧ r.2 = n ∧ ∃ b, r.1 = xs ++ [(cl, b, n)])))) (pKs r.1)) := fun H Q ok g kk => by
  subst hA
  refine Ev.of (pe_nestSet hu (evPE o) (evPE e) (evPE c) m) (ho H _ ok g fun v H1 x1 r1 => ?_)
  cases (show v = .ref q from r1)
  have hm : (q, NestD X.prog X.w q xs) ∈ A1 ++ (q, NestD X.prog X.w q xs) :: A2 := List.mem_append_right _ (List.mem_cons_self ..)
  refine ⟨q, rfl, ⟨xs, x1.ok.at_ _ hm⟩, he H1 _ x1.ok (Γ.mono x1.same g) fun y H2 x2 r2 => hc H2 _ x2.ok (Γ.mono (x1.same.trans x2.same) g) fun z H3 x3 r3 => ?_⟩
  cases (show z = .int n from r3)
  obtain ⟨b, rfl, hb⟩ := rt_key ((RT (RT2 RS RB) cl y).mono x3.same r2)
  have g3 := Γ.mono ((x1.same.trans x2.same).trans x3.same) g
  have hks := hk _ g3
  refine ⟨xs, b, cl, n, x3.ok.at_ _ hm, rfl, rfl, keyAt_same hide_le hb, fun x hx => keyAt_same hide_le (hks x hx), hl, fun m' hm' => ?_, fun hn => ?_⟩
  · exact kk _ (xs, m') H3 ((x1.trans x2).trans x3).chg ⟨⟨rfl, .inl ⟨hm', rfl⟩⟩, hks⟩
  · obtain ⟨o1, o2, o3⟩ := own_put (o' := NestD X.prog X.w q (xs ++ [(cl, b, n)])) x3.ok
    refine kk _ (xs ++ [(cl, b, n)], n) _ ⟨o1, by rw [o2]; exact ((x1.same.trans x2.same).trans x3.same)⟩ ⟨⟨rfl, .inr ⟨hn, rfl, b, rfl⟩⟩, ?_⟩
    show (pKs (xs ++ [(cl, b, n)])).holds _
    rw [o2]
    intro x hx
    rcases List.mem_append.mp hx with hx | hx
    · exact hks x hx
    · rw [List.mem_singleton] at hx
      subst hx
      exact hb
/-- xs.append(e), e changing other things -/
theorem b_apM {ρ : Type} (B1 B2 : ρ → Own) (i : Nat) {p : Addr} {vs : List V} {R : ρ → V → Pr} {x : Str} {xp apos cpos : Pos} {A' : ρ → Own} (h : M3 X A Γ σ e A' R) (hA : ∀ r, A' r = B1 r ++ (p, .lst vs) :: B2 r) (hmem : (p, HO.lst vs) ∈ A) (hl : vs.length < sizeLine) (k : ∀ v r, B3 X (B1 r ++ (p, .lst (vs ++ [v])) :: B2 r) (pAnd Γ (R r v)) σ rest D)
    (hσ : σ[i]? = some (some (.ref p)) := by rfl) (hN : X.N[i]? = some x := by rfl) (hv : Vis X.env.scope x := by first | exact Or.inl rfl | exact Or.inr (Or.inl rfl) | exact Or.inr (Or.inr rfl)) (hd : (x == ("__debug__" : Str)) = false := by decide) (hcd : (x == ("__classdict__" : Str)) = false := by decide)
    (he : starEach [e] X.env = (false, eval e X.env) :: starEach [] X.env := by rfl) (hbase : attributeBase (.Name x xp) "append" X.env (eval (.Name x xp) X.env) = eval (.Name x xp) X.env := by rfl)
    (hfew : ((backTo cpos (starEach [e] X.env)).all (fun x => !x.1) && (backToKw cpos (keywordEach [] X.env)).all (fun x => x.1.isSome) && decide ([e].length + ([] : List Keyword).length + (if ([] : List Keyword).isEmpty then 0 else 1) < 30)) = true := by rfl)
    (hline : (apos.endLine == cpos.line) = true := by rfl) (hplain : (backTo cpos (starEach [] X.env)).any (·.1) = false := by rfl)
    (hs : swapsWith (.Call (.Attribute (.Name x xp) "append" apos) [e] [] cpos) none pos.line X.env = pure false := by rfl) : B3 X A Γ σ (.Expr (.Call (.Attribute (.Name x xp) "append" apos) [e] [] cpos) pos :: rest) D := fun H ok g =>
  b_cons (Es.of (ps_expr (pe_bm F.plainAttrs_list F.slot_list_append F.type_list_append mt_append (evPE _) (pa_cons (evPE e) pa_nil he) hbase hfew hline he hplain) hs) ((e_v i hσ hN hv hd hcd : E3 X A Γ σ (.Name x xp) (RV (.ref p))) H _ ok g fun u H1 x1 r1 => by
    cases (show u = .ref p from r1)
    refine ⟨.inl ⟨rfl, _, SqL.of (x1.ok.at_ _ hmem)⟩, h H1 _ x1.ok (Γ.mono x1.same g) fun v r H2 x2 r2 => ?_⟩
    have ok2 := x2.ok
    have sm2 := x2.same
    rw [hA r] at ok2 sm2 r2
    obtain ⟨o1, o2, o3⟩ := own_put (o' := .lst (vs ++ [v])) ok2
    refine ⟨p, vs, v, rfl, rfl, o3, hl, k v r _ o1 ?_⟩
    rw [o2]
    exact ⟨Γ.mono (x1.same.trans sm2) g, r2⟩))
/-- sorted(d), keys numbers -/
theorem f_sortN {p : Pos} {ks : List Nat} {Pd : List (Key × V) → Pr} (hm : X.mg "sorted" = none) (h : E3 X A Γ σ e Ra) (hs : SeesD A Γ Ra Pd) (hk : ∀ kvs G, Γ.holds G → (Pd kvs).holds G → kvs.map (·.1) = ks.map kN) (hcalm : X.calm = true := by rfl) (hg : Gl X "sorted" := by rfl) (h1 : one1 X e := by rfl) :
    F3 X A Γ σ (.Call (.Name "sorted" p) [e] [] pos) (fun o => pEx fun ns : List Nat => pAnd (pP (ns.Perm ks ∧ ns.Pairwise (· ≤ ·))) (OL (fun n : Nat => RI n) ns o)) := fun H Q ok g k =>
  Ev.of (pe_callB (call_sortedDA hcalm) hg hm (by decide +kernel) (eaPA [e]) (by decide) (by decide) h1 (by rfl)) (A3.ea (a_cons h a_nil h1) ok g fun vs H1 x1 r1 => by
    obtain ⟨v, rfl, rv⟩ := pc1 r1
    obtain ⟨q, kvs, rfl, hd, hp⟩ := hs v H1 x1.ok (Γ.mono x1.same g) rv
    refine ⟨q, kvs, ks.map Int.ofNat, rfl, Rd.of hd, by rw [hk _ _ (Γ.mono x1.same g) hp, List.map_map]; rfl, fun ys l hy ho hl => ?_⟩
    have hnn : ∀ y ∈ ys, 0 ≤ y := fun y hyy => by
      obtain ⟨n, _, rfl⟩ := List.mem_map.mp (hy.mem_iff.mp hyy)
      exact Int.natCast_nonneg n
    have e1 : (ys.map Int.toNat).map (fun n : Nat => (n : Int)) = ys := by
      rw [List.map_map]
      conv => rhs; rw [← List.map_id ys]
      exact List.map_congr_left fun y hyy => Int.toNat_of_nonneg (hnn y hyy)
    have e2 : (ks.map Int.ofNat).map Int.toNat = ks := by
      rw [List.map_map]
      conv => rhs; rw [← List.map_id ks]
      exact List.map_congr_left fun y _ => by simp
    refine k l _ _ (New.laid x1 hl _) ⟨ys.map Int.toNat, ⟨by rw [← e2]; exact hy.map _, List.pairwise_map.mpr (ho.imp_of_mem fun {a b} ha hb z => Int.toNat_le_toNat z)⟩, ys.map V.int, rfl, ?_⟩
    have : ys.map V.int = (ys.map Int.toNat).map (fun n : Nat => V.int n) := by
      conv => lhs; rw [← e1]
      rw [List.map_map]
      rfl
    rw [this]
    exact pAll_of (f := fun n : Nat => V.int n))
end
end Pm
/-! Pm18 -/
set_option maxHeartbeats 2000000
/-! Pm18: list comprehensions with two clauses. -/
namespace Pm
open PySem PySem.Spec L2
section
variable {X : Cx} {A B : Own} {Γ Δ : Pr} {σ : L2.St} {a b c e : Expr} {R Ra Rb Rc : V → Pr} {pos : Pos} {tg : Expr}
/-- two clauses -/
def tiBlk (X : Cx) (scope : Scope) (tg1 iter1 : Expr) : TI := fun σ' H' Q' => ∀ (s : Shared) (H : Hp) (C : Addr) (cl : List (Str × Addr)) (fp : List Addr), Ei (X.blk s H scope (compEnvC scope cl C X.env) fp) tg1 iter1 σ' H' Q'
theorem tiBlk_pi (X : Cx) (scope : Scope) (tg1 iter1 : Expr) : ∀ (s : Shared) (H : Hp) (C : Addr) (cl : List (Str × Addr)) (fp : List Addr), PI (X.blk s H scope (compEnvC scope cl C X.env) fp) tg1 iter1 (tiBlk X scope tg1 iter1) := fun s H C cl fp => ⟨fun pins s' σ' H' Q' I h => h s H C cl fp pins s' I⟩
theorem lc2_sem {β γ δ ω ω1 : Type} {zs : List β} {Rz : β → V → Pr} {Rz1 : γ → V → Pr} {own : List (Str × Nat)} {vs1 : List Nat} {iter elt tg1 iter1 : Expr} {scope : Scope} {g g1 : TG} {stw : ω → L2.St → L2.St} {Γt : β → ω → Pr} {stw1 : ω1 → L2.St → L2.St} {Γt1 : γ → ω1 → Pr} (ys : β → List γ) (f : β → γ → δ) (Ry : δ → V → Pr)
    (hi : I3 X A Γ σ tg iter zs Rz) (ht : TgC X tg scope g Rz stw Γt) (ok : BlkOk X.N X.env.scope scope own) (hv : ∀ i ∈ vs1, i ∈ own.map (·.2))
    (hi1 : ∀ (Gd : Pr) (q : Addr × HO) z w, z ∈ zs → Blk X scope fun Y => I3 Y (q :: A) (pAnd (pAnd Γ Gd) (Γt z w)) (stw w (wipe σ (own.map (·.2)))) tg1 iter1 (ys z) Rz1)
    (ht1 : TgC X tg1 scope g1 Rz1 stw1 Γt1)
    (he : ∀ (Gd : Pr) (q : Addr × HO) z w y w1, z ∈ zs → y ∈ ys z → Blk X scope fun Y => E3 Y (q :: A) (pAnd (pAnd (pAnd Γ Gd) (Γt z w)) (Γt1 y w1)) (stw1 w1 (wipe (stw w (wipe σ (own.map (·.2)))) vs1)) elt (Ry (f z y)))
    (hz : (zs.flatMap fun z => (ys z).map (f z)).length < sizeLine) (hw : ∀ w, wipe (stw w (wipe σ (own.map (·.2)))) (own.map (·.2)) = wipe σ (own.map (·.2)) := by intro _; rfl) (hw1 : ∀ w w1, wipe (stw1 w1 (wipe (stw w (wipe σ (own.map (·.2)))) vs1)) vs1 = wipe (stw w (wipe σ (own.map (·.2)))) vs1 := by intro _ _; rfl)
    (hcalm : X.calm = true := by rfl) (hN : X.N.Nodup := by assumption) (hs : ∀ x, foldedSetIterable iter X.env x = pure x := by intro _; rfl) (hs1 : ∀ env x, foldedSetIterable iter1 env x = pure x := by intro _ _; rfl) : TE3 A Γ σ (tLc2 (Ei X tg iter) g tYes (tiBlk X scope tg1 iter1) g1 tYes (teBlk X scope elt) (own.map (·.2)) vs1) (OL Ry (zs.flatMap fun z => (ys z).map (f z))) := by
  intro H Q okA gm k
  refine hi H _ okA gm fun J Gd H1 x1 wk g1 D hD => ?_
  let Pv : Nat → Hp → Prop := fun i H' => ∃ acc : List V, Own.Ok ((D, .lst acc) :: A) H' ∧ L2.Same (hide A H) (hide ((D, .lst acc) :: A) H') ∧ (pAnd Γ Gd).holds (hide ((D, .lst acc) :: A) H') ∧ (pAll Ry ((zs.take i).flatMap fun z => (ys z).map (f z)) acc).holds (hide ((D, .lst acc) :: A) H')
  refine ⟨fun i m H' => m = zs.length - i ∧ i ≤ zs.length ∧ Pv i H', ⟨zs.length, by simp, Nat.zero_le _, [], ?_⟩, ?_⟩
  · have n := New.laid (A := A) (H := H1) (Ext.refl x1.ok) hD (.lst [])
    exact ⟨n.ok1, x1.same.trans n.same, ⟨Γ.mono (x1.same.trans n.same) gm, Gd.mono n.same g1⟩, trivial⟩
  rintro i m H' ⟨rfl, hle, acc, okD, sm, gg, ga⟩
  by_cases hlt : i < zs.length
  · refine .inr ⟨wk.goes i H' hlt (Gd.mono hide_le gg.2), Pv (i + 1), fun H'' p' => ⟨zs.length - (i + 1), by omega, rfl, hlt, p'⟩, fun x H2 y => ?_⟩
    have hzi := List.getElem?_eq_getElem hlt
    have hmem : zs[i] ∈ zs := List.getElem_mem hlt
    obtain ⟨xt, rz⟩ := wk.yields _ i zs[i] H' x H2 hzi okD gg.2 y
    have gg2 := (pAnd Γ Gd).mono xt.same gg
    have sm2 := sm.trans xt.same
    have etk : (zs.take (i + 1)).flatMap (fun z => (ys z).map (f z)) = (zs.take i).flatMap (fun z => (ys z).map (f z)) ++ (ys zs[i]).map (f zs[i]) := by rw [List.take_succ_eq_append_getElem hlt, List.flatMap_append]; simp
    have hlen : ((zs.take i).flatMap (fun z => (ys z).map (f z)) ++ (ys zs[i]).map (f zs[i])).length < sizeLine := by
      rw [← etk]
      refine Nat.lt_of_le_of_lt ?_ hz
      have e3 : zs.flatMap (fun z => (ys z).map (f z)) = (zs.take (i + 1)).flatMap (fun z => (ys z).map (f z)) ++ (zs.drop (i + 1)).flatMap (fun z => (ys z).map (f z)) := by rw [← List.flatMap_append, List.take_append_drop]
      rw [e3, List.length_append]
      omega
    apply ht.run zs[i] x (wipe σ (own.map (·.2))) ((D, .lst acc) :: A) H2 _ xt.ok rz
    intro w hwt
    refine ⟨hw w, ?_⟩
    dsimp only [tYes]
    rw [if_pos rfl]
    intro s0 H0 C0 cl0 fp0
    refine hi1 Gd (D, .lst acc) zs[i] w hmem s0 H0 C0 cl0 fp0 H2 _ xt.ok ⟨gg2, hwt⟩ fun J1 Gd1 H3 x3 wk1 g3 => ?_
    let P1 : Nat → Hp → Prop := fun j H' => ∃ acc : List V, Own.Ok ((D, .lst acc) :: A) H' ∧ L2.Same (hide A H) (hide ((D, .lst acc) :: A) H') ∧ (pAnd (pAnd (pAnd Γ Gd) (Γt zs[i] w)) Gd1).holds (hide ((D, .lst acc) :: A) H') ∧ (pAll Ry (((zs.take i).flatMap fun z => (ys z).map (f z)) ++ ((ys zs[i]).take j).map (f zs[i])) acc).holds (hide ((D, .lst acc) :: A) H')
    refine ⟨fun j m H' => m = (ys zs[i]).length - j ∧ j ≤ (ys zs[i]).length ∧ P1 j H', ⟨(ys zs[i]).length, by simp, Nat.zero_le _, acc, x3.ok, sm2.trans x3.same, ⟨⟨(pAnd Γ Gd).mono x3.same gg2, (Γt zs[i] w).mono x3.same hwt⟩, g3⟩, by rw [List.take_zero, List.map_nil, List.append_nil]; exact (pAll Ry _ acc).mono (xt.same.trans x3.same) ga⟩, ?_⟩
    rintro j m H4 ⟨rfl, hle1, acc1, okD1, sm4, gg4, ga4⟩
    by_cases hlt1 : j < (ys zs[i]).length
    · refine .inr ⟨wk1.goes j H4 hlt1 (Gd1.mono hide_le gg4.2), P1 (j + 1), fun H'' p' => ⟨(ys zs[i]).length - (j + 1), by omega, rfl, hlt1, p'⟩, fun x H5 y => ?_⟩
      have hyj := List.getElem?_eq_getElem hlt1
      obtain ⟨xt5, rz5⟩ := wk1.yields _ j (ys zs[i])[j] H4 x H5 hyj okD1 gg4.2 y
      apply ht1.run (ys zs[i])[j] x _ ((D, .lst acc1) :: A) H5 _ xt5.ok rz5
      intro w1 hwt1
      refine ⟨hw1 w w1, ?_⟩
      rw [if_pos rfl]
      intro s0 H0 C0 cl0 fp0
      have gg5 := (pAnd (pAnd (pAnd Γ Gd) (Γt zs[i] w)) Gd1).mono xt5.same gg4
      refine he Gd (D, .lst acc1) zs[i] w (ys zs[i])[j] w1 hmem (List.getElem_mem hlt1) s0 H0 C0 cl0 fp0 H5 _ xt5.ok ⟨gg5.1, hwt1⟩ fun u H7 x7 ru => ?_
      have ga7 := (pAll Ry _ acc1).mono (xt5.same.trans x7.same) ga4
      have okp := own_put (A1 := []) (o' := .lst (acc1 ++ [u])) x7.ok
      have etk1 : (ys zs[i]).take (j + 1) = (ys zs[i]).take j ++ [(ys zs[i])[j]] := List.take_succ_eq_append_getElem hlt1
      have hl : acc1.length < sizeLine := by
        rw [← pAll_len ga7]
        refine Nat.lt_of_le_of_lt ?_ hlen
        rw [List.length_append, List.length_append, List.length_map, List.length_map, List.length_take]
        omega
      refine ⟨acc1, okp.2.2, hl, acc1 ++ [u], okp.1, ?_⟩
      have eh : hide ((D, .lst (acc1 ++ [u])) :: A) (upd H7 D (.lst (acc1 ++ [u]))) = hide ((D, .lst acc1) :: A) H7 := okp.2.1
      rw [eh]
      refine ⟨sm4.trans (xt5.same.trans x7.same), (pAnd (pAnd (pAnd Γ Gd) (Γt zs[i] w)) Gd1).mono x7.same gg5, ?_⟩
      rw [etk1, List.map_append, ← List.append_assoc]
      exact pAll_app ga7 (pAll_one ru)
    · have ei : j = (ys zs[i]).length := by omega
      subst ei
      refine .inl ⟨wk1.stops H4 (Gd1.mono hide_le gg4.2), acc1, okD1, sm4, gg4.1.1, ?_⟩
      rw [List.take_length] at ga4
      rw [etk]
      exact ga4
  · have ei : i = zs.length := by omega
    subst ei
    refine .inl ⟨wk.stops H' (Gd.mono hide_le gg.2), ?_⟩
    have o2 := own_app (B := [(D, .lst acc)]) okD
    rw [List.take_length] at ga
    refine k D (.lst acc) H' ⟨okD.at_ _ (List.mem_cons_self ..), (List.nodup_cons.mp okD.nd).1, ?_, o2.1, sm⟩ ⟨acc, rfl, ga⟩
    cases eD : hide A H D with
    | none => rfl
    | some u =>
      have z := (hide_of (x1.same _ _ eD)).1
      rw [hD] at z
      cases z
theorem f_lc2 {β γ δ ω ω1 : Type} {zs : List β} {Rz : β → V → Pr} {Rz1 : γ → V → Pr} {own : List (Str × Nat)} {vs1 : List Nat} {iter elt tg1 iter1 : Expr} {scope : Scope} {g g1 : TG} {stw : ω → L2.St → L2.St} {Γt : β → ω → Pr} {stw1 : ω1 → L2.St → L2.St} {Γt1 : γ → ω1 → Pr} (ys : β → List γ) (f : β → γ → δ) (Ry : δ → V → Pr)
    (hi : I3 X A Γ σ tg iter zs Rz) (ht : TgC X tg scope g Rz stw Γt) (ok : BlkOk X.N X.env.scope scope own) (hv : ∀ i ∈ vs1, i ∈ own.map (·.2))
    (hi1 : ∀ (Gd : Pr) (q : Addr × HO) z w, z ∈ zs → Blk X scope fun Y => I3 Y (q :: A) (pAnd (pAnd Γ Gd) (Γt z w)) (stw w (wipe σ (own.map (·.2)))) tg1 iter1 (ys z) Rz1)
    (ht1 : TgC X tg1 scope g1 Rz1 stw1 Γt1)
    (he : ∀ (Gd : Pr) (q : Addr × HO) z w y w1, z ∈ zs → y ∈ ys z → Blk X scope fun Y => E3 Y (q :: A) (pAnd (pAnd (pAnd Γ Gd) (Γt z w)) (Γt1 y w1)) (stw1 w1 (wipe (stw w (wipe σ (own.map (·.2)))) vs1)) elt (Ry (f z y)))
    (hz : (zs.flatMap fun z => (ys z).map (f z)).length < sizeLine) (hw : ∀ w, wipe (stw w (wipe σ (own.map (·.2)))) (own.map (·.2)) = wipe σ (own.map (·.2)) := by intro _; rfl) (hw1 : ∀ w w1, wipe (stw1 w1 (wipe (stw w (wipe σ (own.map (·.2)))) vs1)) vs1 = wipe (stw w (wipe σ (own.map (·.2)))) vs1 := by intro _ _; rfl)
    (hcalm : X.calm = true := by rfl) (hN : X.N.Nodup := by assumption) (hs : ∀ x, foldedSetIterable iter X.env x = pure x := by intro _; rfl) (hs1 : ∀ env x, foldedSetIterable iter1 env x = pure x := by intro _ _; rfl) :
    F3 X A Γ σ (.ListComp elt [⟨tg, iter, [], 0⟩, ⟨tg1, iter1, [], 0⟩] scope pos) (OL Ry (zs.flatMap fun z => (ys z).map (f z))) := fun H Q okA gm k =>
  Ev.of (pe_lc2 hcalm hN (eiPI tg iter) ok hv ht.pg (fun _ _ _ _ _ => pts_nil) (tiBlk_pi X scope tg1 iter1) ht1.pg (fun _ _ _ _ _ => pts_nil) (teBlk_pe X scope elt) hs hs1) (lc2_sem ys f Ry hi ht ok hv hi1 ht1 he hz hw hw1 hcalm hN hs hs1 H Q okA gm k)
/-- y = [..] on one line -/
theorem b_setLc2 (i : Nat) {y : Str} {py spos : Pos} {rest : List Stmt} {D : Ends} {β γ δ ω ω1 : Type} {zs : List β} {Rz : β → V → Pr} {Rz1 : γ → V → Pr} {own : List (Str × Nat)} {vs1 : List Nat} {iter elt tg1 iter1 : Expr} {scope : Scope} {g g1 : TG} {stw : ω → L2.St → L2.St} {Γt : β → ω → Pr} {stw1 : ω1 → L2.St → L2.St} {Γt1 : γ → ω1 → Pr} (ys : β → List γ) (f : β → γ → δ) (Ry : δ → V → Pr)
    (hi : I3 X A Γ σ tg iter zs Rz) (ht : TgC X tg scope g Rz stw Γt) (ok : BlkOk X.N X.env.scope scope own) (hv : ∀ i ∈ vs1, i ∈ own.map (·.2))
    (hi1 : ∀ (Gd : Pr) (q : Addr × HO) z w, z ∈ zs → Blk X scope fun Y => I3 Y (q :: A) (pAnd (pAnd Γ Gd) (Γt z w)) (stw w (wipe σ (own.map (·.2)))) tg1 iter1 (ys z) Rz1)
    (ht1 : TgC X tg1 scope g1 Rz1 stw1 Γt1)
    (he : ∀ (Gd : Pr) (q : Addr × HO) z w y w1, z ∈ zs → y ∈ ys z → Blk X scope fun Y => E3 Y (q :: A) (pAnd (pAnd (pAnd Γ Gd) (Γt z w)) (Γt1 y w1)) (stw1 w1 (wipe (stw w (wipe σ (own.map (·.2)))) vs1)) elt (Ry (f z y)))
    (hz : (zs.flatMap fun z => (ys z).map (f z)).length < sizeLine) (hw : ∀ w, wipe (stw w (wipe σ (own.map (·.2)))) (own.map (·.2)) = wipe σ (own.map (·.2)) := by intro _; rfl) (hw1 : ∀ w w1, wipe (stw1 w1 (wipe (stw w (wipe σ (own.map (·.2)))) vs1)) vs1 = wipe (stw w (wipe σ (own.map (·.2)))) vs1 := by intro _ _; rfl)
    (k : ∀ v, B3 X A (pAnd Γ (RL Ry (zs.flatMap fun z => (ys z).map (f z)) v)) (σ.set i (some v)) rest D) (hy : X.N[i]? = some y := by rfl) (hyl : X.env.scope.names.lookup y = some .local := by rfl) (hsw : swapsWith (.ListComp elt [⟨tg, iter, [], 0⟩, ⟨tg1, iter1, [], 0⟩] scope pos) (some (.Name y py)) spos.line X.env = pure true := by rfl)
    (hcalm : X.calm = true := by rfl) (hN : X.N.Nodup := by assumption) (hs : ∀ x, foldedSetIterable iter X.env x = pure x := by intro _; rfl) (hs1 : ∀ env x, foldedSetIterable iter1 env x = pure x := by intro _ _; rfl) : B3 X A Γ σ (.Assign [.Name y py] (.ListComp elt [⟨tg, iter, [], 0⟩, ⟨tg1, iter1, [], 0⟩] scope pos) spos :: rest) D := fun H okA gm =>
  b_cons (Es.of (ps_setLc2 hcalm hN hy hyl hsw (eiPI tg iter) ok hv ht.pg (fun _ _ _ _ _ => pts_nil) (tiBlk_pi X scope tg1 iter1) ht1.pg (fun _ _ _ _ _ => pts_nil) (teBlk_pe X scope elt) hs hs1) (lc2_sem ys f Ry hi ht ok hv hi1 ht1 he hz hw hw1 hcalm hN hs hs1 H (fun x H1 => Ess X rest D (σ.set i (some x)) H1) okA gm fun p o H' n r => k _ H' n.ok ⟨Γ.mono n.ext.same gm, RO.lst _ ⟨p, o, rfl, (by show hide A H' p = some o; rw [hide_out n.out]; exact n.at_), (OL Ry (zs.flatMap fun z => (ys z).map (f z)) o).mono hide_one r⟩⟩))
theorem b_parEF (i j : Nat) {x y : Str} {px py pt pt2 : Pos} {kt k2 : Nat} {rest : List Stmt} {D : Ends} {Rb : HO → Pr} (ha : E3 X A Γ σ a Ra) (hb : F3 X A Γ σ b Rb) (k : ∀ v p o, B3 X ((p, o) :: A) (pAnd (pAnd Γ (Ra v)) (Rb o)) ((σ.set i (some v)).set j (some (.ref p))) rest D) (hN : X.N.Nodup := by assumption)
    (p : Par2 X i j x y px py pt kt k2 pt2 pos a b := by exact ⟨by decide, rfl, rfl, rfl, rfl, rfl, rfl, rfl, rfl, rfl⟩) : B3 X A Γ σ (.Assign [.Tuple [.Name x px, .Name y py] kt pt] (.Tuple [a, b] k2 pt2) pos :: rest) D :=
  b_par i j (fun H ok g => ha H _ ok g fun v H1 x1 r => hb H1 _ x1.ok (Γ.mono x1.same g) fun p o H2 n2 r2 => k v p o H2 n2.ok1 ⟨⟨Γ.mono (x1.same.trans n2.same) g, (Ra v).mono n2.same r⟩, r2⟩) hN p
end
end Pm
/-! C97a -/
set_option maxHeartbeats 2000000
namespace L97
open PySem PySem.Spec L2 Pm
/-- a def of the top as it stands -/
def At (K : PySem.W.Frag) (mg : Str → Option Value) (x : Str) (st : Stmt) : Prop := ∃ (f : Addr) (fd : FuncData), FunD K x x (defArgs st) (defBody st) (defScope st) [] [] f fd ∧ mg x = some (.ref f)
structure Ats (K : PySem.W.Frag) (mg : Str → Option Value) : Prop where
  dis_integer : At K mg "is_integer" sis_integer
  dis_between : At K mg "is_between" sis_between
  dis_list : At K mg "is_list" sis_list
  dis_name : At K mg "is_name" sis_name
  dis_letter : At K mg "is_letter" sis_letter
  dparts_of : At K mg "parts_of" sparts_of
  dis_head : At K mg "is_head" sis_head
  dis_within : At K mg "is_within" sis_within
  dis_tree : At K mg "is_tree" sis_tree
  dall_nodes : At K mg "all_nodes" sall_nodes
  dall_names : At K mg "all_names" sall_names
  dcheck_tree : At K mg "check_tree" scheck_tree
  dis_line : At K mg "is_line" sis_line
  dis_book : At K mg "is_book" sis_book
  dunlike : At K mg "unlike" sunlike
  dleaf_kind : At K mg "leaf_kind" sleaf_kind
  dpaired_kind : At K mg "paired_kind" spaired_kind
  dkind_of : At K mg "kind_of" skind_of
  dkinds_of_book : At K mg "kinds_of_book" skinds_of_book
  dcheck_book : At K mg "check_book" scheck_book
  dkind_up : At K mg "kind_up" skind_up
  dletters_of : At K mg "letters_of" sletters_of
  djoin : At K mg "join" sjoin
  dis_truths : At K mg "is_truths" sis_truths
  dis_of : At K mg "is_of" sis_of
  dworld_at_place : At K mg "world_at_place" sworld_at_place
  dspread : At K mg "spread" sspread
  dhalves : At K mg "halves" shalves
  djoined_row : At K mg "joined_row" sjoined_row
  dbound_row : At K mg "bound_row" sbound_row
  drow_in : At K mg "row_in" srow_in
  dlines_needed : At K mg "lines_needed" slines_needed
  drows_of_book : At K mg "rows_of_book" srows_of_book
  dwhole_row : At K mg "whole_row" swhole_row
  dis_literal : At K mg "is_literal" sis_literal
  dis_clause : At K mg "is_clause" sis_clause
  dletters_within : At K mg "letters_within" sletters_within
  dare_clauses : At K mg "are_clauses" sare_clauses
  dcheck_clauses : At K mg "check_clauses" scheck_clauses
  dclause_letters : At K mg "clause_letters" sclause_letters
  dholds_in : At K mg "holds_in" sholds_in
  dclauses_hold : At K mg "clauses_hold" sclauses_hold
  dliteral_tree : At K mg "literal_tree" sliteral_tree
  djoined_trees : At K mg "joined_trees" sjoined_trees
  dclauses_tree : At K mg "clauses_tree" sclauses_tree
  dmet : At K mg "met" smet
  dtold_clause : At K mg "told_clause" stold_clause
  dstepped : At K mg "stepped" sstepped
  dclauses_along : At K mg "clauses_along" sclauses_along
  dis_proof : At K mg "is_proof" sis_proof
  dproof_clauses : At K mg "proof_clauses" sproof_clauses
  dbroken_clause : At K mg "broken_clause" sbroken_clause
  drefuted : At K mg "refuted" srefuted
  drefute_up : At K mg "refute_up" srefute_up
  dshorter_proof : At K mg "shorter_proof" sshorter_proof
  dmoved_step : At K mg "moved_step" smoved_step
  dis_triple : At K mg "is_triple" sis_triple
  dletters_rise : At K mg "letters_rise" sletters_rise
  drow_letters : At K mg "row_letters" srow_letters
  dis_table : At K mg "is_table" sis_table
  dtruth_by : At K mg "truth_by" struth_by
  dtable_by_row : At K mg "table_by_row" stable_by_row
  dcheck_both : At K mg "check_both" scheck_both
  dshared_letters : At K mg "shared_letters" sshared_letters
  dworlds_where : At K mg "worlds_where" sworlds_where
  dis_between_by : At K mg "is_between_by" sis_between_by
  dclause_row : At K mg "clause_row" sclause_row
  drows_along : At K mg "rows_along" srows_along
  dbetween_by : At K mg "between_by" sbetween_by
  dyes_places : At K mg "yes_places" syes_places
  dworld_count : At K mg "world_count" sworld_count
  d_law_spring : At K mg "_law_spring" s_law_spring
  d_law_draw : At K mg "_law_draw" s_law_draw
  d_law_mixed : At K mg "_law_mixed" s_law_mixed
  d_law_same : At K mg "_law_same" s_law_same
  d_law_t_worlds : At K mg "_law_t_worlds" s_law_t_worlds
  d_law_l_letters : At K mg "_law_l_letters" s_law_l_letters
  d_law_l_hold : At K mg "_law_l_hold" s_law_l_hold
  d_law_l_met : At K mg "_law_l_met" s_law_l_met
  d_law_l_worlds : At K mg "_law_l_worlds" s_law_l_worlds
  d_law_l_along : At K mg "_law_l_along" s_law_l_along
  d_law_l_index : At K mg "_law_l_index" s_law_l_index
  d_law_l_proof : At K mg "_law_l_proof" s_law_l_proof
  d_law_f_birds : At K mg "_law_f_birds" s_law_f_birds
  d_law_f_odd : At K mg "_law_f_odd" s_law_f_odd
  d_law_f_line : At K mg "_law_f_line" s_law_f_line
  d_law_f_ring : At K mg "_law_f_ring" s_law_f_ring
  d_law_f_asked : At K mg "_law_f_asked" s_law_f_asked
  dlaw : At K mg "law" slaw
structure Tx (K : PySem.W.Frag) (mg : Str → Option Value) : Prop where
  all : mg "all" = none
  any : mg "any" = none
  bool : mg "bool" = none
  dict : mg "dict" = none
  enumerate : mg "enumerate" = none
  int : mg "int" = none
  isinstance : mg "isinstance" = none
  len : mg "len" = none
  list : mg "list" = none
  range : mg "range" = none
  reversed : mg "reversed" = none
  sorted : mg "sorted" = none
  str : mg "str" = none
  super : mg "super" = none
  tuple : mg "tuple" = none
  zip : mg "zip" = none
  cLETTERS : ∃ t, mg "LETTERS" = some (.str "abcdefghijklmnopqrstuvwxyz" t)
  cSIGNS : ∃ t, mg "SIGNS" = some (.str "abcdefghijklmnopqrstuvwxyz0123456789" t)
  cWORDS : ∃ a, mg "WORDS" = some (.ref a) ∧ ∀ H, SqL K H a ((["always", "and", "ever", "every", "follows", "let", "no", "not", "or", "same", "some", "yes"] : List Str).map V.str)
  cPAIRED : ∃ a, mg "PAIRED" = some (.ref a) ∧ ∀ H, SqL K H a ((["both", "either", "if", "alike", "apart"] : List Str).map V.str)
  cBOUND : ∃ a, mg "BOUND" = some (.ref a) ∧ ∀ H, SqL K H a ((["some", "every"] : List Str).map V.str)
  cPLAIN : ∃ a, mg "PLAIN" = some (.ref a) ∧ ∀ H, SqL K H a ((["yes", "no"] : List Str).map V.str)
  cTWELVE_trees : ∃ t, mg "TWELVE_trees" = some (.int 12 t)
  cFORTY : ∃ t, mg "FORTY" = some (.int 40 t)
  cSIXTY_trees : ∃ t, mg "SIXTY_trees" = some (.int 60 t)
  cMOST : ∃ t, mg "MOST" = some (.int 12 t)
  cMANY : ∃ t, mg "MANY" = some (.int 300 t)
  cTWELVE_clauses : ∃ t, mg "TWELVE_clauses" = some (.int 12 t)
  cTEN : ∃ t, mg "TEN" = some (.int 10 t)
  cLONG : ∃ t, mg "LONG" = some (.int 9000 t)
  cTHOUSAND : ∃ t, mg "THOUSAND" = some (.int 1000 t)
  cSIXTY_tables : ∃ t, mg "SIXTY_tables" = some (.int 60 t)
/-! ### a def's entry -/
section
variable {X : Cx} {A : Own} {S Γ : Pr} {N : List Str} {vs : List V} {blk : List Stmt} {D : Ends} {R1 R2 R3 R4 R5 : V → Pr}
theorem in1 (h : ∀ v1, B3 X A (pAnd S (R1 v1)) (start N [v1]) blk D) : B3 X A (pAnd S (Pm.PC R1 PN vs)) (start N vs) blk D := fun H ok ⟨g, z⟩ => by
  obtain ⟨v, rfl, r⟩ := pc1 z
  exact h v H ok ⟨g, r⟩
theorem in2 (h : ∀ v1 v2, B3 X A (pAnd (pAnd S (R1 v1)) (R2 v2)) (start N [v1, v2]) blk D) : B3 X A (pAnd S (Pm.PC R1 (Pm.PC R2 PN) vs)) (start N vs) blk D := fun H ok ⟨g, z⟩ => by
  obtain ⟨v, w, rfl, r, r2⟩ := pc2 z
  exact h v w H ok ⟨⟨g, r⟩, r2⟩
theorem in3 (h : ∀ v1 v2 v3, B3 X A (pAnd (pAnd (pAnd S (R1 v1)) (R2 v2)) (R3 v3)) (start N [v1, v2, v3]) blk D) : B3 X A (pAnd S (Pm.PC R1 (Pm.PC R2 (Pm.PC R3 PN)) vs)) (start N vs) blk D := fun H ok ⟨g, z⟩ => by
  obtain ⟨v, w, u, rfl, r, r2, r3⟩ := pc3 z
  exact h v w u H ok ⟨⟨⟨g, r⟩, r2⟩, r3⟩
/-- a plain value is put in its place -/
theorem B3.v {w v : V} {st : L2.St} (i : ∀ G, Γ.holds G → v = w) (h : v = w → B3 X A Γ st blk D) : B3 X A Γ st blk D := B3.fact i h
end
theorem len1 {R : V → Pr} {vs : List V} {G : Hp} {a : Str} (h : (Pm.PC R PN vs).holds G) : vs.length = [a].length := by obtain ⟨v, rfl, _⟩ := pc1 h; rfl
theorem len2 {R R' : V → Pr} {vs : List V} {G : Hp} {a b : Str} (h : (Pm.PC R (Pm.PC R' PN) vs).holds G) : vs.length = [a, b].length := by obtain ⟨v, w, rfl, _⟩ := pc2 h; rfl
theorem len3 {R R' R'' : V → Pr} {vs : List V} {G : Hp} {a b c : Str} (h : (Pm.PC R (Pm.PC R' (Pm.PC R'' PN)) vs).holds G) : vs.length = [a, b, c].length := by obtain ⟨v, w, z, rfl, _⟩ := pc3 h; rfl
/-! ### basics -/
def LETS : Str := "abcdefghijklmnopqrstuvwxyz"
def SIGS : Str := "abcdefghijklmnopqrstuvwxyz0123456789"
def WRDS : List Str := ["always", "and", "ever", "every", "follows", "let", "no", "not", "or", "same", "some", "yes"]
def isName (z : Str) : Bool := (decide (1 ≤ z.length) && decide (z.length ≤ 8)) && (match z.cps.toList with
  | [] => false
  | c :: _ => decide (c ∈ LETS.cps.toList)) && (z.cps.toList.all fun c => decide (c ∈ SIGS.cps.toList))
def isLetter (z : Str) : Bool := isName z && !decide (z ∈ WRDS)
section
variable {P : Program} {w : World} {K : PySem.W.Frag} {mg : Str → Option Value} {base : Heap}
theorem ok_is_integer (T : Tx K mg) (S : Ats K mg) : Fd P w K mg base "is_integer" 1 (spF (fun (i : Int) => Pm.PC (RI i) PN) fun i => RB true) := by
  obtain ⟨f, fd, F, gm⟩ := S.dis_integer
  refine fd_mk F gm cis_integer (fun _ _ _ _ _ _ us hl => match us, hl with | [_], _ => rfl) (fun d vs G h => len1 h) fun cdv Ar outer s H vs i A G0 D hr hq hn => in1 fun v => ?_
  refine B3.v (fun G h => h.2) fun e => ?_
  subst e
  exact b_ret0 hq (e_and (e_isi (t := true) T.isinstance (e_v 0) (fun _ => ty_ri) (e_tI T.int) (by decide +kernel)) fun _ => e_not (e_isi (t := false) T.isinstance (e_v 0) (fun _ => ty_ri) (e_tB T.bool) (by decide +kernel))) (fun _ h => h.1) (fun v G h => h.2)
theorem ok_is_between (T : Tx K mg) (S : Ats K mg) :
    Fd P w K mg base "is_between" 2 (spF (fun (z : Int × Int × Int) => Pm.PC (RI z.1) (Pm.PC (RI z.2.1) (Pm.PC (RI z.2.2) PN))) fun z => RB (decide (z.2.1 ≤ z.1) && decide (z.1 ≤ z.2.2))) := by
  obtain ⟨f, fd, F, gm⟩ := S.dis_between
  refine fd_mk F gm cis_between (fun _ _ _ _ _ _ us hl => match us, hl with | [_, _, _], _ => rfl) (fun d vs G h => len3 h) fun cdv Ar outer s H vs ⟨i, lo, hi⟩ A G0 D hr hq hn => in3 fun v1 v2 v3 => ?_
  refine B3.v (fun G h => h.1.1.2) fun e1 => B3.v (fun G h => h.1.2) fun e2 => B3.v (fun G h => h.2) fun e3 => ?_
  subst e1 e2 e3
  exact b_ret0 hq (e_and (e_call (ok_is_integer T S) hr i (a_cons (e_v 0) a_nil) (fun _ _ h => h.2)) fun _ => e_leLe (e_v 1) (e_v 0) (e_v 2)) (fun _ h => h.1.1.1) (by intro v G h; exact h.2)
/-- of a list or a tuple -/
theorem ok_is_list (T : Tx K mg) (S : Ats K mg) : Fd P w K mg base "is_list" 1 (spF (fun (b : Bool) => Pm.PC (pTy K (if b then "list" else "tuple")) PN) fun _ => RB true) := by
  obtain ⟨f, fd, F, gm⟩ := S.dis_list
  refine fd_mk F gm cis_list (fun _ _ _ _ _ _ us hl => match us, hl with | [_], _ => rfl) (fun d vs G h => len1 h) fun cdv Ar outer s H vs b A G0 D hr hq hn => in1 fun v => ?_
  cases b with
  | true => exact b_ret0 hq (e_isi2 (t := true) (T := "list") (Ra := pTy K "list") T.isinstance (e_var 0 (fun _ h => h.2)) (fun _ _ h => h) (e_tL T.list) (e_tT T.tuple) (kit2 (b1 := true) (b2 := false) (by decide +kernel) (by decide +kernel))) (fun _ h => h.1) (by intro v G h; exact h.2)
  | false => exact b_ret0 hq (e_isi2 (t := true) (T := "tuple") (Ra := pTy K "tuple") T.isinstance (e_var 0 (fun _ h => h.2)) (fun _ _ h => h) (e_tL T.list) (e_tT T.tuple) (kit2 (b1 := false) (b2 := true) (by decide +kernel) (by decide +kernel))) (fun _ h => h.1) (by intro v G h; exact h.2)
theorem ok_is_name (T : Tx K mg) (S : Ats K mg) : Fd P w K mg base "is_name" 1 (spF (fun (z : {z : Str // z.length ≤ 1000}) => Pm.PC (RS z.1) PN) fun z => RB (isName z.1)) := by
  obtain ⟨f, fd, F, gm⟩ := S.dis_name
  refine fd_mk F gm cis_name (fun _ _ _ _ _ _ us hl => match us, hl with | [_], _ => rfl) (fun d vs G h => len1 h) fun cdv Ar outer s H vs ⟨z, hz⟩ A G0 D hr hq hn => in1 fun v => ?_
  refine B3.v (fun G h => h.2) fun e => ?_
  subst e
  have nd := cis_name.nd
  have hz' : z.length ≤ sizeLine := Nat.le_of_lt (small1000 hz)
  have hl : z.cps.toList.length = z.length := by simp [Str.length]
  refine b_when (t_or (t_not (t_of (e_isi (t := true) T.isinstance (e_v 0) (fun _ => ty_rs) (e_tS T.str) (by decide +kernel)))) fun _ => t_not (t_leLe e_int (e_lenS T.len (e_v 0) hz') e_int)) (fun e => ?_) (fun e => ?_)
  · refine b_ret0 hq e_bl (fun _ h => h.1) (fun v G h => ?_)
    have e2 : isName z = false := by
      unfold isName
      simp only [Bool.not_true, Bool.false_or, Bool.not_eq_true', Bool.and_eq_false_iff, decide_eq_false_iff_not] at e
      have e3 : (decide (1 ≤ z.length) && decide (z.length ≤ 8)) = false := by
        simp only [Bool.and_eq_false_iff, decide_eq_false_iff_not]
        omega
      rw [e3]
      rfl
    exact (show v = .bl (isName z) by rw [e2]; exact h.2)
  have hb : 1 ≤ z.length ∧ z.length ≤ 8 := by
    simp only [Bool.not_true, Bool.false_or, Bool.not_eq_false', Bool.and_eq_true, decide_eq_true_eq] at e
    omega
  obtain ⟨c, r, hc⟩ : ∃ c r, z.cps.toList = c :: r := by
    cases h : z.cps.toList with
    | nil => rw [h] at hl; simp at hl; omega
    | cons c r => exact ⟨c, r, rfl⟩
  have hd : isName z = (decide (c ∈ LETS.cps.toList) && z.cps.toList.all fun c => decide (c ∈ SIGS.cps.toList)) := by
    unfold isName
    rw [hc, decide_eq_true hb.1, decide_eq_true hb.2]
    rfl
  refine b_when (t_ninC (ch := c) (z := LETS) (e_chr (e_v 0) e_int hz' (by rw [hc]; exact atI_nat (j := 0) rfl)) (e_gS T.cLETTERS)) (fun e => ?_) (fun e => ?_)
  · refine b_ret0 hq e_bl (fun _ h => h.1) (fun v G h => ?_)
    have e2 : isName z = false := by
      rw [hd]
      have e3 : decide (c ∈ LETS.cps.toList) = false := by simpa using e
      rw [e3]
      rfl
    exact (show v = .bl (isName z) by rw [e2]; exact h.2)
  · refine b_ret0 hq (e_all (bs := z.cps.toList.map fun c => decide (c ∈ SIGS.cps.toList)) T.all (F3.rl (f_lc (own := [("sign", 1)]) (fun c => decide (c ∈ SIGS.cps.toList)) RB (i_str (e_v 0)) (tc_name 1) (blkOk_by (N := nis_name) (sc := defScope sis_name) (by decide +kernel)) (fun Gd q c w _ s H C cl fp => e_inC (z := SIGS) (e_var 1 (fun _ h => h.2)) (e_gS T.cSIGNS)) (by rw [hl]; exact Nat.lt_of_le_of_lt hz (by decide))))) (fun _ h => h.1) (fun v G h => ?_)
    have e2 : isName z = (z.cps.toList.map fun c => decide (c ∈ SIGS.cps.toList)).all id := by
      rw [hd]
      have e3 : decide (c ∈ LETS.cps.toList) = true := by simpa using e
      rw [e3, List.all_map]
      rfl
    exact (show v = .bl (isName z) by rw [e2]; exact h.2)
end
end L97
/-! C97b -/
set_option maxHeartbeats 2000000
namespace L97
open PySem PySem.Spec L2 Pm
abbrev Lit := Str × Bool
abbrev Cl := List Lit
abbrev RLit : Lit → V → Pr := RT2 RS RB
abbrev RCl : Cl → V → Pr := RL RLit
abbrev RCs : List Cl → V → Pr := RL RCl
structure OkCl (c : Cl) : Prop where
  let_ : ∀ l ∈ c, isLetter l.1 = true
  up : c.Pairwise fun a b => ltS a.1 b.1
  few : c.length ≤ 1000
theorem isName_len {z : Str} (h : isName z = true) : z.length ≤ 1000 := by
  unfold isName at h
  simp only [Bool.and_eq_true, decide_eq_true_eq] at h
  omega
theorem isLetter_len {z : Str} (h : isLetter z = true) : z.length ≤ 1000 := by
  unfold isLetter at h
  simp only [Bool.and_eq_true] at h
  exact isName_len h.1
section
variable {P : Program} {w : World} {K : PySem.W.Frag} {mg : Str → Option Value} {base : Heap}
theorem ok_is_letter (T : Tx K mg) (S : Ats K mg) : Fd P w K mg base "is_letter" 2 (spF (fun (z : {z : Str // z.length ≤ 1000}) => Pm.PC (RS z.1) PN) fun z => RB (isLetter z.1)) := by
  obtain ⟨f, fd, F, gm⟩ := S.dis_letter
  refine fd_mk F gm cis_letter (fun _ _ _ _ _ _ us hl => match us, hl with | [_], _ => rfl) (fun d vs G h => len1 h) fun cdv Ar outer s H vs ⟨z, hz⟩ A G0 D hr hq hn => in1 fun v => ?_
  obtain ⟨a, ha, hq2⟩ := T.cWORDS
  exact b_rt hq (e_and (e_c (ok_is_name T S) hr ⟨z, hz⟩ (a_cons (e_x 0) a_nil)) fun _ => e_ninQ (e_x 0) (e_gL ha hq2))
theorem ok_is_literal (T : Tx K mg) (S : Ats K mg) : Fd P w K mg base "is_literal" 3 (spF (fun (l : {l : Lit // isLetter l.1 = true}) => Pm.PC (RLit l.1) PN) fun _ => RB true) := by
  obtain ⟨f, fd, F, gm⟩ := S.dis_literal
  refine fd_mk F gm cis_literal (fun _ _ _ _ _ _ us hl => match us, hl with | [_], _ => rfl) (fun d vs G h => len1 h) fun cdv Ar outer s H vs ⟨l, hl⟩ A G0 D hr hq hn => in1 fun v => ?_
  refine b_rt hq (e_andL (e_c (ok_is_list T S) hr false (a_cons (e_var 0 (R := pTy K "tuple") (fun G h => ty_rt2 G h.2)) a_nil)) fun _ => e_andL (e_eq (e_len2 (R1 := RS) (R2 := RB) (x := l) T.len (e_x 0)) e_int) fun _ => e_and (e_c (ok_is_letter T S) hr ⟨l.1, isLetter_len hl⟩ (a_cons (e_fst (R1 := RS) (R2 := RB) (x := l) (e_x 0)) a_nil)) fun _ => e_isi (t := true) T.isinstance (e_snd (R1 := RS) (R2 := RB) (x := l) (e_x 0)) (fun _ => ty_rb) (e_tB T.bool) (by decide +kernel)) (by intro v G h; have h2 := h.2; rw [hl] at h2; exact h2)
theorem ok_is_clause (T : Tx K mg) (S : Ats K mg) : Fd P w K mg base "is_clause" 4 (spF (fun (l : {l : Cl // OkCl l}) => Pm.PC (RCl l.1) PN) fun _ => RB true) := by
  obtain ⟨f, fd, F, gm⟩ := S.dis_clause
  refine fd_mk F gm cis_clause (fun _ _ _ _ _ _ us hl => match us, hl with | [_], _ => rfl) (fun d vs G h => len1 h) fun cdv Ar outer s H vs ⟨l, hl⟩ A G0 D hr hq hn => in1 fun v => ?_
  have nd := cis_clause.nd
  refine b_when (t_or (t_not (t_of (e_c (ok_is_list T S) hr true (a_cons (e_var 0 (R := pTy K "list") (fun G h => ty_rl G h.2)) a_nil)))) fun _ => t_not (t_of (e_all (bs := l.map fun _ => true) T.all (F3.rl (f_lc (own := [("one", 1)]) (fun _ => true) RB (i_list (P := RLit) (xs := l) (e_x 0)) (tc_name 1) (blkOk_by (N := nis_clause) (sc := defScope sis_clause) (by decide +kernel)) (fun Gd q c w hm s H C cl fp => e_c (ok_is_literal T S) hr ⟨c, hl.let_ c hm⟩ (a_cons (e_x 1) a_nil)) (Nat.lt_of_le_of_lt hl.few (by decide))))))) (fun e => by rw [all_tt] at e; exact absurd e (by decide)) (fun e => ?_)
  have e2 : ((l.zip (l.drop 1)).map fun z => decide (ltS z.1.1 z.2.1)).all id = true := by
    rw [List.all_map, List.all_eq_true]
    rintro ⟨x, y⟩ hz
    obtain ⟨i, hi⟩ := List.mem_iff_getElem?.mp hz
    obtain ⟨h1, h2⟩ := List.getElem?_zip_eq_some.mp hi
    rw [List.getElem?_drop] at h2
    have q := List.pairwise_iff_getElem.mp hl.up i (1 + i) (List.getElem?_eq_some_iff.mp h1).1 (List.getElem?_eq_some_iff.mp h2).1 (by omega)
    rw [(List.getElem?_eq_some_iff.mp h1).2, (List.getElem?_eq_some_iff.mp h2).2] at q
    exact decide_eq_true q
  exact b_rt hq (e_all (bs := (l.zip (l.drop 1)).map fun z => decide (ltS z.1.1 z.2.1)) T.all (F3.rl (f_lc (own := [("one", 1), ("other", 2)]) (fun (z : Lit × Lit) => decide (ltS z.1.1 z.2.1)) RB (i_zipL (P1 := RLit) (P2 := RLit) (xs := l) (ys := l.drop 1) T.zip (e_x 0) (F3.rl (f_from 1 (e_x 0) e_int rfl))) (tc_two 1 2) (blkOk_by (N := nis_clause) (sc := defScope sis_clause) (by decide +kernel)) (fun Gd q c w hm s H C cl fp => e_ltS (e_fst (R1 := RS) (R2 := RB) (e_x 1)) (e_fst (R1 := RS) (R2 := RB) (e_x 2))) (by rw [List.length_zip]; exact Nat.lt_of_le_of_lt (Nat.le_trans (Nat.min_le_left ..) hl.few) (by decide))))) (by intro v G h; have h2 := h.2; rw [e2] at h2; exact h2)
end
end L97
/-! C97c -/
set_option maxHeartbeats 2000000
namespace L97
open PySem PySem.Spec L2 Pm
def lettersW (cs : List Cl) : List Str := sortS (nubA [] ((cs.flatMap fun c => c).map (·.1)))
structure OkCs (cs : List Cl) : Prop where
  cl : ∀ c ∈ cs, OkCl c
  few : cs.length ≤ 300
  let_ : (lettersW cs).length ≤ 12
theorem putAll_keys {γ : Type} (kf : γ → Str) (vf : γ → V) (zs : List γ) : (putAll (fun z => kS (kf z)) vf [] zs).map (·.1) = (nubA [] (zs.map kf)).map Sum.inr := by
  have h := kvs_puts (f := id) inr_inj kf vf zs []
  have h2 : putAll (fun z => kS (kf z)) vf [] zs = kvs kS id (putsD kf vf [] zs) := h
  rw [h2, kvs_keys, keys_puts]
  rfl
theorem flat_len {cs : List Cl} (h : ∀ c ∈ cs, OkCl c) (few : cs.length ≤ 300) : (cs.flatMap fun c => c).length < sizeLine := by
  have : (cs.flatMap fun c => c).length ≤ cs.length * 1000 := by
    clear few
    induction cs with
    | nil => simp
    | cons c cs ih =>
      rw [List.flatMap_cons, List.length_append, List.length_cons]
      have h1 := (h c (List.mem_cons_self ..)).few
      have h2 := ih fun d hd => h d (List.mem_cons_of_mem _ hd)
      omega
  rw [sizeLine_eq]
  omega
theorem lettersW_nub {cs : List Cl} : (nubA [] ((cs.flatMap fun c => c).map (·.1))).length = (lettersW cs).length := (sortS_perm _).length_eq.symm
section
variable {P : Program} {w : World} {K : PySem.W.Frag} {mg : Str → Option Value} {base : Heap}
theorem ok_letters_within (T : Tx K mg) (S : Ats K mg) : Fd P w K mg base "letters_within" 1 (spF (fun (cs : {cs : List Cl // (∀ c ∈ cs, OkCl c) ∧ cs.length ≤ 300 ∧ (lettersW cs).length ≤ 63}) => Pm.PC (RCs cs.1) PN) fun cs => RL RS (lettersW cs.1)) := by
  obtain ⟨f, fd, F, gm⟩ := S.dletters_within
  refine fd_mk F gm cletters_within (fun _ _ _ _ _ _ us hl => match us, hl with | [_], _ => rfl) (fun d vs G h => len1 h) fun cdv Ar outer s H vs ⟨cs, h1, h2, h3⟩ A G0 D hr hq hn => in1 fun v1 => ?_
  have nd := cletters_within.nd
  exact b_rt hq (F3.rl (f_sortRD T.sorted (F3.rd (f_dc2 (own := [("clause", 1), ("letter", 2), ("_truth", 3)]) (vs1 := [2, 3]) (fun c : Cl => c) (fun l : Lit => kS l.1) (fun _ => V.non) (i_list (P := RCl) (xs := cs) (e_x 0)) (tc_name 1) (blkOk_by (N := nletters_within) (sc := defScope sletters_within) (by decide +kernel)) (by decide) (fun Gd q z w hm s H C cl fp => i_list (P := RLit) (xs := z) (e_x 1)) (tc_two (R1 := RS) (R2 := RB) 2 3) (fun Gd q z w y w1 _ _ s H C cl fp => e_x 2) (fun Gd q z w y w1 _ _ s H C cl fp => e_non) (flat_len h1 h2))) (putAll_keys _ _ _) (Nat.lt_of_le_of_lt (Nat.le_of_eq lettersW_nub) (by omega))))
theorem ok_are_clauses (T : Tx K mg) (S : Ats K mg) : Fd P w K mg base "are_clauses" 5 (spF (fun (cs : {cs : List Cl // OkCs cs}) => Pm.PC (RCs cs.1) PN) fun cs => RB true) := by
  obtain ⟨f, fd, F, gm⟩ := S.dare_clauses
  refine fd_mk F gm care_clauses (fun _ _ _ _ _ _ us hl => match us, hl with | [_], _ => rfl) (fun d vs G h => len1 h) fun cdv Ar outer s H vs ⟨cs, h⟩ A G0 D hr hq hn => in1 fun v1 => ?_
  have nd := care_clauses.nd
  have hf := h.few
  have hl := h.let_
  refine b_when (t_or3 (t_not (t_of (e_c (ok_is_list T S) hr true (a_cons (e_var 0 (R := pTy K "list") (fun G h => ty_rl G h.2)) a_nil)))) (fun _ => t_gt (e_lenL (R := RCl) (xs := cs) T.len (e_x 0)) (e_gI T.cMANY)) fun _ _ => t_not (t_of (e_all (bs := cs.map fun _ => true) T.all (F3.rl (f_lc (own := [("one", 1)]) (fun _ => true) RB (i_list (P := RCl) (xs := cs) (e_x 0)) (tc_name 1) (blkOk_by (N := nare_clauses) (sc := defScope sare_clauses) (by decide +kernel)) (fun Gd q c w hm s H C cl fp => e_c (ok_is_clause T S) hr ⟨c, h.cl c hm⟩ (a_cons (e_x 1) a_nil)) (Nat.lt_of_le_of_lt hf (by decide))))))) (fun e => by rw [all_tt] at e; simp at e; omega) (fun e => ?_)
  exact b_rt hq (e_le (e_lenL (R := RS) (xs := lettersW cs) T.len (e_c (ok_letters_within T S) hr ⟨cs, h.cl, hf, by omega⟩ (a_cons (e_x 0) a_nil))) (e_gI T.cTWELVE_clauses)) (by intro v G z; have z2 := z.2; rw [decide_eq_true (by omega)] at z2; exact z2)
theorem ok_check_clauses (T : Tx K mg) (S : Ats K mg) : Fd P w K mg base "check_clauses" 6 (spF (fun (cs : {cs : List Cl // OkCs cs}) => Pm.PC (RCs cs.1) PN) fun cs => RN) := by
  obtain ⟨f, fd, F, gm⟩ := S.dcheck_clauses
  refine fd_mk F gm ccheck_clauses (fun _ _ _ _ _ _ us hl => match us, hl with | [_], _ => rfl) (fun d vs G h => len1 h) fun cdv Ar outer s H vs ⟨cs, h⟩ A G0 D hr hq hn => in1 fun v1 => ?_
  have nd := ccheck_clauses.nd
  exact b_when (t_not (t_of (e_c (ok_are_clauses T S) hr ⟨cs, h⟩ (a_cons (e_x 0) a_nil)))) (fun e => absurd e (by decide)) (fun e => b_nil fun H ok g => by rw [hn]; exact hq _ _ ok g.1 rfl)
theorem ok_clause_letters (T : Tx K mg) (S : Ats K mg) : Fd P w K mg base "clause_letters" 7 (spF (fun (cs : {cs : List Cl // OkCs cs}) => Pm.PC (RCs cs.1) PN) fun cs => RL RS (lettersW cs.1)) := by
  obtain ⟨f, fd, F, gm⟩ := S.dclause_letters
  refine fd_mk F gm cclause_letters (fun _ _ _ _ _ _ us hl => match us, hl with | [_], _ => rfl) (fun d vs G h => len1 h) fun cdv Ar outer s H vs ⟨cs, h⟩ A G0 D hr hq hn => in1 fun v1 => ?_
  have nd := cclause_letters.nd
  have hl := h.let_
  exact b_expr (e_c (ok_check_clauses T S) hr ⟨cs, h⟩ (a_cons (e_x 0) a_nil)) fun v => b_rt hq (e_c (ok_letters_within T S) hr ⟨cs, h.cl, h.few, by omega⟩ (a_cons (e_x 0) a_nil))
/-- a clause in a world -/
def holdsC (c : Cl) (w : Wd) : Bool := c.any fun l => decide (getD w l.1 = some l.2)
theorem ok_holds_in (T : Tx K mg) (S : Ats K mg) : Fd P w K mg base "holds_in" 1 (spF (fun (d : {d : Cl × Wd // d.1.length ≤ 1000 ∧ ∀ l ∈ d.1, l.1 ∈ keysD d.2}) => Pm.PC (RCl d.1.1) (Pm.PC (RW d.1.2) PN)) fun d => RB (holdsC d.1.1 d.1.2)) := by
  obtain ⟨f, fd, F, gm⟩ := S.dholds_in
  refine fd_mk F gm cholds_in (fun _ _ _ _ _ _ us hl => match us, hl with | [_, _], _ => rfl) (fun d vs G h => len2 h) fun cdv Ar outer s H vs ⟨⟨c, wd⟩, h1, h2⟩ A G0 D hr hq hn => in2 fun v1 v2 => ?_
  have nd := cholds_in.nd
  have hu := hu_of hr
  refine b_rt hq (e_any (bs := c.map fun l => decide (getD wd l.1 = some l.2)) T.any (F3.rl (f_lc (own := [("letter", 2), ("truth", 3)]) (fun l : Lit => decide (getD wd l.1 = some l.2)) RB (i_list (P := RLit) (xs := c) (e_x 0)) (tc_two (R1 := RS) (R2 := RB) 2 3) (blkOk_by (N := nholds_in) (sc := defScope sholds_in) (by decide +kernel)) (fun Gd q l ww hm s H C cl fp => ?_) (Nat.lt_of_le_of_lt h1 (by decide))))) (by intro v G z; have z2 := z.2; rw [List.any_map] at z2; exact z2)
  obtain ⟨b, hb⟩ : ∃ b, getD wd l.1 = some b := by
    have := h2 l hm
    cases e : getD wd l.1 with
    | none => exact absurd this (get_none.mp e)
    | some b => exact ⟨b, rfl⟩
  refine E3.imp (e_eq (x := .bl b) (y := .bl l.2) (e_dgetK (ι := kS) (f := V.bl) (d := wd) (k := l.1) inr_inj hu (e_x 1) (e_x 2) hb) (e_x 3)) fun v G z => ?_
  have z2 : v = .bl _ := z.2
  rw [z2, hb]
  show V.bl _ = V.bl _
  congr 1
  simp
end
end L97
/-! C97d -/
set_option maxHeartbeats 2000000
namespace L97
open PySem PySem.Spec L2 Pm
theorem mem_lettersW {cs : List Cl} {c : Cl} {l : Lit} (h : c ∈ cs) (hl : l ∈ c) : l.1 ∈ lettersW cs :=
  mem_sortS.mpr (mem_nubA.mpr (.inr (List.mem_map.mpr ⟨l, List.mem_flatMap.mpr ⟨c, h, hl⟩, rfl⟩)))
section
variable {P : Program} {w : World} {K : PySem.W.Frag} {mg : Str → Option Value} {base : Heap}
theorem ok_is_truths (T : Tx K mg) (S : Ats K mg) : Fd P w K mg base "is_truths" 1 (spF (fun (d : {d : Wd // d.length ≤ 1000}) => Pm.PC (RW d.1) PN) fun d => RB true) := by
  obtain ⟨f, fd, F, gm⟩ := S.dis_truths
  refine fd_mk F gm cis_truths (fun _ _ _ _ _ _ us hl => match us, hl with | [_], _ => rfl) (fun d vs G h => len1 h) fun cdv Ar outer s H vs ⟨d, hd⟩ A G0 D hr hq hn => in1 fun v1 => ?_
  have nd := cis_truths.nd
  refine B3.ex fun a => B3.v (fun G h => h.2.1) fun e => ?_
  subst e
  refine B3.pre (Δ := pAnd (pSame G0) (pAt a (.dK (kvs kS V.bl d)))) ?_ fun G h => ⟨h.1, h.2.2⟩
  refine b_rt hq (e_and (e_isi (t := true) T.isinstance (e_var 0 (R := RD (kvs kS V.bl d)) (fun G h => ⟨a, rfl, h.2⟩)) (fun _ => ty_rd) (e_tD T.dict) (by decide +kernel)) fun _ => e_lock (d := a) (u := .dK (kvs kS V.bl d)) trivial (fun G h => h.2) fun od => e_all (bs := ((kvs kS V.bl d).map (·.2)).map fun _ => true) T.all (F3.rl (f_lc (own := [("one", 1)]) (fun _ => true) RB (i_vals (e_v 0)) (tc_name 1) (blkOk_by (N := nis_truths) (sc := defScope sis_truths) (by decide +kernel)) (fun Gd q c w hm s H C cl fp => ?_) (by rw [List.length_map, kvs_len]; exact Nat.lt_of_le_of_lt hd (by decide))))) (by intro v G z; have z2 := z.2; rw [all_tt] at z2; exact z2)
  obtain ⟨p, hp, rfl⟩ := List.mem_map.mp hm
  obtain ⟨p', hp', rfl⟩ := List.mem_map.mp hp
  exact e_isi (t := true) T.isinstance (e_x 1 (R := RV (.bl p'.2))) (fun _ => ty_rb) (e_tB T.bool) (by decide +kernel)
theorem ok_is_of (T : Tx K mg) (S : Ats K mg) : Fd P w K mg base "is_of" 2 (spF (fun (d : {d : List Str × Wd // d.1.length ≤ 1000 ∧ d.2.length = d.1.length ∧ ∀ l ∈ d.1, l ∈ keysD d.2}) => Pm.PC (RL RS d.1.1) (Pm.PC (RW d.1.2) PN)) fun d => RB true) := by
  obtain ⟨f, fd, F, gm⟩ := S.dis_of
  refine fd_mk F gm cis_of (fun _ _ _ _ _ _ us hl => match us, hl with | [_, _], _ => rfl) (fun d vs G h => len2 h) fun cdv Ar outer s H vs ⟨⟨ls, d⟩, h1, h2, h3⟩ A G0 D hr hq hn => in2 fun v1 v2 => ?_
  have nd := cis_of.nd
  dsimp only at h1 h2 h3
  have hu := hu_of hr
  refine b_rt hq (e_andL (e_c (ok_is_truths T S) hr ⟨d, by omega⟩ (a_cons (e_x 1) a_nil)) fun _ => e_andL (e_eq (e_lenRD (ι := kS) (f := V.bl) (d := d) T.len (e_x 1)) (e_lenL (R := RS) (xs := ls) T.len (e_x 0))) fun _ => e_one (e_all (bs := ls.map fun l => decide (l ∈ keysD d)) T.all (F3.rl (f_lc (own := [("letter", 2)]) (fun l => decide (l ∈ keysD d)) RB (i_list (P := RS) (xs := ls) (e_x 0)) (tc_name 2) (blkOk_by (N := nis_of) (sc := defScope sis_of) (by decide +kernel)) (fun Gd q c w hm s H C cl fp => e_dinK (ι := kS) (f := V.bl) (d := d) inr_inj hu (e_x 2) (e_x 1)) (Nat.lt_of_le_of_lt h1 (by decide)))))) (by
    intro v G z
    have z2 := z.2
    have e1 : (ls.map fun l => decide (l ∈ keysD d)).all id = true := by
      rw [List.all_map, List.all_eq_true]
      intro l hl
      simpa using h3 l hl
    rw [e1, h2] at z2
    simpa using z2)
theorem ok_clauses_hold (T : Tx K mg) (S : Ats K mg) : Fd P w K mg base "clauses_hold" 7 (spF (fun (d : {d : List Cl × Wd // OkCs d.1 ∧ d.2.length = (lettersW d.1).length ∧ ∀ l ∈ lettersW d.1, l ∈ keysD d.2}) => Pm.PC (RCs d.1.1) (Pm.PC (RW d.1.2) PN)) fun d => RB (d.1.1.all fun c => holdsC c d.1.2)) := by
  obtain ⟨f, fd, F, gm⟩ := S.dclauses_hold
  refine fd_mk F gm cclauses_hold (fun _ _ _ _ _ _ us hl => match us, hl with | [_, _], _ => rfl) (fun d vs G h => len2 h) fun cdv Ar outer s H vs ⟨⟨cs, d⟩, h1, h2, h3⟩ A G0 D hr hq hn => in2 fun v1 v2 => ?_
  have nd := cclauses_hold.nd
  dsimp only at h1 h2 h3
  have hl := h1.let_
  have hf := h1.few
  refine b_expr (e_c (ok_check_clauses T S) hr ⟨cs, h1⟩ (a_cons (e_x 0) a_nil)) fun v => ?_
  refine b_when (t_not (t_of (e_c (ok_is_of T S) hr ⟨(lettersW cs, d), by show (lettersW cs).length ≤ 1000; omega, h2, h3⟩ (a_cons (e_c (ok_letters_within T S) hr ⟨cs, h1.cl, h1.few, by omega⟩ (a_cons (e_x 0) a_nil)) (a_cons (e_x 1) a_nil))))) (fun e => absurd e (by decide)) fun e => ?_
  exact b_rt hq (e_all (bs := cs.map fun c => holdsC c d) T.all (F3.rl (f_lc (own := [("clause", 2)]) (fun c => holdsC c d) RB (i_list (P := RCl) (xs := cs) (e_x 0)) (tc_name 2) (blkOk_by (N := nclauses_hold) (sc := defScope sclauses_hold) (by decide +kernel)) (fun Gd q c w hm s H C cl fp => e_c (ok_holds_in T S) hr ⟨(c, d), (h1.cl c hm).few, fun l hl => h3 _ (mem_lettersW hm hl)⟩ (a_cons (e_x 2) (a_cons (e_x 1) a_nil))) (Nat.lt_of_le_of_lt hf (by decide))))) (by intro v G z; have z2 := z.2; rw [List.all_map] at z2; exact z2)
theorem ok_told_clause (T : Tx K mg) (S : Ats K mg) : Fd P w K mg base "told_clause" 1 (spF (fun (c : {c : Cl // c.length ≤ 1000}) => Pm.PC (RCl c.1) PN) fun c => RCl c.1) := by
  obtain ⟨f, fd, F, gm⟩ := S.dtold_clause
  refine fd_mk F gm ctold_clause (fun _ _ _ _ _ _ us hl => match us, hl with | [_], _ => rfl) (fun d vs G h => len1 h) fun cdv Ar outer s H vs ⟨c, hc⟩ A G0 D hr hq hn => in1 fun v1 => ?_
  have nd := ctold_clause.nd
  exact b_rt hq (F3.rl (f_lc (own := [("letter", 1), ("truth", 2)]) (fun l : Lit => l) RLit (i_list (P := RLit) (xs := c) (e_x 0)) (tc_two (R1 := RS) (R2 := RB) 1 2) (blkOk_by (N := ntold_clause) (sc := defScope stold_clause) (by decide +kernel)) (fun Gd q l w hm s H C cl fp => e_tup2 (x := l.1) (y := l.2) (e_x 1) (e_x 2)) (Nat.lt_of_le_of_lt hc (by decide)))) (by intro v G z; have z2 := z.2; rw [List.map_id'] at z2; exact z2)
end
end L97
/-! C97e -/
set_option maxHeartbeats 2000000
namespace L97
open PySem PySem.Spec L2 Pm
def worldAt : List Str → Nat → Wd
  | [], _ => []
  | l :: r, p => (l, decide (p / 2 ^ r.length % 2 = 1)) :: worldAt r p
theorem worldAt_len : ∀ (ls : List Str) (p : Nat), (worldAt ls p).length = ls.length
  | [], _ => rfl
  | _ :: r, p => congrArg Nat.succ (worldAt_len r p)
theorem worldAt_keys : ∀ (ls : List Str) (p : Nat), keysD (worldAt ls p) = ls
  | [], _ => rfl
  | l :: r, p => congrArg (l :: ·) (worldAt_keys r p)
theorem worldAt_get : ∀ {ls : List Str} {p i : Nat} {l : Str}, ls[i]? = some l → (worldAt ls p)[i]? = some (l, decide (p / 2 ^ (ls.length - 1 - i) % 2 = 1))
  | [], _, _, _, h => by simp at h
  | x :: r, p, 0, l, h => by
    simp at h
    subst h
    simp [worldAt]
  | x :: r, p, i + 1, l, h => by
    have h2 : r[i]? = some l := by simpa using h
    have q := worldAt_get (p := p) h2
    have e : (x :: r).length - 1 - (i + 1) = r.length - 1 - i := by
      rw [List.length_cons]
      omega
    rw [e]
    simpa [worldAt] using q
section
variable {P : Program} {w : World} {K : PySem.W.Frag} {mg : Str → Option Value} {base : Heap}
theorem ok_world_at_place (T : Tx K mg) (S : Ats K mg) : Fd P w K mg base "world_at_place" 1 (spF (fun (d : {d : List Str × Nat // d.1.Nodup ∧ d.1.length ≤ 1000}) => Pm.PC (RL RS d.1.1) (Pm.PC (RI d.1.2) PN)) fun d => RW (worldAt d.1.1 d.1.2)) := by
  obtain ⟨f, fd, F, gm⟩ := S.dworld_at_place
  refine fd_mk F gm cworld_at_place (fun _ _ _ _ _ _ us hl => match us, hl with | [_, _], _ => rfl) (fun d vs G h => len2 h) fun cdv Ar outer s H vs ⟨⟨ls, p⟩, h1, h2⟩ A G0 D hr hq hn => in2 fun v1 v2 => ?_
  have nd := cworld_at_place.nd
  dsimp only at h1 h2
  have hu := hu_of hr
  refine B3.v (fun G h => h.2) fun e => ?_
  subst e
  refine B3.pre (Δ := pAnd (pSame G0) (RL RS ls v1)) ?_ fun G h => h.1
  refine b_setO 2 f_dnew fun q o => B3.v (v := .non) (w := .non) (fun _ _ => rfl) fun _ => ?_
  refine B3.fact (p := o = .dK []) (fun G h => h.2) fun e => ?_
  subst e
  refine b_for (δ := Nat × Option V × Option V) (sd := fun d => [some v1, some (.int p), some (.ref q), d.2.1, d.2.2]) (Ad := fun d => (q, .dK (kvs kS V.bl ((worldAt ls p).take d.1))) :: A) (Γd := fun _ => pAnd (pSame G0) (RL RS ls v1)) (rel := fun i d => d.1 = i) (i_enumL (P := RS) (xs := ls) T.enumerate (e_x 0)) (tg_pair 3 4) (0, none, none) ⟨rfl, rfl, rfl⟩ (fun G h => h.1) (fun Gd i z d w hz hr => ?_) (fun d hr => ?_)
  · obtain ⟨i', a, b⟩ := d
    cases hr
    obtain ⟨k, l⟩ := z
    obtain ⟨e1, e2, e3⟩ := enumL_get hz
    dsimp only at e1 e2
    subst e1
    have hw := worldAt_get (p := p) e2
    have hk : (worldAt ls p).take (k + 1) = putD ((worldAt ls p).take k) l (decide (p / 2 ^ (ls.length - 1 - k) % 2 = 1)) := by
      rw [take_snoc hw, putD_out]
      show l ∉ ((worldAt ls p).take k).map (·.1)
      rw [List.map_take]
      have e4 : (worldAt ls p).map (·.1) = ls := worldAt_keys ls p
      rw [e4]
      intro hm
      obtain ⟨j, hj, ej⟩ := List.mem_take_iff_getElem.mp hm
      exact List.pairwise_iff_getElem.mp h1 j k (by omega) e3 (by omega) (by rw [ej, (List.getElem?_eq_some_iff.mp e2).2])
    refine B3.v (v := w.1) (w := .int k) (fun G h => h.2.1) fun ew => ?_
    refine B3.v (v := w.2) (w := .str l) (fun G h => h.2.2) fun ew2 => ?_
    obtain ⟨w1, w2⟩ := w
    dsimp only at ew ew2
    subst ew ew2
    refine b_dput (k := kS l) (R := RB (decide (p / 2 ^ (ls.length - 1 - k) % 2 = 1))) [] hu (E3.imp (e_eq (e_mod (e_shr (e_v 1) (e_sub (e_sub (e_lenL (R := RS) (xs := ls) T.len (e_x 0)) e_int) (e_v 3)) (by omega)) e_int) e_int) fun v G h => ?_) (e_v 2) (e_v 4) (fun G h => by rw [kvs_len, List.length_take]; exact Nat.lt_of_le_of_lt (Nat.le_trans (Nat.min_le_right ..) (Nat.le_trans (Nat.le_of_eq (worldAt_len ..)) h2)) (by decide)) fun v => ?_
    · have h3 : v = .bl _ := h.2
      rw [h3]
      show V.bl _ = V.bl _
      congr 1
      have e5 : ((ls.length : Int) - 1 - (k : Int)).toNat = ls.length - 1 - k := by omega
      rw [e5]
      have e6 : ((p : Int) / 2 ^ (ls.length - 1 - k)) % 2 = ((p / 2 ^ (ls.length - 1 - k) % 2 : Nat) : Int) := by norm_cast
      rw [e6, Bool.eq_iff_iff, decide_eq_true_eq, decide_eq_true_eq]
      constructor
      · intro z
        injection z with z
        omega
      · intro z
        rw [z]
        rfl
    · refine B3.fact (fun G h => h.2) fun ev => ?_
      subst ev
      exact b_fin rfl (k + 1, some (.int k), some (.str l)) rfl rfl (by show _ = _ :: A; rw [hk, ← kvs_put inr_inj]; rfl) (fun G h => h.1.1)
  · obtain ⟨i', a, b⟩ := d
    cases hr
    have e7 : (worldAt ls p).take (enumL ls).length = worldAt ls p := by rw [enumL_len]; exact List.take_of_length_le (Nat.le_of_eq (worldAt_len ls p))
    dsimp only
    rw [e7]
    exact b_let (b_rt hq (e_x 2 (R := RW (worldAt ls p)) (h := fun G h => ⟨q, rfl, h.2⟩)))
end
end L97
/-! C97f -/
set_option maxHeartbeats 2000000
namespace L97
open PySem PySem.Spec L2 Pm
def brokenC (w : Wd) (c : Cl) : Bool := c.all fun l => decide (getD w l.1 = some (!l.2))
def ROn : Option Nat → V → Pr := RM fun n => RI n
section
variable {P : Program} {w : World} {K : PySem.W.Frag} {mg : Str → Option Value} {base : Heap}
theorem ok_broken_clause (T : Tx K mg) (S : Ats K mg) : Fd P w K mg base "broken_clause" 1 (spF (fun (d : {d : List Cl × Wd // (∀ c ∈ d.1, c.length ≤ 1000) ∧ d.1.length ≤ 1000}) => Pm.PC (RCs d.1.1) (Pm.PC (RW d.1.2) PN)) fun d => ROn (d.1.1.findIdx? (brokenC d.1.2))) := by
  obtain ⟨f, fd, F, gm⟩ := S.dbroken_clause
  refine fd_mk F gm cbroken_clause (fun _ _ _ _ _ _ us hl => match us, hl with | [_, _], _ => rfl) (fun d vs G h => len2 h) fun cdv Ar outer s H vs ⟨⟨cs, wd⟩, h1, h2⟩ A G0 D hr hq hn => in2 fun v1 v2 => ?_
  have nd := cbroken_clause.nd
  dsimp only at h1 h2
  have hu := hu_of hr
  refine b_for (δ := Option V × Option V) (sd := fun d => [some v1, some v2, d.1, d.2, none, none]) (Ad := fun d => A) (Γd := fun _ => pAnd (pAnd (pSame G0) (RCs cs v1)) (RW wd v2)) (rel := fun i d => ∀ j c, j < i → cs[j]? = some c → brokenC wd c = false) (i_enumL (P := RCl) (xs := cs) T.enumerate (e_x 0)) (tg_pair 2 3) (none, none) ⟨fun j c hj => absurd hj (by omega), rfl, rfl⟩ (fun G h => h) (fun Gd i z d w hz hr2 => ?_) (fun d hr2 => ?_)
  · obtain ⟨k, c⟩ := z
    obtain ⟨e1, e2, e3⟩ := enumL_get hz
    dsimp only at e1 e2
    subst e1
    have hc := h1 c (List.mem_of_getElem? e2)
    refine B3.v (v := w.1) (w := .int k) (fun G h => h.2.1) fun ew => ?_
    obtain ⟨w1, w2⟩ := w
    dsimp only at ew
    subst ew
    refine b_when (t_of (e_all (bs := c.map fun l => decide (getD wd l.1 = some (!l.2))) T.all (F3.rl (f_lc (own := [("letter", 4), ("truth", 5)]) (fun l : Lit => decide (getD wd l.1 = some (!l.2))) RB (i_list (P := RLit) (xs := c) (e_x 3)) (tc_two (R1 := RS) (R2 := RB) 4 5) (blkOk_by (N := nbroken_clause) (sc := defScope sbroken_clause) (by decide +kernel)) (fun Gd q l ww hm s H C cl fp => ?_) (Nat.lt_of_le_of_lt hc (by decide)))))) (fun e => ?_) (fun e => ?_)
    · refine E3.imp (e_eq (x := ((getD wd l.1).map V.bl).getD .non) (y := .bl (!l.2)) (e_get1 (ι := kS) (f := V.bl) (d := wd) (k := l.1) inr_inj hu (e_x 1) (e_x 4)) (e_not (e_x 5)) (by cases getD wd l.1 <;> rfl)) fun v G z => ?_
      have z2 : v = .bl _ := z.2
      rw [z2]
      show V.bl _ = V.bl _
      congr 1
      cases getD wd l.1 with
      | none => simp
      | some b => simp
    · refine b_rt hq (e_v 2) (fun v G z => ?_)
      have hb : brokenC wd c = true := by rw [List.all_map] at e; exact e
      have hf : cs.findIdx? (brokenC wd) = some k := by
        rw [List.findIdx?_eq_some_iff_getElem]
        refine ⟨e3, by rw [(List.getElem?_eq_some_iff.mp e2).2]; exact hb, fun j hj => ?_⟩
        rw [hr2 j _ hj (List.getElem?_eq_getElem (by omega))]
        exact Bool.false_ne_true
      show (ROn (cs.findIdx? (brokenC wd)) v).holds _
      rw [hf]
      exact z.2
    · have hb : brokenC wd c = false := by rw [List.all_map] at e; exact e
      refine b_fin rfl (some (.int k), some w2) (fun j c' hj hc' => ?_) rfl rfl fun G h => h.1
      rcases Nat.lt_succ_iff_lt_or_eq.mp hj with hj | hj
      · exact hr2 j c' hj hc'
      · subst hj
        rw [e2] at hc'
        cases hc'
        exact hb
  · refine b_rt hq e_non (fun v G z => ?_)
    have hf : cs.findIdx? (brokenC wd) = none := by
      rw [List.findIdx?_eq_none_iff]
      intro c hc
      obtain ⟨j, hj⟩ := List.mem_iff_getElem?.mp hc
      exact hr2 j c (by rw [enumL_len]; exact get_lt hj) hj
    show (ROn (cs.findIdx? (brokenC wd)) v).holds _
    rw [hf]
    exact z.2
/-- two clauses met -/
def mergeC (x : Str) (d : Wd) : List Lit → Option Wd
  | [] => some d
  | l :: r => if l.1 = x then mergeC x d r else match getD d l.1 with
    | none => mergeC x (putD d l.1 l.2) r
    | some t => if t = l.2 then mergeC x d r else none
def sortedC (d : Wd) : Cl := (sortS (keysD d)).map fun n => (n, (getD d n).getD false)
def metC (one other : Cl) (x : Str) : Option Cl :=
  if (x, true) ∈ one ∧ (x, false) ∈ other then (mergeC x (putsD (·.1) (·.2) [] (one.filter fun l => decide (l.1 ≠ x))) other).map sortedC else none
def datL (l : Lit) : PyData := .tuple [.str l.1, .bool l.2]
theorem d_lit {K : PySem.W.Frag} (l : Lit) (v : V) : (RLit l v).le (pD K v (datL l)) := d_rt2 (d1 := fun x => .str x) (d2 := fun b => .bool b) (fun _ _ => d_rs) (fun _ _ => d_rb)
theorem d_cl {K : PySem.W.Frag} (c : Cl) (v : V) : (RCl c v).le (pD K v (.list (c.map datL))) := d_rl d_lit
theorem eqv_lit {l : Lit} {m : Lit} : PyData.eqv (datL l) (datL m) = decide (l = m) := by
  show ((l.1 == m.1) && ((l.2 == m.2) && true)) = _
  obtain ⟨a, b⟩ := l
  obtain ⟨c, d⟩ := m
  rw [Bool.eq_iff_iff]
  simp
theorem any_lit {c : Cl} {m : Lit} : ((c.map datL).any fun z => PyData.eqv z (datL m)) = decide (m ∈ c) := by
  rw [List.any_map]
  induction c with
  | nil => rfl
  | cons l c ih =>
    rw [List.any_cons, ih]
    show (PyData.eqv (datL l) (datL m) || _) = _
    rw [eqv_lit]
    by_cases e : l = m
    · simp [e]
    · have e2 : ¬ m = l := fun z => e z.symm
      simp [e, e2]
theorem ok_name {x : Str} (h : isLetter x = true) : PyData.strOk x = true := by
  unfold isLetter isName at h
  simp only [Bool.and_eq_true, List.all_eq_true, decide_eq_true_eq] at h
  have h2 := h.1.2
  have hs : ∀ c ∈ SIGS.cps.toList, c < 0x110000 := by decide +kernel
  unfold PyData.strOk
  rw [← Array.all_toList, List.all_eq_true]
  intro c hc
  exact decide_eq_true (hs c (h2 c hc))
theorem shaped_lit {l : Lit} (h : isLetter l.1 = true) : SeqAt.shaped (datL l) = true := by
  have h2 := ok_name h
  simp [SeqAt.shaped, datL, PyData.canLay0, PyData.canLayAll0, PyData.depth, PyData.depthAll, h2]
theorem lay_cl {c : Cl} (h : ∀ l ∈ c, isLetter l.1 = true) : PyData.canLayAll0 (c.map datL) = true ∧ PyData.depthAll (c.map datL) ≤ 1 := by
  induction c with
  | nil => simp [PyData.canLayAll0, PyData.depthAll]
  | cons l c ih =>
    have h2 := ok_name (h l (List.mem_cons_self ..))
    obtain ⟨i1, i2⟩ := ih fun m hm => h m (List.mem_cons_of_mem _ hm)
    simp only [List.map_cons, PyData.canLayAll0, PyData.depthAll, datL, PyData.canLay0, PyData.depth, h2, i1]
    refine ⟨rfl, ?_⟩
    omega
theorem shaped_cl {c : Cl} (h : ∀ l ∈ c, isLetter l.1 = true) : SeqAt.shaped (.list (c.map datL)) = true := by
  obtain ⟨h1, h2⟩ := lay_cl h
  unfold SeqAt.shaped
  rw [Bool.and_eq_true]
  refine ⟨h1, decide_eq_true ?_⟩
  show PyData.depthAll _ + 1 ≤ 64
  omega
theorem mergeC_len (x : Str) : ∀ (r : List Lit) (d d' : Wd), mergeC x d r = some d' → d'.length ≤ d.length + r.length
  | [], d, d', h => by cases h; exact Nat.le_refl _
  | l :: r, d, d', h => by
    unfold mergeC at h
    rw [List.length_cons]
    split at h
    · have := mergeC_len x r d d' h
      omega
    · split at h
      · have := mergeC_len x r _ d' h
        have h2 : (putD d l.1 l.2).length ≤ d.length + 1 := by
          unfold putD
          split
          · rw [List.length_map]; omega
          · rw [List.length_append]; simp
        omega
      · split at h
        · have := mergeC_len x r d d' h
          omega
        · cases h
theorem mergeC_keys (x : Str) : ∀ (r : List Lit) (d d' : Wd), (keysD d).Nodup → mergeC x d r = some d' → (keysD d').Nodup
  | [], d, d', n, h => by cases h; exact n
  | l :: r, d, d', n, h => by
    unfold mergeC at h
    split at h
    · exact mergeC_keys x r d d' n h
    · split at h
      · rename_i hg
        refine mergeC_keys x r _ d' ?_ h
        rw [keys_put, if_neg (get_none.mp hg)]
        exact List.nodup_append.mpr ⟨n, by simp, fun a ha b hb e => by
          rw [List.mem_singleton] at hb
          subst hb
          subst e
          exact get_none.mp hg ha⟩
      · split at h
        · exact mergeC_keys x r d d' n h
        · cases h
end
section
variable {P : Program} {w : World} {K : PySem.W.Frag} {mg : Str → Option Value} {base : Heap}
structure OkM (one other : Cl) (x : Str) : Prop where
  o1 : ∀ l ∈ one, isLetter l.1 = true
  o2 : ∀ l ∈ other, isLetter l.1 = true
  ox : isLetter x = true
  len : one.length + other.length ≤ 60
theorem get_len {d : Wd} {n : Nat} (h : d.length ≤ n) : (keysD d).length ≤ n := by rw [List.length_map]; exact h
theorem ok_met (T : Tx K mg) (S : Ats K mg) : Fd P w K mg base "met" 1 (spF (fun (d : {d : Cl × Cl × Str // OkM d.1 d.2.1 d.2.2}) => Pm.PC (RCl d.1.1) (Pm.PC (RCl d.1.2.1) (Pm.PC (RS d.1.2.2) PN))) fun d => RM RCl (metC d.1.1 d.1.2.1 d.1.2.2)) := by
  obtain ⟨f, fd, F, gm⟩ := S.dmet
  refine fd_mk F gm cmet (fun _ _ _ _ _ _ us hl => match us, hl with | [_, _, _], _ => rfl) (fun d vs G h => len3 h) fun cdv Ar outer s H vs ⟨⟨one, other, x⟩, h1, h2, h3, h4⟩ A G0 D hr hq hn => in3 fun v1 v2 v3 => ?_
  have nd := cmet.nd
  dsimp only at h1 h2 h3 h4
  have hu := hu_of hr
  refine B3.v (fun G h => h.2) fun e => ?_
  subst e
  refine b_when (t_or (t_ninDp (d := datL (x, true)) (ds := one.map datL) (hu65 hr) (e_tup2 (R1 := RS) (R2 := RB) (x := x) (y := true) (e_v 2) e_bl) (e_x 0 (R := RCl one)) (d_lit _) (d_cl _) (shaped_lit h3) (shaped_cl h1)) fun _ => t_ninDp (d := datL (x, false)) (ds := other.map datL) (hu65 hr) (e_tup2 (R1 := RS) (R2 := RB) (x := x) (y := false) (e_v 2) e_bl) (e_x 1 (R := RCl other)) (d_lit _) (d_cl _) (shaped_lit h3) (shaped_cl h2)) (fun e => ?_) (fun e => ?_)
  · refine b_rt hq e_non fun v G z => ?_
    have hm : metC one other x = none := by
      unfold metC
      rw [any_lit, any_lit] at e
      rw [if_neg]
      rintro ⟨a, b⟩
      simp [a, b] at e
    show (RM RCl (metC one other x) v).holds G
    rw [hm]
    exact z.2
  have hm : metC one other x = (mergeC x (putsD (·.1) (·.2) [] (one.filter fun l => decide (l.1 ≠ x))) other).map sortedC := by
    unfold metC
    rw [any_lit, any_lit] at e
    rw [if_pos]
    simpa using e
  show B3 _ _ _ _ _ _
  have hd0 : (putsD (·.1) (·.2) [] (one.filter fun l => decide (l.1 ≠ x)) : Wd).length ≤ one.length := by
    refine Nat.le_trans puts_len ?_
    rw [List.length_nil, Nat.zero_add]
    exact List.length_filter_le ..
  have hk0 : (keysD (putsD (·.1) (·.2) [] (one.filter fun l => decide (l.1 ≠ x)) : Wd)).Nodup := by
    rw [keys_puts]
    exact nubA_nodup List.nodup_nil
  generalize hdd : (putsD (·.1) (·.2) [] (one.filter fun l => decide (l.1 ≠ x)) : Wd) = d0 at hm hd0 hk0
  refine b_setO 3 (R := fun o => pP (o = .dK (kvs kS V.bl d0))) (fun H Q ok g k => f_dcF (own := [("name", 4), ("truth", 5)]) (fun l : Lit => decide (l.1 ≠ x)) (fun l : Lit => kS l.1) (fun l => V.bl l.2) (i_list (P := RLit) (xs := one) (e_x 0)) (tc_two (R1 := RS) (R2 := RB) 4 5) (blkOk_by (N := nmet) (sc := defScope smet) (by decide +kernel)) (fun Gd q l w hm s H C cl fp => ?_) (fun Gd q l w hm _ s H C cl fp => e_x 4) (fun Gd q l w hm _ s H C cl fp => e_x 5) (by rw [sizeLine_eq]; omega) (by intro _; rfl) rfl nd (by intro _; rfl) H Q ok g fun p o H' n r => k p o H' n (by
      have r : o = _ := r
      rw [r, ← hdd]
      exact congrArg HO.dK (kvs_puts (f := V.bl) inr_inj (fun l : Lit => l.1) (fun l => l.2) _ []))) fun q o => ?_
  · exact (t_ne (e_x 4 (R := RS l.1)) (e_v 2)).eq (by simp)
  refine B3.fact (fun G h => h.2) fun eo => ?_
  subst eo
  refine b_for (δ := Wd × Option V × Option V) (sd := fun d => [some v1, some v2, some (.str x), some (.ref q), d.2.1, d.2.2]) (Ad := fun d => (q, .dK (kvs kS V.bl d.1)) :: A) (Γd := fun _ => pAnd (pSame G0) (RCl other v2)) (rel := fun i d => mergeC x d0 other = mergeC x d.1 (other.drop i) ∧ d.1.length ≤ one.length + i ∧ (keysD d.1).Nodup) (i_list (P := RLit) (xs := other) (e_x 1)) (tg_pair (R1 := RS) (R2 := RB) 4 5) (d0, none, none) ⟨⟨rfl, hd0, hk0⟩, rfl, rfl⟩ (fun G h => ⟨h.1.1.1.1, h.1.1.2⟩) (fun Gd i l d w hz hr2 => ?_) (fun d hr2 => ?_)
  · obtain ⟨d, a, b⟩ := d
    obtain ⟨hm1, hm2, hm3⟩ := hr2
    dsimp only at hm1 hm2 hm3
    rw [drop_cons' hz] at hm1
    have hi := get_lt hz
    refine B3.v (v := w.1) (w := .str l.1) (fun G h => h.2.1) fun ew => ?_
    refine B3.v (v := w.2) (w := .bl l.2) (fun G h => h.2.2) fun ew2 => ?_
    obtain ⟨w1, w2⟩ := w
    dsimp only at ew ew2
    subst ew ew2
    by_cases hx : l.1 = x
    · have e1 : mergeC x d (l :: other.drop (i + 1)) = mergeC x d (other.drop (i + 1)) := by
        show (if l.1 = x then _ else _) = _
        rw [if_pos hx]
      rw [e1] at hm1
      exact b_when (t_and (u := false) (t_ne (e_v 4) (e_v 2)) fun e => absurd e (by simp [hx])) (fun e => absurd e (by simp [hx])) fun e => b_fin rfl (d, some (.str l.1), some (.bl l.2)) ⟨hm1, by show d.length ≤ _; omega, hm3⟩ rfl rfl fun G h => h.1
    · have e1 : mergeC x d (l :: other.drop (i + 1)) = (match getD d l.1 with
        | none => mergeC x (putD d l.1 l.2) (other.drop (i + 1))
        | some t => if t = l.2 then mergeC x d (other.drop (i + 1)) else none) := by
        show (if l.1 = x then _ else _) = _
        rw [if_neg hx]
      rw [e1] at hm1
      refine b_ifE fun H ok g => ?_
      refine et_and (A := (q, .dK (kvs kS V.bl d)) :: A) ((t_ne (e_v 4) (e_v 2)).eq (by simp [hx])) ok g fun H1 x1 => ?_
      have g1 := Pr.mono _ x1.same g
      refine Et.of (pt_cmpR op_ne (evPE _) (evPE _) (nomark _)) ?_
      refine ev_setd (ι := kS) (f := V.bl) (d := d) (k := l.1) (x := l.2) [] inr_inj x1.ok g1 (e_v 3) (e_v 4) (e_v 5) (by rw [sizeLine_eq]; omega) (fun t H2 ht ok2 g2 => ?_) (fun H2 ht ok2 g2 => ?_)
      · refine (e_v 5) H2 _ ok2 g2 fun u H3 x3 r3 => ?_
        cases (show u = .bl l.2 from r3)
        refine ⟨by cases t <;> cases l.2 <;> rfl, _, rfl, ?_⟩
        rw [ht] at hm1
        by_cases et : t = l.2
        · dsimp only at hm1
          rw [if_pos et] at hm1
          have : (!decide (V.bl t = V.bl l.2)) = false := by simp [et]
          rw [this]
          refine iteF (B3.at ?_ x3.ok (Pr.mono _ x3.same g2))
          exact b_gon rfl <| b_fin rfl (d, some (.str l.1), some (.bl l.2)) ⟨hm1, by show d.length ≤ _; omega, hm3⟩ rfl rfl fun G h => h.1
        · dsimp only at hm1
          rw [if_neg et] at hm1
          have : (!decide (V.bl t = V.bl l.2)) = true := by simp [et]
          rw [this]
          refine iteT (B3.at (b_let (b_rt hq e_non fun v G z => ?_)) x3.ok (Pr.mono _ x3.same g2))
          show (RM RCl (metC one other x) v).holds G
          rw [hm, hm1]
          exact z.2
      · refine (e_v 5) H2 _ ok2 g2 fun u H3 x3 r3 => ?_
        cases (show u = .bl l.2 from r3)
        refine ⟨by cases l.2 <;> rfl, _, rfl, ?_⟩
        rw [ht] at hm1
        have : (!decide (V.bl l.2 = V.bl l.2)) = false := by simp
        rw [this]
        have hlen : (putD d l.1 l.2).length ≤ d.length + 1 := by
          unfold putD
          split
          · rw [List.length_map]; omega
          · rw [List.length_append]; simp
        have hnd : (keysD (putD d l.1 l.2)).Nodup := by
          rw [keys_put, if_neg (get_none.mp ht)]
          exact List.nodup_append.mpr ⟨hm3, by simp, fun a ha b hb e => by
            rw [List.mem_singleton] at hb
            subst hb
            subst e
            exact get_none.mp ht ha⟩
        refine iteF (B3.at ?_ x3.ok (Pr.mono _ x3.same g2))
        exact b_gon rfl <| b_fin rfl (putD d l.1 l.2, some (.str l.1), some (.bl l.2)) ⟨hm1, by show (putD d l.1 l.2).length ≤ _; omega, hnd⟩ rfl rfl fun G h => h.1
  · obtain ⟨d, a, b⟩ := d
    obtain ⟨hm1, hm2, hm3⟩ := hr2
    dsimp only at hm1 hm2 hm3
    rw [List.drop_length] at hm1
    have hm1 : mergeC x d0 other = some d := hm1
    rw [hm1] at hm
    have hlen : d.length ≤ 60 := by omega
    dsimp only
    refine b_let (b_rt hq (F3.rl (f_lc (own := [("name", 4)]) (fun n => (n, (getD d n).getD false)) RLit (i_list (P := RS) (xs := sortS (keysD d)) (F3.rl (f_sortRD T.sorted (e_x 3 (R := RD (kvs kS V.bl d)) (h := fun G h => ⟨q, rfl, h.2⟩)) (kvs_keys d) (by have := get_len hlen; omega)))) (tc_name 4) (blkOk_by (N := nmet) (sc := defScope smet) (by decide +kernel)) (fun Gd q2 n w hmm s H C cl fp => ?_) (by rw [(sortS_perm _).length_eq, sizeLine_eq]; have := get_len hlen; omega))) (fun v G z => ?_))
    · have hn : n ∈ keysD d := mem_sortS.mp hmm
      obtain ⟨t, ht⟩ : ∃ t, getD d n = some t := by
        cases e : getD d n with
        | none => exact absurd hn (get_none.mp e)
        | some t => exact ⟨t, rfl⟩
      rw [ht]
      exact e_tup2 (R1 := RS) (R2 := RB) (x := n) (y := t) (e_x 4) (e_dgetK (ι := kS) (f := V.bl) (d := d) (k := n) inr_inj hu (e_x 3 (R := RD (kvs kS V.bl d)) (h := fun G h => ⟨q, rfl, h.1.1.2⟩)) (e_x 4) ht)
    · show (RM RCl (metC one other x) v).holds G
      rw [hm]
      exact z.2
end
end L97
/-! C97g -/
set_option maxHeartbeats 2000000
namespace L97
open PySem PySem.Spec L2 Pm
/-- a step of a proof -/
inductive Stp
  | told (n : Nat)
  | met (i j : Nat) (x : Str)
def Stp.vals : Stp → List V
  | .told n => [.str "told", .int n]
  | .met i j x => [.str "met", .int i, .int j, .str x]
abbrev RStp (s : Stp) : V → Pr := RP s.vals
def stepC (cs told : List Cl) : Stp → Option Cl
  | .told n => cs[n]?
  | .met i j x => match told[i]?, told[j]? with
    | some a, some b => metC a b x
    | _, _ => none
structure OkCl2 (c : Cl) : Prop where
  let_ : ∀ l ∈ c, isLetter l.1 = true
  few : c.length ≤ 30
  nd : (c.map (·.1)).Nodup
def OkStp (cs told : List Cl) : Stp → Prop
  | .told n => n < cs.length
  | .met i j x => i < told.length ∧ j < told.length ∧ isLetter x = true
section
variable {X : Cx} {A : Own} {S Γ : Pr} {N : List Str} {vs : List V} {blk : List Stmt} {D : Ends} {R1 R2 R3 : V → Pr}
variable {P : Program} {w : World} {K : PySem.W.Frag} {mg : Str → Option Value} {base : Heap}
theorem ok_stepped (T : Tx K mg) (S : Ats K mg) : Fd P w K mg base "stepped" 3 (spO (fun (d : {d : List Cl × List Cl × Stp // OkStp d.1 d.2.1 d.2.2 ∧ (∀ c ∈ d.1, c.length ≤ 1000) ∧ ∀ c ∈ d.2.1, OkCl2 c}) A => Pm.PC (RCs d.1.1) (Pm.PC (RLo RCl d.1.2.1 A) (Pm.PC (RStp d.1.2.2) PN))) fun d _ => RM RCl (stepC d.1.1 d.1.2.1 d.1.2.2)) := by
  obtain ⟨f, fd, F, gm⟩ := S.dstepped
  refine fd_mkO F gm cstepped (fun _ _ _ _ _ _ us hl => match us, hl with | [_, _, _], _ => rfl) (fun d A vs G h => len3 h) fun cdv Ar outer s H vs ⟨⟨cs, told, st⟩, h1, h2, h3⟩ A G0 D hr hq hn => in3 fun v1 v2 v3 => ?_
  have nd := cstepped.nd
  dsimp only at h1 h2 h3
  have hu := hu_of hr
  have st0 : ∃ x : Str, st.vals[0]? = some (.str x) ∧ (x = "told" ∨ x = "met") := by
    cases st with
    | told n => exact ⟨_, rfl, .inl rfl⟩
    | met i j x => exact ⟨_, rfl, .inr rfl⟩
  have hlen : ¬ st.vals = [] := by cases st <;> simp [Stp.vals]
  refine b_when (t_or (t_not (t_of (e_c (ok_is_list T S) hr false (a_cons (e_var 2 (R := pTy K "tuple") (fun G h => ty_rp G h.2)) a_nil)))) fun _ => t_eq (e_len (n := st.vals.length) T.len (e_x 2 (R := RStp st)) s_rp (fun vs G _ e => by cases (show vs = _ from e); rfl)) e_int) (fun e => by simp at e; exact absurd e hlen) (fun e => ?_)
  cases st with
  | told n =>
    have h1 : n < cs.length := h1
    have hc := List.getElem?_eq_getElem h1
    have a1 : ∀ {A' : Own} {Γ' : Pr} {p : Pos}, Γ'.le (RStp (.told n) v3) → E3 (cxOf CX0 P w K mg base nstepped (Str.ofString "stepped") (defScope sstepped) f cdv Ar outer s H E0).nox A' Γ' (start nstepped [v1, v2, v3]) (.Name "step" p) (RStp (.told n)) := fun h => e_var 2 h
    refine b_when (t_and3 (t_eq (x := .str "told") (e_at (e_x 2 (R := RStp (.told n))) e_int s_rp (fun vs G _ e => ⟨_, by cases (show vs = _ from e); rfl, rfl⟩)) e_str) (fun _ => t_eq (e_len (n := 2) T.len (e_x 2 (R := RStp (.told n))) s_rp (fun vs G _ e => by cases (show vs = _ from e); rfl)) e_int) fun _ _ => t_of (e_c (ok_is_between T S) hr ((n : Int), 0, (cs.length : Int) - 1) (a_cons (e_at (e_x 2 (R := RStp (.told n))) e_int s_rp (fun vs G _ e => ⟨_, by cases (show vs = _ from e); rfl, rfl⟩)) (a_cons e_int (a_cons (e_sub (e_lenL (R := RCl) (xs := cs) T.len (e_x 0)) e_int) a_nil))))) (fun e => ?_) (fun e => ?_)
    · refine b_rt hq (e_c (ok_told_clause T S) hr ⟨cs[n], h2 _ (List.getElem_mem h1)⟩ (a_cons (e_atL (R := RCl) (xs := cs) n (e_x 0) (e_at (R := RI n) (e_x 2 (R := RStp (.told n))) e_int s_rp (fun vs G _ e => ⟨_, by cases (show vs = _ from e); rfl, rfl⟩)) rfl hc) a_nil)) (fun v G z => ?_)
      show (RM RCl (cs[n]?) v).holds G
      rw [hc]
      exact z.2
    · simp at e
      omega
  | met i j x =>
    obtain ⟨hi, hj, hx⟩ : i < told.length ∧ j < told.length ∧ isLetter x = true := h1
    have eti := List.getElem?_eq_getElem hi
    have etj := List.getElem?_eq_getElem hj
    refine b_when (t_and3 (u := false) (w := false) (t_eq (x := .str "met") (e_at (e_x 2 (R := RStp (.met i j x))) e_int s_rp (fun vs G _ e => ⟨_, by cases (show vs = _ from e); rfl, rfl⟩)) e_str) (fun e => absurd e (by decide)) fun e => absurd e (by decide)) (fun e => absurd e (by decide)) (fun e => ?_)
    refine b_when (t_or3 (t_ne (x := .str "met") (e_at (e_x 2 (R := RStp (.met i j x))) e_int s_rp (fun vs G _ e => ⟨_, by cases (show vs = _ from e); rfl, rfl⟩)) e_str) (fun _ => t_ne (e_len (n := 4) T.len (e_x 2 (R := RStp (.met i j x))) s_rp (fun vs G _ e => by cases (show vs = _ from e); rfl)) e_int) fun _ _ => t_not (t_of (e_all (bs := [V.int i, V.int j].map fun _ => true) T.all (F3.rl (f_lc (own := [("at", 3)]) (fun _ => true) RB (i_tup (P := RV) (xs := [V.int i, V.int j]) (F3.rt (f_sliceT (l := some 1) (h := some 3) (vs := (Stp.met i j x).vals) (e_x 2 (R := RStp (.met i j x))) (fun v H ok g ⟨p, e, hp⟩ => ⟨p, e, SqT.of (hide_le _ _ hp)⟩) (po_some (evPE _)) (po_some (evPE _)) (fun H Q ok g k => e_int H _ ok g fun v H' x r => ⟨1, r, k _ x⟩) (fun H Q ok g k => e_int H _ ok g fun v H' x r => ⟨3, r, k _ x⟩) (by show ¬ (HT.sIx 4 0 (some 1) = 0 ∧ HT.sIx 4 4 (some 3) = 4); decide)))) (tc_name 3) (blkOk_by (N := nstepped) (sc := defScope sstepped) (by decide +kernel)) (fun Gd q z w hm s H C cl fp => ?_) (by show 2 < sizeLine; decide)))))) (fun e => absurd e (by simp)) (fun e => ?_)
    · have hz : ∃ n : Nat, z = .int n ∧ n < told.length := by
        rcases List.mem_cons.mp hm with e | hm
        · exact ⟨i, e, hi⟩
        · exact ⟨j, List.mem_singleton.mp hm, hj⟩
      obtain ⟨n, rfl, hn⟩ := hz
      refine E3.imp (e_c (R := RB (decide ((0 : Int) ≤ n) && decide ((n : Int) ≤ (told.length : Int) - 1))) (ok_is_between T S) hr ((n : Int), 0, (told.length : Int) - 1) (a_cons (e_x 3 (R := RI n)) (a_cons e_int (a_cons (e_sub (e_len T.len (e_x 1 (R := RLo RCl told A)) s_rlo1.s (fun vs G _ r => (pAll_len r).symm)) e_int) a_nil)))) fun v G z => ?_
      · have z2 : v = _ := z.2
        rw [z2]
        show V.bl _ = V.bl _
        congr 1
        simp
        omega
    · refine b_rt hq (e_c (ok_met T S) hr ⟨(told[i], told[j], x), ?_⟩ (a_cons (e_at (R := RCl told[i]) (e_x 1 (R := RLo RCl told A)) (e_at (R := RI i) (e_x 2 (R := RStp (.met i j x))) e_int s_rp (fun vs G _ e => ⟨_, by cases (show vs = _ from e); rfl, rfl⟩)) s_rlo.s fun vs G _ h => at_all rfl eti vs G h) (a_cons (e_at (R := RCl told[j]) (e_x 1 (R := RLo RCl told A)) (e_at (R := RI j) (e_x 2 (R := RStp (.met i j x))) e_int s_rp (fun vs G _ e => ⟨_, by cases (show vs = _ from e); rfl, rfl⟩)) s_rlo.s fun vs G _ h => at_all rfl etj vs G h) (a_cons (e_at (R := RS x) (e_x 2 (R := RStp (.met i j x))) e_int s_rp (fun vs G _ e => ⟨_, by cases (show vs = _ from e); rfl, rfl⟩)) a_nil)))) (fun v G z => ?_)
      · have k1 := h3 _ (List.getElem_mem hi)
        have k2 := h3 _ (List.getElem_mem hj)
        exact ⟨k1.let_, k2.let_, hx, by have := k1.few; have := k2.few; dsimp only; omega⟩
      · show (RM RCl (match told[i]?, told[j]? with
          | some a, some b => metC a b x
          | _, _ => none) v).holds G
        rw [eti, etj]
        exact z.2
end
end L97
/-! C97h -/
set_option maxHeartbeats 2000000
namespace L97
open PySem PySem.Spec L2 Pm
def Along (cs : List Cl) : List Stp → List Cl → List Cl → Prop
  | [], told, r => r = told
  | s :: ss, told, r => OkStp cs told s ∧ ∃ c, stepC cs told s = some c ∧ OkCl2 c ∧ Along cs ss (told ++ [c]) r
structure OkPf (cs : List Cl) (ss : List Stp) (res : List Cl) : Prop where
  run : Along cs ss [] res
  len : ss.length ≤ 9000
  cl : ∀ c ∈ cs, c.length ≤ 1000
theorem along_len {cs : List Cl} : ∀ {ss : List Stp} {told r : List Cl}, Along cs ss told r → r.length = told.length + ss.length
  | [], told, r, h => by cases h; rfl
  | s :: ss, told, r, ⟨_, c, _, _, h⟩ => by
    have := along_len h
    rw [List.length_append] at this
    simp at this ⊢
    omega
theorem along_ok {cs : List Cl} : ∀ {ss : List Stp} {told r : List Cl}, Along cs ss told r → (∀ c ∈ told, OkCl2 c) → ∀ c ∈ r, OkCl2 c
  | [], told, r, h, k => by cases h; exact k
  | s :: ss, told, r, ⟨_, c, _, hc, h⟩, k => along_ok h fun d hd => by
    rcases List.mem_append.mp hd with hd | hd
    · exact k d hd
    · rw [List.mem_singleton] at hd
      subst hd
      exact hc
section
variable {P : Program} {w : World} {K : PySem.W.Frag} {mg : Str → Option Value} {base : Heap}
theorem ok_clauses_along (T : Tx K mg) (S : Ats K mg) : Fd P w K mg base "clauses_along" 4 (spF (fun (d : {d : List Cl × List Stp × List Cl // OkPf d.1 d.2.1 d.2.2}) => Pm.PC (RCs d.1.1) (Pm.PC (RL RStp d.1.2.1) PN)) fun d => RCs d.1.2.2) := by
  obtain ⟨f, fd, F, gm⟩ := S.dclauses_along
  refine fd_mk F gm cclauses_along (fun _ _ _ _ _ _ us hl => match us, hl with | [_, _], _ => rfl) (fun d vs G h => len2 h) fun cdv Ar outer s H vs ⟨⟨cs, ss, res⟩, h1, h2, h3⟩ A G0 D hr hq hn => in2 fun v1 v2 => ?_
  have nd := cclauses_along.nd
  dsimp only at h1 h2 h3
  refine b_when (t_or (t_not (t_of (e_c (ok_is_list T S) hr true (a_cons (e_var 1 (R := pTy K "list") (fun G h => ty_rl G h.2)) a_nil)))) fun _ => t_gt (e_lenL (R := RStp) (xs := ss) T.len (e_x 1)) (e_gI T.cLONG)) (fun e => by simp at e; omega) (fun e => ?_)
  refine b_setL 2 (P := RCl) (xs := []) f_nil fun q vs0 => ?_
  refine b_for (δ := List Cl × List V × Option V × Option V) (sd := fun d => [some v1, some v2, some (.ref q), d.2.2.1, d.2.2.2]) (Ad := fun d => (q, .lst d.2.1) :: A) (Γd := fun d => pAnd (pAnd (pAnd (pSame G0) (RCs cs v1)) (RL RStp ss v2)) (pAll RCl d.1 d.2.1)) (rel := fun i d => Along cs (ss.drop i) d.1 res ∧ (∀ c ∈ d.1, OkCl2 c) ∧ d.1.length = i) (i_list (P := RStp) (xs := ss) (e_x 1)) (tg_name 3) ([], vs0, none, none) ⟨⟨h1, fun c (hc : c ∈ []) => absurd hc (List.not_mem_nil), rfl⟩, rfl, rfl⟩ (fun G h => ⟨h.1, h.2⟩) (fun Gd i st d w hz hr2 => ?_) (fun d hr2 => ?_)
  · obtain ⟨told, vs, a, b⟩ := d
    obtain ⟨k1, k2, k3⟩ := hr2
    dsimp only at k1 k2 k3
    rw [drop_cons' hz] at k1
    obtain ⟨k4, c, k5, k6, k7⟩ := k1
    have hi := get_lt hz
    refine b_set 4 (R := RCl c) (e_co (A := (q, .lst vs) :: A) (ok_stepped T S) hr ⟨(cs, told, st), k4, h3, k2⟩ (a_cons (e_x 0 (R := RCs cs)) (a_cons (e_var 2 (R := RLo RCl told ((q, .lst vs) :: A)) (fun G h => ⟨q, vs, ⟨rfl, List.mem_cons_self ..⟩, h.1.1.2⟩)) (a_cons (e_x 3 (R := RStp st)) a_nil))) (fun _ _ h => h.2) (fun v G h => by
      have h : (RM RCl (stepC cs told st) v).holds G := h
      rw [k5] at h
      exact h)) fun v => ?_
    refine B3.fact (fun G h => rl_ref h.2) fun ⟨ad, ev⟩ => ?_
    refine b_when (t_isN (e_v 4)) (fun e => by subst ev; exact absurd e (by simp)) (fun e => ?_)
    refine b_ap [] 2 (R := RCl c) (e_x 4) (fun G h => by rw [← pAll_len h.1.1.1.2, k3, sizeLine_eq]; omega) fun u => ?_
    exact b_fin rfl (told ++ [c], vs ++ [u], some w, some v) ⟨k7, fun c' hc' => (List.mem_append.mp hc').elim (k2 c') (fun z => by rw [List.mem_singleton] at z; subst z; exact k6), by show (told ++ [c]).length = _; rw [List.length_append, k3]; rfl⟩ rfl rfl fun G h => ⟨⟨h.1.1.1.1.1, pAll_app h.1.1.1.1.2 (pAll_one h.2)⟩, h.1.1.1.2⟩
  · obtain ⟨told, vs, a, b⟩ := d
    obtain ⟨k1, k2, k3⟩ := hr2
    dsimp only at k1 k2 k3 ⊢
    rw [List.drop_length] at k1
    have k1 : res = told := k1
    subst k1
    exact b_let (b_rt hq (e_var 2 (R := RCs res) fun G h => ⟨q, vs, rfl, h.2, h.1.2⟩))
theorem ok_is_proof (T : Tx K mg) (S : Ats K mg) : Fd P w K mg base "is_proof" 7 (spF (fun (d : {d : List Cl × List Stp × List Cl // OkCs d.1 ∧ OkPf d.1 d.2.1 d.2.2 ∧ d.2.2.getLast? = some []}) => Pm.PC (RCs d.1.1) (Pm.PC (RL RStp d.1.2.1) PN)) fun d => RB true) := by
  obtain ⟨f, fd, F, gm⟩ := S.dis_proof
  refine fd_mk F gm cis_proof (fun _ _ _ _ _ _ us hl => match us, hl with | [_, _], _ => rfl) (fun d vs G h => len2 h) fun cdv Ar outer s H vs ⟨⟨cs, ss, res⟩, h0, h1, h2⟩ A G0 D hr hq hn => in2 fun v1 v2 => ?_
  have nd := cis_proof.nd
  dsimp only at h0 h1 h2
  refine b_expr (e_c (ok_check_clauses T S) hr ⟨cs, h0⟩ (a_cons (e_x 0) a_nil)) fun v => ?_
  refine b_set 2 (R := RCs res) (e_c (ok_clauses_along T S) hr ⟨(cs, ss, res), h1⟩ (a_cons (e_x 0) (a_cons (e_x 1) a_nil))) fun u => ?_
  refine B3.fact (fun G h => rl_ref h.2) fun ⟨ad, ev⟩ => ?_
  have hp : 0 < res.length := by
    cases res with
    | nil => cases h2
    | cons => simp
  refine b_rt hq (e_andL (e_notN (e_v 2)) fun _ => e_andL (e_gt (e_lenL (R := RCl) (xs := res) T.len (e_x 2)) e_int) fun _ => e_one (e_eqDp (d := .list []) (d' := .list []) (hu64 hr) (e_at (R := RCl []) (e_x 2 (R := RCs res)) (e_neg1) s_rl.s fun vs G _ h => ?_) (F3.rl (P := RLit) (xs := []) f_nil) (fun v => d_cl []  v) (fun v => ?_) (by decide +kernel) (by decide +kernel))) (by
    intro v G z
    have z2 := z.2
    have e1 : decide (u = V.non) = false := by rw [ev]; simp
    rw [e1] at z2
    have e3 : PyData.eqv (.list []) (.list []) = true := by decide +kernel
    rw [e3] at z2
    simpa [hp] using z2)
  · obtain ⟨x, e1, e2⟩ := pAll_last h h2
    exact ⟨x, atI_neg1 e1, e2⟩
  · exact d_cl [] v
theorem ok_proof_clauses (T : Tx K mg) (S : Ats K mg) : Fd P w K mg base "proof_clauses" 8 (spF (fun (d : {d : List Cl × List Stp × List Cl // OkCs d.1 ∧ OkPf d.1 d.2.1 d.2.2 ∧ d.2.2.getLast? = some []}) => Pm.PC (RCs d.1.1) (Pm.PC (RL RStp d.1.2.1) PN)) fun d => RCs d.1.2.2) := by
  obtain ⟨f, fd, F, gm⟩ := S.dproof_clauses
  refine fd_mk F gm cproof_clauses (fun _ _ _ _ _ _ us hl => match us, hl with | [_, _], _ => rfl) (fun d vs G h => len2 h) fun cdv Ar outer s H vs ⟨⟨cs, ss, res⟩, h0, h1, h2⟩ A G0 D hr hq hn => in2 fun v1 v2 => ?_
  have nd := cproof_clauses.nd
  dsimp only at h0 h1 h2
  refine b_when (t_not (t_of (e_c (ok_is_proof T S) hr ⟨(cs, ss, res), h0, h1, h2⟩ (a_cons (e_x 0) (a_cons (e_x 1) a_nil))))) (fun e => absurd e (by decide)) (fun e => ?_)
  exact b_rt hq (e_c (ok_clauses_along T S) hr ⟨(cs, ss, res), h1⟩ (a_cons (e_x 0) (a_cons (e_x 1) a_nil)))
end
end L97
/-! C97i -/
set_option maxHeartbeats 2000000
/-! plain: clauses that a world breaks, clauses met -/
namespace L97
open PySem PySem.Spec L2 Pm
theorem nodup_len {α : Type} [DecidableEq α] : ∀ {l m : List α}, l.Nodup → (∀ x ∈ l, x ∈ m) → l.length ≤ m.length
  | [], m, _, _ => Nat.zero_le _
  | x :: l, m, hn, hs => by
    obtain ⟨h1, h2⟩ := List.nodup_cons.mp hn
    have hx := hs x (List.mem_cons_self ..)
    have h3 : l.length ≤ (m.erase x).length := nodup_len h2 fun y hy => (List.mem_erase_of_ne (fun e => h1 (by rw [← e]; exact hy))).mpr (hs y (List.mem_cons_of_mem _ hy))
    rw [List.length_erase_of_mem hx] at h3
    have h4 : 0 < m.length := List.length_pos_of_mem hx
    rw [List.length_cons]
    omega
theorem broken_iff {w : Wd} {c : Cl} : brokenC w c = true ↔ ∀ l ∈ c, getD w l.1 = some (!l.2) := by
  unfold brokenC
  rw [List.all_eq_true]
  simp
theorem mem_put {κ β : Type} [DecidableEq κ] {d : List (κ × β)} {k : κ} {v : β} {p : κ × β} (h : p ∈ putD d k v) : p ∈ d ∨ p = (k, v) := by
  by_cases hk : k ∈ keysD d
  · rw [putD_in hk] at h
    obtain ⟨q, hq, rfl⟩ := List.mem_map.mp h
    by_cases e : q.1 = k
    · rw [if_pos e]
      exact .inr (by rw [e])
    · rw [if_neg e]
      exact .inl hq
  · rw [putD_out hk] at h
    rcases List.mem_append.mp h with h | h
    · exact .inl h
    · exact .inr (List.mem_singleton.mp h)
theorem mem_puts {κ β : Type} [DecidableEq κ] : ∀ {zs d : List (κ × β)} {p : κ × β}, p ∈ putsD (·.1) (·.2) d zs → p ∈ d ∨ p ∈ zs
  | [], d, p, h => .inl h
  | z :: zs, d, p, h => by
    rcases mem_puts (zs := zs) (d := putD d z.1 z.2) h with h | h
    · rcases mem_put h with h | h
      · exact .inl h
      · exact .inr (List.mem_cons.mpr (.inl h))
    · exact .inr (List.mem_cons_of_mem _ h)
/-- what a dict of a clause's letters holds, in a world that breaks it -/
structure Brk (w : Wd) (d : Wd) : Prop where
  br : ∀ p ∈ d, getD w p.1 = some (!p.2)
  let_ : ∀ p ∈ d, isLetter p.1 = true
  nd : (keysD d).Nodup
theorem put_nd {κ β : Type} [DecidableEq κ] {d : List (κ × β)} {k : κ} {v : β} (h : (keysD d).Nodup) : (keysD (putD d k v)).Nodup := by
  rw [keys_put]
  split
  · exact h
  · rename_i hk
    exact List.nodup_append.mpr ⟨h, by simp, fun a ha b hb e => by
      rw [List.mem_singleton] at hb
      subst hb
      subst e
      exact hk ha⟩
theorem merge_brk {w : Wd} {x : Str} : ∀ {r : List Lit} {d : Wd}, Brk w d → (∀ l ∈ r, l.1 ≠ x → getD w l.1 = some (!l.2)) → (∀ l ∈ r, isLetter l.1 = true) → ∃ d', mergeC x d r = some d' ∧ Brk w d'
  | [], d, b, _, _ => ⟨d, rfl, b⟩
  | l :: r, d, b, h1, h2 => by
    have t1 := fun m hm => h1 m (List.mem_cons_of_mem _ hm)
    have t2 := fun m hm => h2 m (List.mem_cons_of_mem _ hm)
    unfold mergeC
    by_cases hx : l.1 = x
    · rw [if_pos hx]
      exact merge_brk b t1 t2
    · rw [if_neg hx]
      have hl := h1 l (List.mem_cons_self ..) hx
      cases hg : getD d l.1 with
      | none =>
        refine merge_brk ⟨fun p hp => ?_, fun p hp => ?_, put_nd b.nd⟩ t1 t2
        · rcases mem_put hp with hp | hp
          · exact b.br p hp
          · rw [hp]; exact hl
        · rcases mem_put hp with hp | hp
          · exact b.let_ p hp
          · rw [hp]; exact h2 l (List.mem_cons_self ..)
      | some t =>
        have ht := b.br _ (mem_of_get hg)
        have e : t = l.2 := by
          rw [hl] at ht
          have := Option.some.inj ht
          cases t <;> cases h : l.2 <;> simp_all
        dsimp only
        rw [if_pos e]
        exact merge_brk b t1 t2
theorem sorted_brk {w d : Wd} (b : Brk w d) : brokenC w (sortedC d) = true ∧ (∀ l ∈ sortedC d, isLetter l.1 = true) ∧ (sortedC d).length ≤ w.length ∧ ((sortedC d).map (·.1)).Nodup := by
  have hm : ∀ l ∈ sortedC d, l ∈ d := fun l hl => by
    obtain ⟨n, hn, rfl⟩ := List.mem_map.mp hl
    have hk := mem_sortS.mp hn
    cases e : getD d n with
    | none => exact absurd hk (get_none.mp e)
    | some t => exact mem_of_get e
  refine ⟨broken_iff.mpr fun l hl => b.br l (hm l hl), fun l hl => b.let_ l (hm l hl), ?_, ?_⟩
  rotate_left
  · unfold sortedC
    rw [List.map_map]
    have e : ((fun l : Lit => l.1) ∘ fun n => (n, (getD d n).getD false)) = id := rfl
    have := (sortS_perm (keysD d)).nodup_iff.mpr b.nd
    simpa [e] using this
  unfold sortedC
  rw [List.length_map, (sortS_perm _).length_eq]
  have : (keysD d).length ≤ (keysD w).length := nodup_len b.nd fun x hx => by
    obtain ⟨p, hp, rfl⟩ := List.mem_map.mp hx
    exact Decidable.byContradiction fun z => by
      have := b.br p hp
      rw [get_none.mpr z] at this
      cases this
  rw [List.length_map, List.length_map] at this
  rw [List.length_map]
  exact this
theorem met_brk {w : Wd} {x : Str} {c1 c2 : Cl} (h1 : brokenC (putD w x false) c1 = true) (h2 : brokenC (putD w x true) c2 = true) (m1 : (x, true) ∈ c1) (m2 : (x, false) ∈ c2) (l1 : ∀ l ∈ c1, isLetter l.1 = true) (l2 : ∀ l ∈ c2, isLetter l.1 = true) :
    ∃ c, metC c1 c2 x = some c ∧ brokenC w c = true ∧ (∀ l ∈ c, isLetter l.1 = true) ∧ c.length ≤ w.length ∧ (c.map (·.1)).Nodup := by
  have b0 : Brk w (putsD (·.1) (·.2) [] (c1.filter fun l => decide (l.1 ≠ x))) := by
    refine ⟨fun p hp => ?_, fun p hp => ?_, ?_⟩
    · rcases mem_puts hp with hp | hp
      · cases hp
      · obtain ⟨a, b⟩ := List.mem_filter.mp hp
        have q := broken_iff.mp h1 p a
        rw [get_put, if_neg (fun e => by simp [e] at b)] at q
        exact q
    · rcases mem_puts hp with hp | hp
      · cases hp
      · exact l1 p (List.mem_filter.mp hp).1
    · rw [keys_puts]
      exact nubA_nodup List.nodup_nil
  obtain ⟨d', e, b⟩ := merge_brk (x := x) (r := c2) b0 (fun l hl hx => by
    have q := broken_iff.mp h2 l hl
    rw [get_put, if_neg (fun e => hx e.symm)] at q
    exact q) l2
  obtain ⟨s1, s2, s3⟩ := sorted_brk b
  refine ⟨sortedC d', ?_, s1, s2, s3⟩
  unfold metC
  rw [if_pos ⟨m1, m2⟩, e]
  rfl
/-- a clause without the letter -/
theorem brk_drop {w : Wd} {x : Str} {b : Bool} {c : Cl} (h : brokenC (putD w x b) c = true) (m : (x, !b) ∉ c) : brokenC w c = true := by
  refine broken_iff.mpr fun l hl => ?_
  have q := broken_iff.mp h l hl
  rw [get_put] at q
  by_cases e : x = l.1
  · rw [if_pos e] at q
    have e2 : b = !l.2 := Option.some.inj q
    have e3 : l = (x, !b) := by
      obtain ⟨a, t⟩ := l
      simp only at e e2
      rw [e, e2, Bool.not_not]
    exact absurd (e3 ▸ hl) m
  · rw [if_neg e] at q
    exact q
theorem along_snoc {cs : List Cl} {s : Stp} {c : Cl} : ∀ {ss : List Stp} {t0 ts : List Cl}, Along cs ss t0 ts → OkStp cs ts s → stepC cs ts s = some c → OkCl2 c → Along cs (ss ++ [s]) t0 (ts ++ [c])
  | [], t0, ts, h, a, b, d => by
    cases h
    exact ⟨a, c, b, d, rfl⟩
  | s' :: ss, t0, ts, ⟨h1, c', h2, h3, h4⟩, a, b, d => ⟨h1, c', h2, h3, along_snoc h4 a b d⟩
theorem okCs_cl2 {cs : List Cl} (h : OkCs cs) {c : Cl} (hc : c ∈ cs) : OkCl2 c := by
  have h1 := h.cl c hc
  have hn : (c.map (·.1)).Nodup := List.pairwise_map.mpr (h1.up.imp fun {a b} z e => by
    rw [e] at z
    exact List.lt_irrefl _ z)
  refine ⟨h1.let_, ?_, hn⟩
  have hl := h.let_
  have := nodup_len (m := lettersW cs) hn fun x hx => by
    obtain ⟨l, hl, rfl⟩ := List.mem_map.mp hx
    exact mem_lettersW hc hl
  rw [List.length_map] at this
  omega
end L97
/-! C97j -/
set_option maxHeartbeats 2000000
namespace L97
open PySem PySem.Spec L2 Pm
/-- what stands at the two lists that a search for a proof writes to -/
structure RS2 where
  p1 : Addr
  p2 : Addr
  sv : List V
  tv : List V
  ss : List Stp
  ts : List Cl
def RS2.own (r : RS2) : Own := [(r.p1, .lst r.sv), (r.p2, .lst r.tv)]
def RS2.all (r : RS2) : Pr := pAnd (pAll RStp r.ss r.sv) (pAll RCl r.ts r.tv)
structure Rf (n : Nat) where
  cs : List Cl
  ls : List Str
  wd : Wd
  st : RS2
  okc : OkCs cs
  okl : ∀ x ∈ ls, isLetter x = true
  nd : ls.Nodup
  few : ls.length ≤ 12
  wk : keysD wd = ls.take wd.length
  wl : wd.length + n = ls.length
  al : Along cs st.ss [] st.ts
  tsk : ∀ c ∈ st.ts, OkCl2 c
  un : ∀ w' : Wd, keysD w' = ls → ∃ c ∈ cs, brokenC w' c = true
  len : st.ss.length + 2 ^ (n + 1) ≤ 9000
/-- what it tells -/
structure Ro {n : Nat} (d : Rf n) (r : RS2 × Nat) : Prop where
  p1 : r.1.p1 = d.st.p1
  p2 : r.1.p2 = d.st.p2
  al : Along d.cs r.1.ss [] r.1.ts
  tsk : ∀ c ∈ r.1.ts, OkCl2 c
  at_ : ∃ c, r.1.ts[r.2]? = some c ∧ brokenC d.wd c = true
  pf : ∃ e, r.1.ts = d.st.ts ++ e
  len : r.1.ss.length + 1 ≤ d.st.ss.length + 2 ^ (n + 1)
section
variable {P : Program} {w : World} {K : PySem.W.Frag} {mg : Str → Option Value} {base : Heap}
abbrev spRf (n : Nat) : Sp := spM (fun d : Rf n => d.st.own) (fun r : RS2 × Nat => r.1.own) (fun d vs => pAnd d.st.all (Pm.PC (RCs d.cs) (Pm.PC (RL RS d.ls) (Pm.PC (RW d.wd) (Pm.PC (RV (.ref d.st.p1)) (Pm.PC (RV (.ref d.st.p2)) PN)))) vs)) (fun d r v => pAnd (pP (v = .int r.2 ∧ Ro d r)) r.1.all)
theorem refuted_step (T : Tx K mg) (S : Ats K mg) (n : Nat) (IH : ∀ m, n = m + 1 → Fd P w K mg base "refuted" (m + 2) (spRf m)) : Fd P w K mg base "refuted" (n + 2) (spRf n) := by
    obtain ⟨f, fd, F, gm⟩ := S.drefuted
    refine fd_mkM F gm crefuted (fun _ _ _ _ _ _ us hl => match us, hl with | [_, _, _, _, _], _ => rfl) (fun d vs G h => len5 h.2) fun cdv Ar outer s H vs d A G0 D hr hq hn => pre_swap (in5 fun v1 v2 v3 v4 v5 => ?_)
    have nd := crefuted.nd
    obtain ⟨cs, ls, wd, ⟨p1, p2, sv, tv, ss, ts⟩, okc, okl, lnd, few, wk, wl, al, tsk, un, len⟩ := d
    dsimp only at wk wl al tsk un len
    have hu := hu_of hr
    refine B3.v (fun G h => h.1.2) fun e4 => B3.v (fun G h => h.2) fun e5 => ?_
    dsimp only at e4 e5
    subst e4 e5
    have hpw : 2 ≤ 2 ^ (n + 1) := by rw [Nat.pow_succ]; have := Nat.two_pow_pos n; omega
    refine B3.pre (Δ := pAnd (pAnd (pAnd (pAnd (pSame G0) (pAnd (pAll RStp ss sv) (pAll RCl ts tv))) (RCs cs v1)) (RL RS ls v2)) (RW wd v3)) ?_ fun G h => h.1.1
    show B3 _ ((p1, .lst sv) :: (p2, .lst tv) :: A) _ _ _ _
    have htl := along_len al
    rw [List.length_nil, Nat.zero_add] at htl
    cases hf : cs.findIdx? (brokenC wd) with
    | some k =>
      obtain ⟨hk, hb, _⟩ := List.findIdx?_eq_some_iff_getElem.mp hf
      refine b_setV 5 (w := .int k) (e_c (ok_broken_clause T S) hr ⟨(cs, wd), fun c hc => (okc.cl c hc).few, by have := okc.few; dsimp only; omega⟩ (a_cons (e_x 0 (R := RCs cs)) (a_cons (e_x 2 (R := RW wd)) a_nil)) (fun _ _ h => h.2) (fun v G h => by
        have h : (ROn (cs.findIdx? (brokenC wd)) v).holds G := h
        rw [hf] at h
        exact h)) ?_
      refine b_when (t_notN (e_v 5)) (fun _ => ?_) (fun e => absurd e (by simp))
      refine b_ap [] 3 (R := RStp (.told k)) (e_tupP (vs := (Stp.told k).vals) (av_cons e_str (av_cons (e_v 5) av_nil)) (by show 2 ≤ 1000; decide)) (fun G h => by rw [← pAll_len h.1.1.1.2.1, sizeLine_eq]; omega) fun u1 => ?_
      refine b_ap [(p1, _)] 4 (R := RCl cs[k]) (e_c (ok_told_clause T S) hr ⟨cs[k], (okc.cl _ (List.getElem_mem hk)).few⟩ (a_cons (e_atL (R := RCl) (xs := cs) k (e_x 0) (e_v 5) rfl (List.getElem?_eq_getElem hk)) a_nil)) (fun G h => by rw [← pAll_len h.1.1.1.1.2.2, sizeLine_eq]; omega) fun u2 => ?_
      refine b_retM hq (⟨p1, p2, sv ++ [u1], tv ++ [u2], ss ++ [.told k], ts ++ [cs[k]]⟩, ts.length) rfl (e_sub (e_lenO T.len (e_v 4) (List.mem_cons_of_mem _ (List.mem_cons_self ..))) e_int) (fun v G h => ?_) (fun G h => h.1.1.1.1.1.1)
      have hv : v = .int ((tv ++ [u2]).length - 1) := h.2
      have hst : (pAll RStp ss sv).holds G ∧ (pAll RCl ts tv).holds G := h.1.1.1.1.1.1.2
      refine ⟨⟨?_, rfl, rfl, along_snoc al hk (List.getElem?_eq_getElem hk) (okCs_cl2 okc (List.getElem_mem hk)), fun c hc => (List.mem_append.mp hc).elim (tsk c) (fun z => by rw [List.mem_singleton] at z; subst z; exact okCs_cl2 okc (List.getElem_mem hk)), ⟨cs[k], by simp, hb⟩, ⟨_, rfl⟩, ?_⟩, pAll_app hst.1 (pAll_one h.1.1.2), pAll_app hst.2 (pAll_one h.1.2)⟩
      · rw [hv, List.length_append, ← pAll_len hst.2]
        show V.int _ = V.int _
        congr 1
        simp
      · show (ss ++ [_]).length + 1 ≤ _
        rw [List.length_append]
        simp
        omega
    | none =>
      obtain ⟨m, rfl⟩ : ∃ m, n = m + 1 := by
        cases n with
        | succ m => exact ⟨m, rfl⟩
        | zero =>
          obtain ⟨c, hc, hb⟩ := un wd (by rw [wk, List.take_of_length_le (by omega)])
          have := List.findIdx?_eq_none_iff.mp hf c hc
          rw [hb] at this
          cases this
      have hp2 : 2 ^ (m + 1 + 1) = 2 ^ (m + 1) + 2 ^ (m + 1) := by rw [Nat.pow_succ]; omega
      have hp1 := Nat.two_pow_pos (m + 1)
      have hwl : wd.length < ls.length := by omega
      have hx := List.getElem?_eq_getElem hwl
      generalize ls[wd.length] = x at hx
      have hxl : isLetter x = true := okl x (List.mem_of_getElem? hx)
      have hxn : x ∉ keysD wd := by
        rw [wk]
        intro hm
        obtain ⟨j, hj, ej⟩ := List.mem_take_iff_getElem.mp hm
        exact List.pairwise_iff_getElem.mp lnd j wd.length (by omega) hwl (by omega) (by rw [ej, (List.getElem?_eq_some_iff.mp hx).2])
      have hnd : (keysD wd).Nodup := by
        rw [wk]
        exact lnd.sublist (List.take_sublist ..)
      have hkeys : ∀ b, keysD (putD wd x b) = ls.take (putD wd x b).length := fun b => by
        rw [putD_out hxn]
        show (wd ++ [(x, b)]).map _ = _
        rw [List.map_append, List.length_append]
        have := take_snoc hx
        show keysD wd ++ [x] = ls.take (wd.length + 1)
        rw [this, wk]
      have hlen : ∀ b, (putD wd x b).length = wd.length + 1 := fun b => by rw [putD_out hxn, List.length_append]; rfl
      have hwz : wd.length < sizeLine := by rw [sizeLine_eq]; omega
      refine b_setV 5 (w := .non) (e_c (ok_broken_clause T S) hr ⟨(cs, wd), fun c hc => (okc.cl c hc).few, by have := okc.few; dsimp only; omega⟩ (a_cons (e_x 0 (R := RCs cs)) (a_cons (e_x 2 (R := RW wd)) a_nil)) (fun _ _ h => h.2) (fun v G h => by
        have h : (ROn (cs.findIdx? (brokenC wd)) v).holds G := h
        rw [hf] at h
        exact h)) ?_
      refine b_when (t_notN (e_v 5)) (fun e => absurd e (by simp)) (fun _ => ?_)
      refine b_setV 6 (w := .str x) (e_atL (R := RS) (xs := ls) wd.length (e_x 1) (e_lenRD (ι := kS) (f := V.bl) (d := wd) T.len (e_x 2)) rfl hx) ?_
      refine b_setM 7 (m_call (IH m rfl) hr ⟨cs, ls, putD wd x false, ⟨p1, p2, sv, tv, ss, ts⟩, okc, okl, lnd, few, hkeys _, by have := hlen false; omega, al, tsk, un, by dsimp only; omega⟩ A rfl (a_cons (e_x 0 (R := RCs cs)) (a_cons (e_x 1 (R := RL RS ls)) (a_cons (f_dstar (ι := kS) (f := V.bl) (d := wd) (k := x) (x := false) inr_inj hnd hwz (fun _ => e_x 2) (fun _ _ => e_v 6) (fun _ _ => e_bl)).rd (a_cons (e_v 3) (a_cons (e_v 4) a_nil))))) (by intro vs G h; exact ⟨h.1.1.1.1.2, h.2⟩)) fun v r => ?_
      refine B3.fact (fun G h => h.2.1) fun ⟨ev, ro⟩ => ?_
      obtain ⟨⟨q1, q2, sv1, tv1, ss1, ts1⟩, i1⟩ := r
      obtain ⟨e1, e2, al1, tsk1, ⟨c1, hc1, hb1⟩, ⟨ex1, pf1⟩, len1⟩ := ro
      dsimp only at e1 e2 al1 tsk1 hc1 hb1 pf1 len1 ev
      subst e1 e2 ev
      have hk1 := tsk1 c1 (List.mem_of_getElem? hc1)
      refine B3.pre (Δ := pAnd (pAnd (pAnd (pAnd (pSame G0) (RCs cs v1)) (RL RS ls v2)) (RW wd v3)) (pAnd (pAll RStp ss1 sv1) (pAll RCl ts1 tv1))) ?_ fun G h => ⟨⟨⟨⟨h.1.1.1.1.1, h.1.1.1.2⟩, h.1.1.2⟩, h.1.2⟩, h.2.2⟩
      show B3 _ ((q1, .lst sv1) :: (q2, .lst tv1) :: A) _ _ _ _
      refine b_when (t_ninDp (d := datL (x, true)) (ds := c1.map datL) (hu65 hr) (e_tup2 (R1 := RS) (R2 := RB) (x := x) (y := true) (e_v 6) e_bl) (e_at (R := RCl c1) (e_v 4) (e_v 7) (s_own (List.mem_cons_of_mem _ (List.mem_cons_self ..))).s fun vs G g e => by cases (show vs = tv1 from e); exact at_all rfl hc1 tv1 G g.2.2) (d_lit _) (d_cl _) (shaped_lit hxl) (shaped_cl hk1.let_)) (fun e => ?_) (fun e => ?_)
      · rw [any_lit] at e
        refine b_retM hq (⟨q1, q2, sv1, tv1, ss1, ts1⟩, i1) rfl (e_v 7) (fun v G h => ?_) (fun G h => h.1.1.1.1)
        exact ⟨⟨h.2, rfl, rfl, al1, tsk1, ⟨c1, hc1, brk_drop hb1 (by simpa using e)⟩, ⟨ex1, pf1⟩, by dsimp only; omega⟩, h.1.2⟩
      have m1 : (x, true) ∈ c1 := by
        rw [any_lit] at e
        simpa using e
      refine b_setM 8 (m_call (IH m rfl) hr ⟨cs, ls, putD wd x true, ⟨q1, q2, sv1, tv1, ss1, ts1⟩, okc, okl, lnd, few, hkeys _, by have := hlen true; omega, al1, tsk1, un, by dsimp only; omega⟩ A rfl (a_cons (e_x 0 (R := RCs cs)) (a_cons (e_x 1 (R := RL RS ls)) (a_cons (f_dstar (ι := kS) (f := V.bl) (d := wd) (k := x) (x := true) inr_inj hnd hwz (fun _ => e_x 2) (fun _ _ => e_v 6) (fun _ _ => e_bl)).rd (a_cons (e_v 3) (a_cons (e_v 4) a_nil))))) (by intro vs G h; exact ⟨h.1.2, h.2⟩)) fun v r => ?_
      refine B3.fact (fun G h => h.2.1) fun ⟨ev, ro⟩ => ?_
      obtain ⟨⟨p1, p2, sv2, tv2, ss2, ts2⟩, i2⟩ := r
      obtain ⟨e1, e2, al2, tsk2, ⟨c2, hc2, hb2⟩, ⟨ex2, pf2⟩, len2⟩ := ro
      dsimp only at e1 e2 al2 tsk2 hc2 hb2 pf2 len2 ev
      subst e1 e2 ev
      have hk2 := tsk2 c2 (List.mem_of_getElem? hc2)
      have hc1' : ts2[i1]? = some c1 := by
        rw [pf2, List.getElem?_append_left (get_lt hc1)]
        exact hc1
      refine B3.pre (Δ := pAnd (pAnd (pAnd (pAnd (pSame G0) (RCs cs v1)) (RL RS ls v2)) (RW wd v3)) (pAnd (pAll RStp ss2 sv2) (pAll RCl ts2 tv2))) ?_ fun G h => ⟨h.1.1, h.2.2⟩
      show B3 _ ((p1, .lst sv2) :: (p2, .lst tv2) :: A) _ _ _ _
      have pf3 : ts2 = ts ++ (ex1 ++ ex2) := by rw [pf2, pf1, List.append_assoc]
      refine b_when (t_ninDp (d := datL (x, false)) (ds := c2.map datL) (hu65 hr) (e_tup2 (R1 := RS) (R2 := RB) (x := x) (y := false) (e_v 6) e_bl) (e_at (R := RCl c2) (e_v 4) (e_v 8) (s_own (List.mem_cons_of_mem _ (List.mem_cons_self ..))).s fun vs G g e => by cases (show vs = tv2 from e); exact at_all rfl hc2 tv2 G g.2.2) (d_lit _) (d_cl _) (shaped_lit hxl) (shaped_cl hk2.let_)) (fun e => ?_) (fun e => ?_)
      · rw [any_lit] at e
        refine b_retM hq (⟨p1, p2, sv2, tv2, ss2, ts2⟩, i2) rfl (e_v 8) (fun v G h => ?_) (fun G h => h.1.1.1.1)
        exact ⟨⟨h.2, rfl, rfl, al2, tsk2, ⟨c2, hc2, brk_drop hb2 (by simpa using e)⟩, ⟨_, pf3⟩, by dsimp only; omega⟩, h.1.2⟩
      have m2 : (x, false) ∈ c2 := by
        rw [any_lit] at e
        simpa using e
      obtain ⟨c, hmc, hbc, hlc, hcl, hcn⟩ := met_brk hb1 hb2 m1 m2 hk1.let_ hk2.let_
      have htl2 := along_len al2
      rw [List.length_nil, Nat.zero_add] at htl2
      refine b_ap [] 3 (R := RStp (.met i1 i2 x)) (e_tupP (vs := (Stp.met i1 i2 x).vals) (av_cons e_str (av_cons (e_v 7) (av_cons (e_v 8) (av_cons (e_v 6) av_nil)))) (by show 4 ≤ 1000; decide)) (fun G h => by rw [← pAll_len h.2.1, sizeLine_eq]; omega) fun u1 => ?_
      refine b_ap [(p1, _)] 4 (R := RCl c) (e_c (ok_met T S) hr ⟨(c1, c2, x), hk1.let_, hk2.let_, hxl, by have := hk1.few; have := hk2.few; dsimp only; omega⟩ (a_cons (e_at (R := RCl c1) (e_v 4) (e_v 7) (s_own (List.mem_cons_of_mem _ (List.mem_cons_self ..))).s fun vs G g e => by cases (show vs = tv2 from e); exact at_all rfl hc1' tv2 G g.1.2.2) (a_cons (e_at (R := RCl c2) (e_v 4) (e_v 8) (s_own (List.mem_cons_of_mem _ (List.mem_cons_self ..))).s fun vs G g e => by cases (show vs = tv2 from e); exact at_all rfl hc2 tv2 G g.1.2.2) (a_cons (e_v 6) a_nil))) (fun _ _ h => h.2) (fun v G h => by
        have h : (RM RCl (metC c1 c2 x) v).holds G := h
        rw [hmc] at h
        exact h)) (fun G h => by rw [← pAll_len h.1.2.2, sizeLine_eq]; omega) fun u2 => ?_
      refine b_retM hq (⟨p1, p2, sv2 ++ [u1], tv2 ++ [u2], ss2 ++ [.met i1 i2 x], ts2 ++ [c]⟩, ts2.length) rfl (e_sub (e_lenO T.len (e_v 4) (List.mem_cons_of_mem _ (List.mem_cons_self ..))) e_int) (fun v G h => ?_) (fun G h => h.1.1.1.1.1.1)
      have hv : v = .int ((tv2 ++ [u2]).length - 1) := h.2
      have hst : (pAll RStp ss2 sv2).holds G ∧ (pAll RCl ts2 tv2).holds G := h.1.1.1.2
      have hstep : stepC cs ts2 (.met i1 i2 x) = some c := by
        show (match ts2[i1]?, ts2[i2]? with
          | some a, some b => metC a b x
          | _, _ => none) = _
        rw [hc1', hc2]
        exact hmc
      have hokc : OkCl2 c := ⟨hlc, by omega, hcn⟩
      refine ⟨⟨?_, rfl, rfl, along_snoc al2 ⟨get_lt hc1', get_lt hc2, hxl⟩ hstep hokc, fun c' hc' => (List.mem_append.mp hc').elim (tsk2 c') (fun z => by rw [List.mem_singleton] at z; subst z; exact hokc), ⟨c, by simp, hbc⟩, ⟨(ex1 ++ ex2) ++ [c], by show ts2 ++ [c] = ts ++ _; rw [pf3, List.append_assoc]⟩, ?_⟩, pAll_app hst.1 (pAll_one h.1.1.2), pAll_app hst.2 (pAll_one h.1.2)⟩
      · rw [hv, List.length_append, ← pAll_len hst.2]
        show V.int _ = V.int _
        congr 1
        simp
      · show (ss2 ++ [_]).length + 1 ≤ _
        simp
        omega
theorem ok_refuted (T : Tx K mg) (S : Ats K mg) : ∀ n : Nat, Fd P w K mg base "refuted" (n + 2) (spRf n)
  | 0 => refuted_step T S 0 fun m e => absurd e (by omega)
  | n + 1 => refuted_step T S (n + 1) fun m e => by
    have : n = m := by omega
    subst this
    exact ok_refuted T S n
end
end L97
/-! C97k -/
set_option maxHeartbeats 2000000
namespace L97
open PySem PySem.Spec L2 Pm
theorem along_pref {cs : List Cl} : ∀ {ss : List Stp} {t0 ts : List Cl}, Along cs ss t0 ts → ∃ e, ts = t0 ++ e
  | [], t0, ts, h => by cases h; exact ⟨[], by simp⟩
  | s :: ss, t0, ts, ⟨_, c, _, _, h⟩ => by
    obtain ⟨e, rfl⟩ := along_pref h
    exact ⟨c :: e, by simp⟩
theorem along_take {cs : List Cl} : ∀ {ss : List Stp} {t0 ts : List Cl} (k : Nat), Along cs ss t0 ts → Along cs (ss.take k) t0 (ts.take (t0.length + k))
  | ss, t0, ts, 0, h => by
    obtain ⟨e, rfl⟩ := along_pref h
    show _ = _
    simp
  | [], t0, ts, k + 1, h => by
    cases h
    show _ = _
    exact List.take_of_length_le (by omega)
  | s :: ss, t0, ts, k + 1, ⟨a, c, b, d, h⟩ => by
    refine ⟨a, c, b, d, ?_⟩
    have := along_take k h
    rw [List.length_append] at this
    have e : t0.length + [c].length + k = t0.length + (k + 1) := by simp; omega
    rw [e] at this
    exact this
theorem worldAt_add : ∀ (ls : List Str) (p q : Nat), worldAt ls (p + 2 ^ ls.length * q) = worldAt ls p
  | [], _, _ => rfl
  | l :: r, p, q => by
    have e : 2 ^ (l :: r).length * q = 2 ^ r.length * (2 * q) := by rw [List.length_cons, Nat.pow_succ, Nat.mul_assoc]
    show (l, decide ((p + 2 ^ (l :: r).length * q) / 2 ^ r.length % 2 = 1)) :: worldAt r (p + 2 ^ (l :: r).length * q) = (l, decide (p / 2 ^ r.length % 2 = 1)) :: worldAt r p
    rw [e, worldAt_add r p (2 * q), Nat.add_mul_div_left _ _ (Nat.two_pow_pos _)]
    congr 2
    rw [Nat.add_mul_mod_self_left]
theorem worldAt_all : ∀ (ls : List Str) (w : Wd), keysD w = ls → ∃ p, p < 2 ^ ls.length ∧ w = worldAt ls p
  | [], w, h => by
    cases w with
    | nil => exact ⟨0, by simp, rfl⟩
    | cons a b => cases h
  | l :: r, w, h => by
    cases w with
    | nil => cases h
    | cons a w =>
      injection h with h1 h2
      obtain ⟨p, hp, e⟩ := worldAt_all r w h2
      obtain ⟨x, b⟩ := a
      dsimp only at h1
      subst h1
      refine ⟨p + 2 ^ r.length * (if b then 1 else 0), ?_, ?_⟩
      · rw [List.length_cons, Nat.pow_succ]
        split <;> omega
      · show (x, b) :: w = (x, decide ((p + 2 ^ r.length * (if b then 1 else 0)) / 2 ^ r.length % 2 = 1)) :: worldAt r (p + 2 ^ r.length * (if b then 1 else 0))
        rw [worldAt_add, ← e, Nat.add_mul_div_left _ _ (Nat.two_pow_pos _), Nat.div_eq_of_lt hp]
        cases b <;> rfl
theorem not_holds {c : Cl} {w : Wd} (hk : ∀ l ∈ c, l.1 ∈ keysD w) (h : holdsC c w = false) : brokenC w c = true := by
  refine broken_iff.mpr fun l hl => ?_
  unfold holdsC at h
  rw [List.any_eq_false] at h
  have h1 := h l hl
  cases e : getD w l.1 with
  | none => exact absurd (hk l hl) (get_none.mp e)
  | some b =>
    rw [e] at h1
    have h2 : ¬ b = l.2 := by simpa using h1
    cases b <;> cases h3 : l.2 <;> simp_all
theorem broken_nil {c : Cl} (h : brokenC [] c = true) : c = [] := by
  cases c with
  | nil => rfl
  | cons l c =>
    have := broken_iff.mp h l (List.mem_cons_self ..)
    cases this
def holdsAll (cs : List Cl) (w : Wd) : Bool := cs.all fun c => holdsC c w
def leastP (cs : List Cl) : Option Nat := (List.range (2 ^ (lettersW cs).length)).find? fun p => holdsAll cs (worldAt (lettersW cs) p)
def upOut (cs : List Cl) : V → Pr := match leastP cs with
  | some p => RT2 RS RW ("world", worldAt (lettersW cs) p)
  | none => fun v => pEx fun ss => pEx fun res => pAnd (pP (OkPf cs ss res ∧ res.getLast? = some [])) (RT2 RS (RL RStp) ("proof", ss) v)
theorem lettersW_nodup (cs : List Cl) : (lettersW cs).Nodup := (sortS_perm _).nodup_iff.mpr (nubA_nodup List.nodup_nil)
theorem lettersW_mem {cs : List Cl} {x : Str} (h : x ∈ lettersW cs) : ∃ c ∈ cs, ∃ l ∈ c, l.1 = x := by
  rcases mem_nubA.mp (mem_sortS.mp h) with h | h
  · cases h
  · obtain ⟨l, hl, e⟩ := List.mem_map.mp h
    obtain ⟨c, hc, hl⟩ := List.mem_flatMap.mp hl
    exact ⟨c, hc, l, hl, e⟩
section
variable {P : Program} {w : World} {K : PySem.W.Frag} {mg : Str → Option Value} {base : Heap}
theorem ok_refute_up (T : Tx K mg) (S : Ats K mg) : Fd P w K mg base "refute_up" 13 (spF (fun (cs : {cs : List Cl // OkCs cs ∧ (lettersW cs).length ≤ 10}) => Pm.PC (RCs cs.1) PN) fun cs => upOut cs.1) := by
  obtain ⟨f, fd, F, gm⟩ := S.drefute_up
  refine fd_mk F gm crefute_up (fun _ _ _ _ _ _ us hl => match us, hl with | [_], _ => rfl) (fun d vs G h => len1 h) fun cdv Ar outer s H vs ⟨cs, h1, h2⟩ A G0 D hr hq hn => in1 fun v1 => ?_
  have nd := crefute_up.nd
  have hl := h1.let_
  have hf := h1.few
  have hnd := lettersW_nodup cs
  have hpow : 2 ^ (lettersW cs).length ≤ 2 ^ 10 := Nat.pow_le_pow_right (by decide) h2
  refine b_expr (e_c (ok_check_clauses T S) hr ⟨cs, h1⟩ (a_cons (e_x 0) a_nil)) fun v => ?_
  refine b_set 1 (R := RL RS (lettersW cs)) (e_c (ok_letters_within T S) hr ⟨cs, h1.cl, h1.few, by omega⟩ (a_cons (e_x 0) a_nil)) fun v2 => ?_
  refine b_when (t_gt (e_lenL (R := RS) (xs := lettersW cs) T.len (e_x 1)) (e_gI T.cTEN)) (fun e => by simp at e; omega) (fun _ => ?_)
  refine B3.pre (Δ := pAnd (pAnd (pSame G0) (RCs cs v1)) (RL RS (lettersW cs) v2)) ?_ fun G h => ⟨h.1.1, h.2⟩
  refine b_for (δ := Option V × Option V) (sd := fun d => [some v1, some v2, d.1, none, d.2, none, none, none]) (Ad := fun d => A) (Γd := fun _ => pAnd (pAnd (pSame G0) (RCs cs v1)) (RL RS (lettersW cs) v2)) (rel := fun i d => ∀ j, j < i → holdsAll cs (worldAt (lettersW cs) j) = false) (i_rangeN (m := 2 ^ (lettersW cs).length) T.range (e_pow2 (e_lenL (R := RS) (xs := lettersW cs) T.len (e_x 1)) (by omega)) (by omega)) (tg_name 2) (none, none) ⟨fun j hj => absurd hj (by omega), rfl, rfl⟩ (fun G h => h) (fun Gd i z d w hz hr2 => ?_) (fun d hr2 => ?_)
  · have hi := get_lt hz
    rw [List.length_range] at hi
    rw [List.getElem?_range hi] at hz
    cases hz
    refine B3.v (fun G h => h.2) fun ew => ?_
    subst ew
    refine b_set 4 (R := RW (worldAt (lettersW cs) i)) (e_c (ok_world_at_place T S) hr ⟨(lettersW cs, i), hnd, by dsimp only; omega⟩ (a_cons (e_x 1 (R := RL RS (lettersW cs))) (a_cons (e_v 2) a_nil))) fun v4 => ?_
    refine b_when (t_of (e_all (bs := cs.map fun c => holdsC c (worldAt (lettersW cs) i)) T.all (F3.rl (f_lc (own := [("clause", 7)]) (fun c => holdsC c (worldAt (lettersW cs) i)) RB (i_list (P := RCl) (xs := cs) (e_x 0)) (tc_name 7) (blkOk_by (N := nrefute_up) (sc := defScope srefute_up) (by decide +kernel)) (fun Gd q c w hm s H C cl fp => e_c (ok_holds_in T S) hr ⟨(c, worldAt (lettersW cs) i), (h1.cl c hm).few, fun l hl => by rw [worldAt_keys]; exact mem_lettersW hm hl⟩ (a_cons (e_x 7 (R := RCl c)) (a_cons (e_x 4 (R := RW (worldAt (lettersW cs) i))) a_nil))) (by rw [sizeLine_eq]; omega))))) (fun e => ?_) (fun e => ?_)
    · rw [List.all_map] at e
      have hL : leastP cs = some i := by
        unfold leastP
        rw [List.find?_range_eq_some]
        exact ⟨e, List.mem_range.mpr hi, fun j hj => by rw [hr2 j hj]; rfl⟩
      refine b_rt hq (e_tup2 (R1 := RS) (R2 := RW) (x := "world") (y := worldAt (lettersW cs) i) e_str (e_x 4)) (fun v G z => ?_)
      show (upOut cs v).holds G
      unfold upOut
      rw [hL]
      exact z.2
    · rw [List.all_map] at e
      refine b_fin rfl (some (.int i), some v4) (fun j hj => ?_) rfl rfl fun G h => h.1.1
      rcases Nat.lt_succ_iff_lt_or_eq.mp hj with hj | hj
      · exact hr2 j hj
      · subst hj
        exact e
  · rw [List.length_range] at hr2
    obtain ⟨a4, a5⟩ := d
    have hL : leastP cs = none := by
      unfold leastP
      rw [List.find?_range_eq_none]
      intro j hj
      rw [hr2 j hj]
      rfl
    have hun : ∀ w' : Wd, keysD w' = lettersW cs → ∃ c ∈ cs, brokenC w' c = true := fun w' hw' => by
      obtain ⟨p, hp, e⟩ := worldAt_all _ w' hw'
      have hh := hr2 p hp
      rw [← e] at hh
      unfold holdsAll at hh
      rw [List.all_eq_false] at hh
      obtain ⟨c, hc, hb⟩ := hh
      exact ⟨c, hc, not_holds (fun l hl => by rw [hw']; exact mem_lettersW hc hl) (by simpa using hb)⟩
    have hlet : ∀ x ∈ lettersW cs, isLetter x = true := fun x hx => by
      obtain ⟨c, hc, l, hl, rfl⟩ := lettersW_mem hx
      exact (h1.cl c hc).let_ l hl
    have hpow2 : 2 ^ ((lettersW cs).length + 1) ≤ 2 ^ 11 := Nat.pow_le_pow_right (by decide) (by omega)
    refine b_parFF 5 6 (Ra := OL RStp []) (Rb := OL RCl []) f_nil (fun _ => f_nil) fun p o q o' => ?_
    refine B3.fact (fun G h => ol_nil h.2) fun eo' => B3.fact (fun G h => ol_nil h.1.2) fun eo => ?_
    subst eo eo'
    refine B3.swap (B3.pre (Δ := pAnd (pAnd (pSame G0) (RCs cs v1)) (RL RS (lettersW cs) v2)) ?_ fun G h => h.1.1)
    refine b_setM 3 (m_call (ok_refuted T S (lettersW cs).length) hr ⟨cs, lettersW cs, [], ⟨p, q, [], [], [], []⟩, h1, hlet, hnd, by omega, rfl, by simp, rfl, fun c (hc : c ∈ []) => absurd hc List.not_mem_nil, hun, by show 0 + 2 ^ ((lettersW cs).length + 1) ≤ 9000; omega⟩ A rfl (a_cons (e_x 0 (R := RCs cs)) (a_cons (e_x 1 (R := RL RS (lettersW cs))) (a_cons (F3.rd (kvs := kvs kS V.bl []) f_dnew) (a_cons (e_v 5) (a_cons (e_v 6) a_nil))))) (by intro vs G h; exact ⟨⟨trivial, trivial⟩, h.2⟩)) fun v r => ?_
    refine B3.fact (fun G h => h.2.1) fun ⟨ev, ro⟩ => ?_
    obtain ⟨⟨q1, q2, sv1, tv1, ss1, ts1⟩, i1⟩ := r
    obtain ⟨e1, e2, al1, tsk1, ⟨c1, hc1, hb1⟩, ⟨ex1, pf1⟩, len1⟩ := ro
    dsimp only at e1 e2 al1 tsk1 hc1 hb1 pf1 len1 ev
    subst e1 e2 ev
    have hlen1 : ss1.length + 1 ≤ 2 ^ 11 := by
      have : ss1.length + 1 ≤ 0 + 2 ^ ((lettersW cs).length + 1) := len1
      omega
    refine B3.pre (Δ := pAnd (pAnd (pSame G0) (RCs cs v1)) (pAll RStp ss1 sv1)) ?_ fun G h => ⟨h.1.1, h.2.2.1⟩
    show B3 _ ((q1, .lst sv1) :: (q2, .lst tv1) :: A) _ _ _ _
    have hci := broken_nil hb1
    subst hci
    have hti := get_lt hc1
    have htl := along_len al1
    rw [List.length_nil, Nat.zero_add] at htl
    have hpf : OkPf cs (ss1.take (i1 + 1)) (ts1.take (i1 + 1)) := by
      refine ⟨?_, by rw [List.length_take]; omega, fun c hc => (h1.cl c hc).few⟩
      have := along_take (i1 + 1) al1
      rw [List.length_nil, Nat.zero_add] at this
      exact this
    have hlast : (ts1.take (i1 + 1)).getLast? = some [] := by
      rw [take_snoc hc1, List.getLast?_concat]
    refine b_let (b_let (b_rt hq (e_tup2 (R1 := RS) (R2 := RL RStp) (x := "proof") (y := ss1.take (i1 + 1)) e_str (F3.rl (f_to (i1 + 1) (e_var 5 (R := RL RStp ss1) fun G h => ⟨q1, sv1, rfl, h.1.2, h.1.1.2⟩) (e_add (e_v 3) e_int) (by omega)))) (fun v G z => ?_)))
    show (upOut cs v).holds G
    unfold upOut
    rw [hL]
    exact ⟨_, _, ⟨hpf, hlast⟩, z.2⟩
end
end L97
/-! C97l -/
set_option maxHeartbeats 2000000
/-! plain: a proof made shorter -/
namespace L97
open PySem PySem.Spec L2 Pm
theorem along_step {cs : List Cl} : ∀ {ss : List Stp} {t0 ts : List Cl} {k : Nat} {s : Stp}, Along cs ss t0 ts → ss[k]? = some s → OkStp cs (ts.take (t0.length + k)) s ∧ ∃ c, ts[t0.length + k]? = some c ∧ stepC cs (ts.take (t0.length + k)) s = some c ∧ OkCl2 c
  | s' :: ss, t0, ts, 0, s, ⟨a, c, b, d, h⟩, e => by
    have e : s' = s := by simpa using e
    subst e
    obtain ⟨x, rfl⟩ := along_pref h
    have h1 : (t0 ++ [c] ++ x).take (t0.length + 0) = t0 := by simp
    rw [h1]
    exact ⟨a, c, by simp, b, d⟩
  | s' :: ss, t0, ts, k + 1, s, ⟨a, c, b, d, h⟩, e => by
    have e : ss[k]? = some s := by simpa using e
    have := along_step h e
    rw [List.length_append] at this
    have e2 : t0.length + [c].length + k = t0.length + (k + 1) := by simp; omega
    rw [e2] at this
    exact this
/-- the first places of the clauses of a proof -/
structure Pls (res : List Cl) (pl : List Nat) : Prop where
  len : pl.length = res.length
  at_ : ∀ (i p : Nat), pl[i]? = some p → p ≤ i ∧ res[p]? = res[i]?
/-- a set of needed steps, closed from k on -/
structure Ned (ss : List Stp) (pl : List Nat) (top : Nat) (ns : List Nat) (k : Nat) : Prop where
  tp : top ∈ ns
  lt : top < ss.length
  le : ∀ x ∈ ns, x ≤ top
  nd : ns.Nodup
  cl : ∀ at_ ∈ ns, k ≤ at_ → ∀ a b x, ss[at_]? = some (.met a b x) → ∀ p, (pl[a]? = some p ∨ pl[b]? = some p) → p ∈ ns
/-- the numbers of the sorted ones -/
def nums (ns : List Nat) : List (Nat × Nat) := ns.zipIdx
theorem nums_keys (ns : List Nat) : keysD (nums ns) = ns := by
  unfold nums keysD
  simp
theorem nums_snoc (ns : List Nat) (x : Nat) : nums (ns ++ [x]) = nums ns ++ [(x, ns.length)] := by
  unfold nums
  rw [List.zipIdx_append]
  simp
theorem nums_get {ns : List Nat} (hn : ns.Nodup) {j x : Nat} (h : ns[j]? = some x) : getD (nums ns) x = some j := by
  have hm : (x, j) ∈ nums ns := by
    unfold nums
    rw [List.mem_zipIdx_iff_getElem?]
    exact h
  exact get_of_mem (by rw [nums_keys]; exact hn) hm
def movedC (pl : List Nat) (nm : List (Nat × Nat)) : Stp → Stp
  | .told n => .told n
  | .met a b x => .met ((getD nm (pl.getD a 0)).getD 0) ((getD nm (pl.getD b 0)).getD 0) x
/-- a step can be moved -/
def OkMv (pl : List Nat) (nm : List (Nat × Nat)) : Stp → Prop
  | .told _ => True
  | .met a b _ => ∃ p q n m, pl[a]? = some p ∧ pl[b]? = some q ∧ getD nm p = some n ∧ getD nm q = some m
theorem short_step {cs res : List Cl} {ss st : List Stp} {pl ns : List Nat} {top i at_ : Nat} {s : Stp} (al : Along cs ss [] res) (P : Pls res pl) (N : Ned ss pl top ns 0) (hs : ns.Pairwise (· < ·)) (hi : ns[i]? = some at_) (hss : ss[at_]? = some s)
    (hst : Along cs st [] ((ns.take i).filterMap fun k => res[k]?)) : OkMv pl (nums (ns.take (i + 1))) s ∧ Along cs (st ++ [movedC pl (nums (ns.take (i + 1))) s]) [] ((ns.take (i + 1)).filterMap fun k => res[k]?) := by
  obtain ⟨h1, c, h2, h3, h4⟩ := along_step al hss
  rw [List.length_nil, Nat.zero_add] at h1 h2 h3
  have hal := along_len al
  rw [List.length_nil, Nat.zero_add] at hal
  have hnd : (ns.take (i + 1)).Nodup := N.nd.sublist (List.take_sublist ..)
  have htk : (ns.take (i + 1)).filterMap (fun k => res[k]?) = (ns.take i).filterMap (fun k => res[k]?) ++ [c] := by
    rw [take_snoc hi, List.filterMap_append]
    simp [h2]
  have hall : ∀ k ∈ ns, ∃ d, res[k]? = some d := fun k hk => by
    have := N.le k hk
    have ht := N.lt
    exact ⟨_, List.getElem?_eq_getElem (by omega)⟩
  -- the place of an earlier one
  have hpl : ∀ a p, a < at_ → pl[a]? = some p → p ∈ ns → ∃ j, getD (nums (ns.take (i + 1))) p = some j ∧ ((ns.take i).filterMap fun k => res[k]?)[j]? = res[a]? := fun a p ha hp hm => by
    obtain ⟨hpa, hpr⟩ := P.at_ a p hp
    obtain ⟨j, hj⟩ := List.mem_iff_getElem?.mp hm
    have hji : j < i := by
      rcases Nat.lt_trichotomy j i with z | z | z
      · exact z
      · subst z
        rw [hi] at hj
        cases hj
        omega
      · have := List.pairwise_iff_getElem.mp hs i j (get_lt hi) (get_lt hj) z
        rw [(List.getElem?_eq_some_iff.mp hi).2, (List.getElem?_eq_some_iff.mp hj).2] at this
        omega
    have hj2 : (ns.take i)[j]? = some p := by rw [List.getElem?_take_of_lt hji]; exact hj
    have hj3 : (ns.take (i + 1))[j]? = some p := by rw [List.getElem?_take_of_lt (by omega)]; exact hj
    refine ⟨j, nums_get hnd hj3, ?_⟩
    have : ∀ (l : List Nat) (j : Nat), (∀ k ∈ l, ∃ d, res[k]? = some d) → (l.filterMap fun k => res[k]?)[j]? = (l[j]?).bind fun k => res[k]? := by
      intro l
      induction l with
      | nil => intro j _; simp
      | cons k l ih =>
        intro j h
        obtain ⟨d, hd⟩ := h k (List.mem_cons_self ..)
        rw [List.filterMap_cons_some hd]
        cases j with
        | zero => simp [hd]
        | succ j => simpa using ih j fun k hk => h k (List.mem_cons_of_mem _ hk)
    rw [this _ _ fun k hk => hall k (List.mem_of_mem_take hk), hj2]
    exact hpr
  rw [htk]
  cases s with
  | told n => exact ⟨trivial, along_snoc hst h1 h3 h4⟩
  | met a b x =>
    obtain ⟨ka, kb, kx⟩ : a < (res.take at_).length ∧ b < (res.take at_).length ∧ isLetter x = true := h1
    rw [List.length_take] at ka kb
    have la : a < pl.length := by rw [P.len]; omega
    have lb : b < pl.length := by rw [P.len]; omega
    have ea := List.getElem?_eq_getElem la
    have eb := List.getElem?_eq_getElem lb
    have hm := N.cl at_ (List.mem_of_getElem? hi) (Nat.zero_le _) a b x hss
    obtain ⟨ja, ga, ra⟩ := hpl a _ (by omega) ea (hm _ (.inl ea))
    obtain ⟨jb, gb, rb⟩ := hpl b _ (by omega) eb (hm _ (.inr eb))
    refine ⟨⟨_, _, ja, jb, ea, eb, ga, gb⟩, ?_⟩
    have em : movedC pl (nums (ns.take (i + 1))) (.met a b x) = .met ja jb x := by
      show Stp.met ((getD (nums (List.take (i + 1) ns)) (pl.getD a 0)).getD 0) ((getD (nums (List.take (i + 1) ns)) (pl.getD b 0)).getD 0) x = _
      rw [List.getD_eq_getElem?_getD, List.getD_eq_getElem?_getD, ea, eb]
      simp only [Option.getD_some]
      rw [ga, gb]
      rfl
    rw [em]
    have hra := List.getElem?_eq_getElem (l := res) (i := a) (by omega)
    have hrb := List.getElem?_eq_getElem (l := res) (i := b) (by omega)
    have h3' : metC (res[a]'(by omega)) (res[b]'(by omega)) x = some c := by
      have h3 : (match (res.take at_)[a]?, (res.take at_)[b]? with
        | some a, some b => metC a b x
        | _, _ => none) = some c := h3
      rw [List.getElem?_take_of_lt (by omega), List.getElem?_take_of_lt (by omega), hra, hrb] at h3
      exact h3
    refine along_snoc hst ⟨?_, ?_, kx⟩ ?_ h4
    · rw [hra] at ra
      exact get_lt ra
    · rw [hrb] at rb
      exact get_lt rb
    · show (match ((ns.take i).filterMap fun k => res[k]?)[ja]?, ((ns.take i).filterMap fun k => res[k]?)[jb]? with
        | some a, some b => metC a b x
        | _, _ => none) = some c
      rw [ra, rb, hra, hrb]
      exact h3'
end L97
/-! C97m -/
set_option maxHeartbeats 2000000
namespace L97
open PySem PySem.Spec L2 Pm
abbrev RNs : List Nat → V → Pr := RL (fun n : Nat => RI n)
/-- an owned dict -/
def RDo (kv : List (Key × V)) (A : Own) : V → Pr := fun v => pEx fun p => pP (v = .ref p ∧ (p, HO.dK kv) ∈ A)
theorem sd_rdo {kv : List (Key × V)} {A : Own} {Γ : Pr} : SeesD A Γ (RDo kv A) (fun ks => pP (ks = kv)) := fun v H ok g ⟨p, e, hm⟩ => ⟨p, kv, e, ok.at_ _ hm, rfl⟩
abbrev nmK (nm : List (Nat × Nat)) : List (Key × V) := kvs kN (fun n : Nat => V.int n) nm
section
variable {P : Program} {w : World} {K : PySem.W.Frag} {mg : Str → Option Value} {base : Heap}
theorem ok_moved_step (T : Tx K mg) (S : Ats K mg) : Fd P w K mg base "moved_step" 1 (spO (fun (d : {d : Stp × List Nat × List (Nat × Nat) // OkMv d.2.1 d.2.2 d.1}) A => Pm.PC (RStp d.1.1) (Pm.PC (RNs d.1.2.1) (Pm.PC (RDo (nmK d.1.2.2) A) PN))) fun d _ => RStp (movedC d.1.2.1 d.1.2.2 d.1.1)) := by
  obtain ⟨f, fd, F, gm⟩ := S.dmoved_step
  refine fd_mkO F gm cmoved_step (fun _ _ _ _ _ _ us hl => match us, hl with | [_, _, _], _ => rfl) (fun d A vs G h => len3 h) fun cdv Ar outer s H vs ⟨⟨st, pl, nm⟩, h1⟩ A G0 D hr hq hn => in3 fun v1 v2 v3 => ?_
  have nd := cmoved_step.nd
  have hu := hu_of hr
  dsimp only at h1
  cases st with
  | told n =>
    refine b_when (t_eq (x := .str "told") (e_at (e_x 0 (R := RStp (.told n))) e_int s_rp (fun vs G _ e => ⟨_, by cases (show vs = _ from e); rfl, rfl⟩)) e_str) (fun _ => ?_) (fun e => absurd e (by decide))
    exact b_rt hq (e_tupP (vs := (Stp.told n).vals) (av_cons e_str (av_cons (e_at (e_x 0 (R := RStp (.told n))) e_int s_rp (fun vs G _ e => ⟨_, by cases (show vs = _ from e); rfl, rfl⟩)) av_nil)) (by show 2 ≤ 1000; decide))
  | met a b x =>
    obtain ⟨p, q, n, m, e1, e2, e3, e4⟩ := h1
    refine b_when (t_eq (x := .str "met") (e_at (e_x 0 (R := RStp (.met a b x))) e_int s_rp (fun vs G _ e => ⟨_, by cases (show vs = _ from e); rfl, rfl⟩)) e_str) (fun e => absurd e (by decide)) (fun _ => ?_)
    refine b_rt hq (e_tupP (vs := (Stp.met n m x).vals) (av_cons e_str (av_cons (e_dget (k := kN p) hu (e_x 2 (R := RDo (nmK nm) A)) (e_atL (R := fun n : Nat => RI n) (xs := pl) a (e_x 1 (R := RNs pl)) (e_at (R := RI a) (e_x 0 (R := RStp (.met a b x))) e_int s_rp (fun vs G _ e => ⟨_, by cases (show vs = _ from e); rfl, rfl⟩)) rfl e1) sd_rdo fun ks G _ z => ⟨.int n, by cases (show ks = _ from z); rw [kvs_get inlN_inj, e3]; rfl, rfl⟩) (av_cons (e_dget (k := kN q) hu (e_x 2 (R := RDo (nmK nm) A)) (e_atL (R := fun n : Nat => RI n) (xs := pl) b (e_x 1 (R := RNs pl)) (e_at (R := RI b) (e_x 0 (R := RStp (.met a b x))) e_int s_rp (fun vs G _ e => ⟨_, by cases (show vs = _ from e); rfl, rfl⟩)) rfl e2) sd_rdo fun ks G _ z => ⟨.int m, by cases (show ks = _ from z); rw [kvs_get inlN_inj, e4]; rfl, rfl⟩) (av_cons (e_at (R := RS x) (e_x 0 (R := RStp (.met a b x))) e_int s_rp (fun vs G _ e => ⟨_, by cases (show vs = _ from e); rfl, rfl⟩)) av_nil)))) (by show 4 ≤ 1000; decide)) (fun v G z => ?_)
    have em : movedC pl nm (.met a b x) = .met n m x := by
      show Stp.met ((getD nm (pl.getD a 0)).getD 0) ((getD nm (pl.getD b 0)).getD 0) x = _
      rw [List.getD_eq_getElem?_getD, List.getD_eq_getElem?_getD, e1, e2]
      simp only [Option.getD_some]
      rw [e3, e4]
      rfl
    show (RStp (movedC pl nm (.met a b x)) v).holds G
    rw [em]
    exact z.2
end
end L97
/-! C97n -/
set_option maxHeartbeats 4000000
namespace L97
open PySem PySem.Spec L2 Pm
def sortN (ks : List Nat) : List Nat := ks.mergeSort fun a b => decide (a ≤ b)
theorem sortN_perm (ks : List Nat) : (sortN ks).Perm ks := List.mergeSort_perm _ _
theorem sortN_pw (ks : List Nat) : (sortN ks).Pairwise (· ≤ ·) := by
  have := List.pairwise_mergeSort (le := fun a b : Nat => decide (a ≤ b)) (fun a b c h1 h2 => by simp at *; omega) (fun a b => by simp; omega) ks
  exact this.imp fun h => by simpa using h
theorem sortN_uniq {ns ks : List Nat} (h : ns.Perm ks) (hs : ns.Pairwise (· ≤ ·)) : ns = sortN ks :=
  List.Perm.eq_of_pairwise (fun a b _ _ h1 h2 => Nat.le_antisymm h1 h2) hs (sortN_pw ks) (h.trans (sortN_perm ks).symm)
section
variable {X : Cx} {A : Own} {Γ : Pr} {σ : L2.St} {e : Expr} {Ra : V → Pr} {pos : Pos}
theorem f_sortNc {p : Pos} {ks : List Nat} {Pd : List (Key × V) → Pr} (hm : X.mg "sorted" = none) (h : E3 X A Γ σ e Ra) (hs : SeesD A Γ Ra Pd) (hk : ∀ kvs G, Γ.holds G → (Pd kvs).holds G → kvs.map (·.1) = ks.map kN) (hcalm : X.calm = true := by rfl) (hg : Gl X "sorted" := by rfl) (h1 : one1 X e := by rfl) :
    F3 X A Γ σ (.Call (.Name "sorted" p) [e] [] pos) (OL (fun n : Nat => RI n) (sortN ks)) := fun H Q ok g k =>
  f_sortN hm h hs hk hcalm hg h1 H Q ok g fun p o H' n ⟨ns, ⟨h1, h2⟩, r⟩ => k p o H' n (by rw [← sortN_uniq h1 h2]; exact r)
end
theorem strict_of {ns : List Nat} (h : ns.Pairwise (· ≤ ·)) (hn : ns.Nodup) : ns.Pairwise (· < ·) := (List.pairwise_and_iff.mpr ⟨h, hn⟩).imp fun z => Nat.lt_of_le_of_ne z.1 z.2
theorem last_top {ns : List Nat} {top : Nat} (h : ns.Pairwise (· < ·)) (ht : top ∈ ns) (hl : ∀ x ∈ ns, x ≤ top) : ns.getLast? = some top := by
  obtain ⟨j, hj⟩ := List.mem_iff_getElem?.mp ht
  rw [List.getLast?_eq_getElem?]
  have hjl := get_lt hj
  by_cases e : j = ns.length - 1
  · rw [← e]; exact hj
  · have hlt : j < ns.length - 1 := by omega
    have := List.pairwise_iff_getElem.mp h j (ns.length - 1) hjl (by omega) hlt
    have h2 := hl _ (List.getElem_mem (l := ns) (n := ns.length - 1) (by omega))
    rw [(List.getElem?_eq_some_iff.mp hj).2] at this
    omega
theorem Ned.sub {ss : List Stp} {pl : List Nat} {top k : Nat} {ns : List Nat} (N : Ned ss pl top ns k) (hs : ∀ a b x, ss[k - 1]? = some (.met a b x) → k - 1 ∉ ns) : Ned ss pl top ns (k - 1) :=
  ⟨N.tp, N.lt, N.le, N.nd, fun at_ hm hk a b x hx p hp => by
    by_cases e : k ≤ at_
    · exact N.cl at_ hm e a b x hx p hp
    · have : at_ = k - 1 := by omega
      subst this
      exact absurd hm (hs a b x hx)⟩
theorem ned_put {cs res : List Cl} {ss : List Stp} {pl : List Nat} {top k pa pb : Nat} {d : List (Nat × Bool)} (al : Along cs ss [] res) (P : Pls res pl) (N : Ned ss pl top (keysD d) (k + 1)) {a b : Nat} {x : Str} (hx : ss[k]? = some (.met a b x)) (hm : k ∈ keysD d) (ha : pl[a]? = some pa) (hb : pl[b]? = some pb) (lt : a < k ∧ b < k) :
    Ned ss pl top (keysD (putD (putD d pa true) pb true)) k := by
  have hk : ∀ y, y ∈ keysD (putD (putD d pa true) pb true) ↔ y ∈ keysD d ∨ y = pa ∨ y = pb := fun y => by
    have h1 : ∀ (d : List (Nat × Bool)) (q y : Nat), y ∈ keysD (putD d q true) ↔ y ∈ keysD d ∨ y = q := fun d q y => by
      rw [keys_put]
      split
      · rename_i h
        exact ⟨.inl, fun z => z.elim id fun e => e ▸ h⟩
      · rw [List.mem_append, List.mem_singleton]
    rw [h1, h1, or_assoc]
  have la := (P.at_ a pa ha).1
  have lb := (P.at_ b pb hb).1
  have lk := N.le k hm
  refine ⟨(hk _).mpr (.inl N.tp), N.lt, fun y hy => ?_, put_nd (put_nd N.nd), fun at_ hat hle a' b' x' hx' p hp => ?_⟩
  · rcases (hk y).mp hy with z | z | z
    · exact N.le y z
    · omega
    · omega
  · rcases (hk at_).mp hat with z | z | z
    · by_cases e : k + 1 ≤ at_
      · exact (hk p).mpr (.inl (N.cl at_ z e a' b' x' hx' p hp))
      · have : at_ = k := by omega
        subst this
        rw [hx] at hx'
        cases hx'
        rcases hp with hp | hp
        · rw [ha] at hp
          cases hp
          exact (hk _).mpr (.inr (.inl rfl))
        · rw [hb] at hp
          cases hp
          exact (hk _).mpr (.inr (.inr rfl))
    · omega
    · omega
theorem nil_get {α : Type} {j : Nat} {p : α} (h : ([] : List α)[j]? = some p) : False := by simp at h
theorem put_len {κ β : Type} [DecidableEq κ] {d : List (κ × β)} {k : κ} {v : β} : (putD d k v).length ≤ d.length + 1 := by
  unfold putD
  split
  · rw [List.length_map]; omega
  · rw [List.length_append]; simp
def okShort (cs : List Cl) (ss : List Stp) : V → Pr := fun v => pEx fun st : List Stp => pEx fun rs : List Cl => pAnd (pP (OkPf cs st rs ∧ rs.getLast? = some [] ∧ st.length ≤ ss.length)) (RL RStp st v)
section
variable {P : Program} {w : World} {K : PySem.W.Frag} {mg : Str → Option Value} {base : Heap}
theorem ok_shorter_proof (T : Tx K mg) (S : Ats K mg) : Fd P w K mg base "shorter_proof" 9 (spF (fun (d : {d : List Cl × List Stp × List Cl // OkCs d.1 ∧ OkPf d.1 d.2.1 d.2.2 ∧ d.2.2.getLast? = some []}) => Pm.PC (RCs d.1.1) (Pm.PC (RL RStp d.1.2.1) PN)) fun d => okShort d.1.1 d.1.2.1) := by
  obtain ⟨f, fd, F, gm⟩ := S.dshorter_proof
  refine fd_mk F gm cshorter_proof (fun _ _ _ _ _ _ us hl => match us, hl with | [_, _], _ => rfl) (fun d vs G h => len2 h) fun cdv Ar outer s H vs ⟨⟨cs, ss, res⟩, h0, h1, h2⟩ A G0 D hr hq hn => in2 fun v1 v2 => ?_
  have nd := cshorter_proof.nd
  dsimp only at h0 h1 h2
  have hu := hu_of hr
  have hal := h1.run
  have hlen := along_len hal
  rw [List.length_nil, Nat.zero_add] at hlen
  have hss := h1.len
  refine b_set 2 (R := RCs res) (e_c (ok_proof_clauses T S) hr ⟨(cs, ss, res), h0, h1, h2⟩ (a_cons (e_x 0) (a_cons (e_x 1) a_nil))) fun v3 => ?_
  refine b_par 5 6 fun H ok g => f_nestNew' H _ ok g fun p H1 n1 => (f_nil (α := Nat) (T := fun n : Nat => RI n)) H1 _ n1.ok1 (Pr.mono _ n1.same g) fun q o' H2 n2 r2 => B3.at (Γ := pAnd (pAnd (pAnd (pSame G0) (RCs cs v1)) (RL RStp ss v2)) (RCs res v3)) ?_ n2.ok1 (Pr.mono _ (n1.same.trans n2.same) g)
  cases ol_nil r2
  refine b_for (δ := Ks × List Nat × Option V × Option V) (sd := fun d => [some v1, some v2, some v3, none, d.2.2.1, some (.ref p), some (.ref q), d.2.2.2, none, none]) (Ad := fun d => (q, .lst (d.2.1.map fun n : Nat => V.int n)) :: (p, NestD P w p d.1) :: A) (Γd := fun d => pAnd (pAnd (pAnd (pAnd (pSame G0) (RCs cs v1)) (RL RStp ss v2)) (RCs res v3)) (pKs d.1)) (rel := fun i d => d.2.1.length = i ∧ (∀ j p, d.2.1[j]? = some p → p ≤ j ∧ res[p]? = res[j]?) ∧ (∀ x ∈ d.1, x.2.2 < i ∧ res[x.2.2]? = some x.1) ∧ d.1.length ≤ i) (i_enumL (P := RCl) (xs := res) T.enumerate (e_x 2)) (tg_pair 4 7) ([], [], none, none) ⟨⟨rfl, fun j p h => (nil_get h).elim, fun x (hx : x ∈ []) => absurd hx List.not_mem_nil, Nat.le_refl _⟩, rfl, rfl⟩ (fun G h => ⟨h, fun x hx => absurd hx List.not_mem_nil⟩) (fun Gd i z d w' hz hr2 => ?_) (fun d hr2 => ?_)
  · obtain ⟨xs, pl, sa, sb⟩ := d
    obtain ⟨k1, k2, k3, k4⟩ := hr2
    dsimp only at k1 k2 k3 k4
    obtain ⟨i', c⟩ := z
    obtain ⟨e1, e2, e3⟩ := enumL_get hz
    dsimp only at e1 e2
    subst e1
    refine B3.v (v := w'.1) (w := .int i') (fun G h => h.2.1) fun ew => ?_
    obtain ⟨w1, w2⟩ := w'
    dsimp only at ew
    subst ew
    refine b_apM (fun _ => []) (fun r : Ks × Nat => (p, NestD P w p r.1) :: A) 6 (m_nestSet [(q, .lst (pl.map fun n : Nat => V.int n))] (cl := c) (n := i') (hu64 hr) rfl (e_v 5) (F3.rt (f_tupleL T.tuple (e_x 7 (R := RCl c)))) (e_v 4) (fun G h => h.1.1.2) (by show xs.length < _; rw [sizeLine_eq]; omega)) (fun _ => rfl) (List.mem_cons_self ..) (by rw [List.length_map, sizeLine_eq]; omega) fun v r => ?_
    refine B3.fact (fun G h => h.2.1) fun ⟨ev, hor⟩ => ?_
    obtain ⟨xs', m⟩ := r
    dsimp only at ev hor
    subst ev
    have hm : m ≤ i' ∧ res[m]? = some c := by
      rcases hor with ⟨ha, _⟩ | ⟨_, rfl, _⟩
      · unfold atNest at ha
        obtain ⟨x, hx, rfl⟩ := Option.map_eq_some_iff.mp ha
        have hx1 := List.find?_some hx
        have hx2 := k3 x (List.mem_of_find?_eq_some hx)
        simp only [decide_eq_true_eq] at hx1
        rw [← hx1]
        exact ⟨by omega, hx2.2⟩
      · exact ⟨Nat.le_refl _, e2⟩
    have hpl : pl.map (fun n : Nat => V.int n) ++ [V.int m] = (pl ++ [m]).map fun n : Nat => V.int n := by simp
    refine b_fin rfl (xs', pl ++ [m], some (.int i'), some w2) ⟨by show (pl ++ [m]).length = _; simp [k1], fun j p' hj => ?_, fun x hx => ?_, ?_⟩ rfl (by show [] ++ (q, HO.lst (pl.map (fun n : Nat => V.int n) ++ [V.int m])) :: _ = _; rw [hpl]; rfl) fun G h => ⟨⟨h.1.1.1.1, h.2.2⟩, h.1.1.2⟩
    · rcases Nat.lt_or_ge j pl.length with z | z
      · rw [List.getElem?_append_left z] at hj
        exact k2 j p' hj
      · have hj' := get_lt hj
        simp at hj'
        have : j = i' := by omega
        subst this
        rw [← k1] at hj
        simp at hj
        subst hj
        rw [hm.2, e2]
        exact ⟨hm.1, rfl⟩
    · rcases hor with ⟨_, e⟩ | ⟨_, _, b, e⟩
      · subst e
        have := k3 x hx
        exact ⟨by omega, this.2⟩
      · subst e
        rcases List.mem_append.mp hx with hx | hx
        · have := k3 x hx
          exact ⟨by omega, this.2⟩
        · rw [List.mem_singleton] at hx
          subst hx
          exact ⟨by dsimp only; omega, e2⟩
    · show xs'.length ≤ _
      rcases hor with ⟨_, e⟩ | ⟨_, _, b, e⟩
      · subst e; omega
      · subst e
        rw [List.length_append]
        simp
        omega
  · obtain ⟨xs, pl, sa, sb⟩ := d
    obtain ⟨k1, k2, k3, k4⟩ := hr2
    dsimp only at k1 k2 k3 k4
    rw [enumL_len] at k1 k3 k4
    have P : Pls res pl := ⟨k1, k2⟩
    have hpos : 0 < res.length := by
      cases hh : res with
      | nil => rw [hh] at h2; cases h2
      | cons _ _ => simp
    have htl : res.length - 1 < pl.length := by omega
    have htop := List.getElem?_eq_getElem htl
    generalize pl[res.length - 1] = top at htop
    obtain ⟨htle, hrt⟩ := P.at_ _ _ htop
    have hlast : pl.getLast? = some top := by rw [List.getLast?_eq_getElem?, k1]; exact htop
    have hrtop : res[top]? = some [] := by
      rw [hrt, ← List.getLast?_eq_getElem?]
      exact h2
    refine b_let (b_let (B3.pre (Δ := pAnd (pAnd (pAnd (pSame G0) (RL RStp ss v2)) (RCs res v3)) (RNs pl (.ref q))) ?_ fun G h => ⟨⟨⟨h.1.1.1.1.1.1, h.1.1.1.1.2⟩, h.1.1.1.2⟩, q, _, rfl, h.1.2, pAll_of (f := fun n : Nat => V.int n)⟩))
    refine b_setO 3 (f_disp1 (k := kN top) (v := .bl true) (fun _ => e_at (e_x 6 (R := RNs pl)) e_neg1 s_rl.s fun vs G _ h => by
      obtain ⟨x, e1, e2⟩ := pAll_last h hlast
      exact ⟨x, atI_neg1 e1, e2⟩) (fun _ => e_bl)) fun nq o => ?_
    refine B3.fact (fun G h => h.2) fun eo => ?_
    subst eo
    refine b_for (δ := List (Nat × Bool) × Option V) (sd := fun d => [some v1, some v2, some v3, some (.ref nq), d.2, some (.ref p), some (.ref q), sb, none, none]) (Ad := fun d => (nq, .dK (kvs kN V.bl d.1)) :: A) (Γd := fun d => pAnd (pAnd (pAnd (pSame G0) (RL RStp ss v2)) (RCs res v3)) (RNs pl (.ref q))) (rel := fun i d => Ned ss pl top (keysD d.1) (ss.length - i) ∧ d.1.length ≤ 1 + 2 * i) (i_down (n := ss.length) T.range (E3.imp (e_sub (e_lenL (R := RCl) (xs := res) T.len (e_x 2)) e_int) fun v G z => by rw [← hlen]; exact z.2) e_neg1 e_neg1 (by omega)) (tg_name 4) ([(top, true)], sa) ⟨⟨⟨List.mem_cons_self .., by omega, fun x (hx : x ∈ [top]) => by rw [List.mem_singleton] at hx; omega, by simp, fun at_ hm hk => by
      intro a b x hx
      have := get_lt hx
      omega⟩, Nat.le_refl _⟩, rfl, rfl⟩ (fun G h => h.1) (fun Gd i z d w' hz hr2 => ?_) (fun d hr2 => ?_)
    · obtain ⟨d, sc⟩ := d
      obtain ⟨N, k5⟩ := hr2
      dsimp only at N k5
      have hi := get_lt hz
      rw [List.length_reverse, List.length_range] at hi
      rw [List.getElem?_reverse (by rw [List.length_range]; exact hi), List.length_range, List.getElem?_range (by omega)] at hz
      cases hz
      refine B3.v (fun G h => h.2) fun ew => ?_
      subst ew
      have hk : ss.length - 1 - i < ss.length := by omega
      have hks : ss.length - i = (ss.length - 1 - i) + 1 := by omega
      have hks2 : ss.length - (i + 1) = ss.length - 1 - i := by omega
      rw [hks] at N
      generalize ss.length - 1 - i = k at hk hks2 N
      have hst := List.getElem?_eq_getElem hk
      generalize ss[k] = st at hst
      have hNs : (∀ a b x, ss[k]? = some (.met a b x) → k ∉ keysD d) → Ned ss pl top (keysD d) (ss.length - (i + 1)) := fun h => by
        rw [hks2]
        exact N.sub (k := k + 1) h
      cases st with
      | told n =>
        refine b_when (t_and (t := decide (k ∈ keysD d)) (u := false) (t_din (k := kN k) hu (e_v 4) (e_v 3) (sd_own (List.mem_cons_self ..)) (fun kv G _ z => by cases (show kv = _ from z); rw [kvs_get inlN_inj, Option.isSome_map, get_isSome])) fun _ => (t_eq (x := .str "told") (y := .str "met") (e_at (e_atL (R := RStp) (xs := ss) k (e_x 1 (R := RL RStp ss)) (e_v 4) rfl hst) e_int s_rp (fun vs G _ e => ⟨_, by cases (show vs = _ from e); rfl, rfl⟩)) e_str).eq (by decide)) (fun e => absurd e (by simp)) (fun _ => ?_)
        exact b_fin rfl (d, some (.int k)) ⟨hNs (fun a b x h => by rw [hst] at h; cases h), by dsimp only; omega⟩ rfl rfl fun G h => h.1
      | met a b x =>
        obtain ⟨ok1, _⟩ := along_step hal hst
        rw [List.length_nil, Nat.zero_add] at ok1
        obtain ⟨ka, kb, _⟩ : a < (res.take k).length ∧ b < (res.take k).length ∧ isLetter x = true := ok1
        rw [List.length_take] at ka kb
        have ea := List.getElem?_eq_getElem (l := pl) (i := a) (by omega)
        have eb := List.getElem?_eq_getElem (l := pl) (i := b) (by omega)
        generalize pl[a]'(by omega) = pa at ea
        generalize pl[b]'(by omega) = pb at eb
        refine b_when (t_and (t := decide (k ∈ keysD d)) (u := true) (t_din (k := kN k) hu (e_v 4) (e_v 3) (sd_own (List.mem_cons_self ..)) (fun kv G _ z => by cases (show kv = _ from z); rw [kvs_get inlN_inj, Option.isSome_map, get_isSome])) fun _ => (t_eq (x := .str "met") (y := .str "met") (e_at (e_atL (R := RStp) (xs := ss) k (e_x 1 (R := RL RStp ss)) (e_v 4) rfl hst) e_int s_rp (fun vs G _ e => ⟨_, by cases (show vs = _ from e); rfl, rfl⟩)) e_str).eq (by decide)) (fun e => ?_) (fun e => ?_)
        · have hm : k ∈ keysD d := by simpa using e
          refine b_dput (k := kN pa) [] hu e_bl (e_v 3) (e_atL (R := fun n : Nat => RI n) (xs := pl) a (e_x 6 (R := RNs pl)) (e_at (R := RI a) (e_atL (R := RStp) (xs := ss) k (e_x 1 (R := RL RStp ss)) (e_v 4) rfl hst) e_int s_rp (fun vs G _ e => ⟨_, by cases (show vs = _ from e); rfl, rfl⟩)) rfl ea) (fun G h => by rw [kvs_len]; show d.length < _; rw [sizeLine_eq]; omega) fun u => ?_
          refine B3.fact (fun G h => h.2) fun eu => ?_
          subst eu
          rw [kvs_put (ι := kN) (f := V.bl) inlN_inj d pa true]
          have hl1 := put_len (d := d) (k := pa) (v := true)
          refine b_dput (k := kN pb) [] hu e_bl (e_v 3) (e_atL (R := fun n : Nat => RI n) (xs := pl) b (e_x 6 (R := RNs pl)) (e_at (R := RI b) (e_atL (R := RStp) (xs := ss) k (e_x 1 (R := RL RStp ss)) (e_v 4) rfl hst) e_int s_rp (fun vs G _ e => ⟨_, by cases (show vs = _ from e); rfl, rfl⟩)) rfl eb) (fun G h => by rw [kvs_len]; show (putD d pa true).length < _; rw [sizeLine_eq]; omega) fun u => ?_
          refine B3.fact (fun G h => h.2) fun eu => ?_
          subst eu
          rw [kvs_put (ι := kN) (f := V.bl) inlN_inj (putD d pa true) pb true]
          have hl2 := put_len (d := putD d pa true) (k := pb) (v := true)
          exact b_gon rfl <| b_fin rfl (putD (putD d pa true) pb true, some (.int k)) ⟨by rw [hks2]; exact ned_put hal P N hst hm ea eb ⟨by omega, by omega⟩, by dsimp only; omega⟩ rfl rfl fun G h => h.1.1.1
        · exact b_fin rfl (d, some (.int k)) ⟨hNs (fun _ _ _ _ => by simpa using e), by dsimp only; omega⟩ rfl rfl fun G h => h.1
    · obtain ⟨d, sc⟩ := d
      obtain ⟨N, k5⟩ := hr2
      dsimp only at N k5
      rw [List.length_reverse, List.length_range] at N k5
      rw [Nat.sub_self] at N
      have hperm := sortN_perm (keysD d)
      have hns := sortN_pw (keysD d)
      have hsorted : sortN (keysD d) = sortN (keysD d) := rfl
      have N2 : Ned ss pl top (sortN (keysD d)) 0 := ⟨hperm.mem_iff.mpr N.tp, N.lt, fun x hx => N.le x (hperm.mem_iff.mp hx), hperm.nodup_iff.mpr N.nd, fun at_ hm hk a b x hx p hp => hperm.mem_iff.mpr (N.cl at_ (hperm.mem_iff.mp hm) hk a b x hx p hp)⟩
      have hst := strict_of hns N2.nd
      have hlt := last_top hst N2.tp N2.le
      have hnl : (sortN (keysD d)).length ≤ ss.length := by
        have := nodup_len (m := List.range ss.length) N2.nd fun x hx => List.mem_range.mpr (by have := N2.le x hx; have := N2.lt; omega)
        rwa [List.length_range] at this
      generalize hnsd : sortN (keysD d) = ns at hperm hns N2 hst hlt hnl
      refine b_parFF 8 9 (Ra := fun o => pP (o = .dK [])) (Rb := OL RStp []) f_dnew (fun _ => f_nil) fun p8 o q9 o' => ?_
      refine B3.fact (fun G h => h.1.2) fun eo => B3.fact (fun G h => ol_nil h.2) fun eo' => ?_
      subst eo eo'
      refine b_for (δ := List Stp × List V × Option V) (sd := fun e => [some v1, some v2, some v3, some (.ref nq), e.2.2, some (.ref p), some (.ref q), sb, some (.ref p8), some (.ref q9)]) (Ad := fun e => (q9, .lst e.2.1) :: (p8, .dK (nmK (nums (ns.take e.1.length)))) :: (nq, .dK (kvs kN V.bl d)) :: A) (Γd := fun e => pAnd (pAnd (pAnd (pAnd (pSame G0) (RL RStp ss v2)) (RCs res v3)) (RNs pl (.ref q))) (pAll RStp e.1 e.2.1)) (rel := fun i e => e.1.length = i ∧ Along cs e.1 [] ((ns.take i).filterMap fun k => res[k]?)) (i_list (P := fun n : Nat => RI n) (xs := ns) (by rw [← hnsd]; exact F3.rl (f_sortNc T.sorted (e_v 3) (sd_own (List.mem_cons_of_mem _ (List.mem_cons_of_mem _ (List.mem_cons_self ..)))) (fun kv G _ z => by cases (show kv = _ from z); exact kvs_keys d)))) (tg_name 4) ([], [], sc) ⟨⟨rfl, rfl⟩, rfl, rfl⟩ (fun G h => ⟨h.1.1, trivial⟩) (fun Gd i at_ e w' hz hr2 => ?_) (fun e hr2 => ?_)
      · obtain ⟨st, sv, se⟩ := e
        obtain ⟨k6, k7⟩ := hr2
        dsimp only at k6 k7
        subst k6
        refine B3.v (fun G h => h.2) fun ew => ?_
        subst ew
        have hal2 := N2.le at_ (List.mem_of_getElem? hz)
        have hlt2 := N2.lt
        have hss2 := List.getElem?_eq_getElem (l := ss) (i := at_) (by omega)
        generalize ss[at_]'(by omega) = s0 at hss2
        obtain ⟨mv, al2⟩ := short_step hal P N2 hst hz hss2 k7
        refine B3.fact (fun G h => (pAll_len h.1.1.2).symm) fun hsl => ?_
        dsimp only at hsl
        refine b_dput [(q9, .lst sv)] (k := kN at_) hu (e_lenO T.len (e_v 9) (List.mem_cons_self ..)) (e_v 8) (e_v 4) (fun G h => by rw [kvs_len]; unfold nums; rw [List.length_zipIdx, List.length_take, sizeLine_eq]; omega) fun u => ?_
        refine B3.fact (fun G h => h.2) fun eu => ?_
        subst eu
        have hput : putK (nmK (nums (ns.take st.length))) (kN at_) (V.int sv.length) = nmK (nums (ns.take (st.length + 1))) := by
          have h1 := kvs_put (ι := kN) (f := fun n : Nat => V.int n) inlN_inj (nums (ns.take st.length)) at_ st.length
          rw [hsl]
          refine h1.trans ?_
          rw [take_snoc hz, nums_snoc, putD_out, List.length_take, Nat.min_eq_left (Nat.le_of_lt (get_lt hz))]
          rw [nums_keys]
          intro hm
          obtain ⟨j, hj, ej⟩ := List.mem_take_iff_getElem.mp hm
          have := List.pairwise_iff_getElem.mp hst j st.length (by omega) (get_lt hz) (by omega)
          rw [ej, (List.getElem?_eq_some_iff.mp hz).2] at this
          omega
        rw [hput]
        refine b_ap [] 9 (R := RStp (movedC pl (nums (ns.take (st.length + 1))) s0)) (e_co (ok_moved_step T S) hr ⟨(s0, pl, nums (ns.take (st.length + 1))), mv⟩ (a_cons (e_atL (R := RStp) (xs := ss) at_ (e_x 1 (R := RL RStp ss)) (e_v 4) rfl hss2) (a_cons (e_x 6 (R := RNs pl)) (a_cons (e_var 8 (R := RDo (nmK (nums (ns.take (st.length + 1)))) _) (fun G h => ⟨p8, rfl, List.mem_cons_of_mem _ (List.mem_cons_self ..)⟩)) a_nil)))) (fun G h => by show sv.length < _; have := get_lt hz; rw [hsl, sizeLine_eq]; omega) fun u => ?_
        exact b_fin rfl (st ++ [movedC pl (nums (ns.take (st.length + 1))) s0], sv ++ [u], some (.int at_)) ⟨by simp, al2⟩ rfl (by show _ = (q9, HO.lst (sv ++ [u])) :: (p8, HO.dK (nmK (nums (ns.take (st ++ [_]).length)))) :: _; rw [List.length_append]; rfl) fun G h => ⟨⟨h.1.1.1.1.1, pAll_app h.1.1.1.1.2 (pAll_one h.2)⟩, h.1.1.1.2⟩
      · obtain ⟨st, sv, se⟩ := e
        obtain ⟨k6, k7⟩ := hr2
        dsimp only at k6 k7 ⊢
        rw [List.take_length] at k7
        refine b_let (b_let (b_let (b_rt hq (e_var 9 (R := RL RStp st) fun G h => ⟨q9, sv, rfl, h.1.1.2, h.1.1.1.2⟩) fun v G z => ?_)))
        refine ⟨st, _, ⟨⟨k7, by omega, fun c hc => (h0.cl c hc).few⟩, ?_, by dsimp only; omega⟩, z.2⟩
        obtain ⟨ys, rfl⟩ := List.getLast?_eq_some_iff.mp hlt
        rw [List.filterMap_append]
        simp [hrtop]
end
end L97
/-! C97o -/
set_option maxHeartbeats 2000000
/-! plain: rows of truths over letters, and what a proof's rows tell between two lists of clauses -/
namespace L97
open PySem PySem.Spec L2 Pm
abbrev Row := List Str × List Bool
abbrev RRow : Row → V → Pr := RT2 (RL RS) (RL RB)
abbrev As := Str → Bool
def idx : List Str → As → Nat
  | [], _ => 0
  | l :: r, w => (if w l = true then 2 ^ r.length else 0) + idx r w
theorem idx_lt : ∀ (ls : List Str) (w : As), idx ls w < 2 ^ ls.length
  | [], _ => by simp [idx]
  | l :: r, w => by
    have := idx_lt r w
    unfold idx
    rw [List.length_cons, Nat.pow_succ]
    split <;> omega
theorem idx_snoc : ∀ (ls : List Str) (l : Str) (w : As), idx (ls ++ [l]) w = 2 * idx ls w + (if w l = true then 1 else 0)
  | [], l, w => by
    show (if w l = true then 2 ^ 0 else 0) + 0 = 2 * 0 + _
    split <;> rfl
  | x :: r, l, w => by
    show (if w x = true then 2 ^ (r ++ [l]).length else 0) + idx (r ++ [l]) w = 2 * ((if w x = true then 2 ^ r.length else 0) + idx r w) + _
    rw [idx_snoc, List.length_append]
    have : 2 ^ (r.length + [l].length) = 2 * 2 ^ r.length := by
      show 2 ^ (r.length + 1) = _
      rw [Nat.pow_succ]; omega
    rw [this]
    split <;> omega
def evalR (r : Row) (w : As) : Bool := r.2.getD (idx r.1 w) false
theorem flat2 {α β : Type} {f : α → List β} (hf : ∀ a, (f a).length = 2) : ∀ (ps : List α) (i b : Nat), b < 2 → (ps.flatMap f)[2 * i + b]? = (ps[i]?).bind fun a => (f a)[b]?
  | [], i, b, _ => by simp
  | p :: ps, 0, b, hb => by
    rw [List.flatMap_cons, List.getElem?_append_left (by rw [hf]; omega)]
    simp
  | p :: ps, i + 1, b, hb => by
    rw [List.flatMap_cons, List.getElem?_append_right (by rw [hf]; omega), hf]
    have e : 2 * (i + 1) + b - 2 = 2 * i + b := by omega
    rw [e, flat2 hf ps i b hb]
    simp
def stepP (ls : List Str) (ps : List Nat) (l : Str) : List Nat := ps.flatMap fun p => if l ∈ ls then [2 * p, 2 * p + 1] else [p, p]
def placesC (ls wider : List Str) : List Nat := wider.foldl (stepP ls) [0]
theorem stepP_get {ls : List Str} {w : As} {ps : List Nat} {pre : List Str} {l : Str} (h : ps[idx pre w]? = some (idx (pre.filter fun x => decide (x ∈ ls)) w)) : (stepP ls ps l)[idx (pre ++ [l]) w]? = some (idx ((pre ++ [l]).filter fun x => decide (x ∈ ls)) w) := by
  unfold stepP
  rw [idx_snoc, flat2 (fun a => by split <;> rfl) ps _ _ (by split <;> omega), h]
  rw [List.filter_append]
  by_cases hl : l ∈ ls
  · have e : [l].filter (fun x => decide (x ∈ ls)) = [l] := by simp [hl]
    rw [e, idx_snoc]
    simp only [Option.bind_some, hl, if_true]
    split <;> rfl
  · have e : [l].filter (fun x => decide (x ∈ ls)) = [] := by simp [hl]
    rw [e, List.append_nil]
    simp only [Option.bind_some, hl, if_false]
    split <;> rfl
theorem fold_get {ls : List Str} {w : As} : ∀ (rest pre : List Str) (ps : List Nat), ps[idx pre w]? = some (idx (pre.filter fun x => decide (x ∈ ls)) w) → (rest.foldl (stepP ls) ps)[idx (pre ++ rest) w]? = some (idx ((pre ++ rest).filter fun x => decide (x ∈ ls)) w)
  | [], pre, ps, h => by rw [List.append_nil]; exact h
  | l :: r, pre, ps, h => by
    have := fold_get r (pre ++ [l]) (stepP ls ps l) (stepP_get h)
    rw [List.append_assoc] at this
    exact this
theorem places_get (ls wider : List Str) (w : As) : (placesC ls wider)[idx wider w]? = some (idx (wider.filter fun x => decide (x ∈ ls)) w) := fold_get wider [] [0] rfl
theorem stepP_len {ls : List Str} {ps : List Nat} {l : Str} : (stepP ls ps l).length = 2 * ps.length := by
  unfold stepP
  induction ps with
  | nil => rfl
  | cons p ps ih =>
    rw [List.flatMap_cons, List.length_append, ih, List.length_cons]
    split <;> simp <;> omega
theorem fold_len {ls : List Str} : ∀ (wider : List Str) (ps : List Nat), (wider.foldl (stepP ls) ps).length = 2 ^ wider.length * ps.length
  | [], ps => by simp
  | l :: r, ps => by
    rw [List.foldl_cons, fold_len r, stepP_len, List.length_cons, Nat.pow_succ, Nat.mul_assoc]
theorem places_len (ls wider : List Str) : (placesC ls wider).length = 2 ^ wider.length := by
  unfold placesC
  rw [fold_len]
  simp
theorem fold_bd {ls : List Str} : ∀ (rest pre : List Str) (ps : List Nat), (∀ p ∈ ps, p < 2 ^ (pre.filter fun x => decide (x ∈ ls)).length) → ∀ p ∈ rest.foldl (stepP ls) ps, p < 2 ^ ((pre ++ rest).filter fun x => decide (x ∈ ls)).length
  | [], pre, ps, h => by rw [List.append_nil]; exact h
  | l :: r, pre, ps, h => by
    have := fold_bd r (pre ++ [l]) (stepP ls ps l) (fun p hp => by
      unfold stepP at hp
      obtain ⟨q, hq, hp⟩ := List.mem_flatMap.mp hp
      have hb := h q hq
      rw [List.filter_append]
      by_cases hl : l ∈ ls
      · have e : [l].filter (fun x => decide (x ∈ ls)) = [l] := by simp [hl]
        rw [e, List.length_append]
        have e2 : 2 ^ ((pre.filter fun x => decide (x ∈ ls)).length + [l].length) = 2 * 2 ^ (pre.filter fun x => decide (x ∈ ls)).length := by
          show 2 ^ (_ + 1) = _
          rw [Nat.pow_succ]; omega
        rw [e2]
        rw [if_pos hl] at hp
        simp at hp
        omega
      · have e : [l].filter (fun x => decide (x ∈ ls)) = [] := by simp [hl]
        rw [e, List.append_nil]
        rw [if_neg hl] at hp
        simp at hp
        omega)
    rw [List.append_assoc] at this
    exact this
theorem places_bd (ls wider : List Str) : ∀ p ∈ placesC ls wider, p < 2 ^ (wider.filter fun x => decide (x ∈ ls)).length := fold_bd wider [] [0] (by simp)
def spreadC (ls : List Str) (row : List Bool) (wider : List Str) : List Bool := (placesC ls wider).map fun p => row.getD p false
def joinC (word : Str) (a b : Bool) : Bool := if word = "both" then a && b else a || b
def unionC (a b : List Str) : List Str := sortS (nubA [] (a ++ b))
def joinedC (word : Str) (f s : Row) : Row := (unionC f.1 s.1, List.zipWith (joinC word) (spreadC f.1 f.2 (unionC f.1 s.1)) (spreadC s.1 s.2 (unionC f.1 s.1)))
structure OkRow (r : Row) : Prop where
  up : r.1.Pairwise ltS
  len : r.2.length = 2 ^ r.1.length
theorem mem_union {a b : List Str} {x : Str} : x ∈ unionC a b ↔ x ∈ a ∨ x ∈ b := by
  unfold unionC
  rw [mem_sortS, mem_nubA, List.mem_append]
  simp
theorem union_up (a b : List Str) : (unionC a b).Pairwise ltS := sortS_lt (nubA_nodup List.nodup_nil)
theorem up_nodup {l : List Str} (h : l.Pairwise ltS) : l.Nodup := h.imp fun {a b} z e => by
  rw [e] at z
  exact List.lt_irrefl _ z
theorem up_ext {l m : List Str} (h : l.Pairwise ltS) (h2 : m.Pairwise ltS) (he : ∀ x, x ∈ l ↔ x ∈ m) : l = m := by
  have hp : l.Perm m := (List.perm_ext_iff_of_nodup (up_nodup h) (up_nodup h2)).mpr he
  exact List.Perm.eq_of_pairwise (fun a b _ _ h1 h2 => leS_anti h1 h2) (h.imp lt_leS) (h2.imp lt_leS) hp
theorem up_filter {l m : List Str} (h : l.Pairwise ltS) (h2 : m.Pairwise ltS) (hs : ∀ x ∈ l, x ∈ m) : (m.filter fun x => decide (x ∈ l)) = l :=
  up_ext (h2.filter _) h fun x => by
    rw [List.mem_filter, decide_eq_true_eq]
    exact ⟨fun z => z.2, fun z => ⟨hs x z, z⟩⟩
theorem spread_eval {r : Row} {wider : List Str} (ok : OkRow r) (hw : wider.Pairwise ltS) (hs : ∀ x ∈ r.1, x ∈ wider) (w : As) : (spreadC r.1 r.2 wider).getD (idx wider w) false = evalR r w := by
  have h := places_get r.1 wider w
  rw [up_filter ok.up hw hs] at h
  unfold spreadC evalR
  rw [List.getD_eq_getElem?_getD, List.getElem?_map, h]
  rfl
theorem joined_ok {f s : Row} (word : Str) (hf : OkRow f) (hs : OkRow s) : OkRow (joinedC word f s) := by
  refine ⟨union_up _ _, ?_⟩
  unfold joinedC spreadC
  dsimp only
  rw [List.length_zipWith, List.length_map, List.length_map, places_len, places_len, Nat.min_self]
theorem joined_eval {f s : Row} (word : Str) (hf : OkRow f) (hs : OkRow s) (w : As) : evalR (joinedC word f s) w = joinC word (evalR f w) (evalR s w) := by
  have h1 := spread_eval hf (union_up f.1 s.1) (fun x hx => mem_union.mpr (.inl hx)) w
  have h2 := spread_eval hs (union_up f.1 s.1) (fun x hx => mem_union.mpr (.inr hx)) w
  rw [← h1, ← h2]
  unfold evalR joinedC
  dsimp only
  have l1 : idx (unionC f.1 s.1) w < (spreadC f.1 f.2 (unionC f.1 s.1)).length := by unfold spreadC; rw [List.length_map, places_len]; exact idx_lt _ _
  have l2 : idx (unionC f.1 s.1) w < (spreadC s.1 s.2 (unionC f.1 s.1)).length := by unfold spreadC; rw [List.length_map, places_len]; exact idx_lt _ _
  rw [List.getD_eq_getElem?_getD, List.getD_eq_getElem?_getD, List.getD_eq_getElem?_getD, List.getElem?_zipWith, List.getElem?_eq_getElem l1, List.getElem?_eq_getElem l2]
  rfl
/-! ### rows of a proof -/
def litRow (l : Lit) : Row := ([l.1], [!l.2, l.2])
theorem litRow_ok (l : Lit) : OkRow (litRow l) := ⟨by simp [litRow], rfl⟩
theorem litRow_eval (l : Lit) (w : As) : evalR (litRow l) w = decide (w l.1 = l.2) := by
  show ([!l.2, l.2] : List Bool).getD ((if w l.1 = true then 2 ^ 0 else 0) + 0) false = _
  cases h : w l.1 <;> cases l.2 <;> rfl
def clauseRow (c : Cl) (right : List Str) : Row := c.foldl (fun r l => if l.1 ∈ right then joinedC "either" r (litRow l) else r) ([], [false])
theorem clauseFold {right : List Str} (w : As) : ∀ (c : Cl) (r : Row), OkRow r → OkRow (c.foldl (fun r l => if l.1 ∈ right then joinedC "either" r (litRow l) else r) r) ∧ evalR (c.foldl (fun r l => if l.1 ∈ right then joinedC "either" r (litRow l) else r) r) w = (evalR r w || c.any fun l => decide (l.1 ∈ right) && decide (w l.1 = l.2)) ∧
    (∀ x ∈ (c.foldl (fun r l => if l.1 ∈ right then joinedC "either" r (litRow l) else r) r).1, x ∈ r.1 ∨ (x ∈ right ∧ ∃ l ∈ c, l.1 = x))
  | [], r, h => ⟨h, by simp, fun x hx => .inl hx⟩
  | l :: c, r, h => by
    rw [List.foldl_cons]
    by_cases hl : l.1 ∈ right
    · rw [if_pos hl]
      obtain ⟨a, b, d⟩ := clauseFold w c _ (joined_ok "either" h (litRow_ok l))
      refine ⟨a, ?_, fun x hx => ?_⟩
      · rw [b, joined_eval "either" h (litRow_ok l), litRow_eval, List.any_cons]
        show ((evalR r w || decide (w l.1 = l.2)) || _) = _
        simp [hl, Bool.or_assoc]
      · rcases d x hx with z | ⟨z1, m, z2, z3⟩
        · rcases mem_union.mp z with z | z
          · exact .inl z
          · have : x = l.1 := by simpa [litRow] using z
            exact .inr ⟨this ▸ hl, l, List.mem_cons_self .., this.symm⟩
        · exact .inr ⟨z1, m, List.mem_cons_of_mem _ z2, z3⟩
    · rw [if_neg hl]
      obtain ⟨a, b, d⟩ := clauseFold w c r h
      refine ⟨a, ?_, fun x hx => ?_⟩
      · rw [b, List.any_cons]
        simp [hl]
      · rcases d x hx with z | ⟨z1, m, z2, z3⟩
        · exact .inl z
        · exact .inr ⟨z1, m, List.mem_cons_of_mem _ z2, z3⟩
def stepRow (ones : List Cl) (right : List Str) (rows : List Row) : Stp → Row
  | .told n => match ones[n]? with
    | some c => clauseRow c right
    | none => ([], [true])
  | .met i j x => joinedC (if x ∈ right then "both" else "either") (rows.getD i ([], [])) (rows.getD j ([], []))
def rowsC (ones : List Cl) (right : List Str) (ss : List Stp) (rows : List Row) : List Row := ss.foldl (fun rows s => rows ++ [stepRow ones right rows s]) rows
def satC (w : As) (c : Cl) : Prop := ∃ l ∈ c, w l.1 = l.2
structure Itp (ones others : List Cl) (right : List Str) (c : Cl) (r : Row) : Prop where
  ok : OkRow r
  sub : ∀ x ∈ r.1, x ∈ right ∧ ∃ d ∈ ones, ∃ l ∈ d, l.1 = x
  i1 : ∀ w : As, (∀ d ∈ ones, satC w d) → evalR r w = true ∨ ∃ l ∈ c, l.1 ∉ right ∧ w l.1 = l.2
  i2 : ∀ w : As, (∀ d ∈ others, satC w d) → evalR r w = true → ∃ l ∈ c, l.1 ∈ right ∧ w l.1 = l.2
theorem nodup_lit {c : Cl} (h : (c.map (·.1)).Nodup) {l m : Lit} (hl : l ∈ c) (hm : m ∈ c) (e : l.1 = m.1) : l = m := by
  obtain ⟨i, hi⟩ := List.mem_iff_getElem?.mp hl
  obtain ⟨j, hj⟩ := List.mem_iff_getElem?.mp hm
  have h1 : (c.map (·.1))[i]? = some l.1 := by rw [List.getElem?_map, hi]; rfl
  have h2 : (c.map (·.1))[j]? = some l.1 := by rw [List.getElem?_map, hj, e]; rfl
  have : i = j := (List.getElem?_inj (get_lt h1) h).mp (h1.trans h2.symm)
  subst this
  rw [hi] at hj
  exact Option.some.inj hj
/-- all literals of both but of the letter met -/
theorem met_mem {c1 c2 c : Cl} {x : Str} (h : metC c1 c2 x = some c) (n1 : (c1.map (·.1)).Nodup) : (x, true) ∈ c1 ∧ (x, false) ∈ c2 ∧ (∀ l ∈ c1, l.1 ≠ x → l ∈ c) ∧ (∀ l ∈ c2, l.1 ≠ x → l ∈ c) := by
  unfold metC at h
  split at h
  · rename_i hm
    obtain ⟨d', h1, h2⟩ := Option.map_eq_some_iff.mp h
    have key : ∀ (r : List Lit) (d d' : Wd), (keysD d).Nodup → mergeC x d r = some d' → (keysD d').Nodup ∧ (∀ p ∈ d, p ∈ d') ∧ ∀ l ∈ r, l.1 ≠ x → l ∈ d' := by
      intro r
      induction r with
      | nil =>
        intro d d' n h
        cases h
        exact ⟨n, fun p hp => hp, fun l hl => by cases hl⟩
      | cons l r ih =>
        intro d d' n h
        unfold mergeC at h
        split at h
        · rename_i he
          obtain ⟨a, b, e⟩ := ih d d' n h
          refine ⟨a, b, fun m hm hne => ?_⟩
          rcases List.mem_cons.mp hm with z | z
          · subst z; exact absurd he hne
          · exact e m z hne
        · split at h
          · rename_i he hg
            obtain ⟨a, b, e⟩ := ih _ d' (put_nd n) h
            have hp : ∀ p ∈ d, p ∈ putD d l.1 l.2 := fun p hp => by rw [putD_out (get_none.mp hg)]; exact List.mem_append_left _ hp
            refine ⟨a, fun p hpp => b p (hp p hpp), fun m hm hne => ?_⟩
            rcases List.mem_cons.mp hm with z | z
            · subst z
              exact b _ (by rw [putD_out (get_none.mp hg)]; exact List.mem_append_right _ (List.mem_singleton.mpr rfl))
            · exact e m z hne
          · rename_i he t hg
            split at h
            · rename_i et
              obtain ⟨a, b, e⟩ := ih d d' n h
              refine ⟨a, b, fun m hm hne => ?_⟩
              rcases List.mem_cons.mp hm with z | z
              · subst z
                have := mem_of_get hg
                rw [et] at this
                exact b _ this
              · exact e m z hne
            · cases h
    have hput : ∀ (zs d : Wd), (keysD (d ++ zs)).Nodup → ∀ p ∈ d ++ zs, p ∈ putsD (·.1) (·.2) d zs := fun zs d n p hp => by rw [puts_id zs d n]; exact hp
    have hd0 : (keysD (putsD (·.1) (·.2) [] (c1.filter fun l => decide (l.1 ≠ x)) : Wd)).Nodup := by
      rw [keys_puts]
      exact nubA_nodup List.nodup_nil
    obtain ⟨a, b, e⟩ := key c2 _ d' hd0 h1
    have hin : ∀ p ∈ d', p ∈ c := fun p hp => by
      rw [← h2]
      unfold sortedC
      refine List.mem_map.mpr ⟨p.1, mem_sortS.mpr (List.mem_map.mpr ⟨p, hp, rfl⟩), ?_⟩
      rw [get_of_mem a hp]
      rfl
    refine ⟨hm.1, hm.2, fun l hl hne => hin _ (b _ (hput _ [] ?_ _ ?_)), fun l hl hne => hin _ (e l hl hne)⟩
    · rw [List.nil_append]
      exact n1.sublist (List.Sublist.map _ (List.filter_sublist ..))
    · rw [List.nil_append]
      exact List.mem_filter.mpr ⟨hl, by simpa using hne⟩
  · cases h
theorem itp_met {ones others : List Cl} {right : List Str} {c1 c2 c : Cl} {r1 r2 : Row} {x : Str} (h1 : Itp ones others right c1 r1) (h2 : Itp ones others right c2 r2) (hm : metC c1 c2 x = some c) (n1 : (c1.map (·.1)).Nodup) (n2 : (c2.map (·.1)).Nodup) :
    Itp ones others right c (joinedC (if x ∈ right then "both" else "either") r1 r2) := by
  obtain ⟨m1, m2, s1, s2⟩ := met_mem hm n1
  have f1 : ∀ l ∈ c1, l.1 = x → l = (x, true) := fun l hl e => nodup_lit n1 hl m1 e
  have f2 : ∀ l ∈ c2, l.1 = x → l = (x, false) := fun l hl e => nodup_lit n2 hl m2 e
  -- of two that hold, one is not of the letter
  have two : ∀ (w : As) (l m : Lit), l ∈ c1 → m ∈ c2 → w l.1 = l.2 → w m.1 = m.2 → l ∈ c ∨ m ∈ c := fun w l m hl hm2 a b => by
    by_cases e : l.1 = x
    · by_cases e2 : m.1 = x
      · rw [f1 l hl e] at a
        rw [f2 m hm2 e2] at b
        rw [show w x = true from a] at b
        cases b
      · exact .inr (s2 m hm2 e2)
    · exact .inl (s1 l hl e)
  refine ⟨joined_ok _ h1.ok h2.ok, fun y hy => ?_, fun w hw => ?_, fun w hw he => ?_⟩
  · rcases mem_union.mp hy with z | z
    · exact h1.sub y z
    · exact h2.sub y z
  · rw [joined_eval _ h1.ok h2.ok]
    have a := h1.i1 w hw
    have b := h2.i1 w hw
    by_cases hx : x ∈ right
    · rw [if_pos hx]
      show (evalR r1 w && evalR r2 w) = true ∨ _
      rcases a with a | ⟨l, hl, hr, hs⟩
      · rcases b with b | ⟨l, hl, hr, hs⟩
        · exact .inl (by rw [a, b]; rfl)
        · exact .inr ⟨l, s2 l hl (fun e => hr (e ▸ hx)), hr, hs⟩
      · exact .inr ⟨l, s1 l hl (fun e => hr (e ▸ hx)), hr, hs⟩
    · rw [if_neg hx]
      show (evalR r1 w || evalR r2 w) = true ∨ _
      rcases a with a | ⟨l, hl, hr, hs⟩
      · exact .inl (by rw [a]; rfl)
      · rcases b with b | ⟨m, hm2, hr2, hs2⟩
        · exact .inl (by rw [b]; simp)
        · rcases two w l m hl hm2 hs hs2 with z | z
          · exact .inr ⟨l, z, hr, hs⟩
          · exact .inr ⟨m, z, hr2, hs2⟩
  · rw [joined_eval _ h1.ok h2.ok] at he
    by_cases hx : x ∈ right
    · rw [if_pos hx] at he
      have he : (evalR r1 w && evalR r2 w) = true := he
      rw [Bool.and_eq_true] at he
      obtain ⟨l, hl, hr, hs⟩ := h1.i2 w hw he.1
      obtain ⟨m, hm2, hr2, hs2⟩ := h2.i2 w hw he.2
      rcases two w l m hl hm2 hs hs2 with z | z
      · exact ⟨l, z, hr, hs⟩
      · exact ⟨m, z, hr2, hs2⟩
    · rw [if_neg hx] at he
      have he : (evalR r1 w || evalR r2 w) = true := he
      rw [Bool.or_eq_true] at he
      rcases he with he | he
      · obtain ⟨l, hl, hr, hs⟩ := h1.i2 w hw he
        exact ⟨l, s1 l hl (fun e => hx (e ▸ hr)), hr, hs⟩
      · obtain ⟨l, hl, hr, hs⟩ := h2.i2 w hw he
        exact ⟨l, s2 l hl (fun e => hx (e ▸ hr)), hr, hs⟩
theorem itp_one {ones others : List Cl} {right : List Str} {c : Cl} (h : c ∈ ones) : Itp ones others right c (clauseRow c right) := by
  have h0 : OkRow (([], [false]) : Row) := ⟨List.Pairwise.nil, rfl⟩
  have hh := fun w => clauseFold (right := right) w c ([], [false]) h0
  have hev : ∀ w, evalR (clauseRow c right) w = c.any fun l => decide (l.1 ∈ right) && decide (w l.1 = l.2) := fun w => (hh w).2.1
  refine ⟨(hh fun _ => false).1, fun x hx => ?_, fun w hw => ?_, fun w hw he => ?_⟩
  · rcases (hh fun _ => false).2.2 x hx with z | ⟨a, l, b, e⟩
    · cases z
    · exact ⟨a, c, h, l, b, e⟩
  · obtain ⟨l, hl, hs⟩ := hw c h
    by_cases hr : l.1 ∈ right
    · refine .inl ?_
      rw [hev, List.any_eq_true]
      exact ⟨l, hl, by simp [hr, hs]⟩
    · exact .inr ⟨l, hl, hr, hs⟩
  · rw [hev, List.any_eq_true] at he
    obtain ⟨l, hl, hp⟩ := he
    simp at hp
    exact ⟨l, hl, hp.1, hp.2⟩
theorem itp_other {ones others : List Cl} {right : List Str} {c : Cl} (h : c ∈ others) (hr : ∀ l ∈ c, l.1 ∈ right) : Itp ones others right c ([], [true]) :=
  ⟨⟨List.Pairwise.nil, rfl⟩, fun x hx => (by cases hx), fun w _ => .inl rfl, fun w hw _ => let ⟨l, hl, hs⟩ := hw c h; ⟨l, hl, hr l hl, hs⟩⟩
end L97
/-! C97p -/
set_option maxHeartbeats 2000000
namespace Pm
open PySem PySem.Spec L2
section
variable {X : Cx} {A : Own} {Γ : Pr} {σ : L2.St} {a b : Expr} {pos : Pos}
theorem f_twoT {α : Type} {T : α → V → Pr} {x y : α} {kk} (ha : E3 X A Γ σ a (T x)) (hb : E3 X A Γ σ b (T y)) (h1 : starEach [a, b] X.env = (false, eval a X.env) :: starEach [b] X.env := by rfl) (h2 : one1 X b := by rfl) : F3 X A Γ σ (.Tuple [a, b] kk pos) (OT T [x, y]) := fun H Q ok g k =>
  f_tup (a_cons ha (a_cons hb a_nil h2) h1) (fun vs G e => by obtain ⟨v, w, rfl, _⟩ := pc2 e; show 2 ≤ 1000; decide) H Q ok g fun p o H' n ⟨vs, eo, e⟩ => k p o H' n ⟨vs, eo, by obtain ⟨v, w, rfl, r, r2⟩ := pc2 e; exact ⟨r, r2, trivial⟩⟩
end
end Pm
namespace L97
open PySem PySem.Spec L2 Pm
def isJoin (w : Str) : Prop := w = "both" ∨ w = "either"
section
variable {P : Program} {w : World} {K : PySem.W.Frag} {mg : Str → Option Value} {base : Heap}
theorem ok_join (T : Tx K mg) (S : Ats K mg) : Fd P w K mg base "join" 1 (spF (fun (d : {d : Str × Bool × Bool // isJoin d.1}) => Pm.PC (RS d.1.1) (Pm.PC (RB d.1.2.1) (Pm.PC (RB d.1.2.2) PN))) fun d => RB (joinC d.1.1 d.1.2.1 d.1.2.2)) := by
  obtain ⟨f, fd, F, gm⟩ := S.djoin
  refine fd_mk F gm cjoin (fun _ _ _ _ _ _ us hl => match us, hl with | [_, _, _], _ => rfl) (fun d vs G h => len3 h) fun cdv Ar outer s H vs ⟨⟨wd, a, b⟩, h1⟩ A G0 D hr hq hn => in3 fun v1 v2 v3 => ?_
  have nd := cjoin.nd
  refine B3.v (fun G h => h.1.1.2) fun e1 => B3.v (fun G h => h.1.2) fun e2 => B3.v (fun G h => h.2) fun e3 => ?_
  dsimp only at e1 e2 e3 h1
  subst e1 e2 e3
  rcases h1 with h1 | h1
  · subst h1
    exact b_when (t_eq (e_v 0) e_str) (fun _ => b_rt hq (e_and (e_v 1) fun _ => e_v 2) (by intro v G h; exact h.2)) (fun e => absurd e (by decide))
  · subst h1
    refine b_when ((t_eq (e_v 0) e_str).eq (t' := false) (by decide)) (fun e => absurd e (by decide)) fun _ => ?_
    exact b_when ((t_eq (e_v 0) e_str).eq (t' := true) (by decide)) (fun _ => b_rt hq (e_or (e_v 1) fun _ => e_v 2) (by intro v G h; exact h.2)) (fun e => absurd e (by decide))
structure OkSp (ls : List Str) (row : List Bool) (wider : List Str) : Prop where
  few : wider.length ≤ 12
  low : 2 ^ (wider.filter fun x => decide (x ∈ ls)).length ≤ row.length
theorem ok_spread (T : Tx K mg) (S : Ats K mg) : Fd P w K mg base "spread" 1 (spF (fun (d : {d : List Str × List Bool × List Str // OkSp d.1 d.2.1 d.2.2}) => Pm.PC (RL RS d.1.1) (Pm.PC (RL RB d.1.2.1) (Pm.PC (RL RS d.1.2.2) PN))) fun d => RL RB (spreadC d.1.1 d.1.2.1 d.1.2.2)) := by
  obtain ⟨f, fd, F, gm⟩ := S.dspread
  refine fd_mk F gm cspread (fun _ _ _ _ _ _ us hl => match us, hl with | [_, _, _], _ => rfl) (fun d vs G h => len3 h) fun cdv Ar outer s H vs ⟨⟨ls, row, wider⟩, h1, h2⟩ A G0 D hr hq hn => in3 fun v1 v2 v3 => ?_
  have nd := cspread.nd
  dsimp only at h1 h2
  refine b_set 3 (R := RNs [0]) (F3.rl (f_one (T := fun n : Nat => RI n) (x := 0) e_int)) fun v4 => ?_
  refine b_for (δ := List Nat × V × Option V) (sd := fun d => [some v1, some v2, some v3, some d.2.1, d.2.2, none, none]) (Ad := fun d => A) (Γd := fun d => pAnd (pAnd (pAnd (pAnd (pSame G0) (RL RS ls v1)) (RL RB row v2)) (RL RS wider v3)) (RNs d.1 d.2.1)) (rel := fun i d => d.1 = placesC ls (wider.take i)) (i_list (P := RS) (xs := wider) (e_x 2)) (tg_name 4) ([0], v4, none) ⟨rfl, rfl, rfl⟩ (fun G h => h) (fun Gd i l d w' hz hr2 => ?_) (fun d hr2 => ?_)
  · obtain ⟨ps, vp, sl⟩ := d
    dsimp only at hr2
    refine B3.v (fun G h => h.2) fun ew => ?_
    subst ew
    have hst : placesC ls (wider.take (i + 1)) = stepP ls ps l := by
      rw [take_snoc hz, hr2]
      unfold placesC
      rw [List.foldl_append]
      rfl
    have hln : ps.length ≤ 2 ^ 12 := by
      rw [hr2, places_len, List.length_take]
      exact Nat.pow_le_pow_right (by decide) (by omega)
    have hsz : ∀ (f : Nat → Nat → Nat), (ps.flatMap fun z => ([0, 1] : List Nat).map (f z)).length < sizeLine := fun f => by
      have : (ps.flatMap fun z => ([0, 1] : List Nat).map (f z)).length = 2 * ps.length := by
        clear hr2 hst hln
        induction ps with
        | nil => rfl
        | cons p ps ih =>
          rw [List.flatMap_cons, List.length_append, ih, List.length_cons, List.length_map]
          show 2 + 2 * ps.length = _
          omega
      rw [this, sizeLine_eq]
      omega
    refine b_if (t_inL (x := l) (xs := ls) (e_v 4) (e_x 0 (R := RL RS ls))) (fun e => ?_) (fun e => ?_)
    · have hl : l ∈ ls := by simpa using e
      refine b_setLc2 3 (own := [("at", 5), ("bit", 6)]) (vs1 := [6]) (fun _ : Nat => ([0, 1] : List Nat)) (fun z b => 2 * z + b) (fun n : Nat => RI n) (i_list (P := fun n : Nat => RI n) (xs := ps) (e_x 3 (R := RNs ps))) (tc_name 5) (blkOk_by (N := nspread) (sc := defScope sspread) (by decide +kernel)) (by decide) (fun Gd q z w hm s H C cl fp => i_tup (P := fun n : Nat => RI n) (xs := [0, 1]) (F3.rt (f_twoT (T := fun n : Nat => RI n) (x := 0) (y := 1) e_int e_int))) (tc_name (Rz := fun n : Nat => RI n) 6) (fun Gd q z w y w1 _ _ s H C cl fp => E3.imp (e_add (e_mul (i := 2) (j := (z : Nat)) e_int (e_x 5 (R := RI (z : Nat)) (h := fun G h => h.1.2)) (.inl (by decide))) (e_x 6 (R := RI (y : Nat)) (h := fun G h => h.2))) fun v G h => (by
        have h2 : v = _ := h.2
        rw [h2]
        show V.int _ = V.int _
        congr 1)) (hsz _) (by intro _; rfl) (by intro _ _; rfl) fun v5 => ?_
      refine b_gon rfl <| b_fin rfl (stepP ls ps l, v5, some (.str l)) (by dsimp only; exact hst.symm) rfl rfl fun G h => ⟨⟨h.1.1.1.1, ?_⟩, h.1.1.2⟩
      have h2 := h.2
      have e3 : (ps.flatMap fun z => ([0, 1] : List Nat).map fun b => 2 * z + b) = stepP ls ps l := by
        unfold stepP
        simp only [hl, if_true]
        rfl
      rw [e3] at h2
      exact h2
    · have hl : ¬ l ∈ ls := by simpa using e
      refine b_setLc2 3 (own := [("at", 5), ("bit", 6)]) (vs1 := [6]) (fun _ : Nat => ([0, 1] : List Nat)) (fun z b => z) (fun n : Nat => RI n) (i_list (P := fun n : Nat => RI n) (xs := ps) (e_x 3 (R := RNs ps))) (tc_name 5) (blkOk_by (N := nspread) (sc := defScope sspread) (by decide +kernel)) (by decide) (fun Gd q z w hm s H C cl fp => i_tup (P := fun n : Nat => RI n) (xs := [0, 1]) (F3.rt (f_twoT (T := fun n : Nat => RI n) (x := 0) (y := 1) e_int e_int))) (tc_name (Rz := fun n : Nat => RI n) 6) (fun Gd q z w y w1 _ _ s H C cl fp => e_x 5 (R := RI (z : Nat)) (h := fun G h => h.1.2)) (hsz _) (by intro _; rfl) (by intro _ _; rfl) fun v5 => ?_
      refine b_gon rfl <| b_fin rfl (stepP ls ps l, v5, some (.str l)) (by dsimp only; exact hst.symm) rfl rfl fun G h => ⟨⟨h.1.1.1.1, ?_⟩, h.1.1.2⟩
      have h2 := h.2
      have e3 : (ps.flatMap fun z => ([0, 1] : List Nat).map fun _ => z) = stepP ls ps l := by
        unfold stepP
        simp only [hl, if_false]
        rfl
      rw [e3] at h2
      exact h2
  · obtain ⟨ps, vp, sl⟩ := d
    dsimp only at hr2
    rw [List.take_length] at hr2
    subst hr2
    refine b_rt hq (F3.rl (f_lc (own := [("at", 5)]) (fun p => row.getD p false) RB (i_list (P := fun n : Nat => RI n) (xs := placesC ls wider) (e_x 3 (R := RNs (placesC ls wider)))) (tc_name 5) (blkOk_by (N := nspread) (sc := defScope sspread) (by decide +kernel)) (fun Gd q z w hm s H C cl fp => ?_) (by rw [places_len, sizeLine_eq]; have : 2 ^ wider.length ≤ 2 ^ 12 := Nat.pow_le_pow_right (by decide) h1; omega)))
    have hb := places_bd ls wider z hm
    have hz := List.getElem?_eq_getElem (l := row) (i := z) (by omega)
    rw [List.getD_eq_getElem?_getD, hz]
    exact e_atL (R := RB) (xs := row) z (e_x 1 (R := RL RB row)) (e_x 5 (R := RI z)) rfl hz
end
end L97
/-! Pm19 -/
set_option maxHeartbeats 2000000
/-! Pm19: list comprehensions whose element changes what is owned. -/
namespace Pm
open PySem PySem.Spec L2
section
variable {X : Cx} {A B : Own} {Γ Δ : Pr} {σ : L2.St} {a b c e : Expr} {R Ra Rb Rc : V → Pr} {pos : Pos} {tg : Expr}
/-- the state s goes on by the turns; ys what has been told -/
theorem lcM_sem {β γ ω S : Type} {zs : List β} {Rz : β → V → Pr} {own : List (Str × Nat)} {iter elt : Expr} {scope : Scope} {g : TG} {stw : ω → L2.St → L2.St} {Γt : β → ω → Pr} (Ad : S → Own) (rel : Nat → S → List γ → Prop) (Ry : γ → V → Pr) (s0 : S) (h0 : rel 0 s0 []) (hA : A = Ad s0)
    (hi : I3 X A Γ σ tg iter zs Rz) (ht : TgC X tg scope g Rz stw Γt)
    (he : ∀ (Gd : Pr) (q : Addr × HO) i z w s ys, zs[i]? = some z → rel i s ys → Blk X scope fun Y => M3 (ρ := S × γ) Y (q :: Ad s) (pAnd (pAnd Γ Gd) (Γt z w)) (stw w (wipe σ (own.map (·.2)))) elt (fun r => q :: Ad r.1) (fun r v => pAnd (pP (rel (i + 1) r.1 (ys ++ [r.2]))) (Ry r.2 v)))
    (hz : zs.length < sizeLine) (hw : ∀ w, wipe (stw w (wipe σ (own.map (·.2)))) (own.map (·.2)) = wipe σ (own.map (·.2)) := by intro _; rfl)
    {H : Hp} {Q : VK} (okA : A.Ok H) (gm : Γ.holds (hide A H)) (k : ∀ p vs s ys H', rel zs.length s ys → Own.Ok ((p, .lst vs) :: Ad s) H' → L2.Same (hide A H) (hide ((p, .lst vs) :: Ad s) H') → (pAll Ry ys vs).holds (hide ((p, .lst vs) :: Ad s) H') → Q (.ref p) H') :
    tLc (Ei X tg iter) g tYes (teBlk X scope elt) (own.map (·.2)) σ H Q := by
  refine hi H _ okA gm fun J Gd H1 x1 wk g1 D hD => ?_
  subst hA
  let Pv : Nat → Hp → Prop := fun i H' => ∃ (s : S) (ys : List γ) (acc : List V), rel i s ys ∧ ys.length = i ∧ Own.Ok ((D, .lst acc) :: Ad s) H' ∧ L2.Same (hide (Ad s0) H) (hide ((D, .lst acc) :: Ad s) H') ∧ (pAnd Γ Gd).holds (hide ((D, .lst acc) :: Ad s) H') ∧ (pAll Ry ys acc).holds (hide ((D, .lst acc) :: Ad s) H')
  refine ⟨fun i m H' => m = zs.length - i ∧ i ≤ zs.length ∧ Pv i H', ⟨zs.length, by simp, Nat.zero_le _, s0, [], [], h0, rfl, ?_⟩, ?_⟩
  · have n := New.laid (A := Ad s0) (H := H1) (Ext.refl x1.ok) hD (.lst [])
    exact ⟨n.ok1, x1.same.trans n.same, ⟨Γ.mono (x1.same.trans n.same) gm, Gd.mono n.same g1⟩, trivial⟩
  rintro i m H' ⟨rfl, hle, s, ys, acc, hr, hyl, okD, sm, gg, ga⟩
  by_cases hlt : i < zs.length
  · refine .inr ⟨wk.goes i H' hlt (Gd.mono hide_le gg.2), Pv (i + 1), fun H'' p' => ⟨zs.length - (i + 1), by omega, rfl, hlt, p'⟩, fun x H2 y => ?_⟩
    have hzi := List.getElem?_eq_getElem hlt
    obtain ⟨xt, rz⟩ := wk.yields _ i zs[i] H' x H2 hzi okD gg.2 y
    have gg2 := (pAnd Γ Gd).mono xt.same gg
    have ga2 := (pAll Ry ys acc).mono xt.same ga
    have sm2 := sm.trans xt.same
    apply ht.run zs[i] x (wipe σ (own.map (·.2))) ((D, .lst acc) :: Ad s) H2 _ xt.ok rz
    intro w hwt
    refine ⟨hw w, ?_⟩
    dsimp only [tYes]
    rw [if_pos rfl]
    intro s1 H0 C0 cl0 fp0
    refine he Gd (D, .lst acc) i zs[i] w s ys hzi hr s1 H0 C0 cl0 fp0 H2 _ xt.ok ⟨gg2, hwt⟩ fun v r H4 x4 rv => ?_
    have ga4 := (pAll Ry ys acc).mono x4.same ga2
    have okp := own_put (A1 := []) (o' := .lst (acc ++ [v])) x4.ok
    have hl : acc.length < sizeLine := by
      rw [← pAll_len ga4, hyl]
      omega
    refine ⟨acc, okp.2.2, hl, r.1, ys ++ [r.2], acc ++ [v], rv.1, by rw [List.length_append, hyl]; rfl, okp.1, ?_⟩
    have eh : hide ((D, .lst (acc ++ [v])) :: Ad r.1) (upd H4 D (.lst (acc ++ [v]))) = hide ((D, .lst acc) :: Ad r.1) H4 := okp.2.1
    rw [eh]
    exact ⟨sm2.trans x4.same, (pAnd Γ Gd).mono x4.same gg2, pAll_app ga4 (pAll_one rv.2)⟩
  · have ei : i = zs.length := by omega
    subst ei
    exact .inl ⟨wk.stops H' (Gd.mono hide_le gg.2), k D acc s ys H' hr okD sm ga⟩
theorem lcM_rel {β γ S : Type} {Ad : S → Own} {Ry : γ → V → Pr} {s : S} {p : Addr} {vs : List V} {ys : List γ} {H' : Hp} (okD : Own.Ok ((p, .lst vs) :: Ad s) H') (ga : (pAll Ry ys vs).holds (hide ((p, .lst vs) :: Ad s) H')) : (RL Ry ys (.ref p)).holds (hide (Ad s) H') := by
  have o := own_app (B := [(p, .lst vs)]) okD
  exact ⟨p, vs, rfl, o.2 _ (List.mem_singleton.mpr rfl), (pAll Ry ys vs).mono hide_one ga⟩
theorem m_lc {β γ ω S : Type} {zs : List β} {Rz : β → V → Pr} {own : List (Str × Nat)} {iter elt : Expr} {scope : Scope} {g : TG} {stw : ω → L2.St → L2.St} {Γt : β → ω → Pr} (Ad : S → Own) (rel : Nat → S → List γ → Prop) (Ry : γ → V → Pr) (s0 : S) (h0 : rel 0 s0 []) (hA : A = Ad s0)
    (hi : I3 X A Γ σ tg iter zs Rz) (ht : TgC X tg scope g Rz stw Γt) (ok : BlkOk X.N X.env.scope scope own)
    (he : ∀ (Gd : Pr) (q : Addr × HO) i z w s ys, zs[i]? = some z → rel i s ys → Blk X scope fun Y => M3 (ρ := S × γ) Y (q :: Ad s) (pAnd (pAnd Γ Gd) (Γt z w)) (stw w (wipe σ (own.map (·.2)))) elt (fun r => q :: Ad r.1) (fun r v => pAnd (pP (rel (i + 1) r.1 (ys ++ [r.2]))) (Ry r.2 v)))
    (hz : zs.length < sizeLine) (hw : ∀ w, wipe (stw w (wipe σ (own.map (·.2)))) (own.map (·.2)) = wipe σ (own.map (·.2)) := by intro _; rfl)
    (hcalm : X.calm = true := by rfl) (hN : X.N.Nodup := by assumption) (hs : ∀ x, foldedSetIterable iter X.env x = pure x := by intro _; rfl) :
    M3 (ρ := S × List γ) X A Γ σ (.ListComp elt [⟨tg, iter, [], 0⟩] scope pos) (fun r => Ad r.1) (fun r v => pAnd (pP (rel zs.length r.1 r.2)) (RL Ry r.2 v)) := fun H Q okA gm kk =>
  Ev.of (pe_lc hcalm hN (eiPI tg iter) ok ht.pg (fun _ _ _ _ _ => pts_nil) (teBlk_pe X scope elt) hs) (lcM_sem Ad rel Ry s0 h0 hA hi ht he hz hw okA gm fun p vs s ys H' hr okD sm ga => kk (.ref p) (s, ys) H' ⟨(own_app (B := [(p, .lst vs)]) okD).1, by rw [hA] at sm ⊢; exact sm.trans (hide_app (B := [(p, .lst vs)]))⟩ ⟨hr, lcM_rel (β := Unit) okD ga⟩)
theorem b_setLcM (i : Nat) {y : Str} {py spos : Pos} {rest : List Stmt} {D : Ends} {β γ ω S : Type} {zs : List β} {Rz : β → V → Pr} {own : List (Str × Nat)} {iter elt : Expr} {scope : Scope} {g : TG} {stw : ω → L2.St → L2.St} {Γt : β → ω → Pr} (Ad : S → Own) (rel : Nat → S → List γ → Prop) (Ry : γ → V → Pr) (s0 : S) (h0 : rel 0 s0 []) (hA : A = Ad s0)
    (hi : I3 X A Γ σ tg iter zs Rz) (ht : TgC X tg scope g Rz stw Γt) (ok : BlkOk X.N X.env.scope scope own)
    (he : ∀ (Gd : Pr) (q : Addr × HO) i z w s ys, zs[i]? = some z → rel i s ys → Blk X scope fun Y => M3 (ρ := S × γ) Y (q :: Ad s) (pAnd (pAnd Γ Gd) (Γt z w)) (stw w (wipe σ (own.map (·.2)))) elt (fun r => q :: Ad r.1) (fun r v => pAnd (pP (rel (i + 1) r.1 (ys ++ [r.2]))) (Ry r.2 v)))
    (hz : zs.length < sizeLine) (k : ∀ v s ys, rel zs.length s ys → B3 X (Ad s) (pAnd Γ (RL Ry ys v)) (σ.set i (some v)) rest D) (hw : ∀ w, wipe (stw w (wipe σ (own.map (·.2)))) (own.map (·.2)) = wipe σ (own.map (·.2)) := by intro _; rfl)
    (hy : X.N[i]? = some y := by rfl) (hyl : X.env.scope.names.lookup y = some .local := by rfl) (hsw : swapsWith (.ListComp elt [⟨tg, iter, [], 0⟩] scope pos) (some (.Name y py)) spos.line X.env = pure true := by rfl)
    (hcalm : X.calm = true := by rfl) (hN : X.N.Nodup := by assumption) (hs : ∀ x, foldedSetIterable iter X.env x = pure x := by intro _; rfl) :
    B3 X A Γ σ (.Assign [.Name y py] (.ListComp elt [⟨tg, iter, [], 0⟩] scope pos) spos :: rest) D := fun H okA gm =>
  b_cons (Es.of (ps_setLc hcalm hN hy hyl hsw (eiPI tg iter) ok ht.pg (fun _ _ _ _ _ => pts_nil) (teBlk_pe X scope elt) hs) (lcM_sem (Q := fun x H1 => Ess X rest D (σ.set i (some x)) H1) Ad rel Ry s0 h0 hA hi ht he hz hw okA gm fun p vs s ys H' hr okD sm ga => k _ s ys hr H' (own_app (B := [(p, .lst vs)]) okD).1 ⟨Γ.mono (sm.trans (hide_app (B := [(p, .lst vs)]))) gm, lcM_rel (β := Unit) okD ga⟩))
end
end Pm
/-! Pm20 -/
set_option maxHeartbeats 2000000
/-! Pm20: items of owned lists put, popped; powers. -/
namespace Pm
open PySem PySem.Spec L2
section
variable {X : Cx} {A B : Own} {Γ Δ : Pr} {σ : L2.St} {a b c e o : Expr} {R Ra Rb Rc : V → Pr} {pos apos cpos : Pos} {tg : Expr} {rest : List Stmt} {D : Ends}
theorem e_pow {i j : Int} (ha : E3 X A Γ σ a (RI i)) (hb : E3 X A Γ σ b (RI j)) (hc : CPow i j) : E3 X A Γ σ (.BinOp a .Pow b pos) (RI (i ^ j.toNat)) := e_bin op_pow (o_I hc rfl) ha hb
/-- o[k] = e of an owned list -/
theorem b_lput (A1 : Own) {A2 : Own} {p : Addr} {vs : List V} {k : Nat} {pos' : Pos} (hv : E3 X (A1 ++ (p, .lst vs) :: A2) Γ σ e R) (ho : E3 X (A1 ++ (p, .lst vs) :: A2) Γ σ o (RV (.ref p))) (hi : E3 X (A1 ++ (p, .lst vs) :: A2) Γ σ a (RI k)) (hk : k < vs.length)
    (kk : ∀ v, B3 X (A1 ++ (p, .lst (vs.set k v)) :: A2) (pAnd Γ (R v)) σ rest D) (hs : swapsWithSole [.Subscript o a pos'] e pos.line X.env = pure false := by rfl) (hw : swappedStores [.Subscript o a pos'] e X.env = pure none := by rfl) (h1 : (assignEach [.Subscript o a pos'] X.env).map (·.2) = [assign (.Subscript o a pos') X.env] := by rfl)
    (has : ∀ v, assign (.Subscript o a pos') X.env v = (do
      let ov ← holding [v] (eval o X.env)
      let iv ← holding [v, ov] (eval a X.env)
      standAt pos'
      holding [v, ov, iv] (setItem ov iv v)
      release [v, ov, iv] []) := by intro _; rfl) : B3 X (A1 ++ (p, .lst vs) :: A2) Γ σ (.Assign [.Subscript o a pos'] e pos :: rest) D := fun H ok g =>
  b_cons (Es.of (ps_asg (evPE e) (pg_sub (evPE o) (evPE a) set_list has) hs hw h1) (hv H _ ok g fun v H1 x1 r1 => ho H1 _ x1.ok (Γ.mono x1.same g) fun x H2 x2 r2 => hi H2 _ x2.ok (Γ.mono (x1.same.trans x2.same) g) fun y H3 x3 r3 => by
    cases (show x = .ref p from r2)
    cases (show y = .int k from r3)
    obtain ⟨o1, o2, o3⟩ := own_put (o' := .lst (vs.set k v)) x3.ok
    refine ⟨p, vs, k, k, rfl, rfl, o3, ?_, kk v _ o1 ?_⟩
    · unfold ixN
      simp
      omega
    · rw [o2]
      exact ⟨Γ.mono ((x1.same.trans x2.same).trans x3.same) g, (R v).mono (x2.same.trans x3.same) r1⟩))
/-- x.pop(i) of an owned list, i changing other things -/
theorem m_popAt {ρ : Type} {C : ρ → Prop} (B1 B2 : ρ → Own) {p : Addr} {vs : List V} {A' : ρ → Own} {ix : ρ → Nat} (ho : E3 X A Γ σ o (RV (.ref p))) (h : M3 X A Γ σ e A' (fun r v => pP (v = .int (ix r) ∧ ix r < vs.length ∧ C r))) (hA : ∀ r, A' r = B1 r ++ (p, .lst vs) :: B2 r) (hmem : (p, HO.lst vs) ∈ A) (hz : vs.length < 1000)
    (he : starEach [e] X.env = (false, eval e X.env) :: starEach [] X.env := by rfl) (hbase : attributeBase o "pop" X.env (eval o X.env) = eval o X.env := by rfl)
    (hfew : ((backTo cpos (starEach [e] X.env)).all (fun x => !x.1) && (backToKw cpos (keywordEach [] X.env)).all (fun x => x.1.isSome) && decide ([e].length + ([] : List Keyword).length + (if ([] : List Keyword).isEmpty then 0 else 1) < 30)) = true := by rfl)
    (hline : (apos.endLine == cpos.line) = true := by rfl) (hplain : (backTo cpos (starEach [] X.env)).any (·.1) = false := by rfl) :
    M3 X A Γ σ (.Call (.Attribute o "pop" apos) [e] [] cpos) (fun r : ρ => B1 r ++ (p, .lst (vs.eraseIdx (ix r))) :: B2 r) (fun r v => pP (vs[ix r]? = some v ∧ C r)) := fun H Q ok g kk =>
  Ev.of (pe_bm F.plainAttrs_list F.slot_list_pop F.type_list_pop mt_popAt (evPE o) (pa_cons (evPE e) pa_nil he) hbase hfew hline he hplain) (ho H _ ok g fun u H1 x1 r1 => by
    cases (show u = .ref p from r1)
    refine ⟨.inl ⟨rfl, _, SqL.of (x1.ok.at_ _ hmem)⟩, h H1 _ x1.ok (Γ.mono x1.same g) fun v r H2 x2 r2 => ?_⟩
    obtain ⟨ev, hi, hC⟩ := r2
    subst ev
    have ok2 := x2.ok
    have sm2 := x2.same
    rw [hA r] at ok2 sm2
    obtain ⟨o1, o2, o3⟩ := own_put (o' := .lst (vs.eraseIdx (ix r))) ok2
    have hy := List.getElem?_eq_getElem hi
    refine ⟨p, vs, (ix r : Nat), ix r, vs[ix r], rfl, rfl, o3, by omega, by omega, ?_, hy, kk _ r _ ⟨o1, ?_⟩ ⟨hy, hC⟩⟩
    · unfold seqIndex?
      simp
      omega
    · rw [o2]
      exact x1.same.trans sm2)
theorem own_perm {A B : Own} {H : Hp} (p : A.Perm B) (ok : A.Ok H) : B.Ok H := ⟨fun q hq => ok.at_ q (p.mem_iff.mpr hq), (List.Perm.nodup_iff (show (dom A).Perm (dom B) from p.map _)).mp ok.nd⟩
theorem hide_perm {A B : Own} {H : Hp} (p : A.Perm B) : hide A H = hide B H := by
  funext b
  unfold hide
  have : (b ∈ dom A) = (b ∈ dom B) := propext (List.Perm.mem_iff (show (dom A).Perm (dom B) from p.map _))
  simp only [this]
theorem M3.map {ρ ρ' : Type} {A' : ρ → Own} {A'' : ρ' → Own} {R : ρ → V → Pr} {R'' : ρ' → V → Pr} (g : ρ → ρ') (h : M3 X A Γ σ e A' R) (hA : ∀ r v G, (R r v).holds G → A' r = A'' (g r)) (hR : ∀ r v, (pAnd Γ (R r v)).le (R'' (g r) v)) : M3 X A Γ σ e A'' R'' := fun H Q ok gm k => h H Q ok gm fun v r H' x q => by
  have e := hA r v _ q
  have ok2 := x.ok
  have sm := x.same
  have gm2 := Γ.mono sm gm
  have q2 := hR r v _ ⟨gm2, q⟩
  rw [e] at ok2 sm q2
  exact k v (g r) H' ⟨ok2, sm⟩ q2
theorem m_callB {δ ρ : Type} {A1 : δ → Own} {A2 : ρ → Own} {pre : δ → List V → Pr} {post : δ → ρ → V → Pr} {x : Str} {k k' : Nat} {p : Pos} {es : List Expr} {Ps : List V → Pr} (F : Fd X.prog X.w X.K X.mg X.base x k (spM A1 A2 pre post)) (hr : Room k' X.A) (d : δ) (B A0 : Own) (hA : A = B ++ (A1 d ++ A0)) (ha : A3 X A Γ σ (e :: es) Ps) (hp : ∀ vs, (pAnd Γ (Ps vs)).le (pre d vs) := by exact fun _ _ h => h.2) (hk : k ≤ k' := by first | decide | omega) (hg : Gl X x := by rfl) (hdb : (x == ("__debug__" : Str)) = false := by decide)
    (he : starEach (e :: es) X.env = (false, eval e X.env) :: starEach es X.env := by rfl) (hpl : (backTo pos (starEach es X.env)).any (·.1) = false := by rfl) : M3 X A Γ σ (.Call (.Name x p) (e :: es) [] pos) (fun r => B ++ (A2 r ++ A0)) (fun r v => post d r v) := fun H Q ok g kk => by
  subst hA
  refine ev_call F (hr.mono hk) (ha.ea ok g fun vs H1 x1 r1 => ?_) hg hdb he hpl
  have p1 : (B ++ (A1 d ++ A0)).Perm (A1 d ++ (B ++ A0)) := by
    rw [← List.append_assoc, ← List.append_assoc]
    exact List.Perm.append_right _ List.perm_append_comm
  refine ⟨d, B ++ A0, own_perm p1 x1.ok, by rw [← hide_perm p1]; exact hp vs _ ⟨Γ.mono x1.same g, r1⟩, fun v r H' x2 r2 => ?_⟩
  have p2 : (A2 r ++ (B ++ A0)).Perm (B ++ (A2 r ++ A0)) := by
    rw [← List.append_assoc, ← List.append_assoc]
    exact List.Perm.append_right _ List.perm_append_comm
  refine kk v r H' ⟨own_perm p2 x2.ok, ?_⟩ (by rw [← hide_perm p2]; exact r2)
  have := x2.same
  rw [← hide_perm p1, hide_perm p2] at this
  exact x1.same.trans this
end
end Pm
/-! Pm21 -/
set_option maxHeartbeats 2000000
/-! Pm21: defs that give a new object, to be owned. -/
namespace Pm
open PySem PySem.Spec L2
def spN {δ : Type} (pre : δ → List V → Pr) (post : δ → HO → Pr) : Sp := fun vs H Q _ => ∃ (d : δ) (A : Own), A.Ok H ∧ (pre d vs).holds (hide A H) ∧ ∀ p o H', New A H H' p o → (post d o).holds (hide ((p, o) :: A) H') → Q (.ref p) H'
def PostN (A : Own) (G0 : Hp) (P : HO → Pr) (Q : VK) : Prop := ∀ p o H', H' p = some o → p ∉ dom A → G0 p = none → A.Ok H' → L2.Same G0 (hide ((p, o) :: A) H') → (P o).holds (hide ((p, o) :: A) H') → Q (.ref p) H'
section
variable {X : Cx} {A B : Own} {Γ Δ : Pr} {σ : L2.St} {a b c e o : Expr} {R Ra Rb Rc : V → Pr} {pos apos cpos : Pos} {tg : Expr} {rest : List Stmt} {D : Ends}
theorem f_c {δ : Type} {pre : δ → List V → Pr} {post : δ → HO → Pr} {x : Str} {k k' : Nat} {p : Pos} {es : List Expr} {Ps : List V → Pr} (F : Fd X.prog X.w X.K X.mg X.base x k (spN pre post)) (hr : Room k' X.A) (d : δ) (ha : A3 X A Γ σ (e :: es) Ps) (hp : ∀ vs, (pAnd Γ (Ps vs)).le (pre d vs) := by exact fun _ _ h => h.2) (hk : k ≤ k' := by first | decide | omega) (hg : Gl X x := by rfl) (hdb : (x == ("__debug__" : Str)) = false := by decide)
    (he : starEach (e :: es) X.env = (false, eval e X.env) :: starEach es X.env := by rfl) (hpl : (backTo pos (starEach es X.env)).any (·.1) = false := by rfl) : F3 X A Γ σ (.Call (.Name x p) (e :: es) [] pos) (post d) := fun H Q ok g kk =>
  ev_call F (hr.mono hk) (ha.ea ok g fun vs H1 x1 r1 => ⟨d, A, x1.ok, hp vs _ ⟨Γ.mono x1.same g, r1⟩, fun p o H' n r => kk p o H' ⟨n.at_, n.out, (by
    cases eD : hide A H p with
    | none => rfl
    | some u =>
      have z := x1.same _ _ eD
      rw [n.was] at z
      cases z), n.ok, x1.same.trans n.same⟩ r⟩) hg hdb he hpl
theorem b_retN {A0 : Own} {G0 : Hp} {P : HO → Pr} {Rr : HO → Pr} (hq : PostN A0 G0 P D.rt) (h : F3 X A0 Γ σ e Rr) (hs : Γ.le (pSame G0)) (hp : ∀ o, (Rr o).le (P o)) : B3 X A0 Γ σ (.Return (some e) pos :: rest) D := fun H ok g =>
  b_cons (Es.of (ps_ret (evPE e)) (h H _ ok g fun p o H' n r => hq p o H' n.at_ n.out (by
    cases eD : G0 p with
    | none => rfl
    | some u =>
      have z := hs _ g _ _ eD
      rw [n.was] at z
      cases z) n.ok ((hs _ g).trans n.same) (hp o _ r)))
theorem fd_mkN {δ : Type} {pre : δ → List V → Pr} {post : δ → HO → Pr} {P : Program} {w : World} {K : PySem.W.Frag} {mg : Str → Option Value} {base : Heap} {x : Str} {params : Arguments} {body : List Stmt} {scope : Scope} {f : Addr} {fd : FuncData} {k : Nat} {N ps : List Str}
    (F : FunD K x x params body scope [] [] f fd) (gm : mg x = some (.ref f)) (S : FnScope N ps scope)
    (nb : ∀ (kV doc pm : Value) (an : Option Addr) (cdv ct : Value) (us : List Value), us.length = ps.length → bindArgs (PySem.W.fnOf x x params body scope .none kV doc pm an cdv ct) ⟨us, []⟩ = pure (ps.zip us))
    (hl : ∀ d vs G, (pre d vs).holds G → vs.length = ps.length)
    (hb : ∀ (cdv : Value) (Ar : Around) (outer : List Env) (s : Shared) (H : Hp) (vs : List V) (d : δ) (A : Own) (G0 : Hp) (D : Ends), Room k (Ar.deeper (PyProof.Rows.envOfC x scope s.heap.objs.size f cdv)) → PostN A G0 (post d) D.rt → (∀ σ H', D.nx σ H' = D.rt .non H') →
      B3 (cxOf CX0 P w K mg base N x scope f cdv Ar outer s H E0).nox A (pAnd (pSame G0) (pre d vs)) (start N vs) body D) : Fd P w K mg base x (k + 1) (spN pre post) := by
  refine ⟨f, fd, ps, ?_, gm, F.kp, F.bindsN nb⟩
  refine F.ok S (fun vs H Q E ⟨d, A, ok, h, _⟩ => hl d vs _ h) fun cdv Ar outer s H vs Q E hr ⟨d, A, ok, h, q⟩ => ⟨_, (essPSs (X := (cxOf CX0 P w K mg base N x scope f cdv Ar outer s H E).nox) body).nox, ?_⟩
  refine hb cdv Ar outer s H vs d A (hide A H) { nx := fun _ H' => Q .non H', rt := Q } hr (fun p o H' h1 h2 h3 h4 h5 r => q p o H' ⟨h1, h2, h3, h4, h5⟩ r) (fun _ _ => rfl) H ok ⟨L2.Same.refl _, h⟩
/-- return e, e changing what is owned; what is owned more is let go -/
theorem b_retM3 {ρ ρ' : Type} {A2 : ρ' → Own} {A0 : Own} {G0 : Hp} {P : ρ' → V → Pr} {A' : ρ → Own} {R : ρ → V → Pr} (g : ρ → ρ') (Bx : ρ → Own) (hq : PostM A2 A0 G0 P D.rt) (h : M3 X A Γ σ e A' R) (hA : ∀ r, A' r = Bx r ++ (A2 (g r) ++ A0)) (hs : Γ.le (pSame G0)) (hp : ∀ r v, (pAnd (pOwn (Bx r)) (pAnd Γ (R r v))).le (P (g r) v)) : B3 X A Γ σ (.Return (some e) pos :: rest) D := fun H ok g' =>
  b_cons (Es.of (ps_ret (evPE e)) (h H _ ok g' fun v r H' x q => by
    have ok2 := x.ok
    have sm := x.same
    rw [hA r] at ok2 sm q
    obtain ⟨o1, o2⟩ := own_app ok2
    exact hq v (g r) H' o1 (((hs _ g').trans sm).trans hide_app) (hp r v _ ⟨o2, Γ.mono (sm.trans hide_app) g', (R r v).mono hide_app q⟩)))
end
end Pm
/-! Pm22 -/
set_option maxHeartbeats 2000000
/-! Pm22: list(d.items()), dict(pairs). -/
namespace Pm
open PySem PySem.Spec L2
theorem ext_le {A : Own} {H H' : Hp} (ok : A.Ok H) (h : ∀ b o, H b = some o → H' b = some o) : Ext A H H' := ⟨⟨fun p hp => h _ _ (ok.at_ p hp), ok.nd⟩, fun b o e => by
  obtain ⟨e1, e2⟩ := hide_of e
  rw [hide_out e2]
  exact h _ _ e1⟩
section
variable {X : Cx} {A B : Own} {Γ Δ : Pr} {σ : L2.St} {a b c e o : Expr} {R Ra Rb Rc : V → Pr} {pos apos cpos : Pos} {tg : Expr} {rest : List Stmt} {D : Ends}
theorem items_all {β : Type} {f : β → V} {G : Hp} : ∀ {d : List (Str × β)} {ts : List Addr}, Paired (fun (t : Addr) (q : Key × V) => G t = some (.tup [kV q.1, q.2])) ts (kvs kS f d) → (pAll (RT2 RS (fun b => RV (f b))) d (ts.map V.ref)).holds G
  | [], _, h => by cases h; trivial
  | p :: d, _, h => by
    cases h with
    | cons h1 h2 => exact ⟨⟨_, _, _, rfl, h1, rfl, rfl⟩, items_all h2⟩
theorem e_items {β : Type} {f : β → V} {d : List (Str × β)} {p : Pos} (hm : X.mg "list" = none) (h : E3 X A Γ σ e Ra) (hs : SeesD A Γ Ra (fun ks => pP (ks = kvs kS f d))) (hc : X.calm = true := by rfl) (hg : Gl X "list" := by rfl) (hbase : attributeBase e "items" X.env (eval e X.env) = eval e X.env := by rfl) (hline : (apos.endLine == cpos.line) = true := by rfl)
    (h1 : starEach [.Call (.Attribute e "items" apos) [] [] cpos] X.env = (false, eval (.Call (.Attribute e "items" apos) [] [] cpos) X.env) :: starEach [] X.env := by rfl) : E3 X A Γ σ (.Call (.Name "list" p) [.Call (.Attribute e "items" apos) [] [] cpos] [] pos) (RL (RT2 RS (fun b => RV (f b))) d) := fun H Q ok g k =>
  Ev.of (LiI.pe_listItems hc (evPE e) hg hm (by decide +kernel) hbase hline h1) (h H _ ok g fun v H1 x1 r1 => by
    obtain ⟨q, ks, rfl, hd, ek⟩ := hs v H1 x1.ok (Γ.mono x1.same g) r1
    cases (show ks = _ from ek)
    refine ⟨q, _, rfl, hd, fun H' p ts hle hp hts hpt hH' hpd => ?_⟩
    have xe := ext_le x1.ok hle
    have out : ∀ b, H1 b = none → b ∉ dom A := fun b hb => x1.ok.out hb
    refine k _ _ (x1.trans xe) ⟨p, ts.map V.ref, rfl, by show hide A H' p = _; rw [hide_out (out p hp)]; exact hH', items_all ?_⟩
    clear hH' hpt hd r1
    generalize kvs kS f d = ks at hpd
    induction hpd with
    | nil => exact .nil
    | @cons t q ts' ks' h1 h2 ih => exact .cons (by show hide A H' t = _; rw [hide_out (out t (hts t (List.mem_cons_self ..)))]; exact h1) (ih fun t ht => hts t (List.mem_cons_of_mem _ ht)))
/-- dict(pairs) -/
theorem f_dictP {β : Type} {f : β → V} {l : List (Str × β)} {p : Pos} (hm : X.mg "dict" = none) (h : E3 X A Γ σ e (RL (RT2 RS (fun b => RV (f b))) l)) (hcalm : X.calm = true := by rfl) (hg : Gl X "dict" := by rfl) (h1 : one1 X e := by rfl) : F3 X A Γ σ (.Call (.Name "dict" p) [e] [] pos) (fun o => pP (o = .dK (kvs kS f (putsD (·.1) (·.2) [] l)))) := fun H Q ok g k =>
  Ev.of (pe_callTy (call_dictP hcalm) hg hm (by decide +kernel) (eaPA [e]) (by decide) (by decide) h1 (by rfl)) (A3.ea (a_cons h a_nil h1) ok g fun vs H1 x1 r1 => by
    obtain ⟨v, rfl, a, ws, rfl, hw, hall⟩ := pc1 r1
    have : ∀ {l : List (Str × β)} {ws : List V}, (pAll (RT2 RS (fun b => RV (f b))) l ws).holds (hide A H1) → ∃ ps : List Addr, ws = ps.map V.ref ∧ Paired (fun p (kv : Key × V) => SqT X.K H1 p [kV kv.1, kv.2]) ps (kvs kS f l) := by
      intro l
      induction l with
      | nil => intro ws h; cases ws with
        | nil => exact ⟨[], rfl, .nil⟩
        | cons _ _ => exact h.elim
      | cons x l ih => intro ws h; cases ws with
        | nil => exact h.elim
        | cons v ws =>
          obtain ⟨⟨t, u1, u2, e1, e2, e3, e4⟩, h2⟩ := h
          obtain ⟨ps, e5, hp⟩ := ih h2
          have e1 : v = .ref t := e1
          have e3 : u1 = .str x.1 := e3
          have e4 : u2 = f x.2 := e4
          subst e3 e4
          exact ⟨t :: ps, by rw [e1, e5]; rfl, .cons (SqT.of (hide_le _ _ e2)) hp⟩
    obtain ⟨ps, e5, hp⟩ := this hall
    have hw : hide A H1 a = some (.lst ws) := hw
    rw [e5] at hw
    refine ⟨a, ps, kvs kS f l, rfl, SqL.of (hide_le _ _ hw), hp, fun q hq => k q _ _ (New.laid x1 hq _) ?_⟩
    show HO.dK _ = HO.dK _
    congr 1
    have := kvs_puts (f := f) inr_inj (fun p : Str × β => p.1) (fun p => p.2) l []
    refine Eq.trans ?_ this
    unfold mergeK putAll kvs
    rw [List.foldl_map]
    rfl)
def rDUpd : V → List V → Hp → VK → Prop := fun x vs H Q => ∃ (a b : Addr) (ks ls : List (Key × V)), x = .ref a ∧ vs = [.ref b] ∧ a ≠ b ∧ H a = some (.dK ks) ∧ H b = some (.dK ls) ∧ ks.length + ls.length ≤ sizeLine ∧ Q .non (upd H a (.dK (mergeK ks ls)))
theorem mt_dupd : MtR X "dict.update" rDUpd := by
  intro pins s σ H x vs v us Q I rx rv h
  obtain ⟨a, b, ks, ls, rfl, rfl, hne, ha, hb, hl, q⟩ := h
  obtain rfl : v = Value.ref a := rx
  obtain ⟨u, rfl, ru⟩ := rv.one
  obtain rfl : u = Value.ref b := ru
  obtain ⟨za, la, va, ra, dda⟩ := dk_of I.hok ha
  obtain ⟨zb, lb, vb, rb, ddb⟩ := dk_of I.hok hb
  refine call_meetsIn PySem.F.slot_dict_update dda.typeIs PySem.F.entry_dict_update (PySem.F.args_dict_update_2 _ _) (meets_dict_update (mixKind X.prog X.w) a b hne lb) ⟨va, vb, dda, ddb, by rw [← ra.length, ← rb.length]; exact hl, fun h' dd' _ hs => ?_⟩
  have he : ∃ q, h'.get? a = some q := let ⟨q, _, _, hq, _⟩ := dd'; ⟨q, hq⟩
  have hz : (mergeK ks ls).length ≤ sizeLine := Nat.le_trans (length_mergeK ls ks) hl
  exact ⟨.non, _, d_write I (by rw [ha]; exact True.intro) hs he (dk_new hz la (rb.merge ra) dd'), rfl, q⟩
/-- d.update(e) of an owned dict -/
theorem b_dupd (A1 : Own) {A2 : Own} {κ β : Type} [DecidableEq κ] {ι : κ → Key} {f : β → V} {d l : List (κ × β)} {q : Addr} (hι : ∀ a b, ι a = ι b → a = b) (ho : E3 X (A1 ++ (q, .dK (kvs ι f d)) :: A2) Γ σ o (RV (.ref q))) (h : E3 X (A1 ++ (q, .dK (kvs ι f d)) :: A2) Γ σ e (RD (kvs ι f l))) (hl : d.length + l.length ≤ sizeLine) (k : B3 X (A1 ++ (q, .dK (kvs ι f (putsD (·.1) (·.2) d l))) :: A2) Γ σ rest D)
    (he : starEach [e] X.env = (false, eval e X.env) :: starEach [] X.env := by rfl) (hbase : attributeBase o "update" X.env (eval o X.env) = eval o X.env := by rfl)
    (hfew : ((backTo cpos (starEach [e] X.env)).all (fun x => !x.1) && (backToKw cpos (keywordEach [] X.env)).all (fun x => x.1.isSome) && decide ([e].length + ([] : List Keyword).length + (if ([] : List Keyword).isEmpty then 0 else 1) < 30)) = true := by rfl)
    (hline : (apos.endLine == cpos.line) = true := by rfl) (hplain : (backTo cpos (starEach [] X.env)).any (·.1) = false := by rfl)
    (hs : swapsWith (.Call (.Attribute o "update" apos) [e] [] cpos) none pos.line X.env = pure false := by rfl) : B3 X (A1 ++ (q, .dK (kvs ι f d)) :: A2) Γ σ (.Expr (.Call (.Attribute o "update" apos) [e] [] cpos) pos :: rest) D := fun H ok g =>
  b_cons (Es.of (ps_expr (pe_bm PySem.F.plainAttrs_dict PySem.F.slot_dict_update PySem.F.type_dict_update mt_dupd (evPE o) (pa_cons (evPE e) pa_nil he) hbase hfew hline he hplain) hs) (ho H _ ok g fun u H1 x1 r1 => by
    cases (show u = .ref q from r1)
    have hm : (q, HO.dK (kvs ι f d)) ∈ A1 ++ (q, .dK (kvs ι f d)) :: A2 := List.mem_append_right _ (List.mem_cons_self ..)
    have h1 := x1.ok.at_ _ hm
    refine ⟨by unfold tyV; exact .inr (.inr (.inl ⟨rfl, .inl ⟨_, h1⟩⟩)), h H1 _ x1.ok (Γ.mono x1.same g) fun v H2 x2 r2 => ?_⟩
    obtain ⟨b, rfl, hb⟩ := r2
    obtain ⟨hb1, hb2⟩ := hide_of hb
    obtain ⟨o1, o2, o3⟩ := own_put (o' := .dK (kvs ι f (putsD (·.1) (·.2) d l))) x2.ok
    have hne : q ≠ b := fun z => hb2 (z ▸ List.mem_map.mpr ⟨_, hm, rfl⟩)
    have em : mergeK (kvs ι f d) (kvs ι f l) = kvs ι f (putsD (·.1) (·.2) d l) := by
      refine Eq.trans ?_ (kvs_puts (f := f) hι (fun p : κ × β => p.1) (fun p => p.2) l d)
      unfold mergeK putAll kvs
      rw [List.foldl_map]
    refine ⟨q, b, _, _, rfl, rfl, hne, o3, hb1, by rw [kvs_len, kvs_len]; exact hl, ?_⟩
    rw [em]
    exact k _ o1 (by rw [o2]; exact Γ.mono (x1.same.trans x2.same) g)))
end
end Pm
/-! Pm23 -/
set_option maxHeartbeats 2000000
/-! Pm23: tuple(pair) of a tuple is the tuple itself. -/
namespace Pm
open PySem PySem.Spec L2
section
variable {X : Cx} {A : Own} {Γ : Pr} {σ : L2.St} {e : Expr} {pos : Pos}
theorem e_tupSame {α β : Type} {R1 : α → V → Pr} {R2 : β → V → Pr} {x : α × β} {p : Pos} (hm : X.mg "tuple" = none) (h : E3 X A Γ σ e (RT2 R1 R2 x)) (hg : Gl X "tuple" := by rfl) (h1 : one1 X e := by rfl) : E3 X A Γ σ (.Call (.Name "tuple" p) [e] [] pos) (RT2 R1 R2 x) := fun H Q ok g k =>
  Ev.of (pe_callTy call_tuple_of hg hm (by decide +kernel) (eaPA [e]) (by decide) (by decide) h1 (by rfl)) (A3.ea (a_cons h a_nil h1) ok g fun vs H1 x1 r1 => by
    obtain ⟨v, rfl, r⟩ := pc1 r1
    have r' := r
    obtain ⟨t, u1, u2, e1, e2, e3, e4⟩ := r
    have e1 : v = .ref t := e1
    subst e1
    exact ⟨t, [u1, u2], rfl, .inr ⟨SqT.of (hide_le _ _ e2), k _ _ x1 r'⟩⟩)
end
end Pm
/-! C97q -/
set_option maxHeartbeats 2000000
namespace L97
open PySem PySem.Spec L2 Pm
structure OkJ (word : Str) (f s : Row) : Prop where
  jw : isJoin word
  jf : OkRow f
  js : OkRow s
  few : (unionC f.1 s.1).length ≤ 12
theorem okSp_of {r : Row} {wider : List Str} (ok : OkRow r) (hw : wider.Pairwise ltS) (hs : ∀ x ∈ r.1, x ∈ wider) (few : wider.length ≤ 12) : OkSp r.1 r.2 wider := ⟨few, by rw [up_filter ok.up hw hs, ok.len]; exact Nat.le_refl _⟩
section
variable {P : Program} {w : World} {K : PySem.W.Frag} {mg : Str → Option Value} {base : Heap}
theorem ok_joined_row (T : Tx K mg) (S : Ats K mg) : Fd P w K mg base "joined_row" 2 (spF (fun (d : {d : Str × Row × Row // OkJ d.1 d.2.1 d.2.2}) => Pm.PC (RS d.1.1) (Pm.PC (RRow d.1.2.1) (Pm.PC (RRow d.1.2.2) PN))) fun d => RRow (joinedC d.1.1 d.1.2.1 d.1.2.2)) := by
  obtain ⟨f, fd, F, gm⟩ := S.djoined_row
  refine fd_mk F gm cjoined_row (fun _ _ _ _ _ _ us hl => match us, hl with | [_, _, _], _ => rfl) (fun d vs G h => len3 h) fun cdv Ar outer s H vs ⟨⟨wd, f1, s1⟩, h1, h2, h3, h4⟩ A G0 D hr hq hn => in3 fun v1 v2 v3 => ?_
  have nd := cjoined_row.nd
  dsimp only at h1 h2 h3 h4
  refine B3.v (fun G h => h.1.1.2) fun e1 => ?_
  subst e1
  have m1 : f1.1.length ≤ 12 := Nat.le_trans (nodup_len (up_nodup h2.up) fun x hx => mem_union.mpr (.inl hx)) h4
  have m2 : s1.1.length ≤ 12 := Nat.le_trans (nodup_len (up_nodup h3.up) fun x hx => mem_union.mpr (.inr hx)) h4
  refine b_set 3 (R := RL RS (unionC f1.1 s1.1)) (F3.rl (f_sortRD T.sorted (F3.rd (f_dc (own := [("letter", 6)]) (fun x : Str => kS x) (fun _ => V.non) (i_list (P := RS) (xs := f1.1 ++ s1.1) (F3.rl (f_star2 (e_fst (R1 := RL RS) (R2 := RL RB) (x := f1) (e_x 1 (R := RRow f1))) (e_fst (R1 := RL RS) (R2 := RL RB) (x := s1) (e_x 2 (R := RRow s1))) (by rw [sizeLine_eq]; omega)))) (tc_name 6) (blkOk_by (N := njoined_row) (sc := defScope sjoined_row) (by decide +kernel)) (fun Gd q z w hm s H C cl fp => e_x 6 (R := RS z) (h := fun G h => h.2)) (fun Gd q z w hm s H C cl fp => e_non) (by rw [List.length_append, sizeLine_eq]; omega))) (by have := putAll_keys (fun x : Str => x) (fun _ => V.non) (f1.1 ++ s1.1); rw [List.map_id'] at this; exact this) (by have := nubA_len (xs := f1.1 ++ s1.1) (ks := []); rw [List.length_append, List.length_nil] at this; omega))) fun v3' => ?_
  have hup := union_up f1.1 s1.1
  have o1 := okSp_of h2 hup (fun x hx => mem_union.mpr (.inl hx)) h4
  have o2 := okSp_of h3 hup (fun x hx => mem_union.mpr (.inr hx)) h4
  refine b_parEE 4 5 (Ra := RL RB (spreadC f1.1 f1.2 (unionC f1.1 s1.1))) (Rb := RL RB (spreadC s1.1 s1.2 (unionC f1.1 s1.1))) (e_c (ok_spread T S) hr ⟨(f1.1, f1.2, _), o1⟩ (a_cons (e_fst (R1 := RL RS) (R2 := RL RB) (x := f1) (e_x 1 (R := RRow f1))) (a_cons (e_snd (R1 := RL RS) (R2 := RL RB) (x := f1) (e_x 1 (R := RRow f1))) (a_cons (e_x 3 (R := RL RS (unionC f1.1 s1.1)) (h := fun G h => h.2)) a_nil)))) (e_c (ok_spread T S) hr ⟨(s1.1, s1.2, _), o2⟩ (a_cons (e_fst (R1 := RL RS) (R2 := RL RB) (x := s1) (e_x 2 (R := RRow s1))) (a_cons (e_snd (R1 := RL RS) (R2 := RL RB) (x := s1) (e_x 2 (R := RRow s1))) (a_cons (e_x 3 (R := RL RS (unionC f1.1 s1.1)) (h := fun G h => h.2)) a_nil)))) fun v4 v5 => ?_
  refine b_rt hq (e_tup2 (R1 := RL RS) (R2 := RL RB) (x := unionC f1.1 s1.1) (y := List.zipWith (joinC wd) (spreadC f1.1 f1.2 (unionC f1.1 s1.1)) (spreadC s1.1 s1.2 (unionC f1.1 s1.1))) (e_x 3 (R := RL RS (unionC f1.1 s1.1)) (h := fun G h => h.1.1.2)) ?_)
  rw [← List.map_uncurry_zip_eq_zipWith]
  refine F3.rl (f_lc (own := [("here", 7), ("there", 8)]) (fun z : Bool × Bool => joinC wd z.1 z.2) RB (i_zipL (P1 := RB) (P2 := RB) (xs := spreadC f1.1 f1.2 (unionC f1.1 s1.1)) (ys := spreadC s1.1 s1.2 (unionC f1.1 s1.1)) T.zip (e_x 4 (h := fun G h => h.1.2)) (e_x 5 (h := fun G h => h.2))) (tc_two (R1 := RB) (R2 := RB) 7 8) (blkOk_by (N := njoined_row) (sc := defScope sjoined_row) (by decide +kernel)) (fun Gd q z w hm s H C cl fp => e_c (ok_join T S) hr ⟨(wd, z.1, z.2), h1⟩ (a_cons (e_v 0) (a_cons (e_x 7 (R := RB z.1) (h := fun G h => h.2.1)) (a_cons (e_x 8 (R := RB z.2) (h := fun G h => h.2.2)) a_nil)))) ?_)
  rw [List.length_zip]
  unfold spreadC
  rw [List.length_map, List.length_map, places_len, places_len, Nat.min_self, sizeLine_eq]
  have : 2 ^ (unionC f1.1 s1.1).length ≤ 2 ^ 12 := Nat.pow_le_pow_right (by decide) h4
  omega
end
end L97
/-! C97r -/
set_option maxHeartbeats 2000000
namespace L97
open PySem PySem.Spec L2 Pm
def rowStep (right : List Str) (r : Row) (l : Lit) : Row := if l.1 ∈ right then joinedC "either" r (litRow l) else r
theorem clauseRow_eq (c : Cl) (right : List Str) : clauseRow c right = c.foldl (rowStep right) ([], [false]) := rfl
theorem fold_row {right : List Str} : ∀ (c : Cl) (r : Row), OkRow r → OkRow (c.foldl (rowStep right) r) ∧ ∀ x ∈ (c.foldl (rowStep right) r).1, x ∈ r.1 ∨ x ∈ c.map (·.1) := fun c r h => by
  obtain ⟨a, _, d⟩ := clauseFold (right := right) (fun _ => false) c r h
  refine ⟨a, fun x hx => ?_⟩
  rcases d x hx with z | ⟨_, l, hl, e⟩
  · exact .inl z
  · exact .inr (List.mem_map.mpr ⟨l, hl, e⟩)
theorem row0 : OkRow (([], [false]) : Row) := ⟨List.Pairwise.nil, rfl⟩
section
variable {P : Program} {w : World} {K : PySem.W.Frag} {mg : Str → Option Value} {base : Heap}
theorem ok_clause_row (T : Tx K mg) (S : Ats K mg) : Fd P w K mg base "clause_row" 3 (spF (fun (d : {d : Cl × List Str // d.1.length ≤ 12}) => Pm.PC (RCl d.1.1) (Pm.PC (RL RS d.1.2) PN)) fun d => RRow (clauseRow d.1.1 d.1.2)) := by
  obtain ⟨f, fd, F, gm⟩ := S.dclause_row
  refine fd_mk F gm cclause_row (fun _ _ _ _ _ _ us hl => match us, hl with | [_, _], _ => rfl) (fun d vs G h => len2 h) fun cdv Ar outer s H vs ⟨⟨c, right⟩, h1⟩ A G0 D hr hq hn => in2 fun v1 v2 => ?_
  have nd := cclause_row.nd
  dsimp only at h1
  refine b_set 2 (R := RRow ([], [false])) (e_tup2 (R1 := RL RS) (R2 := RL RB) (x := []) (y := [false]) (F3.rl f_nil) (F3.rl (f_one e_bl))) fun v3 => ?_
  refine b_for (δ := Row × V × Option V × Option V) (sd := fun d => [some v1, some v2, some d.2.1, d.2.2.1, d.2.2.2]) (Ad := fun d => A) (Γd := fun d => pAnd (pAnd (pAnd (pSame G0) (RCl c v1)) (RL RS right v2)) (RRow d.1 d.2.1)) (rel := fun i d => d.1 = (c.take i).foldl (rowStep right) ([], [false])) (i_list (P := RLit) (xs := c) (e_x 0)) (tg_pair (R1 := RS) (R2 := RB) 3 4) (([], [false]), v3, none, none) ⟨rfl, rfl, rfl⟩ (fun G h => h) (fun Gd i l d w' hz hr2 => ?_) (fun d hr2 => ?_)
  · obtain ⟨r, vr, sa, sb⟩ := d
    dsimp only at hr2
    refine B3.v (v := w'.1) (w := .str l.1) (fun G h => h.2.1) fun ew => ?_
    refine B3.v (v := w'.2) (w := .bl l.2) (fun G h => h.2.2) fun ew2 => ?_
    obtain ⟨w1, w2⟩ := w'
    dsimp only at ew ew2
    subst ew ew2
    have hst : (c.take (i + 1)).foldl (rowStep right) ([], [false]) = rowStep right r l := by
      rw [take_snoc hz, List.foldl_append, hr2]
      rfl
    obtain ⟨ok, sub⟩ := fold_row (right := right) (c.take i) _ row0
    rw [← hr2] at ok sub
    refine b_when (t_inL (x := l.1) (xs := right) (e_v 3) (e_x 1 (R := RL RS right))) (fun e => ?_) (fun e => ?_)
    · have hl : l.1 ∈ right := by simpa using e
      have hsz : (unionC r.1 [l.1]).length ≤ 12 := by
        refine Nat.le_trans (nodup_len (m := c.map (·.1)) (up_nodup (union_up _ _)) fun x hx => ?_) (by rw [List.length_map]; exact h1)
        rcases mem_union.mp hx with z | z
        · rcases sub x z with z | z
          · cases z
          · obtain ⟨m, hm, e⟩ := List.mem_map.mp z
            exact List.mem_map.mpr ⟨m, List.mem_of_mem_take hm, e⟩
        · rw [List.mem_singleton] at z
          exact List.mem_map.mpr ⟨l, List.mem_of_getElem? hz, z.symm⟩
      refine b_set 2 (R := RRow (joinedC "either" r (litRow l))) (e_c (ok_joined_row T S) hr ⟨("either", r, litRow l), .inr rfl, ok, litRow_ok l, hsz⟩ (a_cons e_str (a_cons (e_x 2 (R := RRow r)) (a_cons (e_tup2 (R1 := RL RS) (R2 := RL RB) (x := [l.1]) (y := [!l.2, l.2]) (F3.rl (f_one (T := RS) (e_v 3))) (F3.rl (f_two (T := RB) (e_not (e_v 4)) (e_v 4)))) a_nil)))) fun v4 => ?_
      refine b_gon rfl <| b_fin rfl (joinedC "either" r (litRow l), v4, some (.str l.1), some (.bl l.2)) (by dsimp only; rw [hst]; unfold rowStep; rw [if_pos hl]) rfl rfl fun G h => ⟨⟨h.1.1.1.1, h.2⟩, h.1.1.2⟩
    · have hl : ¬ l.1 ∈ right := by simpa using e
      exact b_fin rfl (r, vr, some (.str l.1), some (.bl l.2)) (by dsimp only; rw [hst]; unfold rowStep; rw [if_neg hl]) rfl rfl fun G h => h.1
  · obtain ⟨r, vr, sa, sb⟩ := d
    dsimp only at hr2
    rw [List.take_length] at hr2
    subst hr2
    exact b_rt hq (e_x 2 (R := RRow (clauseRow c right)) (h := fun G h => h.2))
structure OkB (ones others : List Cl) : Prop where
  one : OkCs ones
  other : OkCs others
  both : OkCs (ones ++ others)
theorem ok_check_both (T : Tx K mg) (S : Ats K mg) : Fd P w K mg base "check_both" 7 (spF (fun (d : {d : List Cl × List Cl // OkB d.1 d.2}) => Pm.PC (RCs d.1.1) (Pm.PC (RCs d.1.2) PN)) fun d => RN) := by
  obtain ⟨f, fd, F, gm⟩ := S.dcheck_both
  refine fd_mk F gm ccheck_both (fun _ _ _ _ _ _ us hl => match us, hl with | [_, _], _ => rfl) (fun d vs G h => len2 h) fun cdv Ar outer s H vs ⟨⟨a, b⟩, h1, h2, h3⟩ A G0 D hr hq hn => in2 fun v1 v2 => ?_
  have nd := ccheck_both.nd
  dsimp only at h1 h2 h3
  have l1 := h1.few
  have l2 := h2.few
  refine b_expr (e_c (ok_check_clauses T S) hr ⟨a, h1⟩ (a_cons (e_x 0) a_nil)) fun v => ?_
  refine b_expr (e_c (ok_check_clauses T S) hr ⟨b, h2⟩ (a_cons (e_x 1) a_nil)) fun v' => ?_
  exact b_when (t_not (t_of (e_c (ok_are_clauses T S) hr ⟨a ++ b, h3⟩ (a_cons (F3.rl (f_star2 (T := RCl) (e_x 0 (R := RCs a)) (e_x 1 (R := RCs b)) (by rw [sizeLine_eq]; omega))) a_nil)))) (fun e => absurd e (by decide)) (fun e => b_nil fun H ok g => by rw [hn]; exact hq _ _ ok g.1.1.1.1 rfl)
def sharedC (ones others : List Cl) : List Str := (lettersW ones).filter fun x => decide (x ∈ lettersW others)
theorem ok_shared_letters (T : Tx K mg) (S : Ats K mg) : Fd P w K mg base "shared_letters" 2 (spF (fun (d : {d : List Cl × List Cl // OkB d.1 d.2}) => Pm.PC (RCs d.1.1) (Pm.PC (RCs d.1.2) PN)) fun d => RL RS (sharedC d.1.1 d.1.2)) := by
  obtain ⟨f, fd, F, gm⟩ := S.dshared_letters
  refine fd_mk F gm cshared_letters (fun _ _ _ _ _ _ us hl => match us, hl with | [_, _], _ => rfl) (fun d vs G h => len2 h) fun cdv Ar outer s H vs ⟨⟨a, b⟩, h1, h2, h3⟩ A G0 D hr hq hn => in2 fun v1 v2 => ?_
  have nd := cshared_letters.nd
  dsimp only at h1 h2 h3
  have l1 := h1.let_
  have l2 := h2.let_
  refine b_set 2 (R := RL RS (lettersW b)) (e_c (ok_letters_within T S) hr ⟨b, h2.cl, h2.few, by omega⟩ (a_cons (e_x 1) a_nil)) fun v => ?_
  refine b_rt hq (F3.rl (f_lcF (own := [("letter", 3)]) (fun x => decide (x ∈ lettersW b)) (fun x : Str => x) RS (i_list (P := RS) (xs := lettersW a) (e_c (ok_letters_within T S) hr ⟨a, h1.cl, h1.few, by omega⟩ (a_cons (e_x 0) a_nil))) (tc_name 3) (blkOk_by (N := nshared_letters) (sc := defScope sshared_letters) (by decide +kernel)) (fun Gd q x w hm s H C cl fp => t_inL (e_x 3 (R := RS x) (h := fun G h => h.2)) (e_x 2 (R := RL RS (lettersW b)) (h := fun G h => h.1.1.2))) (fun Gd q x w hm _ s H C cl fp => e_x 3 (R := RS x) (h := fun G h => h.2)) (by rw [sizeLine_eq]; omega))) (by intro v G z; have z2 := z.2; rw [List.map_id'] at z2; exact z2)
end
end L97
/-! C97s -/
set_option maxHeartbeats 4000000
namespace L97
open PySem PySem.Spec L2 Pm
theorem itp_few {ones others : List Cl} {right : List Str} {c1 c2 : Cl} {r1 r2 : Row} (h : OkCs ones) (h1 : Itp ones others right c1 r1) (h2 : Itp ones others right c2 r2) : (unionC r1.1 r2.1).length ≤ 12 := by
  refine Nat.le_trans (nodup_len (m := lettersW ones) (up_nodup (union_up _ _)) fun x hx => ?_) h.let_
  rcases mem_union.mp hx with z | z
  · obtain ⟨_, d, hd, l, hl, e⟩ := h1.sub x z
    exact e ▸ mem_lettersW hd hl
  · obtain ⟨_, d, hd, l, hl, e⟩ := h2.sub x z
    exact e ▸ mem_lettersW hd hl
def OkRows (ones others : List Cl) (res : List Cl) (rows : List Row) : Prop := rows.length = res.length ∧ ∀ (j : Nat) (c : Cl), res[j]? = some c → ∃ r, rows[j]? = some r ∧ Itp ones others (lettersW others) c r
section
variable {P : Program} {w : World} {K : PySem.W.Frag} {mg : Str → Option Value} {base : Heap}
theorem ok_rows_along (T : Tx K mg) (S : Ats K mg) : Fd P w K mg base "rows_along" 4 (spF (fun (d : {d : List Cl × List Cl × List Stp × List Cl // OkB d.1 d.2.1 ∧ OkPf (d.1 ++ d.2.1) d.2.2.1 d.2.2.2}) => Pm.PC (RCs d.1.1) (Pm.PC (RCs d.1.2.1) (Pm.PC (RL RStp d.1.2.2.1) PN))) fun d v => pEx fun rows : List Row => pAnd (pP (OkRows d.1.1 d.1.2.1 d.1.2.2.2 rows)) (RL RRow rows v)) := by
  obtain ⟨f, fd, F, gm⟩ := S.drows_along
  refine fd_mk F gm crows_along (fun _ _ _ _ _ _ us hl => match us, hl with | [_, _, _], _ => rfl) (fun d vs G h => len3 h) fun cdv Ar outer s H vs ⟨⟨ones, others, ss, res⟩, ⟨b1, b2, b3⟩, pf⟩ A G0 D hr hq hn => in3 fun v1 v2 v3 => ?_
  have nd := crows_along.nd
  dsimp only at b1 b2 b3 pf
  have hal := pf.run
  have hlen := along_len hal
  rw [List.length_nil, Nat.zero_add] at hlen
  have hss := pf.len
  have lo := b2.let_
  refine b_parEF 4 5 (Ra := RL RS (lettersW others)) (Rb := OL RRow []) (e_c (ok_letters_within T S) hr ⟨others, b2.cl, b2.few, by omega⟩ (a_cons (e_x 1) a_nil)) f_nil fun v4 q o => ?_
  refine B3.fact (fun G h => ol_nil h.2) fun eo => ?_
  subst eo
  refine b_for (δ := List Row × List V × Option V × Option V × Option V) (sd := fun d => [some v1, some v2, some v3, d.2.2.1, some v4, some (.ref q), d.2.2.2.1, d.2.2.2.2]) (Ad := fun d => (q, .lst d.2.1) :: A) (Γd := fun d => pAnd (pAnd (pAnd (pAnd (pSame G0) (RCs ones v1)) (RL RStp ss v3)) (RL RS (lettersW others) v4)) (pAll RRow d.1 d.2.1)) (rel := fun i d => OkRows ones others (res.take i) d.1) (i_list (P := RStp) (xs := ss) (e_x 2)) (tg_name 3) ([], [], none, none, none) ⟨⟨rfl, fun j c h => (nil_get h).elim⟩, rfl, rfl⟩ (fun G h => ⟨⟨⟨⟨h.1.1.1.1.1, h.1.1.1.1.2⟩, h.1.1.2⟩, h.1.2⟩, trivial⟩) (fun Gd i st d w' hz hr2 => ?_) (fun d hr2 => ?_)
  · obtain ⟨rows, vs, sa, sb, sc⟩ := d
    obtain ⟨k1, k2⟩ := hr2
    dsimp only at k1 k2
    have hi := get_lt hz
    rw [List.length_take, Nat.min_eq_left (by omega)] at k1
    obtain ⟨okst, c, hc, hsc, hc2⟩ := along_step hal hz
    rw [List.length_nil, Nat.zero_add] at okst hc hsc
    refine B3.fact (fun G h => (pAll_len h.1.1.2).symm) fun hvl => ?_
    dsimp only at hvl
    -- the new row closes the turn
    have fin : ∀ r, Itp ones others (lettersW others) c r → OkRows ones others (res.take (i + 1)) (rows ++ [r]) := fun r hr => by
      refine ⟨by rw [List.length_append, List.length_take, k1]; simp; omega, fun j d hj => ?_⟩
      rw [take_snoc hc] at hj
      rcases Nat.lt_or_ge j (res.take i).length with z | z
      · rw [List.getElem?_append_left z] at hj
        obtain ⟨r', e1, e2⟩ := k2 j d hj
        exact ⟨r', by rw [List.getElem?_append_left (get_lt e1)]; exact e1, e2⟩
      · have hj' := get_lt hj
        rw [List.length_append, List.length_take] at hj'
        rw [List.length_take] at z
        have : j = i := by simp at hj'; omega
        subst this
        have e : (res.take j).length = j := by rw [List.length_take]; omega
        rw [List.getElem?_append_right (by omega), e, Nat.sub_self] at hj
        cases hj
        exact ⟨r, by rw [List.getElem?_append_right (by omega), k1, Nat.sub_self]; rfl, hr⟩
    cases st with
    | told n =>
      have hn2 : n < (ones ++ others).length := okst
      have hcn : (ones ++ others)[n]? = some c := hsc
      refine b_if (t_eq (x := .str "told") (e_at (e_x 3 (R := RStp (.told n)) (h := fun G h => h.2)) e_int s_rp (fun vs G _ e => ⟨_, by cases (show vs = _ from e); rfl, rfl⟩)) e_str) (fun _ => ?_) (fun e => absurd e (by decide))
      refine b_setV 6 (w := .bl (decide ((n : Int) < (ones.length : Nat)))) (e_lt (e_at (R := RI n) (e_x 3 (R := RStp (.told n)) (h := fun G h => h.2)) e_int s_rp (fun vs G _ e => ⟨_, by cases (show vs = _ from e); rfl, rfl⟩)) (e_lenL (R := RCl) (xs := ones) T.len (e_x 0 (R := RCs ones)))) ?_
      by_cases hno : n < ones.length
      · have hon := List.getElem?_eq_getElem hno
        have hc1 : ones[n] = c := by
          rw [List.getElem?_append_left hno, hon] at hcn
          exact Option.some.inj hcn
        have hmem : c ∈ ones := hc1 ▸ List.getElem_mem hno
        have hcl := okCs_cl2 b1 hmem
        have h12 : c.length ≤ 12 := by
          have hup := (b1.cl c hmem).up
          have := nodup_len (m := lettersW ones) hcl.nd fun x hx => by
            obtain ⟨l, hl, rfl⟩ := List.mem_map.mp hx
            exact mem_lettersW hmem hl
          rw [List.length_map] at this
          exact Nat.le_trans this b1.let_
        refine b_ap [] 5 (R := RRow (clauseRow c (lettersW others))) (e_if (t := true) ((t_of (e_v 6)).eq (by simp; omega)) (fun _ => e_c (ok_clause_row T S) hr ⟨(c, lettersW others), h12⟩ (a_cons (e_c (ok_told_clause T S) hr ⟨c, by show c.length ≤ 1000; omega⟩ (a_cons (e_atL (R := RCl) (xs := ones) n (e_x 0 (R := RCs ones)) (e_at (R := RI n) (e_x 3 (R := RStp (.told n)) (h := fun G h => h.2)) e_int s_rp (fun vs G _ e => ⟨_, by cases (show vs = _ from e); rfl, rfl⟩)) rfl (by rw [hon, hc1])) a_nil)) (a_cons (e_x 4 (R := RL RS (lettersW others)) (h := fun G h => h.1.1.1.2)) a_nil))) (fun e => absurd e (by decide))) (fun G h => by show vs.length < _; rw [hvl, sizeLine_eq]; omega) fun u => ?_
        exact b_gon rfl <| b_fin rfl (rows ++ [clauseRow c (lettersW others)], vs ++ [u], some w', some (.bl (decide ((n : Int) < (ones.length : Nat)))), sc) (fin _ (itp_one hmem)) rfl rfl fun G h => ⟨⟨h.1.1.1.1, pAll_app h.1.1.1.2 (pAll_one h.2)⟩, h.1.1.2⟩
      · have hmem : c ∈ others := by
          rw [List.getElem?_append_right (by omega)] at hcn
          exact List.mem_of_getElem? hcn
        refine b_ap [] 5 (R := RRow ([], [true])) (e_if (t := false) ((t_of (e_v 6)).eq (by simp; omega)) (fun e => absurd e (by decide)) (fun _ => e_tup2 (R1 := RL RS) (R2 := RL RB) (x := []) (y := [true]) (F3.rl f_nil) (F3.rl (f_one (T := RB) e_bl)))) (fun G h => by show vs.length < _; rw [hvl, sizeLine_eq]; omega) fun u => ?_
        exact b_gon rfl <| b_fin rfl (rows ++ [([], [true])], vs ++ [u], some w', some (.bl (decide ((n : Int) < (ones.length : Nat)))), sc) (fin _ (itp_other hmem fun l hl => mem_lettersW hmem hl)) rfl rfl fun G h => ⟨⟨h.1.1.1.1, pAll_app h.1.1.1.2 (pAll_one h.2)⟩, h.1.1.2⟩
    | met a b x =>
      obtain ⟨ka, kb, kx⟩ : a < (res.take i).length ∧ b < (res.take i).length ∧ isLetter x = true := okst
      have ea := List.getElem?_eq_getElem ka
      have eb := List.getElem?_eq_getElem kb
      generalize (res.take i)[a] = ca at ea
      generalize (res.take i)[b] = cb at eb
      have hm : metC ca cb x = some c := by
        have hsc : (match (res.take i)[a]?, (res.take i)[b]? with
          | some a, some b => metC a b x
          | _, _ => none) = some c := hsc
        rw [ea, eb] at hsc
        exact hsc
      obtain ⟨ra, era, ia⟩ := k2 a ca ea
      obtain ⟨rb, erb, ib⟩ := k2 b cb eb
      have hok2 := along_ok hal (fun c (h : c ∈ []) => absurd h List.not_mem_nil)
      have na := (hok2 ca (List.mem_of_mem_take (List.mem_of_getElem? ea))).nd
      have nb := (hok2 cb (List.mem_of_mem_take (List.mem_of_getElem? eb))).nd
      have itp := itp_met ia ib hm na nb
      have few := itp_few b1 ia ib
      refine b_if ((t_eq (x := .str "met") (y := .str "told") (e_at (e_x 3 (R := RStp (.met a b x)) (h := by exact fun G h => h.2)) e_int s_rp (fun vs G _ e => ⟨_, by cases (show vs = _ from e); rfl, rfl⟩)) e_str).eq (t' := false) (by decide)) (fun e => absurd e (by decide)) (fun _ => ?_)
      refine b_setV 7 (w := .str (if x ∈ lettersW others then "both" else "either")) (e_if (t := decide (x ∈ lettersW others)) (t_inL (x := x) (xs := lettersW others) (e_at (R := RS x) (e_x 3 (R := RStp (.met a b x)) (h := fun G h => h.2)) e_int s_rp (fun vs G _ e => ⟨_, by cases (show vs = _ from e); rfl, rfl⟩)) (e_x 4 (R := RL RS (lettersW others)) (h := fun G h => h.1.1.1.2))) (fun e => by rw [if_pos (of_decide_eq_true e)]; exact e_str) (fun e => by rw [if_neg (of_decide_eq_false e)]; exact e_str)) ?_
      refine b_ap [] 5 (R := RRow (joinedC (if x ∈ lettersW others then "both" else "either") ra rb)) (e_c (ok_joined_row T S) hr ⟨(if x ∈ lettersW others then "both" else "either", ra, rb), by dsimp only; split; exact .inl rfl; exact .inr rfl, ia.ok, ib.ok, few⟩ (a_cons (e_v 7) (a_cons (e_at (R := RRow ra) (e_v 5) (e_at (R := RI a) (e_x 3 (R := RStp (.met a b x)) (h := fun G h => h.2)) e_int s_rp (fun vs G _ e => ⟨_, by cases (show vs = _ from e); rfl, rfl⟩)) (s_own (List.mem_cons_self ..)).s fun ws G g e => by cases (show ws = vs from e); exact at_all rfl era vs G g.1.1.2) (a_cons (e_at (R := RRow rb) (e_v 5) (e_at (R := RI b) (e_x 3 (R := RStp (.met a b x)) (h := fun G h => h.2)) e_int s_rp (fun vs G _ e => ⟨_, by cases (show vs = _ from e); rfl, rfl⟩)) (s_own (List.mem_cons_self ..)).s fun ws G g e => by cases (show ws = vs from e); exact at_all rfl erb vs G g.1.1.2) a_nil)))) (fun G h => by show vs.length < _; rw [hvl, sizeLine_eq]; omega) fun u => ?_
      exact b_gon rfl <| b_fin rfl (rows ++ [joinedC (if x ∈ lettersW others then "both" else "either") ra rb], vs ++ [u], some w', sb, some (.str (if x ∈ lettersW others then "both" else "either"))) (fin _ itp) rfl rfl fun G h => ⟨⟨h.1.1.1.1, pAll_app h.1.1.1.2 (pAll_one h.2)⟩, h.1.1.2⟩
  · obtain ⟨rows, vs, sa, sb, sc⟩ := d
    dsimp only at hr2 ⊢
    rw [← hlen, List.take_length] at hr2
    exact b_let (b_rt hq (e_var 5 (R := RL RRow rows) (by intro G h; exact ⟨q, vs, rfl, h.2, h.1.2⟩)) (by intro v G z; exact ⟨rows, hr2, z.2⟩))
end
end L97
/-! C97t -/
set_option maxHeartbeats 2000000
namespace L97
open PySem PySem.Spec L2 Pm
def whereC (cs : List Cl) (ls : List Str) : List Wd := ((List.range (2 ^ ls.length)).map (worldAt ls)).filter (holdsAll cs)
section
variable {P : Program} {w : World} {K : PySem.W.Frag} {mg : Str → Option Value} {base : Heap}
theorem ok_worlds_where (T : Tx K mg) (S : Ats K mg) : Fd P w K mg base "worlds_where" 2 (spF (fun (d : {d : List Cl × List Str // d.2.Nodup ∧ d.2.length ≤ 12 ∧ d.1.length ≤ 1000 ∧ (∀ c ∈ d.1, c.length ≤ 1000) ∧ ∀ c ∈ d.1, ∀ l ∈ c, l.1 ∈ d.2}) => Pm.PC (RCs d.1.1) (Pm.PC (RL RS d.1.2) PN)) fun d => RL RW (whereC d.1.1 d.1.2)) := by
  obtain ⟨f, fd, F, gm⟩ := S.dworlds_where
  refine fd_mk F gm cworlds_where (fun _ _ _ _ _ _ us hl => match us, hl with | [_, _], _ => rfl) (fun d vs G h => len2 h) fun cdv Ar outer s H vs ⟨⟨cs, ls⟩, h1, h2, h3, h4, h5⟩ A G0 D hr hq hn => in2 fun v1 v2 => ?_
  have nd := cworlds_where.nd
  dsimp only at h1 h2 h3 h4 h5
  have hpow : 2 ^ ls.length ≤ 2 ^ 12 := Nat.pow_le_pow_right (by decide) h2
  refine b_setLc 2 (own := [("place", 3)]) (worldAt ls) RW (i_rangeN (m := 2 ^ ls.length) T.range (e_pow2 (e_lenL (R := RS) (xs := ls) T.len (e_x 1)) (by omega)) (by omega)) (tc_name (Rz := fun k : Nat => RI k) 3) (blkOk_by (N := nworlds_where) (sc := defScope sworlds_where) (by decide +kernel)) (fun Gd q z w hm s H C cl fp => e_c (ok_world_at_place T S) hr ⟨(ls, z), h1, by dsimp only; omega⟩ (a_cons (e_x 1 (R := RL RS ls)) (a_cons (e_x 3 (R := RI z) (h := fun G h => h.2)) a_nil))) (by rw [List.length_range, sizeLine_eq]; omega) (by intro _; rfl) fun v3 => ?_
  refine b_rt hq (F3.rl (f_lcF (own := [("world", 4)]) (holdsAll cs) (fun w : Wd => w) RW (i_list (P := RW) (xs := (List.range (2 ^ ls.length)).map (worldAt ls)) (e_x 2 (h := fun G h => h.2))) (tc_name 4) (blkOk_by (N := nworlds_where) (sc := defScope sworlds_where) (by decide +kernel)) (fun Gd q z w hm s H C cl fp => ?_) (fun Gd q z w hm _ s H C cl fp => e_x 4 (R := RW z) (h := fun G h => h.2)) (by rw [List.length_map, List.length_range, sizeLine_eq]; omega))) (by intro v G z; have z2 := z.2; rw [List.map_id'] at z2; exact z2)
  obtain ⟨p, hp, rfl⟩ := List.mem_map.mp hm
  refine T3.eq (t := (cs.map fun c => holdsC c (worldAt ls p)).all id) (t_of (e_all (bs := cs.map fun c => holdsC c (worldAt ls p)) T.all (F3.rl (f_lc (own := [("clause", 5)]) (fun c => holdsC c (worldAt ls p)) RB (i_list (P := RCl) (xs := cs) (e_x 0 (R := RCs cs))) (tc_name 5 (hN := nd)) (blkOk_by (by kernel_rfl)) (fun Gd2 q2 c w2 hm2 s2 H2 C2 cl2 fp2 => e_c (ok_holds_in T S) hr ⟨(c, worldAt ls p), h4 c hm2, fun l hl => by rw [worldAt_keys]; exact h5 c hm2 l hl⟩ (a_cons (e_x 5 (R := RCl c) (h := fun G h => h.2)) (a_cons (e_x 4 (R := RW (worldAt ls p)) (h := fun G h => h.1.1.2)) a_nil))) (Nat.lt_of_le_of_lt h3 (by decide)) (hN := nd))))) (by rw [List.all_map]; rfl)
end
end L97
/-! C97u -/
set_option maxHeartbeats 2000000
namespace L97
open PySem PySem.Spec L2 Pm
/-- a spring's list -/
structure Spr where
  p : Addr
  a : Int
  b : Int
  c : Nat
def Spr.vs (r : Spr) : List V := [.int r.a, .int r.b, .int r.c]
def Spr.own (r : Spr) : Own := [(r.p, .lst r.vs)]
structure Spr.Ok (r : Spr) : Prop where
  a0 : 0 ≤ r.a
  b0 : 0 ≤ r.b
  b1 : r.b < 2147483648
section
variable {P : Program} {w : World} {K : PySem.W.Frag} {mg : Str → Option Value} {base : Heap}
theorem ok_law_draw (T : Tx K mg) (S : Ats K mg) : Fd P w K mg base "_law_draw" 1 (spM (fun d : {d : Spr × Nat // d.1.Ok ∧ 0 < d.2 ∧ d.2 < 1000 ∧ d.1.c < 1000000} => d.1.1.own) (fun r : Spr × Nat => r.1.own) (fun d vs => Pm.PC (RV (.ref d.1.1.p)) (Pm.PC (RI d.1.2) PN) vs) (fun d r v => pP (v = .int r.2 ∧ r.2 < d.1.2 ∧ r.1.p = d.1.1.p ∧ r.1.Ok ∧ r.1.c ≤ d.1.1.c + 1))) := by
  obtain ⟨f, fd, F, gm⟩ := S.d_law_draw
  refine fd_mkM F gm c_law_draw (fun _ _ _ _ _ _ us hl => match us, hl with | [_, _], _ => rfl) (fun d vs G h => len2 h) fun cdv Ar outer s H vs ⟨⟨⟨p, a, b, c⟩, m⟩, ⟨h1, h2, h3⟩, h4, h5, h6⟩ A G0 D hr hq hn => in2 fun v1 v2 => ?_
  have nd := c_law_draw.nd
  dsimp only at h1 h2 h3 h4 h5 h6
  refine B3.v (fun G h => h.1.2) fun e1 => B3.v (fun G h => h.2) fun e2 => ?_
  dsimp only at e1 e2
  subst e1 e2
  refine B3.pre (Δ := pSame G0) ?_ fun G h => h.1.1
  show B3 _ ((p, .lst [.int a, .int b, .int c]) :: A) _ _ _ _
  have at0 : ∀ {vs : List V} {Γ' : Pr} {σ' : L2.St} {pos p2 : Pos} {kk : Nat} (i : Nat) (x : V), σ'[0]? = some (some (.ref p)) → vs[i]? = some x → E3 (cxOf CX0 P w K mg base n_law_draw (Str.ofString "_law_draw") (defScope s_law_draw) f cdv Ar outer s H E0).nox ((p, .lst vs) :: A) Γ' σ' (.Subscript (.Name "spring" pos) (.Constant (.int i) kk p2) pos) (RV x) := fun {vs Γ' σ' pos p2 kk} i x hσ hx =>
    e_at (e_v 0 hσ) e_int (s_own (List.mem_cons_self ..)).s (fun ws G _ e => ⟨x, by cases (show ws = vs from e); exact atI_nat hx, rfl⟩)
  refine b_when (t_gt (i := a) (j := 0) (e_at (e_v 0) e_int (s_own (List.mem_cons_self ..)).s (fun ws G _ e => ⟨_, by cases (show ws = _ from e); rfl, rfl⟩)) e_int) (fun e => ?_) (fun e => ?_)
  · refine b_setV 3 (w := .int (a % m)) (e_mod (e_intI (i := a) T.int (e_at (e_v 0) e_int (s_own (List.mem_cons_self ..)).s (fun ws G _ e => ⟨_, by cases (show ws = _ from e); rfl, rfl⟩))) (e_v 1) (by omega)) ?_
    refine b_lput [] (k := 0) (e_fdiv (i := a) (j := m) (e_at (e_v 0) e_int (s_own (List.mem_cons_self ..)).s (fun ws G _ e => ⟨_, by cases (show ws = _ from e); rfl, rfl⟩)) (e_v 1) ⟨by omega, by omega⟩) (e_v 0) e_int (by show 0 < 3; decide) fun v => ?_
    refine B3.fact (fun G h => h.2) fun ev => ?_
    subst ev
    have hm0 : 0 ≤ a % (m : Int) := Int.emod_nonneg _ (by omega)
    have hm1 : a % (m : Int) < m := Int.emod_lt_of_pos _ (by omega)
    refine b_retM hq (⟨p, a / m, b, c⟩, (a % (m : Int)).toNat) rfl (e_v 3) (fun v G h => ?_) (fun G h => h.1)
    have hv : v = .int (a % m) := h.2
    exact ⟨by rw [hv]; show V.int _ = V.int _; congr 1; omega, by dsimp only; omega, rfl, ⟨Int.ediv_nonneg h1 (by omega), h2, h3⟩, Nat.le_succ _⟩
  · refine b_lput [] (k := 2) (e_add (i := c) (j := 1) (e_at (e_v 0) e_int (s_own (List.mem_cons_self ..)).s (fun ws G _ e => ⟨_, by cases (show ws = _ from e); rfl, rfl⟩)) e_int) (e_v 0) e_int (by show 2 < 3; decide) fun v => ?_
    refine B3.fact (fun G h => h.2) fun ev => ?_
    subst ev
    refine b_set 2 (R := fun v => pEx fun i : Int => pP (v = .int i ∧ 0 ≤ i ∧ i < 2147483647)) (E3.imp (e_mod (j := 2147483647) (e_pow (j := 3) (e_intI T.int (e_add (i := b + 6364137 * ((c : Int) + 1)) (e_add (i := b) (e_at (e_v 0) e_int (s_own (List.mem_cons_self ..)).s (fun ws G _ e => ⟨_, by cases (show ws = _ from e); rfl, rfl⟩)) (e_mul (j := (c : Int) + 1) e_int (e_at (e_v 0) e_int (s_own (List.mem_cons_self ..)).s (fun ws G _ e => ⟨_, by cases (show ws = _ from e); rfl, rfl⟩)) (.inl (by decide)))) e_int)) e_int ⟨by decide, by decide, by omega⟩) e_int) fun v G h => ?_) fun v3 => ?_
    · exact ⟨_, h.2, Int.emod_nonneg _ (by decide), Int.emod_lt_of_pos _ (by decide)⟩
    · refine B3.ex fun i => B3.fact (fun G h => h.2) fun ⟨ei, i0, i1⟩ => ?_
      subst ei
      have hmod : ∀ x : Int, 0 ≤ x % (m : Int) ∧ x % (m : Int) < m := fun x => ⟨Int.emod_nonneg _ (by omega), Int.emod_lt_of_pos _ (by omega)⟩
      obtain ⟨z0, z1⟩ := hmod ((i * 48271 + 11 * ((c : Int) + 1)) ^ (3 : Int).toNat % 2147483629 / 8)
      refine b_retM hq (⟨p, a, b, c + 1⟩, ((i * 48271 + 11 * ((c : Int) + 1)) ^ (3 : Int).toNat % 2147483629 / 8 % (m : Int)).toNat) rfl (e_mod (e_fdiv (j := 8) (e_mod (j := 2147483629) (e_pow (j := 3) (e_intI T.int (e_add (i := i * 48271) (j := 11 * ((c : Int) + 1)) (e_mul (e_v 2) e_int (.inr (by decide))) (e_mul (j := (c : Int) + 1) e_int (e_at (e_v 0) e_int (s_own (List.mem_cons_self ..)).s (fun ws G _ e => ⟨_, by cases (show ws = _ from e); rfl, rfl⟩)) (.inl (by decide))))) e_int ⟨by decide, by decide, by omega⟩) e_int) e_int) (e_v 1) (by omega)) (fun v G h => ?_) (fun G h => h.1.1)
      have hv : v = .int ((i * 48271 + 11 * ((c : Int) + 1)) ^ (3 : Int).toNat % 2147483629 / 8 % (m : Int)) := h.2
      exact ⟨by rw [hv]; show V.int _ = V.int _; congr 1; omega, by dsimp only; omega, rfl, ⟨h1, h2, h3⟩, Nat.le_refl _⟩
theorem ok_law_spring (T : Tx K mg) (S : Ats K mg) : Fd P w K mg base "_law_spring" 1 (spN (fun (d : {d : List Int × Nat // d.1.length ≤ 63 ∧ d.2 < 3}) => Pm.PC (RQ K (d.1.1.map V.int)) (Pm.PC (RI d.1.2) PN)) (fun d o => pEx fun a : Int => pEx fun b : Int => pP (o = .lst [.int a, .int b, .int 0] ∧ 0 ≤ a ∧ 0 ≤ b ∧ b < 2147483648))) := by
  obtain ⟨f, fd, F, gm⟩ := S.d_law_spring
  refine fd_mkN F gm c_law_spring (fun _ _ _ _ _ _ us hl => match us, hl with | [_, _], _ => rfl) (fun d vs G h => len2 h) fun cdv Ar outer s H vs ⟨⟨ns, t⟩, h1, h2⟩ A G0 D hr hq hn => in2 fun v1 v2 => ?_
  have nd := c_law_spring.nd
  dsimp only at h1 h2
  refine B3.v (fun G h => h.2) fun e2 => ?_
  dsimp only at e2
  subst e2
  have hlen : ∀ {Γ' : Pr} {A' : Own} {σ' : L2.St} {pos p2 p3 : Pos}, σ'[0]? = some (some v1) → Γ'.le (RQ K (ns.map V.int) v1) → E3 (cxOf CX0 P w K mg base n_law_spring (Str.ofString "_law_spring") (defScope s_law_spring) f cdv Ar outer s H E0).nox A' Γ' σ' (.Call (.Name "len" p2) [.Name "script" p3] [] pos) (RI ns.length) := fun hσ hΓ => e_len T.len (e_var 0 hΓ hσ) s_q.s (fun vs G _ e => by rw [show vs = _ from e, List.length_map])
  refine b_parEE 2 3 (Ra := fun v => pEx fun i : Int => pP (v = .int i)) (Rb := RI (1009 + 97 * (t : Int))) (e_if (t := decide ((t : Int) < ns.length)) (t_lt (e_v 1) (hlen rfl (fun G h => h.1.2))) (fun e => ?_) (fun e => ?_)) (e_add e_int (e_mul e_int (e_v 1) (.inl (by decide)))) fun v3 v4 => ?_
  · have ht : t < ns.length := by have := of_decide_eq_true e; omega
    exact e_at (e_x 0 (R := RQ K (ns.map V.int)) (h := fun G h => h.1.2)) (e_v 1) s_q.s (fun vs G _ e => ⟨.int ns[t], by rw [show vs = _ from e]; exact atI_nat (by rw [List.getElem?_map, List.getElem?_eq_getElem ht]; rfl), _, rfl⟩)
  · exact E3.imp (e_add (e_mul e_int (e_v 1) (.inl (by decide))) (hlen rfl (fun G h => h.1.2))) fun v G h => ⟨_, h.2⟩
  refine B3.fact (fun G h => h.2) fun e4 => B3.fact (p := ∃ i : Int, v3 = .int i) (fun G h => h.1.2) fun ⟨cell, e3⟩ => ?_
  subst e3 e4
  refine B3.pre (Δ := pAnd (pSame G0) (RQ K (ns.map V.int) v1)) ?_ fun G h => h.1.1.1
  refine b_for (δ := Int × Option V × Option V) (sd := fun d => [some v1, some (.int t), some (.int cell), some (.int d.1), d.2.1, d.2.2]) (Ad := fun d => A) (Γd := fun _ => pAnd (pSame G0) (RQ K (ns.map V.int) v1)) (rel := fun i d => 0 ≤ d.1 ∧ d.1 < 2147483648) (i_enumL (P := fun i : Int => RI i) (xs := ns) T.enumerate (E3.imp (f_slice (l := none) (h := some ((63 : Nat) : Int)) (P := fun vs => pP (vs = ns.map V.int)) (e_x 0 (R := RQ K (ns.map V.int)) (h := by exact fun G h => h.2)) s_q po_none (po_some (evPE _)) (fun H Q ok g k => k _ (Ext.refl ok)) (fun H Q ok g k => e_int H _ ok g fun v H' x r => ⟨(63 : Nat), r, k _ x⟩)).v fun v G h => ?_)) (tg_pair 4 5) (1009 + 97 * (t : Int), none, none) ⟨⟨by dsimp only; omega, by dsimp only; omega⟩, rfl, rfl⟩ (fun G h => h) (fun Gd i z d w' hz hr2 => ?_) (fun d hr2 => ?_)
  · obtain ⟨_, p, o, e1, ho, vs, eo, ev⟩ := h
    have ev : vs = ns.map V.int := ev
    have eo : o = .lst (cutV vs none (some ((63 : Nat) : Int))) := eo
    rw [cut_to, ev, ← List.map_take, List.take_of_length_le h1] at eo
    subst eo
    exact ⟨p, _, e1, ho, pAll_of (f := V.int)⟩
  · obtain ⟨mix, sa, sb⟩ := d
    obtain ⟨m0, m1⟩ := hr2
    dsimp only at m0 m1
    refine B3.v (v := w'.1) (w := .int z.1) (fun G h => h.2.1) fun ew => ?_
    refine B3.v (v := w'.2) (w := .int z.2) (fun G h => h.2.2) fun ew2 => ?_
    obtain ⟨w1, w2⟩ := w'
    dsimp only at ew ew2
    subst ew ew2
    refine b_setV 3 (w := .int ((mix * 69069 + z.2 + 5 * (z.1 : Int) + 1) % 2147483629)) (e_mod (e_intI T.int (e_add (e_add (e_add (e_mul (e_v 3) e_int (.inr (by decide))) (e_v 5)) (e_mul e_int (e_v 4) (.inl (by decide)))) e_int)) e_int) ?_
    exact b_fin rfl ((mix * 69069 + z.2 + 5 * (z.1 : Int) + 1) % 2147483629, some (.int z.1), some (.int z.2)) ⟨Int.emod_nonneg _ (by decide), Int.lt_trans (Int.emod_lt_of_pos _ (by decide)) (by decide)⟩ rfl rfl fun G h => h.1
  · obtain ⟨mix, sa, sb⟩ := d
    obtain ⟨m0, m1⟩ := hr2
    dsimp only at m0 m1 ⊢
    refine b_retN (Rr := fun o => pEx fun vs => pAnd (pP (o = .lst vs)) (pP (vs = [V.int (if cell ≥ 10 ^ (18 : Int).toNat then cell else 0), V.int ((mix + cell * 31) % 2147483647), V.int 0]))) hq (f_lst (av_cons (e_if (t := decide (cell ≥ 10 ^ (18 : Int).toNat)) (t_ge (e_v 2) (e_pow e_int e_int ⟨by decide, by decide, by decide⟩)) (fun e => by rw [if_pos (of_decide_eq_true e)]; exact e_v 2) (fun e => by rw [if_neg (of_decide_eq_false e)]; exact e_int)) (av_cons (e_mod (e_intI T.int (e_add (e_v 3) (e_mul (e_v 2) e_int (.inr (by decide))))) e_int) (av_cons e_int av_nil))) (fun vs G e => by rw [show vs = _ from e]; show 3 ≤ 1000; decide)) (fun G h => h.1) fun o G ⟨vs, eo, ev⟩ => ?_
    refine ⟨_, _, by rw [show o = .lst vs from eo, show vs = _ from ev], ?_, Int.emod_nonneg _ (by decide), Int.lt_trans (Int.emod_lt_of_pos _ (by decide)) (by decide)⟩
    split
    · rename_i h
      exact Int.le_trans (by decide) h
    · exact Int.le_refl _
end
end L97
/-! C97v -/
set_option maxHeartbeats 2000000
namespace L97
open PySem PySem.Spec L2 Pm
theorem erase_perm {α : Type} : ∀ {l : List α} {k : Nat} {x : α}, l[k]? = some x → (x :: l.eraseIdx k).Perm l
  | [], k, x, h => by simp at h
  | a :: l, 0, x, h => by
    simp at h
    subst h
    exact List.Perm.refl _
  | a :: l, k + 1, x, h => by
    have h : l[k]? = some x := by simpa using h
    exact (List.Perm.swap a x _).trans ((erase_perm h).cons a)
theorem map_erase {α β : Type} (f : α → β) : ∀ (l : List α) (k : Nat), (l.eraseIdx k).map f = (l.map f).eraseIdx k
  | [], k => rfl
  | a :: l, 0 => rfl
  | a :: l, k + 1 => congrArg (f a :: ·) (map_erase f l k)
structure MxS where
  sp : Spr
  rest : List (Cl × V)
structure MxR (s0 : Spr) (all : List (Cl × V)) (i : Nat) (s : MxS) (ys : List (Cl × V)) : Prop where
  ok : s.sp.Ok
  p : s.sp.p = s0.p
  c : s.sp.c ≤ s0.c + i
  perm : (ys ++ s.rest).Perm all
  len : ys.length = i
section
variable {P : Program} {w : World} {K : PySem.W.Frag} {mg : Str → Option Value} {base : Heap}
theorem ok_law_mixed (T : Tx K mg) (S : Ats K mg) : Fd P w K mg base "_law_mixed" 2 (spM (fun d : {d : Spr × List Cl // d.1.Ok ∧ d.2.length < 500 ∧ d.1.c + d.2.length < 1000000} => d.1.1.own) (fun r : Spr × List Cl => r.1.own) (fun d vs => Pm.PC (RV (.ref d.1.1.p)) (Pm.PC (RCs d.1.2) PN) vs) (fun d r v => pAnd (pP (r.2.Perm d.1.2 ∧ r.1.p = d.1.1.p ∧ r.1.Ok ∧ r.1.c ≤ d.1.1.c + d.1.2.length)) (RCs r.2 v))) := by
  obtain ⟨f, fd, F, gm⟩ := S.d_law_mixed
  refine fd_mkM F gm c_law_mixed (fun _ _ _ _ _ _ us hl => match us, hl with | [_, _], _ => rfl) (fun d vs G h => len2 h) fun cdv Ar outer s H vs ⟨⟨sp, cs⟩, h1, h2, h3⟩ A G0 D hr hq hn => in2 fun v1 v2 => ?_
  have nd := c_law_mixed.nd
  dsimp only at h1 h2 h3
  refine B3.v (fun G h => h.1.2) fun e1 => ?_
  dsimp only at e1
  subst e1
  refine b_setL 2 (P := RCl) (xs := cs) (f_listL T.list (e_x 1 (R := RCs cs) (h := fun G h => h.2))) fun q vs0 => ?_
  refine B3.fact (fun G h => pAll_len h.2) fun hl0 => ?_
  have hzip : ∀ {js : List (Cl × V)} {c : Cl} {v : V}, (c, v) ∈ cs.zip vs0 → ∀ G, (pAll RCl cs vs0).holds G → (RCl c v).holds G := fun {js c v} hm G h => by
    obtain ⟨i, hi⟩ := List.mem_iff_getElem?.mp hm
    obtain ⟨a, b⟩ := List.getElem?_zip_eq_some.mp hi
    exact pAll_at h a b
  refine B3.pre (Δ := pAnd (pSame G0) (pAll RCl cs vs0)) ?_ fun G h => ⟨h.1.1.1, h.2⟩
  refine b_retM3 (ρ := MxS × List (Cl × V)) (g := fun r => (r.1.sp, r.2.map (·.1))) (Bx := fun r => [(q, .lst (r.1.rest.map (·.2)))]) hq (m_lc (own := [("k", 3)]) (zs := List.range cs.length) (fun s : MxS => (q, .lst (s.rest.map (·.2))) :: (s.sp.own ++ A)) (fun i s ys => MxR sp (cs.zip vs0) i s ys) (fun y : Cl × V => fun u => pAnd (pP (u = y.2)) (RCl y.1 u)) ⟨sp, cs.zip vs0⟩ ⟨h1, rfl, Nat.le_refl _, by simp, rfl⟩ (by dsimp only; rw [List.map_snd_zip (by omega)]) (i_rangeN (m := cs.length) T.range (E3.imp (e_lenO T.len (e_v 2) (List.mem_cons_self ..)) fun v G z => by rw [hl0]; exact z.2) (by omega)) (tc_name (Rz := fun k : Nat => RI k) 3) (blkOk_by (by kernel_rfl)) (fun Gd q2 i z w s ys hz hr2 s2 H2 C2 cl2 fp2 => ?_) (by rw [List.length_range, sizeLine_eq]; omega)) (fun r => rfl) (fun G h => h.1) (fun r v G h => ?_)
  · have hi := get_lt hz
    rw [List.length_range] at hi
    have hpl := hr2.perm.length_eq
    rw [List.length_append, hr2.len, List.length_zip, ← hl0, Nat.min_self] at hpl
    have hrest : s.rest.length = cs.length - i := by omega
    have hc0 := hr2.c
    refine M3.map (ρ := Spr × Nat) (ρ' := MxS × (Cl × V)) (g := fun r => (⟨r.1, s.rest.eraseIdx r.2⟩, s.rest.getD r.2 ([], .non))) (m_popAt (C := fun r : Spr × Nat => r.2 < s.rest.length ∧ r.1.p = s.sp.p ∧ r.1.Ok ∧ r.1.c ≤ s.sp.c + 1) (ix := fun r : Spr × Nat => r.2) (fun _ => [q2]) (fun r : Spr × Nat => r.1.own ++ A) (p := q) (vs := s.rest.map (·.2)) (e_v 2) (M3.imp (m_callB (ok_law_draw T S) hr ⟨(s.sp, s.rest.length), hr2.ok, by dsimp only; omega, by dsimp only; omega, by dsimp only; omega⟩ [q2, (q, .lst (s.rest.map (·.2)))] A rfl (a_cons (e_var 0 (R := RV (.ref s.sp.p)) (fun G h => by show V.ref sp.p = V.ref s.sp.p; rw [hr2.p])) (a_cons (E3.imp (e_lenO T.len (e_v 2) (List.mem_cons_of_mem _ (List.mem_cons_self ..))) fun v G z => (by have z2 := z.2; rw [List.length_map] at z2; exact z2)) a_nil))) fun r v G h => ?_) (fun r => rfl) (List.mem_cons_of_mem _ (List.mem_cons_self ..)) (by rw [List.length_map]; omega)) (fun r v G h => ?_) (fun r v G h => ?_)
    · obtain ⟨ev, e1, e2, e3, e4⟩ := h.2
      exact ⟨ev, by rw [List.length_map]; exact e1, e1, e2, e3, e4⟩
    · dsimp only
      rw [map_erase]
      rfl
    · obtain ⟨ev, e1, e2, e3, e4⟩ := h.2
      have hx := List.getElem?_eq_getElem e1
      generalize s.rest[r.2] = x at hx
      have hgd : s.rest.getD r.2 ([], .non) = x := by rw [List.getD_eq_getElem?_getD, hx]; rfl
      rw [List.getElem?_map, hx] at ev
      have ev : x.2 = v := Option.some.inj ev
      have hpe := erase_perm hx
      have hp2 : ((ys ++ [x]) ++ s.rest.eraseIdx r.2).Perm (cs.zip vs0) := by
        rw [List.append_assoc]
        exact (List.Perm.append_left ys hpe).trans hr2.perm
      refine ⟨⟨e3, by rw [← hr2.p]; exact e2, by dsimp only; omega, by dsimp only; rw [hgd]; exact hp2, by rw [List.length_append, hr2.len]; rfl⟩, by dsimp only; rw [hgd]; exact ev.symm, ?_⟩
      dsimp only
      rw [hgd, ← ev]
      have hmem : x ∈ cs.zip vs0 := hp2.mem_iff.mp (List.mem_append_left _ (List.mem_append_right _ (List.mem_singleton.mpr rfl)))
      exact hzip (js := []) hmem _ h.1.1.1.2
  · obtain ⟨ho, hg, hm, hrl⟩ := h
    have hlen := hm.perm.length_eq
    rw [List.length_append, hm.len, List.length_range, List.length_zip, ← hl0, Nat.min_self] at hlen
    have hnil : r.1.rest = [] := List.length_eq_zero_iff.mp (by omega)
    have hp3 := hm.perm
    rw [hnil, List.append_nil] at hp3
    refine ⟨⟨?_, hm.p, hm.ok, by have := hm.c; rw [List.length_range] at this; exact this⟩, ?_⟩
    · have := hp3.map (·.1)
      rw [List.map_fst_zip (by omega)] at this
      exact this
    · obtain ⟨a, vs, e, ha, hall⟩ := hrl
      refine ⟨a, vs, e, ha, ?_⟩
      have : ∀ {ys : List (Cl × V)} {vs : List V}, (pAll (fun y : Cl × V => fun u => pAnd (pP (u = y.2)) (RCl y.1 u)) ys vs).holds G → (pAll RCl (ys.map (·.1)) vs).holds G := by
        intro ys
        induction ys with
        | nil => intro vs h; cases vs with
          | nil => trivial
          | cons _ _ => exact h.elim
        | cons y ys ih => intro vs h; cases vs with
          | nil => exact h.elim
          | cons v vs => exact ⟨h.1.2, ih h.2⟩
      exact this hall
end
end L97
/-! C97w -/
set_option maxHeartbeats 2000000
namespace L97
open PySem PySem.Spec L2 Pm
def twin (l : Str) (w : Wd) : List Wd := [w ++ [(l, false)], w ++ [(l, true)]]
def tW (ls : List Str) : List Wd := ls.foldl (fun found l => found.flatMap (twin l)) [[]]
theorem tW_snoc (ls : List Str) (l : Str) : tW (ls ++ [l]) = (tW ls).flatMap (twin l) := by unfold tW; rw [List.foldl_append]; rfl
theorem flatMap_len {α β : Type} (f : α → List β) (n : Nat) (h : ∀ a, (f a).length = n) : ∀ l : List α, (l.flatMap f).length = l.length * n
  | [] => by simp
  | a :: l => by rw [List.flatMap_cons, List.length_append, h, flatMap_len f n h l, List.length_cons, Nat.succ_mul, Nat.add_comm]
theorem tW_len (ls : List Str) : ∀ n ≤ ls.length, (tW (ls.take n)).length = 2 ^ n
  | 0, _ => rfl
  | n + 1, h => by
    rw [take_snoc (List.getElem?_eq_getElem (by omega : n < ls.length)), tW_snoc, flatMap_len _ 2 (fun _ => rfl), tW_len ls n (by omega), Nat.pow_succ]
theorem tW_keys (ls : List Str) : ∀ n ≤ ls.length, ∀ w ∈ tW (ls.take n), keysD w = ls.take n
  | 0, _, w, h => by
    have h : w ∈ [[]] := h
    cases List.mem_singleton.mp h
    rfl
  | n + 1, h, w, hw => by
    rw [take_snoc (List.getElem?_eq_getElem (by omega : n < ls.length)), tW_snoc] at hw
    obtain ⟨u, h1, h2⟩ := List.mem_flatMap.mp hw
    have := tW_keys ls n (by omega) u h1
    rw [take_snoc (List.getElem?_eq_getElem (by omega : n < ls.length)), ← this]
    rcases List.mem_cons.mp h2 with e | h2
    · subst e; unfold keysD; rw [List.map_append]; rfl
    · cases List.mem_singleton.mp h2
      unfold keysD; rw [List.map_append]; rfl
theorem puts_id : ∀ {l d : Wd}, (keysD d ++ keysD l).Nodup → putsD (·.1) (·.2) d l = d ++ l
  | [], d, _ => by simp [putsD]
  | p :: l, d, h => by
    have hp : p.1 ∉ keysD d := fun hm => (List.nodup_append.mp h).2.2 _ hm _ (List.mem_cons_self ..) rfl
    have e : putsD (·.1) (·.2) d (p :: l) = putsD (·.1) (·.2) (putD d p.1 p.2) l := rfl
    rw [e, putD_out hp]
    rw [puts_id (l := l) (d := d ++ [(p.1, p.2)]) (by unfold keysD at h ⊢; rw [List.map_append, List.append_assoc]; exact h), List.append_assoc]
    rfl
section
variable {P : Program} {w : World} {K : PySem.W.Frag} {mg : Str → Option Value} {base : Heap}
theorem ok_law_t_worlds (T : Tx K mg) (S : Ats K mg) : Fd P w K mg base "_law_t_worlds" 1 (spF (fun (d : {d : List Str // d.Nodup ∧ d.length ≤ 12}) => Pm.PC (RL RS d.1) PN) fun d => RL RW (tW d.1)) := by
  obtain ⟨f, fd, F, gm⟩ := S.d_law_t_worlds
  refine fd_mk F gm c_law_t_worlds (fun _ _ _ _ _ _ us hl => match us, hl with | [_], _ => rfl) (fun d vs G h => len1 h) fun cdv Ar outer s H vs ⟨ls, h1, h2⟩ A G0 D hr hq hn => in1 fun v1 => ?_
  have nd := c_law_t_worlds.nd
  refine b_set 1 (R := RL RW [[]]) (F3.rl (f_one (T := RW) (x := []) (F3.rd f_dnew))) fun v2 => ?_
  refine b_for (δ := Nat × V × Option V × Option V × Option V) (sd := fun d => [some v1, some d.2.1, d.2.2.1, d.2.2.2.1, d.2.2.2.2, none]) (Ad := fun d => A) (Γd := fun d => pAnd (pAnd (pSame G0) (RL RS ls v1)) (RL RW (tW (ls.take d.1)) d.2.1)) (rel := fun i d => d.1 = i) (i_list (P := RS) (xs := ls) (e_x 0)) (tg_name 2) (0, v2, none, none, none) ⟨rfl, rfl, rfl⟩ (fun G h => h) (fun Gd i l d w' hz hr2 => ?_) (fun d hr2 => ?_)
  · obtain ⟨i', vf, sa, sb, sc⟩ := d
    cases hr2
    have hi := get_lt hz
    have hlen := tW_len ls i' (by omega)
    have hp : 2 ^ i' ≤ 2 ^ 11 := Nat.pow_le_pow_right (by decide) (by omega)
    dsimp only
    refine b_set 3 (R := RL RW []) (F3.rl f_nil) fun v3 => ?_
    refine b_for (δ := Nat × V × Option V) (sd := fun d => [some v1, some vf, some w', some d.2.1, d.2.2, none]) (Ad := fun d => A) (Γd := fun d => pAnd (pAnd (pAnd (pAnd (pAnd (pSame G0) (RL RS ls v1)) (RL RW (tW (ls.take i')) vf)) Gd) (RS l w')) (RL RW (((tW (ls.take i')).take d.1).flatMap (twin l)) d.2.1)) (rel := fun j d => d.1 = j) (i_list (P := RW) (xs := tW (ls.take i')) (e_x 1)) (tg_name 4) (0, v3, sc) ⟨rfl, rfl, rfl⟩ (fun G h => h) (fun Gd2 j u d2 w2 hz2 hr3 => ?_) (fun d2 hr3 => ?_)
    · obtain ⟨j', vm, sd⟩ := d2
      cases hr3
      have hj := get_lt hz2
      dsimp only
      have hmem : u ∈ tW (ls.take i') := List.mem_of_getElem? hz2
      have hk := tW_keys ls i' (by omega) u hmem
      have hnd : (ls.take (i' + 1)).Nodup := List.Nodup.sublist (List.take_sublist ..) h1
      rw [take_snoc hz] at hnd
      have hd1 : ∀ b : Bool, (keysD ([] : Wd) ++ keysD (u ++ [(l, b)])).Nodup := fun b => by
        show (keysD (u ++ [(l, b)])).Nodup
        unfold keysD at hk ⊢
        rw [List.map_append, hk]
        exact hnd
      have hcut : ((tW (ls.take i')).take (j' + 1)).flatMap (twin l) = ((tW (ls.take i')).take j').flatMap (twin l) ++ ([false, true] : List Bool).map (fun b => u ++ [(l, b)]) := by
        rw [take_snoc hz2, List.flatMap_append]
        rfl
      have hmore : (((tW (ls.take i')).take j').flatMap (twin l)).length ≤ 2 ^ 12 := by
        rw [flatMap_len _ 2 (fun _ => rfl), List.length_take]
        omega
      refine b_set 3 (R := RL RW (((tW (ls.take i')).take (j' + 1)).flatMap (twin l))) (by
        rw [hcut]
        refine F3.rl (f_cat (e_x 3 (R := RL RW (((tW (ls.take i')).take j').flatMap (twin l))) (h := by exact fun G h => h.1.1.2)) (F3.rl (f_lc (own := [("bit", 5)]) (fun b : Bool => u ++ [(l, b)]) RW (i_list (P := RB) (xs := [false, true]) (F3.rl (f_two (T := RB) e_bl e_bl))) (tc_name 5) (blkOk_by (N := n_law_t_worlds) (sc := defScope s_law_t_worlds) (by decide +kernel)) (fun Gd3 q3 b w3 hm3 s2 H2 C2 cl2 fp2 => ?_) (by rw [sizeLine_eq]; decide))) (by rw [List.length_map, sizeLine_eq]; simp only [List.length_cons, List.length_nil]; omega))
        have hu : u.length ≤ 12 := by
          have := congrArg List.length hk
          unfold keysD at this
          rw [List.length_map, List.length_take] at this
          omega
        refine (F3.rd (f_dictP (f := V.bl) (l := u ++ [(l, b)]) T.dict (F3.rl (f_cat (xs := u) (ys := [(l, b)]) (e_items (f := V.bl) (d := u) T.list (e_x 4 (R := RW u) (h := by exact fun G h => h.1.1.2)) sd_rd) (F3.rl (f_one (T := RT2 RS (fun b => RV (V.bl b))) (x := (l, b)) (e_tup2 (R1 := RS) (R2 := fun b => RV (V.bl b)) (x := l) (y := b) (e_x 2 (R := RS l) (h := by exact fun G h => h.1.1.1.1.1.2)) (e_x 5 (R := RB b) (h := by exact fun G h => h.2))))) (by rw [sizeLine_eq]; simp only [List.length_cons, List.length_nil]; omega))))).imp fun v G h => ?_
        have h := h.2
        rw [puts_id (hd1 b)] at h
        exact h) fun v => ?_
      exact b_fin rfl (j' + 1, v, some w2) rfl rfl rfl fun G h => ⟨⟨h.1.1.1.1, h.2⟩, h.1.1.2⟩
    · obtain ⟨j', vm, sd⟩ := d2
      cases hr3
      dsimp only
      refine b_set 1 (R := RL RW (tW (ls.take (i' + 1)))) (e_x 3 (h := by
        intro G h
        have z := h.2
        rw [List.take_length] at z
        rw [take_snoc hz, tW_snoc]
        exact z)) fun v => ?_
      exact b_fin rfl (i' + 1, v, some w', some vm, sd) rfl rfl rfl fun G h => ⟨⟨h.1.1.1.1.1, h.2⟩, h.1.1.1.2⟩
  · obtain ⟨i', vf, sa, sb, sc⟩ := d
    cases hr2
    refine b_rt hq (e_x 1 (R := RL RW (tW (ls.take ls.length))) (h := by exact fun G h => h.2)) (by intro v G h; have z := h.2; rw [List.take_length] at z; exact z)
end
end L97
/-! C97x -/
set_option maxHeartbeats 2000000
namespace L97
open PySem PySem.Spec L2 Pm
section
variable {P : Program} {w : World} {K : PySem.W.Frag} {mg : Str → Option Value} {base : Heap}
theorem ok_law_l_hold (T : Tx K mg) (S : Ats K mg) : Fd P w K mg base "_law_l_hold" 1 (spF (fun (d : {d : List Cl × Wd // d.1.length ≤ 1000 ∧ (∀ c ∈ d.1, c.length ≤ 1000) ∧ ∀ c ∈ d.1, ∀ l ∈ c, l.1 ∈ keysD d.2}) => Pm.PC (RCs d.1.1) (Pm.PC (RW d.1.2) PN)) fun d => RB (holdsAll d.1.1 d.1.2)) := by
  obtain ⟨f, fd, F, gm⟩ := S.d_law_l_hold
  refine fd_mk F gm c_law_l_hold (fun _ _ _ _ _ _ us hl => match us, hl with | [_, _], _ => rfl) (fun d vs G h => len2 h) fun cdv Ar outer s H vs ⟨⟨cs, wd⟩, h1, h2, h3⟩ A G0 D hr hq hn => in2 fun v1 v2 => ?_
  have nd := c_law_l_hold.nd
  dsimp only at h1 h2 h3
  have hu := hu_of hr
  refine b_rt hq (e_all (bs := cs.map fun c => holdsC c wd) T.all (F3.rl (f_lc (own := [("clause", 2)]) (fun c => holdsC c wd) RB (i_list (P := RCl) (xs := cs) (e_x 0 (R := RCs cs))) (tc_name 2) (blkOk_by (N := n_law_l_hold) (sc := defScope s_law_l_hold) (by decide +kernel)) (fun Gd0 q0 c w0 hc s0 H0 C0 cl0 fp0 => ?_) (Nat.lt_of_le_of_lt h1 (by decide))))) (by intro v G z; have z2 := z.2; rw [List.all_map] at z2; exact z2)
  refine E3.imp (e_any (bs := c.map fun l => decide (getD wd l.1 = some l.2)) T.any (F3.rl (f_lc (own := [("letter", 3), ("truth", 4)]) (fun l : Lit => decide (getD wd l.1 = some l.2)) RB (i_list (P := RLit) (xs := c) (e_x 2 (R := RCl c) (h := by exact fun G h => h.2))) (tc_two (R1 := RS) (R2 := RB) 3 4 (hN := nd)) (blkOk_by (by kernel_rfl)) (fun Gd q l ww hm s H C cl fp => ?_) (Nat.lt_of_le_of_lt (h2 c hc) (by decide)) (hN := nd)))) (fun v G z => by have z2 := z.2; rw [List.any_map] at z2; exact z2)
  obtain ⟨b, hb⟩ : ∃ b, getD wd l.1 = some b := by
    have := h3 c hc l hm
    cases e : getD wd l.1 with
    | none => exact absurd this (get_none.mp e)
    | some b => exact ⟨b, rfl⟩
  refine E3.imp (e_eq (x := .bl b) (y := .bl l.2) (e_dgetK (ι := kS) (f := V.bl) (d := wd) (k := l.1) inr_inj hu (e_x 1) (e_x 3) hb) (e_x 4)) fun v G z => ?_
  have z2 : v = .bl _ := z.2
  rw [z2, hb]
  show V.bl _ = V.bl _
  congr 1
  simp
theorem ok_law_l_worlds (T : Tx K mg) (S : Ats K mg) : Fd P w K mg base "_law_l_worlds" 2 (spF (fun (d : {d : List Cl × List Str // d.2.Nodup ∧ d.2.length ≤ 12 ∧ d.1.length ≤ 1000 ∧ (∀ c ∈ d.1, c.length ≤ 1000) ∧ ∀ c ∈ d.1, ∀ l ∈ c, l.1 ∈ d.2}) => Pm.PC (RCs d.1.1) (Pm.PC (RL RS d.1.2) PN)) fun d => RL RW ((tW d.1.2).filter (holdsAll d.1.1))) := by
  obtain ⟨f, fd, F, gm⟩ := S.d_law_l_worlds
  refine fd_mk F gm c_law_l_worlds (fun _ _ _ _ _ _ us hl => match us, hl with | [_, _], _ => rfl) (fun d vs G h => len2 h) fun cdv Ar outer s H vs ⟨⟨cs, ls⟩, h1, h2, h3, h4, h5⟩ A G0 D hr hq hn => in2 fun v1 v2 => ?_
  have nd := c_law_l_worlds.nd
  dsimp only at h1 h2 h3 h4 h5
  have hl := tW_len ls ls.length (Nat.le_refl _)
  rw [List.take_length] at hl
  have hpow : 2 ^ ls.length ≤ 2 ^ 12 := Nat.pow_le_pow_right (by decide) h2
  refine b_rt hq (F3.rl (f_lcF (own := [("world", 2)]) (holdsAll cs) (fun w : Wd => w) RW (i_list (P := RW) (xs := tW ls) (e_c (ok_law_t_worlds T S) hr ⟨ls, h1, h2⟩ (a_cons (e_x 1 (R := RL RS ls)) a_nil))) (tc_name 2) (blkOk_by (N := n_law_l_worlds) (sc := defScope s_law_l_worlds) (by decide +kernel)) (fun Gd q z w hm s H C cl fp => t_of (e_c (ok_law_l_hold T S) hr ⟨(cs, z), h3, h4, fun c hc l hl2 => by
    have := tW_keys ls ls.length (Nat.le_refl _) z (by rw [List.take_length]; exact hm)
    rw [List.take_length] at this
    show l.1 ∈ keysD z
    rw [this]
    exact h5 c hc l hl2⟩ (a_cons (e_x 0 (R := RCs cs) (h := by exact fun G h => h.1.1.1.2)) (a_cons (e_x 2 (R := RW z) (h := by exact fun G h => h.2)) a_nil)))) (fun Gd q z w hm _ s H C cl fp => e_x 2 (R := RW z) (h := fun G h => h.2)) (by rw [hl, sizeLine_eq]; omega))) (by intro v G z; have z2 := z.2; rw [List.map_id'] at z2; exact z2)
end
end L97
/-! C97y -/
set_option maxHeartbeats 2000000
namespace L97
open PySem PySem.Spec L2 Pm
abbrev one1V : Unit → V := fun _ => .int 1
def clU (c : Cl) : List (Str × Unit) := c.map fun l => (l.1, ())
def uniC (d : List (Str × Unit)) (c : Cl) : List (Str × Unit) := putsD (·.1) (·.2) d (putsD (·.1) (·.2) [] (clU c))
theorem uni_nodup {d : List (Str × Unit)} {c : Cl} (h : (keysD d).Nodup) : (keysD (uniC d c)).Nodup := by
  unfold uniC
  rw [keys_puts]
  exact nubA_nodup h
theorem uni_mem {d : List (Str × Unit)} {c : Cl} {x : Str} : x ∈ keysD (uniC d c) ↔ x ∈ keysD d ∨ ∃ l ∈ c, l.1 = x := by
  unfold uniC
  rw [keys_puts, mem_nubA]
  refine or_congr Iff.rfl ?_
  have e : (putsD (·.1) (·.2) ([] : List (Str × Unit)) (clU c)).map (·.1) = nubA [] ((clU c).map (·.1)) := keys_puts
  rw [e, mem_nubA]
  unfold clU
  rw [List.map_map]
  simp
structure LtR (cs : List Cl) (i : Nat) (d : List (Str × Unit)) : Prop where
  nd : (keysD d).Nodup
  mem : ∀ x, x ∈ keysD d ↔ ∃ c ∈ cs.take i, ∃ l ∈ c, l.1 = x
theorem LtR.len {cs : List Cl} {i : Nat} {d : List (Str × Unit)} (h : LtR cs i d) : d.length ≤ (lettersW cs).length := by
  have := nodup_len (m := lettersW cs) h.nd fun x hx => by
    obtain ⟨c, hc, l, hl, e⟩ := (h.mem x).mp hx
    exact e ▸ mem_lettersW (List.mem_of_mem_take hc) hl
  unfold keysD at this
  rwa [List.length_map] at this
theorem LtR.out {cs : List Cl} {d : List (Str × Unit)} (h : LtR cs cs.length d) : sortS (keysD d) = lettersW cs := by
  refine up_ext (sortS_lt h.nd) (sortS_lt (nubA_nodup List.nodup_nil)) fun x => ?_
  rw [mem_sortS, h.mem, List.take_length]
  constructor
  · intro ⟨c, hc, l, hl, e⟩
    exact e ▸ mem_lettersW hc hl
  · exact lettersW_mem
section
variable {P : Program} {w : World} {K : PySem.W.Frag} {mg : Str → Option Value} {base : Heap}
theorem ok_law_l_letters (T : Tx K mg) (S : Ats K mg) : Fd P w K mg base "_law_l_letters" 1 (spF (fun (d : {d : List Cl // (lettersW d).length ≤ 63 ∧ ∀ c ∈ d, c.length ≤ 1000}) => Pm.PC (RCs d.1) PN) fun d => RL RS (lettersW d.1)) := by
  obtain ⟨f, fd, F, gm⟩ := S.d_law_l_letters
  refine fd_mk F gm c_law_l_letters (fun _ _ _ _ _ _ us hl => match us, hl with | [_], _ => rfl) (fun d vs G h => len1 h) fun cdv Ar outer s H vs ⟨cs, h1, h2⟩ A G0 D hr hq hn => in1 fun v1 => ?_
  have nd := c_law_l_letters.nd
  refine b_setO 1 f_dnew fun q o => ?_
  refine B3.fact (p := o = .dK []) (fun G h => h.2) fun e => ?_
  subst e
  refine b_for (δ := List (Str × Unit) × Option V) (sd := fun d => [some v1, some (.ref q), d.2, none]) (Ad := fun d => (q, .dK (kvs kS one1V d.1)) :: A) (Γd := fun d => pAnd (pSame G0) (RCs cs v1)) (rel := fun i d => LtR cs i d.1) (i_list (P := RCl) (xs := cs) (e_x 0)) (tg_name 2) ([], none) ⟨⟨List.nodup_nil, fun x => by simp [keysD]⟩, rfl, rfl⟩ (fun G h => ⟨h.1.1, h.1.2⟩) (fun Gd i c d w' hz hr2 => ?_) (fun d hr2 => ?_)
  · obtain ⟨d, sa⟩ := d
    have hc := List.mem_of_getElem? hz
    dsimp only at hr2
    have hn : LtR cs (i + 1) (uniC d c) := ⟨uni_nodup hr2.nd, fun x => by
      rw [uni_mem, hr2.mem, take_snoc hz]
      simp only [List.mem_append, List.mem_singleton]
      constructor
      · rintro (⟨c', a, b⟩ | b)
        · exact ⟨c', .inl a, b⟩
        · exact ⟨c, .inr rfl, b⟩
      · rintro ⟨c', a | a, b⟩
        · exact .inl ⟨c', a, b⟩
        · exact .inr (a ▸ b)⟩
    refine b_dupd [] (ι := kS) (f := one1V) (d := d) (l := putsD (·.1) (·.2) [] (clU c)) inr_inj (e_v 1) (F3.rd (f_dictP (f := one1V) (l := clU c) T.dict (F3.rl (f_lc (own := [("pair", 3)]) (fun l : Lit => (l.1, ())) (RT2 RS (fun b => RV (one1V b))) (i_list (P := RLit) (xs := c) (e_x 2 (R := RCl c))) (tc_name 3) (blkOk_by (N := n_law_l_letters) (sc := defScope s_law_l_letters) (by decide +kernel)) (fun Gd2 q2 l w2 hm s2 H2 C2 cl2 fp2 => e_tup2 (R1 := RS) (R2 := fun b => RV (one1V b)) (x := l.1) (y := ()) (e_fst (R1 := RS) (R2 := RB) (e_x 3 (R := RLit l) (h := by exact fun G h => h.2))) e_int) (Nat.lt_of_le_of_lt (h2 c hc) (by decide)))))) ?_ ?_
    · have a := hr2.len
      have b := puts_len (kf := (·.1)) (vf := (·.2)) (zs := clU c) (d := ([] : List (Str × Unit)))
      have e : (clU c).length = c.length := List.length_map ..
      have h3 := h2 c hc
      rw [e, List.length_nil] at b
      rw [sizeLine_eq]
      omega
    · exact b_fin rfl (uniC d c, some w') hn rfl rfl fun G h => h.1
  · obtain ⟨d, sa⟩ := d
    dsimp only at hr2 ⊢
    have e := hr2.out
    refine b_ret [(q, .dK (kvs kS one1V d))] (F3.rl (f_sortD (ks := keysD d) T.sorted (e_v 1) (sd_own (List.mem_cons_self ..)) (fun ks G _ h => by
      cases (show ks = _ from h)
      exact kvs_keys d) (by have := hr2.len; unfold keysD; rw [List.length_map]; omega))) hq (fun _ z => z.1) fun v G z => ?_
    have z2 := z.2.2
    rw [e] at z2
    exact z2
end
end L97
/-! C97z -/
namespace L97
open PySem PySem.Spec L2 Pm
theorem tW_from : ∀ (ls : List Str) (f : List Wd), ls.foldl (fun found l => found.flatMap (twin l)) f = f.flatMap fun p => (tW ls).map (p ++ ·)
  | [], f => by
    show f = f.flatMap fun p => [p ++ []]
    simp
  | l :: r, f => by
    rw [List.foldl_cons, tW_from r, List.flatMap_assoc]
    have e : tW (l :: r) = (([[]] : List Wd).flatMap (twin l)).flatMap fun p => (tW r).map (p ++ ·) := by
      show r.foldl _ _ = _
      exact tW_from r _
    congr 1
    funext p
    rw [e]
    simp [twin, Function.comp_def]
theorem tW_range : ∀ ls : List Str, tW ls = (List.range (2 ^ ls.length)).map (worldAt ls)
  | [] => rfl
  | l :: r => by
    have e : tW (l :: r) = (tW r).map ((l, false) :: ·) ++ (tW r).map ((l, true) :: ·) := by
      unfold tW
      rw [List.foldl_cons, tW_from r]
      simp [twin, tW]
    rw [e, tW_range r, List.length_cons, Nat.pow_succ, Nat.mul_two, List.range_add, List.map_append, List.map_map, List.map_map, List.map_map]
    congr 1
    · apply List.map_congr_left
      intro p hp
      have hp := List.mem_range.mp hp
      show (l, false) :: worldAt r p = (l, _) :: worldAt r p
      rw [Nat.div_eq_of_lt hp]
      rfl
    · apply List.map_congr_left
      intro p hp
      have hp := List.mem_range.mp hp
      have a := worldAt_add r p 1
      rw [Nat.mul_one] at a
      show (l, true) :: worldAt r p = (l, decide ((2 ^ r.length + p) / 2 ^ r.length % 2 = 1)) :: worldAt r (2 ^ r.length + p)
      rw [Nat.add_comm, a, Nat.add_div_right _ (Nat.two_pow_pos _), Nat.div_eq_of_lt hp]
      rfl
theorem lworlds_least (cs : List Cl) : (((tW (lettersW cs)).filter (holdsAll cs)).head?) = (leastP cs).map (worldAt (lettersW cs)) := by
  rw [tW_range]
  unfold leastP
  rw [List.filter_map, List.head?_map, List.head?_filter]
  rfl
end L97
/-! D97a -/
set_option maxHeartbeats 2000000
namespace L97
open PySem PySem.Spec L2 Pm
theorem merge_filter (x : Str) : ∀ (r : List Lit) (d : Wd), mergeC x d r = mergeC x d (r.filter fun l => decide (l.1 ≠ x))
  | [], d => rfl
  | l :: r, d => by
    by_cases hx : l.1 = x
    · rw [List.filter_cons_of_neg (by simp [hx]), ← merge_filter x r d]
      show (if l.1 = x then _ else _) = _
      rw [if_pos hx]
    · rw [List.filter_cons_of_pos (by simp [hx])]
      show (if l.1 = x then _ else _) = (if l.1 = x then _ else _)
      rw [if_neg hx, if_neg hx]
      cases getD d l.1 with
      | none => exact merge_filter x r _
      | some t =>
        dsimp only
        rw [merge_filter x r d]
theorem put_same {d : Wd} {k : Str} {v : Bool} (h : getD d k = some v) (hn : (keysD d).Nodup) : putD d k v = d := by
  rw [putD_in (List.mem_map.mpr ⟨_, mem_of_get h, rfl⟩)]
  refine (List.map_congr_left fun p hp => ?_).trans (List.map_id d)
  split
  · rename_i e
    have := get_of_mem hn hp
    rw [e, h] at this
    cases this
    rfl
  · rfl
section
variable {P : Program} {w : World} {K : PySem.W.Frag} {mg : Str → Option Value} {base : Heap}
theorem ok_law_l_met (T : Tx K mg) (S : Ats K mg) : Fd P w K mg base "_law_l_met" 1 (spF (fun (d : {d : Cl × Cl × Str // OkM d.1 d.2.1 d.2.2}) => Pm.PC (RCl d.1.1) (Pm.PC (RCl d.1.2.1) (Pm.PC (RS d.1.2.2) PN))) fun d => RM RCl (metC d.1.1 d.1.2.1 d.1.2.2)) := by
  obtain ⟨f, fd, F, gm⟩ := S.d_law_l_met
  refine fd_mk F gm c_law_l_met (fun _ _ _ _ _ _ us hl => match us, hl with | [_, _, _], _ => rfl) (fun d vs G h => len3 h) fun cdv Ar outer s H vs ⟨⟨one, other, x⟩, h1, h2, h3, h4⟩ A G0 D hr hq hn => in3 fun v1 v2 v3 => ?_
  have nd := c_law_l_met.nd
  dsimp only at h1 h2 h3 h4
  have hu := hu_of hr
  refine B3.v (fun G h => h.2) fun e => ?_
  subst e
  refine b_when (t_or (t_ninDp (d := datL (x, true)) (ds := one.map datL) (hu65 hr) (e_tup2 (R1 := RS) (R2 := RB) (x := x) (y := true) (e_v 2) e_bl) (e_x 0 (R := RCl one)) (d_lit _) (d_cl _) (shaped_lit h3) (shaped_cl h1)) fun _ => t_ninDp (d := datL (x, false)) (ds := other.map datL) (hu65 hr) (e_tup2 (R1 := RS) (R2 := RB) (x := x) (y := false) (e_v 2) e_bl) (e_x 1 (R := RCl other)) (d_lit _) (d_cl _) (shaped_lit h3) (shaped_cl h2)) (fun e => ?_) (fun e => ?_)
  · refine b_rt hq e_non fun v G z => ?_
    have hm : metC one other x = none := by
      unfold metC
      rw [any_lit, any_lit] at e
      rw [if_neg]
      rintro ⟨a, b⟩
      simp [a, b] at e
    show (RM RCl (metC one other x) v).holds G
    rw [hm]
    exact z.2
  have hm : metC one other x = (mergeC x (putsD (·.1) (·.2) [] (one.filter fun l => decide (l.1 ≠ x))) other).map sortedC := by
    unfold metC
    rw [any_lit, any_lit] at e
    rw [if_pos]
    simpa using e
  show B3 _ _ _ _ _ _
  rw [merge_filter] at hm
  have hd0 : (putsD (·.1) (·.2) [] (one.filter fun l => decide (l.1 ≠ x)) : Wd).length ≤ one.length := by
    refine Nat.le_trans puts_len ?_
    rw [List.length_nil, Nat.zero_add]
    exact List.length_filter_le ..
  have hk0 : (keysD (putsD (·.1) (·.2) [] (one.filter fun l => decide (l.1 ≠ x)) : Wd)).Nodup := by
    rw [keys_puts]
    exact nubA_nodup List.nodup_nil
  generalize hdd : (putsD (·.1) (·.2) [] (one.filter fun l => decide (l.1 ≠ x)) : Wd) = d0 at hm hd0 hk0
  have hof : (other.filter fun l => decide (l.1 ≠ x)).length ≤ other.length := List.length_filter_le ..
  refine b_setO 3 (R := fun o => pP (o = .dK (kvs kS V.bl d0))) (by
    rw [show d0 = putsD (·.1) (·.2) [] ((one.filter fun l => decide (l.1 ≠ x)).map fun l => l) by rw [List.map_id']; exact hdd.symm]
    exact f_dictP (f := V.bl) T.dict (F3.rl (f_lcF (own := [("pair", 6)]) (fun l : Lit => decide (l.1 ≠ x)) (fun l => l) (RT2 RS (fun b => RV (V.bl b))) (i_list (P := RLit) (xs := one) (e_x 0)) (tc_name 6) (blkOk_by (N := n_law_l_met) (sc := defScope s_law_l_met) (by decide +kernel)) (fun Gd q l w hm s H C cl fp => (t_ne (e_fst (R1 := RS) (R2 := RB) (e_x 6 (R := RLit l) (h := by exact fun G h => h.2))) (e_v 2)).eq (by simp)) (fun Gd q l w hm _ s H C cl fp => e_x 6 (R := RLit l) (h := by exact fun G h => h.2)) (by rw [sizeLine_eq]; omega)))) fun q o => ?_
  refine B3.fact (fun G h => h.2) fun eo => ?_
  subst eo
  refine b_for (δ := Wd × Option V × Option V) (sd := fun d => [some v1, some v2, some (.str x), some (.ref q), d.2.1, d.2.2, none]) (Ad := fun d => (q, .dK (kvs kS V.bl d.1)) :: A) (Γd := fun _ => pAnd (pSame G0) (RCl other v2)) (rel := fun i d => mergeC x d0 (other.filter fun l => decide (l.1 ≠ x)) = mergeC x d.1 ((other.filter fun l => decide (l.1 ≠ x)).drop i) ∧ d.1.length ≤ one.length + i ∧ (keysD d.1).Nodup) (i_list (P := RLit) (xs := other.filter fun l => decide (l.1 ≠ x)) (F3.rl (by
    rw [show (other.filter fun l => decide (l.1 ≠ x)) = (other.filter fun l => decide (l.1 ≠ x)).map (fun l : Lit => l) from (List.map_id' _).symm]
    exact f_lcF (own := [("pair", 6)]) (fun l : Lit => decide (l.1 ≠ x)) (fun l : Lit => l) RLit (i_list (P := RLit) (xs := other) (e_x 1)) (tc_name 6) (blkOk_by (N := n_law_l_met) (sc := defScope s_law_l_met) (by decide +kernel)) (fun Gd q l w hm s H C cl fp => (t_ne (e_fst (R1 := RS) (R2 := RB) (e_x 6 (R := RLit l) (h := by exact fun G h => h.2))) (e_v 2)).eq (by simp)) (fun Gd q l w hm _ s H C cl fp => e_x 6 (R := RLit l) (h := by exact fun G h => h.2)) (by rw [sizeLine_eq]; omega)))) (tg_pair (R1 := RS) (R2 := RB) 4 5) (d0, none, none) ⟨⟨rfl, hd0, hk0⟩, rfl, rfl⟩ (fun G h => ⟨h.1.1.1.1, h.1.1.2⟩) (fun Gd i l d w hz hr2 => ?_) (fun d hr2 => ?_)
  · obtain ⟨d, a, b⟩ := d
    obtain ⟨hm1, hm2, hm3⟩ := hr2
    dsimp only at hm1 hm2 hm3
    rw [drop_cons' hz] at hm1
    have hi := get_lt hz
    have hx : l.1 ≠ x := by
      have := (List.mem_filter.mp (List.mem_of_getElem? hz)).2
      simpa using this
    refine B3.v (v := w.1) (w := .str l.1) (fun G h => h.2.1) fun ew => ?_
    refine B3.v (v := w.2) (w := .bl l.2) (fun G h => h.2.2) fun ew2 => ?_
    obtain ⟨w1, w2⟩ := w
    dsimp only at ew ew2
    subst ew ew2
    have e1 : mergeC x d (l :: (other.filter fun l => decide (l.1 ≠ x)).drop (i + 1)) = (match getD d l.1 with
        | none => mergeC x (putD d l.1 l.2) ((other.filter fun l => decide (l.1 ≠ x)).drop (i + 1))
        | some t => if t = l.2 then mergeC x d ((other.filter fun l => decide (l.1 ≠ x)).drop (i + 1)) else none) := by
      show (if l.1 = x then _ else _) = _
      rw [if_neg hx] <;> rfl
    rw [e1] at hm1
    have hlen : (putD d l.1 l.2).length ≤ d.length + 1 := by
      unfold putD
      split
      · rw [List.length_map]; omega
      · rw [List.length_append]; simp
    have hnd : (keysD (putD d l.1 l.2)).Nodup := by
      rw [keys_put]
      split
      · exact hm3
      · rename_i hk
        exact List.nodup_append.mpr ⟨hm3, by simp, fun a ha b hb e => by
          rw [List.mem_singleton] at hb
          subst hb
          subst e
          exact hk ha⟩
    refine b_when (t_ne (x := ((getD d l.1).map V.bl).getD (.bl l.2)) (y := .bl l.2) (e_get2 (ι := kS) (f := V.bl) (d := d) (k := l.1) (x := .bl l.2) inr_inj hu (e_v 3) (sd_own (List.mem_cons_self ..)) (e_v 4) (e_v 5)) (e_v 5) (by cases getD d l.1 <;> rfl)) (fun e => b_let (b_rt hq e_non fun v G z => ?_)) (fun e => ?_)
    · show (RM RCl (metC one other x) v).holds G
      rw [hm, hm1]
      cases hg : getD d l.1 with
      | none => rw [hg] at e; exact absurd e (by simp)
      | some t =>
        rw [hg] at e
        dsimp only
        rw [if_neg (by intro z; subst z; simp at e)]
        exact z.2
    · refine b_dput (k := kS l.1) (R := RB l.2) [] hu (e_v 5) (e_v 3) (e_v 4) (fun G h => by rw [kvs_len, sizeLine_eq]; show d.length < _; omega) fun v => ?_
      refine B3.v (v := v) (w := .bl l.2) (fun G h => h.2) fun ev => ?_
      subst ev
      dsimp only
      rw [kvs_put (f := V.bl) inr_inj d l.1 l.2]
      refine b_fin rfl (putD d l.1 l.2, some (.str l.1), some (.bl l.2)) ⟨?_, by show (putD d l.1 l.2).length ≤ _; omega, hnd⟩ rfl rfl fun G h => h.1.1
      cases hg : getD d l.1 with
      | none => rw [hg] at hm1; exact hm1
      | some t =>
        rw [hg] at hm1 e
        dsimp only at hm1
        have et : t = l.2 := by simpa using e
        rw [if_pos et] at hm1
        rw [put_same (et ▸ hg) hm3]
        exact hm1
  · obtain ⟨d, a, b⟩ := d
    obtain ⟨hm1, hm2, hm3⟩ := hr2
    dsimp only at hm1 hm2 hm3
    rw [List.drop_length] at hm1
    have hm1 : mergeC x d0 (other.filter fun l => decide (l.1 ≠ x)) = some d := hm1
    rw [hm1] at hm
    have hlen : d.length ≤ 60 := by omega
    dsimp only
    refine b_let (b_rt hq (F3.rl (f_lc (own := [("name", 4)]) (fun n => (n, (getD d n).getD false)) RLit (i_list (P := RS) (xs := sortS (keysD d)) (F3.rl (f_sortRD T.sorted (e_x 3 (R := RD (kvs kS V.bl d)) (h := fun G h => ⟨q, rfl, h.2⟩)) (kvs_keys d) (by have := get_len hlen; omega)))) (tc_name 4) (blkOk_by (N := n_law_l_met) (sc := defScope s_law_l_met) (by decide +kernel)) (fun Gd q2 n w hmm s H C cl fp => ?_) (by rw [(sortS_perm _).length_eq, sizeLine_eq]; have := get_len hlen; omega))) (fun v G z => ?_))
    · have hn : n ∈ keysD d := mem_sortS.mp hmm
      obtain ⟨t, ht⟩ : ∃ t, getD d n = some t := by
        cases e : getD d n with
        | none => exact absurd hn (get_none.mp e)
        | some t => exact ⟨t, rfl⟩
      rw [ht]
      exact e_tup2 (R1 := RS) (R2 := RB) (x := n) (y := t) (e_x 4) (e_dgetK (ι := kS) (f := V.bl) (d := d) (k := n) inr_inj hu (e_x 3 (R := RD (kvs kS V.bl d)) (h := fun G h => ⟨q, rfl, h.1.1.2⟩)) (e_x 4) ht)
    · show (RM RCl (metC one other x) v).holds G
      rw [hm]
      exact z.2
end
end L97
/-! D97b -/
set_option maxHeartbeats 2000000
namespace L97
open PySem PySem.Spec L2 Pm
section
variable {P : Program} {w : World} {K : PySem.W.Frag} {mg : Str → Option Value} {base : Heap}
theorem ok_law_l_index (T : Tx K mg) (S : Ats K mg) : Fd P w K mg base "_law_l_index" 1 (spF (fun (z : {z : Nat × Nat // z.1 < z.2}) => Pm.PC (RI z.1.1) (Pm.PC (RI z.1.2) PN)) fun z => RB true) := by
  obtain ⟨f, fd, F, gm⟩ := S.d_law_l_index
  refine fd_mk F gm c_law_l_index (fun _ _ _ _ _ _ us hl => match us, hl with | [_, _], _ => rfl) (fun d vs G h => len2 h) fun cdv Ar outer s H vs ⟨⟨i, n⟩, h1⟩ A G0 D hr hq hn => in2 fun v1 v2 => ?_
  have nd := c_law_l_index.nd
  dsimp only at h1
  refine B3.v (fun G h => h.1.2) fun e1 => B3.v (fun G h => h.2) fun e2 => ?_
  dsimp only at e1 e2
  subst e1 e2
  refine b_rt hq (e_andL (e_isi (t := true) T.isinstance (e_v 0) (fun _ => ty_ri) (e_tI T.int) (by decide +kernel)) fun _ => e_andL (e_not (e_isi (t := false) T.isinstance (e_v 0) (fun _ => ty_ri) (e_tB T.bool) (by decide +kernel))) fun _ => e_one (e_leLt e_int (e_v 0) (e_v 1))) (by
    intro v G h
    have z := h.2
    have e : (true && (!false && (decide ((0 : Int) ≤ (i : Int)) && decide ((i : Int) < (n : Int))))) = true := by simp; omega
    rw [e] at z
    exact z)
end
end L97
/-! D97c -/
set_option maxHeartbeats 4000000
namespace L97
open PySem PySem.Spec L2 Pm
section
variable {P : Program} {w : World} {K : PySem.W.Frag} {mg : Str → Option Value} {base : Heap}
theorem ok_law_l_along (T : Tx K mg) (S : Ats K mg) : Fd P w K mg base "_law_l_along" 2 (spF (fun (d : {d : List Cl × List Stp × List Cl // OkPf d.1 d.2.1 d.2.2}) => Pm.PC (RCs d.1.1) (Pm.PC (RL RStp d.1.2.1) PN)) fun d => RCs d.1.2.2) := by
  obtain ⟨f, fd, F, gm⟩ := S.d_law_l_along
  refine fd_mk F gm c_law_l_along (fun _ _ _ _ _ _ us hl => match us, hl with | [_, _], _ => rfl) (fun d vs G h => len2 h) fun cdv Ar outer s H vs ⟨⟨cs, ss, res⟩, h1, h2, h3⟩ A G0 D hr hq hn => in2 fun v1 v2 => ?_
  have nd := c_law_l_along.nd
  dsimp only at h1 h2 h3
  refine b_when (t_or (t_not (t_of (e_isi2 (t := true) (T := "list") (Ra := pTy K "list") T.isinstance (e_var 1 (R := pTy K "list") (fun G h => ty_rl G h.2)) (fun _ _ h => h) (e_tL T.list) (e_tT T.tuple) (kit2 (b1 := true) (b2 := false) (by decide +kernel) (by decide +kernel))))) fun _ => t_gt (e_lenL (R := RStp) (xs := ss) T.len (e_x 1)) e_int) (fun e => by simp at e; omega) (fun e => ?_)
  refine b_setL 2 (P := RCl) (xs := []) f_nil fun q vs0 => ?_
  refine b_for (δ := List Cl × List V × Option V × Option V) (sd := fun d => [some v1, some v2, some (.ref q), d.2.2.1, d.2.2.2, none]) (Ad := fun d => (q, .lst d.2.1) :: A) (Γd := fun d => pAnd (pAnd (pAnd (pSame G0) (RCs cs v1)) (RL RStp ss v2)) (pAll RCl d.1 d.2.1)) (rel := fun i d => Along cs (ss.drop i) d.1 res ∧ (∀ c ∈ d.1, OkCl2 c) ∧ d.1.length = i) (i_list (P := RStp) (xs := ss) (e_x 1)) (tg_name 3) ([], vs0, none, none) ⟨⟨h1, fun c (hc : c ∈ []) => absurd hc (List.not_mem_nil), rfl⟩, rfl, rfl⟩ (fun G h => ⟨h.1, h.2⟩) (fun Gd i st d w hz hr2 => ?_) (fun d hr2 => ?_)
  · obtain ⟨told, vs, a, b⟩ := d
    obtain ⟨k1, k2, k3⟩ := hr2
    dsimp only at k1 k2 k3
    rw [drop_cons' hz] at k1
    obtain ⟨k4, c, k5, k6, k7⟩ := k1
    have hi := get_lt hz
    dsimp only
    refine b_setV 4 (w := .non) e_non ?_
    cases st with
    | told n =>
      have k4 : n < cs.length := k4
      have hc : cs[n]? = some c := k5
      refine b_if (w_and (t_of (e_isi2 (t := true) (T := "tuple") (Ra := pTy K "tuple") T.isinstance (e_var 3 (R := pTy K "tuple") (by exact fun G h => ty_rp G h.2)) (fun _ _ h => h) (e_tL T.list) (e_tT T.tuple) (kit2 (b1 := false) (b2 := true) (by decide +kernel) (by decide +kernel)))) fun _ => w_and (t_eq (e_len (n := 2) T.len (e_x 3 (R := RStp (.told n))) s_rp (fun vs G _ e => by cases (show vs = _ from e); rfl)) e_int) fun _ => w_and (t_eq (x := .str "told") (e_at (e_x 3 (R := RStp (.told n))) e_int s_rp (fun vs G _ e => ⟨_, by cases (show vs = _ from e); rfl, rfl⟩)) e_str) fun _ => w_and1 (t_of (e_c (ok_law_l_index T S) hr ⟨(n, cs.length), k4⟩ (a_cons (e_at (R := RI n) (e_x 3 (R := RStp (.told n))) e_int s_rp (fun vs G _ e => ⟨_, by cases (show vs = _ from e); rfl, rfl⟩)) (a_cons (e_lenL (R := RCl) (xs := cs) T.len (e_x 0)) a_nil))))).t (fun _ => ?_) (fun e => absurd e (by simp))
      have hcl := h3 c (List.mem_of_getElem? hc)
      refine b_setLc 4 (own := [("pair", 5)]) (fun l : Lit => l) RLit (i_list (P := RLit) (xs := c) (e_atL (R := RCl) (xs := cs) n (e_x 0 (R := RCs cs)) (e_at (R := RI n) (e_x 3 (R := RStp (.told n))) e_int s_rp (fun vs G _ e => ⟨_, by cases (show vs = _ from e); rfl, rfl⟩)) rfl hc)) (tc_name 5) (blkOk_by (N := n_law_l_along) (sc := defScope s_law_l_along) (by decide +kernel)) (fun Gd2 q2 l w2 hm s2 H2 C2 cl2 fp2 => e_tupSame T.tuple (e_x 5 (R := RLit l) (h := by exact fun G h => h.2))) (Nat.lt_of_le_of_lt hcl (by decide)) (by intro _; rfl) fun v => ?_
      refine b_gon rfl ?_
      refine b_if (w_and (t_of (e_isi2 (t := true) (T := "tuple") (Ra := pTy K "tuple") T.isinstance (e_var 3 (R := pTy K "tuple") (by exact fun G h => ty_rp G h.1.2)) (fun _ _ h => h) (e_tL T.list) (e_tT T.tuple) (kit2 (b1 := false) (b2 := true) (by decide +kernel) (by decide +kernel)))) fun _ => w_and (u := false) (t_eq (e_len (n := 2) T.len (e_x 3 (R := RStp (.told n))) s_rp (fun vs G _ e => by cases (show vs = _ from e); rfl)) e_int) fun e => absurd e (by decide)).t (fun e => absurd e (by simp)) (fun _ => ?_)
      refine b_gon rfl ?_
      refine B3.fact (fun G h => rl_ref h.2) fun ⟨ad, ev⟩ => ?_
      refine b_when (t_isN (e_v 4)) (fun e => by subst ev; exact absurd e (by simp)) (fun e => ?_)
      refine b_ap [] 2 (R := RCl (c.map fun l => l)) (e_x 4) (fun G h => by rw [← pAll_len h.1.1.1.2, k3, sizeLine_eq]; omega) fun u => ?_
      have em : (c.map fun l : Lit => l) = c := List.map_id' c
      exact b_fin rfl (told ++ [c], vs ++ [u], some w, some v) ⟨k7, fun c' hc' => (List.mem_append.mp hc').elim (k2 c') (fun z => by rw [List.mem_singleton] at z; subst z; exact k6), by show (told ++ [c]).length = _; rw [List.length_append, k3]; rfl⟩ rfl rfl fun G h => ⟨⟨h.1.1.1.1.1, pAll_app h.1.1.1.1.2 (pAll_one (by rw [← em]; exact h.2))⟩, h.1.1.1.2⟩
    | met i2 j x =>
      obtain ⟨ki, kj, kx⟩ : i2 < told.length ∧ j < told.length ∧ isLetter x = true := k4
      have ei := List.getElem?_eq_getElem ki
      have ej := List.getElem?_eq_getElem kj
      have hi2 := k2 _ (List.getElem_mem ki)
      have hj2 := k2 _ (List.getElem_mem kj)
      generalize told[i2] = ca at ei hi2
      generalize told[j] = cb at ej hj2
      have hm : metC ca cb x = some c := by
        have k5 : (match told[i2]?, told[j]? with
          | some a, some b => metC a b x
          | _, _ => none) = some c := k5
        rw [ei, ej] at k5
        exact k5
      refine B3.fact (fun G h => pAll_len h.1.1.2) fun hvl => ?_
      refine b_if (w_and (t_of (e_isi2 (t := true) (T := "tuple") (Ra := pTy K "tuple") T.isinstance (e_var 3 (R := pTy K "tuple") (by exact fun G h => ty_rp G h.2)) (fun _ _ h => h) (e_tL T.list) (e_tT T.tuple) (kit2 (b1 := false) (b2 := true) (by decide +kernel) (by decide +kernel)))) fun _ => w_and (u := false) (t_eq (e_len (n := 4) T.len (e_x 3 (R := RStp (.met i2 j x)) (h := by exact fun G h => h.2)) s_rp (fun vs G _ e => by cases (show vs = _ from e); rfl)) e_int) fun e => absurd e (by decide)).t (fun e => absurd e (by simp)) (fun _ => ?_)
      refine b_gon rfl ?_
      refine b_if (w_and (t_of (e_isi2 (t := true) (T := "tuple") (Ra := pTy K "tuple") T.isinstance (e_var 3 (R := pTy K "tuple") (by exact fun G h => ty_rp G h.2)) (fun _ _ h => h) (e_tL T.list) (e_tT T.tuple) (kit2 (b1 := false) (b2 := true) (by decide +kernel) (by decide +kernel)))) fun _ => w_and (t_eq (e_len (n := 4) T.len (e_x 3 (R := RStp (.met i2 j x)) (h := by exact fun G h => h.2)) s_rp (fun vs G _ e => by cases (show vs = _ from e); rfl)) e_int) fun _ => w_and (t_eq (x := .str "met") (e_at (R := RS "met") (e_x 3 (R := RStp (.met i2 j x)) (h := by exact fun G h => h.2)) e_int s_rp (fun vs G _ e => ⟨_, by cases (show vs = _ from e); rfl, rfl⟩)) e_str) fun _ => w_and (t_of (e_c (ok_law_l_index T S) hr ⟨(i2, vs.length), by dsimp only; omega⟩ (a_cons (e_at (R := RI i2) (e_x 3 (R := RStp (.met i2 j x)) (h := by exact fun G h => h.2)) e_int s_rp (fun vs G _ e => ⟨_, by cases (show vs = _ from e); rfl, rfl⟩)) (a_cons (e_lenO T.len (e_v 2) (List.mem_cons_self ..)) a_nil)))) fun _ => w_and1 (t_of (e_c (ok_law_l_index T S) hr ⟨(j, vs.length), by dsimp only; omega⟩ (a_cons (e_at (R := RI j) (e_x 3 (R := RStp (.met i2 j x)) (h := by exact fun G h => h.2)) e_int s_rp (fun vs G _ e => ⟨_, by cases (show vs = _ from e); rfl, rfl⟩)) (a_cons (e_lenO T.len (e_v 2) (List.mem_cons_self ..)) a_nil))))).t (fun _ => ?_) (fun e => absurd e (by simp))
      refine b_set 4 (R := RCl c) (e_if (t := true) (t_of (e_isi (t := true) T.isinstance (e_at (R := RS x) (e_x 3 (R := RStp (.met i2 j x)) (h := by exact fun G h => h.2)) e_int s_rp (fun vs G _ e => ⟨_, by cases (show vs = _ from e); rfl, rfl⟩)) (fun _ => ty_rs) (e_tS T.str) (by decide +kernel))) (fun _ => e_c (ok_law_l_met T S) hr ⟨(ca, cb, x), hi2.let_, hj2.let_, kx, by have := hi2.few; have := hj2.few; dsimp only; omega⟩ (a_cons (e_at (R := RCl ca) (e_v 2) (e_at (R := RI i2) (e_x 3 (R := RStp (.met i2 j x)) (h := by exact fun G h => h.2)) e_int s_rp (fun vs G _ e => ⟨_, by cases (show vs = _ from e); rfl, rfl⟩)) (s_own (List.mem_cons_self ..)).s fun vs' G g e => by cases (show vs' = vs from e); exact at_all rfl ei vs G g.1.1.2) (a_cons (e_at (R := RCl cb) (e_v 2) (e_at (R := RI j) (e_x 3 (R := RStp (.met i2 j x)) (h := by exact fun G h => h.2)) e_int s_rp (fun vs G _ e => ⟨_, by cases (show vs = _ from e); rfl, rfl⟩)) (s_own (List.mem_cons_self ..)).s fun vs' G g e => by cases (show vs' = vs from e); exact at_all rfl ej vs G g.1.1.2) (a_cons (e_at (R := RS x) (e_x 3 (R := RStp (.met i2 j x)) (h := by exact fun G h => h.2)) e_int s_rp (fun vs G _ e => ⟨_, by cases (show vs = _ from e); rfl, rfl⟩)) a_nil))) (fun _ _ h => h.2) (fun v G h => by
        have h : (RM RCl (metC ca cb x) v).holds G := h
        rw [hm] at h
        exact h)) (fun e => absurd e (by decide))) fun v => ?_
      refine b_gon rfl ?_
      refine B3.fact (fun G h => rl_ref h.2) fun ⟨ad, ev⟩ => ?_
      refine b_when (t_isN (e_v 4)) (fun e => by subst ev; exact absurd e (by simp)) (fun e => ?_)
      refine b_ap [] 2 (R := RCl c) (e_x 4) (fun G h => by rw [← pAll_len h.1.1.1.2, k3, sizeLine_eq]; omega) fun u => ?_
      exact b_fin rfl (told ++ [c], vs ++ [u], some w, some v) ⟨k7, fun c' hc' => (List.mem_append.mp hc').elim (k2 c') (fun z => by rw [List.mem_singleton] at z; subst z; exact k6), by show (told ++ [c]).length = _; rw [List.length_append, k3]; rfl⟩ rfl rfl fun G h => ⟨⟨h.1.1.1.1.1, pAll_app h.1.1.1.1.2 (pAll_one h.2)⟩, h.1.1.1.2⟩
  · obtain ⟨told, vs, a, b⟩ := d
    obtain ⟨k1, k2, k3⟩ := hr2
    dsimp only at k1 k2 k3 ⊢
    rw [List.drop_length] at k1
    have k1 : res = told := k1
    subst k1
    exact b_let (b_rt hq (e_var 2 (R := RCs res) fun G h => ⟨q, vs, rfl, h.2, h.1.2⟩))
theorem ok__law_l_proof (T : Tx K mg) (S : Ats K mg) : Fd P w K mg base "_law_l_proof" 3 (spF (fun (d : {d : List Cl × List Stp × List Cl // OkPf d.1 d.2.1 d.2.2 ∧ d.2.2.getLast? = some []}) => Pm.PC (RCs d.1.1) (Pm.PC (RL RStp d.1.2.1) PN)) fun d => RB true) := by
  obtain ⟨f, fd, F, gm⟩ := S.d_law_l_proof
  refine fd_mk F gm c_law_l_proof (fun _ _ _ _ _ _ us hl => match us, hl with | [_, _], _ => rfl) (fun d vs G h => len2 h) fun cdv Ar outer s H vs ⟨⟨cs, ss, res⟩, h1, h2⟩ A G0 D hr hq hn => in2 fun v1 v2 => ?_
  have nd := c_law_l_proof.nd
  dsimp only at h1 h2
  refine b_set 2 (R := RCs res) (e_c (ok_law_l_along T S) hr ⟨(cs, ss, res), h1⟩ (a_cons (e_x 0) (a_cons (e_x 1) a_nil))) fun u => ?_
  refine B3.fact (fun G h => rl_ref h.2) fun ⟨ad, ev⟩ => ?_
  have hp : 0 < res.length := by
    cases res with
    | nil => cases h2
    | cons => simp
  refine b_rt hq (e_andL (e_notN (e_v 2)) fun _ => e_andL (e_gt (e_lenL (R := RCl) (xs := res) T.len (e_x 2)) e_int) fun _ => e_one (e_eqDp (d := .list []) (d' := .list []) (hu64 hr) (e_at (R := RCl []) (e_x 2 (R := RCs res)) (e_neg1) s_rl.s fun vs G _ h => ?_) (F3.rl (P := RLit) (xs := []) f_nil) (fun v => d_cl []  v) (fun v => ?_) (by decide +kernel) (by decide +kernel))) (by
    intro v G z
    have z2 := z.2
    have e1 : decide (u = V.non) = false := by rw [ev]; simp
    rw [e1] at z2
    have e3 : PyData.eqv (.list []) (.list []) = true := by decide +kernel
    rw [e3] at z2
    simpa [hp] using z2)
  · obtain ⟨x, e1, e2⟩ := pAll_last h h2
    exact ⟨x, atI_neg1 e1, e2⟩
  · exact d_cl [] v
end
end L97
/-! Pm24 -/
set_option maxHeartbeats 2000000
/-! Pm24: instances of own classes, dicts keyed by tuples, a, b = pair. -/
namespace Pm
open PySem PySem.Spec L2
/-- a method, a class's maker, with its promise -/
structure Md (P : Program) (w : World) (K : PySem.W.Frag) (mg : Str → Option Value) (base : Heap) (C : Addr) (m : Str) (k : Nat) (sp : Sp) : Prop where
  ex : ∃ (f : Addr) (fd : FuncData) (ps : List Str), FnOk P w K mg base CX0 k f fd ps sp ∧ Meth K C m f ∧ Binds K fd ps []
structure MkD (P : Program) (w : World) (K : PySem.W.Frag) (mg : Str → Option Value) (base : Heap) (C : Addr) (k : Nat) (sp : Sp) : Prop where
  ex : ∃ (f : Addr) (fd : FuncData) (ps : List Str), FnOk P w K mg base CX0 k f fd ps sp ∧ Mk K C f ∧ Binds K fd ps []
theorem fn_mkM {δ ρ : Type} {A1 : δ → Own} {A2 : ρ → Own} {pre : δ → List V → Pr} {post : δ → ρ → V → Pr} {P : Program} {w : World} {K : PySem.W.Frag} {mg : Str → Option Value} {base : Heap} {x q : Str} {params : Arguments} {body : List Stmt} {scope : Scope} {f : Addr} {fd : FuncData} {k : Nat} {N ps : List Str}
    (F : FunD K x q params body scope [] [] f fd) (S : FnScope N ps scope)
    (hl : ∀ d vs G, (pre d vs).holds G → vs.length = ps.length)
    (hb : ∀ (cdv : Value) (Ar : Around) (outer : List Env) (s : Shared) (H : Hp) (vs : List V) (d : δ) (A : Own) (G0 : Hp) (D : Ends), Room k (Ar.deeper (PyProof.Rows.envOfC q scope s.heap.objs.size f cdv)) → PostM A2 A G0 (post d) D.rt → (∀ σ H', D.nx σ H' = D.rt .non H') →
      B3 (cxOf CX0 P w K mg base N q scope f cdv Ar outer s H E0).nox (A1 d ++ A) (pAnd (pSame G0) (pre d vs)) (start N vs) body D) : FnOk P w K mg base CX0 (k + 1) f fd ps (spM A1 A2 pre post) := by
  refine F.ok S (fun vs H Q E ⟨d, A, ok, h, _⟩ => hl d vs _ h) fun cdv Ar outer s H vs Q E hr ⟨d, A, ok, h, hQ⟩ => ⟨_, (essPSs (X := (cxOf CX0 P w K mg base N q scope f cdv Ar outer s H E).nox) body).nox, ?_⟩
  refine hb cdv Ar outer s H vs d A (hide (A1 d ++ A) H) { nx := fun _ H' => Q .non H', rt := Q } hr (fun v r H' ok' sm z => hQ v r H' ⟨ok', sm⟩ z) (fun _ _ => rfl) H ok ⟨L2.Same.refl _, h⟩
section
variable {X : Cx} {A B : Own} {Γ Δ : Pr} {σ : L2.St} {a b c e o : Expr} {R Ra Rb Rc : V → Pr} {pos apos cpos : Pos} {tg : Expr} {rest : List Stmt} {D : Ends}
/-- o.f of an owned instance -/
theorem e_fld {p C dx : Addr} {fs : List (Str × V)} {f : Str} {v : V} (c : Cls X.K C) (n : NoAttr X.K C f) (hm : (p, HO.ins C dx fs) ∈ A) (ho : E3 X A Γ σ o (RV (.ref p))) (hl : fs.lookup f = some v) (hb : attributeBase o f X.env (eval o X.env) = eval o X.env := by rfl) : E3 X A Γ σ (.Attribute o f pos) (RV v) := fun H Q ok g k =>
  Ev.of (pe_fld (evPE o) hb) (ho H _ ok g fun x H1 x1 r => by
    cases (show x = .ref p from r)
    exact ⟨p, C, dx, fs, v, rfl, x1.ok.at_ _ hm, c, n, hl, k _ _ x1 rfl⟩)
/-- o.f = e -/
theorem b_fld (A1 : Own) {A2 : Own} {p C dx : Addr} {fs : List (Str × V)} {f : Str} {pos' : Pos} (c : Cls X.K C) (n : NoAttr X.K C f) (hv : E3 X (A1 ++ (p, .ins C dx fs) :: A2) Γ σ e R) (ho : E3 X (A1 ++ (p, .ins C dx fs) :: A2) Γ σ o (RV (.ref p))) (hl : fs.length < 1000) (kk : ∀ v, B3 X (A1 ++ (p, .ins C dx (putF f v fs)) :: A2) (pAnd Γ (R v)) σ rest D)
    (hs : swapsWith e (some (.Attribute o f pos')) pos.line X.env = pure false := by rfl) : B3 X (A1 ++ (p, .ins C dx fs) :: A2) Γ σ (.Assign [.Attribute o f pos'] e pos :: rest) D := fun H ok g =>
  b_cons (Es.of (ps_fld (evPE o) (evPE e) hs) (hv H _ ok g fun v H1 x1 r1 => ho H1 _ x1.ok (Γ.mono x1.same g) fun x H2 x2 r2 => by
    cases (show x = .ref p from r2)
    obtain ⟨o1, o2, o3⟩ := own_put (o' := .ins C dx (putF f v fs)) x2.ok
    refine ⟨p, C, dx, fs, rfl, o3, c, n, hl, kk v _ o1 ?_⟩
    rw [o2]
    exact ⟨Γ.mono (x1.same.trans x2.same) g, (R v).mono x2.same r1⟩))
/-- .. e a new object, to be owned -/
theorem b_fldO (A1 : Own) {A2 : Own} {p C dx : Addr} {fs : List (Str × V)} {f : Str} {pos' : Pos} {Ro : HO → Pr} (c : Cls X.K C) (n : NoAttr X.K C f) (hv : F3 X (A1 ++ (p, .ins C dx fs) :: A2) Γ σ e Ro) (ho : ∀ q : Addr × HO, E3 X (q :: (A1 ++ (p, .ins C dx fs) :: A2)) Γ σ o (RV (.ref p))) (hl : fs.length < 1000) (kk : ∀ q ob, B3 X ((q, ob) :: (A1 ++ (p, .ins C dx (putF f (.ref q) fs)) :: A2)) (pAnd Γ (Ro ob)) σ rest D)
    (hs : swapsWith e (some (.Attribute o f pos')) pos.line X.env = pure false := by rfl) : B3 X (A1 ++ (p, .ins C dx fs) :: A2) Γ σ (.Assign [.Attribute o f pos'] e pos :: rest) D := fun H ok g =>
  b_cons (Es.of (ps_fld (evPE o) (evPE e) hs) (hv H _ ok g fun q ob H1 n1 r1 => ho (q, ob) H1 _ n1.ok1 (Γ.mono n1.same g) fun x H2 x2 r2 => by
    cases (show x = .ref p from r2)
    obtain ⟨o1, o2, o3⟩ := own_put (A1 := (q, ob) :: A1) (o' := .ins C dx (putF f (.ref q) fs)) x2.ok
    refine ⟨p, C, dx, fs, rfl, o3, c, n, hl, kk q ob _ o1 ?_⟩
    have o2 : hide ((q, ob) :: (A1 ++ (p, .ins C dx (putF f (.ref q) fs)) :: A2)) (upd H2 p (.ins C dx (putF f (.ref q) fs))) = hide ((q, ob) :: (A1 ++ (p, .ins C dx fs) :: A2)) H2 := o2
    rw [o2]
    exact ⟨Γ.mono (n1.same.trans x2.same) g, (Ro ob).mono x2.same r1⟩))
/-- o.m(..) -/
theorem m_meth {δ ρ : Type} {A1 : δ → Own} {A2 : ρ → Own} {pre : δ → List V → Pr} {post : δ → ρ → V → Pr} {m : Str} {k k' : Nat} {p C dx : Addr} {fs : List (Str × V)} {es : List Expr} {Ps : List V → Pr} {pl : Sem Bool} (c : Cls X.K C) (F : Md X.prog X.w X.K X.mg X.base C m k (spM A1 A2 pre post)) (hr : Room k' X.A) (d : δ) (B A0 : Own) (hA : A = B ++ (A1 d ++ A0)) (hm : (p, HO.ins C dx fs) ∈ A) (hl : fs.lookup m = none) (ho : E3 X A Γ σ o (RV (.ref p))) (ha : A3 X A Γ σ (e :: es) Ps)
    (hp : ∀ vs, (pAnd Γ (Ps vs)).le (pre d (.ref p :: vs))) (hk : k ≤ k' := by first | decide | omega)
    (he : starEach (e :: es) X.env = (false, eval e X.env) :: starEach es X.env := by rfl) (hpl : (backTo pos (starEach es X.env)).any (·.1) = false := by rfl)
    (ht : eval (.Call (.Attribute o m apos) (e :: es) [] pos) X.env = (do
      let ov ← eval o X.env
      standAt apos.atName
      let (f, first) ← holding [ov] (getMethod ov m pl)
      callWith pos f first (backTo pos (starEach (e :: es) X.env)) (backToKw pos (keywordEach [] X.env))) := by rfl) : M3 X A Γ σ (.Call (.Attribute o m apos) (e :: es) [] pos) (fun r => B ++ (A2 r ++ A0)) (fun r v => post d r v) := fun H Q ok g kk => by
  subst hA
  obtain ⟨f, fd, ps, G, M, hb⟩ := F.ex
  refine Ev.of (pe_meth (evPE o) c M G (hr.mono hk) hb .nil pass0 (eaPA (e :: es)) he hpl ht) (ho H _ ok g fun x H1 x1 r1 => ?_)
  cases (show x = .ref p from r1)
  refine ⟨p, dx, fs, rfl, x1.ok.at_ _ hm, hl, ha.ea x1.ok (Γ.mono x1.same g) fun vs H2 x2 r2 => ?_⟩
  have p1 : (B ++ (A1 d ++ A0)).Perm (A1 d ++ (B ++ A0)) := by
    rw [← List.append_assoc, ← List.append_assoc]
    exact List.Perm.append_right _ List.perm_append_comm
  refine ⟨d, B ++ A0, own_perm p1 x2.ok, by rw [← hide_perm p1, List.append_nil]; exact hp vs _ ⟨Γ.mono (x1.same.trans x2.same) g, r2⟩, fun v r H' x3 r3 => ?_⟩
  have p2 : (A2 r ++ (B ++ A0)).Perm (B ++ (A2 r ++ A0)) := by
    rw [← List.append_assoc, ← List.append_assoc]
    exact List.Perm.append_right _ List.perm_append_comm
  refine kk v r H' ⟨own_perm p2 x3.ok, ?_⟩ (by rw [← hide_perm p2]; exact r3)
  have := x3.same
  rw [← hide_perm p1, hide_perm p2] at this
  exact (x1.same.trans x2.same).trans this
/-- C() -/
theorem m_make0 {ρ : Type} {A2 : ρ → Own} {C : Addr} {pre : Addr × Addr → List V → Pr} {post : Addr × Addr → ρ → V → Pr} {x : Str} {k k' : Nat} {p : Pos} (F : MkD X.prog X.w X.K X.mg X.base C k (spM (fun d : Addr × Addr => [(d.1, .ins C d.2 []), (d.2, .own d.1)]) A2 pre post)) (hr : Room k' X.A) (hm : X.mg x = some (.ref C)) (hp : ∀ d, Γ.le (pre d [.ref d.1])) (hn : ∀ d r v, (post d r v).le (pP (v = .non))) (hk : k + 1 ≤ k' := by first | decide | omega) (hg : Gl X x := by rfl) (hdb : (x == ("__debug__" : Str)) = false := by decide) :
    M3 (ρ := (Addr × Addr) × ρ) X A Γ σ (.Call (.Name x p) [] [] pos) (fun r => A2 r.2 ++ A) (fun r v => pAnd (pP (v = .ref r.1.1)) (post r.1 r.2 .non)) := fun H Q ok g kk => by
  obtain ⟨f, fd, ps, G, M, hb⟩ := F.ex
  refine Ev.of (pe_make0 M G (hr.mono hk) hg hm hb .nil pass0 hdb) ?_
  show ∀ x dx, _
  intro q dx hq hdx hne
  have n1 := New.laid (Ext.refl ok) hdx (.own q)
  have hq1 : (upd H dx (.own q)) q = none := by rw [upd_ne (Ne.symm hne)]; exact hq
  have n2 := New.laid (Ext.refl n1.ok1) hq1 (.ins C dx [])
  have sm := n1.same.trans n2.same
  refine ⟨(q, dx), A, n2.ok1, hp (q, dx) _ (Γ.mono sm g), fun v r H' ch z => ?_⟩
  have ev : v = .non := hn _ _ _ _ z
  subst ev
  exact ⟨rfl, kk _ ((q, dx), r) H' ⟨ch.ok, sm.trans ch.same⟩ ⟨rfl, z⟩⟩
/-! ### dicts keyed by tuples -/
theorem t_notinT {p : Addr} {kvs : List (List Key × V)} {ks : List Key} {t : Bool} (hu : X.A.units + 1 < cLine) (hi : E3 X A Γ σ a (RP (ks.map kV))) (ho : E3 X A Γ σ o (RV (.ref p))) (hm : (p, HO.dT kvs) ∈ A) (ht : (valV kvs ks).isSome = t) (hmk : behindInMarks .NotIn o = false := by with_unfolding_all rfl) : T3 X A Γ σ (.Compare a [.NotIn] [o] pos) (!t) := fun H Q ok g kk =>
  Et.of (pt_cmp (pc_dnotin hu (evPE a) (evPE o)) hmk) (hi H _ ok g fun y H1 x1 r1 => ho H1 _ x1.ok (Γ.mono x1.same g) fun x H2 x2 r2 => by
    cases (show x = .ref p from r2)
    obtain ⟨b, e1, e2⟩ := (RP (ks.map kV) y).mono x2.same r1
    have e1 : y = .ref b := e1
    subst e1
    exact ⟨p, _, rfl, DGet.t (x2.ok.at_ _ hm) (hide_of e2).1, !t, by rw [ht], kk _ (x1.trans x2)⟩)
theorem e_dgetT {p : Addr} {kvs : List (List Key × V)} {ks : List Key} {v : V} (hu : X.A.units + 1 < cLine) (ho : E3 X A Γ σ o (RV (.ref p))) (hi : E3 X A Γ σ a (RP (ks.map kV))) (hm : (p, HO.dT kvs) ∈ A) (hv : valV kvs ks = some v) (hp : NoSl a := by intro _ _; rfl) : E3 X A Γ σ (.Subscript o a pos) (RV v) := fun H Q ok g kk =>
  Ev.of (pe_dget hu (evPE o) (evPE a) hp) (ho H _ ok g fun x H1 x1 r1 => hi H1 _ x1.ok (Γ.mono x1.same g) fun y H2 x2 r2 => by
    cases (show x = .ref p from r1)
    obtain ⟨b, e1, e2⟩ := r2
    have e1 : y = .ref b := e1
    subst e1
    exact ⟨p, v, rfl, by rw [← hv]; exact DGet.t (x2.ok.at_ _ hm) (hide_of e2).1, kk _ _ (x1.trans x2) rfl⟩)
theorem b_dputT (A1 : Own) {A2 : Own} {p : Addr} {kvs : List (List Key × V)} {ks : List Key} {pos' : Pos} (hu : X.A.units + 1 < cLine) (hv : E3 X (A1 ++ (p, .dT kvs) :: A2) Γ σ e R) (ho : E3 X (A1 ++ (p, .dT kvs) :: A2) Γ σ o (RV (.ref p))) (hi : E3 X (A1 ++ (p, .dT kvs) :: A2) Γ σ a (RP (ks.map kV))) (hl : kvs.length < sizeLine)
    (kk : ∀ v, B3 X (A1 ++ (p, .dT (putK kvs ks v)) :: A2) (pAnd Γ (R v)) σ rest D) (hs : swapsWith e (some (.Subscript o a pos')) pos.line X.env = pure false := by rfl) : B3 X (A1 ++ (p, .dT kvs) :: A2) Γ σ (.Assign [.Subscript o a pos'] e pos :: rest) D := fun H ok g =>
  b_cons (Es.of (ps_dput hu (evPE o) (evPE a) (evPE e) hs) (hv H _ ok g fun v H1 x1 r1 => ho H1 _ x1.ok (Γ.mono x1.same g) fun x H2 x2 r2 => hi H2 _ x2.ok (Γ.mono (x1.same.trans x2.same) g) fun y H3 x3 r3 => by
    cases (show x = .ref p from r2)
    obtain ⟨b, e1, e2⟩ := r3
    have e1 : y = .ref b := e1
    subst e1
    obtain ⟨o1, o2, o3⟩ := own_put (o' := .dT (putK kvs ks v)) x3.ok
    refine ⟨p, _, rfl, DPut.t o3 (hide_of e2).1 hl, kk v _ o1 ?_⟩
    rw [o2]
    exact ⟨Γ.mono ((x1.same.trans x2.same).trans x3.same) g, (R v).mono (x2.same.trans x3.same) r1⟩))
/-- an expression that changes things, its value dropped -/
theorem b_exprM {ρ : Type} {A' : ρ → Own} {R : ρ → V → Pr} (h : M3 X A Γ σ e A' R) (k : ∀ v r, B3 X (A' r) (pAnd Γ (R r v)) σ rest D) (hs : swapsWith e none pos.line X.env = pure false := by rfl) : B3 X A Γ σ (.Expr e pos :: rest) D := fun H ok g =>
  b_cons (Es.of (ps_expr (evPE e) hs) (h H _ ok g fun v r H' x q => k v r H' x.ok ⟨Γ.mono x.same g, q⟩))
/-- a, b = e, e a pair -/
theorem b_unp2 {α β : Type} {R1 : α → V → Pr} {R2 : β → V → Pr} {x : α × β} (i j : Nat) {y z : Str} {p1 p2 p3 : Pos} {kt : Nat} (h : E3 X A Γ σ e (RT2 R1 R2 x)) (k : ∀ v w, B3 X A (pAnd (pAnd Γ (R1 x.1 v)) (R2 x.2 w)) ((σ.set i (some v)).set j (some w)) rest D)
    (hN : X.N.Nodup := by assumption) (hi : X.N[i]? = some y := by rfl) (hj : X.N[j]? = some z := by rfl) (hc : X.calm = true := by rfl) (hx : Loc X.env.scope y := by first | exact .inl rfl | exact .inr rfl) (hy : Loc X.env.scope z := by first | exact .inl rfl | exact .inr rfl)
    (hf : X.fn y = true ∨ X.env.scope.names.lookup y = some .local := by first | exact .inl rfl | exact .inr rfl) (hf2 : X.fn z = true ∨ X.env.scope.names.lookup z = some .local := by first | exact .inl rfl | exact .inr rfl)
    (h1 : (assignEach [.Name y p1, .Name z p2] X.env).map (·.2) = assign (.Name y p1) X.env :: (assignEach [.Name z p2] X.env).map (·.2) := by rfl) (h2 : (assignEach [.Name z p2] X.env).map (·.2) = assign (.Name z p2) X.env :: (assignEach [] X.env).map (·.2) := by rfl)
    (hn : (assignEach [.Name y p1, .Name z p2] X.env).length = 2 := by rfl) (hst : (assignEach [.Name y p1, .Name z p2] X.env).findIdx? (·.1) = none := by rfl)
    (hs : swapsWithSole [.Tuple [.Name y p1, .Name z p2] kt p3] e pos.line X.env = pure false := by rfl) (hw : swappedStores [.Tuple [.Name y p1, .Name z p2] kt p3] e X.env = pure none := by rfl) (h3 : (assignEach [.Tuple [.Name y p1, .Name z p2] kt p3] X.env).map (·.2) = [assign (.Tuple [.Name y p1, .Name z p2] kt p3) X.env] := by rfl) :
    B3 X A Γ σ (.Assign [.Tuple [.Name y p1, .Name z p2] kt p3] e pos :: rest) D := fun H ok g =>
  b_cons (Es.of (ps_asg (evPE e) (pg_tup hc (pgs_cons (pg_name hN hi hx hf) (pgs_cons (pg_name hN hj hy hf2) pgs_nil h2) h1) hn hst) hs hw h3) (h H _ ok g fun u H1 x1 r => by
    obtain ⟨ad, v1, v2, e1, ho, r1, r2⟩ := r
    have e1 : u = .ref ad := e1
    subst e1
    exact ⟨ad, [v1, v2], rfl, SqT.of (hide_le _ _ ho), rfl, v1, [v2], rfl, v2, [], rfl, rfl, k v1 v2 H1 x1.ok ⟨⟨Γ.mono x1.same g, r1⟩, r2⟩⟩))
/-- an empty tuple -/
theorem e_tup0 {kk} : E3 X A Γ σ (.Tuple [] kk pos) (RP []) := e_tupP (vs := []) av_nil (by decide)
end
end Pm
/-! E97a -/
set_option maxHeartbeats 2000000
namespace L97
open PySem PySem.Spec L2 Pm
/-- what the top has of the class Store -/
structure Sto (K : PySem.W.Frag) (mg : Str → Option Value) (C : Addr) : Prop where
  gC : mg "Store" = some (.ref C)
  cls : Cls K C
  nT : NoAttr K C "triples"
  nN : NoAttr K C "numbers"
  nF : NoAttr K C "found"
  ini : ∃ f fd, FunD K "__init__" "Store.__init__" (defArgs sStore___init__) (defBody sStore___init__) (defScope sStore___init__) [] [] f fd ∧ Mk K C f
  add : ∃ f fd, FunD K "add_row" "Store.add_row" (defArgs sStore_add_row) (defBody sStore_add_row) (defScope sStore_add_row) [] [] f fd ∧ Meth K C "add_row" f
  ttab : ∃ f fd, FunD K "take_table" "Store.take_table" (defArgs sStore_take_table) (defBody sStore_take_table) (defScope sStore_take_table) [] [] f fd ∧ Meth K C "take_table" f
  ttru : ∃ f fd, FunD K "take_truths" "Store.take_truths" (defArgs sStore_take_truths) (defBody sStore_take_truths) (defScope sStore_take_truths) [] [] f fd ∧ Meth K C "take_truths" f
  put : ∃ f fd, FunD K "put_row" "Store.put_row" (defArgs sStore_put_row) (defBody sStore_put_row) (defScope sStore_put_row) [] [] f fd ∧ Meth K C "put_row" f
  tell : ∃ f fd, FunD K "tell_table" "Store.tell_table" (defArgs sStore_tell_table) (defBody sStore_tell_table) (defScope sStore_tell_table) [] [] f fd ∧ Meth K C "tell_table" f
def stFs (t n f : Addr) : List (Str × V) := [("triples", .ref t), ("numbers", .ref n), ("found", .ref f)]
/-- a store -/
structure Sv where
  s : Addr
  dx : Addr
  t : Addr
  n : Addr
  f : Addr
  tl : List (List V)
  tv : List V
  nv : List (List Key × V)
def Sv.own (C : Addr) (r : Sv) : Own := [(r.f, .dK []), (r.n, .dT r.nv), (r.t, .lst r.tv), (r.s, .ins C r.dx (stFs r.t r.n r.f)), (r.dx, .own r.s)]
def Sv.all (r : Sv) : Pr := pAll RP r.tl r.tv
section
variable {P : Program} {w : World} {K : PySem.W.Frag} {mg : Str → Option Value} {base : Heap} {C : Addr}
theorem ok_Store_init (T : Sto K mg C) : MkD P w K mg base C 1 (spM (fun d : Addr × Addr => [(d.1, .ins C d.2 []), (d.2, .own d.1)]) (fun r : Sv => r.own C) (fun d vs => Pm.PC (RV (.ref d.1)) PN vs) (fun d r v => pAnd (pP (v = .non ∧ r.s = d.1 ∧ r.nv = [] ∧ r.tl = [[], []])) r.all)) := by
  obtain ⟨f, fd, F, M⟩ := T.ini
  refine ⟨f, fd, ["self"], fn_mkM F cStore___init__ (fun d vs G h => len1 h) fun cdv Ar outer s H vs d A G0 D hr hq hn => in1 fun v1 => ?_, M, F.bindsN (ps := ["self"]) fun _ _ _ _ _ _ us hl => match us, hl with | [_], _ => rfl⟩
  have nd := cStore___init__.nd
  obtain ⟨sA, dx⟩ := d
  refine B3.v (fun G h => h.2) fun e => ?_
  subst e
  dsimp only
  show B3 _ ([] ++ (sA, .ins C dx []) :: (dx, .own sA) :: A) _ _ _ _
  refine b_fldO (Ro := OL RP [[], []]) [] T.cls T.nT (f_two (T := RP) e_tup0 e_tup0) (fun q => e_v 0) (by decide) fun t ob => ?_
  refine B3.ex fun tv => B3.fact (fun G h => h.2.1) fun eo => ?_
  have eo : ob = .lst tv := eo
  subst eo
  refine B3.pre (Δ := pAnd (pSame G0) (pAll RP [[], []] tv)) ?_ fun G h => ⟨h.1.1, h.2.2⟩
  show B3 _ ([(t, .lst tv)] ++ (sA, .ins C dx [("triples", .ref t)]) :: (dx, .own sA) :: A) _ _ _ _
  refine b_fldO (Ro := fun o => pP (o = .dT [])) [(t, .lst tv)] T.cls T.nN f_dnewT (fun q => e_v 0) (by show 1 < 1000; decide) fun n ob => ?_
  refine B3.fact (fun G h => h.2) fun eo => ?_
  have eo : ob = .dT [] := eo
  subst eo
  show B3 _ ([(n, .dT []), (t, .lst tv)] ++ (sA, .ins C dx [("triples", .ref t), ("numbers", .ref n)]) :: (dx, .own sA) :: A) _ _ _ _
  refine b_fldO (Ro := fun o => pP (o = .dK [])) [(n, .dT []), (t, .lst tv)] T.cls T.nF f_dnew (fun q => e_v 0) (by show 2 < 1000; decide) fun f2 ob => ?_
  refine B3.fact (fun G h => h.2) fun eo => ?_
  have eo : ob = .dK [] := eo
  subst eo
  refine b_nil fun H ok g => ?_
  rw [hn]
  exact hq .non ⟨sA, dx, t, n, f2, [[], []], tv, []⟩ H ok g.1.1.1 ⟨⟨rfl, rfl, rfl, rfl⟩, g.1.1.2⟩
structure Ad where
  r : Sv
  x : Str
  lo : Int
  hi : Int
  h1 : r.tl = [[], []]
  h2 : r.nv = []
  h3 : lo ≠ hi
def Ad.vs (d : Ad) : List V := [.str d.x, .int d.lo, .int d.hi]
def Ad.ks (d : Ad) : List Key := [Sum.inr d.x, Sum.inl d.lo, Sum.inl d.hi]
/-- one row more -/
structure Ad.Out (d : Ad) (r : Sv) : Prop where
  s : r.s = d.r.s
  tl : r.tl = [[], [], d.vs]
  nv : r.nv = [(d.ks, .int 2)]
abbrev spAdd (C : Addr) : Sp := spM (fun d : Ad => d.r.own C) (fun r : Sv => r.own C) (fun d vs => pAnd d.r.all (Pm.PC (RV (.ref d.r.s)) (Pm.PC (RS d.x) (Pm.PC (RI d.lo) (Pm.PC (RI d.hi) PN))) vs)) (fun d r v => pAnd (pP (v = .int 2 ∧ d.Out r)) r.all)
theorem pc4 {R1 R2 R3 R4 : V → Pr} {vs : List V} {G : Hp} (h : (Pm.PC R1 (Pm.PC R2 (Pm.PC R3 (Pm.PC R4 PN))) vs).holds G) : ∃ v1 v2 v3 v4, vs = [v1, v2, v3, v4] ∧ (R1 v1).holds G ∧ (R2 v2).holds G ∧ (R3 v3).holds G ∧ (R4 v4).holds G := by
  obtain ⟨v, r, e1, rv, h2⟩ := h
  obtain ⟨u, x, y, e3, r1, r2, r3⟩ := pc3 h2
  cases e3
  exact ⟨v, u, x, y, e1, rv, r1, r2, r3⟩
theorem len4 {R1 R2 R3 R4 : V → Pr} {vs : List V} {G : Hp} {a b c d : Str} (h : (Pm.PC R1 (Pm.PC R2 (Pm.PC R3 (Pm.PC R4 PN))) vs).holds G) : vs.length = [a, b, c, d].length := by obtain ⟨v1, v2, v3, v4, rfl, _⟩ := pc4 h; rfl
theorem in4 {X : Cx} {A : Own} {S : Pr} {N : List Str} {vs : List V} {blk : List Stmt} {D : Ends} {R1 R2 R3 R4 : V → Pr} (h : ∀ v1 v2 v3 v4, B3 X A (pAnd (pAnd (pAnd (pAnd S (R1 v1)) (R2 v2)) (R3 v3)) (R4 v4)) (start N [v1, v2, v3, v4]) blk D) : B3 X A (pAnd S (Pm.PC R1 (Pm.PC R2 (Pm.PC R3 (Pm.PC R4 PN))) vs)) (start N vs) blk D := fun H ok ⟨g, z⟩ => by
  obtain ⟨v1, v2, v3, v4, rfl, r1, r2, r3, r4⟩ := pc4 z
  exact h _ _ _ _ H ok ⟨⟨⟨⟨g, r1⟩, r2⟩, r3⟩, r4⟩
theorem ok_Store_add (T : Tx K mg) (S : Sto K mg C) : Md P w K mg base C "add_row" 1 (spAdd C) := by
  obtain ⟨f, fd, F, M⟩ := S.add
  refine ⟨f, fd, ["self", "letter", "low", "high"], fn_mkM F cStore_add_row (fun d vs G h => len4 h.2) fun cdv Ar outer s H vs d A G0 D hr hq hn => pre_swap (in4 fun v1 v2 v3 v4 => ?_), M, F.bindsN (ps := ["self", "letter", "low", "high"]) fun _ _ _ _ _ _ us hl => match us, hl with | [_, _, _, _], _ => rfl⟩
  have nd := cStore_add_row.nd
  have hu := hu_of hr
  obtain ⟨⟨sA, dx, t, n, f2, tl, tv, nv⟩, x, lo, hi, h1, h2, h3⟩ := d
  dsimp only at h1 h2 h3
  subst h1 h2
  refine B3.v (fun G h => h.1.1.1.2) fun e1 => B3.v (fun G h => h.1.1.2) fun e2 => B3.v (fun G h => h.1.2) fun e3 => B3.v (fun G h => h.2) fun e4 => ?_
  dsimp only at e1 e2 e3 e4
  subst e1 e2 e3 e4
  refine B3.pre (Δ := pAnd (pSame G0) (pAll RP [[], []] tv)) ?_ fun G h => ⟨h.1.1.1.1.1, h.1.1.1.1.2⟩
  show B3 _ ((f2, .dK []) :: (n, .dT []) :: (t, .lst tv) :: (sA, .ins C dx (stFs t n f2)) :: (dx, .own sA) :: A) _ _ _ _
  refine b_when ((t_eq (x := .int lo) (y := .int hi) (e_v 2) (e_v 3)).eq (t' := false) (by simp [h3])) (fun e => absurd e (by decide)) fun _ => ?_
  refine b_set 4 (R := RP [.str x, .int lo, .int hi]) (e_tupP (av_cons (e_v 1) (av_cons (e_v 2) (av_cons (e_v 3) av_nil))) (by show 3 ≤ 1000; decide)) fun v => ?_
  have hk : [V.str x, .int lo, .int hi] = ([Sum.inr x, Sum.inl lo, Sum.inl hi] : List Key).map kV := rfl
  have ts : ∀ {A' : Own} {Γ' : Pr} {pos p2 : Pos} {tv' : List V}, (sA, HO.ins C dx (stFs t n f2)) ∈ A' → E3 (cxOf CX0 P w K mg base nStore_add_row (Str.ofString "Store.add_row") (defScope sStore_add_row) f cdv Ar outer s H E0).nox A' Γ' ([some (.ref sA), some (.str x), some (.int lo), some (.int hi), some v] : L2.St) (.Attribute (.Name "self" p2) "triples" pos) (RV (.ref t)) := fun hm => e_fld S.cls S.nT hm (e_v 0) rfl
  have ns : ∀ {A' : Own} {Γ' : Pr} {pos p2 : Pos}, (sA, HO.ins C dx (stFs t n f2)) ∈ A' → E3 (cxOf CX0 P w K mg base nStore_add_row (Str.ofString "Store.add_row") (defScope sStore_add_row) f cdv Ar outer s H E0).nox A' Γ' ([some (.ref sA), some (.str x), some (.int lo), some (.int hi), some v] : L2.St) (.Attribute (.Name "self" p2) "numbers" pos) (RV (.ref n)) := fun hm => e_fld S.cls S.nN hm (e_v 0) rfl
  refine B3.fact (fun G h => (pAll_len h.1.2).symm) fun htl => ?_
  refine b_when (t_notinT (ks := [Sum.inr x, Sum.inl lo, Sum.inl hi]) (t := false) hu (e_x 4 (R := RP [.str x, .int lo, .int hi])) (ns (by simp)) (kvs := []) (by simp) rfl) (fun _ => ?_) fun e => absurd e (by decide)
  refine b_dputT [(f2, .dK [])] (ks := [Sum.inr x, Sum.inl lo, Sum.inl hi]) (R := RI 2) hu (E3.imp (e_len (n := 2) T.len (ts (tv' := tv) (by simp)) (s_own (vs := tv) (by simp)).s (fun vs G _ e => by cases (show vs = tv from e); exact htl)) fun _ _ h => h.2) (ns (by simp)) (e_x 4 (R := RP [.str x, .int lo, .int hi])) (by rw [sizeLine_eq]; decide) fun v5 => ?_
  refine B3.fact (fun G h => h.2) fun e5 => ?_
  have e5 : v5 = .int 2 := e5
  subst e5
  refine b_app [(f2, .dK []), (n, _)] (R := RP [.str x, .int lo, .int hi]) (ts (tv' := tv) (by simp)) (e_x 4 (R := RP [.str x, .int lo, .int hi])) (fun G h => by rw [htl, sizeLine_eq]; decide) (fun u => ?_) rfl (pe_bm PySem.F.plainAttrs_list PySem.F.slot_list_append PySem.F.type_list_append mt_append (evPE _) (eaPA _) rfl rfl rfl rfl rfl)
  refine b_gon rfl ?_
  refine b_retM hq ⟨sA, dx, t, n, f2, [[], [], [.str x, .int lo, .int hi]], tv ++ [u], [([Sum.inr x, Sum.inl lo, Sum.inl hi], .int 2)]⟩ rfl (e_dgetT (ks := [Sum.inr x, Sum.inl lo, Sum.inl hi]) (v := .int 2) hu (ns (by simp)) (e_x 4 (R := RP [.str x, .int lo, .int hi]) (h := by exact fun G h => h.1.1.2)) (kvs := putK [] [Sum.inr x, Sum.inl lo, Sum.inl hi] (.int 2)) (by simp) (by simp [valV, putK])) (fun v G h => ?_) (fun G h => h.1.1.1.1)
  exact ⟨⟨h.2, rfl, rfl, rfl⟩, pAll_app (xs := [[], []]) h.1.1.1.1.2 (pAll_one h.1.2)⟩
end
end L97
/-! E97b -/
set_option maxHeartbeats 2000000
namespace L97
open PySem PySem.Spec L2 Pm
section
variable {X : Cx} {A : Own} {Γ : Pr} {σ : L2.St} {a b c e : Expr} {pos : Pos} {tg : Expr}
theorem i_range02 {p : Pos} (hm : X.mg "range" = none) (ha : E3 X A Γ σ a (RI 0)) (hb : E3 X A Γ σ b (RI 2)) (hc : E3 X A Γ σ c (RI 2)) (hg : Gl X "range" := by rfl)
    (h1 : starEach [a, b, c] X.env = (false, eval a X.env) :: starEach [b, c] X.env := by rfl) (h2 : starEach [b, c] X.env = (false, eval b X.env) :: starEach [c] X.env := by rfl) (h3 : one1 X c := by rfl) (hpl : (backTo pos (starEach [b, c] X.env)).any (·.1) = false := by rfl) :
    I3 X A Γ σ tg (.Call (.Name "range" p) [a, b, c] [] pos) ([0] : List Nat) (fun (k : Nat) => RI k) := fun H Q ok g k =>
  Ei.of (pi_range3 hg hm (eaPA [a, b, c]) h1 hpl) (A3.ea (a_cons ha (a_cons hb (a_cons hc a_nil h3) h2) h1) ok g fun vs H1 x1 r => by
    obtain ⟨v1, v2, v3, rfl, r1, r2, r3⟩ := pc3 r
    cases (show v1 = .int 0 from r1)
    cases (show v2 = .int 2 from r2)
    cases (show v3 = .int 2 from r3)
    have hr : RgC 0 2 2 1 := ⟨by decide, by decide, by decide +kernel, by decide +kernel⟩
    refine ⟨_, _, _, 1, rfl, hr, k _ pTop H1 x1 (walkT_of (walk_rangeC (lo := 0) (c := 2) (n := 1)) rfl (fun _ _ => trivial) fun A i z H x H' hz ok g y => ?_) trivial⟩
    obtain ⟨eH, ex⟩ := y
    subst eH
    have hi := (List.getElem?_eq_some_iff.mp hz).1
    have hi0 : i = 0 := by simpa using hi
    subst hi0
    cases hz
    refine ⟨Ext.refl ok, ?_⟩
    rw [ex]
    show V.int _ = V.int _
    congr 1)
end
structure Tt where
  r : Sv
  x : Str
  a : Bool
  b : Bool
  h1 : r.tl = [[], []]
  h2 : r.nv = []
  h3 : a ≠ b
def bI (b : Bool) : Int := if b then 1 else 0
theorem bI_ne {a b : Bool} (h : a ≠ b) : bI a ≠ bI b := by cases a <;> cases b <;> simp_all [bI]
def Tt.ad (d : Tt) : Ad := ⟨d.r, d.x, bI d.a, bI d.b, d.h1, d.h2, bI_ne d.h3⟩
section
variable {P : Program} {w : World} {K : PySem.W.Frag} {mg : Str → Option Value} {base : Heap} {C : Addr}
theorem ok_Store_ttru (T : Tx K mg) (S : Sto K mg C) : Md P w K mg base C "take_truths" 2 (spM (fun d : Tt => d.r.own C) (fun r : Sv => r.own C) (fun d vs => pAnd d.r.all (Pm.PC (RV (.ref d.r.s)) (Pm.PC (RL RS [d.x]) (Pm.PC (RL RB [d.a, d.b]) PN)) vs)) (fun d r v => pAnd (pP (v = .int 2 ∧ d.ad.Out r)) r.all)) := by
  obtain ⟨f, fd, F, M⟩ := S.ttru
  refine ⟨f, fd, ["self", "letters", "row"], fn_mkM F cStore_take_truths (fun d vs G h => len3 h.2) fun cdv Ar outer s H vs d A G0 D hr hq hn => pre_swap (in3 fun v1 v2 v3 => ?_), M, F.bindsN (ps := ["self", "letters", "row"]) fun _ _ _ _ _ _ us hl => match us, hl with | [_, _, _], _ => rfl⟩
  have nd := cStore_take_truths.nd
  obtain ⟨r0, x, ba, bb, h1, h2, h3⟩ := d
  refine B3.v (fun G h => h.1.1.2) fun e1 => ?_
  subst e1
  refine B3.pre (Δ := pAnd (pAnd (pAnd (pSame G0) r0.all) (RL RS [x] v2)) (RL RB [ba, bb] v3)) ?_ fun G h => ⟨⟨⟨h.1.1.1.1, h.1.1.1.2⟩, h.1.2⟩, h.2⟩
  refine b_set 3 (R := RL (fun i : Int => RI i) [bI ba, bI bb]) (F3.rl (f_lc (own := [("truth", 5)]) bI (fun i : Int => RI i) (i_list (P := RB) (xs := [ba, bb]) (e_x 2)) (tc_name 5) (blkOk_by (N := nStore_take_truths) (sc := defScope sStore_take_truths) (by decide +kernel)) (fun Gd q t w2 hm s2 H2 C2 cl fp => e_intB T.int (e_x 5 (R := RB t) (h := by exact fun G h => h.2))) (by rw [sizeLine_eq]; show 2 < 16777216; decide))) fun v4 => ?_
  refine b_for (δ := Sv × V × List Int × Option V) (sd := fun d => [some (.ref r0.s), some v2, some v3, some d.2.1, d.2.2.2, none, none]) (Ad := fun d => d.1.own C ++ A) (Γd := fun d => pAnd (pAnd (pSame G0) d.1.all) (RL (fun i : Int => RI i) d.2.2.1 d.2.1)) (rel := fun i d => (i = 0 ∧ d.1 = r0 ∧ d.2.2.1 = [bI ba, bI bb]) ∨ (i = 1 ∧ (Tt.mk r0 x ba bb h1 h2 h3).ad.Out d.1 ∧ d.2.2.1 = [2])) (i_rev T.reversed (e_x 1 (R := RL RS [x]))) (tg_name 4) (r0, v4, [bI ba, bI bb], none) ⟨.inl ⟨rfl, rfl, rfl⟩, rfl, rfl⟩ (fun G h => ⟨⟨h.1.1.1.1, h.1.1.1.2⟩, h.2⟩) (fun Gd i z d w' hz hr2 => ?_) (fun d hr2 => ?_)
  · have hi := get_lt hz
    have hi0 : i = 0 := by simpa using hi
    subst hi0
    have hz : z = x := by simpa using hz.symm
    subst hz
    obtain ⟨r, vh, lh, sa⟩ := d
    dsimp only at hr2
    rcases hr2 with ⟨_, hr3, hr4⟩ | ⟨hr3, _⟩
    rotate_left
    · cases hr3
    subst hr3 hr4
    dsimp only
    refine b_setM 3 (m_lc (own := [("at", 6)]) (fun s : Sv => s.own C ++ A) (fun j s ys => (j = 0 ∧ s = r ∧ ys = []) ∨ (j = 1 ∧ (Tt.mk r z ba bb h1 h2 h3).ad.Out s ∧ ys = [((2 : Int), s)])) (fun (y : Int × Sv) v => pAnd (RI y.1 v) y.2.all) r (.inl ⟨rfl, rfl, rfl⟩) rfl (i_range02 T.range e_int (E3.imp (e_lenL (R := fun i : Int => RI i) (xs := [bI ba, bI bb]) T.len (e_x 3 (h := by exact fun G h => h.1.1.2))) fun _ _ h => h.2) e_int) (tc_name (Rz := fun k : Nat => RI k) 6) (blkOk_by (N := nStore_take_truths) (sc := defScope sStore_take_truths) (by decide +kernel)) (fun Gd2 q2 j k w2 s2 ys hk hs2 s3 H3 C3 cl fp => ?_) (by rw [sizeLine_eq]; decide)) (fun v sy => ?_)
    · have hj := get_lt hk
      have hj0 : j = 0 := by simpa using hj
      subst hj0
      have hk : k = 0 := by simpa using hk.symm
      subst hk
      rcases hs2 with ⟨_, hs3, hs4⟩ | ⟨hs3, _⟩
      rotate_left
      · cases hs3
      subst hs3 hs4
      refine M3.map (fun r : Sv => (r, ((2 : Int), r))) (m_meth S.cls (ok_Store_add T S) hr (Tt.mk s2 z ba bb h1 h2 h3).ad [q2] A rfl (p := s2.s) (dx := s2.dx) (fs := stFs s2.t s2.n s2.f) (by simp [Sv.own]) rfl (e_v 0) (a_cons (e_x 4 (R := RS z) (h := by exact fun G h => h.1.1.2)) (a_cons (e_atL (R := fun i : Int => RI i) (xs := [bI ba, bI bb]) 0 (e_x 3 (h := by exact fun G h => h.1.1.1.1.2)) (e_x 6 (R := RI (0 : Nat)) (h := by exact fun G h => h.2)) rfl rfl) (a_cons (e_atL (R := fun i : Int => RI i) (xs := [bI ba, bI bb]) 1 (e_x 3 (h := by exact fun G h => h.1.1.1.1.2)) (e_add (e_x 6 (R := RI (0 : Nat)) (h := by exact fun G h => h.2)) e_int) rfl rfl) a_nil))) (fun vs G h => ⟨h.1.1.1.1.1.1.2, ⟨_, _, rfl, rfl, h.2⟩⟩)) (fun _ _ _ _ => rfl) (fun r v G h => ?_)
      obtain ⟨_, ⟨e1, e2⟩, e3⟩ := h
      exact ⟨.inr ⟨rfl, e2, rfl⟩, e1, e3⟩
    · obtain ⟨s2, ys⟩ := sy
      refine B3.fact (fun G h => h.2.1) fun hs2 => ?_
      rcases hs2 with ⟨hs3, _⟩ | ⟨_, hs3, hs4⟩
      · cases hs3
      have hs4 : ys = [((2 : Int), s2)] := hs4
      subst hs4
      refine b_fin rfl (s2, v, [2], some w') (.inr ⟨rfl, hs3, rfl⟩) rfl rfl fun G h => ?_
      obtain ⟨h0, _, ad, vs, e1, e2, e3⟩ := h
      cases vs with
      | nil => exact e3.elim
      | cons u vs =>
        cases vs with
        | cons _ _ => exact e3.2.elim
        | nil => exact ⟨⟨⟨h0.1.1.1.1, e3.1.2⟩, ad, [u], e1, e2, e3.1.1, trivial⟩, h0.1.2⟩
  · obtain ⟨r, vh, lh, sa⟩ := d
    dsimp only at hr2
    rcases hr2 with ⟨hr3, _⟩ | ⟨_, hr3, hr4⟩
    · cases hr3
    subst hr4
    dsimp only
    exact b_retM hq r rfl (e_atL (R := fun i : Int => RI i) (xs := [2]) 0 (e_x 3 (h := by exact fun G h => h.2)) e_int rfl rfl) (fun v G h => ⟨⟨h.2, hr3⟩, h.1.1.2⟩) (fun G h => h.1.1)
end
end L97
/-! Pm25 -/
set_option maxHeartbeats 2000000
/-! Pm25: three names at once, return without a value, {k: v, l: w}. -/
namespace Pm
open PySem PySem.Spec L2
section
variable {X : Cx} {A B : Own} {Γ Δ : Pr} {σ : L2.St} {a b c e o : Expr} {R Ra Rb Rc : V → Pr} {pos apos cpos : Pos} {tg : Expr} {rest : List Stmt} {D : Ends}
/-- a, b, c = e, e a tuple of these plain values -/
theorem b_unp3 {u1 u2 u3 : V} (i j l : Nat) {x y z : Str} {p1 p2 p3 p4 : Pos} {kt : Nat} (h : E3 X A Γ σ e (RP [u1, u2, u3])) (k : B3 X A Γ (((σ.set i (some u1)).set j (some u2)).set l (some u3)) rest D)
    (hN : X.N.Nodup := by assumption) (hi : X.N[i]? = some x := by rfl) (hj : X.N[j]? = some y := by rfl) (hl : X.N[l]? = some z := by rfl) (hc : X.calm = true := by rfl) (hx : Loc X.env.scope x := by first | exact .inl rfl | exact .inr rfl) (hy : Loc X.env.scope y := by first | exact .inl rfl | exact .inr rfl) (hz : Loc X.env.scope z := by first | exact .inl rfl | exact .inr rfl)
    (hf : X.fn x = true ∨ X.env.scope.names.lookup x = some .local := by first | exact .inl rfl | exact .inr rfl) (hf2 : X.fn y = true ∨ X.env.scope.names.lookup y = some .local := by first | exact .inl rfl | exact .inr rfl) (hf3 : X.fn z = true ∨ X.env.scope.names.lookup z = some .local := by first | exact .inl rfl | exact .inr rfl)
    (h1 : (assignEach [.Name x p1, .Name y p2, .Name z p3] X.env).map (·.2) = assign (.Name x p1) X.env :: (assignEach [.Name y p2, .Name z p3] X.env).map (·.2) := by rfl) (h2 : (assignEach [.Name y p2, .Name z p3] X.env).map (·.2) = assign (.Name y p2) X.env :: (assignEach [.Name z p3] X.env).map (·.2) := by rfl) (h3 : (assignEach [.Name z p3] X.env).map (·.2) = assign (.Name z p3) X.env :: (assignEach [] X.env).map (·.2) := by rfl)
    (hn : (assignEach [.Name x p1, .Name y p2, .Name z p3] X.env).length = 3 := by rfl) (hst : (assignEach [.Name x p1, .Name y p2, .Name z p3] X.env).findIdx? (·.1) = none := by rfl)
    (hs : swapsWithSole [.Tuple [.Name x p1, .Name y p2, .Name z p3] kt p4] e pos.line X.env = pure false := by rfl) (hw : swappedStores [.Tuple [.Name x p1, .Name y p2, .Name z p3] kt p4] e X.env = pure none := by rfl) (h4 : (assignEach [.Tuple [.Name x p1, .Name y p2, .Name z p3] kt p4] X.env).map (·.2) = [assign (.Tuple [.Name x p1, .Name y p2, .Name z p3] kt p4) X.env] := by rfl) :
    B3 X A Γ σ (.Assign [.Tuple [.Name x p1, .Name y p2, .Name z p3] kt p4] e pos :: rest) D := fun H ok g =>
  b_cons (Es.of (ps_asg (evPE e) (pg_tup hc (pgs_cons (pg_name hN hi hx hf) (pgs_cons (pg_name hN hj hy hf2) (pgs_cons (pg_name hN hl hz hf3) pgs_nil h3) h2) h1) hn hst) hs hw h4) (h H _ ok g fun u H1 x1 r => by
    obtain ⟨ad, e1, ho⟩ := r
    have e1 : u = .ref ad := e1
    subst e1
    exact ⟨ad, [u1, u2, u3], rfl, SqT.of (hide_le _ _ ho), rfl, u1, [u2, u3], rfl, u2, [u3], rfl, u3, [], rfl, rfl, k H1 x1.ok (Γ.mono x1.same g)⟩))
/-- three names of a walk over such tuples -/
theorem tg_tri {β : Type} {f1 f2 f3 : β → V} (i j l : Nat) {x y z : Str} {p1 p2 p3 pos : Pos} {kt : Nat} (hc : X.calm = true := by rfl) (hN : X.N.Nodup := by assumption) (hi : X.N[i]? = some x := by rfl) (hj : X.N[j]? = some y := by rfl) (hl : X.N[l]? = some z := by rfl) (hx : Loc X.env.scope x := by first | exact .inl rfl | exact .inr rfl) (hy : Loc X.env.scope y := by first | exact .inl rfl | exact .inr rfl) (hz : Loc X.env.scope z := by first | exact .inl rfl | exact .inr rfl)
    (hf : X.fn x = true ∨ X.env.scope.names.lookup x = some .local := by first | exact .inl rfl | exact .inr rfl) (hf2 : X.fn y = true ∨ X.env.scope.names.lookup y = some .local := by first | exact .inl rfl | exact .inr rfl) (hf3 : X.fn z = true ∨ X.env.scope.names.lookup z = some .local := by first | exact .inl rfl | exact .inr rfl)
    (h1 : (assignEach [.Name x p1, .Name y p2, .Name z p3] X.env).map (·.2) = assign (.Name x p1) X.env :: (assignEach [.Name y p2, .Name z p3] X.env).map (·.2) := by rfl) (h2 : (assignEach [.Name y p2, .Name z p3] X.env).map (·.2) = assign (.Name y p2) X.env :: (assignEach [.Name z p3] X.env).map (·.2) := by rfl) (h3 : (assignEach [.Name z p3] X.env).map (·.2) = assign (.Name z p3) X.env :: (assignEach [] X.env).map (·.2) := by rfl)
    (hn : (assignEach [.Name x p1, .Name y p2, .Name z p3] X.env).length = 3 := by rfl) (hst : (assignEach [.Name x p1, .Name y p2, .Name z p3] X.env).findIdx? (·.1) = none := by rfl) :
    Tg3 X (.Tuple [.Name x p1, .Name y p2, .Name z p3] kt pos) (gTup X.K 3 (gCons (gName i) (gCons (gName j) (gCons (gName l) gNil)))) (fun t : β => RP [f1 t, f2 t, f3 t]) (fun (w : V × V × V) σ => ((σ.set i (some w.1)).set j (some w.2.1)).set l (some w.2.2)) (fun t w => pP (w = (f1 t, f2 t, f3 t))) :=
  ⟨pg_tup hc (pgs_cons (pg_name hN hi hx hf) (pgs_cons (pg_name hN hj hy hf2) (pgs_cons (pg_name hN hl hz hf3) pgs_nil h3) h2) h1) hn hst, fun t x σ A H Q ok ⟨a, e, ho⟩ k => ⟨a, [f1 t, f2 t, f3 t], e, SqT.of (hide_le _ _ ho), rfl, f1 t, [f2 t, f3 t], rfl, f2 t, [f3 t], rfl, f3 t, [], rfl, rfl, k (f1 t, f2 t, f3 t) rfl⟩⟩
/-- return -/
theorem b_retZ {ρ : Type} {A2 : ρ → Own} {A0 : Own} {G0 : Hp} {P : ρ → V → Pr} (hq : PostM A2 A0 G0 P D.rt) (r : ρ) (hA : A = A2 r ++ A0) (hp : Γ.le (P r .non)) (hs : Γ.le (pSame G0)) : B3 X A Γ σ (.Return none pos :: rest) D := fun H ok g => by
  subst hA
  exact b_cons (Es.of ps_retN (hq .non r H ok (hs _ g) (hp _ g)))
/-- {k: v, l: w} -/
theorem f_disp2 {ka kb va vb : Expr} {k l : Key} {v w : V} (ha : ∀ q : Addr × HO, E3 X (q :: A) Γ σ ka (RV (kV k))) (hb : ∀ q : Addr × HO, E3 X (q :: A) Γ σ va (RV v)) (hc : ∀ q : Addr × HO, E3 X (q :: A) Γ σ kb (RV (kV l))) (hd : ∀ q : Addr × HO, E3 X (q :: A) Γ σ vb (RV w)) : F3 X A Γ σ (.Dict [some ka, some kb] [va, vb] pos) (fun o => pP (o = .dK (mergeK [] [(k, v), (l, w)]))) := fun H Q ok g kk =>
  Ev.of (pe_disp (pps_cons (evPE ka) (evPE va) (pps_cons (evPE kb) (evPE vb) pps_nil)) rfl rfl (by simp) (by show 2 ≤ 15; decide)) fun D hD => by
    have n0 := New.laid (Ext.refl ok) hD (.dK [])
    refine ha (D, .dK []) _ _ n0.ok1 (Γ.mono n0.same g) fun y H1 x1 r1 => hb (D, .dK []) _ _ x1.ok (Γ.mono (n0.same.trans x1.same) g) fun z H2 x2 r2 => hc (D, .dK []) _ _ x2.ok (Γ.mono ((n0.same.trans x1.same).trans x2.same) g) fun y' H3 x3 r3 => hd (D, .dK []) _ _ x3.ok (Γ.mono (((n0.same.trans x1.same).trans x2.same).trans x3.same) g) fun z' H4 x4 r4 => ?_
    cases (show y = kV k from r1)
    cases (show z = v from r2)
    cases (show y' = kV l from r3)
    cases (show z' = w from r4)
    refine ⟨x4.ok.at_ _ (List.mem_cons_self ..), [(k, v), (l, w)], rfl, by show 2 ≤ 15; decide, ?_⟩
    obtain ⟨o1, e1, _⟩ := own_put (A1 := []) (o' := .dK (mergeK [] [(k, v), (l, w)])) x4.ok
    have e1' : hide ((D, .dK (mergeK [] [(k, v), (l, w)])) :: A) (upd H4 D (.dK (mergeK [] [(k, v), (l, w)]))) = hide ((D, .dK []) :: A) H4 := e1
    refine kk D (.dK (mergeK [] [(k, v), (l, w)])) _ ⟨upd_same, n0.out, n0.was, (own_app (B := [(D, .dK (mergeK [] [(k, v), (l, w)]))]) o1).1, ?_⟩ rfl
    show L2.Same (hide A H) (hide ((D, .dK (mergeK [] [(k, v), (l, w)])) :: A) (upd H4 D (.dK (mergeK [] [(k, v), (l, w)]))))
    rw [e1']
    exact (((n0.same.trans x1.same).trans x2.same).trans x3.same).trans x4.same
end
end Pm
/-! E97c -/
set_option maxHeartbeats 2000000
namespace L97
open PySem PySem.Spec L2 Pm
abbrev kZ (i : Int) : Key := Sum.inl i
def pd0 : List (Key × V) := [(kZ 0, .int 0), (kZ 1, .int 1)]
/-- what put_row writes to -/
structure Pw where
  r : Sv
  pl : Addr
  rw_ : Addr
  pd : List (Key × V)
  rv : List V
def Pw.own (C : Addr) (p : Pw) : Own := (p.rw_, .lst p.rv) :: (p.pl, .dK p.pd) :: p.r.own C
/-- a row's three -/
def trV (x : Str) (a b : Bool) : List V := [.str x, .int (bI a), .int (bI b)]
section
variable {P : Program} {w : World} {K : PySem.W.Frag} {mg : Str → Option Value} {base : Heap} {C : Addr}
theorem ok_Store_put0 (S : Sto K mg C) : Md P w K mg base C "put_row" 1 (spM (fun d : {d : Pw × Int // (valV d.1.pd (kZ d.2)).isSome = true} => d.1.1.own C) (fun r : Pw => r.own C) (fun d vs => Pm.PC (RV (.ref d.1.1.r.s)) (Pm.PC (RI d.1.2) (Pm.PC (RV (.ref d.1.1.pl)) (Pm.PC (RV (.ref d.1.1.rw_)) PN))) vs) (fun d r v => pP (v = .non ∧ r = d.1.1))) := by
  obtain ⟨f, fd, F, M⟩ := S.put
  refine ⟨f, fd, ["self", "number", "places", "rows"], fn_mkM F cStore_put_row (fun d vs G h => len4 h) fun cdv Ar outer s H vs ⟨⟨d, n⟩, hd⟩ A G0 D hr hq hn => in4 fun v1 v2 v3 v4 => ?_, M, F.bindsN (ps := ["self", "number", "places", "rows"]) fun _ _ _ _ _ _ us hl => match us, hl with | [_, _, _, _], _ => rfl⟩
  have nd := cStore_put_row.nd
  have hu := hu_of hr
  refine B3.v (fun G h => h.1.1.1.2) fun e1 => B3.v (fun G h => h.1.1.2) fun e2 => B3.v (fun G h => h.1.2) fun e3 => B3.v (fun G h => h.2) fun e4 => ?_
  subst e1 e2 e3 e4
  refine b_when (t_din (k := kZ n) (t := true) hu (e_v 1) (e_v 2) (sd_own (kvs := d.pd) (by simp [Pw.own])) (fun kv G _ z => by cases (show kv = _ from z); exact hd)) (fun _ => ?_) fun e => absurd e (by decide)
  exact b_retZ hq d rfl (fun _ _ => ⟨rfl, rfl⟩) (fun G h => h.1.1.1.1)
structure Pt where
  p : Pw
  x : Str
  a : Bool
  b : Bool
  h1 : p.r.tl = [[], [], trV x a b]
  h2 : p.pd = pd0
  h3 : p.rv = []
theorem ok_Store_put2 (S : Sto K mg C) (T : Tx K mg) : Md P w K mg base C "put_row" 2 (spM (fun d : Pt => d.p.own C) (fun r : Pw => r.own C) (fun d vs => pAnd d.p.r.all (Pm.PC (RV (.ref d.p.r.s)) (Pm.PC (RI 2) (Pm.PC (RV (.ref d.p.pl)) (Pm.PC (RV (.ref d.p.rw_)) PN))) vs)) (fun d r v => pAnd (pP (v = .non ∧ r.r = d.p.r ∧ r.pl = d.p.pl ∧ r.rw_ = d.p.rw_ ∧ r.pd = pd0 ++ [(kZ 2, .int 2)])) (pAnd d.p.r.all (pAll RP [trV d.x d.a d.b] r.rv)))) := by
  obtain ⟨f, fd, F, M⟩ := S.put
  refine ⟨f, fd, ["self", "number", "places", "rows"], fn_mkM F cStore_put_row (fun d vs G h => len4 h.2) fun cdv Ar outer s H vs ⟨⟨⟨sA, dx, t, n, f2, tl, tv, nv⟩, pl, rw_, pd, rv⟩, x, a, b, h1, h2, h3⟩ A G0 D hr hq hn => pre_swap (in4 fun v1 v2 v3 v4 => ?_), M, F.bindsN (ps := ["self", "number", "places", "rows"]) fun _ _ _ _ _ _ us hl => match us, hl with | [_, _, _, _], _ => rfl⟩
  have nd := cStore_put_row.nd
  have hu := hu_of hr
  dsimp only at h1 h2 h3
  subst h1 h2 h3
  refine B3.v (fun G h => h.1.1.1.2) fun e1 => B3.v (fun G h => h.1.1.2) fun e2 => B3.v (fun G h => h.1.2) fun e3 => B3.v (fun G h => h.2) fun e4 => ?_
  dsimp only at e1 e2 e3 e4
  subst e1 e2 e3 e4
  refine B3.pre (Δ := pAnd (pSame G0) (pAll RP [[], [], trV x a b] tv)) ?_ fun G h => ⟨h.1.1.1.1.1, h.1.1.1.1.2⟩
  let r0 : Sv := ⟨sA, dx, t, n, f2, [[], [], trV x a b], tv, nv⟩
  show B3 _ ((rw_, .lst []) :: (pl, .dK pd0) :: (r0.own C ++ A)) _ _ _ _
  refine b_when (t_din (k := kZ 2) (t := false) hu (e_v 1) (e_v 2) (sd_own (kvs := pd0) (by simp)) (fun kv G _ z => by cases (show kv = _ from z); decide)) (fun e => absurd e (by decide)) fun _ => ?_
  refine b_unp3 (u1 := .str x) (u2 := .int (bI a)) (u3 := .int (bI b)) 4 5 6 (e_at (R := RP (trV x a b)) (i := 2) (e_fld S.cls S.nT (p := sA) (dx := dx) (fs := stFs t n f2) (v := .ref t) (by simp [r0, Sv.own]) (e_v 0) rfl) (e_v 1) (s_own (vs := tv) (by simp [r0, Sv.own])).s fun vs G g e => by
    cases (show vs = tv from e)
    exact at_all (xs := [[], [], trV x a b]) (j := 2) rfl rfl tv G g.2) ?_
  have call : ∀ {Γ' : Pr} {σ' : L2.St} {p1 p2 p3 p4 p5 p6 : Pos} (c : Bool) {y : Str}, E3 (cxOf CX0 P w K mg base nStore_put_row (Str.ofString "Store.put_row") (defScope sStore_put_row) f cdv Ar outer s H E0).nox ((rw_, .lst []) :: (pl, .dK pd0) :: (r0.own C ++ A)) Γ' σ' (.Name y p3) (RI (bI c)) → True := fun _ _ _ => trivial
  have hb : ∀ c : Bool, (valV pd0 (kZ (bI c))).isSome = true := fun c => by cases c <;> decide
  refine b_exprM (m_meth S.cls (ok_Store_put0 S) hr ⟨(⟨r0, pl, rw_, pd0, []⟩, bI a), hb a⟩ [] A rfl (p := sA) (dx := dx) (fs := stFs t n f2) (by simp [r0, Sv.own]) rfl (e_v 0) (a_cons (e_v 5) (a_cons (e_v 2) (a_cons (e_v 3) a_nil))) (fun vs G h => ⟨_, _, rfl, rfl, h.2⟩)) fun v r => ?_
  refine B3.fact (fun G h => h.2.2) fun er => ?_
  have er : r = ⟨r0, pl, rw_, pd0, []⟩ := er
  subst er
  refine B3.pre (Δ := pAnd (pSame G0) (pAll RP [[], [], trV x a b] tv)) ?_ fun G h => h.1
  show B3 _ ((rw_, .lst []) :: (pl, .dK pd0) :: (r0.own C ++ A)) _ _ _ _
  refine b_exprM (m_meth S.cls (ok_Store_put0 S) hr ⟨(⟨r0, pl, rw_, pd0, []⟩, bI b), hb b⟩ [] A rfl (p := sA) (dx := dx) (fs := stFs t n f2) (by simp [r0, Sv.own]) rfl (e_v 0) (a_cons (e_v 6) (a_cons (e_v 2) (a_cons (e_v 3) a_nil))) (fun vs G h => ⟨_, _, rfl, rfl, h.2⟩)) fun v r => ?_
  refine B3.fact (fun G h => h.2.2) fun er => ?_
  have er : r = ⟨r0, pl, rw_, pd0, []⟩ := er
  subst er
  refine B3.pre (Δ := pAnd (pSame G0) (pAll RP [[], [], trV x a b] tv)) ?_ fun G h => h.1
  show B3 _ ([(rw_, .lst [])] ++ (pl, .dK pd0) :: (r0.own C ++ A)) _ _ _ _
  refine b_dput (k := kZ 2) (R := RI 2) [(rw_, .lst [])] hu (e_add (i := 0) (j := 2) (E3.imp (e_lenO (vs := []) T.len (e_v 3) (by simp)) fun _ _ h => h.2) e_int) (e_v 2) (e_v 1) (fun G h => by rw [sizeLine_eq]; decide) fun v5 => ?_
  refine B3.fact (fun G h => h.2) fun e5 => ?_
  have e5 : v5 = .int 2 := e5
  subst e5
  have hpd : putK pd0 (kZ 2) (V.int 2) = pd0 ++ [(kZ 2, .int 2)] := rfl
  rw [hpd]
  show B3 _ ([] ++ (rw_, .lst []) :: (pl, .dK (pd0 ++ [(kZ 2, .int 2)])) :: (r0.own C ++ A)) _ _ _ _
  have hv : ∀ c : Bool, valV (pd0 ++ [(kZ 2, V.int 2)]) (kZ (bI c)) = some (.int (bI c)) := fun c => by cases c <;> rfl
  refine b_ap [] 3 (R := RP (trV x a b)) (e_tupP (av_cons (e_v 4) (av_cons (e_dget (k := kZ (bI a)) hu (e_v 2) (e_v 5) (sd_own (kvs := pd0 ++ [(kZ 2, .int 2)]) (by simp)) (fun kv G _ z => by cases (show kv = _ from z); exact ⟨_, hv a, rfl⟩)) (av_cons (e_dget (k := kZ (bI b)) hu (e_v 2) (e_v 6) (sd_own (kvs := pd0 ++ [(kZ 2, .int 2)]) (by simp)) (fun kv G _ z => by cases (show kv = _ from z); exact ⟨_, hv b, rfl⟩)) av_nil))) (by show 3 ≤ 1000; decide)) (fun G h => by rw [sizeLine_eq]; decide) fun u => ?_
  refine b_nil fun H ok g => ?_
  rw [hn]
  exact hq .non ⟨r0, pl, rw_, pd0 ++ [(kZ 2, V.int 2)], [u]⟩ H ok g.1.1.1 ⟨⟨rfl, rfl, rfl, rfl, rfl⟩, g.1.1.2, pAll_one g.2⟩
end
end L97
/-! Pm26 -/
set_option maxHeartbeats 2000000
/-! Pm26: a method whose argument changes things, comparisons, returns of such. -/
namespace Pm
open PySem PySem.Spec L2
section
variable {X : Cx} {A B : Own} {Γ Δ : Pr} {σ : L2.St} {a b c e o : Expr} {R Ra Rb Rc : V → Pr} {pos apos cpos : Pos} {tg : Expr} {rest : List Stmt} {D : Ends}
theorem e_tupSameP {vs : List V} {p : Pos} (hm : X.mg "tuple" = none) (h : E3 X A Γ σ e (RP vs)) (hg : Gl X "tuple" := by rfl) (h1 : one1 X e := by rfl) : E3 X A Γ σ (.Call (.Name "tuple" p) [e] [] pos) (RP vs) := fun H Q ok g k =>
  Ev.of (pe_callTy call_tuple_of hg hm (by decide +kernel) (eaPA [e]) (by decide) (by decide) h1 (by rfl)) (A3.ea (a_cons h a_nil h1) ok g fun us H1 x1 r1 => by
    obtain ⟨v, rfl, r⟩ := pc1 r1
    have r' := r
    obtain ⟨t, e1, e2⟩ := r
    have e1 : v = .ref t := e1
    subst e1
    exact ⟨t, vs, rfl, .inr ⟨SqT.of (hide_le _ _ e2), k _ _ x1 r'⟩⟩)
/-- o.m(e), e changing what is owned -/
theorem m_methM {δ ρ ρ0 : Type} {A1 : δ → Own} {A2 : ρ → Own} {pre : δ → List V → Pr} {post : δ → ρ → V → Pr} {m : Str} {k k' : Nat} {p C dx : Addr} {fs : List (Str × V)} {pl : Sem Bool} {A' : ρ0 → Own} {Re : ρ0 → V → Pr} (Cd : δ → Prop) (c : Cls X.K C) (F : Md X.prog X.w X.K X.mg X.base C m k (spM A1 A2 pre post)) (hr : Room k' X.A) (B A0 : Own) (hm : (p, HO.ins C dx fs) ∈ A) (hl : fs.lookup m = none) (ho : E3 X A Γ σ o (RV (.ref p))) (he : M3 X A Γ σ e A' Re)
    (hd : ∀ r0 v G, (pAnd Γ (Re r0 v)).holds G → ∃ d, A' r0 = B ++ (A1 d ++ A0) ∧ (pre d [.ref p, v]).holds G ∧ Cd d) (hk : k ≤ k' := by first | decide | omega)
    (hst : starEach [e] X.env = (false, eval e X.env) :: starEach [] X.env := by rfl) (hpl : (backTo pos (starEach [] X.env)).any (·.1) = false := by rfl)
    (ht : eval (.Call (.Attribute o m apos) [e] [] pos) X.env = (do
      let ov ← eval o X.env
      standAt apos.atName
      let (f, first) ← holding [ov] (getMethod ov m pl)
      callWith pos f first (backTo pos (starEach [e] X.env)) (backToKw pos (keywordEach [] X.env))) := by rfl) : M3 (ρ := δ × ρ) X A Γ σ (.Call (.Attribute o m apos) [e] [] pos) (fun r => B ++ (A2 r.2 ++ A0)) (fun r v => pAnd (pP (Cd r.1)) (post r.1 r.2 v)) := fun H Q ok g kk => by
  obtain ⟨f, fd, ps, G, M, hb⟩ := F.ex
  refine Ev.of (pe_meth (evPE o) c M G (hr.mono hk) hb .nil pass0 (pa_cons (evPE e) pa_nil hst) hst hpl ht) (ho H _ ok g fun x H1 x1 r1 => ?_)
  cases (show x = .ref p from r1)
  refine ⟨p, dx, fs, rfl, x1.ok.at_ _ hm, hl, he H1 _ x1.ok (Γ.mono x1.same g) fun u r0 H2 x2 r2 => ?_⟩
  obtain ⟨d, hA, hpre, hC⟩ := hd r0 u _ ⟨Γ.mono (x1.same.trans x2.same) g, r2⟩
  have ok2 := x2.ok
  have sm2 := x2.same
  rw [hA] at ok2 sm2 hpre
  have p1 : (B ++ (A1 d ++ A0)).Perm (A1 d ++ (B ++ A0)) := by
    rw [← List.append_assoc, ← List.append_assoc]
    exact List.Perm.append_right _ List.perm_append_comm
  refine ⟨d, B ++ A0, own_perm p1 ok2, by rw [← hide_perm p1, List.append_nil]; exact hpre, fun v r H' x3 r3 => ?_⟩
  have p2 : (A2 r ++ (B ++ A0)).Perm (B ++ (A2 r ++ A0)) := by
    rw [← List.append_assoc, ← List.append_assoc]
    exact List.Perm.append_right _ List.perm_append_comm
  have sm3 := x3.same
  rw [← hide_perm p1, hide_perm p2] at sm3
  refine kk v (d, r) H' ⟨own_perm p2 x3.ok, (x1.same.trans sm2).trans sm3⟩ ⟨hC, by rw [← hide_perm p2]; exact r3⟩
/-- a comparison whose left side changes things -/
theorem m_cmpLG {ρ : Type} {A' : ρ → Own} {Ra : ρ → V → Pr} {Rb : V → Pr} {Rr : ρ → V → Pr} {op : CmpOp} {r : R2} (ho : OpR X (compareOp op) r) (hm : behindInMarks op b = false) (ha : M3 X A Γ σ a A' Ra) (hb : ∀ q, E3 X (A' q) Γ σ b Rb) (hr : ∀ q, Op3 (A' q) Γ (Ra q) Rb r (Rr q)) : M3 X A Γ σ (.Compare a [op] [b] pos) A' Rr := fun H Q ok g k =>
  Ev.of (pe_cmpR ho (evPE a) (evPE b) hm) (ha H _ ok g fun x q H1 x1 r1 => hb q H1 _ x1.ok (Γ.mono x1.same g) fun y H2 x2 r2 => hr q x y H2 Q x2.ok (Γ.mono (x1.same.trans x2.same) g) ((Ra q x).mono x2.same r1) r2 fun v H' x3 r3 => k v q H' ((x1.trans x2.chg).trans x3.chg) r3)
/-- return e, e changing what it made itself; that is let go -/
theorem b_retMF {ρ : Type} {A0 : Own} {G0 : Hp} {P : V → Pr} {A' : ρ → Own} {R : ρ → V → Pr} (Bx : ρ → Own) (hq : Post A0 G0 P D.rt) (h : M3 X A Γ σ e A' R) (hA : ∀ r, A' r = Bx r ++ A0) (hs : Γ.le (pSame G0)) (hp : ∀ r v, (pAnd (pOwn (Bx r)) (pAnd Γ (R r v))).le (P v)) : B3 X A Γ σ (.Return (some e) pos :: rest) D := fun H ok g' =>
  b_cons (Es.of (ps_ret (evPE e)) (h H _ ok g' fun v r H' x q => by
    have ok2 := x.ok
    have sm := x.same
    rw [hA r] at ok2 sm q
    obtain ⟨o1, o2⟩ := own_app ok2
    exact hq v H' o1 (((hs _ g').trans sm).trans hide_app) (hp r v _ ⟨o2, Γ.mono (sm.trans hide_app) g', (R r v).mono hide_app q⟩)))
end
end Pm
/-! Pm27 -/
set_option maxHeartbeats 2000000
/-! Pm27: is of bools, x += i, pop and extend of owned lists, [*xs, y], xs[::-1]. -/
namespace Pm
open PySem PySem.Spec L2
theorem cut_nat {vs : List V} {a b : Nat} (h : a ≤ vs.length) : cutV vs (some (a : Int)) (some (b : Int)) = (vs.drop a).take (b - a) := by
  unfold cutV
  rw [six_nat, six_nat, Nat.min_eq_left h]
  by_cases hb : b ≤ vs.length
  · rw [Nat.min_eq_left hb]
  · rw [Nat.min_eq_right (by omega), List.take_of_length_le (by rw [List.length_drop]; omega), List.take_of_length_le (by rw [List.length_drop]; omega)]
section
variable {X : Cx} {A B : Own} {Γ Δ : Pr} {σ : L2.St} {a b c e o : Expr} {R Ra Rb Rc : V → Pr} {pos apos cpos : Pos} {tg : Expr} {rest : List Stmt} {D : Ends}
theorem e_isB {s t : Bool} (ha : E3 X A Γ σ a (RB s)) (hb : E3 X A Γ σ b (RB t)) : E3 X A Γ σ (.Compare a [.Is] [b] pos) (RB (decide (s = t))) := e_cmp op_isBl (nomark _) (fun x y H Q ok g rx ry k => ⟨s, t, rx, ry, k _ _ (Ext.refl ok) rfl⟩) ha hb
theorem e_notB {s t : Bool} (ha : E3 X A Γ σ a (RB s)) (hb : E3 X A Γ σ b (RB t)) : E3 X A Γ σ (.Compare a [.IsNot] [b] pos) (RB (!decide (s = t))) := e_cmp op_notBl (nomark _) (fun x y H Q ok g rx ry k => ⟨s, t, rx, ry, k _ _ (Ext.refl ok) rfl⟩) ha hb
/-- x += e, ints -/
theorem b_augI {x : Str} {pos' : Pos} {m n : Int} (i : Nat) (h : E3 X A Γ σ e (RI n)) (k : B3 X A Γ (σ.set i (some (.int (m + n)))) rest D) (hσ : σ[i]? = some (some (.int m)) := by rfl) (hN : X.N.Nodup := by assumption) (hi : X.N[i]? = some x := by rfl) (hx : Loc X.env.scope x := by first | exact .inl rfl | exact .inr rfl) (hf : X.fn x = true ∨ X.env.scope.names.lookup x = some .local := by first | exact .inl rfl | exact .inr rfl) : B3 X A Γ σ (.AugAssign (.Name x pos') .Add e pos :: rest) D := fun H ok g =>
  b_cons (Es.of (ps_aug hN hi hx (evPE e) ip_add hf) ⟨.int m, hσ, h H _ ok g fun v H' x1 r => by
    cases (show v = .int n from r)
    exact ⟨m, n, rfl, rfl, k H' x1.ok (Γ.mono x1.same g)⟩⟩)
/-- xs.pop() -/
theorem m_pop (A1 : Own) {A2 : Own} {p : Addr} {vs : List V} {u : V} (hA : A = A1 ++ (p, .lst (vs ++ [u])) :: A2) (ho : E3 X A Γ σ o (RV (.ref p)))
    (hbase : attributeBase o "pop" X.env (eval o X.env) = eval o X.env := by rfl) (hline : (apos.endLine == cpos.line) = true := by rfl) : M3 (ρ := Unit) X A Γ σ (.Call (.Attribute o "pop" apos) [] [] cpos) (fun _ => A1 ++ (p, .lst vs) :: A2) (fun _ v => pP (v = u)) := fun H Q ok g k => by
  subst hA
  refine Ev.of (pe_bm0 PySem.F.plainAttrs_list PySem.F.slot_list_pop PySem.F.type_list_pop mt_pop (evPE o) hbase hline) (ho H _ ok g fun x H1 x1 r1 => ?_)
  cases (show x = .ref p from r1)
  obtain ⟨o1, o2, o3⟩ := own_put (o' := .lst vs) x1.ok
  refine ⟨.inl ⟨rfl, _, SqL.of o3⟩, p, vs ++ [u], u, rfl, rfl, o3, by simp, ?_⟩
  rw [List.dropLast_concat]
  exact k u () _ ⟨o1, by rw [o2]; exact x1.same⟩ rfl
/-- a, b = e, e changing things and giving a pair -/
theorem b_unpM2 {α β ρ : Type} {A' : ρ → Own} {R1 : α → V → Pr} {R2 : β → V → Pr} {x : α × β} (i j : Nat) {y z : Str} {p1 p2 p3 : Pos} {kt : Nat} (h : M3 X A Γ σ e A' (fun _ => RT2 R1 R2 x)) (k : ∀ r v w, B3 X (A' r) (pAnd (pAnd Γ (R1 x.1 v)) (R2 x.2 w)) ((σ.set i (some v)).set j (some w)) rest D)
    (hN : X.N.Nodup := by assumption) (hi : X.N[i]? = some y := by rfl) (hj : X.N[j]? = some z := by rfl) (hc : X.calm = true := by rfl) (hx : Loc X.env.scope y := by first | exact .inl rfl | exact .inr rfl) (hy : Loc X.env.scope z := by first | exact .inl rfl | exact .inr rfl)
    (hf : X.fn y = true ∨ X.env.scope.names.lookup y = some .local := by first | exact .inl rfl | exact .inr rfl) (hf2 : X.fn z = true ∨ X.env.scope.names.lookup z = some .local := by first | exact .inl rfl | exact .inr rfl)
    (h1 : (assignEach [.Name y p1, .Name z p2] X.env).map (·.2) = assign (.Name y p1) X.env :: (assignEach [.Name z p2] X.env).map (·.2) := by rfl) (h2 : (assignEach [.Name z p2] X.env).map (·.2) = assign (.Name z p2) X.env :: (assignEach [] X.env).map (·.2) := by rfl)
    (hn : (assignEach [.Name y p1, .Name z p2] X.env).length = 2 := by rfl) (hst : (assignEach [.Name y p1, .Name z p2] X.env).findIdx? (·.1) = none := by rfl)
    (hs : swapsWithSole [.Tuple [.Name y p1, .Name z p2] kt p3] e pos.line X.env = pure false := by rfl) (hw : swappedStores [.Tuple [.Name y p1, .Name z p2] kt p3] e X.env = pure none := by rfl) (h3 : (assignEach [.Tuple [.Name y p1, .Name z p2] kt p3] X.env).map (·.2) = [assign (.Tuple [.Name y p1, .Name z p2] kt p3) X.env] := by rfl) :
    B3 X A Γ σ (.Assign [.Tuple [.Name y p1, .Name z p2] kt p3] e pos :: rest) D := fun H ok g =>
  b_cons (Es.of (ps_asg (evPE e) (pg_tup hc (pgs_cons (pg_name hN hi hx hf) (pgs_cons (pg_name hN hj hy hf2) pgs_nil h2) h1) hn hst) hs hw h3) (h H _ ok g fun u r0 H1 x1 r => by
    obtain ⟨ad, v1, v2, e1, ho, r1, r2⟩ := r
    have e1 : u = .ref ad := e1
    subst e1
    exact ⟨ad, [v1, v2], rfl, SqT.of (hide_le _ _ ho), rfl, v1, [v2], rfl, v2, [], rfl, rfl, k r0 v1 v2 H1 x1.ok ⟨⟨Γ.mono x1.same g, r1⟩, r2⟩⟩))
/-- xs.extend(e) -/
theorem b_ext {α : Type} {T : α → V → Pr} {ys : List α} (A1 : Own) {A2 : Own} {p : Addr} {vs : List V} (ho : E3 X (A1 ++ (p, .lst vs) :: A2) Γ σ o (RV (.ref p))) (h : E3 X (A1 ++ (p, .lst vs) :: A2) Γ σ e (RL T ys)) (hl : vs.length + ys.length ≤ sizeLine) (k : ∀ us, B3 X (A1 ++ (p, .lst (vs ++ us)) :: A2) (pAnd Γ (pAll T ys us)) σ rest D)
    (he : starEach [e] X.env = (false, eval e X.env) :: starEach [] X.env := by rfl) (hbase : attributeBase o "extend" X.env (eval o X.env) = eval o X.env := by rfl)
    (hfew : ((backTo cpos (starEach [e] X.env)).all (fun x => !x.1) && (backToKw cpos (keywordEach [] X.env)).all (fun x => x.1.isSome) && decide ([e].length + ([] : List Keyword).length + (if ([] : List Keyword).isEmpty then 0 else 1) < 30)) = true := by rfl)
    (hline : (apos.endLine == cpos.line) = true := by rfl) (hplain : (backTo cpos (starEach [] X.env)).any (·.1) = false := by rfl)
    (hs : swapsWith (.Call (.Attribute o "extend" apos) [e] [] cpos) none pos.line X.env = pure false := by rfl) : B3 X (A1 ++ (p, .lst vs) :: A2) Γ σ (.Expr (.Call (.Attribute o "extend" apos) [e] [] cpos) pos :: rest) D := fun H ok g =>
  b_cons (Es.of (ps_expr (pe_bm PySem.F.plainAttrs_list PySem.F.slot_list_extend PySem.F.type_list_extend mt_extend (evPE o) (eaPA [e]) hbase hfew hline he hplain) hs) (ho H _ ok g fun u H1 x1 r1 => by
    cases (show u = .ref p from r1)
    have hm : (p, HO.lst vs) ∈ A1 ++ (p, .lst vs) :: A2 := List.mem_append_right _ (List.mem_cons_self ..)
    refine ⟨.inl ⟨rfl, _, SqL.of (x1.ok.at_ _ hm)⟩, A3.ea (a_cons h a_nil he) x1.ok (Γ.mono x1.same g) fun ws H2 x2 r2 => ?_⟩
    obtain ⟨v, rfl, b, us, e1, hb, hall⟩ := pc1 r2
    have e1 : v = .ref b := e1
    subst e1
    obtain ⟨o1, o2, o3⟩ := own_put (o' := .lst (vs ++ us)) x2.ok
    refine ⟨p, b, vs, us, rfl, rfl, o3, hide_le _ _ hb, by rw [← pAll_len hall]; exact hl, k us _ o1 ?_⟩
    rw [o2]
    exact ⟨Γ.mono (x1.same.trans x2.same) g, hall⟩))
/-- [*a, b] -/
theorem f_starI {α : Type} {T : α → V → Pr} {xs : List α} {y : α} {p1 : Pos} (ha : E3 X A Γ σ a (RL T xs)) (hb : E3 X A Γ σ b (T y)) (hl : xs.length + 1 ≤ sizeLine)
    (h1 : starEach [.Starred a p1, b] X.env = (true, eval a X.env) :: starEach [b] X.env := by rfl) (h2 : one1 X b := by rfl) : F3 X A Γ σ (.List [.Starred a p1, b] pos) (OL T (xs ++ [y])) := fun H Q ok g k =>
  Ev.of (pe_lst (StX.pa_star (evPE a) (pa_cons (evPE b) pa_nil h2) h1)) (ha H _ ok g fun x H1 x1 r1 => by
    obtain ⟨p, vs, rfl, hv, q1⟩ := r1
    refine ⟨p, vs, rfl, .inr (SqL.of (hide_le _ _ hv)), hb H1 _ x1.ok (Γ.mono x1.same g) fun y' H2 x2 r2 => ?_⟩
    have q1' := (pAll T xs vs).mono x2.same q1
    show (vs ++ [y']).length ≤ sizeLine ∧ _
    refine ⟨by rw [List.length_append, ← pAll_len q1']; exact hl, fun r hr => ?_⟩
    exact k r _ _ (New.laid (x1.trans x2) hr _) ⟨vs ++ [y'], rfl, (pAll T (xs ++ [y]) (vs ++ [y'])).mono (New.laid (Ext.refl x2.ok) hr _).same (pAll_app q1' (pAll_one r2))⟩)
/-- xs[::-1] -/
theorem pAll_rev {α β : Type} {R : α → β → Pr} {G : Hp} : ∀ {xs : List α} {vs : List β}, (pAll R xs vs).holds G → (pAll R xs.reverse vs.reverse).holds G
  | [], [], _ => trivial
  | x :: xs, v :: vs, h => by
    rw [List.reverse_cons, List.reverse_cons]
    exact pAll_app (pAll_rev h.2) (pAll_one h.1)
theorem f_revL {α : Type} {T : α → V → Pr} {xs : List α} {k1 : Nat} {p1 p2 p3 : Pos} (ha : E3 X A Γ σ a (RL T xs)) : F3 X A Γ σ (.Subscript a (.Slice none none (some (.UnaryOp .USub (.Constant (.int 1) k1 p1) p2)) p3) pos) (OL T xs.reverse) := fun H Q ok g k =>
  Ev.of (pe_revL (evPE a)) (ha H _ ok g fun x H1 x1 r1 => by
    obtain ⟨p, vs, rfl, hv, q1⟩ := r1
    exact ⟨p, vs, rfl, SqL.of (hide_le _ _ hv), fun r hr => k r _ _ (New.laid x1 hr _) ⟨vs.reverse, rfl, (pAll T xs.reverse vs.reverse).mono (New.laid (Ext.refl x1.ok) hr _).same (pAll_rev q1)⟩⟩)
/-- xs[m:n] -/
theorem f_mid {α : Type} {T : α → V → Pr} {xs : List α} {i j : Int} {p2 : Pos} (m n : Nat) (ha : E3 X A Γ σ a (RL T xs)) (hb : E3 X A Γ σ b (RI i)) (hc : E3 X A Γ σ c (RI j)) (hi : i = (m : Int)) (hj : j = (n : Int)) (hm : m ≤ xs.length) : F3 X A Γ σ (.Subscript a (.Slice (some b) (some c) none p2) pos) (OL T ((xs.drop m).take (n - m))) := fun H Q ok g k =>
  f_slice (l := some (m : Int)) (h := some (n : Int)) ha s_rl (po_some (evPE b)) (po_some (evPE c)) (fun H Q ok g k => hb H _ ok g fun v H' x r => ⟨(m : Int), by rw [← hi]; exact r, k _ x⟩) (fun H Q ok g k => hc H _ ok g fun v H' x r => ⟨(n : Int), by rw [← hj]; exact r, k _ x⟩) H Q ok g fun p o H' nw ⟨vs, eo, r⟩ => k p o H' nw ⟨(vs.drop m).take (n - m), by rw [← cut_nat (by rw [← pAll_len r]; exact hm)]; exact eo, pAll_take _ (pAll_drop _ r)⟩
end
end Pm
/-! Pm28 -/
set_option maxHeartbeats 2000000
/-! Pm28: truth of lists; is None of things that are. -/
namespace Pm
open PySem PySem.Spec L2
section
variable {X : Cx} {A B : Own} {Γ Δ : Pr} {σ : L2.St} {a b c e o : Expr} {R Ra Rb Rc : V → Pr} {pos apos cpos p2 : Pos} {tg : Expr} {rest : List Stmt} {D : Ends}
/-- the truth of a list or tuple -/
theorem t_seq {P : List V → Pr} {t : Bool} (h : E3 X A Γ σ e Ra) (hs : Sees X.K A Γ Ra P) (hn : ∀ vs G, Γ.holds G → (P vs).holds G → (!vs.isEmpty) = t)
    (he : ∀ whole, isTrue e X.env whole = (do let v ← whole; standAt e.pos; holding [v] (truthy v)) := by exact fun _ => rfl) : T3 X A Γ σ e t := fun H Q ok g k =>
  Et.of (pt_truth (evPE e) he) (h H _ ok g fun v H1 x1 r1 => by
    obtain ⟨q, vs, e1, hq, hp⟩ := hs v H1 x1.ok (Γ.mono x1.same g) r1
    subst e1
    have hb := hn vs _ (Γ.mono x1.same g) hp
    refine ⟨t, ?_, k H1 x1⟩
    rcases hq with hq | hq
    · exact .inl ⟨vs, hq, hb.symm⟩
    · exact .inr (.inl ⟨vs, hq, hb.symm⟩))
theorem t_lst {α : Type} {T : α → V → Pr} {xs : List α} (h : E3 X A Γ σ e (RL T xs)) (he : ∀ whole, isTrue e X.env whole = (do let v ← whole; standAt e.pos; holding [v] (truthy v)) := by exact fun _ => rfl) : T3 X A Γ σ e (!xs.isEmpty) :=
  t_seq h s_rl.s (fun vs G _ z => by have := pAll_len z; cases xs <;> cases vs <;> simp_all) he
theorem t_own {p : Addr} {vs : List V} (hm : (p, HO.lst vs) ∈ A) (h : E3 X A Γ σ e (RV (.ref p))) (he : ∀ whole, isTrue e X.env whole = (do let v ← whole; standAt e.pos; holding [v] (truthy v)) := by exact fun _ => rfl) : T3 X A Γ σ e (!vs.isEmpty) :=
  t_seq h (s_own hm).s (fun ws G _ z => by rw [show ws = vs from z]) he
theorem T3.ex {α : Type} {p : α → Pr} {t : Bool} (h : ∀ x, T3 X A (pAnd Γ (p x)) σ e t) : T3 X A (pAnd Γ (pEx p)) σ e t := fun H Q ok ⟨g, x, r⟩ k => h x H Q ok ⟨g, r⟩ k
/-- for ..: over nothing -/
theorem b_for0 {β ω : Type} {Rz : β → V → Pr} {tg iter : Expr} {body : List Stmt} {g : TG} {stw : ω → L2.St → L2.St} {Γt : β → ω → Pr}
    (hi : I3 X A Γ σ tg iter ([] : List β) Rz) (ht : Tg3 X tg g Rz stw Γt) (k : B3 X A Γ σ rest D)
    (hp : PassesOwn (model X.prog X.w) X.A X.env X.xe := by exact PassesOwn.never) (hc : X.calm = true := by rfl) (hf : ∀ x, foldedSetIterable iter X.env x = pure x := by intro _; rfl) : B3 X A Γ σ (.For tg iter body [] pos :: rest) D :=
  b_for (δ := Unit) (sd := fun _ => σ) (Ad := fun _ => A) (Γd := fun _ => Γ) (rel := fun _ _ => True) hi ht () ⟨trivial, rfl, rfl⟩ (fun G h => h) (fun Gd i z d w hz _ => by cases hz) (fun d _ => k) hp hc hf
end
end Pm
/-! Pm29 -/
set_option maxHeartbeats 2000000
/-! Pm29: list(d.values()). -/
namespace VlP
open PySem PySem.Spec PySem.Calls PyProof.Rows PyProof.V
theorem vl_len : typeLookup (.type "dict_values") "__len__" = pure (some (.builtin "dict_values.__len__")) := by rw [typeLookup_type, builtinLookup_eq_fast]; kernel_rfl
section
variable {prog : Program} {w : World} {K : Type} [DecidableEq K] {knd : KeyKind prog w K} {A : Around} {E : Value → Shared → Prop} {s : Shared} {r d : Addr} {kvs : List (K × Value)} {ep : Nat}
theorem vl_hint (hT : s.TypeIs (.ref r) "dict_values") {Q : Bool → Shared → Prop} (h : Q false s) : wpAny (model prog w) A (Builtin.List.listLengthHint (.ref r)) Q E s := by
  unfold Builtin.List.listLengthHint
  refine wpAny_bind (wpAny_specialOf hT vl_len ?_)
  generalize hid : ("dict_values.__len__" : String) = id0
  wp_delta
  rw [show splitId id0 = some ("dict_values", "__len__") from by subst hid; decide +kernel]
  subst hid
  refine wpAny_bind (wpAny_isInstance (T := "dict_values") (b := true) hT (by rw [isSubtype_type]; kernel_rfl) ?_)
  refine wpAny_ite_split (fun hab => absurd hab (by decide)) (fun _ => ?_)
  refine wpAny_ite_split (fun _ => ?_) (fun hab => absurd (by decide +kernel) hab)
  exact wpAny_bind (wpAny_typeOf hT (wpAny_pure h))
theorem vl_extend {R : Result → Shared → Prop} (hh : A.handled = none) (hv : s.heap.IsValuesView r d) (hm : s.heap.DictAt knd d kvs ep) (S : Addr) (hSr : S ≠ r) (hSd : S ≠ d) (res : Value) (c₀ : Nat) (hS : s.heap.get? S = some { cls := .type "list", data := .seq #[] c₀ }) (hn : kvs.length ≤ sizeLine)
    (hR : ∀ h' tk acc' c', (∀ b o, b ≠ S → s.heap.get? b = some o → h'.get? b = some o) → h'.get? S = some { cls := .type "list", dict := none, data := .seq acc' c', slots := #[] } → ItemsOf (fun i v => ∃ k, kvs[i]? = some (k, v)) acc' kvs.length → R (.ok (.ret res)) { s with heap := h', toks := tk }) :
    wpAny (model prog w) A.in1 (Builtin.List.listExtendWith (.ref S) (.ref r) res)
      (fun fin s' => match fin with | .done f => R (.ok f) s' | .again c' => c'.quiet = true ∧ codeAny (model prog w) A c' R s') (fun e s' => R (.error e) s') s := by
  have hSlt : S < s.heap.objs.size := Heap.lt_size hS
  have hSI : S ≠ s.heap.objs.size := Nat.ne_of_lt hSlt
  have hdI : d < s.heap.objs.size := hm.lt_size
  have hSf : S ∉ [s.heap.objs.size, d] := by simp [hSI, hSd]
  have W := (Walks.dictValues (prog := prog) (w := w) (A := A.in1) (knd := knd) hh s.heap.objs.size d (Nat.ne_of_lt hdI) kvs ep).toS
  have key : ∀ (h : Heap) (c₁ tk : Nat), h.IsValIter s.heap.objs.size d 0 kvs.length ep → (∀ b o, b ≠ S → s.heap.get? b = some o → h.get? b = some o) →
      h.get? S = some { cls := .type "list", data := .seq #[] c₁ } → codeAny (model prog w) A (.builtin "list.extend.loop" ⟨[.ref S, .ref s.heap.objs.size, res], []⟩) R { s with heap := h, toks := tk } := by
    intro h c₁ tk hit hk hS₁
    refine codeAny_extend_loopS W hn S hSf res kvs.length 0 _ #[] c₁ rfl (Nat.zero_le _) ⟨hit, hm.at' fun o e => hk d o (Ne.symm hSd) e⟩ hS₁ (ItemsOf.nil _) fun s' acc' c' hmv hS' hacc => ?_
    rw [Moved.eq_with hmv]
    refine hR s'.heap s'.toks acc' c' (fun b o hb e => hmv.heap b o (fun hmem => ?_) (hk b o hb e)) hS' hacc
    rcases List.mem_cons.mp hmem with e' | hmem
    · exact hb e'
    · exact absurd (Heap.lt_size e) (by rw [List.mem_singleton.mp hmem]; exact Nat.lt_irrefl _)
  unfold Builtin.List.listExtendWith
  refine wpAny_bind (wpAny_typeOf (T := "dict_values") hv.typeIs ?_)
  have h1 : Builtin.List.listSameRef (.ref S) (.ref r) = false := by simp [Builtin.List.listSameRef, hSr]
  have h2 : (Value.type "dict_values" == Value.type "list") = false := by decide
  have h3 : (Value.type "dict_values" == Value.type "tuple") = false := by decide
  simp only [h1, h2, h3, Bool.or_false, Bool.false_eq_true, if_false]
  refine wpAny_bind (wpAny_pyIter_values hv hm ?_)
  have hS₁ := Heap.get?_push_of_some { cls := .type "dict_valueiterator", data := .fields #[.ref d, .int 0 0, .int kvs.length 0, .int ep 0] } hS
  have hit₁ : (s.heap.push { cls := .type "dict_valueiterator", data := .fields #[.ref d, .int 0 0, .int kvs.length 0, .int ep 0] }).IsValIter s.heap.objs.size d 0 kvs.length ep := ⟨_, Heap.get?_push_size _ rfl, rfl, rfl⟩
  refine wpAny_bind (wpAny_holding (vl_hint (let ⟨o, ho, hc, _⟩ := hv; ⟨o, Heap.get?_push_of_some _ ho, hc⟩) ?_))
  refine wpAny_ite_split (fun _ => ?_) (fun _ => wpAny_pure ⟨plainId_quiet PySem.F.plain_extend_loop _, key _ c₀ _ hit₁ (fun b o _ e => Heap.get?_push_of_some _ e) hS₁⟩)
  refine wpAny_bind (wpAny_rule ?_)
  refine wpAny_bind ?_
  show wpAny _ _ (updateSeq S (·.push .none) >>= fun _ => updateSeq S (·.pop)) _ _ _
  refine wpAny_bind (wpAny_updateSeq hS₁ rfl ?_)
  have hS₂ := Heap.get?_update_self (Obj.mapSeq (·.push Value.none)) hS₁ rfl
  refine wpAny_updateSeq (hz := by seq_fits) hS₂ rfl ?_
  have hS₃ := Heap.get?_update_self (Obj.mapSeq (·.pop)) hS₂ rfl
  have oth : ∀ b o, b ≠ S → (s.heap.push { cls := .type "dict_valueiterator", data := .fields #[.ref d, .int 0 0, .int kvs.length 0, .int ep 0] }).get? b = some o → _ = some o := fun b o hb e => (Heap.get?_update_other _ (Obj.mapSeq (·.pop)) (Ne.symm hb)).trans ((Heap.get?_update_other _ (Obj.mapSeq (·.push Value.none)) (Ne.symm hb)).trans e)
  exact wpAny_pure ⟨plainId_quiet PySem.F.plain_extend_loop _, key _ _ _ (hit₁.at fun o e => oth _ o (Ne.symm hSI) e) (fun b o hb e => oth b o hb (Heap.get?_push_of_some _ e)) hS₃⟩
theorem vl_init {R : Result → Shared → Prop} (hh : A.handled = none) (hv : s.heap.IsValuesView r d) (hm : s.heap.DictAt knd d kvs ep) (S : Addr) (hSr : S ≠ r) (hSd : S ≠ d) (hS : s.heap.get? S = some { cls := .type "list", data := .seq #[] }) (hn : kvs.length ≤ sizeLine)
    (hR : ∀ h' tk acc' c', (∀ b o, b ≠ S → s.heap.get? b = some o → h'.get? b = some o) → h'.get? S = some { cls := .type "list", dict := none, data := .seq acc' c', slots := #[] } → ItemsOf (fun i v => ∃ k, kvs[i]? = some (k, v)) acc' kvs.length → R (.ok (.ret .none)) { s with heap := h', toks := tk }) :
    wpAny (model prog w) A.in1 (Builtin.«list.__init__» ⟨[.ref S, .ref r], []⟩)
      (fun fin s' => match fin with | .done f => R (.ok f) s' | .again c' => c'.quiet = true ∧ codeAny (model prog w) A c' R s') (fun e s' => R (.error e) s') s := by
  show wpAny _ _ (do let old ← Builtin.List.listItems (.ref S); Builtin.List.listUpdate (.ref S) (fun _ => #[]); letGo old.toList.reverse; Builtin.List.listExtendWith (.ref S) (.ref r) .none) _ _ s
  refine wpAny_bind ?_
  unfold Builtin.List.listItems
  refine wpAny_bind (wpAny_seqItems hS rfl (wpAny_pure ?_))
  show wpAny _ _ (updateSeq S (fun _ => #[]) >>= fun _ => letGo (#[] : Array Value).toList.reverse >>= fun _ => Builtin.List.listExtendWith (.ref S) (.ref r) .none) _ _ s
  refine wpAny_bind (wpAny_updateSeq hS rfl ?_)
  have hS₂ := Heap.get?_update_self (Obj.mapSeq (fun _ => (#[] : Array Value))) hS rfl
  have oth : ∀ b o, b ≠ S → s.heap.get? b = some o → (s.heap.update S (Obj.mapSeq (fun _ => (#[] : Array Value)))).get? b = some o :=
    fun b o hb e => (Heap.get?_update_other _ _ (Ne.symm hb)).trans e
  refine wpAny_bind (wpAny_letGo ?_)
  exact vl_extend (s := { s with heap := _ }) hh (let ⟨o, ho, x⟩ := hv; ⟨o, oth r o (Ne.symm hSr) ho, x⟩) (hm.at' fun o e => oth d o (Ne.symm hSd) e) S hSr hSd .none _ hS₂ hn fun h' tk acc' c' hk hS' hacc => hR h' tk acc' c' (fun b o hb e => hk b o hb (oth b o hb e)) hS' hacc
theorem vl_call {Q : Value → Shared → Prop} (hh : A.handled = none) (hv : s.heap.IsValuesView r d) (hm : s.heap.DictAt knd d kvs ep) (hn : kvs.length ≤ sizeLine)
    (hQ : ∀ h' tk acc' c', (∀ b o, s.heap.get? b = some o → h'.get? b = some o) → h'.get? s.heap.objs.size = some { cls := .type "list", dict := none, data := .seq acc' c', slots := #[] } → ItemsOf (fun i v => ∃ k, kvs[i]? = some (k, v)) acc' kvs.length → Q (.ref s.heap.objs.size) { s with heap := h', toks := tk }) :
    wpAny (model prog w) A (call (.type "list") [.ref r]) Q E s := by
  refine callType_codes (Q₁ := fun obj s₁ => obj = .ref s.heap.objs.size ∧ s₁ = { s with heap := s.heap.push { cls := .type "list", data := .seq #[] } }) PySem.F.called_list (PySem.F.typeCall_list_1 _) PySem.F.entry_list_init
    (code_list_new _ ⟨rfl, rfl⟩) fun obj s₁ h₁ => ?_
  obtain ⟨rfl, rfl⟩ := h₁
  have hS : (s.heap.push { cls := .type "list", data := .seq #[] }).get? s.heap.objs.size = some { cls := .type "list", data := .seq #[] } := Heap.get?_push_size _ rfl
  obtain ⟨o, ho, x⟩ := id hv
  refine ⟨⟨_, hS, rfl⟩, PySem.F.args_list_init_2 _ _, vl_init (A := A.in1) hh ⟨o, Heap.get?_push_of_some _ ho, x⟩ (hm.push _) _ (Nat.ne_of_gt (Heap.lt_size ho)) (Nat.ne_of_gt hm.lt_size) hS hn fun h' tk acc' c' hk hS' hacc => ?_⟩
  exact ⟨rfl, hQ h' tk acc' c' (fun b o e => hk b o (Nat.ne_of_lt (Heap.lt_size e)) (Heap.get?_push_of_some _ e)) hS' hacc⟩
end
end VlP
/-! Pm30 -/
set_option maxHeartbeats 2000000
/-! Pm30: list(d.values()), xs.count(True), zip of tuples, isinstance with three types. -/
namespace L2
open PySem PySem.Spec PyProof.Rows PySem.SeqAt
theorem vals_of_kv {κ : Type} {ks : List (κ × V)} {vs : List (κ × Value)} (kv : KV ks vs) : Vals (ks.map (·.2)) (vs.map (·.2)) := by
  induction kv with
  | nil => exact .nil
  | cons h t ih => exact .cons h.2 ih
theorem items_snd {κ : Type} {vs : List (κ × Value)} {acc : Array Value} (h : ItemsOf (fun i v => ∃ k, vs[i]? = some (k, v)) acc vs.length) : acc.toList = vs.map (·.2) := by
  refine List.ext_getElem? fun i => ?_
  rw [Array.getElem?_toList]
  by_cases hi : i < vs.length
  · have hi2 : i < acc.size := by rw [h.1]; exact hi
    obtain ⟨k, e⟩ := h.2 i acc[i] (by simp [hi2])
    rw [List.getElem?_map, e]
    simp [hi2]
  · rw [List.getElem?_eq_none (by rw [List.length_map]; omega), Array.getElem?_eq_none (by rw [h.1]; omega)]
def rValsL : V → Hp → VK → Prop := fun x H Q => ∃ (d : Addr) (ks : List (Key × V)), x = .ref d ∧ H d = some (.dK ks) ∧ ∀ p, H p = none → Q (.ref p) (upd H p (.lst (ks.map (·.2))))
section
variable {X : Cx} {e : Expr} {te : TE} {p apos cpos pos : Pos}
theorem pe_listVals (hc : X.calm = true) (he : PE X e te) (hg : Gl X "list") (hm : X.mg "list" = none) (hv : bootBuiltins "list" = some (.type "list")) (hbase : attributeBase e "values" X.env (eval e X.env) = eval e X.env := by rfl) (hline : (apos.endLine == cpos.line) = true := by rfl)
    (hs : starEach [.Call (.Attribute e "values" apos) [] [] cpos] X.env = (false, eval (.Call (.Attribute e "values" apos) [] [] cpos) X.env) :: starEach [] X.env := by rfl) :
    PE X (.Call (.Name "list" p) [.Call (.Attribute e "values" apos) [] [] cpos] [] pos) (fun σ H Q => te σ H fun x H1 => rValsL x H1 Q) := by
  refine ⟨fun pins s σ H Q I hq => ?_⟩
  refine wpAny_Call_Name_kw (ld_blt I hg hm hv ?_)
  refine PyProof.Rows.callWith_type1 ?_ hs rfl
  rw [hs]
  show wpAny _ _ (spliced ((false, eval (.Call (.Attribute e "values" apos) [] [] cpos) X.env) :: backTo pos (starEach [] X.env))) _ _ s
  refine Calls.spliced_cons ?_
  refine wpAny_Call_method (T := "dict") (id := "dict.values") hbase rfl hline F.plainAttrs_dict F.slot_dict_values F.type_dict_values (thn (he.run pins s σ H _ I hq) fun u s1 ⟨x, H1, I1, rx, d, ks, ex, hd, q⟩ => ?_)
  subst ex
  obtain rfl : u = Value.ref d := rx
  obtain ⟨hz, hs0, vs, kv, hdo⟩ := I1.hok d _ hd
  obtain ⟨ep, hat⟩ := hdo.dictAt
  have lk : ks.length = vs.length := Paired.length kv
  have I2 : Inv X pins σ H1 { s1 with heap := s1.heap.push { cls := .type "dict_values", data := .fields #[.ref d] } } := I1.kept (t' := s1.toks) fun b ob q => Heap.get?_push_of_some _ q
  refine ⟨hdo.typeIs, hdo.mapOf.noDict, ?_⟩
  show wpAny _ _ (callWith cpos (.builtin "dict.values") [.ref d] [] []) _ X.xe s1
  refine method_meetsIn F.slot_dict_values F.entry_dict_values rfl (PySem.evalArgs_none ⟨rfl, hdo.typeIs, F.args_dict_values_1 _, _, meets_dict_values (mixKind X.prog X.w) d hs0, ⟨vs, hdo⟩, ?_⟩)
  refine Calls.spliced_nil ?_
  refine VlP.vl_call (knd := mixKind X.prog X.w) (kvs := vs) (ep := ep) (d := d) (I1.ok.hd hc) ⟨_, Heap.get?_push_size _ rfl, rfl, rfl⟩ (hat.push _) (by omega) fun h' tk acc c' hk e' hi => ?_
  refine ⟨.ref _, upd H1 _ (.lst (ks.map (·.2))), I2.laid hk (Nat.le_refl _) (show ObjOk X.prog X.w _ _ _ (.lst (ks.map (·.2))) from ⟨by rw [List.length_map]; exact hz, acc.toList, c', by rw [items_snd hi]; exact vals_of_kv kv, ?_⟩), rfl, q _ (I2.hok.fresh (Nat.le_refl _))⟩
  rw [Array.toArray_toList]
  exact e'
/-- xs.count(True) -/
def eqkB (k : Bool) (v : Value) : Bool := match v with
  | .bool n => n == k
  | _ => false
theorem eqkB_at {k : Bool} {A : Around} {s : Shared} : ∀ {us : List Value} {bs : List Bool}, Vals (bs.map V.bl) us → ∀ y ∈ us, EqAt A s y (.bool k) (eqkB k y)
  | _, [], .nil => fun y hy => by cases hy
  | _, b :: _, .cons h t => fun y hy => by
    rcases List.mem_cons.mp hy with e | e
    · rw [e, show _ = Value.bool b from h]
      exact EqAt.bool_bool b k
    · exact eqkB_at t y e
theorem eqkB_count {k : Bool} : ∀ {us : List Value} {bs : List Bool}, Vals (bs.map V.bl) us → us.countP (eqkB k) = bs.count k
  | _, [], .nil => rfl
  | _, b :: _, .cons h t => by
    have ih := eqkB_count (k := k) t
    rw [show _ = Value.bool b from h, List.countP_cons, List.count_cons, ih]
    rfl
def rCntB (K : PySem.W.Frag) : V → List V → Hp → VK → Prop := fun x xs H Q => ∃ (p : Addr) (bs : List Bool) (k : Bool), x = .ref p ∧ xs = [.bl k] ∧ SqL K H p (bs.map V.bl) ∧ Q (.int (bs.count k : Nat)) H
theorem mt_lcountB : MtR X "list.count" (rCntB X.K) := by
  intro pins s σ H x xs v us Q I rx rxs h
  obtain ⟨p, bs, k, rfl, rfl, hs, q⟩ := h
  cases rx
  obtain ⟨u, rfl, ru⟩ := rxs.one
  have ru : u = .bool k := ru
  subst ru
  obtain ⟨its, rv, ⟨⟨cls, dd, data, sl⟩, n, ho, hc, hdn, hd⟩, hlen⟩ := I.list hs
  simp only at hc hd
  subst hc hd
  refine call_meets PySem.F.slot_list_count ⟨_, ho, rfl⟩ PySem.F.entry_list_count (PySem.F.args_list_count_2 _ _)
    (SeqAt.list_countAt p its.toArray n dd sl (.bool k) (eqkB k)) ⟨ho, fun y hy => eqkB_at rv y (by simpa using hy), ?_⟩
  have ec : its.toArray.toList.countP (eqkB k) = bs.count k := eqkB_count rv
  refine ⟨.int (bs.count k : Nat), H, I.tok _, ⟨s.toks, ?_⟩, q⟩
  show Value.int ((its.toArray.toList.countP (eqkB k) : Nat) : Int) s.toks = Value.int ((bs.count k : Nat) : Int) s.toks
  rw [ec]
end
end L2
namespace Pm
open PySem PySem.Spec L2 RZ
section
variable {X : Cx} {A B : Own} {Γ Δ : Pr} {σ : L2.St} {a b c e o : Expr} {R Ra Rb Rc : V → Pr} {pos apos cpos : Pos} {tg : Expr} {rest : List Stmt} {D : Ends}
theorem pAll_map {α β : Type} {R : β → V → Pr} {f : α → β} {G : Hp} : ∀ {xs : List α} {vs : List V}, (pAll (fun x => R (f x)) xs vs).holds G → (pAll R (xs.map f) vs).holds G
  | [], [], _ => trivial
  | _ :: _, _ :: _, h => ⟨h.1, pAll_map h.2⟩
/-- list(d.values()) -/
theorem f_listVals {κ β : Type} {ι : κ → Key} {f : β → V} {d : List (κ × β)} {p : Pos} (hm : X.mg "list" = none) (h : E3 X A Γ σ e Ra) (hs : SeesD A Γ Ra (fun ks => pP (ks = kvs ι f d))) (hc : X.calm = true := by rfl) (hg : Gl X "list" := by rfl) (hbase : attributeBase e "values" X.env (eval e X.env) = eval e X.env := by rfl) (hline : (apos.endLine == cpos.line) = true := by rfl)
    (h1 : starEach [.Call (.Attribute e "values" apos) [] [] cpos] X.env = (false, eval (.Call (.Attribute e "values" apos) [] [] cpos) X.env) :: starEach [] X.env := by rfl) : F3 X A Γ σ (.Call (.Name "list" p) [.Call (.Attribute e "values" apos) [] [] cpos] [] pos) (OL (fun b => RV (f b)) (d.map (·.2))) := fun H Q ok g k =>
  Ev.of (pe_listVals hc (evPE e) hg hm (by decide +kernel) hbase hline h1) (h H _ ok g fun v H1 x1 r1 => by
    obtain ⟨q, ks, rfl, hd, ek⟩ := hs v H1 x1.ok (Γ.mono x1.same g) r1
    cases (show ks = _ from ek)
    refine ⟨q, _, rfl, hd, fun p hp => k p _ _ (New.laid x1 hp _) ⟨_, rfl, ?_⟩⟩
    have e : (kvs ι f d).map (·.2) = (d.map (·.2)).map f := by simp [kvs, List.map_map, Function.comp_def]
    rw [e]
    exact pAll_of)
/-- xs.count(b) -/
theorem e_cntB {bs : List Bool} {k : Bool} (ho : E3 X A Γ σ o (RL RB bs)) (ha : E3 X A Γ σ a (RB k)) (he : starEach [a] X.env = (false, eval a X.env) :: starEach [] X.env := by rfl) (hbase : attributeBase o "count" X.env (eval o X.env) = eval o X.env := by rfl)
    (hfew : ((backTo cpos (starEach [a] X.env)).all (fun x => !x.1) && (backToKw cpos (keywordEach [] X.env)).all (fun x => x.1.isSome) && decide ([a].length + ([] : List Keyword).length + (if ([] : List Keyword).isEmpty then 0 else 1) < 30)) = true := by rfl)
    (hline : (apos.endLine == cpos.line) = true := by rfl) (hplain : (backTo cpos (starEach [] X.env)).any (·.1) = false := by rfl) : E3 X A Γ σ (.Call (.Attribute o "count" apos) [a] [] cpos) (RI (bs.count k : Nat)) := fun H Q ok g kk =>
  Ev.of (pe_bm PySem.F.plainAttrs_list PySem.F.slot_list_count PySem.F.type_list_count mt_lcountB (evPE o) (eaPA [a]) hbase hfew hline he hplain) (ho H _ ok g fun v H1 x1 r1 => by
    obtain ⟨q, vs, rfl, hv, hr⟩ := r1
    refine ⟨.inl ⟨rfl, _, SqL.of (hide_le _ _ hv)⟩, A3.ea (a_cons ha a_nil he) x1.ok (Γ.mono x1.same g) fun ws H2 x2 r2 => ?_⟩
    obtain ⟨v, rfl, rv⟩ := pc1 r2
    have rv : v = .bl k := rv
    subst rv
    have ev : vs = bs.map V.bl := pAll_rv hr
    subst ev
    exact ⟨q, bs, k, rfl, rfl, SqL.of (hide_le _ _ (x2.same _ _ hv)), kk _ _ (x1.trans x2) rfl⟩)
/-- isinstance(x, (A, B, C)) -/
theorem e_isi3 {p tpos : Pos} {k : Nat} {c1 c2 c3 : Expr} {T C1 C2 C3 : String} {t : Bool} (hm : X.mg "isinstance" = none) (h : E3 X A Γ σ e Ra) (hT : ∀ v, (Ra v).le (pTy X.K T v)) (h1 : E3 X A Γ σ c1 (RV (.ty C1))) (h2 : E3 X A Γ σ c2 (RV (.ty C2))) (h3 : E3 X A Γ σ c3 (RV (.ty C3))) (hk : PySem.W.kitAny X.K (.type T) [.type C1, .type C2, .type C3] = some t) (hg : Gl X "isinstance" := by rfl)
    (s1 : starEach [e, .Tuple [c1, c2, c3] k tpos] X.env = (false, eval e X.env) :: starEach [.Tuple [c1, c2, c3] k tpos] X.env := by rfl) (s2 : one1 X (.Tuple [c1, c2, c3] k tpos) := by rfl) (s3 : starEach [c1, c2, c3] X.env = (false, eval c1 X.env) :: starEach [c2, c3] X.env := by rfl) (s4 : starEach [c2, c3] X.env = (false, eval c2 X.env) :: starEach [c3] X.env := by rfl) (s5 : one1 X c3 := by rfl) : E3 X A Γ σ (.Call (.Name "isinstance" p) [e, .Tuple [c1, c2, c3] k tpos] [] pos) (RB t) :=
  e_blt (es := [.Tuple [c1, c2, c3] k tpos]) call_isiT hm (by decide +kernel) (a_cons h (a_cons (o_names (a_cons h1 (a_cons h2 (a_cons h3 a_nil s5) s4) s3) (fun vs G z => by obtain ⟨v, w, x, rfl, _⟩ := pc3 z; show 3 ≤ 1000; decide)) a_nil s2) s1) (fun vs H Q ok g r kk => by
    obtain ⟨v, w, rfl, rv, tp, o, rfl, ho, ws, eo, rw⟩ := pc2 r
    obtain ⟨w1, w2, w3, rfl, r1, r2, r3⟩ := pc3 rw
    cases (show o = .tup [w1, w2, w3] from eo)
    cases (show w1 = .ty C1 from r1)
    cases (show w2 = .ty C2 from r2)
    cases (show w3 = .ty C3 from r3)
    exact ⟨v, tp, [.ty C1, .ty C2, .ty C3], .type T, [.type C1, .type C2, .type C3], t, rfl, hide_le _ _ ho, .cons (.ty C1) (.cons (.ty C2) (.cons (.ty C3) .nil)), tyX_mono hide_le (hT v _ rv), hk, kk _ _ (Ext.refl ok) rfl⟩) hg (by decide) (by decide) s1 (by show ((backTo pos (starEach [.Tuple [c1, c2, c3] k tpos] X.env)).any (·.1)) = false; rw [s2]; rfl)
theorem kit3 {K : PySem.W.Frag} {T C1 C2 C3 : String} {b1 b2 b3 : Bool} (h1 : kitB T C1 = some b1) (h2 : kitB T C2 = some b2) (h3 : kitB T C3 = some b3) : PySem.W.kitAny K (.type T) [.type C1, .type C2, .type C3] = some (b1 || (b2 || b3)) := by
  cases b1 with
  | true => exact kitAny_cons (kit_ty h1) (fun z => by cases z) (fun _ => rfl)
  | false => exact kitAny_cons (kit_ty h1) (fun _ => by rw [Bool.false_or]; exact kit2 h2 h3) (fun z => by cases z)
theorem walk_zipT {K : PySem.W.Frag} {a b : Addr} {xs ys : List V} {n : Nat} (hn : n = min xs.length ys.length) : Walk (ItzT K a b) n (fun H => SqT K H a xs ∧ SqT K H b ys) (YPair (fun i => xs[i]?) (fun i => ys[i]?)) := by
  subst hn
  exact ⟨fun i _ hi q => ⟨xs, ys, xs[i]'(by omega), ys[i]'(by omega), q.1, q.2, by simp, by simp⟩, fun _ q => ⟨xs, ys, q.1, q.2, by omega⟩, fun i H v H' _ q ⟨T, x, z, h1, h2, h3, h4, h5⟩ => ⟨T, x, z, h1, h2, h3, h4 xs q.1, h5 ys q.2⟩⟩
/-- zip of two tuples -/
theorem i_zipT {α β : Type} {P1 : α → V → Pr} {P2 : β → V → Pr} {xs : List α} {ys : List β} {p tpos : Pos} {elts : List Expr} {kk : Nat} {e2 : Expr} (hm : X.mg "zip" = none) (h : E3 X A Γ σ e (RT P1 xs)) (h2 : E3 X A Γ σ e2 (RT P2 ys)) (hg : Gl X "zip" := by rfl)
    (hs1 : starEach [e, e2] X.env = (false, eval e X.env) :: starEach [e2] X.env := by rfl) (hs2 : starEach [e2] X.env = (false, eval e2 X.env) :: starEach [] X.env := by rfl) (hpl : (backTo pos (starEach [e2] X.env)).any (·.1) = false := by rfl) :
    I3 X A Γ σ (.Tuple elts kk tpos) (.Call (.Name "zip" p) [e, e2] [] pos) (xs.zip ys) (RT2 P1 P2) := fun H Q ok g k =>
  Ei.of (pi_zipA hg hm (eaPA [e, e2]) hs1 hpl) (A3.ea (a_cons h (a_cons h2 a_nil hs2) hs1) ok g fun vs H1 x1 r => by
    obtain ⟨v, w, rfl, rv, rw⟩ := pc2 r
    obtain ⟨a, vs, ev, hv, hr⟩ := rv
    obtain ⟨b, ws, ew, hw, hr2⟩ := rw
    cases (show v = .ref a from ev)
    cases (show w = .ref b from ew)
    refine ⟨a, b, vs, ws, rfl, .inr ⟨SqT.of (hide_le _ _ hv), SqT.of (hide_le _ _ hw), k _ (pAnd (pAnd (pAt a (.tup vs)) (pAll P1 xs vs)) (pAnd (pAt b (.tup ws)) (pAll P2 ys ws))) H1 x1
      (walkT_of (walk_zipT (K := X.K) (a := a) (b := b) (xs := vs) (ys := ws) rfl) (by rw [List.length_zip, pAll_len hr, pAll_len hr2]) (fun H z => ⟨SqT.of z.1.1, SqT.of z.2.1⟩) fun A i z H x H' hz ok g y => ?_) ⟨⟨hv, hr⟩, hw, hr2⟩⟩⟩
    obtain ⟨T, x1, y1, rfl, hT, rfl, q1, q2⟩ := y
    obtain ⟨z1, z2⟩ := z
    have hz' := List.getElem?_zip_eq_some.mp hz
    have ex := Ext.laid ok hT (.tup [x1, y1])
    exact ⟨ex, T, x1, y1, rfl, hide_laid ok hT _, (P1 z1 x1).mono ex.same (pAll_at g.1.2 hz'.1 q1), (P2 z2 y1).mono ex.same (pAll_at g.2.2 hz'.2 q2)⟩)
end
end Pm
/-! Pm31 -/
set_option maxHeartbeats 2000000
/-! Pm31: sorted(xs), pairs of a text and a truth whose texts are unlike. -/
namespace L97
open PySem PySem.Spec L2 Pm
def insL (x : Lit) : Cl → Cl
  | [] => [x]
  | y :: r => if ltCps y.1.cps.toList x.1.cps.toList then y :: insL x r else x :: y :: r
def sortL : Cl → Cl
  | [] => []
  | x :: r => insL x (sortL r)
theorem insL_perm (x : Lit) : ∀ l, (insL x l).Perm (x :: l)
  | [] => List.Perm.refl _
  | y :: r => by
    unfold insL
    split
    · exact ((insL_perm x r).cons y).trans (List.Perm.swap x y r)
    · exact List.Perm.refl _
theorem sortL_perm : ∀ l, (sortL l).Perm l
  | [] => List.Perm.refl _
  | x :: r => (insL_perm x _).trans ((sortL_perm r).cons x)
theorem insL_pw {x : Lit} : ∀ {l : Cl}, l.Pairwise (fun a b => leS a.1 b.1) → (insL x l).Pairwise (fun a b => leS a.1 b.1)
  | [], _ => by simp [insL]
  | y :: r, h => by
    obtain ⟨h1, h2⟩ := List.pairwise_cons.mp h
    unfold insL
    split
    · rename_i hc
      refine List.pairwise_cons.mpr ⟨fun z hz => ?_, insL_pw h2⟩
      rcases List.mem_cons.mp ((insL_perm x r).mem_iff.mp hz) with e | hz
      · subst e
        exact lt_leS (ltS_iff.mp hc)
      · exact h1 z hz
    · rename_i hc
      have hxy : leS x.1 y.1 := by simpa using hc
      refine List.pairwise_cons.mpr ⟨fun z hz => ?_, h⟩
      rcases List.mem_cons.mp hz with e | hz
      · subst e
        exact hxy
      · exact leS_trans hxy (h1 z hz)
theorem sortL_pw : ∀ l : Cl, (sortL l).Pairwise (fun a b => leS a.1 b.1)
  | [] => List.Pairwise.nil
  | x :: r => insL_pw (sortL_pw r)
theorem key_inj {c : Cl} (hn : (c.map (·.1)).Nodup) {a b : Lit} (ha : a ∈ c) (hb : b ∈ c) (e : a.1 = b.1) : a = b := by
  induction c with
  | nil => cases ha
  | cons x r ih =>
    obtain ⟨n1, n2⟩ := List.nodup_cons.mp hn
    rcases List.mem_cons.mp ha with e1 | ha2
    · rcases List.mem_cons.mp hb with e2 | hb2
      · rw [e1, e2]
      · exact absurd (List.mem_map.mpr ⟨b, hb2, by rw [← e, e1]⟩) n1
    · rcases List.mem_cons.mp hb with e2 | hb2
      · exact absurd (List.mem_map.mpr ⟨a, ha2, by rw [e, e2]⟩) n1
      · exact ih n2 ha2 hb2
theorem sortL_uniq {c ys : Cl} (hn : (c.map (·.1)).Nodup) (h : ys.Perm c) (hs : ys.Pairwise (fun a b => leS a.1 b.1)) : ys = sortL c :=
  List.Perm.eq_of_pairwise (fun a b ha hb h1 h2 => key_inj hn (h.mem_iff.mp ha) ((sortL_perm c).mem_iff.mp hb) (leS_anti h1 h2)) hs (sortL_pw c) (h.trans (sortL_perm c).symm)
theorem pAll_perm {α β : Type} {R : α → β → Pr} {G : Hp} {xs ys : List β} (p : ys.Perm xs) : ∀ {as : List α}, (pAll R as xs).holds G → ∃ bs : List α, bs.Perm as ∧ (pAll R bs ys).holds G := by
  induction p with
  | nil => exact fun {as} h => ⟨as, List.Perm.refl _, h⟩
  | @cons x l1 l2 _ ih =>
    intro as h
    cases as with
    | nil => exact h.elim
    | cons a r =>
      obtain ⟨bs, p, q⟩ := ih h.2
      exact ⟨a :: bs, p.cons a, h.1, q⟩
  | swap x y l =>
    intro as h
    cases as with
    | nil => exact h.elim
    | cons a r =>
      cases r with
      | nil => exact h.2.elim
      | cons b r => exact ⟨b :: a :: r, List.Perm.swap a b r, h.2.1, h.1, h.2.2⟩
  | trans _ _ ih1 ih2 =>
    intro as h
    obtain ⟨bs, p1, q1⟩ := ih2 h
    obtain ⟨cs, p2, q2⟩ := ih1 q1
    exact ⟨cs, p2.trans p1, q2⟩
def keyOf (H : Hp) (v : V) : Str := match v with
  | .ref t => match H t with
    | some (.tup [.str x, .bl _]) => x
    | _ => ⟨#[]⟩
  | _ => ⟨#[]⟩
def bitOf (H : Hp) (v : V) : Bool := match v with
  | .ref t => match H t with
    | some (.tup [.str _, .bl b]) => b
    | _ => false
  | _ => false
theorem lit_at {H : Hp} {A : Own} {l : Lit} {v : V} (h : (RLit l v).holds (hide A H)) : ∃ t, v = .ref t ∧ H t = some (.tup [.str l.1, .bl l.2]) ∧ keyOf H v = l.1 ∧ bitOf H v = l.2 := by
  obtain ⟨t, v1, v2, e, ht, e1, e2⟩ := h
  have e1 : v1 = .str l.1 := e1
  have e2 : v2 = .bl l.2 := e2
  have e : v = .ref t := e
  subst e e1 e2
  have ht2 := hide_le _ _ ht
  exact ⟨t, rfl, ht2, by simp [keyOf, ht2], by simp [bitOf, ht2]⟩
theorem pAll_mem {α β : Type} {R : α → β → Pr} {G : Hp} : ∀ {as : List α} {vs : List β} {v : β}, (pAll R as vs).holds G → v ∈ vs → ∃ a ∈ as, (R a v).holds G
  | [], [], v, _, h => by cases h
  | a :: as, w :: vs, v, h, hm => by
    rcases List.mem_cons.mp hm with rfl | hm
    · exact ⟨a, List.mem_cons_self .., h.1⟩
    · obtain ⟨b, hb, r⟩ := pAll_mem h.2 hm
      exact ⟨b, List.mem_cons_of_mem _ hb, r⟩
theorem pAll_keys {H : Hp} {A : Own} : ∀ {c : Cl} {vs : List V}, (pAll RLit c vs).holds (hide A H) → vs.Pairwise (fun v u => SrtL.ltT (keyOf H u) (keyOf H v) = false) → c.Pairwise (fun a b => leS a.1 b.1)
  | [], [], _, _ => List.Pairwise.nil
  | a :: c, v :: vs, h, hp => by
    obtain ⟨p1, p2⟩ := List.pairwise_cons.mp hp
    refine List.pairwise_cons.mpr ⟨fun b hb => ?_, pAll_keys h.2 p2⟩
    obtain ⟨t, ev, _, ek, _⟩ := lit_at h.1
    obtain ⟨i, hi⟩ := List.getElem?_of_mem hb
    obtain ⟨u, hu, ru⟩ := pAll_get h.2 hi
    obtain ⟨t2, _, _, ek2, _⟩ := lit_at ru
    have z := p1 u (List.mem_of_getElem? hu)
    rw [ek, ek2] at z
    rw [leS_iff]
    exact List.not_lt.mp (of_decide_eq_false z)
section
variable {X : Cx} {A B : Own} {Γ Δ : Pr} {σ : L2.St} {e : Expr} {pos : Pos}
theorem f_sortLit {p : Pos} {c : Cl} (hm : X.mg "sorted" = none) (h : E3 X A Γ σ e (RCl c)) (hn : (c.map (·.1)).Nodup) (hg : Gl X "sorted" := by rfl) (h1 : one1 X e := by rfl) : F3 X A Γ σ (.Call (.Name "sorted" p) [e] [] pos) (OL RLit (sortL c)) := fun H Q ok g k =>
  Ev.of (pe_callB cr_sortedLit hg hm (by decide +kernel) (eaPA [e]) (by decide) (by decide) h1 (by rfl)) (A3.ea (a_cons h a_nil h1) ok g fun vs H1 x1 r1 => by
    obtain ⟨v, rfl, q, vs, ev, hd, hp⟩ := pc1 r1
    have ev : v = .ref q := ev
    subst ev
    refine ⟨q, vs, keyOf H1, bitOf H1, rfl, SqL.of (hide_le _ _ hd), fun x hx => ?_, fun v hv u hu ek => ?_, fun ys l hs py hl => ?_⟩
    · obtain ⟨a, _, ra⟩ := pAll_mem hp hx
      obtain ⟨t, ev, ht, k1, k2⟩ := lit_at ra
      exact ⟨t, ev, by rw [k1, k2]; exact ht⟩
    · obtain ⟨a, ha, ra⟩ := pAll_mem hp hv
      obtain ⟨b, hb, rb⟩ := pAll_mem hp hu
      obtain ⟨_, _, _, k1, k2⟩ := lit_at ra
      obtain ⟨_, _, _, k3, k4⟩ := lit_at rb
      rw [k1, k3] at ek
      rw [k2, k4, key_inj hn ha hb ek]
    · obtain ⟨bs, pb, rb⟩ := pAll_perm py hp
      have e := sortL_uniq hn pb (pAll_keys rb hs)
      subst e
      exact k l _ _ (New.laid x1 hl _) ⟨ys, rfl, (pAll RLit (sortL c) ys).mono (New.laid (Ext.refl x1.ok) hl _).same rb⟩)
end
end L97
/-! Pm32 -/
set_option maxHeartbeats 2000000
/-! Pm32: y = [..] on one line, the list owned. -/
namespace Pm
open PySem PySem.Spec L2
section
variable {X : Cx} {A B : Own} {Γ Δ : Pr} {σ : L2.St} {a b c e o : Expr} {R Ra Rb Rc : V → Pr} {pos apos cpos : Pos} {tg : Expr} {rest : List Stmt} {D : Ends}
theorem b_setLcO (i : Nat) {y : Str} {py spos : Pos} {β γ ω : Type} {zs : List β} {Rz : β → V → Pr} {own : List (Str × Nat)} {iter elt : Expr} {scope : Scope} {g : TG} {stw : ω → L2.St → L2.St} {Γt : β → ω → Pr} (f : β → γ) (Ry : γ → V → Pr)
    (hi : I3 X A Γ σ tg iter zs Rz) (ht : TgC X tg scope g Rz stw Γt) (ok : BlkOk X.N X.env.scope scope own)
    (he : ∀ (Gd : Pr) (q : Addr × HO) z w, z ∈ zs → Blk X scope fun Y => E3 Y (q :: A) (pAnd (pAnd Γ Gd) (Γt z w)) (stw w (wipe σ (own.map (·.2)))) elt (Ry (f z)))
    (hz : zs.length < sizeLine)
    (k : ∀ p vs, B3 X ((p, .lst vs) :: A) (pAnd Γ (pAll Ry (zs.map f) vs)) (σ.set i (some (.ref p))) rest D)
    (hw : ∀ w, wipe (stw w (wipe σ (own.map (·.2)))) (own.map (·.2)) = wipe σ (own.map (·.2)) := by intro _; rfl) (hy : X.N[i]? = some y := by rfl) (hyl : X.env.scope.names.lookup y = some .local := by rfl) (hsw : swapsWith (.ListComp elt [⟨tg, iter, [], 0⟩] scope pos) (some (.Name y py)) spos.line X.env = pure true := by rfl)
    (hcalm : X.calm = true := by rfl) (hN : X.N.Nodup := by assumption) (hs : ∀ x, foldedSetIterable iter X.env x = pure x := by intro _; rfl) : B3 X A Γ σ (.Assign [.Name y py] (.ListComp elt [⟨tg, iter, [], 0⟩] scope pos) spos :: rest) D := fun H okA gm =>
  b_cons (Es.of (ps_setLc hcalm hN hy hyl hsw (eiPI tg iter) ok ht.pg (fun _ _ _ _ _ => pts_nil) (teBlk_pe X scope elt) hs) (lcI_sem (ifs := []) (tt := tYes) (fun _ => true) f Ry hi ht ok (fun _ _ _ _ _ => pts_nil) (fun Gd q z w _ H' Q ok _ k => k H' (Ext.refl ok)) (fun Gd q z w hm _ => he Gd q z w hm) hz hw hcalm hN hs H (fun x H1 => Ess X rest D (σ.set i (some x)) H1) okA gm fun p o H' n r => by
    obtain ⟨vs, eo, r⟩ := r
    have eo : o = .lst vs := eo
    subst eo
    have e : (zs.filter fun _ => true) = zs := by simp
    rw [e] at r
    exact k p vs H' n.ok1 ⟨Γ.mono n.same gm, r⟩))
/-- a, b = e, e2 by way of a tuple, the first one a new object -/
theorem b_tupFE (i j : Nat) {y z : Str} {p1 p2 p3 p4 : Pos} {kt k2 : Nat} {Ra : HO → Pr} (ha : F3 X A Γ σ a Ra) (hb : ∀ q : Addr × HO, E3 X (q :: A) Γ σ b Rb) (k : ∀ p o w, B3 X ((p, o) :: A) (pAnd (pAnd Γ (Ra o)) (Rb w)) ((σ.set i (some (.ref p))).set j (some w)) rest D)
    (hN : X.N.Nodup := by assumption) (hi : X.N[i]? = some y := by rfl) (hj : X.N[j]? = some z := by rfl) (hc : X.calm = true := by rfl) (hx : Loc X.env.scope y := by first | exact .inl rfl | exact .inr rfl) (hy : Loc X.env.scope z := by first | exact .inl rfl | exact .inr rfl)
    (hf : X.fn y = true ∨ X.env.scope.names.lookup y = some .local := by first | exact .inl rfl | exact .inr rfl) (hf2 : X.fn z = true ∨ X.env.scope.names.lookup z = some .local := by first | exact .inl rfl | exact .inr rfl)
    (h1 : (assignEach [.Name y p1, .Name z p2] X.env).map (·.2) = assign (.Name y p1) X.env :: (assignEach [.Name z p2] X.env).map (·.2) := by rfl) (h2 : (assignEach [.Name z p2] X.env).map (·.2) = assign (.Name z p2) X.env :: (assignEach [] X.env).map (·.2) := by rfl)
    (hn : (assignEach [.Name y p1, .Name z p2] X.env).length = 2 := by rfl) (hst : (assignEach [.Name y p1, .Name z p2] X.env).findIdx? (·.1) = none := by rfl)
    (hs : swapsWithSole [.Tuple [.Name y p1, .Name z p2] kt p3] (.Tuple [a, b] k2 p4) pos.line X.env = pure false := by rfl) (hw : swappedStores [.Tuple [.Name y p1, .Name z p2] kt p3] (.Tuple [a, b] k2 p4) X.env = pure none := by rfl) (h3 : (assignEach [.Tuple [.Name y p1, .Name z p2] kt p3] X.env).map (·.2) = [assign (.Tuple [.Name y p1, .Name z p2] kt p3) X.env] := by rfl)
    (h4 : starEach [a, b] X.env = (false, eval a X.env) :: starEach [b] X.env := by rfl) (h5 : one1 X b := by rfl) :
    B3 X A Γ σ (.Assign [.Tuple [.Name y p1, .Name z p2] kt p3] (.Tuple [a, b] k2 p4) pos :: rest) D := fun H ok g =>
  b_cons (Es.of (ps_asg (pe_tup (eaPA [a, b])) (pg_tup hc (pgs_cons (pg_name hN hi hx hf) (pgs_cons (pg_name hN hj hy hf2) pgs_nil h2) h1) hn hst) hs hw h3) (ea_two (ha H _ ok g fun p o H1 n r => hb (p, o) H1 _ n.ok1 (Γ.mono n.same g) fun w H2 x2 r2 => ⟨Nat.le_of_lt (small1000 (by show 2 ≤ 1000; decide)), fun t ht => by
    have xl := Ext.laid x2.ok ht (.tup [.ref p, w])
    exact ⟨t, [.ref p, w], rfl, SqT.of upd_same, rfl, .ref p, [w], rfl, w, [], rfl, rfl, k p o w _ xl.ok ⟨⟨Γ.mono (n.same.trans (x2.same.trans xl.same)) g, (Ra o).mono (x2.same.trans xl.same) r⟩, (Rb w).mono xl.same r2⟩⟩⟩) h4 h5))
end
end Pm
/-! Px3 -/
set_option maxHeartbeats 4000000
/-! Px3: defs that raise, try .. except X as e, own defs called where an exception is handled. -/
namespace Pm
open PySem PySem.Spec L2
/-- a def that raises: from data d an exception of the class at C whose field fld is v -/
def spE {δ : Type} (pre : δ → List V → Pr) (C : Addr) (fld : Str) (v : V) : Sp := fun vs H Q E => ∃ (d : δ) (A : Own), A.Ok H ∧ (pre d vs).holds (hide A H) ∧ ∀ H' e, Ext A H H' → H' e = none → E (.ref C) (some e) (upd H' e (.xd [(fld, v)]))
structure FdE (P : Program) (w : World) (K : PySem.W.Frag) (mg : Str → Option Value) (base : Heap) (x : Str) (k : Nat) (sp : Sp) : Prop where
  ex : ∃ (f : Addr) (fd : FuncData) (ps : List Str), FnOk P w K mg base (L2N.CX P w) k f fd ps sp ∧ mg x = some (.ref f) ∧ PySem.W.keepIn K (.ref f) = true ∧ Binds K fd ps []
theorem fd_mkE {δ : Type} {pre : δ → List V → Pr} {C : Addr} {fld : Str} {v : V} {P : Program} {w : World} {K : PySem.W.Frag} {mg : Str → Option Value} {base : Heap} {x : Str} {params : Arguments} {body : List Stmt} {scope : Scope} {f : Addr} {fd : FuncData} {k : Nat} {N ps : List Str}
    (F : FunD K x x params body scope [] [] f fd) (gm : mg x = some (.ref f)) (S : FnScope N ps scope)
    (nb : ∀ (kV doc pm : Value) (an : Option Addr) (cdv ct : Value) (us : List Value), us.length = ps.length → bindArgs (PySem.W.fnOf x x params body scope .none kV doc pm an cdv ct) ⟨us, []⟩ = pure (ps.zip us))
    (hl : ∀ d vs G, (pre d vs).holds G → vs.length = ps.length)
    (hb : ∀ (cdv : Value) (Ar : Around) (outer : List Env) (s : Shared) (H : Hp) (vs : List V) (d : δ) (A : Own) (G0 : Hp) (D : Ends) (E : XK), Room k (Ar.deeper (PyProof.Rows.envOfC x scope s.heap.objs.size f cdv)) →
      (∀ H' e, A.Ok H' → L2.Same G0 (hide A H') → H' e = none → E (.ref C) (some e) (upd H' e (.xd [(fld, v)]))) →
      B3 (cxOf (L2N.CX P w) P w K mg base N x scope f cdv Ar outer s H E) A (pAnd (pSame G0) (pre d vs)) (start N vs) body D) : FdE P w K mg base x (k + 1) (spE pre C fld v) := by
  refine ⟨f, fd, ps, ?_, gm, F.kp, F.bindsN nb⟩
  refine F.ok S (fun vs H Q E ⟨d, A, ok, h, _⟩ => hl d vs _ h) fun cdv Ar outer s H vs Q E hr ⟨d, A, ok, h, q⟩ => ⟨_, essPSs (X := cxOf (L2N.CX P w) P w K mg base N x scope f cdv Ar outer s H E) body, ?_⟩
  exact hb cdv Ar outer s H vs d A (hide A H) { nx := fun _ H' => Q .non H', rt := Q } E hr (fun H' e ok' sm he => q H' e ⟨ok', sm⟩ he) H ok ⟨L2.Same.refl _, h⟩
/-- a def called where an exception is handled -/
structure FdH (P : Program) (w : World) (K : PySem.W.Frag) (mg : Str → Option Value) (base : Heap) (x : Str) (k : Nat) (sp : Sp) : Prop where
  ex : ∃ (f : Addr) (fd : FuncData) (ps : List Str), L2H.FnH P w K mg base CX0 k f fd ps sp ∧ mg x = some (.ref f) ∧ PySem.W.keepIn K (.ref f) = true ∧ Binds K fd ps []
theorem fd_mkH {δ : Type} {pre : δ → List V → Pr} {post : δ → V → Pr} {P : Program} {w : World} {K : PySem.W.Frag} {mg : Str → Option Value} {base : Heap} {x : Str} {params : Arguments} {body : List Stmt} {scope : Scope} {f : Addr} {fd : FuncData} {k : Nat} {N ps : List Str}
    (F : FunD K x x params body scope [] [] f fd) (gm : mg x = some (.ref f)) (S : FnScope N ps scope)
    (nb : ∀ (kV doc pm : Value) (an : Option Addr) (cdv ct : Value) (us : List Value), us.length = ps.length → bindArgs (PySem.W.fnOf x x params body scope .none kV doc pm an cdv ct) ⟨us, []⟩ = pure (ps.zip us))
    (hl : ∀ d vs G, (pre d vs).holds G → vs.length = ps.length)
    (hb : ∀ (cdv : Value) (Ar : Around) (outer : List Env) (s : Shared) (H : Hp) (vs : List V) (d : δ) (A : Own) (G0 : Hp) (D : Ends) (p : Addr × Obj), L2H.RoomH k (Ar.deeper (PyProof.Rows.envOfC x scope s.heap.objs.size f cdv)) → Post A G0 (post d) D.rt → (∀ σ H', D.nx σ H' = D.rt .non H') →
      B3 (L2H.cxH CX0 P w K mg base N x scope f cdv Ar outer s H E0 p).nox A (pAnd (pSame G0) (pre d vs)) (start N vs) body D) : FdH P w K mg base x (k + 1) (spF pre post) := by
  refine ⟨f, fd, ps, ?_, gm, F.kp, F.bindsN nb⟩
  obtain ⟨oc, od, dV, kV, doc, pm, an, cdv, ct, osl, rfl, lk, hcd, _, _⟩ := F.ex
  refine L2H.fn_ofH lk hcd S (fun vs H Q E ⟨d, A, ok, h, _⟩ => hl d vs _ h) fun Ar outer s H vs Q E p hot hr ⟨d, A, ok, h, q⟩ => ⟨_, (essPSs (X := (L2H.cxH CX0 P w K mg base N x scope f cdv Ar outer s H E p).nox) body).nox, ?_⟩
  exact hb cdv Ar outer s H vs d A (hide A H) { nx := fun _ H' => Q .non H', rt := Q } p hr (fun v H' ok' sm r => q v H' ⟨ok', sm⟩ r) (fun _ _ => rfl) H ok ⟨L2.Same.refl _, h⟩
section
variable {X : Cx} {A B : Own} {Γ Δ : Pr} {σ : L2.St} {a b c e o : Expr} {R Ra Rb Rc : V → Pr} {pos apos cpos : Pos} {es : List Expr} {rest : List Stmt} {D : Ends}
theorem e_cH {δ : Type} {pre : δ → List V → Pr} {post : δ → V → Pr} {x : Str} {k : Nat} {p : Pos} {Ps : List V → Pr} (F : FdH X.prog X.w X.K X.mg X.base x k (spF pre post)) (hr : L2H.RoomH k X.A) (hot : L2H.HotC X) (d : δ) (ha : A3 X A Γ σ (e :: es) Ps) (hp : ∀ vs, (pAnd Γ (Ps vs)).le (pre d vs) := by exact fun _ _ h => h.2) (hR : ∀ v, (post d v).le (R v) := by exact fun _ _ h => h) (hg : Gl X x := by rfl) (hdb : (x == ("__debug__" : Str)) = false := by decide)
    (he : starEach (e :: es) X.env = (false, eval e X.env) :: starEach es X.env := by rfl) (hpl : (backTo pos (starEach es X.env)).any (·.1) = false := by rfl) : E3 X A Γ σ (.Call (.Name x p) (e :: es) [] pos) R := fun H Q ok g k => by
  obtain ⟨f, fd, ps, G, hm, hk, hb⟩ := F.ex
  refine Ev.of (L2H.pe_callH (E := fun _ => E0) G hr hot hg hm hk hb (fun _ _ _ _ _ _ _ z => z.elim) (eaPA (e :: es)) hdb he hpl) ?_
  exact ha.ea ok g fun vs H1 x1 r1 => ⟨d, A, x1.ok, hp vs _ ⟨Γ.mono x1.same g, r1⟩, fun v H' x2 r2 => k v H' (x1.trans x2) (hR v _ r2)⟩
/-- raise X(e) -/
theorem b_raisePx {x fld : Str} {C : Addr} {W : WX} {v : V} {k : Nat} {p pos2 : Pos} (hc : X.calm = true) (T : PxT X.prog X.K X.mg x C fld) (hr : Room k X.A) (tk : L2N.Takes X W) (h : E3 X A Γ σ a (RV v)) (q : ∀ H' e, A.Ok H' → Γ.holds (hide A H') → H' e = none → W (.ref C) (some e) σ (upd H' e (.xd [(fld, v)])))
    (hg : Gl X x := by rfl) (hdb : (x == ("__debug__" : Str)) = false := by decide) (he : starEach (a :: []) X.env = (false, eval a X.env) :: starEach [] X.env := by rfl) (hpl : (backTo pos (starEach [] X.env)).any (·.1) = false := by rfl) :
    B3 X A Γ σ (.Raise (some (.Call (.Name x p) [a] [] pos)) none pos2 :: rest) D := fun H ok g =>
  b_cons (Es.of (ps_raisePx hc T hr tk (eaPA [a]) hg hdb he hpl) (A3.ea (a_cons h a_nil he) ok g fun vs H1 x1 r1 => by
    obtain ⟨u, rfl, ru⟩ := pc1 r1
    have ru : u = v := ru
    subst ru
    exact ⟨u, rfl, fun d hd => q H1 d x1.ok (Γ.mono x1.same g) hd⟩))
/-- e.f, e the exception of the suite -/
theorem e_byPx {x fld : Str} {C ax : Addr} {oe : Obj} {dx : Addr} {pn : List (Addr × Obj)} {v : V} (T : PxT X.prog X.K X.mg x C fld) (hz : L2N.Zn (.ref C) (some dx) oe) (hf : ∃ vs, oe.data = .fields vs) (h : E3 (X.suite ax ((ax, oe) :: pn)) A Γ σ e (RV (.ref ax))) (hd : Γ.le (pAt dx (.xd [(fld, v)])))
    (hb : attributeBase e fld X.env (eval e X.env) = eval e X.env := by rfl) : E3 (X.suite ax ((ax, oe) :: pn)) A Γ σ (.Attribute e fld pos) (RV v) := fun H Q ok g k =>
  Ev.of (pe_byPx T hz.zc hf (evPE e) hb) (h H _ ok g fun u H1 x1 r1 => by
    have r1 : u = .ref ax := r1
    exact ⟨r1, rfl, dx, v, rfl, hide_le _ _ (hd _ (Γ.mono x1.same g)), k _ _ x1 rfl⟩)
/-- try: e1(..); ..  except X as n: suite, where e1(..) raises X -/
theorem b_tryE {δ : Type} {pre : δ → List V → Pr} {x n fn fld : Str} {C : Addr} {v : V} {i k k' : Nat} {suite body : List Stmt} {b₀ : Stmt} {np pos' p pe : Pos} {Ps : List V → Pr} (T : PxT X.prog X.K X.mg x C fld) (F : FdE X.prog X.w X.K X.mg X.base fn k (spE pre C fld v)) (hr : Room k' X.A) (d : δ)
    (ha : ∀ (pn : List (Addr × Obj)) (xe : Value → Shared → Prop), A3 (X.tr pn xe) A Γ σ (e :: es) Ps) (hp : ∀ vs, (pAnd Γ (Ps vs)).le (pre d vs))
    (hsu : ∀ (ax dx : Addr) (oe : Obj) (pn : List (Addr × Obj)), L2N.Zn (.ref C) (some dx) oe → (∃ vs, oe.data = .fields vs) → B3 (X.suite ax ((ax, oe) :: pn)) A (pAnd Γ (pAt dx (.xd [(fld, v)]))) (σ.set i (some (.ref ax))) (b₀ :: suite) { nx := fun σ' H' => Ess X rest D (σ'.set i none) H', rt := D.rt, bk := fun σ' H' => D.bk (σ'.set i none) H', ct := fun σ' H' => D.ct (σ'.set i none) H' })
    (hk : k ≤ k' := by first | decide | omega) (hN : X.N.Nodup := by assumption) (hi : X.N[i]? = some n := by rfl) (hln : X.env.kindOf n = some .local := by rfl) (hs : X.stack = X.env :: X.outer := by rfl) (hf : X.env.frame = some X.env.locals := by rfl)
    (hgx : Gl X x := by rfl) (hdx : (x == ("__debug__" : Str)) = false := by decide) (hg : Gl X fn := by rfl) (hdb : (fn == ("__debug__" : Str)) = false := by decide) (he : starEach (e :: es) X.env = (false, eval e X.env) :: starEach es X.env := by rfl) (hpl : (backTo cpos (starEach es X.env)).any (·.1) = false := by rfl)
    (hsw : swapsWith (.Call (.Name fn p) (e :: es) [] cpos) none pe.line X.env = pure false := by rfl) :
    B3 X A Γ σ (.Try (.Expr (.Call (.Name fn p) (e :: es) [] cpos) pe :: body) [.ExceptHandler (some (.Name x np)) (some n) (b₀ :: suite) pos'] [] [] pos :: rest) D := fun H ok g => by
  obtain ⟨f, fd, ps, G, hm, hkk, hbb⟩ := F.ex
  refine b_cons (Es.of (L2N.ps_try_as (X := X) (tb := fun W D' σ' H' => ∀ (pn : List (Addr × Obj)) (xe : Value → Shared → Prop), L2N.Takes (X.tr pn xe) W → Ess (X.tr pn xe) (.Expr (.Call (.Name fn p) (e :: es) [] cpos) pe :: body) D' σ' H')
    (ts := fun ax cls dx D' σ' H' => ∀ (oe : Obj) (pn : List (Addr × Obj)), L2N.Zn cls dx oe → (∃ vs, oe.data = .fields vs) → Ess (X.suite ax ((ax, oe) :: pn)) (b₀ :: suite) D' σ' H') (Wout := fun _ _ _ _ => False) (c := .ref C) hs hf hN hi hln ⟨hgx, hdx, .inl T.gC⟩ (fun u s' x => ?_)
    (fun W pn xe tk _ => ⟨fun pins s σ' H' D' I h => h pn xe tk pins s I⟩) (fun ax oe cls dx pn hz hfl => ⟨fun pins s σ' H' D' I h => h oe pn hz hfl pins s I⟩)) ?_)
  · obtain ⟨_, _, _, _, _, _, _, _, _, _, _, _, _, _, _, _, z⟩ := x
    exact z.elim
  · intro pn xe tk
    refine b_cons (X := X.tr pn xe) (Es.of (ps_expr (L2.pe_callS (X := X.tr pn xe) (sp := spE pre C fld v) G (hr.mono hk) hg hm hkk hbb (fun σ => L2N.passAt tk σ) (eaPA (X := X.tr pn xe) (e :: es)) hdb he hpl) hsw) ?_)
    refine (ha pn xe).ea ok g fun vs H1 x1 r1 => ⟨d, A, x1.ok, hp vs _ ⟨Γ.mono x1.same g, r1⟩, fun H' dx x2 hdn => ?_⟩
    refine ⟨true, T.te, fun _ ax _ oe pn2 hz hfl => ?_, fun z => nomatch z⟩
    have xl := Ext.laid x2.ok hdn (.xd [(fld, v)])
    exact hsu ax dx oe pn2 hz hfl _ xl.ok ⟨Γ.mono (x1.same.trans (x2.same.trans xl.same)) g, hide_laid x2.ok hdn _⟩
end
end Pm
/-! Pm33 -/
set_option maxHeartbeats 2000000
/-! Pm33: xs.index(x), a slice of what a changing call gives, a list of four, a, b = e, e2 by a tuple. -/
namespace Pm
open PySem PySem.Spec L2
theorem fn_mkF {δ : Type} {pre : δ → List V → Pr} {post : δ → V → Pr} {P : Program} {w : World} {K : PySem.W.Frag} {mg : Str → Option Value} {base : Heap} {x : Str} {params : Arguments} {body : List Stmt} {scope : Scope} {f : Addr} {fd : FuncData} {k : Nat} {N ps : List Str}
    (F : FunD K x x params body scope [] [] f fd) (S : FnScope N ps scope) (hl : ∀ d vs G, (pre d vs).holds G → vs.length = ps.length)
    (hb : ∀ (cdv : Value) (Ar : Around) (outer : List Env) (s : Shared) (H : Hp) (vs : List V) (d : δ) (A : Own) (G0 : Hp) (D : Ends), Room k (Ar.deeper (PyProof.Rows.envOfC x scope s.heap.objs.size f cdv)) → Post A G0 (post d) D.rt → (∀ σ H', D.nx σ H' = D.rt .non H') →
      B3 (cxOf CX0 P w K mg base N x scope f cdv Ar outer s H E0).nox A (pAnd (pSame G0) (pre d vs)) (start N vs) body D) : FnOk P w K mg base CX0 (k + 1) f fd ps (spF pre post) :=
  F.ok S (fun vs H Q E ⟨d, A, ok, h, _⟩ => hl d vs _ h) fun cdv Ar outer s H vs Q E hr ⟨d, A, ok, h, q⟩ => ⟨_, (essPSs (X := (cxOf CX0 P w K mg base N x scope f cdv Ar outer s H E).nox) body).nox, hb cdv Ar outer s H vs d A (hide A H) { nx := fun _ H' => Q .non H', rt := Q } hr (fun v H' ok' sm r => q v H' ⟨ok', sm⟩ r) (fun _ _ => rfl) H ok ⟨L2.Same.refl _, h⟩⟩
section
variable {X : Cx} {A B : Own} {Γ Δ : Pr} {σ : L2.St} {a b c d e o : Expr} {R Ra Rb Rc : V → Pr} {pos apos cpos : Pos} {tg : Expr} {rest : List Stmt} {D : Ends}
theorem e_idx {xs : List Str} {x : Str} {j : Nat} (ho : E3 X A Γ σ o (RL RS xs)) (ha : E3 X A Γ σ a (RS x)) (hj : xs[j]? = some x) (hno : ∀ m, m < j → xs[m]? ≠ some x) (he : starEach [a] X.env = (false, eval a X.env) :: starEach [] X.env := by rfl) (hbase : attributeBase o "index" X.env (eval o X.env) = eval o X.env := by rfl)
    (hfew : ((backTo cpos (starEach [a] X.env)).all (fun x => !x.1) && (backToKw cpos (keywordEach [] X.env)).all (fun x => x.1.isSome) && decide ([a].length + ([] : List Keyword).length + (if ([] : List Keyword).isEmpty then 0 else 1) < 30)) = true := by rfl)
    (hline : (apos.endLine == cpos.line) = true := by rfl) (hplain : (backTo cpos (starEach [] X.env)).any (·.1) = false := by rfl) : E3 X A Γ σ (.Call (.Attribute o "index" apos) [a] [] cpos) (RI (j : Nat)) := fun H Q ok g kk =>
  Ev.of (pe_bm PySem.F.plainAttrs_list PySem.F.slot_list_index PySem.F.type_list_index mt_index (evPE o) (eaPA [a]) hbase hfew hline he hplain) (ho H _ ok g fun v H1 x1 r1 => by
    obtain ⟨q, vs, rfl, hv, hr⟩ := r1
    refine ⟨.inl ⟨rfl, _, SqL.of (hide_le _ _ hv)⟩, A3.ea (a_cons ha a_nil he) x1.ok (Γ.mono x1.same g) fun ws H2 x2 r2 => ?_⟩
    obtain ⟨v, rfl, rv⟩ := pc1 r2
    have rv : v = .str x := rv
    subst rv
    have ev : vs = xs.map V.str := pAll_strs hr
    subst ev
    refine ⟨q, xs.map V.str, .str x, j, .str x, rfl, rfl, SqL.of (hide_le _ _ (x2.same _ _ hv)), rfl, by simp [List.all_map, flatV], by rw [List.getElem?_map, hj]; rfl, by simp [eqV], fun m z hm hz => ?_, kk _ _ (x1.trans x2) rfl⟩
    rw [List.getElem?_map] at hz
    cases ex : xs[m]? with
    | none => rw [ex] at hz; cases hz
    | some y =>
      rw [ex] at hz
      cases hz
      have hne : y ≠ x := fun e => hno m hm (by rw [ex, e])
      simp [eqV, hne])
theorem f_four {α : Type} {T : α → V → Pr} {x y z u : α} (ha : E3 X A Γ σ a (T x)) (hb : E3 X A Γ σ b (T y)) (hc : E3 X A Γ σ c (T z)) (hd : E3 X A Γ σ d (T u)) (h1 : starEach [a, b, c, d] X.env = (false, eval a X.env) :: starEach [b, c, d] X.env := by rfl) (h2 : starEach [b, c, d] X.env = (false, eval b X.env) :: starEach [c, d] X.env := by rfl) (h3 : starEach [c, d] X.env = (false, eval c X.env) :: starEach [d] X.env := by rfl) (h4 : one1 X d := by rfl) : F3 X A Γ σ (.List [a, b, c, d] pos) (OL T [x, y, z, u]) := fun H Q ok g k =>
  f_lst (a_cons ha (a_cons hb (a_cons hc (a_cons hd a_nil h4) h3) h2) h1) (fun vs G z => by
    obtain ⟨v1, r1, e1, _, v2, r2, e2, _, v3, r3, e3, _, v4, r4, e4, _, e5⟩ := z
    cases (show r4 = [] from e5)
    cases (show r3 = [v4] from e4)
    cases (show r2 = [v3, v4] from e3)
    cases (show r1 = [v2, v3, v4] from e2)
    cases (show vs = [v1, v2, v3, v4] from e1)
    show 4 ≤ 1000
    decide) H Q ok g fun p o H' n ⟨vs, eo, z⟩ => k p o H' n ⟨vs, eo, by
    obtain ⟨v1, r1, e1, q1, v2, r2, e2, q2, v3, r3, e3, q3, v4, r4, e4, q4, e5⟩ := z
    cases (show r4 = [] from e5)
    cases (show r3 = [v4] from e4)
    cases (show r2 = [v3, v4] from e3)
    cases (show r1 = [v2, v3, v4] from e2)
    cases (show vs = [v1, v2, v3, v4] from e1)
    exact ⟨q1, q2, q3, q4, trivial⟩⟩
/-- a, b = e, e2 by way of a tuple -/
theorem b_tupEE (i j : Nat) {y z : Str} {p1 p2 p3 p4 : Pos} {kt k2 : Nat} (ha : E3 X A Γ σ a Ra) (hb : E3 X A Γ σ b Rb) (k : ∀ v w, B3 X A (pAnd (pAnd Γ (Ra v)) (Rb w)) ((σ.set i (some v)).set j (some w)) rest D)
    (hN : X.N.Nodup := by assumption) (hi : X.N[i]? = some y := by rfl) (hj : X.N[j]? = some z := by rfl) (hc : X.calm = true := by rfl) (hx : Loc X.env.scope y := by first | exact .inl rfl | exact .inr rfl) (hy : Loc X.env.scope z := by first | exact .inl rfl | exact .inr rfl)
    (hf : X.fn y = true ∨ X.env.scope.names.lookup y = some .local := by first | exact .inl rfl | exact .inr rfl) (hf2 : X.fn z = true ∨ X.env.scope.names.lookup z = some .local := by first | exact .inl rfl | exact .inr rfl)
    (h1 : (assignEach [.Name y p1, .Name z p2] X.env).map (·.2) = assign (.Name y p1) X.env :: (assignEach [.Name z p2] X.env).map (·.2) := by rfl) (h2 : (assignEach [.Name z p2] X.env).map (·.2) = assign (.Name z p2) X.env :: (assignEach [] X.env).map (·.2) := by rfl)
    (hn : (assignEach [.Name y p1, .Name z p2] X.env).length = 2 := by rfl) (hst : (assignEach [.Name y p1, .Name z p2] X.env).findIdx? (·.1) = none := by rfl)
    (hs : swapsWithSole [.Tuple [.Name y p1, .Name z p2] kt p3] (.Tuple [a, b] k2 p4) pos.line X.env = pure false := by rfl) (hw : swappedStores [.Tuple [.Name y p1, .Name z p2] kt p3] (.Tuple [a, b] k2 p4) X.env = pure none := by rfl) (h3 : (assignEach [.Tuple [.Name y p1, .Name z p2] kt p3] X.env).map (·.2) = [assign (.Tuple [.Name y p1, .Name z p2] kt p3) X.env] := by rfl)
    (h4 : starEach [a, b] X.env = (false, eval a X.env) :: starEach [b] X.env := by rfl) (h5 : one1 X b := by rfl) :
    B3 X A Γ σ (.Assign [.Tuple [.Name y p1, .Name z p2] kt p3] (.Tuple [a, b] k2 p4) pos :: rest) D := fun H ok g =>
  b_cons (Es.of (ps_asg (pe_tup (eaPA [a, b])) (pg_tup hc (pgs_cons (pg_name hN hi hx hf) (pgs_cons (pg_name hN hj hy hf2) pgs_nil h2) h1) hn hst) hs hw h3) (ea_two (ha H _ ok g fun v H1 x1 r => hb H1 _ x1.ok (Γ.mono x1.same g) fun w H2 x2 r2 => ⟨Nat.le_of_lt (small1000 (by show 2 ≤ 1000; decide)), fun t ht => by
    have xl := Ext.laid x2.ok ht (.tup [v, w])
    exact ⟨t, [v, w], rfl, SqT.of upd_same, rfl, v, [w], rfl, w, [], rfl, rfl, k v w _ xl.ok ⟨⟨Γ.mono (x1.same.trans (x2.same.trans xl.same)) g, (Ra v).mono (x2.same.trans xl.same) r⟩, (Rb w).mono xl.same r2⟩⟩⟩) h4 h5))
/-- (what a changing call gives)[n:] -/
theorem m_from {ρ α : Type} {A' : ρ → Own} {T : α → V → Pr} {xs : ρ → List α} {Cp : ρ → Prop} {i : Int} {p2 : Pos} (n : Nat) (ha : M3 X A Γ σ a A' (fun r v => pAnd (pP (Cp r)) (RL T (xs r) v))) (hb : ∀ r, E3 X (A' r) Γ σ b (RI i)) (hi : i = (n : Int)) :
    M3 X A Γ σ (.Subscript a (.Slice (some b) none none p2) pos) A' (fun r v => pAnd (pP (Cp r)) (RL T ((xs r).drop n) v)) := fun H Q ok g k =>
  Ev.of (pe_slice sl_list (evPE a) (po_some (evPE b)) po_none) (ha H _ ok g fun x r H1 x1 r1 => hb r H1 _ x1.ok (Γ.mono x1.same g) fun v H2 x2 r2 => by
    refine ⟨i, r2, ?_⟩
    obtain ⟨cp, q, vs, e1, hv, hr⟩ := r1
    have e1 : x = .ref q := e1
    subst e1
    have hv2 := x2.same _ _ hv
    refine ⟨q, vs, rfl, SqL.of (hide_le _ _ hv2), fun t ht => ?_⟩
    have xl := Ext.laid x2.ok ht (.lst (cutV vs (some i) none))
    refine k (.ref t) r _ (x1.trans (x2.chg.trans xl.chg)) ⟨cp, t, vs.drop n, rfl, ?_, (pAll T ((xs r).drop n) (vs.drop n)).mono (x2.same.trans xl.same) (pAll_drop n hr)⟩
    rw [show vs.drop n = cutV vs (some i) none by rw [hi, cut_from]]
    exact hide_laid x2.ok ht _)
end
end Pm
end
/-! E97d -/
set_option maxHeartbeats 2000000
namespace L97
open PySem PySem.Spec L2 Pm
section
variable {P : Program} {w : World} {K : PySem.W.Frag} {mg : Str → Option Value} {base : Heap} {C : Addr}
theorem mk0 : mergeK [] [(kZ 0, V.int 0), (kZ 1, V.int 1)] = pd0 := by kernel_rfl
abbrev RTab : (Int × List (List V)) → V → Pr := RT2 RI (RL RP)
structure Te where
  r : Sv
  x : Str
  a : Bool
  b : Bool
  h1 : r.tl = [[], [], trV x a b]
theorem ok_Store_tell (T : Tx K mg) (S : Sto K mg C) : Md P w K mg base C "tell_table" 3 (spM (fun d : Te => d.r.own C) (fun r : Sv => r.own C) (fun d vs => pAnd d.r.all (Pm.PC (RV (.ref d.r.s)) (Pm.PC (RI 2) PN) vs)) (fun d r v => pAnd (pP (r = d.r)) (RTab (2, [trV d.x d.a d.b]) v))) := by
  obtain ⟨f, fd, F, M⟩ := S.tell
  refine ⟨f, fd, ["self", "number"], fn_mkM F cStore_tell_table (fun d vs G h => len2 h.2) fun cdv Ar outer s H vs d A G0 D hr hq hn => pre_swap (in2 fun v1 v2 => ?_), M, F.bindsN (ps := ["self", "number"]) fun _ _ _ _ _ _ us hl => match us, hl with | [_, _], _ => rfl⟩
  have nd := cStore_tell_table.nd
  have hu := hu_of hr
  obtain ⟨r0, x, a, b, h1⟩ := d
  refine B3.v (fun G h => h.1.2) fun e1 => B3.v (fun G h => h.2) fun e2 => ?_
  dsimp only at e1 e2
  subst e1 e2
  refine B3.pre (Δ := pAnd (pSame G0) r0.all) ?_ fun G h => ⟨h.1.1.1, h.1.1.2⟩
  dsimp only
  refine b_parFF 2 3 (Ra := fun o => pP (o = .dK (mergeK [] [(kZ 0, .int 0), (kZ 1, .int 1)]))) (Rb := OL RP []) (f_disp2 (fun _ => e_int) (fun _ => e_int) (fun _ => e_int) (fun _ => e_int)) (fun _ => f_nil) fun p o q o' => ?_
  refine B3.fact (fun G h => h.1.2) fun eo => B3.fact (fun G h => ol_nil h.2) fun eo' => ?_
  have eo : o = .dK pd0 := (show o = .dK (mergeK [] [(kZ 0, .int 0), (kZ 1, .int 1)]) from eo).trans (by rw [mk0])
  subst eo eo'
  refine B3.pre (Δ := pAnd (pSame G0) r0.all) ?_ fun G h => h.1.1
  refine b_exprM (m_meth S.cls (ok_Store_put2 S T) hr ⟨⟨r0, p, q, pd0, []⟩, x, a, b, h1, rfl, rfl⟩ [] A rfl (p := r0.s) (dx := r0.dx) (fs := stFs r0.t r0.n r0.f) (by simp [Sv.own]) rfl (e_v 0) (a_cons (e_v 1) (a_cons (e_v 2) (a_cons (e_v 3) a_nil))) (fun vs G h => ⟨h.1.2, _, _, rfl, rfl, h.2⟩)) fun v r => ?_
  refine B3.fact (fun G h => h.2.1.2) fun ⟨er1, er2, er3, er4⟩ => ?_
  obtain ⟨r1, p1, q1, pd1, rv⟩ := r
  dsimp only at er1 er2 er3 er4
  subst er1 er2 er3 er4
  refine B3.pre (Δ := pAnd (pSame G0) (pAll RP [trV x a b] rv)) ?_ fun G h => ⟨h.1.1, h.2.2.2⟩
  show B3 _ ((q1, .lst rv) :: (p1, .dK (pd0 ++ [(kZ 2, .int 2)])) :: (r1.own C ++ A)) _ _ _ _
  refine b_let (b_let ?_)
  refine b_retM hq r1 rfl (e_tup2 (R1 := RI) (R2 := RL RP) (x := (2 : Int)) (y := [trV x a b]) (e_dget (k := kZ 2) hu (e_var 2 (R := RD (pd0 ++ [(kZ 2, .int 2)])) (by exact fun G h => ⟨p1, rfl, h.2⟩)) (e_v 1) sd_rd (fun kv G _ z => by cases (show kv = _ from z); exact ⟨.int 2, rfl, rfl⟩)) (e_var 3 (by exact fun G h => ⟨q1, rv, rfl, h.1.2, h.1.1.2⟩))) (fun v G h => ⟨rfl, h.2⟩) (fun G h => h.1.1.1)
end
end L97
/-! E97e -/
set_option maxHeartbeats 2000000
namespace L97
open PySem PySem.Spec L2 Pm
section
variable {P : Program} {w : World} {K : PySem.W.Frag} {mg : Str → Option Value} {base : Heap} {C : Addr}
structure Tk where
  r : Sv
  x : Str
  a : Bool
  b : Bool
  h1 : r.tl = [[], []]
  h2 : r.nv = []
  h3 : a ≠ b
def Tk.ad (d : Tk) : Ad := ⟨d.r, d.x, bI d.a, bI d.b, d.h1, d.h2, bI_ne d.h3⟩
theorem ok_Store_ttab (T : Tx K mg) (S : Sto K mg C) : Md P w K mg base C "take_table" 2 (spM (fun d : Tk => d.r.own C) (fun r : Sv => r.own C) (fun d vs => pAnd d.r.all (Pm.PC (RV (.ref d.r.s)) (Pm.PC (RTab (2, [trV d.x d.a d.b])) PN) vs)) (fun d r v => pAnd (pP (v = .int 2 ∧ d.ad.Out r)) r.all)) := by
  obtain ⟨f, fd, F, M⟩ := S.ttab
  refine ⟨f, fd, ["self", "table"], fn_mkM F cStore_take_table (fun d vs G h => len2 h.2) fun cdv Ar outer s H vs d A G0 D hr hq hn => pre_swap (in2 fun v1 v2 => ?_), M, F.bindsN (ps := ["self", "table"]) fun _ _ _ _ _ _ us hl => match us, hl with | [_, _], _ => rfl⟩
  have nd := cStore_take_table.nd
  have hu := hu_of hr
  obtain ⟨r0, x, a, b, h1, h2, h3⟩ := d
  refine B3.v (fun G h => h.1.2) fun e1 => ?_
  dsimp only at e1
  subst e1
  refine B3.pre (Δ := pAnd (pAnd (pSame G0) (RTab (2, [trV x a b]) v2)) r0.all) ?_ fun G h => ⟨⟨h.1.1.1, h.2⟩, h.1.1.2⟩
  dsimp only
  refine b_setL 2 (P := RI) (xs := [0, 1]) (f_two e_int e_int) fun q vs0 => ?_
  refine B3.fact (fun G h => pAll_rv (f := V.int) h.2) fun ev => ?_
  subst ev
  refine B3.pre (Δ := pAnd (pAnd (pSame G0) (RTab (2, [trV x a b]) v2)) r0.all) ?_ fun G h => h.1
  refine b_for (β := Unit) (zs := [()]) (δ := Sv × List V × Option V × Option V × Option V) (Rz := fun t : Unit => RP [.str x, .int (bI a), .int (bI b)]) (sd := fun d => [some (.ref r0.s), some v2, some (.ref q), d.2.2.1, d.2.2.2.1, d.2.2.2.2]) (Ad := fun d => (q, .lst d.2.1) :: (d.1.own C ++ A)) (Γd := fun d => pAnd (pAnd (pSame G0) (RTab (2, [trV x a b]) v2)) d.1.all) (rel := fun i d => (i = 0 ∧ d.1 = r0 ∧ d.2.1 = [.int 0, .int 1]) ∨ (i = 1 ∧ (Tk.mk r0 x a b h1 h2 h3).ad.Out d.1 ∧ d.2.1 = [.int 0, .int 1, .int 2])) (fun H Q ok g k => (i_list (P := RP) (xs := [trV x a b]) (e_snd (R1 := RI) (R2 := RL RP) (e_x 1 (R := RTab (2, [trV x a b])) (h := by exact fun G h => h.1.2)))) H Q ok g fun J Gd H1 x1 wk g1 => k J Gd H1 x1 ⟨wk.goes, wk.stops, fun A' i z H' y H'' hz ok' gd yl => wk.yields A' i (trV x a b) H' y H'' (by
      have hi := get_lt hz
      have : i = 0 := by simpa using hi
      subst this
      rfl) ok' gd yl⟩ g1) (tg_tri (f1 := fun _ : Unit => V.str x) (f2 := fun _ => .int (bI a)) (f3 := fun _ => .int (bI b)) 3 4 5) (r0, [.int 0, .int 1], none, none, none) ⟨.inl ⟨rfl, rfl, rfl⟩, rfl, rfl⟩ (fun G h => h) (fun Gd i z d w' hz hr2 => ?_) (fun d hr2 => ?_)
  · have hi := get_lt hz
    have hi0 : i = 0 := by simpa using hi
    subst hi0
    obtain ⟨r, nv, sa, sb, sc⟩ := d
    dsimp only at hr2
    rcases hr2 with ⟨_, hr3, hr4⟩ | ⟨hr3, _⟩
    rotate_left
    · cases hr3
    subst hr3 hr4
    refine B3.fact (fun G h => h.2) fun ew => ?_
    have ew : w' = (.str x, .int (bI a), .int (bI b)) := ew
    subst ew
    dsimp only
    have num : ∀ (c : Bool) (j : Nat) {Γ' : Pr} {y : Str} {p1 p2 p3 : Pos}, E3 (cxOf CX0 P w K mg base nStore_take_table (Str.ofString "Store.take_table") (defScope sStore_take_table) f cdv Ar outer s H E0).nox ((q, .lst [.int 0, .int 1]) :: (r.own C ++ A)) Γ' [some (.ref r.s), some v2, some (.ref q), some (.str x), some (.int (bI a)), some (.int (bI b))] (.Name y p2) (RI (bI c)) → E3 (cxOf CX0 P w K mg base nStore_take_table (Str.ofString "Store.take_table") (defScope sStore_take_table) f cdv Ar outer s H E0).nox ((q, .lst [.int 0, .int 1]) :: (r.own C ++ A)) Γ' [some (.ref r.s), some v2, some (.ref q), some (.str x), some (.int (bI a)), some (.int (bI b))] (.Subscript (.Name "numbers" p1) (.Name y p2) p3) (RI (bI c)) := fun c j _ _ _ _ _ h =>
      e_at (e_v 2) h (s_own (vs := [.int 0, .int 1]) (by simp)).s (fun vs G _ e => by
        cases (show vs = _ from e)
        exact ⟨.int (bI c), by cases c <;> rfl, rfl⟩)
    refine b_apM (fun _ => []) (fun s : Sv => s.own C ++ A) 2 (m_meth S.cls (ok_Store_add T S) hr (Tk.mk r x a b h1 h2 h3).ad [(q, .lst [.int 0, .int 1])] A rfl (p := r.s) (dx := r.dx) (fs := stFs r.t r.n r.f) (by simp [Sv.own]) rfl (e_v 0) (a_cons (e_v 3) (a_cons (num a 0 (e_v 4)) (a_cons (num b 0 (e_v 5)) a_nil))) (fun vs G h => ⟨h.1.1.1.2, ⟨_, _, rfl, rfl, h.2⟩⟩)) (fun _ => rfl) (List.mem_cons_self ..) (by rw [sizeLine_eq]; decide) fun v s2 => ?_
    refine B3.fact (fun G h => h.2.1) fun ⟨ev2, hout⟩ => ?_
    subst ev2
    exact b_fin rfl (s2, [.int 0, .int 1, .int 2], some (.str x), some (.int (bI a)), some (.int (bI b))) (.inr ⟨rfl, hout, rfl⟩) rfl rfl fun G h => ⟨⟨h.1.1.1.1, h.2.2⟩, h.1.1.2⟩
  · obtain ⟨r, nv, sa, sb, sc⟩ := d
    dsimp only at hr2
    rcases hr2 with ⟨hr3, _⟩ | ⟨_, hr3, hr4⟩
    · cases hr3
    subst hr4
    dsimp only
    refine b_let ?_
    exact b_retM hq r rfl (e_atL (R := RI) (xs := [0, 1, 2]) 2 (e_var 2 (by exact fun G h => ⟨q, _, rfl, h.2, rfl, rfl, rfl, trivial⟩)) (e_fst (R1 := RI) (R2 := RL RP) (x := ((2 : Int), [trV x a b])) (e_x 1 (R := RTab (2, [trV x a b])) (h := by exact fun G h => h.1.1.2))) rfl rfl) (fun v G h => ⟨⟨h.2, hr3⟩, h.1.1.2⟩) (fun G h => h.1.1.1)
end
end L97
/-! E97f -/
set_option maxHeartbeats 2000000
namespace L97
open PySem PySem.Spec L2 Pm
section
variable {P : Program} {w : World} {K : PySem.W.Frag} {mg : Str → Option Value} {base : Heap} {C : Addr}
theorem ok_table_by_row (T : Tx K mg) (S : Ats K mg) (St : Sto K mg C) : Fd P w K mg base "table_by_row" 4 (spF (fun (d : {d : Str × Bool × Bool // d.2.1 ≠ d.2.2}) => Pm.PC (RL RS [d.1.1]) (Pm.PC (RL RB [d.1.2.1, d.1.2.2]) PN)) fun d => RTab (2, [trV d.1.1 d.1.2.1 d.1.2.2])) := by
  obtain ⟨f, fd, F, gm⟩ := S.dtable_by_row
  refine fd_mk F gm ctable_by_row (fun _ _ _ _ _ _ us hl => match us, hl with | [_, _], _ => rfl) (fun d vs G h => len2 h) fun cdv Ar outer s H vs ⟨⟨x, a, b⟩, h3⟩ A G0 D hr hq hn => in2 fun v1 v2 => ?_
  have nd := ctable_by_row.nd
  dsimp only at h3
  refine b_setM 2 (m_make0 (ok_Store_init St) hr St.gC (fun d G h => ⟨_, _, rfl, rfl, rfl⟩) (fun d r v G h => h.1.1)) fun v r => ?_
  obtain ⟨⟨sA, dx0⟩, sv⟩ := r
  refine B3.fact (p := v = .ref sA ∧ sv.s = sA ∧ sv.nv = [] ∧ sv.tl = [[], []]) (fun G h => ⟨h.2.1, h.2.2.1.2⟩) fun ⟨ev, es, e1, e2⟩ => ?_
  subst es
  have ev : v = .ref sv.s := ev
  subst ev
  refine B3.pre (Δ := pAnd (pAnd (pAnd (pSame G0) (RL RS [x] v1)) (RL RB [a, b] v2)) sv.all) ?_ fun G h => ⟨⟨⟨h.1.1.1, h.1.1.2⟩, h.1.2⟩, h.2.2.2⟩
  dsimp only
  refine b_retMF (fun r : Te × Sv => r.2.own C) hq (m_methM (fun d : Te => d.x = x ∧ d.a = a ∧ d.b = b) St.cls (ok_Store_tell T St) hr [] A (p := sv.s) (dx := sv.dx) (fs := stFs sv.t sv.n sv.f) (by simp [Sv.own]) rfl (e_v 2) (m_meth St.cls (ok_Store_ttru T St) hr (Tt.mk sv x a b e2 e1 h3) [] A rfl (p := sv.s) (dx := sv.dx) (fs := stFs sv.t sv.n sv.f) (by simp [Sv.own]) rfl (e_v 2) (a_cons (e_x 0 (R := RL RS [x]) (h := by exact fun G h => h.1.1.2)) (a_cons (e_x 1 (R := RL RB [a, b]) (h := by exact fun G h => h.1.2)) a_nil)) (fun vs G h => ⟨h.1.2, _, _, rfl, rfl, h.2⟩)) (fun r0 v G h => ?_)) (fun _ => rfl) (fun G h => h.1.1.1) (fun r v G h => ?_)
  · obtain ⟨_, ⟨ev, out⟩, al⟩ := h
    exact ⟨⟨r0, x, a, b, out.tl⟩, rfl, ⟨al, _, _, rfl, congrArg V.ref out.s.symm, _, _, rfl, ev, rfl⟩, rfl, rfl, rfl⟩
  · obtain ⟨_, _, ⟨c1, c2, c3⟩, _, z⟩ := h
    rw [c1, c2, c3] at z
    exact z
theorem ok_is_triple (T : Tx K mg) (S : Ats K mg) : Fd P w K mg base "is_triple" 3 (spF (fun (d : {d : Str × Bool × Bool // isLetter d.1 = true ∧ d.2.1 ≠ d.2.2}) => Pm.PC (RP (trV d.1.1 d.1.2.1 d.1.2.2)) (Pm.PC (RI 2) PN)) fun d => RB true) := by
  obtain ⟨f, fd, F, gm⟩ := S.dis_triple
  refine fd_mk F gm cis_triple (fun _ _ _ _ _ _ us hl => match us, hl with | [_, _], _ => rfl) (fun d vs G h => len2 h) fun cdv Ar outer s H vs ⟨⟨x, a, b⟩, hx, h3⟩ A G0 D hr hq hn => in2 fun v1 v2 => ?_
  have nd := cis_triple.nd
  dsimp only at hx h3
  refine B3.v (fun G h => h.2) fun e => ?_
  subst e
  have it : ∀ {A' : Own} {Γ' : Pr} {p1 p2 p3 : Pos} {kk : Nat} (j : Nat) (u : V), (trV x a b)[j]? = some u → Γ'.le (RP (trV x a b) v1) → E3 (cxOf CX0 P w K mg base nis_triple (Str.ofString "is_triple") (defScope sis_triple) f cdv Ar outer s H E0).nox A' Γ' (start nis_triple [v1, .int 2]) (.Subscript (.Name "thing" p1) (.Constant (.int j) kk p2) p3) (RV u) := fun j u hu hΓ => e_at (e_var 0 (R := RP (trV x a b)) hΓ) e_int s_rp (fun vs G _ e => ⟨u, by cases (show vs = _ from e); exact atI_nat hu, rfl⟩)
  refine b_when (t_or3 (t_not (t_of (e_c (ok_is_list T S) hr false (a_cons (e_var 0 (R := pTy K "tuple") (by exact fun G h => ty_rp G h.1.2)) a_nil)))) (fun _ => t_ne (e_len (n := 3) T.len (e_x 0 (R := RP (trV x a b)) (h := by exact fun G h => h.1.2)) s_rp (fun vs G _ e => by cases (show vs = _ from e); rfl)) e_int) fun _ _ => t_not (t_of (e_c (ok_is_letter T S) hr ⟨x, isLetter_len hx⟩ (a_cons (it 0 (.str x) rfl (fun G h => h.1.2)) a_nil)))) (fun e => by rw [show isLetter (⟨x, isLetter_len hx⟩ : {z : Str // z.length ≤ 1000}).1 = true from hx] at e; exact absurd e (by decide)) fun _ => ?_
  have hb : ∀ c : Bool, (decide ((0 : Int) ≤ bI c) && decide (bI c ≤ (2 : Int) - 1)) = true := fun c => by cases c <;> decide
  refine b_rt hq (e_andL (e_c (ok_is_between T S) hr (bI a, 0, (2 : Int) - 1) (a_cons (it 1 (.int (bI a)) rfl (fun G h => h.1.2)) (a_cons e_int (a_cons (e_sub (e_v 1) e_int) a_nil)))) fun _ => e_andL (e_c (ok_is_between T S) hr (bI b, 0, (2 : Int) - 1) (a_cons (it 2 (.int (bI b)) rfl (fun G h => h.1.2)) (a_cons e_int (a_cons (e_sub (e_v 1) e_int) a_nil)))) fun _ => e_one (e_ne (x := .int (bI a)) (y := .int (bI b)) (it 1 (.int (bI a)) rfl (fun G h => h.1.2)) (it 2 (.int (bI b)) rfl (fun G h => h.1.2)))) (by
    intro v G z
    have z2 := z.2
    dsimp only at z2
    rw [hb, hb] at z2
    have : decide (V.int (bI a) = V.int (bI b)) = false := by
      have := bI_ne h3
      simp [this]
    rw [this] at z2
    exact z2)
theorem ok_letters_rise (T : Tx K mg) (S : Ats K mg) : Fd P w K mg base "letters_rise" 1 (spF (fun (d : Str × Bool × Bool) => Pm.PC (RL RP [trV d.1 d.2.1 d.2.2]) PN) fun d => RB true) := by
  obtain ⟨f, fd, F, gm⟩ := S.dletters_rise
  refine fd_mk F gm cletters_rise (fun _ _ _ _ _ _ us hl => match us, hl with | [_], _ => rfl) (fun d vs G h => len1 h) fun cdv Ar outer s H vs ⟨x, a, b⟩ A G0 D hr hq hn => in1 fun v1 => ?_
  have nd := cletters_rise.nd
  refine b_for (β := Unit) (zs := [()]) (δ := Option V × Option V × Option V) (Rz := fun t : Unit => RP [.str x, .int (bI a), .int (bI b)]) (sd := fun d => [some v1, d.1, d.2.1, d.2.2, none]) (Ad := fun d => A) (Γd := fun d => pAnd (pSame G0) (RL RP [trV x a b] v1)) (rel := fun i d => True) (fun H Q ok g k => (i_list (P := RP) (xs := [trV x a b]) (e_x 0 (R := RL RP [trV x a b]) (h := by exact fun G h => h.2))) H Q ok g fun J Gd H1 x1 wk g1 => k J Gd H1 x1 ⟨wk.goes, wk.stops, fun A' i z H' y H'' hz ok' gd yl => wk.yields A' i (trV x a b) H' y H'' (by
      have hi := get_lt hz
      have : i = 0 := by simpa using hi
      subst this
      rfl) ok' gd yl⟩ g1) (tg_tri (f1 := fun _ : Unit => V.str x) (f2 := fun _ => .int (bI a)) (f3 := fun _ => .int (bI b)) 1 2 3) (none, none, none) ⟨trivial, rfl, rfl⟩ (fun G h => h) (fun Gd i z d w' hz hr2 => ?_) (fun d hr2 => ?_)
  · refine B3.fact (fun G h => h.2) fun ew => ?_
    have ew : w' = (.str x, .int (bI a), .int (bI b)) := ew
    subst ew
    have hb : ∀ c : Bool, ¬ (bI c > 1) := fun c => by cases c <;> decide
    refine b_when (t_not (t_of (e_all (bs := ([bI a, bI b].filter fun i : Int => decide (i > 1)).map fun _ => true) T.all (F3.rl (f_lcF (own := [("number", 4)]) (fun i : Int => decide (i > 1)) (fun _ : Int => true) RB (i_list (P := RI) (xs := [bI a, bI b]) (F3.rl (f_two (e_v 2) (e_v 3)))) (tc_name 4) (blkOk_by (N := nletters_rise) (sc := defScope sletters_rise) (by decide +kernel)) (fun Gd2 q z w2 hm s2 H2 C2 cl fp => t_gt (e_x 4 (R := RI z) (h := by exact fun G h => h.2)) e_int) (fun Gd2 q z w2 hm hc s2 H2 C2 cl fp => by
        exfalso
        have hc := of_decide_eq_true hc
        rcases List.mem_cons.mp hm with e | hm
        · subst e; exact hb _ hc
        · rw [List.mem_singleton] at hm
          subst hm; exact hb _ hc) (by rw [sizeLine_eq]; show 2 < 16777216; decide)))))) (fun e => by simp [hb] at e) fun _ => ?_
    exact b_fin rfl (some (.str x), some (.int (bI a)), some (.int (bI b))) trivial rfl rfl fun G h => h.1
  · exact b_rt hq e_bl
theorem ok_row_letters (T : Tx K mg) (S : Ats K mg) : Fd P w K mg base "row_letters" 1 (spF (fun (d : Str × Bool × Bool) => Pm.PC (RL RP [trV d.1 d.2.1 d.2.2]) PN) fun d => RL RS [d.1]) := by
  obtain ⟨f, fd, F, gm⟩ := S.drow_letters
  refine fd_mk F gm crow_letters (fun _ _ _ _ _ _ us hl => match us, hl with | [_], _ => rfl) (fun d vs G h => len1 h) fun cdv Ar outer s H vs ⟨x, a, b⟩ A G0 D hr hq hn => in1 fun v1 => ?_
  have nd := crow_letters.nd
  exact b_rt hq (F3.rl (f_sortRD (ks := [x]) T.sorted (F3.rd (f_dc (own := [("row", 1)]) (fun _ : List V => kS x) (fun _ => V.non) (i_list (P := RP) (xs := [trV x a b]) (e_x 0)) (tc_name 1) (blkOk_by (N := nrow_letters) (sc := defScope srow_letters) (by decide +kernel)) (fun Gd q z w hm s H C cl fp => by
    rw [List.mem_singleton] at hm
    subst hm
    exact e_at (R := RV (kV (kS x))) (e_x 1 (R := RP (trV x a b)) (h := by exact fun G h => h.2)) e_int s_rp (fun vs G _ e => ⟨.str x, by cases (show vs = _ from e); rfl, rfl⟩)) (fun Gd q z w hm s H C cl fp => e_non) (by rw [sizeLine_eq]; show 1 < 16777216; decide))) rfl (by show 1 < 64; decide)))
end
end L97
/-! E97g -/
set_option maxHeartbeats 2000000
namespace L97
open PySem PySem.Spec L2 Pm
def dTr (x : Str) (a b : Bool) : PyData := .tuple [.str x, .int (bI a), .int (bI b)]
def dTab (x : Str) (a b : Bool) : PyData := .tuple [.int 2, .list [dTr x a b]]
theorem d_tab {K : PySem.W.Frag} {x : Str} {a b : Bool} {v : V} : (RTab (2, [trV x a b]) v).le (pD K v (dTab x a b)) := fun G ⟨t, v1, v2, e, ht, r1, l, vs, e2, hl, r2⟩ => by
  have e : v = .ref t := e
  have r1 : v1 = .int 2 := r1
  have e2 : v2 = .ref l := e2
  subst e r1 e2
  cases vs with
  | nil => exact r2.elim
  | cons u us =>
    cases us with
    | cons _ _ => exact r2.2.elim
    | nil =>
      obtain ⟨⟨q, e3, hq⟩, _⟩ := r2
      have e3 : u = .ref q := e3
      subst e3
      exact .tup (SqT.of ht) (.cons (.int 2) (.cons (.lst (SqL.of hl) (.cons (.tup (SqT.of hq) (.cons (.str x) (.cons (.int _) (.cons (.int _) .nil)))) .nil)) .nil))
theorem shaped_tab {x : Str} {a b : Bool} (h : isLetter x = true) : SeqAt.shaped (dTab x a b) = true := by
  have h2 := ok_name h
  simp [SeqAt.shaped, dTab, dTr, PyData.canLay0, PyData.canLayAll0, PyData.depth, PyData.depthAll, h2]
theorem eqv_tab {x : Str} {a b : Bool} : PyData.eqv (dTab x a b) (dTab x a b) = true := by
  simp [dTab, dTr, PyData.eqv, PyData.eqvAll]
/-- what such a table tells in a world -/
def tellT (x : Str) (a b : Bool) (wd : Wd) : Bool := if getD wd x = some true then b else a
theorem bI_one (c : Bool) : decide (V.int (bI c) = V.int 1) = c := by cases c <;> simp [bI]
section
variable {P : Program} {w : World} {K : PySem.W.Frag} {mg : Str → Option Value} {base : Heap} {C : Addr}
theorem ok_is_table (T : Tx K mg) (S : Ats K mg) (St : Sto K mg C) : Fd P w K mg base "is_table" 4 (spF (fun (d : {d : Str × Bool × Bool // isLetter d.1 = true ∧ d.2.1 ≠ d.2.2}) => Pm.PC (RTab (2, [trV d.1.1 d.1.2.1 d.1.2.2])) PN) fun d => RB true) := by
  obtain ⟨f, fd, F, gm⟩ := S.dis_table
  refine fd_mk F gm cis_table (fun _ _ _ _ _ _ us hl => match us, hl with | [_], _ => rfl) (fun d vs G h => len1 h) fun cdv Ar outer s H vs ⟨⟨x, a, b⟩, hx, h3⟩ A G0 D hr hq hn => in1 fun v1 => ?_
  have nd := cis_table.nd
  dsimp only at hx h3
  have snd : ∀ {A' : Own} {Γ' : Pr} {p1 p2 p3 : Pos} {kk : Nat}, Γ'.le (RTab (2, [trV x a b]) v1) → E3 (cxOf CX0 P w K mg base nis_table (Str.ofString "is_table") (defScope sis_table) f cdv Ar outer s H E0).nox A' Γ' (start nis_table [v1]) (.Subscript (.Name "thing" p1) (.Constant (.int 1) kk p2) p3) (RL RP [trV x a b]) := fun hΓ => e_snd (R1 := RI) (R2 := RL RP) (x := ((2 : Int), [trV x a b])) (e_var 0 (R := RTab (2, [trV x a b])) hΓ)
  refine b_when (w_or (t_not (t_of (e_c (ok_is_list T S) hr false (a_cons (e_var 0 (R := pTy K "tuple") (by exact fun G h => ty_rt2 G h.2)) a_nil)))) fun _ => w_or (t_ne (e_len2 (R1 := RI) (R2 := RL RP) (x := ((2 : Int), [trV x a b])) T.len (e_x 0 (R := RTab (2, [trV x a b])) (h := by exact fun G h => h.2))) e_int) fun _ => w_or (t_not (t_of (e_c (ok_is_list T S) hr true (a_cons (E3.imp (snd (by exact fun G h => h.2)) fun v G h => ty_rl G h.2) a_nil)))) fun _ => w_or1 (t_gt (e_lenL (R := RP) (xs := [trV x a b]) T.len (snd (by exact fun G h => h.2))) (e_gI T.cTHOUSAND))).t (fun e => by simp at e) fun _ => ?_
  refine b_unp2 (R1 := RI) (R2 := RL RP) (x := ((2 : Int), [trV x a b])) 2 3 (e_x 0 (R := RTab (2, [trV x a b])) (h := by exact fun G h => h.2)) fun v2 v3 => ?_
  refine B3.v (v := v2) (w := .int 2) (fun G h => h.1.2) fun e2 => ?_
  subst e2
  refine B3.pre (Δ := pAnd (pAnd (pSame G0) (RTab (2, [trV x a b]) v1)) (RL RP [trV x a b] v3)) ?_ fun G h => ⟨h.1.1, h.2⟩
  refine b_when (t_or (t_not (t_of (e_all (bs := (enumL [trV x a b]).map fun _ => true) T.all (F3.rl (f_lc (own := [("at", 5), ("row", 4)]) (fun _ => true) RB (i_enumL (P := RP) (xs := [trV x a b]) T.enumerate (e_x 3 (R := RL RP [trV x a b]) (h := by exact fun G h => h.2))) (tc_two (R1 := fun k : Nat => RI k) (R2 := RP) 5 4) (blkOk_by (N := nis_table) (sc := defScope sis_table) (by decide +kernel)) (fun Gd q z w' hm => by
    have hm : z = (0, trV x a b) := by simpa [enumL] using hm
    subst hm
    exact fun s2 H2 C2 cl fp => e_c (ok_is_triple T S) hr ⟨(x, a, b), hx, h3⟩ (a_cons (e_x 4 (R := RP (trV x a b)) (h := by exact fun G h => h.2.2)) (a_cons (E3.imp (e_add (e_x 5 (R := RI ((0 : Nat) : Int)) (h := by exact fun G h => h.2.1)) e_int) fun _ _ h => h.2) a_nil))) (by rw [enumL_len, sizeLine_eq]; show 1 < 16777216; decide)))))) fun _ => t_not (t_of (e_c (ok_letters_rise T S) hr (x, a, b) (a_cons (e_x 3 (R := RL RP [trV x a b]) (h := by exact fun G h => h.2)) a_nil)))) (fun e => by rw [all_tt] at e; exact absurd e (by decide)) fun _ => ?_
  refine b_when (t_or (t_not (t_of (e_c (ok_is_between T S) hr ((2 : Int), 0, (1 : Nat) + 1) (a_cons (e_v 2) (a_cons e_int (a_cons (e_add (e_lenL (R := RP) (xs := [trV x a b]) T.len (e_x 3 (R := RL RP [trV x a b]) (h := by exact fun G h => h.2))) e_int) a_nil)))))) fun _ => t_gt (e_lenL (R := RS) (xs := [x]) T.len (e_c (ok_row_letters T S) hr (x, a, b) (a_cons (e_x 3 (R := RL RP [trV x a b]) (h := by exact fun G h => h.2)) a_nil))) (e_gI T.cSIXTY_tables)) (fun e => by simp at e) fun _ => ?_
  refine b_setM 1 (m_make0 (ok_Store_init St) hr St.gC (fun d G h => ⟨_, _, rfl, rfl, rfl⟩) (fun d r v G h => h.1.1)) fun v r => ?_
  obtain ⟨⟨sA, dx0⟩, sv⟩ := r
  refine B3.fact (p := v = .ref sA ∧ sv.s = sA ∧ sv.nv = [] ∧ sv.tl = [[], []]) (fun G h => ⟨h.2.1, h.2.2.1.2⟩) fun ⟨ev, es, e1, e2⟩ => ?_
  subst es
  subst ev
  refine B3.pre (Δ := pAnd (pAnd (pAnd (pSame G0) (RTab (2, [trV x a b]) v1)) (RL RP [trV x a b] v3)) sv.all) ?_ fun G h => ⟨h.1, h.2.2.2⟩
  dsimp only
  refine b_retMF (R := fun _ => RB (PyData.eqv (dTab x a b) (dTab x a b))) (fun r : Te × Sv => r.2.own C) hq (m_cmpLG (Rb := RTab (2, [trV x a b])) (op_eqD (hu64 hr)) (nomark _) (m_methM (fun d : Te => d.x = x ∧ d.a = a ∧ d.b = b) St.cls (ok_Store_tell T St) hr [] A (p := sv.s) (dx := sv.dx) (fs := stFs sv.t sv.n sv.f) (by simp [Sv.own]) rfl (e_v 1) (m_meth St.cls (ok_Store_ttab T St) hr (Tk.mk sv x a b e2 e1 h3) [] A rfl (p := sv.s) (dx := sv.dx) (fs := stFs sv.t sv.n sv.f) (by simp [Sv.own]) rfl (e_v 1) (a_cons (e_x 0 (R := RTab (2, [trV x a b])) (h := by exact fun G h => h.1.1.2)) a_nil) (fun vs G h => ⟨h.1.2, _, _, rfl, rfl, h.2⟩)) (fun r0 v G h => ?_)) (fun q => e_tup2 (R1 := RI) (R2 := RL RP) (x := (2 : Int)) (y := [trV x a b]) (e_v 2) (F3.rl (f_lc (own := [("row", 4)]) (fun z : List V => z) RP (i_list (P := RP) (xs := [trV x a b]) (e_x 3 (R := RL RP [trV x a b]) (h := by exact fun G h => h.1.2))) (tc_name 4) (blkOk_by (N := nis_table) (sc := defScope sis_table) (by decide +kernel)) (fun Gd q2 z w' hm s2 H2 C2 cl fp => e_tupSameP T.tuple (e_x 4 (R := RP z) (h := by exact fun G h => h.2))) (by rw [sizeLine_eq]; show 1 < 16777216; decide)))) (fun q y z H' Q ok g ry rz k => by
    have ry2 : (RTab (2, [trV x a b]) y).holds (hide ([] ++ (q.2.own C ++ A)) H') := by
      obtain ⟨⟨c1, c2, c3⟩, _, w2⟩ := ry
      rw [c1, c2, c3] at w2
      exact w2
    exact ⟨dTab x a b, dTab x a b, dp_up (d_tab _ ry2), dp_up (d_tab _ rz), shaped_tab hx, shaped_tab hx, k _ _ (Ext.refl ok) rfl⟩)) (fun _ => rfl) (fun G h => h.1.1.1) (fun r v G h => ?_)
  · obtain ⟨_, ⟨ev, out⟩, al⟩ := h
    exact ⟨⟨r0, x, a, b, out.tl⟩, rfl, ⟨al, _, _, rfl, congrArg V.ref out.s.symm, _, _, rfl, ev, rfl⟩, rfl, rfl, rfl⟩
  · have z := h.2.2
    rw [eqv_tab] at z
    exact z
theorem ok_truth_by (T : Tx K mg) (S : Ats K mg) : Fd P w K mg base "truth_by" 1 (spF (fun (d : {d : Str × Bool × Bool × Wd // d.1 ∈ keysD d.2.2.2}) => Pm.PC (RTab (2, [trV d.1.1 d.1.2.1 d.1.2.2.1])) (Pm.PC (RW d.1.2.2.2) PN)) fun d => RB (tellT d.1.1 d.1.2.1 d.1.2.2.1 d.1.2.2.2)) := by
  obtain ⟨f, fd, F, gm⟩ := S.dtruth_by
  refine fd_mk F gm ctruth_by (fun _ _ _ _ _ _ us hl => match us, hl with | [_, _], _ => rfl) (fun d vs G h => len2 h) fun cdv Ar outer s H vs ⟨⟨x, a, b, wd⟩, hx⟩ A G0 D hr hq hn => in2 fun v1 v2 => ?_
  have nd := ctruth_by.nd
  dsimp only at hx
  have hu := hu_of hr
  obtain ⟨t, ht⟩ : ∃ t, getD wd x = some t := by
    cases e : getD wd x with
    | none => exact absurd hx (get_none.mp e)
    | some t => exact ⟨t, rfl⟩
  have hres : tellT x a b wd = (if t = true then b else a) := by
    unfold tellT
    rw [ht]
    cases t <;> rfl
  generalize tellT x a b wd = res at hres hq
  refine b_setV 2 (w := .int 2) (e_fst (R1 := RI) (R2 := RL RP) (x := ((2 : Int), [trV x a b])) (e_x 0 (R := RTab (2, [trV x a b])) (h := by exact fun G h => h.1.2))) ?_
  refine b_while (δ := Int × Option V × Option V × Option V) (sd := fun d => [some v1, some v2, some (.int d.1), d.2.1, d.2.2.1, d.2.2.2]) (Ad := fun d => A) (Γd := fun _ => pAnd (pAnd (pSame G0) (RTab (2, [trV x a b]) v1)) (RW wd v2)) (rel := fun d => d.1 = 2 ∨ d.1 = bI res) (μ := fun d => d.1.toNat) (t := fun d => decide (d.1 > 1)) (2, none, none, none) ⟨.inl rfl, rfl, rfl⟩ (fun G h => h) (fun d hd => t_gt (e_v 2) e_int) (fun d hd ht2 => ?_) (fun d hd ht2 => ?_)
  · obtain ⟨i, sa, sb, sc⟩ := d
    dsimp only at hd ht2
    have hi : i = 2 := by
      rcases hd with e | e
      · exact e
      · subst e
        cases res <;> simp [bI] at ht2
    subst hi
    dsimp only
    refine b_unp3 (u1 := .str x) (u2 := .int (bI a)) (u3 := .int (bI b)) 3 4 5 (e_at (R := RP (trV x a b)) (i := 2 - 2) (e_snd (R1 := RI) (R2 := RL RP) (x := ((2 : Int), [trV x a b])) (e_x 0 (R := RTab (2, [trV x a b])) (h := by exact fun G h => h.1.2))) (e_sub (e_v 2) e_int) s_rl.s (fun vs G _ h => at_all (i := 2 - 2) (xs := [trV x a b]) (j := 0) (by decide) rfl vs G h)) ?_
    refine b_setV 2 (w := .int (bI res)) (e_if (t := t) (t_of (e_dgetK (ι := kS) (f := V.bl) (d := wd) (k := x) inr_inj hu (e_x 1 (R := RW wd) (h := by exact fun G h => h.2)) (e_v 3) ht)) (fun e => by subst e; rw [hres]; exact e_v 5) (fun e => by subst e; rw [hres]; exact e_v 4)) ?_
    exact b_fin rfl (bI res, some (.str x), some (.int (bI a)), some (.int (bI b))) ⟨.inr rfl, by cases res <;> simp [bI]⟩ rfl rfl fun G h => h
  · obtain ⟨i, sa, sb, sc⟩ := d
    dsimp only at hd ht2
    have hi : i = bI res := by
      rcases hd with e | e
      · subst e
        simp at ht2
      · exact e
    subst hi
    dsimp only
    exact b_rt hq (e_eq (x := .int (bI res)) (y := .int 1) (e_v 2) e_int) (by intro v G z; have z2 := z.2; rw [bI_one] at z2; exact z2)
end
end L97
/-! E97h -/
set_option maxHeartbeats 2000000
namespace L97
open PySem PySem.Spec L2 Pm
structure OkBt (d : List Cl × List Cl × List Stp × List Cl × Str × Bool × Bool) : Prop where
  b : OkB d.1 d.2.1
  pf : OkPf (d.1 ++ d.2.1) d.2.2.1 d.2.2.2.1
  last : d.2.2.2.1.getLast? = some []
  ne : d.2.2.2.2.2.1 ≠ d.2.2.2.2.2.2
  itp : ∀ r, Itp d.1 d.2.1 (lettersW d.2.1) [] r → r = ([d.2.2.2.2.1], [d.2.2.2.2.2.1, d.2.2.2.2.2.2])
structure OkIb (d : List Cl × List Cl × Str × Bool × Bool) : Prop where
  b : OkB d.1 d.2.1
  lx : isLetter d.2.2.1 = true
  ne : d.2.2.2.1 ≠ d.2.2.2.2
  sh : d.2.2.1 ∈ sharedC d.1 d.2.1
  one : ∀ w ∈ whereC d.1 (lettersW d.1), tellT d.2.2.1 d.2.2.2.1 d.2.2.2.2 w = true
  other : ∀ w ∈ whereC d.2.1 (lettersW d.2.1), tellT d.2.2.1 d.2.2.2.1 d.2.2.2.2 w = false
theorem whereC_keys {cs : List Cl} {ls : List Str} {w : Wd} (h : w ∈ whereC cs ls) : keysD w = ls := by
  obtain ⟨h1, _⟩ := List.mem_filter.mp h
  obtain ⟨p, _, rfl⟩ := List.mem_map.mp h1
  exact worldAt_keys _ _
theorem whereC_len (cs : List Cl) (ls : List Str) (h : ls.length ≤ 12) : (whereC cs ls).length ≤ 4096 := by
  unfold whereC
  refine Nat.le_trans (List.length_filter_le ..) ?_
  rw [List.length_map, List.length_range]
  exact Nat.pow_le_pow_right (n := 2) (by decide) h
section
variable {P : Program} {w : World} {K : PySem.W.Frag} {mg : Str → Option Value} {base : Heap} {C : Addr}
theorem ok_between_by (T : Tx K mg) (S : Ats K mg) (St : Sto K mg C) : Fd P w K mg base "between_by" 8 (spF (fun (d : {d : List Cl × List Cl × List Stp × List Cl × Str × Bool × Bool // OkBt d}) => Pm.PC (RCs d.1.1) (Pm.PC (RCs d.1.2.1) (Pm.PC (RL RStp d.1.2.2.1) PN))) fun d => RTab (2, [trV d.1.2.2.2.2.1 d.1.2.2.2.2.2.1 d.1.2.2.2.2.2.2])) := by
  obtain ⟨f, fd, F, gm⟩ := S.dbetween_by
  refine fd_mk F gm cbetween_by (fun _ _ _ _ _ _ us hl => match us, hl with | [_, _, _], _ => rfl) (fun d vs G h => len3 h) fun cdv Ar outer s H vs ⟨⟨ones, others, ss, res, x, a, b⟩, h1, h2, h3, h4, h5⟩ A G0 D hr hq hn => in3 fun v1 v2 v3 => ?_
  have nd := cbetween_by.nd
  dsimp only at h1 h2 h3 h4 h5
  have l1 := h1.one.few
  have l2 := h1.other.few
  refine b_expr (e_c (ok_check_both T S) hr ⟨(ones, others), h1⟩ (a_cons (e_x 0) (a_cons (e_x 1) a_nil))) fun v => ?_
  refine b_when (t_not (t_of (e_c (ok_is_proof T S) hr ⟨(ones ++ others, ss, res), h1.both, h2, h3⟩ (a_cons (F3.rl (f_star2 (T := RCl) (e_x 0 (R := RCs ones)) (e_x 1 (R := RCs others)) (by rw [sizeLine_eq]; omega))) (a_cons (e_x 2 (R := RL RStp ss)) a_nil))))) (fun e => absurd e (by decide)) fun _ => ?_
  refine b_unp2 (R1 := RL RS) (R2 := RL RB) (x := ([x], [a, b])) 3 4 (e_at (R := RRow ([x], [a, b])) (Ra := fun v => pEx fun rows : List Row => pAnd (pP (OkRows ones others res rows)) (RL RRow rows v)) (P := fun vs => pEx fun rows : List Row => pAnd (pP (OkRows ones others res rows)) (pAll RRow rows vs)) (e_c (ok_rows_along T S) hr ⟨(ones, others, ss, res), h1, h2⟩ (a_cons (e_x 0 (R := RCs ones)) (a_cons (e_x 1 (R := RCs others)) (a_cons (e_x 2 (R := RL RStp ss)) a_nil)))) e_neg1 (fun v H ok g ⟨rows, hok, ad, vs, e, h, r⟩ => ⟨ad, vs, e, .inl (SqL.of (hide_le _ _ h)), rows, hok, r⟩) (fun vs G _ ⟨rows, hok, r⟩ => ?_)) fun v3 v4 => ?_
  · have hok : OkRows ones others res rows := hok
    rw [List.getLast?_eq_getElem?] at h3
    obtain ⟨r0, e1, e2⟩ := hok.2 _ _ h3
    have e3 := h5 r0 e2
    subst e3
    rw [← hok.1, ← List.getLast?_eq_getElem?] at e1
    obtain ⟨v, e4, e5⟩ := pAll_last r e1
    exact ⟨v, atI_neg1 e4, e5⟩
  · exact b_rt hq (e_c (ok_table_by_row T S St) hr ⟨(x, a, b), h4⟩ (a_cons (e_x 3 (R := RL RS [x]) (h := by exact fun G h => h.1.2)) (a_cons (e_x 4 (R := RL RB [a, b]) (h := by exact fun G h => h.2)) a_nil)))
theorem ok_is_between_by (T : Tx K mg) (S : Ats K mg) (St : Sto K mg C) : Fd P w K mg base "is_between_by" 8 (spF (fun (d : {d : List Cl × List Cl × Str × Bool × Bool // OkIb d}) => Pm.PC (RCs d.1.1) (Pm.PC (RCs d.1.2.1) (Pm.PC (RTab (2, [trV d.1.2.2.1 d.1.2.2.2.1 d.1.2.2.2.2])) PN))) fun d => RB true) := by
  obtain ⟨f, fd, F, gm⟩ := S.dis_between_by
  refine fd_mk F gm cis_between_by (fun _ _ _ _ _ _ us hl => match us, hl with | [_, _, _], _ => rfl) (fun d vs G h => len3 h) fun cdv Ar outer s H vs ⟨⟨ones, others, x, a, b⟩, h1, h2, h3, h4, h5, h6⟩ A G0 D hr hq hn => in3 fun v1 v2 v3 => ?_
  have nd := cis_between_by.nd
  dsimp only at h1 h2 h3 h4 h5 h6
  have c1 := h1.one.let_
  have c2 := h1.other.let_
  have f1 := h1.one.few
  have f2 := h1.other.few
  have k1 : x ∈ lettersW ones := (List.mem_filter.mp h4).1
  have k2 : x ∈ lettersW others := by simpa using (List.mem_filter.mp h4).2
  refine b_expr (e_c (ok_check_both T S) hr ⟨(ones, others), h1⟩ (a_cons (e_x 0) (a_cons (e_x 1) a_nil))) fun v => ?_
  refine b_when (t_not (t_of (e_c (ok_is_table T S St) hr ⟨(x, a, b), h2, h3⟩ (a_cons (e_x 2 (R := RTab (2, [trV x a b]))) a_nil)))) (fun e => absurd e (by decide)) fun _ => ?_
  refine B3.pre (Δ := pAnd (pAnd (pAnd (pSame G0) (RCs ones v1)) (RCs others v2)) (RTab (2, [trV x a b]) v3)) ?_ fun G h => h.1
  refine b_set 3 (R := RL RS (sharedC ones others)) (e_c (ok_shared_letters T S) hr ⟨(ones, others), h1⟩ (a_cons (e_x 0 (R := RCs ones) (h := by exact fun G h => h.1.1.2)) (a_cons (e_x 1 (R := RCs others) (h := by exact fun G h => h.1.2)) a_nil))) fun v4 => ?_
  refine b_when (t_not (t_of (e_all (bs := [x].map fun l => decide (l ∈ sharedC ones others)) T.all (F3.rl (f_lc (own := [("letter", 4)]) (fun l => decide (l ∈ sharedC ones others)) RB (i_list (P := RS) (xs := [x]) (e_c (ok_row_letters T S) hr (x, a, b) (a_cons (e_snd (R1 := RI) (R2 := RL RP) (x := ((2 : Int), [trV x a b])) (e_x 2 (R := RTab (2, [trV x a b])) (h := by exact fun G h => h.1.2))) a_nil))) (tc_name 4) (blkOk_by (N := nis_between_by) (sc := defScope sis_between_by) (by decide +kernel)) (fun Gd q z w' hm s2 H2 C2 cl fp => e_inL (e_x 4 (R := RS z) (h := by exact fun G h => h.2)) (e_x 3 (R := RL RS (sharedC ones others)) (h := by exact fun G h => h.1.1.2))) (by rw [sizeLine_eq]; show 1 < 16777216; decide)))))) (fun e => by simp [h4] at e) fun _ => ?_
  refine B3.pre (Δ := pAnd (pAnd (pAnd (pSame G0) (RCs ones v1)) (RCs others v2)) (RTab (2, [trV x a b]) v3)) ?_ fun G h => h.1
  have hz1 := whereC_len ones (lettersW ones) c1
  have hz2 := whereC_len others (lettersW others) c2
  refine b_when (t_not (t_of (e_all (bs := (whereC ones (lettersW ones)).map (tellT x a b)) T.all (F3.rl (f_lc (own := [("world", 5)]) (tellT x a b) RB (i_list (P := RW) (xs := whereC ones (lettersW ones)) (e_c (ok_worlds_where T S) hr ⟨(ones, lettersW ones), lettersW_nodup _, c1, by show ones.length ≤ 1000; omega, fun c hc => (h1.one.cl c hc).few, fun c hc l hl => mem_lettersW hc hl⟩ (a_cons (e_x 0 (R := RCs ones) (h := by exact fun G h => h.1.1.2)) (a_cons (e_c (ok_letters_within T S) hr ⟨ones, h1.one.cl, h1.one.few, by omega⟩ (a_cons (e_x 0 (R := RCs ones) (h := by exact fun G h => h.1.1.2)) a_nil)) a_nil)))) (tc_name 5) (blkOk_by (N := nis_between_by) (sc := defScope sis_between_by) (by decide +kernel)) (fun Gd q z w' hm s2 H2 C2 cl fp => e_c (ok_truth_by T S) hr ⟨(x, a, b, z), by rw [whereC_keys hm]; exact k1⟩ (a_cons (e_x 2 (R := RTab (2, [trV x a b])) (h := by exact fun G h => h.1.1.2)) (a_cons (e_x 5 (R := RW z) (h := by exact fun G h => h.2)) a_nil))) (by rw [sizeLine_eq]; omega)))))) (fun e => by
    have : ((whereC ones (lettersW ones)).map (tellT x a b)).all id = true := by
      rw [List.all_map, List.all_eq_true]
      exact fun w hw => h5 w hw
    rw [this] at e
    exact absurd e (by decide)) fun _ => ?_
  refine b_rt hq (e_not (e_any (bs := (whereC others (lettersW others)).map (tellT x a b)) T.any (F3.rl (f_lc (own := [("world", 5)]) (tellT x a b) RB (i_list (P := RW) (xs := whereC others (lettersW others)) (e_c (ok_worlds_where T S) hr ⟨(others, lettersW others), lettersW_nodup _, c2, by show others.length ≤ 1000; omega, fun c hc => (h1.other.cl c hc).few, fun c hc l hl => mem_lettersW hc hl⟩ (a_cons (e_x 1 (R := RCs others) (h := by exact fun G h => h.1.2)) (a_cons (e_c (ok_letters_within T S) hr ⟨others, h1.other.cl, h1.other.few, by omega⟩ (a_cons (e_x 1 (R := RCs others) (h := by exact fun G h => h.1.2)) a_nil)) a_nil)))) (tc_name 5) (blkOk_by (N := nis_between_by) (sc := defScope sis_between_by) (by decide +kernel)) (fun Gd q z w' hm s2 H2 C2 cl fp => e_c (ok_truth_by T S) hr ⟨(x, a, b, z), by rw [whereC_keys hm]; exact k2⟩ (a_cons (e_x 2 (R := RTab (2, [trV x a b])) (h := by exact fun G h => h.1.1.2)) (a_cons (e_x 5 (R := RW z) (h := by exact fun G h => h.2)) a_nil))) (by rw [sizeLine_eq]; omega))))) (by
    intro v G z
    have z2 := z.2
    have : ((whereC others (lettersW others)).map (tellT x a b)).any id = false := by
      rw [List.any_map, List.any_eq_false]
      intro w hw
      rw [Function.comp_apply, h6 w hw]
      decide
    rw [this] at z2
    exact z2)
end
end L97
/-! G97a -/
set_option maxHeartbeats 2000000
namespace L97
open PySem PySem.Spec L2 Pm
/-- trees of clauses -/
inductive Tr
  | lt (x : Str)
  | nt (t : Tr)
  | pr (w : Bool) (a b : Tr)
def wdT (w : Bool) : Str := if w = true then "both" else "either"
def tagT : Tr → Str
  | .lt _ => "letter"
  | .nt _ => "not"
  | .pr w _ _ => wdT w
def RTr : Tr → V → Pr
  | .lt x => RP [.str "letter", .str x]
  | .nt t => fun v => pEx fun a => pEx fun u => pAnd (pP (v = .ref a)) (pAnd (pAt a (.tup [.str "not", u])) (RTr t u))
  | .pr w a b => fun v => pEx fun p => pEx fun u1 => pEx fun u2 => pAnd (pP (v = .ref p)) (pAnd (pAt p (.tup [.str (wdT w), u1, u2])) (pAnd (RTr a u1) (RTr b u2)))
def itemsT : Tr → List V → Pr
  | .lt x => fun vs => pP (vs = [.str "letter", .str x])
  | .nt t => fun vs => pEx fun u => pAnd (pP (vs = [.str "not", u])) (RTr t u)
  | .pr w a b => fun vs => pEx fun u1 => pEx fun u2 => pAnd (pP (vs = [.str (wdT w), u1, u2])) (pAnd (RTr a u1) (RTr b u2))
def widT : Tr → Nat
  | .lt _ => 2
  | .nt _ => 2
  | .pr .. => 3
theorem s_tr {K : PySem.W.Frag} {A : Own} {Γ : Pr} : ∀ {t : Tr}, Sees K A Γ (RTr t) (itemsT t)
  | .lt x => s_rp
  | .nt t => fun v H ok g ⟨a, u, e, h, r⟩ => ⟨a, _, e, .inr (SqT.of (hide_le _ _ h)), u, rfl, r⟩
  | .pr w a b => fun v H ok g ⟨p, u1, u2, e, h, r1, r2⟩ => ⟨p, _, e, .inr (SqT.of (hide_le _ _ h)), u1, u2, rfl, r1, r2⟩
theorem items_len {G : Hp} : ∀ {t : Tr} {vs : List V}, (itemsT t vs).holds G → vs.length = widT t
  | .lt x, vs, h => by rw [show vs = _ from h]; rfl
  | .nt t, vs, ⟨u, e, _⟩ => by rw [show vs = _ from e]; rfl
  | .pr w a b, vs, ⟨u1, u2, e, _⟩ => by rw [show vs = _ from e]; rfl
theorem items_tag {G : Hp} : ∀ {t : Tr} {vs : List V}, (itemsT t vs).holds G → ∃ v, atI vs 0 = some v ∧ (RS (tagT t) v).holds G
  | .lt x, vs, h => ⟨_, by rw [show vs = _ from h]; rfl, rfl⟩
  | .nt t, vs, ⟨u, e, _⟩ => ⟨_, by rw [show vs = _ from e]; rfl, rfl⟩
  | .pr w a b, vs, ⟨u1, u2, e, _⟩ => ⟨_, by rw [show vs = _ from e]; rfl, rfl⟩
theorem ty_tr {K : PySem.W.Frag} : ∀ {t : Tr} {v : V}, (RTr t v).le (pTy K "tuple" v)
  | .lt x, v => ty_rp
  | .nt t, v => fun G ⟨a, u, e, h, _⟩ => by rw [show v = _ from e]; exact .base (.tup h)
  | .pr w a b, v => fun G ⟨p, u1, u2, e, h, _⟩ => by rw [show v = _ from e]; exact .base (.tup h)
section
variable {X : Cx} {A : Own} {Γ : Pr} {σ : L2.St} {e : Expr} {pos : Pos}
theorem e_tag {t : Tr} {k p} (h : E3 X A Γ σ e (RTr t)) : E3 X A Γ σ (.Subscript e (.Constant (.int 0) k p) pos) (RS (tagT t)) := e_at h e_int s_tr fun vs G _ z => items_tag z
theorem e_lt1 {x : Str} {k p} (h : E3 X A Γ σ e (RTr (.lt x))) : E3 X A Γ σ (.Subscript e (.Constant (.int 1) k p) pos) (RS x) := e_at h e_int s_tr fun vs G _ z => ⟨.str x, by rw [show vs = _ from z]; rfl, rfl⟩
theorem e_nt1 {t : Tr} {k p} (h : E3 X A Γ σ e (RTr (.nt t))) : E3 X A Γ σ (.Subscript e (.Constant (.int 1) k p) pos) (RTr t) := e_at h e_int s_tr fun vs G _ ⟨u, e, r⟩ => ⟨u, by rw [show vs = _ from e]; rfl, r⟩
theorem e_pr1 {w : Bool} {a b : Tr} {k p} (h : E3 X A Γ σ e (RTr (.pr w a b))) : E3 X A Γ σ (.Subscript e (.Constant (.int 1) k p) pos) (RTr a) := e_at h e_int s_tr fun vs G _ ⟨u1, u2, e, r1, r2⟩ => ⟨u1, by rw [show vs = _ from e]; rfl, r1⟩
theorem e_pr2 {w : Bool} {a b : Tr} {k p} (h : E3 X A Γ σ e (RTr (.pr w a b))) : E3 X A Γ σ (.Subscript e (.Constant (.int 2) k p) pos) (RTr b) := e_at h e_int s_tr fun vs G _ ⟨u1, u2, e, r1, r2⟩ => ⟨u2, by rw [show vs = _ from e]; rfl, r2⟩
end
def PAIR : List Str := ["both", "either", "if", "alike", "apart"]
def BOUN : List Str := ["some", "every"]
def PLAI : List Str := ["yes", "no"]
theorem pair_wd (w : Bool) : decide (wdT w ∈ PAIR) = true := by cases w <;> decide +kernel
theorem pair_lt : decide (("letter" : Str) ∈ PAIR) = false := by decide +kernel
theorem pair_nt : decide (("not" : Str) ∈ PAIR) = false := by decide +kernel
theorem boun_wd (w : Bool) : decide (wdT w ∈ BOUN) = false := by cases w <;> decide +kernel
theorem boun_lt : decide (("letter" : Str) ∈ BOUN) = false := by decide +kernel
theorem boun_nt : decide (("not" : Str) ∈ BOUN) = false := by decide +kernel
theorem plai_wd (w : Bool) : decide (wdT w ∈ PLAI) = false := by cases w <;> decide +kernel
theorem plai_lt : decide (("letter" : Str) ∈ PLAI) = false := by decide +kernel
theorem plai_nt : decide (("not" : Str) ∈ PLAI) = false := by decide +kernel
def LN : List Str := ["letter", "name"]
theorem ln_wd (w : Bool) : decide (wdT w ∈ LN) = false := by cases w <;> decide +kernel
theorem ln_lt : decide (("letter" : Str) ∈ LN) = true := by decide +kernel
theorem ln_nt : decide (("not" : Str) ∈ LN) = false := by decide +kernel
theorem wd_ne (w : Bool) : decide (V.str (wdT w) = V.str "not") = false := by cases w <;> decide +kernel
theorem wd_ne2 (w : Bool) : decide (V.str (wdT w) = V.str "name") = false := by cases w <;> decide +kernel
def partsT : Tr → List Tr
  | .lt _ => []
  | .nt t => [t]
  | .pr _ a b => [a, b]
def okT : Tr → Prop
  | .lt x => isLetter x = true
  | .nt t => okT t
  | .pr _ a b => okT a ∧ okT b
section
variable {P : Program} {w : World} {K : PySem.W.Frag} {mg : Str → Option Value} {base : Heap}
theorem ok_parts_of (T : Tx K mg) (S : Ats K mg) : Fd P w K mg base "parts_of" 1 (spF (fun (t : Tr) => Pm.PC (RTr t) PN) fun t => RL RTr (partsT t)) := by
  obtain ⟨f, fd, F, gm⟩ := S.dparts_of
  refine fd_mk F gm cparts_of (fun _ _ _ _ _ _ us hl => match us, hl with | [_], _ => rfl) (fun d vs G h => len1 h) fun cdv Ar outer s H vs t A G0 D hr hq hn => in1 fun v1 => ?_
  have nd := cparts_of.nd
  obtain ⟨ap, gp, qp⟩ := T.cPAIRED
  obtain ⟨ab, gb, qb⟩ := T.cBOUND
  cases t with
  | pr wd a b =>
    exact b_when ((t_inQ (xs := PAIR) (e_tag (e_x 0 (R := RTr (.pr wd a b)))) (e_gL gp qp)).eq (t' := true) (pair_wd wd)) (fun _ => b_rt hq (F3.rl (f_two (T := RTr) (e_pr1 (e_x 0 (R := RTr (.pr wd a b)))) (e_pr2 (e_x 0 (R := RTr (.pr wd a b))))))) (fun e => absurd e (by decide))
  | lt x =>
    refine b_when ((t_inQ (xs := PAIR) (e_tag (e_x 0 (R := RTr (.lt x)))) (e_gL gp qp)).eq (t' := false) pair_lt) (fun e => absurd e (by decide)) fun _ => ?_
    refine b_when ((t_inQ (xs := BOUN) (e_tag (e_x 0 (R := RTr (.lt x)))) (e_gL gb qb)).eq (t' := false) boun_lt) (fun e => absurd e (by decide)) fun _ => ?_
    exact b_rt hq (e_if (t := false) ((t_eq (x := .str "letter") (y := .str "not") (e_tag (e_x 0 (R := RTr (.lt x)))) e_str).eq (by decide +kernel)) (fun e => absurd e (by decide)) (fun _ => F3.rl f_nil))
  | nt t =>
    refine b_when ((t_inQ (xs := PAIR) (e_tag (e_x 0 (R := RTr (.nt t)))) (e_gL gp qp)).eq (t' := false) pair_nt) (fun e => absurd e (by decide)) fun _ => ?_
    refine b_when ((t_inQ (xs := BOUN) (e_tag (e_x 0 (R := RTr (.nt t)))) (e_gL gb qb)).eq (t' := false) boun_nt) (fun e => absurd e (by decide)) fun _ => ?_
    exact b_rt hq (e_if (t := true) ((t_eq (x := .str "not") (y := .str "not") (e_tag (e_x 0 (R := RTr (.nt t)))) e_str).eq (by decide +kernel)) (fun _ => F3.rl (f_one (T := RTr) (e_nt1 (e_x 0 (R := RTr (.nt t)))))) (fun e => absurd e (by decide)))
theorem ok_is_head (T : Tx K mg) (S : Ats K mg) : Fd P w K mg base "is_head" 3 (spF (fun (t : {t : Tr // okT t}) => Pm.PC (RTr t.1) PN) fun t => RB true) := by
  obtain ⟨f, fd, F, gm⟩ := S.dis_head
  refine fd_mk F gm cis_head (fun _ _ _ _ _ _ us hl => match us, hl with | [_], _ => rfl) (fun d vs G h => len1 h) fun cdv Ar outer s H vs ⟨t, ht⟩ A G0 D hr hq hn => in1 fun v1 => ?_
  have nd := cis_head.nd
  obtain ⟨ap, gp, qp⟩ := T.cPAIRED
  obtain ⟨ab, gb, qb⟩ := T.cBOUND
  obtain ⟨al, gl, ql⟩ := T.cPLAIN
  have hw : ¬ (widT t = 0) := by cases t <;> simp [widT]
  refine b_when (t_or3 (t_not (t_of (e_c (ok_is_list T S) hr false (a_cons (e_var 0 (R := pTy K "tuple") (by exact fun G h => ty_tr G h.2)) a_nil)))) (fun _ => t_eq (e_len (n := widT t) T.len (e_x 0 (R := RTr t)) s_tr (fun vs G _ z => items_len z)) e_int) fun _ _ => t_not (t_of (e_isi (t := true) T.isinstance (e_tag (e_x 0 (R := RTr t))) (fun _ => ty_rs) (e_tS T.str) (by decide +kernel)))) (fun e => by simp at e; exact absurd e hw) fun _ => ?_
  refine b_setV 1 (w := .str (tagT t)) (e_tag (e_x 0 (R := RTr t))) ?_
  cases t with
  | lt x =>
    refine b_when ((t_inQ (xs := PLAI) (e_v 1) (e_gL gl ql)).eq (t' := false) plai_lt) (fun e => absurd e (by decide)) fun _ => ?_
    refine b_when ((t_inL (xs := LN) (e_v 1) (F3.rl (f_two e_str e_str))).eq (t' := true) ln_lt) (fun _ => ?_) (fun e => absurd e (by decide))
    exact b_rt hq (e_and (e_eq (e_len (n := 2) T.len (e_x 0 (R := RTr (.lt x))) s_tr (fun vs G _ z => items_len z)) e_int) fun _ => e_c (ok_is_letter T S) hr ⟨x, isLetter_len ht⟩ (a_cons (e_lt1 (e_x 0 (R := RTr (.lt x)))) a_nil)) (by intro v G z; have z2 := z.2; rw [show isLetter (⟨x, isLetter_len ht⟩ : {z : Str // z.length ≤ 1000}).1 = true from ht] at z2; exact z2)
  | nt t =>
    refine b_when ((t_inQ (xs := PLAI) (e_v 1) (e_gL gl ql)).eq (t' := false) plai_nt) (fun e => absurd e (by decide)) fun _ => ?_
    refine b_when ((t_inL (xs := LN) (e_v 1) (F3.rl (f_two e_str e_str))).eq (t' := false) ln_nt) (fun e => absurd e (by decide)) fun _ => ?_
    refine b_when ((t_inQ (xs := BOUN) (e_v 1) (e_gL gb qb)).eq (t' := false) boun_nt) (fun e => absurd e (by decide)) fun _ => ?_
    exact b_rt hq (e_or (u := true) (e_and (e_eq (x := .str "not") (y := .str "not") (e_v 1) e_str) fun _ => e_eq (e_len (n := 2) T.len (e_x 0 (R := RTr (.nt t))) s_tr (fun vs G _ z => items_len z)) e_int) (fun e => absurd e (by decide +kernel))) (by intro v G z; have z2 := z.2; rw [Bool.or_true] at z2; exact z2)
  | pr wd a b =>
    refine b_when ((t_inQ (xs := PLAI) (e_v 1) (e_gL gl ql)).eq (t' := false) (plai_wd wd)) (fun e => absurd e (by decide)) fun _ => ?_
    refine b_when ((t_inL (xs := LN) (e_v 1) (F3.rl (f_two e_str e_str))).eq (t' := false) (ln_wd wd)) (fun e => absurd e (by decide)) fun _ => ?_
    refine b_when ((t_inQ (xs := BOUN) (e_v 1) (e_gL gb qb)).eq (t' := false) (boun_wd wd)) (fun e => absurd e (by decide)) fun _ => ?_
    refine b_rt hq (e_or (t := false) (E3.imp (e_and (u := true) (e_eq (x := .str (wdT wd)) (y := .str "not") (e_v 1) e_str) fun e => by rw [wd_ne] at e; exact absurd e (by decide)) fun v G z => by have z2 := z.2; rw [wd_ne] at z2; exact z2) (fun _ => e_and (e_inQ (xs := PAIR) (e_v 1) (e_gL gp qp)) fun _ => e_eq (e_len (n := 3) T.len (e_x 0 (R := RTr (.pr wd a b))) s_tr (fun vs G _ z => items_len z)) e_int)) (by
      intro v G z
      have z2 := z.2
      rw [show decide (tagT (Tr.pr wd a b) ∈ PAIR) = true from pair_wd wd] at z2
      exact z2)
end
end L97
/-! G97b -/
set_option maxHeartbeats 2000000
namespace L97
open PySem PySem.Spec L2 Pm
def sizeT : Tr → Nat
  | .lt _ => 1
  | .nt t => sizeT t + 1
  | .pr _ a b => sizeT a + sizeT b + 1
def depT : Tr → Nat
  | .lt _ => 1
  | .nt t => depT t + 1
  | .pr _ a b => max (depT a) (depT b) + 1
def sizesT (ts : List Tr) : Nat := (ts.map sizeT).sum
theorem size_parts {t : Tr} : sizesT (partsT t) + 1 = sizeT t := by cases t <;> simp [partsT, sizesT, sizeT]
theorem dep_parts {t s : Tr} (h : s ∈ partsT t) : depT s + 1 ≤ depT t := by
  cases t with
  | lt x => cases h
  | nt t => simp [partsT] at h; subst h; exact Nat.le_refl _
  | pr w a b =>
    simp only [partsT, List.mem_cons, List.not_mem_nil, or_false] at h
    rcases h with rfl | rfl <;> simp only [depT] <;> omega
theorem ok_parts {t s : Tr} (ht : okT t) (h : s ∈ partsT t) : okT s := by
  cases t with
  | lt x => cases h
  | nt t => simp [partsT] at h; subst h; exact ht
  | pr w a b =>
    simp only [partsT, List.mem_cons, List.not_mem_nil, or_false] at h
    rcases h with rfl | rfl
    · exact ht.1
    · exact ht.2
theorem sizes_app {xs ys : List Tr} : sizesT (xs ++ ys) = sizesT xs + sizesT ys := by simp [sizesT]
theorem sizes_len {xs : List Tr} : xs.length ≤ sizesT xs := by
  induction xs with
  | nil => exact Nat.le_refl _
  | cons x r ih =>
    have h1 : 1 ≤ sizeT x := by cases x <;> simp [sizeT]
    have h2 : sizesT (x :: r) = sizeT x + sizesT r := by simp [sizesT]
    rw [List.length_cons, h2]
    omega
theorem pAll_snoc {α β : Type} {R : α → β → Pr} {G : Hp} {xs : List α} {x : α} {vs : List β} (h : (pAll R (xs ++ [x]) vs).holds G) : ∃ us u, vs = us ++ [u] ∧ (pAll R xs us).holds G ∧ (R x u).holds G := by
  induction xs generalizing vs with
  | nil =>
    cases vs with
    | nil => exact h.elim
    | cons v r =>
      cases r with
      | nil => exact ⟨[], v, rfl, trivial, h.1⟩
      | cons _ _ => exact h.2.elim
  | cons y r ih =>
    cases vs with
    | nil => exact h.elim
    | cons v r2 =>
      obtain ⟨us, u, e, h1, h2⟩ := ih h.2
      exact ⟨v :: us, u, by rw [e]; rfl, ⟨h.1, h1⟩, h2⟩
section
variable {P : Program} {w : World} {K : PySem.W.Frag} {mg : Str → Option Value} {base : Heap}
structure OkWi (t : Tr) (n d : Nat) : Prop where
  ok : okT t
  sz : sizeT t ≤ n
  dp : depT t ≤ d
  few : n ≤ 1000
  few2 : d ≤ 1000
abbrev RTn : Tr × Nat → V → Pr := RT2 RTr (fun n : Nat => RI n)
/-- a state of the walk -/
structure Wst where
  its : List (Tr × Nat)
  many : Nat
  vs : List V
  s1 : Option V
  s2 : Option V
theorem ok_is_within (T : Tx K mg) (S : Ats K mg) : Fd P w K mg base "is_within" 4 (spF (fun (d : {d : Tr × Nat × Nat // OkWi d.1 d.2.1 d.2.2}) => Pm.PC (RTr d.1.1) (Pm.PC (RI d.1.2.1) (Pm.PC (RI d.1.2.2) PN))) fun d => RB true) := by
  obtain ⟨f, fd, F, gm⟩ := S.dis_within
  refine fd_mk F gm cis_within (fun _ _ _ _ _ _ us hl => match us, hl with | [_, _, _], _ => rfl) (fun d vs G h => len3 h) fun cdv Ar outer s H vs ⟨⟨t, n, dp⟩, h1, h2, h3, h4, h5⟩ A G0 D hr hq hn => in3 fun v1 v2 v3 => ?_
  have nd := cis_within.nd
  dsimp only at h1 h2 h3 h4 h5
  refine B3.v (v := v2) (w := .int n) (fun G h => h.1.2) fun e1 => ?_
  refine B3.v (v := v3) (w := .int dp) (fun G h => h.2) fun e2 => ?_
  subst e1 e2
  refine b_parFE 3 4 (Ra := OL RTn [(t, 1)]) (Rb := RI 0) (f_one (T := RTn) (e_tup2 (R1 := RTr) (R2 := fun n : Nat => RI n) (x := t) (y := 1) (e_x 0 (R := RTr t)) e_int)) (fun _ => e_int) fun p o v4 => ?_
  refine B3.v (v := v4) (w := .int 0) (fun G h => h.2) fun e1 => ?_
  subst e1
  refine B3.fact (p := ∃ vs, o = .lst vs ∧ True) (fun G h => by obtain ⟨vs, e, _⟩ := h.1.2; exact ⟨vs, e, trivial⟩) fun ⟨vs, eo, _⟩ => ?_
  subst eo
  refine b_while (δ := Wst) (sd := fun d => [some v1, some (.int n), some (.int dp), some (.ref p), some (.int d.many), d.s1, d.s2, none]) (Ad := fun d => (p, .lst d.vs) :: A) (Γd := fun d => pAnd (pSame G0) (pAll RTn d.its d.vs)) (rel := fun d => sizesT (d.its.map (·.1)) + d.many ≤ n ∧ ∀ q ∈ d.its, okT q.1 ∧ q.2 + depT q.1 ≤ dp + 1) (μ := fun d => sizesT (d.its.map (·.1))) (t := fun d => !d.vs.isEmpty) ⟨[(t, 1)], 0, vs, none, none⟩ ⟨⟨by simpa [sizesT] using h2, fun q hq => by cases List.mem_singleton.mp hq; exact ⟨h1, by show 1 + depT t ≤ dp + 1; omega⟩⟩, rfl, rfl⟩ (fun G h => ⟨h.1.1.1.1.1, by obtain ⟨ws, e, r⟩ := h.1.2; cases e; exact r⟩) (fun d hd => t_own (List.mem_cons_self ..) (e_v 3)) (fun d hd ht => ?_) (fun d hd ht => ?_)
  · obtain ⟨its, many, vs, s1, s2⟩ := d
    dsimp only at hd ht ⊢
    refine B3.fact (p := ∃ it i us u, its = it ++ [i] ∧ vs = us ++ [u]) (fun G h => by
      rcases List.eq_nil_or_concat its with e | ⟨it, i, e⟩
      · subst e
        have := pAll_len h.2
        cases vs with
        | nil => exact absurd ht (by decide)
        | cons _ _ => cases this
      · subst e
        rw [List.concat_eq_append] at h ⊢
        obtain ⟨us, u, e2, _⟩ := pAll_snoc h.2
        exact ⟨it, i, us, u, rfl, e2⟩) fun ⟨it, i, us, u, ei, ev⟩ => ?_
    subst ei ev
    obtain ⟨i, m⟩ := i
    obtain ⟨hd1, hd2⟩ := hd
    have hi := hd2 (i, m) (by simp)
    have hsz := hd1
    rw [List.map_append, sizes_app] at hsz
    have hsi : sizesT (([(i, m)] : List (Tr × Nat)).map (·.1)) = sizeT i := by simp [sizesT]
    rw [hsi] at hsz
    have hp := size_parts (t := i)
    refine B3.pre (Δ := pAnd (pAnd (pSame G0) (pAll RTn it us)) (RTn (i, m) u)) ?_ fun G h => by
      obtain ⟨us', u', e, r1, r2⟩ := pAll_snoc h.2
      obtain ⟨e1, e2⟩ := List.append_inj' e rfl
      cases e2
      subst e1
      exact ⟨⟨h.1, r1⟩, r2⟩
    refine B3.fact (p := it.length = us.length) (fun G h => pAll_len h.1.2) fun elen => ?_
    refine b_unpM2 (R1 := RTr) (R2 := fun n : Nat => RI n) (x := (i, m)) 5 6 (M3.imp (m_pop [] (A2 := A) (p := p) (vs := us) (u := u) rfl (e_v 3)) (fun r v G h => by rw [show v = u from h.2]; exact h.1.2)) fun r v5 v6 => ?_
    refine B3.v (v := v6) (w := .int m) (fun G h => h.2) fun e1 => ?_
    subst e1
    refine b_augI (m := many) 4 e_int ?_
    refine b_when (t_or3 (t_gt (e_v 4) (e_v 1)) (fun _ => t_gt (e_v 6) (e_v 2)) fun _ _ => t_not (t_of (e_c (ok_is_head T S) hr ⟨i, hi.1⟩ (a_cons (e_x 5 (R := RTr i) (h := by exact fun G h => h.1.2)) a_nil)))) (fun e => by
      have e1 : ¬ (n : Int) < (many : Int) + 1 := by omega
      have e2 : ¬ (dp : Int) < (m : Int) := by have := hi.2; have h1d : 1 ≤ depT i := (by cases i <;> simp [depT]); dsimp only at this; omega
      simp [e1, e2] at e) fun _ => ?_
    refine b_ext (T := RTn) (ys := (partsT i).map fun s => (s, m + 1)) [] (e_v 3) (F3.rl (f_lc (own := [("part", 7)]) (fun s : Tr => (s, m + 1)) RTn (i_list (P := RTr) (xs := partsT i) (e_c (ok_parts_of T S) hr i (a_cons (e_x 5 (R := RTr i) (h := by exact fun G h => h.1.2)) a_nil))) (tc_name 7) (blkOk_by (N := nis_within) (sc := defScope sis_within) (by decide +kernel)) (fun Gd q z w' hm s2 H2 C2 cl fp => e_tup2 (R1 := RTr) (R2 := fun n : Nat => RI n) (x := z) (y := m + 1) (e_x 7 (R := RTr z) (h := by exact fun G h => h.2)) (E3.imp (e_add (e_v 6) e_int) fun _ _ h => h.2)) (by have := sizes_len (xs := partsT i); rw [sizeLine_eq]; omega))) (by
        have := sizes_len (xs := partsT i)
        have := sizes_len (xs := it.map (·.1))
        rw [List.length_map] at this
        rw [sizeLine_eq, List.length_map]
        omega) fun us2 => ?_
    refine b_fin rfl ⟨it ++ (partsT i).map (fun s => (s, m + 1)), many + 1, us ++ us2, some v5, some (.int m)⟩ ⟨⟨?_, ?_⟩, ?_⟩ rfl rfl fun G h => ⟨h.1.1.1.1.1, pAll_app h.1.1.1.1.2 h.2⟩
    · dsimp only
      rw [List.map_append, sizes_app, List.map_map]
      have : ((fun x : Tr × Nat => x.1) ∘ fun s => (s, m + 1)) = id := rfl
      rw [this, List.map_id]
      omega
    · intro q hq2
      dsimp only at hq2
      rcases List.mem_append.mp hq2 with h | h
      · exact hd2 q (List.mem_append_left _ h)
      · obtain ⟨s, hs, rfl⟩ := List.mem_map.mp h
        have := dep_parts hs
        have h7 := hi.2
        dsimp only at h7 ⊢
        exact ⟨ok_parts hi.1 hs, by omega⟩
    · dsimp only
      rw [List.map_append, sizes_app, List.map_map, List.map_append, sizes_app, hsi]
      have : ((fun x : Tr × Nat => x.1) ∘ fun s => (s, m + 1)) = id := rfl
      rw [this, List.map_id]
      omega
  · exact b_let (b_rt hq e_bl)
end
end L97
/-! G97c -/
set_option maxHeartbeats 2000000
namespace L97
open PySem PySem.Spec L2 Pm
abbrev RTe : Unit → V → Pr := fun _ v => pEx fun t => RTr t v
structure OkTree (t : Tr) : Prop where
  ok : okT t
  sz : sizeT t ≤ 60
  dp : depT t ≤ 12
theorem te_of {t : Tr} {v : V} : (RTr t v).le (RTe () v) := fun G h => ⟨t, h⟩
/-- a state of the going through all nodes -/
structure Nst where
  its : List Tr
  n : Nat
  vs : List V
  ws : List V
  s1 : Option V
section
variable {P : Program} {w : World} {K : PySem.W.Frag} {mg : Str → Option Value} {base : Heap}
theorem ok_is_tree (T : Tx K mg) (S : Ats K mg) : Fd P w K mg base "is_tree" 5 (spF (fun (d : {t : Tr // OkTree t}) => Pm.PC (RTr d.1) PN) fun d => RB true) := by
  obtain ⟨f, fd, F, gm⟩ := S.dis_tree
  refine fd_mk F gm cis_tree (fun _ _ _ _ _ _ us hl => match us, hl with | [_], _ => rfl) (fun d vs G h => len1 h) fun cdv Ar outer s H vs ⟨t, h⟩ A G0 D hr hq hn => in1 fun v1 => ?_
  have nd := cis_tree.nd
  exact b_rt hq (e_c (ok_is_within T S) hr ⟨(t, 60, 12), h.ok, h.sz, h.dp, (by show 60 ≤ 1000; decide), (by show 12 ≤ 1000; decide)⟩ (a_cons (e_x 0 (R := RTr t)) (a_cons (e_gI T.cSIXTY_trees) (a_cons (e_gI T.cTWELVE_trees) a_nil))))
theorem ok_all_nodes (T : Tx K mg) (S : Ats K mg) : Fd P w K mg base "all_nodes" 2 (spF (fun (d : {t : Tr // sizeT t ≤ 60}) => Pm.PC (RTr d.1) PN) fun d => RL RTe (List.replicate (sizeT d.1) ())) := by
  obtain ⟨f, fd, F, gm⟩ := S.dall_nodes
  refine fd_mk F gm call_nodes (fun _ _ _ _ _ _ us hl => match us, hl with | [_], _ => rfl) (fun d vs G h => len1 h) fun cdv Ar outer s H vs ⟨t, h⟩ A G0 D hr hq hn => in1 fun v1 => ?_
  have nd := call_nodes.nd
  refine b_parFF 1 2 (Ra := OL RTr [t]) (Rb := OL RTe []) (f_one (T := RTr) (e_x 0 (R := RTr t))) (fun _ => f_nil) fun p o q o' => ?_
  refine B3.fact (p := ∃ vs, o = .lst vs ∧ o' = .lst []) (fun G h => by obtain ⟨vs, e, _⟩ := h.1.2; exact ⟨vs, e, ol_nil h.2⟩) fun ⟨vs, eo, eo'⟩ => ?_
  subst eo eo'
  refine b_while (δ := Nst) (sd := fun d => [some v1, some (.ref p), some (.ref q), d.s1]) (Ad := fun d => (q, .lst d.ws) :: (p, .lst d.vs) :: A) (Γd := fun d => pAnd (pAnd (pSame G0) (pAll RTr d.its d.vs)) (pAll RTe (List.replicate d.n ()) d.ws)) (rel := fun d => sizesT d.its + d.n = sizeT t) (μ := fun d => sizesT d.its) (t := fun d => !d.vs.isEmpty) ⟨[t], 0, vs, [], none⟩ ⟨by simp [sizesT], rfl, rfl⟩ (fun G h => ⟨⟨h.1.1.1, by obtain ⟨ws, e, r⟩ := h.1.2; cases e; exact r⟩, trivial⟩) (fun d hd => t_own (p := p) (List.mem_cons_of_mem _ (List.mem_cons_self ..)) (e_v 1)) (fun d hd ht => ?_) (fun d hd ht => ?_)
  · obtain ⟨its, n, vs, ws, s1⟩ := d
    dsimp only at hd ht ⊢
    refine B3.fact (p := ∃ it i us u, its = it ++ [i] ∧ vs = us ++ [u]) (fun G h => by
      have h := h.1
      rcases List.eq_nil_or_concat its with e | ⟨it, i, e⟩
      · subst e
        have := pAll_len h.2
        cases vs with
        | nil => exact absurd ht (by decide)
        | cons _ _ => cases this
      · subst e
        rw [List.concat_eq_append] at h ⊢
        obtain ⟨us, u, e2, _⟩ := pAll_snoc h.2
        exact ⟨it, i, us, u, rfl, e2⟩) fun ⟨it, i, us, u, ei, ev⟩ => ?_
    subst ei ev
    have hsz := hd
    rw [sizes_app, show sizesT [i] = sizeT i by simp [sizesT]] at hsz
    have hp := size_parts (t := i)
    refine B3.pre (Δ := pAnd (pAnd (pAnd (pSame G0) (pAll RTr it us)) (pAll RTe (List.replicate n ()) ws)) (RTr i u)) ?_ fun G h => by
      obtain ⟨us', u', e, r1, r2⟩ := pAll_snoc h.1.2
      obtain ⟨e1, e2⟩ := List.append_inj' e rfl
      cases e2
      subst e1
      exact ⟨⟨⟨h.1.1, r1⟩, h.2⟩, r2⟩
    refine B3.fact (p := it.length = us.length ∧ n = ws.length) (fun G h => ⟨pAll_len h.1.1.2, by have := pAll_len h.1.2; rwa [List.length_replicate] at this⟩) fun ⟨elen, elen2⟩ => ?_
    refine b_setM 3 (m_pop [(q, .lst ws)] (A2 := A) (p := p) (vs := us) (u := u) rfl (e_v 1)) fun v3 r => ?_
    refine B3.v (v := v3) (w := u) (fun G h => h.2) fun e1 => ?_
    subst e1
    refine b_ap [] 2 (R := RTr i) (e_x 3 (R := RTr i) (h := by exact fun G h => h.1.2)) (fun G h => by rw [sizeLine_eq]; omega) fun v => ?_
    refine b_ext (T := RTr) (ys := partsT i) [(q, .lst (ws ++ [v]))] (e_v 1) (e_c (ok_parts_of T S) hr i (a_cons (e_x 3 (R := RTr i) (h := by exact fun G h => h.1.1.2)) a_nil)) (by
        have := sizes_len (xs := partsT i)
        have := sizes_len (xs := it)
        rw [sizeLine_eq]
        omega) fun us2 => ?_
    refine b_fin rfl ⟨it ++ partsT i, n + 1, us ++ us2, ws ++ [v], some v3⟩ ⟨?_, ?_⟩ rfl rfl fun G h => ⟨⟨h.1.1.1.1.1.1, pAll_app h.1.1.1.1.1.2 h.2⟩, ?_⟩
    · dsimp only
      rw [sizes_app]
      omega
    · dsimp only
      rw [sizes_app, sizes_app, show sizesT [i] = sizeT i by simp [sizesT]]
      omega
    · dsimp only
      rw [List.replicate_succ']
      exact pAll_app h.1.1.1.1.2 (pAll_one ⟨i, h.1.2⟩)
  · obtain ⟨its, n, vs, ws, s1⟩ := d
    dsimp only at hd ht ⊢
    refine B3.fact (p := its = []) (fun G h => by
      have := pAll_len h.1.2
      cases vs with
      | nil => cases its with
        | nil => rfl
        | cons _ _ => cases this
      | cons _ _ => exact absurd ht (by simp)) fun e => ?_
    subst e
    have en : n = sizeT t := by simpa [sizesT] using hd
    subst en
    refine b_let (b_let (b_rt hq (E3.imp (R := RL RTe (List.replicate (sizeT t) ())) (e_v 2) fun v G h => ?_)))
    exact ⟨q, ws, h.2, h.1.1.2, h.1.1.1.2⟩
theorem tag_name {t : Tr} : decide (V.str (tagT t) = V.str "name") = false := by
  cases t with
  | lt x => exact (show decide (V.str ("letter" : Str) = V.str ("name" : Str)) = false by decide +kernel)
  | nt t => exact (show decide (V.str ("not" : Str) = V.str ("name" : Str)) = false by decide +kernel)
  | pr w a b => exact wd_ne2 w
theorem ok_all_names (T : Tx K mg) (S : Ats K mg) : Fd P w K mg base "all_names" 3 (spF (fun (d : {t : Tr // sizeT t ≤ 60}) => Pm.PC (RTr d.1) PN) fun d => RL RS []) := by
  obtain ⟨f, fd, F, gm⟩ := S.dall_names
  refine fd_mk F gm call_names (fun _ _ _ _ _ _ us hl => match us, hl with | [_], _ => rfl) (fun d vs G h => len1 h) fun cdv Ar outer s H vs ⟨t, h⟩ A G0 D hr hq hn => in1 fun v1 => ?_
  have nd := call_names.nd
  refine b_rt hq (F3.rl (f_sortRD (kvs := []) (ks := []) T.sorted (F3.rd ?_) rfl (by decide)))
  refine (show (putAll (fun _ : Unit => kS "") (fun _ => V.non) [] ((List.replicate (sizeT t) ()).filter fun _ => false)) = [] by rw [show (List.replicate (sizeT t) ()).filter (fun _ => false) = [] by simp]; rfl) ▸ ?_
  exact f_dcF (own := [("node", 1)]) (fun _ : Unit => false) (fun _ => kS "") (fun _ => V.non) (i_list (P := RTe) (xs := List.replicate (sizeT t) ()) (e_c (ok_all_nodes T S) hr ⟨t, h⟩ (a_cons (e_x 0 (R := RTr t)) a_nil))) (tc_name 1) (blkOk_by (N := nall_names) (sc := defScope sall_names) (by decide +kernel)) (fun Gd q z w' hm s2 H2 C2 cl fp => T3.ex fun t2 => (t_eq (x := .str (tagT t2)) (y := .str "name") (e_tag (e_x 1 (R := RTr t2) (h := by exact fun G h => h.2))) e_str).eq tag_name) (fun Gd q z w' hm hf => absurd hf (by decide)) (fun Gd q z w' hm hf => absurd hf (by decide)) (by rw [List.length_replicate, sizeLine_eq]; omega)
theorem ok_check_tree (T : Tx K mg) (S : Ats K mg) : Fd P w K mg base "check_tree" 6 (spF (fun (d : {t : Tr // OkTree t}) => Pm.PC (RTr d.1) PN) fun d => RN) := by
  obtain ⟨f, fd, F, gm⟩ := S.dcheck_tree
  refine fd_mk F gm ccheck_tree (fun _ _ _ _ _ _ us hl => match us, hl with | [_], _ => rfl) (fun d vs G h => len1 h) fun cdv Ar outer s H vs ⟨t, h⟩ A G0 D hr hq hn => in1 fun v1 => ?_
  have nd := ccheck_tree.nd
  exact b_when (t_not (t_of (e_c (ok_is_tree T S) hr ⟨t, h⟩ (a_cons (e_x 0 (R := RTr t)) a_nil)))) (fun e => absurd e (by decide)) (fun e => b_nil fun H ok g => by rw [hn]; exact hq _ _ ok g.1 rfl)
theorem ok_is_book (T : Tx K mg) (S : Ats K mg) : Fd P w K mg base "is_book" 2 (spF (fun (_ : Unit) => Pm.PC (RL RS []) PN) fun _ => RB true) := by
  obtain ⟨f, fd, F, gm⟩ := S.dis_book
  refine fd_mk F gm cis_book (fun _ _ _ _ _ _ us hl => match us, hl with | [_], _ => rfl) (fun d vs G h => len1 h) fun cdv Ar outer s H vs _ A G0 D hr hq hn => in1 fun v1 => ?_
  have nd := cis_book.nd
  refine b_when (t_or (t_not (t_of (e_c (ok_is_list T S) hr true (a_cons (e_var 0 (R := pTy K "list") (by exact fun G h => ty_rl (R := RS) (xs := []) G h.2)) a_nil)))) fun _ => t_gt (e_lenL (R := RS) (xs := []) T.len (e_x 0 (R := RL RS []))) (e_gI T.cFORTY)) (fun e => absurd e (by decide)) fun _ => ?_
  refine b_setO 1 f_dnew fun p o => ?_
  exact b_for0 (i_list (P := RS) (e_x 0 (R := RL RS []) (h := by exact fun G h => h.1.2))) (tg_name 2) (b_let (b_rt hq e_bl))
end
end L97
/-! G97d -/
set_option maxHeartbeats 2000000
namespace L97
open PySem PySem.Spec L2 Pm
def lettersT : Tr → List Str
  | .lt x => [x]
  | .nt t => lettersT t
  | .pr _ a b => unionC (lettersT a) (lettersT b)
theorem lettersT_up : ∀ t : Tr, (lettersT t).Pairwise ltS
  | .lt x => List.pairwise_singleton _ _
  | .nt t => lettersT_up t
  | .pr _ a b => union_up _ _
abbrev RKi (ls : List Str) : V → Pr := RT2 RS (RL RS) (("right" : Str), ls)
abbrev RAny : V → Pr := fun _ => pTop
theorem rl_nil {α β : Type} {R : α → V → Pr} {R' : β → V → Pr} {v : V} : (RL R ([] : List α) v).le (RL R' ([] : List β) v) := fun G ⟨a, vs, e, h, r⟩ => by
  cases vs with
  | nil => exact ⟨a, [], e, h, trivial⟩
  | cons _ _ => exact r.elim
abbrev RRef : V → Pr := fun v => pEx fun a => pP (v = V.ref a)
structure OkKi (t : Tr) (ps : List Int) (n : Nat) : Prop where
  dp : depT t ≤ n + 1
  ls : (lettersT t).length ≤ 12
  ps : ps.length + n ≤ 100
section
variable {P : Program} {w : World} {K : PySem.W.Frag} {mg : Str → Option Value} {base : Heap}
theorem ok_unlike (T : Tx K mg) (S : Ats K mg) : Fd P w K mg base "unlike" 1 (spF (fun (d : {xs : List Str // xs.length ≤ 60}) => Pm.PC (RL RS d.1) PN) fun d => RL RS (sortS (nubA [] d.1))) := by
  obtain ⟨f, fd, F, gm⟩ := S.dunlike
  refine fd_mk F gm cunlike (fun _ _ _ _ _ _ us hl => match us, hl with | [_], _ => rfl) (fun d vs G h => len1 h) fun cdv Ar outer s H vs ⟨xs, h⟩ A G0 D hr hq hn => in1 fun v1 => ?_
  have nd := cunlike.nd
  exact b_rt hq (F3.rl (f_sortRD T.sorted (F3.rd (f_dc (own := [("one", 1)]) (fun x : Str => kS x) (fun _ => V.non) (i_list (P := RS) (xs := xs) (e_x 0)) (tc_name 1) (blkOk_by (N := nunlike) (sc := defScope sunlike) (by decide +kernel)) (fun Gd q z w hm s H C cl fp => e_x 1 (R := RS z) (h := fun G h => h.2)) (fun Gd q z w hm s H C cl fp => e_non) (by rw [sizeLine_eq]; omega))) (by have := putAll_keys (fun x : Str => x) (fun _ => V.non) xs; rw [List.map_id'] at this; exact this) (by have := nubA_len (xs := xs) (ks := []); rw [List.length_nil] at this; omega)))
theorem ok_leaf_kind (T : Tx K mg) (S : Ats K mg) : Fd P w K mg base "leaf_kind" 1 (spF (fun (x : Str) => Pm.PC (RTr (.lt x)) (Pm.PC RAny (Pm.PC RAny PN))) fun x => RKi [x]) := by
  obtain ⟨f, fd, F, gm⟩ := S.dleaf_kind
  refine fd_mk F gm cleaf_kind (fun _ _ _ _ _ _ us hl => match us, hl with | [_, _, _], _ => rfl) (fun d vs G h => len3 h) fun cdv Ar outer s H vs x A G0 D hr hq hn => in3 fun v1 v2 v3 => ?_
  have nd := cleaf_kind.nd
  exact b_when ((t_eq (x := .str "letter") (y := .str "letter") (e_tag (e_x 0 (R := RTr (.lt x)))) e_str).eq (t' := true) (by decide +kernel)) (fun _ => b_rt hq (e_tup2 (R1 := RS) (R2 := RL RS) (x := ("right" : Str)) (y := [x]) e_str (F3.rl (f_one (T := RS) (e_lt1 (e_x 0 (R := RTr (.lt x)))))))) (fun e => absurd e (by decide))
theorem ok_paired_kind (T : Tx K mg) (S : Ats K mg) : Fd P w K mg base "paired_kind" 2 (spF (fun (d : {d : List Str × List Str // d.1.length ≤ 12 ∧ d.2.length ≤ 12 ∧ (unionC d.1 d.2).length ≤ 12}) => Pm.PC (RL RS d.1.1) (Pm.PC (RL RS d.1.2) (Pm.PC RAny PN))) fun d => RKi (unionC d.1.1 d.1.2)) := by
  obtain ⟨f, fd, F, gm⟩ := S.dpaired_kind
  refine fd_mk F gm cpaired_kind (fun _ _ _ _ _ _ us hl => match us, hl with | [_, _, _], _ => rfl) (fun d vs G h => len3 h) fun cdv Ar outer s H vs ⟨⟨a, b⟩, h1, h2, h3⟩ A G0 D hr hq hn => in3 fun v1 v2 v3 => ?_
  have nd := cpaired_kind.nd
  dsimp only at h1 h2 h3
  refine b_set 3 (R := RL RS (unionC a b)) (e_c (ok_unlike T S) hr ⟨a ++ b, by rw [List.length_append]; omega⟩ (a_cons (F3.rl (f_star2 (e_x 0 (R := RL RS a)) (e_x 1 (R := RL RS b)) (by rw [sizeLine_eq]; omega))) a_nil)) fun v3' => ?_
  refine b_rt hq (e_if (t := false) ((t_gt (e_lenL (R := RS) (xs := unionC a b) T.len (e_x 3 (R := RL RS (unionC a b)) (h := by exact fun G h => h.2))) (e_gI T.cMOST)).eq (by simp; omega)) (fun e => absurd e (by decide)) (fun _ => e_tup2 (R1 := RS) (R2 := RL RS) (x := ("right" : Str)) (y := unionC a b) e_str (e_x 3 (R := RL RS (unionC a b)) (h := by exact fun G h => h.2))))
def spKi (n : Nat) : Sp := spF (fun (d : {d : Tr × List Int // OkKi d.1 d.2 n}) => Pm.PC (RTr d.1.1) (Pm.PC RAny (Pm.PC (RL (fun i : Int => RI i) d.1.2) PN))) fun d => RKi (lettersT d.1.1)
theorem no_right : decide (V.str ("right" : Str) = V.str "no") = false := by decide +kernel
theorem kind_step (T : Tx K mg) (S : Ats K mg) (n : Nat) (ih : ∀ m, m + 1 = n → Fd P w K mg base "kind_of" (m + 3) (spKi m)) : Fd P w K mg base "kind_of" (n + 3) (spKi n) := by
  unfold spKi
  obtain ⟨f, fd, F, gm⟩ := S.dkind_of
  refine fd_mk F gm ckind_of (fun _ _ _ _ _ _ us hl => match us, hl with | [_, _, _], _ => rfl) (fun d vs G h => len3 h) fun cdv Ar outer s H vs ⟨⟨t, ps⟩, h1, h2, h3⟩ A G0 D hr hq hn => in3 fun v1 v2 v3 => ?_
  have nd := ckind_of.nd
  dsimp only at h1 h2 h3
  obtain ⟨ap, gp, qp⟩ := T.cPAIRED
  obtain ⟨ab, gb, qb⟩ := T.cBOUND
  refine b_setV 3 (w := .str (tagT t)) (e_tag (e_x 0 (R := RTr t))) ?_
  cases t with
  | lt x =>
    refine b_when ((t_eq (x := .str "letter") (y := .str "not") (e_v 3) e_str).eq (t' := false) (by decide +kernel)) (fun e => absurd e (by decide)) fun _ => ?_
    refine b_when ((t_inQ (xs := BOUN) (e_v 3) (e_gL gb qb)).eq (t' := false) boun_lt) (fun e => absurd e (by decide)) fun _ => ?_
    refine b_when ((t_ninQ (xs := PAIR) (e_v 3) (e_gL gp qp)).eq (t' := true) (by rw [show decide (tagT (.lt x) ∈ PAIR) = false from pair_lt]; rfl)) (fun _ => ?_) (fun e => absurd e (by decide))
    exact b_rt hq (e_c (ok_leaf_kind T S) hr x (a_cons (e_x 0 (R := RTr (.lt x))) (a_cons (e_var 1 (R := RAny) (by exact fun _ _ => trivial)) (a_cons (e_var 2 (R := RAny) (by exact fun _ _ => trivial)) a_nil))))
  | nt t =>
    refine b_when ((t_eq (x := .str "not") (y := .str "not") (e_v 3) e_str).eq (t' := true) (by decide +kernel)) (fun _ => ?_) (fun e => absurd e (by decide))
    cases n with
    | zero => have : 1 ≤ depT t := (by cases t <;> simp [depT]); simp only [depT] at h1; omega
    | succ m =>
      exact b_rt hq (e_c (ih m rfl) hr ⟨(t, ps ++ [0]), by simp only [depT] at h1; dsimp only; omega, h2, by simp; omega⟩ (a_cons (e_nt1 (e_x 0 (R := RTr (.nt t)))) (a_cons (e_var 1 (R := RAny) (by exact fun _ _ => trivial)) (a_cons (F3.rl (f_starI (T := fun i : Int => RI i) (e_x 2 (R := RL (fun i : Int => RI i) ps)) e_int (by rw [sizeLine_eq]; omega))) a_nil))))
  | pr wd a b =>
    refine b_when ((t_eq (x := .str (wdT wd)) (y := .str "not") (e_v 3) e_str).eq (t' := false) (wd_ne wd)) (fun e => absurd e (by decide)) fun _ => ?_
    refine b_when ((t_inQ (xs := BOUN) (e_v 3) (e_gL gb qb)).eq (t' := false) (boun_wd wd)) (fun e => absurd e (by decide)) fun _ => ?_
    refine b_when ((t_ninQ (xs := PAIR) (e_v 3) (e_gL gp qp)).eq (t' := false) (by rw [show decide (tagT (.pr wd a b) ∈ PAIR) = true from pair_wd wd]; rfl)) (fun e => absurd e (by decide)) fun _ => ?_
    cases n with
    | zero => have : 1 ≤ depT a := (by cases a <;> simp [depT]); simp only [depT] at h1; omega
    | succ m =>
      have ha : (lettersT a).length ≤ 12 := Nat.le_trans (nodup_len (up_nodup (lettersT_up a)) fun x hx => mem_union.mpr (.inl hx)) h2
      have hb : (lettersT b).length ≤ 12 := Nat.le_trans (nodup_len (up_nodup (lettersT_up b)) fun x hx => mem_union.mpr (.inr hx)) h2
      simp only [depT] at h1
      refine b_set 4 (R := RKi (lettersT a)) (e_c (ih m rfl) hr ⟨(a, ps ++ [0]), by dsimp only; omega, ha, by simp; omega⟩ (a_cons (e_pr1 (e_x 0 (R := RTr (.pr wd a b)))) (a_cons (e_var 1 (R := RAny) (by exact fun _ _ => trivial)) (a_cons (F3.rl (f_starI (T := fun i : Int => RI i) (e_x 2 (R := RL (fun i : Int => RI i) ps)) e_int (by rw [sizeLine_eq]; omega))) a_nil)))) fun v4 => ?_
      refine b_when ((t_eq (x := .str "right") (y := .str "no") (e_fst (R1 := RS) (R2 := RL RS) (x := (("right" : Str), lettersT a)) (e_x 4 (R := RKi (lettersT a)) (h := by exact fun G h => h.2))) e_str).eq (t' := false) no_right) (fun e => absurd e (by decide)) fun _ => ?_
      refine b_set 5 (R := RKi (lettersT b)) (e_c (ih m rfl) hr ⟨(b, ps ++ [1]), by dsimp only; omega, hb, by simp; omega⟩ (a_cons (e_pr2 (e_x 0 (R := RTr (.pr wd a b)))) (a_cons (e_var 1 (R := RAny) (by exact fun _ _ => trivial)) (a_cons (F3.rl (f_starI (T := fun i : Int => RI i) (e_x 2 (R := RL (fun i : Int => RI i) ps)) e_int (by rw [sizeLine_eq]; omega))) a_nil)))) fun v5 => ?_
      refine b_rt hq (e_if (t := false) ((t_eq (x := .str "right") (y := .str "no") (e_fst (R1 := RS) (R2 := RL RS) (x := (("right" : Str), lettersT b)) (e_x 5 (R := RKi (lettersT b)) (h := by exact fun G h => h.2))) e_str).eq no_right) (fun e => absurd e (by decide)) (fun _ => e_c (ok_paired_kind T S) hr ⟨(lettersT a, lettersT b), ha, hb, h2⟩ (a_cons (e_snd (R1 := RS) (R2 := RL RS) (x := (("right" : Str), lettersT a)) (e_x 4 (R := RKi (lettersT a)) (h := by exact fun G h => h.1.2))) (a_cons (e_snd (R1 := RS) (R2 := RL RS) (x := (("right" : Str), lettersT b)) (e_x 5 (R := RKi (lettersT b)) (h := by exact fun G h => h.2))) (a_cons (e_var 2 (R := RAny) (by exact fun _ _ => trivial)) a_nil)))))
theorem ok_kind_of (T : Tx K mg) (S : Ats K mg) : ∀ n : Nat, Fd P w K mg base "kind_of" (n + 3) (spKi n)
  | 0 => kind_step T S 0 fun m e => absurd e (by omega)
  | n + 1 => kind_step T S (n + 1) fun m e => by
    have : n = m := by omega
    subst this
    exact ok_kind_of T S n
theorem ok_kinds_of_book (T : Tx K mg) (S : Ats K mg) : Fd P w K mg base "kinds_of_book" 1 (spF (fun (_ : Unit) => Pm.PC (RL RS []) PN) fun _ => RRef) := by
  obtain ⟨f, fd, F, gm⟩ := S.dkinds_of_book
  refine fd_mk F gm ckinds_of_book (fun _ _ _ _ _ _ us hl => match us, hl with | [_], _ => rfl) (fun d vs G h => len1 h) fun cdv Ar outer s H vs _ A G0 D hr hq hn => in1 fun v1 => ?_
  have nd := ckinds_of_book.nd
  refine b_setO 1 f_dnew fun p o => ?_
  exact b_for0 (i_list (P := RT2 RS RS) (E3.imp (e_x 0 (R := RL RS []) (h := by exact fun G h => h.1.2)) fun v G h => rl_nil G h.2)) (tg_pair (R1 := RS) (R2 := RS) 2 3) (b_let (b_rt hq (E3.imp (R := RRef) (e_v 1) fun v G h => ⟨p, h.2⟩)))
theorem ok_check_book (T : Tx K mg) (S : Ats K mg) : Fd P w K mg base "check_book" 3 (spF (fun (_ : Unit) => Pm.PC (RL RS []) PN) fun _ => RRef) := by
  obtain ⟨f, fd, F, gm⟩ := S.dcheck_book
  refine fd_mk F gm ccheck_book (fun _ _ _ _ _ _ us hl => match us, hl with | [_], _ => rfl) (fun d vs G h => len1 h) fun cdv Ar outer s H vs _ A G0 D hr hq hn => in1 fun v1 => ?_
  have nd := ccheck_book.nd
  refine b_set 1 (R := RRef) (e_if (t := true) (t_of (e_c (ok_is_book T S) hr () (a_cons (e_x 0 (R := RL RS [])) a_nil))) (fun _ => e_c (ok_kinds_of_book T S) hr () (a_cons (e_x 0 (R := RL RS [])) a_nil)) (fun e => absurd e (by decide))) fun v1' => ?_
  refine B3.fact (p := ∃ a, v1' = .ref a) (fun G h => h.2) fun ⟨a, ea⟩ => ?_
  subst ea
  exact b_when ((t_isN (e_v 1)).eq (t' := false) (by simp)) (fun e => absurd e (by decide)) fun _ => b_rt hq (E3.imp (R := RRef) (e_v 1) fun v G h => ⟨a, h.2⟩)
structure OkTr2 (t : Tr) : Prop where
  tr : OkTree t
  ls : (lettersT t).length ≤ 12
theorem ok_kind_up (T : Tx K mg) (S : Ats K mg) : Fd P w K mg base "kind_up" 15 (spF (fun (d : {t : Tr // OkTr2 t}) => Pm.PC (RL RS []) (Pm.PC (RTr d.1) PN)) fun d => RKi (lettersT d.1)) := by
  obtain ⟨f, fd, F, gm⟩ := S.dkind_up
  refine fd_mk F gm ckind_up (fun _ _ _ _ _ _ us hl => match us, hl with | [_, _], _ => rfl) (fun d vs G h => len2 h) fun cdv Ar outer s H vs ⟨t, h⟩ A G0 D hr hq hn => in2 fun v1 v2 => ?_
  have nd := ckind_up.nd
  refine b_set 2 (R := RRef) (e_c (ok_check_book T S) hr () (a_cons (e_x 0 (R := RL RS [])) a_nil)) fun v3 => ?_
  refine b_expr (e_c (ok_check_tree T S) hr ⟨t, h.tr⟩ (a_cons (e_x 1 (R := RTr t) (h := by exact fun G h => h.1.2)) a_nil)) fun v => ?_
  refine b_set 3 (R := RKi (lettersT t)) (e_c (ok_kind_of T S 11) hr ⟨(t, []), h.tr.dp, h.ls, by simp⟩ (a_cons (e_x 1 (R := RTr t) (h := by exact fun G h => h.1.1.2)) (a_cons (e_var 2 (R := RAny) (by exact fun _ _ => trivial)) (a_cons (F3.rl f_nil) a_nil)))) fun v4 => ?_
  refine b_rt hq (e_if (t := true) ((t_eq (x := .str "right") (y := .str "right") (e_fst (R1 := RS) (R2 := RL RS) (x := (("right" : Str), lettersT t)) (e_x 3 (R := RKi (lettersT t)) (h := by exact fun G h => h.2))) e_str).eq (by decide +kernel)) (fun _ => e_tup2 (R1 := RS) (R2 := RL RS) (x := ("right" : Str)) (y := lettersT t) e_str (F3.rl (f_listL T.list (e_snd (R1 := RS) (R2 := RL RS) (x := (("right" : Str), lettersT t)) (e_x 3 (R := RKi (lettersT t)) (h := by exact fun G h => h.2)))))) (fun e => absurd e (by decide)))
theorem ok_letters_of (T : Tx K mg) (S : Ats K mg) : Fd P w K mg base "letters_of" 16 (spF (fun (d : {t : Tr // OkTr2 t}) => Pm.PC (RL RS []) (Pm.PC (RTr d.1) PN)) fun d => RL RS (lettersT d.1)) := by
  obtain ⟨f, fd, F, gm⟩ := S.dletters_of
  refine fd_mk F gm cletters_of (fun _ _ _ _ _ _ us hl => match us, hl with | [_, _], _ => rfl) (fun d vs G h => len2 h) fun cdv Ar outer s H vs ⟨t, h⟩ A G0 D hr hq hn => in2 fun v1 v2 => ?_
  have nd := cletters_of.nd
  refine b_set 2 (R := RKi (lettersT t)) (e_c (ok_kind_up T S) hr ⟨t, h⟩ (a_cons (e_x 0 (R := RL RS [])) (a_cons (e_x 1 (R := RTr t)) a_nil))) fun v3 => ?_
  exact b_when ((t_eq (x := .str "right") (y := .str "no") (e_fst (R1 := RS) (R2 := RL RS) (x := (("right" : Str), lettersT t)) (e_x 2 (R := RKi (lettersT t)) (h := by exact fun G h => h.2))) e_str).eq (t' := false) no_right) (fun e => absurd e (by decide)) fun _ => b_rt hq (e_snd (R1 := RS) (R2 := RL RS) (x := (("right" : Str), lettersT t)) (e_x 2 (R := RKi (lettersT t)) (h := by exact fun G h => h.2)))
end
end L97
/-! G97e -/
set_option maxHeartbeats 2000000
namespace L97
open PySem PySem.Spec L2 Pm
def rowT : Tr → Row
  | .lt x => ([x], [false, true])
  | .nt t => ((rowT t).1, (rowT t).2.map fun b => !b)
  | .pr w a b => joinedC (wdT w) (rowT a) (rowT b)
theorem rowT_ls : ∀ t : Tr, (rowT t).1 = lettersT t
  | .lt x => rfl
  | .nt t => rowT_ls t
  | .pr w a b => by show unionC _ _ = unionC _ _; rw [rowT_ls a, rowT_ls b]
theorem rowT_ok : ∀ t : Tr, OkRow (rowT t)
  | .lt x => ⟨List.pairwise_singleton _ _, rfl⟩
  | .nt t => ⟨(rowT_ok t).up, by show ((rowT t).2.map fun b => !b).length = 2 ^ (rowT t).1.length; rw [List.length_map, (rowT_ok t).len]⟩
  | .pr w a b => joined_ok _ (rowT_ok a) (rowT_ok b)
theorem join_wd (w : Bool) : isJoin (wdT w) := by cases w <;> simp [isJoin, wdT]
def yesP (row : List Bool) : List Nat := ((enumL row).filter (·.2)).map (·.1)
structure OkRt (t : Tr) (n : Nat) : Prop where
  dp : depT t ≤ n + 1
  ls : (lettersT t).length ≤ 12
section
variable {P : Program} {w : World} {K : PySem.W.Frag} {mg : Str → Option Value} {base : Heap}
def spRi (n : Nat) : Sp := spF (fun (d : {d : Tr // OkRt d n}) => Pm.PC (RTr d.1) (Pm.PC RAny PN)) fun d => RRow (rowT d.1)
theorem row_step (T : Tx K mg) (S : Ats K mg) (n : Nat) (ih : ∀ m, m + 1 = n → Fd P w K mg base "row_in" (m + 3) (spRi m)) : Fd P w K mg base "row_in" (n + 3) (spRi n) := by
  unfold spRi
  obtain ⟨f, fd, F, gm⟩ := S.drow_in
  refine fd_mk F gm crow_in (fun _ _ _ _ _ _ us hl => match us, hl with | [_, _], _ => rfl) (fun d vs G h => len2 h) fun cdv Ar outer s H vs ⟨t, h1, h2⟩ A G0 D hr hq hn => in2 fun v1 v2 => ?_
  have nd := crow_in.nd
  obtain ⟨ap, gp, qp⟩ := T.cPAIRED
  obtain ⟨ab, gb, qb⟩ := T.cBOUND
  refine b_setV 2 (w := .str (tagT t)) (e_tag (e_x 0 (R := RTr t))) ?_
  cases t with
  | lt x =>
    refine b_when ((t_inQ (xs := PAIR) (e_v 2) (e_gL gp qp)).eq (t' := false) pair_lt) (fun e => absurd e (by decide)) fun _ => ?_
    refine b_when ((t_inQ (xs := BOUN) (e_v 2) (e_gL gb qb)).eq (t' := false) boun_lt) (fun e => absurd e (by decide)) fun _ => ?_
    refine b_when ((t_eq (x := .str "letter") (y := .str "not") (e_v 2) e_str).eq (t' := false) (by decide +kernel)) (fun e => absurd e (by decide)) fun _ => ?_
    refine b_when ((t_eq (x := .str "letter") (y := .str "name") (e_v 2) e_str).eq (t' := false) (by decide +kernel)) (fun e => absurd e (by decide)) fun _ => ?_
    exact b_rt hq (e_if (t := true) ((t_eq (x := .str "letter") (y := .str "letter") (e_v 2) e_str).eq (by decide +kernel)) (fun _ => e_tup2 (R1 := RL RS) (R2 := RL RB) (x := [x]) (y := [false, true]) (F3.rl (f_one (T := RS) (e_lt1 (e_x 0 (R := RTr (.lt x)))))) (F3.rl (f_two (T := RB) e_bl e_bl))) (fun e => absurd e (by decide)))
  | nt t =>
    refine b_when ((t_inQ (xs := PAIR) (e_v 2) (e_gL gp qp)).eq (t' := false) pair_nt) (fun e => absurd e (by decide)) fun _ => ?_
    refine b_when ((t_inQ (xs := BOUN) (e_v 2) (e_gL gb qb)).eq (t' := false) boun_nt) (fun e => absurd e (by decide)) fun _ => ?_
    refine b_when ((t_eq (x := .str "not") (y := .str "not") (e_v 2) e_str).eq (t' := true) (by decide +kernel)) (fun _ => ?_) (fun e => absurd e (by decide))
    cases n with
    | zero => have : 1 ≤ depT t := (by cases t <;> simp [depT]); simp only [depT] at h1; omega
    | succ m =>
      have hl : (rowT t).2.length ≤ 4096 := by
        rw [(rowT_ok t).len, rowT_ls]
        exact Nat.pow_le_pow_right (n := 2) (by decide) h2
      refine b_unp2 (R1 := RL RS) (R2 := RL RB) (x := rowT t) 3 4 (e_c (ih m rfl) hr ⟨t, by simp only [depT] at h1; omega, h2⟩ (a_cons (e_nt1 (e_x 0 (R := RTr (.nt t)))) (a_cons (e_var 1 (R := RAny) (by exact fun _ _ => trivial)) a_nil))) fun v3 v4 => ?_
      exact b_rt hq (e_tup2 (R1 := RL RS) (R2 := RL RB) (x := (rowT t).1) (y := (rowT t).2.map fun b => !b) (e_x 3 (R := RL RS (rowT t).1) (h := by exact fun G h => h.1.2)) (F3.rl (f_lc (own := [("truth", 5)]) (fun b : Bool => !b) RB (i_list (P := RB) (xs := (rowT t).2) (e_x 4 (R := RL RB (rowT t).2) (h := by exact fun G h => h.2))) (tc_name 5) (blkOk_by (N := nrow_in) (sc := defScope srow_in) (by decide +kernel)) (fun Gd q z w hm s H C cl fp => e_not (e_x 5 (R := RB z) (h := by exact fun G h => h.2))) (by rw [sizeLine_eq]; omega))))
  | pr wd a b =>
    refine b_when ((t_inQ (xs := PAIR) (e_v 2) (e_gL gp qp)).eq (t' := true) (pair_wd wd)) (fun _ => ?_) (fun e => absurd e (by decide))
    cases n with
    | zero => have : 1 ≤ depT a := (by cases a <;> simp [depT]); simp only [depT] at h1; omega
    | succ m =>
      have ha : (lettersT a).length ≤ 12 := Nat.le_trans (nodup_len (up_nodup (lettersT_up a)) fun x hx => mem_union.mpr (.inl hx)) h2
      have hb : (lettersT b).length ≤ 12 := Nat.le_trans (nodup_len (up_nodup (lettersT_up b)) fun x hx => mem_union.mpr (.inr hx)) h2
      simp only [depT] at h1
      exact b_rt hq (e_c (ok_joined_row T S) hr ⟨(wdT wd, rowT a, rowT b), join_wd wd, rowT_ok a, rowT_ok b, by dsimp only; rw [rowT_ls, rowT_ls]; exact h2⟩ (a_cons (e_v 2) (a_cons (e_c (ih m rfl) hr ⟨a, by omega, ha⟩ (a_cons (e_pr1 (e_x 0 (R := RTr (.pr wd a b)))) (a_cons (e_var 1 (R := RAny) (by exact fun _ _ => trivial)) a_nil))) (a_cons (e_c (ih m rfl) hr ⟨b, by omega, hb⟩ (a_cons (e_pr2 (e_x 0 (R := RTr (.pr wd a b)))) (a_cons (e_var 1 (R := RAny) (by exact fun _ _ => trivial)) a_nil))) a_nil))))
theorem ok_row_in (T : Tx K mg) (S : Ats K mg) : ∀ n : Nat, Fd P w K mg base "row_in" (n + 3) (spRi n)
  | 0 => row_step T S 0 fun m e => absurd e (by omega)
  | n + 1 => row_step T S (n + 1) fun m e => by
    have : n = m := by omega
    subst this
    exact ok_row_in T S n
theorem ok_lines_needed (T : Tx K mg) (S : Ats K mg) : Fd P w K mg base "lines_needed" 4 (spF (fun (d : {t : Tr // sizeT t ≤ 60}) => Pm.PC (RL RS []) (Pm.PC (RL RTr [d.1]) PN)) fun d => RL RS []) := by
  obtain ⟨f, fd, F, gm⟩ := S.dlines_needed
  refine fd_mk F gm clines_needed (fun _ _ _ _ _ _ us hl => match us, hl with | [_, _], _ => rfl) (fun d vs G h => len2 h) fun cdv Ar outer s H vs ⟨t, h⟩ A G0 D hr hq hn => in2 fun v1 v2 => ?_
  have nd := clines_needed.nd
  refine b_parFF 2 3 (Ra := fun _ => pTop) (Rb := OL RS []) (fun H Q ok g k => f_dc2 (own := [("tree", 5), ("name", 4)]) (vs1 := [4]) (fun _ : Tr => ([] : List Str)) (fun x : Str => kS x) (fun _ => V.bl true) (i_list (P := RTr) (xs := [t]) (e_x 1 (R := RL RTr [t]))) (tc_name 5) (blkOk_by (N := nlines_needed) (sc := defScope slines_needed) (by decide +kernel)) (by decide) (fun Gd q z w hm s H C cl fp => i_list (P := RS) (xs := []) (e_c (ok_all_names T S) hr ⟨t, h⟩ (a_cons (e_x 5 (R := RTr t) (h := by exact fun G h => by have h2 := h.2; rw [List.mem_singleton.mp hm] at h2; exact h2)) a_nil))) (tc_name 4) (fun Gd q z w y w1 _ hy => absurd hy List.not_mem_nil) (fun Gd q z w y w1 _ hy => absurd hy List.not_mem_nil) (by show 0 < sizeLine; rw [sizeLine_eq]; decide) (by intro _; rfl) (by intro _ _; rfl) rfl nd (by intro _; rfl) (by intro _ _; rfl) H Q ok g fun p o H' n r => k p o H' n trivial) (fun _ => f_nil) fun p o q o' => ?_
  refine B3.fact (p := o' = .lst []) (fun G h => ol_nil h.2) fun eo => ?_
  subst eo
  refine b_for0 (i_rev (P := RT2 RS RS) (xs := []) T.reversed (F3.rl (f_listL T.list (E3.imp (e_x 0 (R := RL RS []) (h := by exact fun G h => h.1.1.1.2)) fun v G h => rl_nil G h.2)))) (tg_pair (R1 := RS) (R2 := RS) 4 5) (b_let (b_let (b_rt hq (F3.rl (f_revL (T := RS) (xs := []) (E3.imp (e_v 3) fun v G h => ⟨q, [], h.2, h.1.1.2, trivial⟩))))))
theorem ok_rows_of_book (T : Tx K mg) (S : Ats K mg) : Fd P w K mg base "rows_of_book" 1 (spF (fun (_ : Unit) => Pm.PC (RL RS []) PN) fun _ => RRef) := by
  obtain ⟨f, fd, F, gm⟩ := S.drows_of_book
  refine fd_mk F gm crows_of_book (fun _ _ _ _ _ _ us hl => match us, hl with | [_], _ => rfl) (fun d vs G h => len1 h) fun cdv Ar outer s H vs _ A G0 D hr hq hn => in1 fun v1 => ?_
  have nd := crows_of_book.nd
  refine b_setO 1 f_dnew fun p o => ?_
  exact b_for0 (i_list (P := RT2 RS RS) (E3.imp (e_x 0 (R := RL RS []) (h := by exact fun G h => h.1.2)) fun v G h => rl_nil G h.2)) (tg_pair (R1 := RS) (R2 := RS) 2 3) (b_let (b_rt hq (E3.imp (R := RRef) (e_v 1) fun v G h => ⟨p, h.2⟩)))
theorem ok_whole_row (T : Tx K mg) (S : Ats K mg) : Fd P w K mg base "whole_row" 17 (spF (fun (d : {t : Tr // OkTr2 t}) => Pm.PC (RL RS []) (Pm.PC (RTr d.1) PN)) fun d => RRow (rowT d.1)) := by
  obtain ⟨f, fd, F, gm⟩ := S.dwhole_row
  refine fd_mk F gm cwhole_row (fun _ _ _ _ _ _ us hl => match us, hl with | [_, _], _ => rfl) (fun d vs G h => len2 h) fun cdv Ar outer s H vs ⟨t, h⟩ A G0 D hr hq hn => in2 fun v1 v2 => ?_
  have nd := cwhole_row.nd
  refine b_expr (e_c (ok_letters_of T S) hr ⟨t, h⟩ (a_cons (e_x 0 (R := RL RS [])) (a_cons (e_x 1 (R := RTr t)) a_nil))) fun v => ?_
  exact b_rt hq (e_c (ok_row_in T S 11) hr ⟨t, h.tr.dp, h.ls⟩ (a_cons (e_x 1 (R := RTr t) (h := by exact fun G h => h.1.2)) (a_cons (E3.imp (R := RAny) (e_c (ok_rows_of_book T S) hr () (a_cons (e_c (ok_lines_needed T S) hr ⟨t, h.tr.sz⟩ (a_cons (e_x 0 (R := RL RS [])) (a_cons (F3.rl (f_one (T := RTr) (e_x 1 (R := RTr t) (h := by exact fun G h => h.1.2)))) a_nil))) a_nil)) fun _ _ _ => trivial) a_nil)))
theorem ok_yes_places (T : Tx K mg) (S : Ats K mg) : Fd P w K mg base "yes_places" 1 (spF (fun (d : {r : List Bool // r.length ≤ 4096}) => Pm.PC (RL RB d.1) PN) fun d => RL (fun n : Nat => RI n) (yesP d.1)) := by
  obtain ⟨f, fd, F, gm⟩ := S.dyes_places
  refine fd_mk F gm cyes_places (fun _ _ _ _ _ _ us hl => match us, hl with | [_], _ => rfl) (fun d vs G h => len1 h) fun cdv Ar outer s H vs ⟨r, h⟩ A G0 D hr hq hn => in1 fun v1 => ?_
  have nd := cyes_places.nd
  exact b_rt hq (F3.rl (f_lcF (own := [("place", 1), ("truth", 2)]) (fun z : Nat × Bool => z.2) (fun z : Nat × Bool => z.1) (fun n : Nat => RI n) (i_enumL (P := RB) (xs := r) T.enumerate (e_x 0 (R := RL RB r))) (tc_two (R1 := fun n : Nat => RI n) (R2 := RB) 1 2) (blkOk_by (N := nyes_places) (sc := defScope syes_places) (by decide +kernel)) (fun Gd q z w hm s H C cl fp => t_of (e_x 2 (R := RB z.2) (h := by exact fun G h => h.2.2))) (fun Gd q z w hm _ s H C cl fp => e_x 1 (R := RI z.1) (h := by exact fun G h => h.2.1)) (by rw [enumL_len, sizeLine_eq]; omega)))
theorem ok_world_count (T : Tx K mg) (S : Ats K mg) : Fd P w K mg base "world_count" 18 (spF (fun (d : {t : Tr // OkTr2 t}) => Pm.PC (RL RS []) (Pm.PC (RTr d.1) PN)) fun d => RI (yesP (rowT d.1).2).length) := by
  obtain ⟨f, fd, F, gm⟩ := S.dworld_count
  refine fd_mk F gm cworld_count (fun _ _ _ _ _ _ us hl => match us, hl with | [_, _], _ => rfl) (fun d vs G h => len2 h) fun cdv Ar outer s H vs ⟨t, h⟩ A G0 D hr hq hn => in2 fun v1 v2 => ?_
  have nd := cworld_count.nd
  have hl : (rowT t).2.length ≤ 4096 := by
    rw [(rowT_ok t).len, rowT_ls]
    exact Nat.pow_le_pow_right (n := 2) (by decide) h.ls
  exact b_rt hq (e_lenL (R := fun n : Nat => RI n) (xs := yesP (rowT t).2) T.len (e_c (ok_yes_places T S) hr ⟨(rowT t).2, hl⟩ (a_cons (e_snd (R1 := RL RS) (R2 := RL RB) (x := rowT t) (e_c (ok_whole_row T S) hr ⟨t, h⟩ (a_cons (e_x 0 (R := RL RS [])) (a_cons (e_x 1 (R := RTr t)) a_nil)))) a_nil)))
end
end L97
/-! G97f -/
set_option maxHeartbeats 2000000
namespace L97
open PySem PySem.Spec L2 Pm
section
variable {X : Cx} {A : Own} {Γ : Pr} {σ : L2.St} {a b c : Expr} {pos : Pos}
theorem e_mkLt {x : Str} {k} (ha : E3 X A Γ σ a (RS "letter")) (hb : E3 X A Γ σ b (RS x)) (h1 : starEach [a, b] X.env = (false, eval a X.env) :: starEach [b] X.env := by rfl) (h2 : starEach [b] X.env = (false, eval b X.env) :: starEach [] X.env := by rfl) : E3 X A Γ σ (.Tuple [a, b] k pos) (RTr (.lt x)) :=
  e_tupP (vs := [.str "letter", .str x]) (av_cons ha (av_cons hb av_nil h2) h1) (by show 2 ≤ 1000; decide)
theorem e_mkNt {t : Tr} {k} (ha : E3 X A Γ σ a (RS "not")) (hb : E3 X A Γ σ b (RTr t)) (h1 : starEach [a, b] X.env = (false, eval a X.env) :: starEach [b] X.env := by rfl) (h2 : starEach [b] X.env = (false, eval b X.env) :: starEach [] X.env := by rfl) : E3 X A Γ σ (.Tuple [a, b] k pos) (RTr (.nt t)) :=
  (e_tup2 (R1 := RS) (R2 := RTr) (x := ("not" : Str)) (y := t) ha hb h1 h2).imp fun v G ⟨_, p, v1, v2, e, h, e1, r⟩ => by
    have e1 : v1 = .str "not" := e1
    subst e1
    exact ⟨p, v2, e, h, r⟩
theorem e_mkPr {t u : Tr} {w : Bool} {k} (ha : E3 X A Γ σ a (RS (wdT w))) (hb : E3 X A Γ σ b (RTr t)) (hc : E3 X A Γ σ c (RTr u)) (h1 : starEach [a, b, c] X.env = (false, eval a X.env) :: starEach [b, c] X.env := by rfl) (h2 : starEach [b, c] X.env = (false, eval b X.env) :: starEach [c] X.env := by rfl) (h3 : starEach [c] X.env = (false, eval c X.env) :: starEach [] X.env := by rfl) : E3 X A Γ σ (.Tuple [a, b, c] k pos) (RTr (.pr w t u)) :=
  (f_tup (a_cons ha (a_cons hb (a_cons hc a_nil h3) h2) h1) (fun vs G ⟨v, r, e, _, w, r', e', _, x, r2, e2, _, e3⟩ => by cases (show r2 = [] from e3); cases (show r' = [x] from e2); cases (show r = [w, x] from e'); cases (show vs = [v, w, x] from e); show 3 ≤ 1000; decide)).v.imp
    fun u G ⟨_, p, o, e, ho, vs, eo, v, r, e1, r1, w2, r', e2, r2, x, r3, e3, r4, e4⟩ => by
      cases (show r3 = [] from e4)
      cases (show r' = [x] from e3)
      cases (show r = [w2, x] from e2)
      cases (show vs = [v, w2, x] from e1)
      have r1 : v = .str (wdT w) := r1
      subst r1
      have eo : o = _ := eo
      subst eo
      exact ⟨p, w2, x, e, ho, r2, r4⟩
end
def litT (l : Lit) : Tr := if l.2 = true then .lt l.1 else .nt (.lt l.1)
def foldT (w : Bool) : List Tr → Tr
  | [] => .lt ⟨#[]⟩
  | t :: ts => ts.foldl (fun a b => .pr w a b) t
def treeC (cs : List Cl) : Tr := foldT true (cs.map fun c => foldT false (c.map litT))
section
variable {P : Program} {w : World} {K : PySem.W.Frag} {mg : Str → Option Value} {base : Heap}
theorem ok_literal_tree (T : Tx K mg) (S : Ats K mg) : Fd P w K mg base "literal_tree" 1 (spF (fun (l : Lit) => Pm.PC (RLit l) PN) fun l => RTr (litT l)) := by
  obtain ⟨f, fd, F, gm⟩ := S.dliteral_tree
  refine fd_mk F gm cliteral_tree (fun _ _ _ _ _ _ us hl => match us, hl with | [_], _ => rfl) (fun d vs G h => len1 h) fun cdv Ar outer s H vs ⟨x, b⟩ A G0 D hr hq hn => in1 fun v1 => ?_
  have nd := cliteral_tree.nd
  refine b_rt hq (e_if (t := b) (t_of (e_snd (R1 := RS) (R2 := RB) (x := (x, b)) (e_x 0 (R := RLit (x, b))))) (fun e => ?_) (fun e => ?_))
  · subst e
    exact e_mkLt e_str (e_fst (R1 := RS) (R2 := RB) (x := (x, true)) (e_x 0 (R := RLit (x, true))))
  · subst e
    exact e_mkNt e_str (e_mkLt e_str (e_fst (R1 := RS) (R2 := RB) (x := (x, false)) (e_x 0 (R := RLit (x, false)))))
theorem ok_joined_trees (T : Tx K mg) (S : Ats K mg) : Fd P w K mg base "joined_trees" 1 (spF (fun (d : {d : Bool × List Tr // d.2 ≠ []}) => Pm.PC (RS (wdT d.1.1)) (Pm.PC (RL RTr d.1.2) (Pm.PC RAny PN))) fun d => RTr (foldT d.1.1 d.1.2)) := by
  obtain ⟨f, fd, F, gm⟩ := S.djoined_trees
  refine fd_mk F gm cjoined_trees (fun _ _ _ _ _ _ us hl => match us, hl with | [_, _, _], _ => rfl) (fun d vs G h => len3 h) fun cdv Ar outer s H vs ⟨⟨wd, ts⟩, h⟩ A G0 D hr hq hn => in3 fun v1 v2 v3 => ?_
  have nd := cjoined_trees.nd
  refine B3.v (v := v1) (w := .str (wdT wd)) (fun G h => h.1.1.2) fun e1 => ?_
  subst e1
  dsimp only at h
  cases ts with
  | nil => exact absurd rfl h
  | cons t ts =>
    refine b_when (t_not (t_lst (T := RTr) (xs := t :: ts) (e_x 1 (R := RL RTr (t :: ts))))) (fun e => by simp at e) fun _ => ?_
    refine b_set 3 (R := RTr t) (e_at (R := RTr t) (i := 0) (e_x 1 (R := RL RTr (t :: ts))) e_int s_rl.s (fun vs G _ h => at_all (i := 0) (xs := t :: ts) (j := 0) rfl rfl vs G h)) fun v4 => ?_
    refine b_for (δ := Tr × V × Option V) (sd := fun d => [some (.str (wdT wd)), some v2, some v3, some d.2.1, d.2.2]) (Ad := fun d => A) (Γd := fun d => pAnd (pAnd (pSame G0) (RL RTr (t :: ts) v2)) (RTr d.1 d.2.1)) (rel := fun i d => d.1 = (ts.take i).foldl (fun a b => .pr wd a b) t) (i_list (P := RTr) (xs := ts) (F3.rl (f_from (T := RTr) (xs := t :: ts) 1 (e_x 1 (R := RL RTr (t :: ts)) (h := by exact fun G h => h.1.1.2)) e_int rfl))) (tg_name 4) (t, v4, none) ⟨rfl, rfl, rfl⟩ (fun G h => ⟨⟨h.1.1.1.1, h.1.1.2⟩, h.2⟩) (fun Gd i z d w2 hz hr2 => ?_) (fun d hr2 => ?_)
    · obtain ⟨s0, vw, so⟩ := d
      dsimp only at hr2 ⊢
      subst hr2
      refine b_set 3 (R := RTr (.pr wd ((ts.take i).foldl (fun a b => .pr wd a b) t) z)) (e_mkPr (w := wd) (e_v 0) (e_x 3 (R := RTr ((ts.take i).foldl (fun a b => .pr wd a b) t)) (h := by exact fun G h => h.1.1.2)) (e_x 4 (R := RTr z) (h := by exact fun G h => h.2))) fun v5 => ?_
      refine b_fin rfl (.pr wd ((ts.take i).foldl (fun a b => .pr wd a b) t) z, v5, some w2) ?_ rfl rfl fun G h => ⟨⟨h.1.1.1.1, h.2⟩, h.1.1.2⟩
      rw [take_snoc hz, List.foldl_append]
      rfl
    · obtain ⟨s0, vw, so⟩ := d
      dsimp only at hr2 ⊢
      rw [List.take_length] at hr2
      subst hr2
      exact b_rt hq (e_x 3 (R := RTr (ts.foldl (fun a b => .pr wd a b) t)) (h := by exact fun G h => h.2))
structure OkTc (cs : List Cl) : Prop where
  ok : OkCs cs
  ne : cs ≠ []
  nc : ∀ c ∈ cs, c ≠ []
  sm : ∀ c ∈ cs, c.length ≤ 1000
theorem ok_clauses_tree (T : Tx K mg) (S : Ats K mg) : Fd P w K mg base "clauses_tree" 7 (spF (fun (d : {cs : List Cl // OkTc cs}) => Pm.PC (RCs d.1) PN) fun d => RTr (treeC d.1)) := by
  obtain ⟨f, fd, F, gm⟩ := S.dclauses_tree
  refine fd_mk F gm cclauses_tree (fun _ _ _ _ _ _ us hl => match us, hl with | [_], _ => rfl) (fun d vs G h => len1 h) fun cdv Ar outer s H vs ⟨cs, h⟩ A G0 D hr hq hn => in1 fun v1 => ?_
  have nd := cclauses_tree.nd
  refine b_expr (e_c (ok_check_clauses T S) hr ⟨cs, h.ok⟩ (a_cons (e_x 0 (R := RCs cs)) a_nil)) fun v => ?_
  have hn := h.ok.few
  refine b_setLc 1 (own := [("clause", 2)]) (fun c : Cl => foldT false (c.map litT)) RTr (i_list (P := RCl) (xs := cs) (e_x 0 (R := RCs cs) (h := by exact fun G h => h.1.2))) (tc_name 2) (blkOk_by (N := nclauses_tree) (sc := defScope sclauses_tree) (by decide +kernel)) (fun Gd0 q0 c w0 hc s0 H0 C0 cl0 fp0 => ?_) (by rw [sizeLine_eq]; omega) (by intro _; rfl) fun v2 => ?_
  · exact e_c (ok_joined_trees T S) hr ⟨(false, c.map litT), by have := h.nc c hc; simpa using this⟩ (a_cons e_str (a_cons (F3.rl (f_lc (own := [("pair", 3)]) litT RTr (i_list (P := RLit) (xs := c) (e_x 2 (R := RCl c) (h := by exact fun G h => h.2))) (tc_name 3 (hN := nd)) (blkOk_by (by kernel_rfl)) (fun Gd q l ww hm s H C cl fp => e_c (ok_literal_tree T S) hr l (a_cons (e_x 3 (R := RLit l) (h := by exact fun G h => h.2)) a_nil)) (by have := h.sm c hc; rw [sizeLine_eq]; omega) (hN := nd))) (a_cons (E3.imp (R := RAny) (e_tupP (vs := [.str "no"]) (av_cons e_str av_nil) (by show 1 ≤ 1000; decide)) fun _ _ _ => trivial) a_nil)))
  · exact b_rt hq (e_c (ok_joined_trees T S) hr ⟨(true, cs.map fun c => foldT false (c.map litT)), by have := h.ne; simpa using this⟩ (a_cons e_str (a_cons (e_x 1 (R := RL RTr (cs.map fun c => foldT false (c.map litT))) (h := by exact fun G h => h.2)) (a_cons (E3.imp (R := RAny) (e_tupP (vs := [.str "yes"]) (av_cons e_str av_nil) (by show 1 ≤ 1000; decide)) fun _ _ _ => trivial) a_nil))))
end
end L97
/-! F97a -/
set_option maxHeartbeats 2000000
namespace L97
open PySem PySem.Spec L2 Pm
theorem zip_self {α : Type} : ∀ {xs : List α} {z : α × α}, z ∈ xs.zip xs → z.2 = z.1 ∧ z.1 ∈ xs
  | x :: r, z, h => by
    rw [List.zip_cons_cons] at h
    rcases List.mem_cons.mp h with e | h
    · subst e
      exact ⟨rfl, List.mem_cons_self ..⟩
    · exact ⟨(zip_self h).1, List.mem_cons_of_mem _ (zip_self h).2⟩
section
variable {P : Program} {w : World} {K : PySem.W.Frag} {mg : Str → Option Value} {base : Heap}
def SameFd (P : Program) (w : World) (K : PySem.W.Frag) (mg : Str → Option Value) (base : Heap) (R : V → Pr) (k : Nat) : Prop := Fd P w K mg base "_law_same" k (spF (fun _ : Unit => Pm.PC R (Pm.PC R PN)) fun _ => RB true)
theorem same_sc (T : Tx K mg) (S : Ats K mg) (u : V) (Ty : String) (b1 b2 b3 : Bool) (hT : ∀ v, (RV u v).le (pTy K Ty v)) (kd : kitB Ty "dict" = some false) (kl : kitB Ty "list" = some false) (kt : kitB Ty "tuple" = some false) (kb : kitB Ty "bool" = some b1) (ki : kitB Ty "int" = some b2) (ks : kitB Ty "str" = some b3) (sc : scal u u = true) (nn : u ≠ .non) : SameFd P w K mg base (RV u) 1 := by
  unfold SameFd
  obtain ⟨f, fd, F, gm⟩ := S.d_law_same
  refine fd_mk F gm c_law_same (fun _ _ _ _ _ _ us hl => match us, hl with | [_, _], _ => rfl) (fun d vs G h => len2 h) fun cdv Ar outer s H vs _ A G0 D hr hq hn => in2 fun v1 v2 => ?_
  have nd := c_law_same.nd
  refine b_when (t_of (e_isi (t := false) T.isinstance (e_x 1 (R := RV u)) hT (e_tD T.dict) kd)) (fun e => absurd e (by decide)) fun _ => ?_
  refine b_when (t_of (e_isi2 (t := false) T.isinstance (e_x 1 (R := RV u)) hT (e_tL T.list) (e_tT T.tuple) (kit2 kl kt))) (fun e => absurd e (by decide)) fun _ => ?_
  refine b_setV 2 (w := .bl true) (E3.imp (e_and (e_eq (x := .bl b1) (y := .bl b1) (e_isi (t := b1) T.isinstance (e_x 0 (R := RV u)) hT (e_tB T.bool) kb) (e_isi (t := b1) T.isinstance (e_x 1 (R := RV u)) hT (e_tB T.bool) kb)) fun _ => e_eq (x := .bl b2) (y := .bl b2) (e_isi (t := b2) T.isinstance (e_x 0 (R := RV u)) hT (e_tI T.int) ki) (e_isi (t := b2) T.isinstance (e_x 1 (R := RV u)) hT (e_tI T.int) ki)) (fun v G h => by have z := h.2; simpa using z)) ?_
  refine b_when (t_or3 (t_of (e_isi3 (t := false) T.isinstance (e_x 0 (R := RV u)) hT (e_tD T.dict) (e_tL T.list) (e_tT T.tuple) (kit3 kd kl kt))) (fun _ => t_not (t_of (t := true) (e_v 2))) fun _ _ => t_ne (x := .bl b3) (y := .bl b3) (e_isi (t := b3) T.isinstance (e_x 0 (R := RV u)) hT (e_tS T.str) ks) (e_isi (t := b3) T.isinstance (e_x 1 (R := RV u)) hT (e_tS T.str) ks)) (fun e => by simp at e) fun _ => ?_
  refine b_rt hq (e_if (t := false) ((t_isN (e_x 1 (R := RV u))).eq (by simp [nn])) (fun e => absurd e (by decide)) (fun _ => E3.imp (e_eq (x := u) (y := u) (e_x 0 (R := RV u)) (e_x 1 (R := RV u)) sc) (fun v G h => by have z := h.2; simpa using z)))
theorem same_tup (T : Tx K mg) (S : Ats K mg) {α : Type} (R : α → V → Pr) (xs : List α) (n : Nat) (hn : xs.length ≤ 1000) (ih : ∀ x ∈ xs, ∃ k, k ≤ n ∧ SameFd P w K mg base (R x) k) {Q : V → Pr} (hQ : ∀ v, (Q v).le (RT R xs v)) : SameFd P w K mg base Q (n + 1) := by
  unfold SameFd
  obtain ⟨f, fd, F, gm⟩ := S.d_law_same
  refine fd_mk F gm c_law_same (fun _ _ _ _ _ _ us hl => match us, hl with | [_, _], _ => rfl) (fun d vs G h => len2 h) fun cdv Ar outer s H vs _ A G0 D hr hq hn => in2 fun v1 v2 => ?_
  have nd := c_law_same.nd
  refine B3.pre (Δ := pAnd (pAnd (pSame G0) (RT R xs v1)) (RT R xs v2)) ?_ fun G h => ⟨⟨h.1.1, hQ _ _ h.1.2⟩, hQ _ _ h.2⟩
  refine b_when (t_of (e_isi (t := false) T.isinstance (e_x 1 (R := RT R xs)) (fun _ => ty_rt) (e_tD T.dict) (by decide +kernel))) (fun e => absurd e (by decide)) fun _ => ?_
  refine b_when (t_of (e_isi2 (t := true) T.isinstance (e_x 1 (R := RT R xs)) (fun _ => ty_rt) (e_tL T.list) (e_tT T.tuple) (kit2 (b1 := false) (b2 := true) (by decide +kernel) (by decide +kernel)))) (fun _ => ?_) (fun e => absurd e (by decide))
  refine b_when (t_or (t_ne (x := .bl false) (y := .bl false) (e_isi (t := false) T.isinstance (e_x 0 (R := RT R xs)) (fun _ => ty_rt) (e_tL T.list) (by decide +kernel)) (e_isi (t := false) T.isinstance (e_x 1 (R := RT R xs)) (fun _ => ty_rt) (e_tL T.list) (by decide +kernel))) fun _ => t_ne (x := .bl true) (y := .bl true) (e_isi (t := true) T.isinstance (e_x 0 (R := RT R xs)) (fun _ => ty_rt) (e_tT T.tuple) (by decide +kernel)) (e_isi (t := true) T.isinstance (e_x 1 (R := RT R xs)) (fun _ => ty_rt) (e_tT T.tuple) (by decide +kernel))) (fun e => by simp at e) fun _ => ?_
  refine b_rt hq (E3.imp (R := RB true) (e_and (e_eq (x := .int (xs.length : Nat)) (y := .int (xs.length : Nat)) (e_len (n := xs.length) T.len (e_x 0 (R := RT R xs)) s_rt (fun vs G _ z => (pAll_len z).symm)) (e_len (n := xs.length) T.len (e_x 1 (R := RT R xs)) s_rt (fun vs G _ z => (pAll_len z).symm))) fun _ => e_all (bs := (xs.zip xs).map fun _ => true) T.all (F3.rl (f_lc (own := [("one", 3), ("other", 4)]) (fun _ => true) RB (i_zipT (P1 := R) (P2 := R) (xs := xs) (ys := xs) T.zip (e_x 0 (R := RT R xs)) (e_x 1 (R := RT R xs))) (tc_two (R1 := R) (R2 := R) 3 4) (blkOk_by (N := n_law_same) (sc := defScope s_law_same) (by decide +kernel)) (fun Gd q z w' hm s2 H2 C2 cl fp => ?_) (by rw [List.length_zip, sizeLine_eq]; omega)))) (fun v G h => by have z := h.2; rw [all_tt] at z; simpa using z))
  obtain ⟨h1, h2⟩ := zip_self hm
  obtain ⟨k, hk, F2⟩ := ih z.1 h2
  exact e_c F2 hr () (a_cons (e_x 3 (R := R z.1) (h := by exact fun G h => h.2.1)) (a_cons (e_x 4 (R := R z.1) (h := by exact fun G h => h1 ▸ h.2.2)) a_nil)) (hk := hk)
theorem same_lst (T : Tx K mg) (S : Ats K mg) {α : Type} (R : α → V → Pr) (xs : List α) (n : Nat) (hn : xs.length ≤ 1000) (ih : ∀ x ∈ xs, ∃ k, k ≤ n ∧ SameFd P w K mg base (R x) k) : SameFd P w K mg base (RL R xs) (n + 1) := by
  unfold SameFd
  obtain ⟨f, fd, F, gm⟩ := S.d_law_same
  refine fd_mk F gm c_law_same (fun _ _ _ _ _ _ us hl => match us, hl with | [_, _], _ => rfl) (fun d vs G h => len2 h) fun cdv Ar outer s H vs _ A G0 D hr hq hn => in2 fun v1 v2 => ?_
  have nd := c_law_same.nd
  refine b_when (t_of (e_isi (t := false) T.isinstance (e_x 1 (R := RL R xs)) (fun _ => ty_rl) (e_tD T.dict) (by decide +kernel))) (fun e => absurd e (by decide)) fun _ => ?_
  refine b_when (t_of (e_isi2 (t := true) T.isinstance (e_x 1 (R := RL R xs)) (fun _ => ty_rl) (e_tL T.list) (e_tT T.tuple) (kit2 (b1 := true) (b2 := false) (by decide +kernel) (by decide +kernel)))) (fun _ => ?_) (fun e => absurd e (by decide))
  refine b_when (t_or (t_ne (x := .bl true) (y := .bl true) (e_isi (t := true) T.isinstance (e_x 0 (R := RL R xs)) (fun _ => ty_rl) (e_tL T.list) (by decide +kernel)) (e_isi (t := true) T.isinstance (e_x 1 (R := RL R xs)) (fun _ => ty_rl) (e_tL T.list) (by decide +kernel))) fun _ => t_ne (x := .bl false) (y := .bl false) (e_isi (t := false) T.isinstance (e_x 0 (R := RL R xs)) (fun _ => ty_rl) (e_tT T.tuple) (by decide +kernel)) (e_isi (t := false) T.isinstance (e_x 1 (R := RL R xs)) (fun _ => ty_rl) (e_tT T.tuple) (by decide +kernel))) (fun e => by simp at e) fun _ => ?_
  refine b_rt hq (E3.imp (R := RB true) (e_and (e_eq (x := .int (xs.length : Nat)) (y := .int (xs.length : Nat)) (e_lenL (R := R) (xs := xs) T.len (e_x 0 (R := RL R xs))) (e_lenL (R := R) (xs := xs) T.len (e_x 1 (R := RL R xs)))) fun _ => e_all (bs := (xs.zip xs).map fun _ => true) T.all (F3.rl (f_lc (own := [("one", 3), ("other", 4)]) (fun _ => true) RB (i_zipL (P1 := R) (P2 := R) (xs := xs) (ys := xs) T.zip (e_x 0 (R := RL R xs)) (e_x 1 (R := RL R xs))) (tc_two (R1 := R) (R2 := R) 3 4) (blkOk_by (N := n_law_same) (sc := defScope s_law_same) (by decide +kernel)) (fun Gd q z w' hm s2 H2 C2 cl fp => ?_) (by rw [List.length_zip, sizeLine_eq]; omega)))) (fun v G h => by have z := h.2; rw [all_tt] at z; simpa using z))
  obtain ⟨h1, h2⟩ := zip_self hm
  obtain ⟨k, hk, F2⟩ := ih z.1 h2
  exact e_c F2 hr () (a_cons (e_x 3 (R := R z.1) (h := by exact fun G h => h.2.1)) (a_cons (e_x 4 (R := R z.1) (h := by exact fun G h => h1 ▸ h.2.2)) a_nil)) (hk := hk)
theorem same_int (T : Tx K mg) (S : Ats K mg) (i : Int) : SameFd P w K mg base (RI i) 1 := same_sc T S (.int i) "int" false true false (fun _ => ty_ri) (by decide +kernel) (by decide +kernel) (by decide +kernel) (by decide +kernel) (by decide +kernel) (by decide +kernel) rfl (by simp)
theorem same_bl (T : Tx K mg) (S : Ats K mg) (b : Bool) : SameFd P w K mg base (RB b) 1 := same_sc T S (.bl b) "bool" true true false (fun _ => ty_rb) (by decide +kernel) (by decide +kernel) (by decide +kernel) (by decide +kernel) (by decide +kernel) (by decide +kernel) rfl (by simp)
theorem same_str (T : Tx K mg) (S : Ats K mg) (x : Str) : SameFd P w K mg base (RS x) 1 := same_sc T S (.str x) "str" false false true (fun _ => ty_rs) (by decide +kernel) (by decide +kernel) (by decide +kernel) (by decide +kernel) (by decide +kernel) (by decide +kernel) rfl (by simp)
theorem same_pair (T : Tx K mg) (S : Ats K mg) {α β : Type} {R1 : α → V → Pr} {R2 : β → V → Pr} {x : α} {y : β} {n : Nat} (h1 : ∃ k, k ≤ n ∧ SameFd P w K mg base (R1 x) k) (h2 : ∃ k, k ≤ n ∧ SameFd P w K mg base (R2 y) k) : SameFd P w K mg base (RT2 R1 R2 (x, y)) (n + 1) :=
  same_tup T S (R := fun s : α ⊕ β => s.elim R1 R2) [.inl x, .inr y] n (by show 2 ≤ 1000; decide) (fun s hs => by
    rcases List.mem_cons.mp hs with rfl | hs
    · exact h1
    · rw [List.mem_singleton.mp hs]; exact h2) fun v G ⟨a, v1, v2, e, h, r1, r2⟩ => ⟨a, [v1, v2], e, h, r1, r2, trivial⟩
theorem same_wd (T : Tx K mg) (S : Ats K mg) (d : Wd) (hd : d.length ≤ 1000) : SameFd P w K mg base (RW d) 4 := by
  have h3 : SameFd P w K mg base (RL RLit d) 3 := same_lst T S RLit d 2 hd fun l _ => ⟨2, Nat.le_refl _, same_pair T S (R1 := RS) (R2 := RB) (n := 1) ⟨1, Nat.le_refl _, same_str T S l.1⟩ ⟨1, Nat.le_refl _, same_bl T S l.2⟩⟩
  unfold SameFd at h3 ⊢
  obtain ⟨f, fd, F, gm⟩ := S.d_law_same
  refine fd_mk F gm c_law_same (fun _ _ _ _ _ _ us hl => match us, hl with | [_, _], _ => rfl) (fun d vs G h => len2 h) fun cdv Ar outer s H vs _ A G0 D hr hq hn => in2 fun v1 v2 => ?_
  have nd := c_law_same.nd
  refine b_when (t_of (e_isi (t := true) T.isinstance (e_x 1 (R := RW d)) (fun _ => ty_rd) (e_tD T.dict) (by decide +kernel))) (fun _ => ?_) (fun e => absurd e (by decide))
  exact b_rt hq (e_and (u := true) (e_isi (t := true) T.isinstance (e_x 0 (R := RW d)) (fun _ => ty_rd) (e_tD T.dict) (by decide +kernel)) fun _ => e_c h3 hr () (a_cons (e_items (f := V.bl) (d := d) T.list (e_x 0 (R := RW d)) sd_rd) (a_cons (e_items (f := V.bl) (d := d) T.list (e_x 1 (R := RW d)) sd_rd) a_nil)))
theorem same_tab (T : Tx K mg) (S : Ats K mg) (x : Str) (a b : Bool) : SameFd P w K mg base (RTab (2, [trV x a b])) 4 := by
  refine same_pair T S (R1 := RI) (R2 := RL RP) (n := 3) ⟨1, by omega, same_int T S 2⟩ ⟨3, Nat.le_refl _, same_lst T S RP [trV x a b] 2 (by show 1 ≤ 1000; decide) fun vs hv => ⟨2, Nat.le_refl _, ?_⟩⟩
  rw [List.mem_singleton.mp hv]
  refine same_tup T S RV (trV x a b) 1 (by show 3 ≤ 1000; decide) (fun v hv => ?_) (fun v G ⟨p, e, h⟩ => ⟨p, trV x a b, e, h, pAll_rvs _⟩)
  have hv : v ∈ [V.str x, .int (bI a), .int (bI b)] := hv
  simp only [List.mem_cons, List.not_mem_nil, or_false] at hv
  rcases hv with rfl | rfl | rfl
  · exact ⟨1, Nat.le_refl _, same_str T S x⟩
  · exact ⟨1, Nat.le_refl _, same_int T S (bI a)⟩
  · exact ⟨1, Nat.le_refl _, same_int T S (bI b)⟩
end
end L97
/-! F97b -/
set_option maxHeartbeats 2000000
namespace L97
open PySem PySem.Spec L2 Pm
/-- a letter of two numbers: a0 m h n -/
def nmC (x y : Str) (b h : Nat) : Str := x ++ toString ((b : Nat) : Int) ++ y ++ toString ((h : Nat) : Int)
def nmB (b h : Nat) : Str := nmC "b" "h" b h
def lenOk (x y : Str) (b h : Nat) : Bool := decide (x.length + (Str.ofString (toString ((b : Nat) : Int))).length ≤ 100) && decide ((x ++ toString ((b : Nat) : Int)).length + y.length ≤ 100) && decide ((x ++ toString ((b : Nat) : Int) ++ y).length + (Str.ofString (toString ((h : Nat) : Int))).length ≤ 100)
theorem nmB_len : ∀ b : Nat, b < 10 → ∀ h : Nat, h < 10 → lenOk "b" "h" b h = true := by decide +kernel
theorem nmP_len : ∀ b : Nat, b < 10 → ∀ h : Nat, h < 10 → lenOk "p" "c" b h = true := by decide +kernel
theorem small_log {n : Nat} (h : n < 10) : ((n : Nat) : Int).natAbs.log2 < 1920 := by
  rw [Int.natAbs_natCast]
  exact Nat.lt_of_le_of_lt (Nat.log2_le_self n) (by omega)
section
variable {X : Cx} {A : Own} {Γ : Pr} {σ : L2.St} {a b c d : Expr} {p1 p2 p3 p4 p5 q1 q2 : Pos}
/-- x + str(a) + y + str(b) -/
theorem e_nmC {x y : Str} {m n : Nat} (hs : X.mg "str" = none) (ha : E3 X A Γ σ a (RS x)) (hb : E3 X A Γ σ b (RI (m : Nat))) (hc : E3 X A Γ σ c (RS y)) (hd : E3 X A Γ σ d (RI (n : Nat))) (hm : m < 10) (hn : n < 10) (hl : lenOk x y m n = true) (hg : Gl X "str" := by rfl) (h1 : one1 X b := by rfl) (h2 : one1 X d := by rfl) :
    E3 X A Γ σ (.BinOp (.BinOp (.BinOp a .Add (.Call (.Name "str" q1) [b] [] p1) p2) .Add c p3) .Add (.Call (.Name "str" q2) [d] [] p4) p5) (RS (nmC x y m n)) := by
  unfold lenOk at hl
  simp only [Bool.and_eq_true, decide_eq_true_eq] at hl
  obtain ⟨⟨l1, l2⟩, l3⟩ := hl
  exact e_addS (e_addS (e_addS ha (e_strI hs hb (small_log hm) hg h1) (Nat.le_trans l1 (by rw [sizeLine_eq]; decide))) hc (Nat.le_trans l2 (by rw [sizeLine_eq]; decide))) (e_strI hs hd (small_log hn) hg h2) (Nat.le_trans l3 (by rw [sizeLine_eq]; decide))
end
theorem flat_snoc {α β : Type} {xs : List α} {g : α → List β} {i : Nat} {z : α} (h : xs[i]? = some z) : (xs.take (i + 1)).flatMap g = (xs.take i).flatMap g ++ g z := by
  rw [take_snoc h, List.flatMap_append]
  simp
theorem range_at {m i z : Nat} (h : (List.range m)[i]? = some z) : z = i ∧ i < m := by
  obtain ⟨h1, h2⟩ := List.getElem?_eq_some_iff.mp h
  rw [List.getElem_range] at h2
  rw [List.length_range] at h1
  exact ⟨h2.symm, h1⟩
def rowB (holes bird : Nat) : Cl := (List.range holes).map fun h => (nmB bird h, true)
def pairB (hole bird other : Nat) : Cl := [(nmB other hole, false), (nmB bird hole, false)]
def holeB (many hole : Nat) : List Cl := (List.range many).flatMap fun b => (List.range b).map (pairB hole b)
def birdsRaw (many holes : Nat) : List Cl := (List.range many).map (rowB holes) ++ (List.range holes).flatMap (holeB many)
def birdsC (many holes : Nat) : List Cl := (birdsRaw many holes).map sortL
structure OkBi (many holes : Nat) : Prop where
  m : many ≤ 10
  h : holes ≤ 10
  nd : ∀ c ∈ birdsRaw many holes, (c.map (·.1)).Nodup
  sm : (birdsRaw many holes).length ≤ 1000
structure Bst where
  ys : List Cl
  vs : List V
  s1 : Option V
  s2 : Option V
  s3 : Option V
section
variable {P : Program} {w : World} {K : PySem.W.Frag} {mg : Str → Option Value} {base : Heap}
theorem ok__law_f_birds (T : Tx K mg) (S : Ats K mg) : Fd P w K mg base "_law_f_birds" 1 (spF (fun (d : {d : Nat × Nat // OkBi d.1 d.2}) => Pm.PC (RI d.1.1) (Pm.PC (RI d.1.2) PN)) fun d => RL RCl (birdsC d.1.1 d.1.2)) := by
  obtain ⟨f, fd, F, gm⟩ := S.d_law_f_birds
  refine fd_mk F gm c_law_f_birds (fun _ _ _ _ _ _ us hl => match us, hl with | [_, _], _ => rfl) (fun d vs G h => len2 h) fun cdv Ar outer s H vs ⟨⟨many, holes⟩, h1, h2, h3, h4⟩ A G0 D hr hq hn => in2 fun v1 v2 => ?_
  have nd := c_law_f_birds.nd
  dsimp only at h1 h2 h3 h4
  refine B3.v (v := v1) (w := .int many) (fun G h => h.1.2) fun e1 => ?_
  refine B3.v (v := v2) (w := .int holes) (fun G h => h.2) fun e2 => ?_
  subst e1 e2
  have hrow : ((List.range many).map (rowB holes)).length ≤ 10 := by rw [List.length_map, List.length_range]; exact h1
  refine b_setLcO 2 (own := [("bird", 4)]) (rowB holes) RCl (i_rangeN (m := many) T.range (e_v 0) (by omega)) (tc_name 4) (blkOk_by (N := n_law_f_birds) (sc := defScope s_law_f_birds) (by decide +kernel)) (fun Gd0 q0 z w0 hz s0 H0 C0 cl0 fp0 => ?_) (by rw [List.length_range, sizeLine_eq]; omega) fun p vs => ?_
  · have hz := List.mem_range.mp hz
    exact F3.rl (f_lc (own := [("hole", 3)]) (fun h => (nmB z h, true)) RLit (i_rangeN (m := holes) T.range (e_v 1) (by omega)) (tc_name 3 (hN := nd)) (blkOk_by (by kernel_rfl)) (fun Gd q l ww hm s H C cl fp => e_tup2 (R1 := RS) (R2 := RB) (x := nmB z l) (y := true) (e_nmC T.str e_str (e_x 4 (R := RI (z : Nat)) (h := by exact fun G h => h.1.1.2)) e_str (e_x 3 (R := RI (l : Nat)) (h := by exact fun G h => h.2)) (by omega) (by have := List.mem_range.mp hm; omega) (nmB_len z (by omega) l (by have := List.mem_range.mp hm; omega))) e_bl) (by rw [List.length_range, sizeLine_eq]; omega) (hN := nd))
  generalize hbase : (List.range many).map (rowB holes) = bs at hrow
  refine b_for (δ := Bst) (sd := fun d => [some (.int many), some (.int holes), some (.ref p), d.s1, d.s2, d.s3, none]) (Ad := fun d => (p, .lst d.vs) :: A) (Γd := fun d => pAnd (pSame G0) (pAll RCl d.ys d.vs)) (rel := fun i d => d.ys = bs ++ ((List.range holes).take i).flatMap (holeB many) ∧ d.ys.length ≤ 10 + 100 * i) (i_rangeN (m := holes) T.range (e_v 1) (by omega)) (tg_name 3) ⟨bs, vs, none, none, none⟩ ⟨⟨by simp, by omega⟩, rfl, rfl⟩ (fun G h => ⟨h.1.1.1, h.2⟩) (fun Gd i z d w2 hz hr2 => ?_) (fun d hr2 => ?_)
  · obtain ⟨ys, us, s1, s2, s3⟩ := d
    obtain ⟨hr2, hl2⟩ := hr2
    dsimp only at hr2 hl2 ⊢
    obtain ⟨ez, hi⟩ := range_at hz
    subst ez
    refine B3.v (v := w2) (w := .int (z : Nat)) (fun G h => h.2) fun e1 => ?_
    subst e1
    refine b_for (δ := Bst) (sd := fun d => [some (.int many), some (.int holes), some (.ref p), some (.int (z : Nat)), d.s2, d.s3, none]) (Ad := fun d => (p, .lst d.vs) :: A) (Γd := fun d => pAnd (pAnd (pSame G0) Gd) (pAll RCl d.ys d.vs)) (rel := fun j d => d.ys = ys ++ ((List.range many).take j).flatMap (fun b => (List.range b).map (pairB z b)) ∧ d.ys.length ≤ 10 + 100 * z + 10 * j) (i_rangeN (m := many) T.range (e_v 0) (by omega)) (tg_name 4) ⟨ys, us, none, s2, s3⟩ ⟨⟨by simp, by omega⟩, rfl, rfl⟩ (fun G h => ⟨⟨h.1.1.1, h.1.2⟩, h.1.1.2⟩) (fun Gd2 j z2 d w3 hz2 hr3 => ?_) (fun d hr3 => ?_)
    · obtain ⟨ys2, us2, _, s4, s5⟩ := d
      obtain ⟨hr3, hl3⟩ := hr3
      dsimp only at hr3 hl3 ⊢
      obtain ⟨ez, hj⟩ := range_at hz2
      subst ez
      refine B3.v (v := w3) (w := .int (z2 : Nat)) (fun G h => h.2) fun e1 => ?_
      subst e1
      refine b_for (δ := Bst) (sd := fun d => [some (.int many), some (.int holes), some (.ref p), some (.int (z : Nat)), some (.int (z2 : Nat)), d.s3, none]) (Ad := fun d => (p, .lst d.vs) :: A) (Γd := fun d => pAnd (pAnd (pAnd (pSame G0) Gd) Gd2) (pAll RCl d.ys d.vs)) (rel := fun l d => d.ys = ys2 ++ ((List.range z2).take l).map (pairB z z2) ∧ d.ys.length ≤ 10 + 100 * z + 10 * z2 + l) (i_rangeN (m := z2) T.range (e_v 4) (by omega)) (tg_name 5) ⟨ys2, us2, none, none, s5⟩ ⟨⟨by simp, by omega⟩, rfl, rfl⟩ (fun G h => ⟨⟨⟨h.1.1.1.1, h.1.1.1.2⟩, h.1.2⟩, h.1.1.2⟩) (fun Gd3 l z3 d w4 hz3 hr4 => ?_) (fun d hr4 => ?_)
      · obtain ⟨ys3, us3, _, _, s6⟩ := d
        obtain ⟨hr4, hl4⟩ := hr4
        dsimp only at hr4 hl4 ⊢
        have hz3' := hz3
        obtain ⟨ez, hl⟩ := range_at hz3
        subst ez
        refine B3.v (v := w4) (w := .int (z3 : Nat)) (fun G h => h.2) fun e1 => ?_
        subst e1
        refine B3.fact (p := ys3.length = us3.length) (fun G h => pAll_len h.1.1.2) fun elen => ?_
        refine b_ap [] 2 (R := RCl (pairB z z2 z3)) (F3.rl (f_two (T := RLit) (x := (nmB z3 z, false)) (y := (nmB z2 z, false)) (e_tup2 (R1 := RS) (R2 := RB) (x := nmB z3 z) (y := false) (e_nmC T.str e_str (e_v 5) e_str (e_v 3) (by omega) (by omega) (nmB_len z3 (by omega) z (by omega))) e_bl) (e_tup2 (R1 := RS) (R2 := RB) (x := nmB z2 z) (y := false) (e_nmC T.str e_str (e_v 4) e_str (e_v 3) (by omega) (by omega) (nmB_len z2 (by omega) z (by omega))) e_bl))) (fun G h => by rw [sizeLine_eq]; omega) fun v => ?_
        refine b_fin rfl ⟨ys3 ++ [pairB z z2 z3], us3 ++ [v], none, none, some (.int (z3 : Nat))⟩ ⟨?_, ?_⟩ rfl rfl fun G h => ⟨⟨h.1.1.1.1, pAll_app h.1.1.1.2 (pAll_one h.2)⟩, h.1.1.2⟩
        · dsimp only
          rw [take_snoc hz3', List.map_append, hr4]
          simp
        · dsimp only
          rw [List.length_append, List.length_singleton]
          omega
      · obtain ⟨ys3, us3, _, _, s6⟩ := d
        obtain ⟨hr4, hl4⟩ := hr4
        dsimp only at hr4 hl4 ⊢
        refine b_fin rfl ⟨ys3, us3, none, some (.int (z2 : Nat)), s6⟩ ⟨?_, ?_⟩ rfl rfl fun G h => ⟨⟨h.1.1, h.2⟩, h.1.2⟩
        · dsimp only
          rw [List.take_length] at hr4
          rw [flat_snoc hz2, hr4, hr3, List.append_assoc]
        · dsimp only
          rw [List.length_range] at hl4
          omega
    · obtain ⟨ys3, us3, _, s4, s5⟩ := d
      obtain ⟨hr4, hl4⟩ := hr3
      dsimp only at hr4 hl4 ⊢
      refine b_fin rfl ⟨ys3, us3, some (.int (z : Nat)), s4, s5⟩ ⟨?_, ?_⟩ rfl rfl fun G h => ⟨⟨h.1.1, h.2⟩, h.1.2⟩
      · dsimp only
        rw [List.take_length] at hr4
        rw [flat_snoc hz, hr4, hr2, List.append_assoc]
        rfl
      · dsimp only
        rw [List.length_range] at hl4
        omega
  · obtain ⟨ys, us, s1, s2, s3⟩ := d
    obtain ⟨hr2, hl2⟩ := hr2
    dsimp only at hr2 hl2 ⊢
    rw [List.take_length, ← hbase] at hr2
    have hr2 : ys = birdsRaw many holes := hr2
    subst hr2
    exact b_let (b_rt hq (F3.rl (f_lc (own := [("clause", 6)]) sortL RCl (i_list (P := RCl) (xs := birdsRaw many holes) (E3.imp (R := RL RCl (birdsRaw many holes)) (e_v 2) fun v G h => ⟨p, us, h.2, h.1.2, h.1.1.2⟩)) (tc_name 6) (blkOk_by (N := n_law_f_birds) (sc := defScope s_law_f_birds) (by decide +kernel)) (fun Gd q z w hm s H C cl fp => F3.rl (f_sortLit T.sorted (e_x 6 (R := RCl z) (h := by exact fun G h => h.2)) (h3 z hm))) (by rw [sizeLine_eq]; omega))))
end
end L97
/-! F97c -/
set_option maxHeartbeats 2000000
namespace L97
open PySem PySem.Spec L2 Pm
def cntW (wd : Wd) : Bool := decide (((wd.map (·.2)).count true) % 2 = 1)
def negW (ls : List Str) (wd : Wd) : Cl := ls.map fun x => (x, !((getD wd x).getD false))
def oddC (letters : List Str) (b : Bool) : List Cl := ((tW (sortS letters)).filter fun wd => cntW wd != b).map (negW (sortS letters))
structure Ost where
  ys : List Cl
  vs : List V
  s1 : Option V
section
variable {P : Program} {w : World} {K : PySem.W.Frag} {mg : Str → Option Value} {base : Heap}
theorem ok__law_f_odd (T : Tx K mg) (S : Ats K mg) : Fd P w K mg base "_law_f_odd" 2 (spF (fun (d : {d : List Str × Bool // d.1.Nodup ∧ d.1.length ≤ 12}) => Pm.PC (RL RS d.1.1) (Pm.PC (RB d.1.2) PN)) fun d => RL RCl (oddC d.1.1 d.1.2)) := by
  obtain ⟨f, fd, F, gm⟩ := S.d_law_f_odd
  refine fd_mk F gm c_law_f_odd (fun _ _ _ _ _ _ us hl => match us, hl with | [_, _], _ => rfl) (fun d vs G h => len2 h) fun cdv Ar outer s H vs ⟨⟨letters, b⟩, h1, h2⟩ A G0 D hr hq hn => in2 fun v1 v2 => ?_
  have nd := c_law_f_odd.nd
  dsimp only at h1 h2
  have hu := hu_of hr
  refine B3.v (v := v2) (w := .bl b) (fun G h => h.2) fun e1 => ?_
  subst e1
  have hsn : (sortS letters).Nodup := (sortS_perm letters).nodup_iff.mpr h1
  have hsl : (sortS letters).length ≤ 12 := by rw [(sortS_perm letters).length_eq]; exact h2
  have hwl : (tW (sortS letters)).length ≤ 4096 := by
    have := tW_len (sortS letters) (sortS letters).length (Nat.le_refl _)
    rw [List.take_length] at this
    rw [this]
    exact Nat.pow_le_pow_right (n := 2) (by decide) hsl
  refine b_setL 2 (P := RCl) (xs := []) f_nil fun p vs => ?_
  refine b_for (δ := Ost) (sd := fun d => [some v1, some (.bl b), some (.ref p), d.s1, none]) (Ad := fun d => (p, .lst d.vs) :: A) (Γd := fun d => pAnd (pAnd (pSame G0) (RL RS letters v1)) (pAll RCl d.ys d.vs)) (rel := fun i d => d.ys = (((tW (sortS letters)).take i).filter fun wd => cntW wd != b).map (negW (sortS letters)) ∧ d.ys.length ≤ i) (i_list (P := RW) (xs := tW (sortS letters)) (e_c (ok_law_t_worlds T S) hr ⟨sortS letters, hsn, hsl⟩ (a_cons (F3.rl (f_sortLS T.sorted (e_x 0 (R := RL RS letters) (h := by exact fun G h => h.1.1.2)) (by omega))) a_nil))) (tg_name 3) ⟨[], vs, none⟩ ⟨⟨by simp, Nat.le_refl _⟩, rfl, rfl⟩ (fun G h => ⟨h.1.1, h.2⟩) (fun Gd i wd d w2 hz hr2 => ?_) (fun d hr2 => ?_)
  · obtain ⟨ys, us, s1⟩ := d
    obtain ⟨hr2, hl2⟩ := hr2
    dsimp only at hr2 hl2 ⊢
    have hmem : wd ∈ tW (sortS letters) := List.mem_of_getElem? hz
    have hkeys : keysD wd = sortS letters := by
      have := tW_keys (sortS letters) (sortS letters).length (Nat.le_refl _) wd (by rw [List.take_length]; exact hmem)
      rw [List.take_length] at this
      exact this
    have hi : i < 4096 := by have := get_lt hz; omega
    have htk : (((tW (sortS letters)).take (i + 1)).filter fun wd => cntW wd != b).map (negW (sortS letters)) = ys ++ (if (cntW wd != b) = true then [negW (sortS letters) wd] else []) := by
      rw [take_snoc hz, List.filter_append, List.map_append, hr2]
      congr 1
      simp only [List.filter_cons, List.filter_nil]
      split <;> rfl
    refine B3.fact (p := ys.length = us.length) (fun G h => pAll_len h.1.1.2) fun elen => ?_
    refine b_when (t := (cntW wd != b)) ((t_ne (x := .bl (cntW wd)) (y := .bl b) (E3.imp (e_eq (x := .int (((wd.map (·.2)).count true : Nat) % 2)) (y := .int 1) (e_mod (e_cntB (F3.rl (f_listVals (ι := kS) (f := V.bl) (d := wd) T.list (e_x 3 (R := RW wd) (h := by exact fun G h => h.2)) sd_rd)) e_bl) e_int) e_int) (fun v G h => by
      have z := h.2
      have e : decide (V.int (((wd.map (·.2)).count true : Nat) % 2) = V.int 1) = cntW wd := by
        unfold cntW
        refine decide_eq_decide.mpr ?_
        constructor
        · intro h; have := V.int.inj h; omega
        · intro h; congr 1; omega
      rw [e] at z
      exact z)) (e_v 1)).eq (by cases cntW wd <;> cases b <;> decide)) (fun e => ?_) (fun e => ?_)
    · rw [if_pos e] at htk
      refine b_ap [] 2 (R := RCl (negW (sortS letters) wd)) (F3.rl (f_lc (own := [("letter", 4)]) (fun x => (x, !((getD wd x).getD false))) RLit (i_list (P := RS) (xs := sortS letters) (F3.rl (f_sortLS T.sorted (e_x 0 (R := RL RS letters) (h := by exact fun G h => h.1.1.1.2)) (by omega)))) (tc_name 4) (blkOk_by (N := n_law_f_odd) (sc := defScope s_law_f_odd) (by decide +kernel)) (fun Gd2 q z w' hm s2 H2 C2 cl fp => ?_) (by rw [sizeLine_eq]; omega))) (fun G h => by rw [sizeLine_eq]; omega) fun v => ?_
      · obtain ⟨t, ht⟩ : ∃ t, getD wd z = some t := by
          cases e : getD wd z with
          | none => exact absurd (by rw [hkeys]; exact hm) (get_none.mp e)
          | some t => exact ⟨t, rfl⟩
        rw [ht]
        exact e_tup2 (R1 := RS) (R2 := RB) (x := z) (y := !t) (e_x 4 (R := RS z) (h := by exact fun G h => h.2)) (e_not (e_dgetK (ι := kS) (f := V.bl) (d := wd) (k := z) inr_inj hu (e_x 3 (R := RW wd) (h := by exact fun G h => h.1.1.2)) (e_x 4 (R := RS z) (h := by exact fun G h => h.2)) ht))
      · refine b_gon rfl (b_fin rfl ⟨ys ++ [negW (sortS letters) wd], us ++ [v], some w2⟩ ⟨?_, ?_⟩ rfl rfl fun G h => ⟨⟨h.1.1.1.1, pAll_app h.1.1.1.2 (pAll_one h.2)⟩, h.1.1.2⟩)
        · dsimp only
          rw [htk]
        · dsimp only
          rw [List.length_append, List.length_singleton]
          omega
    · rw [if_neg (by rw [e]; decide), List.append_nil] at htk
      refine b_fin rfl ⟨ys, us, some w2⟩ ⟨?_, ?_⟩ rfl rfl fun G h => ⟨h.1.1, h.1.2⟩
      · dsimp only
        rw [htk]
      · dsimp only
        omega
  · obtain ⟨ys, us, s1⟩ := d
    obtain ⟨hr2, hl2⟩ := hr2
    dsimp only at hr2 hl2 ⊢
    rw [List.take_length] at hr2
    have hr2 : ys = oddC letters b := hr2
    subst hr2
    exact b_let (b_rt hq (E3.imp (R := RL RCl (oddC letters b)) (e_v 2) fun v G h => ⟨p, us, h.2, h.1.2, h.1.1.2⟩))
end
end L97
/-! F97d -/
set_option maxHeartbeats 2000000
namespace L97
open PySem PySem.Spec L2 Pm
def oddsC (names : List Str) : List Cl := (names.zip (names.drop 1)).flatMap fun q => oddC [q.1, q.2] true
def lineC (names : List Str) (b : Bool) : List Cl := ([[(names.headD ⟨#[]⟩, true)]] ++ oddsC names) ++ [[(names.getLastD ⟨#[]⟩, b)]]
structure OkLi (names : List Str) : Prop where
  ne : names ≠ []
  few : names.length ≤ 12
  ap : ∀ q ∈ names.zip (names.drop 1), q.1 ≠ q.2
theorem oddC_len {a b : Str} {t : Bool} (h : a ≠ b) : (oddC [a, b] t).length ≤ 4 := by
  unfold oddC
  rw [List.length_map]
  refine Nat.le_trans (List.length_filter_le _ _) ?_
  have := tW_len (sortS [a, b]) (sortS [a, b]).length (Nat.le_refl _)
  rw [List.take_length, (sortS_perm [a, b]).length_eq] at this
  rw [this]
  exact Nat.le_refl 4
structure Lst where
  ys : List Cl
  v : V
  s1 : Option V
  s2 : Option V
section
variable {P : Program} {w : World} {K : PySem.W.Frag} {mg : Str → Option Value} {base : Heap}
theorem ok__law_f_line (T : Tx K mg) (S : Ats K mg) : Fd P w K mg base "_law_f_line" 3 (spF (fun (d : {d : List Str × Bool // OkLi d.1}) => Pm.PC (RL RS d.1.1) (Pm.PC (RB d.1.2) PN)) fun d => RL RCl (lineC d.1.1 d.1.2)) := by
  obtain ⟨f, fd, F, gm⟩ := S.d_law_f_line
  refine fd_mk F gm c_law_f_line (fun _ _ _ _ _ _ us hl => match us, hl with | [_, _], _ => rfl) (fun d vs G h => len2 h) fun cdv Ar outer s H vs ⟨⟨names, b⟩, h1, h2, h3⟩ A G0 D hr hq hn => in2 fun v1 v2 => ?_
  have nd := c_law_f_line.nd
  dsimp only at h1 h2 h3
  refine B3.v (v := v2) (w := .bl b) (fun G h => h.2) fun e1 => ?_
  subst e1
  obtain ⟨n0, ns, en⟩ : ∃ n0 ns, names = n0 :: ns := by
    cases names with
    | nil => exact absurd rfl h1
    | cons a r => exact ⟨a, r, rfl⟩
  refine b_set 2 (R := RL RCl [[(n0, true)]]) (F3.rl (f_one (T := RCl) (x := [(n0, true)]) (F3.rl (f_one (T := RLit) (x := (n0, true)) (e_tup2 (R1 := RS) (R2 := RB) (x := n0) (y := true) (e_atL (R := RS) (xs := names) 0 (e_x 0 (R := RL RS names)) e_int rfl (by rw [en]; rfl)) e_bl))))) fun v3 => ?_
  have hz2 : (names.zip (names.drop 1)).length ≤ 12 := by rw [List.length_zip]; omega
  refine b_for (δ := Lst) (sd := fun d => [some v1, some (.bl b), some d.v, d.s1, d.s2]) (Ad := fun d => A) (Γd := fun d => pAnd (pAnd (pSame G0) (RL RS names v1)) (RL RCl d.ys d.v)) (rel := fun i d => d.ys = [[(n0, true)]] ++ ((names.zip (names.drop 1)).take i).flatMap (fun q => oddC [q.1, q.2] true) ∧ d.ys.length ≤ 1 + 4 * i) (i_zipL (P1 := RS) (P2 := RS) (xs := names) (ys := names.drop 1) T.zip (e_x 0 (R := RL RS names) (h := by exact fun G h => h.1.1.2)) (F3.rl (f_from (T := RS) (xs := names) 1 (e_x 0 (R := RL RS names) (h := by exact fun G h => h.1.1.2)) e_int rfl))) (tg_pair (R1 := RS) (R2 := RS) 3 4) ⟨[[(n0, true)]], v3, none, none⟩ ⟨⟨by simp, by simp⟩, rfl, rfl⟩ (fun G h => ⟨h.1.1, h.2⟩) (fun Gd i z d w2 hz hr2 => ?_) (fun d hr2 => ?_)
  · obtain ⟨ys, vy, s1, s2⟩ := d
    obtain ⟨hr2, hl2⟩ := hr2
    dsimp only at hr2 hl2 ⊢
    have hi := get_lt hz
    have hne := h3 z (List.mem_of_getElem? hz)
    have ho := oddC_len (t := true) hne
    refine b_set 2 (R := RL RCl (ys ++ oddC [z.1, z.2] true)) (F3.rl (f_cat (T := RCl) (xs := ys) (ys := oddC [z.1, z.2] true) (e_x 2 (R := RL RCl ys) (h := by exact fun G h => h.1.1.2)) (e_c (ok__law_f_odd T S) hr ⟨([z.1, z.2], true), by simp [hne], by show 2 ≤ 12; decide⟩ (a_cons (F3.rl (f_two (T := RS) (e_x 3 (R := RS z.1) (h := by exact fun G h => h.2.1)) (e_x 4 (R := RS z.2) (h := by exact fun G h => h.2.2)))) (a_cons e_bl a_nil))) (by rw [sizeLine_eq]; omega))) fun v4 => ?_
    refine b_fin rfl ⟨ys ++ oddC [z.1, z.2] true, v4, some w2.1, some w2.2⟩ ⟨?_, ?_⟩ rfl rfl fun G h => ⟨⟨h.1.1.1.1, h.2⟩, h.1.1.2⟩
    · dsimp only
      rw [flat_snoc hz, hr2, List.append_assoc]
    · dsimp only
      rw [List.length_append]
      omega
  · obtain ⟨ys, vy, s1, s2⟩ := d
    obtain ⟨hr2, hl2⟩ := hr2
    dsimp only at hr2 hl2 ⊢
    rw [List.take_length] at hr2
    obtain ⟨la, hla⟩ : ∃ la, names.getLast? = some la := by
      rw [en]
      exact ⟨_, List.getLast?_cons⟩
    have e : lineC names b = ys ++ [[(la, b)]] := by
      unfold lineC oddsC
      rw [hr2, List.getLastD_eq_getLast?, hla, en]
      rfl
    refine b_rt hq (F3.rl (f_cat (T := RCl) (xs := ys) (ys := [[(la, b)]]) (e_x 2 (R := RL RCl ys) (h := by exact fun G h => h.2)) (F3.rl (f_one (T := RCl) (x := [(la, b)]) (F3.rl (f_one (T := RLit) (x := (la, b)) (e_tup2 (R1 := RS) (R2 := RB) (x := la) (y := b) (e_at (R := RS la) (e_x 0 (R := RL RS names) (h := by exact fun G h => h.1.2)) e_neg1 s_rl.s fun vs G _ h => ?_) (e_v 1)))))) (by rw [sizeLine_eq]; simp; omega))) (by intro v G z; rw [show lineC (names, b).1 (names, b).2 = ys ++ [[(la, b)]] from e]; exact z.2)
    obtain ⟨v, hv, hr3⟩ := pAll_last h hla
    exact ⟨v, atI_neg1 hv, hr3⟩
end
end L97
/-! F97e -/
set_option maxHeartbeats 2000000
namespace L97
open PySem PySem.Spec L2 Pm
def nmP (p c : Nat) : Str := nmC "p" "c" p c
def rowN (colours p : Nat) : List Str := (List.range colours).map (nmP p)
def namesP (size colours : Nat) : List (List Str) := (List.range size).map (rowN colours)
def nextC (size p c : Nat) : Cl := sortL [(nmP p c, false), (nmP ((p + 1) % size) c, false)]
def sameC (p c o : Nat) : Cl := sortL [(nmP p c, false), (nmP p o, false)]
def colC (size p c : Nat) : List Cl := [nextC size p c] ++ (List.range c).map (sameC p c)
def placeC (size colours p : Nat) : List Cl := [(rowN colours p).map fun x => (x, true)] ++ (List.range colours).flatMap (colC size p)
def ringC (size colours : Nat) : List Cl := (List.range size).flatMap (placeC size colours)
structure OkRi (size colours : Nat) : Prop where
  s0 : 0 < size
  s : size ≤ 10
  c : colours ≤ 10
  a1 : ∀ p, p < size → ∀ c, c < colours → nmP p c ≠ nmP ((p + 1) % size) c
  a2 : ∀ p, p < size → ∀ c, c < colours → ∀ o, o < c → nmP p c ≠ nmP p o
structure Rst where
  p : Addr
  ys : List Cl
  vs : List V
  s1 : Option V
  s2 : Option V
theorem row_get {colours p c : Nat} (h : c < colours) : (rowN colours p)[c]? = some (nmP p c) := by simp [rowN, h]
theorem names_get {size colours p : Nat} (h : p < size) : (namesP size colours)[p]? = some (rowN colours p) := by simp [namesP, h]
theorem colC_len {size p c : Nat} (h : c < 10) : (colC size p c).length ≤ 10 := by simp [colC]; omega
section
variable {P : Program} {w : World} {K : PySem.W.Frag} {mg : Str → Option Value} {base : Heap}
theorem ok__law_f_ring (T : Tx K mg) (S : Ats K mg) : Fd P w K mg base "_law_f_ring" 1 (spF (fun (d : {d : Nat × Nat // OkRi d.1 d.2}) => Pm.PC (RI d.1.1) (Pm.PC (RI d.1.2) PN)) fun d => RL RCl (ringC d.1.1 d.1.2)) := by
  obtain ⟨f, fd, F, gm⟩ := S.d_law_f_ring
  refine fd_mk F gm c_law_f_ring (fun _ _ _ _ _ _ us hl => match us, hl with | [_, _], _ => rfl) (fun d vs G h => len2 h) fun cdv Ar outer s H vs ⟨⟨size, colours⟩, h0, h1, h2, h3, h4⟩ A G0 D hr hq hn => in2 fun v1 v2 => ?_
  have nd := c_law_f_ring.nd
  dsimp only at h0 h1 h2 h3 h4
  refine B3.v (v := v1) (w := .int size) (fun G h => h.1.2) fun e1 => ?_
  refine B3.v (v := v2) (w := .int colours) (fun G h => h.2) fun e2 => ?_
  subst e1 e2
  refine b_tupFE 3 4 (Ra := OL RCl []) (Rb := RL (RL RS) (namesP size colours)) f_nil (fun qq => F3.rl (f_lc (own := [("place", 2)]) (rowN colours) (RL RS) (i_rangeN (m := size) T.range (e_v 0) (by omega)) (tc_name 2) (blkOk_by (N := n_law_f_ring) (sc := defScope s_law_f_ring) (by decide +kernel)) (fun Gd0 q0 z w0 hz s0 H0 C0 cl0 fp0 => ?_) (by rw [List.length_range, sizeLine_eq]; omega))) fun p o v5 => ?_
  · have hz := List.mem_range.mp hz
    exact F3.rl (f_lc (own := [("colour", 5)]) (fun c => nmP z c) RS (i_rangeN (m := colours) T.range (e_v 1) (by omega)) (tc_name 5 (hN := nd)) (blkOk_by (by kernel_rfl)) (fun Gd q l ww hm s H C cl fp => e_nmC T.str e_str (e_x 2 (R := RI (z : Nat)) (h := by exact fun G h => h.1.1.2)) e_str (e_x 5 (R := RI (l : Nat)) (h := by exact fun G h => h.2)) (by omega) (by have := List.mem_range.mp hm; omega) (nmP_len z (by omega) l (by have := List.mem_range.mp hm; omega))) (by rw [List.length_range, sizeLine_eq]; omega) (hN := nd))
  refine B3.fact (p := o = .lst []) (fun G h => ol_nil h.1.2) fun eo => ?_
  subst eo
  refine b_for (δ := Rst) (sd := fun d => [some (.int size), some (.int colours), d.s1, some (.ref d.p), some v5, d.s2, none, none]) (Ad := fun d => (d.p, .lst d.vs) :: A) (Γd := fun d => pAnd (pAnd (pSame G0) (RL (RL RS) (namesP size colours) v5)) (pAll RCl d.ys d.vs)) (rel := fun i d => d.ys = ((List.range size).take i).flatMap (placeC size colours) ∧ d.ys.length ≤ 111 * i) (i_rangeN (m := size) T.range (e_v 0) (by omega)) (tg_name 2) ⟨p, [], [], none, none⟩ ⟨⟨by simp, by simp⟩, rfl, rfl⟩ (fun G h => ⟨⟨h.1.1.1.1, h.2⟩, trivial⟩) (fun Gd i z d w2 hz hr2 => ?_) (fun d hr2 => ?_)
  · obtain ⟨p0, ys, us, s1, s2⟩ := d
    obtain ⟨hr2, hl2⟩ := hr2
    dsimp only at hr2 hl2 ⊢
    obtain ⟨ez, hi⟩ := range_at hz
    subst ez
    refine B3.v (v := w2) (w := .int (z : Nat)) (fun G h => h.2) fun e1 => ?_
    subst e1
    refine B3.fact (p := ys.length = us.length) (fun G h => pAll_len h.1.1.2) fun elen => ?_
    refine b_ap [] 3 (R := RCl ((rowN colours z).map fun x => (x, true))) (F3.rl (f_lc (own := [("name", 6)]) (fun x => (x, true)) RLit (i_list (P := RS) (xs := rowN colours z) (e_atL (R := RL RS) (xs := namesP size colours) z (e_x 4 (R := RL (RL RS) (namesP size colours)) (h := by exact fun G h => h.1.1.1.2)) (e_v 2) rfl (names_get hi))) (tc_name 6) (blkOk_by (N := n_law_f_ring) (sc := defScope s_law_f_ring) (by decide +kernel)) (fun Gd2 q x w' hm s2 H2 C2 cl fp => e_tup2 (R1 := RS) (R2 := RB) (x := x) (y := true) (e_x 6 (R := RS x) (h := by exact fun G h => h.2)) e_bl) (by rw [sizeLine_eq]; simp [rowN]; omega))) (fun G h => by rw [sizeLine_eq]; omega) fun v => ?_
    refine b_for (δ := Rst) (sd := fun d => [some (.int size), some (.int colours), some (.int (z : Nat)), some (.ref d.p), some v5, d.s2, none, none]) (Ad := fun d => (d.p, .lst d.vs) :: A) (Γd := fun d => pAnd (pAnd (pAnd (pSame G0) Gd) (RL (RL RS) (namesP size colours) v5)) (pAll RCl d.ys d.vs)) (rel := fun j d => d.ys = (ys ++ [(rowN colours z).map fun x => (x, true)]) ++ ((List.range colours).take j).flatMap (colC size z) ∧ d.ys.length ≤ 111 * z + 1 + 10 * j) (i_rangeN (m := colours) T.range (e_v 1) (by omega)) (tg_name 5) ⟨p0, ys ++ [(rowN colours z).map fun x => (x, true)], us ++ [v], none, s2⟩ ⟨⟨by simp, by simp; omega⟩, rfl, rfl⟩ (fun G h => ⟨⟨⟨h.1.1.1.1.1, h.1.1.2⟩, h.1.1.1.1.2⟩, pAll_app h.1.1.1.2 (pAll_one h.2)⟩) (fun Gd2 j z2 d w3 hz2 hr3 => ?_) (fun d hr3 => ?_)
    · obtain ⟨p1, ys2, us2, _, s4⟩ := d
      obtain ⟨hr3, hl3⟩ := hr3
      dsimp only at hr3 hl3 ⊢
      obtain ⟨ez, hj⟩ := range_at hz2
      subst ez
      refine B3.v (v := w3) (w := .int (z2 : Nat)) (fun G h => h.2) fun e1 => ?_
      subst e1
      refine B3.fact (p := ys2.length = us2.length) (fun G h => pAll_len h.1.1.2) fun elen2 => ?_
      have hmod : (((z : Nat) : Int) + 1) % ((size : Nat) : Int) = (((z + 1) % size : Nat) : Int) := by
        rw [Int.natCast_emod]
        rfl
      have hlt : (z + 1) % size < size := Nat.mod_lt _ h0
      refine b_ap [] 3 (R := RCl (nextC size z z2)) (F3.rl (f_sortLit (c := [(nmP z z2, false), (nmP ((z + 1) % size) z2, false)]) T.sorted (F3.rl (f_two (T := RLit) (x := (nmP z z2, false)) (y := (nmP ((z + 1) % size) z2, false)) (e_tup2 (R1 := RS) (R2 := RB) (x := nmP z z2) (y := false) (e_atL (R := RS) (xs := rowN colours z) z2 (e_atL (R := RL RS) (xs := namesP size colours) z (e_x 4 (R := RL (RL RS) (namesP size colours)) (h := by exact fun G h => h.1.1.1.2)) (e_v 2) rfl (names_get hi)) (e_v 5) rfl (row_get hj)) e_bl) (e_tup2 (R1 := RS) (R2 := RB) (x := nmP ((z + 1) % size) z2) (y := false) (e_atL (R := RS) (xs := rowN colours ((z + 1) % size)) z2 (e_atL (R := RL RS) (xs := namesP size colours) ((z + 1) % size) (e_x 4 (R := RL (RL RS) (namesP size colours)) (h := by exact fun G h => h.1.1.1.2)) (e_mod (e_add (e_v 2) e_int) (e_v 0) (by omega)) hmod (names_get hlt)) (e_v 5) rfl (row_get hj)) e_bl))) (by simp [h3 z hi z2 hj]))) (fun G h => by rw [sizeLine_eq]; omega) fun u => ?_
      refine b_let (b_setL 3 (P := RCl) (xs := (ys2 ++ [nextC size z z2]) ++ (List.range z2).map (sameC z z2)) (f_cat (T := RCl) (xs := ys2 ++ [nextC size z z2]) (ys := (List.range z2).map (sameC z z2)) (E3.imp (R := RL RCl (ys2 ++ [nextC size z z2])) (e_v 3) fun v G h => ⟨p1, us2 ++ [u], h.2, h.1.2, pAll_app h.1.1.1.1.1.2 (pAll_one h.1.1.2)⟩) (F3.rl (f_lc (own := [("other", 7)]) (sameC z z2) RCl (i_rangeN (m := z2) T.range (e_v 5) (by omega)) (tc_name 7) (blkOk_by (N := n_law_f_ring) (sc := defScope s_law_f_ring) (by decide +kernel)) (fun Gd3 q o w' hm s2 H2 C2 cl fp => ?_) (by rw [List.length_range, sizeLine_eq]; omega))) (by rw [sizeLine_eq]; simp; omega)) fun p2 us3 => ?_)
      · have ho := List.mem_range.mp hm
        exact F3.rl (f_sortLit (c := [(nmP z z2, false), (nmP z o, false)]) T.sorted (F3.rl (f_two (T := RLit) (x := (nmP z z2, false)) (y := (nmP z o, false)) (e_tup2 (R1 := RS) (R2 := RB) (x := nmP z z2) (y := false) (e_atL (R := RS) (xs := rowN colours z) z2 (e_atL (R := RL RS) (xs := namesP size colours) z (e_x 4 (R := RL (RL RS) (namesP size colours)) (h := by exact fun G h => h.1.1.1.1.1.1.1.2)) (e_v 2) rfl (names_get hi)) (e_v 5) rfl (row_get hj)) e_bl) (e_tup2 (R1 := RS) (R2 := RB) (x := nmP z o) (y := false) (e_atL (R := RS) (xs := rowN colours z) o (e_atL (R := RL RS) (xs := namesP size colours) z (e_x 4 (R := RL (RL RS) (namesP size colours)) (h := by exact fun G h => h.1.1.1.1.1.1.1.2)) (e_v 2) rfl (names_get hi)) (e_x 7 (R := RI (o : Nat)) (h := by exact fun G h => h.2)) rfl (row_get (by omega))) e_bl))) (by simp [h4 z hi z2 hj o ho]))
      · refine b_fin rfl ⟨p2, (ys2 ++ [nextC size z z2]) ++ (List.range z2).map (sameC z z2), us3, some (.int (z : Nat)), some (.int (z2 : Nat))⟩ ⟨?_, ?_⟩ rfl rfl fun G h => ⟨⟨h.1.1.1.1.1.1, h.2⟩, h.1.1.1.1.2⟩
        · dsimp only
          rw [flat_snoc hz2, hr3]
          simp [colC]
        · dsimp only
          simp
          omega
    · obtain ⟨p1, ys2, us2, _, s4⟩ := d
      obtain ⟨hr3, hl3⟩ := hr3
      dsimp only at hr3 hl3 ⊢
      rw [List.take_length] at hr3
      refine b_fin rfl ⟨p1, ys2, us2, some (.int (z : Nat)), s4⟩ ⟨?_, ?_⟩ rfl rfl fun G h => ⟨⟨⟨h.1.1.1, h.1.2⟩, h.2⟩, h.1.1.2⟩
      · dsimp only
        rw [flat_snoc hz, hr3, hr2]
        simp [placeC]
      · dsimp only
        rw [List.length_range] at hl3
        omega
  · obtain ⟨p0, ys, us, s1, s2⟩ := d
    obtain ⟨hr2, hl2⟩ := hr2
    dsimp only at hr2 hl2 ⊢
    rw [List.take_length] at hr2
    have hr2 : ys = ringC size colours := hr2
    subst hr2
    exact b_let (b_rt hq (E3.imp (R := RL RCl (ringC size colours)) (e_v 3) fun v G h => ⟨p0, us, h.2, h.1.2, h.1.1.2⟩))
end
end L97
/-! F97f -/
set_option maxHeartbeats 2000000
namespace L97
open PySem PySem.Spec L2 Pm
structure OkAs (cs : List Cl) (b : Bool) : Prop where
  ok : OkCs cs
  ten : (lettersW cs).length ≤ 10
  sm : ∀ c ∈ cs, c.length ≤ 1000
  due : (leastP cs).isNone = b
theorem letter_in {cs : List Cl} {c : Cl} {l : Lit} (hc : c ∈ cs) (hl : l ∈ c) : l.1 ∈ lettersW cs :=
  mem_sortS.mpr (mem_nubA.mpr (.inr (List.mem_map.mpr ⟨l, List.mem_flatMap.mpr ⟨c, hc, hl⟩, rfl⟩)))
theorem keys_worldAt (ls : List Str) (p : Nat) (hp : p < 2 ^ ls.length) : keysD (worldAt ls p) = ls := by
  have h : worldAt ls p ∈ tW ls := by
    rw [tW_range]
    exact List.mem_map.mpr ⟨p, List.mem_range.mpr hp, rfl⟩
  have := tW_keys ls ls.length (Nat.le_refl _) (worldAt ls p) (by rw [List.take_length]; exact h)
  rwa [List.take_length] at this
section
variable {P : Program} {w : World} {K : PySem.W.Frag} {mg : Str → Option Value} {base : Heap}
theorem ok__law_f_asked (T : Tx K mg) (S : Ats K mg) : Fd P w K mg base "_law_f_asked" 14 (spF (fun (d : {d : List Cl × Bool // OkAs d.1 d.2}) => Pm.PC RAny (Pm.PC (RCs d.1.1) (Pm.PC (RB d.1.2) PN))) fun d => RB true) := by
  obtain ⟨f, fd, F, gm⟩ := S.d_law_f_asked
  refine fd_mk F gm c_law_f_asked (fun _ _ _ _ _ _ us hl => match us, hl with | [_, _, _], _ => rfl) (fun d vs G h => len3 h) fun cdv Ar outer s H vs ⟨⟨cs, b⟩, h1, h2, h3, h4⟩ A G0 D hr hq hn => in3 fun v1 v2 v3 => ?_
  have nd := c_law_f_asked.nd
  dsimp only at h1 h2 h3 h4
  refine B3.v (v := v3) (w := .bl b) (fun G h => h.2) fun e1 => ?_
  subst e1
  refine B3.pre (Δ := pAnd (pSame G0) (RCs cs v2)) ?_ fun G h => ⟨h.1.1.1, h.1.2⟩
  refine b_set 3 (R := upOut cs) (e_c (ok_refute_up T S) hr ⟨cs, h1, h2⟩ (a_cons (e_x 1 (R := RCs cs)) a_nil)) fun v4 => ?_
  unfold upOut
  cases hL : leastP cs with
  | some p =>
    rw [hL] at h4
    have h4 : b = false := h4.symm
    subst h4
    have hf := hL
    unfold leastP at hf
    have hall := List.find?_some hf
    have hp := List.mem_range.mp (List.mem_of_find?_eq_some hf)
    have hkeys := keys_worldAt (lettersW cs) p hp
    have hlen : (worldAt (lettersW cs) p).length = (lettersW cs).length := by
      have := congrArg List.length hkeys
      rwa [keysD, List.length_map] at this
    dsimp only
    generalize hwd : worldAt (lettersW cs) p = wd at hall hkeys hlen
    refine b_when ((t_ne (x := .bl (decide (V.str ("world" : Str) = V.str "proof"))) (y := .bl false) (e_eq (x := .str "world") (y := .str "proof") (e_fst (R1 := RS) (R2 := RW) (x := (("world" : Str), wd)) (e_x 3 (R := RT2 RS RW ("world", wd)) (h := by exact fun G h => h.2))) e_str) (e_v 2)).eq (t' := false) (by decide +kernel)) (fun e => absurd e (by decide)) fun _ => ?_
    refine b_when (t_not (t_of (t := false) (e_v 2))) (fun _ => ?_) (fun e => absurd e (by decide))
    refine b_set 5 (R := RL RS (lettersW cs)) (e_c (ok_law_l_letters T S) hr ⟨cs, by omega, h3⟩ (a_cons (e_x 1 (R := RCs cs) (h := by exact fun G h => h.1.2)) a_nil)) fun v6 => ?_
    have hget : ((tW (lettersW cs)).filter (holdsAll cs))[0]? = some wd := by
      rw [← List.head?_eq_getElem?, lworlds_least, hL, ← hwd]
      rfl
    refine b_set 6 (R := RW wd) (e_atL (R := RW) (xs := (tW (lettersW cs)).filter (holdsAll cs)) 0 (e_c (ok_law_l_worlds T S) hr ⟨(cs, lettersW cs), lettersW_nodup cs, h1.let_, by have := h1.few; dsimp only; omega, h3, fun c hc l hl => letter_in hc hl⟩ (a_cons (e_x 1 (R := RCs cs) (h := by exact fun G h => h.1.1.2)) (a_cons (e_x 5 (R := RL RS (lettersW cs)) (h := by exact fun G h => h.2)) a_nil))) e_int rfl hget) fun v7 => ?_
    refine b_rt hq (E3.imp (R := RB true) (e_and (e_c (same_wd T S wd (by omega)) hr () (a_cons (e_snd (R1 := RS) (R2 := RW) (x := (("world" : Str), wd)) (e_x 3 (R := RT2 RS RW ("world", wd)) (h := by exact fun G h => h.1.1.2))) (a_cons (e_x 6 (R := RW wd) (h := by exact fun G h => h.2)) a_nil))) fun _ => e_isB (e_c (ok_clauses_hold T S) hr ⟨(cs, wd), h1, hlen, fun l hl => by show l ∈ keysD wd; rw [hkeys]; exact hl⟩ (a_cons (e_x 1 (R := RCs cs) (h := by exact fun G h => h.1.1.1.2)) (a_cons (e_x 6 (R := RW wd) (h := by exact fun G h => h.2)) a_nil))) e_bl) (fun v G h => by
      have z := h.2
      rw [show (cs.all fun c => holdsC c wd) = true from hall] at z
      exact z))
  | none =>
    rw [hL] at h4
    have h4 : b = true := h4.symm
    subst h4
    dsimp only
    refine B3.ex fun ss => ?_
    refine B3.ex fun res => ?_
    refine B3.fact (p := OkPf cs ss res ∧ res.getLast? = some []) (fun G h => h.2.1) fun ⟨hpf, hla⟩ => ?_
    refine B3.pre (Δ := pAnd (pAnd (pSame G0) (RCs cs v2)) (RT2 RS (RL RStp) (("proof" : Str), ss) v4)) ?_ fun G h => ⟨h.1, h.2.2⟩
    refine b_when ((t_ne (x := .bl (decide (V.str ("proof" : Str) = V.str "proof"))) (y := .bl true) (e_eq (x := .str "proof") (y := .str "proof") (e_fst (R1 := RS) (R2 := RL RStp) (x := (("proof" : Str), ss)) (e_x 3 (R := RT2 RS (RL RStp) ("proof", ss)) (h := by exact fun G h => h.2))) e_str) (e_v 2)).eq (t' := false) (by decide +kernel)) (fun e => absurd e (by decide)) fun _ => ?_
    refine b_when (t_not (t_of (t := true) (e_v 2))) (fun e => absurd e (by decide)) fun _ => ?_
    have snd : ∀ {A' : Own} {Γ' : Pr} {σ' : L2.St} {p1 p2 p3 : Pos} {kk : Nat} {X' : Cx}, True := trivial
    refine b_set 4 (R := okShort cs ss) (e_c (ok_shorter_proof T S) hr ⟨(cs, ss, res), h1, hpf, hla⟩ (a_cons (e_x 1 (R := RCs cs) (h := by exact fun G h => h.1.2)) (a_cons (e_snd (R1 := RS) (R2 := RL RStp) (x := (("proof" : Str), ss)) (e_x 3 (R := RT2 RS (RL RStp) ("proof", ss)) (h := by exact fun G h => h.2))) a_nil))) fun v5 => ?_
    unfold okShort
    refine B3.ex fun st => ?_
    refine B3.ex fun rs => ?_
    refine B3.fact (p := OkPf cs st rs ∧ rs.getLast? = some [] ∧ st.length ≤ ss.length) (fun G h => h.2.1) fun ⟨hpf2, hla2, hle⟩ => ?_
    refine B3.pre (Δ := pAnd (pAnd (pAnd (pSame G0) (RCs cs v2)) (RT2 RS (RL RStp) (("proof" : Str), ss) v4)) (RL RStp st v5)) ?_ fun G h => ⟨h.1, h.2.2⟩
    refine b_rt hq (E3.imp (R := RB true) (e_andL (e_c (ok__law_l_proof T S) hr ⟨(cs, ss, res), hpf, hla⟩ (a_cons (e_x 1 (R := RCs cs) (h := by exact fun G h => h.1.1.2)) (a_cons (e_snd (R1 := RS) (R2 := RL RStp) (x := (("proof" : Str), ss)) (e_x 3 (R := RT2 RS (RL RStp) ("proof", ss)) (h := by exact fun G h => h.1.2))) a_nil))) fun _ => e_andL (e_c (ok__law_l_proof T S) hr ⟨(cs, st, rs), hpf2, hla2⟩ (a_cons (e_x 1 (R := RCs cs) (h := by exact fun G h => h.1.1.2)) (a_cons (e_x 4 (R := RL RStp st) (h := by exact fun G h => h.2)) a_nil))) fun _ => e_andL (e_isB (e_c (ok_is_proof T S) hr ⟨(cs, st, rs), h1, hpf2, hla2⟩ (a_cons (e_x 1 (R := RCs cs) (h := by exact fun G h => h.1.1.2)) (a_cons (e_x 4 (R := RL RStp st) (h := by exact fun G h => h.2)) a_nil))) e_bl) fun _ => e_one (e_le (e_lenL (R := RStp) (xs := st) T.len (e_x 4 (R := RL RStp st) (h := by exact fun G h => h.2))) (e_lenL (R := RStp) (xs := ss) T.len (e_snd (R1 := RS) (R2 := RL RStp) (x := (("proof" : Str), ss)) (e_x 3 (R := RT2 RS (RL RStp) ("proof", ss)) (h := by exact fun G h => h.1.2)))))) (fun v G h => by
      have z := h.2
      have e : (true && (true && (decide (true = true) && decide (((st.length : Nat) : Int) ≤ ((ss.length : Nat) : Int))))) = true := by simp; exact hle
      rw [e] at z
      exact z))
end
end L97
/-! F97g -/
set_option maxHeartbeats 2000000
namespace L97
open PySem PySem.Spec L2 Pm
section
variable {P : Program} {w : World} {K : PySem.W.Frag} {mg : Str → Option Value} {base : Heap} {C : Addr}
theorem ok_refute_upX (T : Tx K mg) (S : Ats K mg) (G : PxT P K mg "TooGreat" C "most") : FdE P w K mg base "refute_up" 13 (spE (fun (cs : {cs : List Cl // OkCs cs ∧ 10 < (lettersW cs).length}) => Pm.PC (RCs cs.1) PN) C "most" (.int 10)) := by
  obtain ⟨f, fd, F, gm⟩ := S.drefute_up
  refine fd_mkE F gm crefute_up (fun _ _ _ _ _ _ us hl => match us, hl with | [_], _ => rfl) (fun d vs G h => len1 h) fun cdv Ar outer s H vs ⟨cs, h1, h2⟩ A G0 D E hr hE => in1 fun v1 => ?_
  have nd := crefute_up.nd
  refine b_expr (e_c (ok_check_clauses T S) hr ⟨cs, h1⟩ (a_cons (e_x 0 (R := RCs cs)) a_nil)) fun v => ?_
  have hl := h1.let_
  refine b_set 1 (R := RL RS (lettersW cs)) (e_c (ok_letters_within T S) hr ⟨cs, h1.cl, h1.few, by omega⟩ (a_cons (e_x 0 (R := RCs cs) (h := by exact fun G h => h.1.2)) a_nil)) fun v2 => ?_
  refine b_when (t_gt (e_lenL (R := RS) (xs := lettersW cs) T.len (e_x 1 (R := RL RS (lettersW cs)) (h := by exact fun G h => h.2))) (e_gI T.cTEN)) (fun _ => ?_) (fun e => by simp at e; omega)
  exact b_raisePx (W := fun cls d _ H => E cls d H) rfl G hr (L2N.takes_of rfl rfl rfl rfl) (e_gI T.cTEN) (fun H' e ok g he => hE H' e ok g.1.1.1 he)
theorem same_hot (T : Tx K mg) (S : Ats K mg) : FdH P w K mg base "_law_same" 1 (spF (fun _ : Unit => Pm.PC (RI 10) (Pm.PC (RI 10) PN)) fun _ => RB true) := by
  obtain ⟨f, fd, F, gm⟩ := S.d_law_same
  refine fd_mkH F gm c_law_same (fun _ _ _ _ _ _ us hl => match us, hl with | [_, _], _ => rfl) (fun d vs G h => len2 h) fun cdv Ar outer s H vs d A G0 D p hr hq hn => in2 fun v1 v2 => ?_
  have nd := c_law_same.nd
  refine b_when (t_of (e_isi (t := false) T.isinstance (e_x 1 (R := RI 10)) (fun _ => ty_ri) (e_tD T.dict) (by decide +kernel))) (fun e => absurd e (by decide)) fun _ => ?_
  refine b_when (t_of (e_isi2 (t := false) T.isinstance (e_x 1 (R := RI 10)) (fun _ => ty_ri) (e_tL T.list) (e_tT T.tuple) (kit2 (b1 := false) (b2 := false) (by decide +kernel) (by decide +kernel)))) (fun e => absurd e (by decide)) fun _ => ?_
  refine b_setV 2 (w := .bl true) (E3.imp (e_and (e_eq (x := .bl false) (y := .bl false) (e_isi (t := false) T.isinstance (e_x 0 (R := RI 10)) (fun _ => ty_ri) (e_tB T.bool) (by decide +kernel)) (e_isi (t := false) T.isinstance (e_x 1 (R := RI 10)) (fun _ => ty_ri) (e_tB T.bool) (by decide +kernel))) fun _ => e_eq (x := .bl true) (y := .bl true) (e_isi (t := true) T.isinstance (e_x 0 (R := RI 10)) (fun _ => ty_ri) (e_tI T.int) (by decide +kernel)) (e_isi (t := true) T.isinstance (e_x 1 (R := RI 10)) (fun _ => ty_ri) (e_tI T.int) (by decide +kernel))) (fun v G h => by have z := h.2; simpa using z)) ?_
  refine b_when (t_or3 (t_of (e_isi3 (t := false) T.isinstance (e_x 0 (R := RI 10)) (fun _ => ty_ri) (e_tD T.dict) (e_tL T.list) (e_tT T.tuple) (kit3 (b1 := false) (b2 := false) (b3 := false) (by decide +kernel) (by decide +kernel) (by decide +kernel)))) (fun _ => t_not (t_of (t := true) (e_v 2))) fun _ _ => t_ne (x := .bl false) (y := .bl false) (e_isi (t := false) T.isinstance (e_x 0 (R := RI 10)) (fun _ => ty_ri) (e_tS T.str) (by decide +kernel)) (e_isi (t := false) T.isinstance (e_x 1 (R := RI 10)) (fun _ => ty_ri) (e_tS T.str) (by decide +kernel))) (fun e => by simp at e) fun _ => ?_
  refine b_rt hq (e_if (t := false) ((t_isN (w := .int 10) (e_x 1 (R := RI 10))).eq (by simp)) (fun e => absurd e (by decide)) (fun _ => E3.imp (e_eq (x := .int 10) (y := .int 10) (e_x 0 (R := RI 10)) (e_x 1 (R := RI 10))) (fun v G h => by have z := h.2; simpa using z)))
end
end L97
/-! F97h -/
set_option maxHeartbeats 2000000
namespace L97
open PySem PySem.Spec L2 Pm
def nmN (k : Nat) : Str := ("n" : Str) ++ toString ((k : Nat) : Int)
def nN (size : Nat) : List Str := (List.range (size + 2)).map nmN
instance decOkCl (c : Cl) : Decidable (OkCl c) := decidable_of_iff ((∀ l ∈ c, isLetter l.1 = true) ∧ c.Pairwise (fun a b => ltS a.1 b.1) ∧ c.length ≤ 1000) ⟨fun ⟨a, b, d⟩ => ⟨a, b, d⟩, fun h => ⟨h.let_, h.up, h.few⟩⟩
instance decOkCs (cs : List Cl) : Decidable (OkCs cs) := decidable_of_iff ((∀ c ∈ cs, OkCl c) ∧ cs.length ≤ 300 ∧ (lettersW cs).length ≤ 12) ⟨fun ⟨a, b, d⟩ => ⟨a, b, d⟩, fun h => ⟨h.cl, h.few, h.let_⟩⟩
instance decOkAs (cs : List Cl) (b : Bool) : Decidable (OkAs cs b) := decidable_of_iff (OkCs cs ∧ (lettersW cs).length ≤ 10 ∧ (leastP cs).isNone = b) ⟨fun ⟨a, d, e⟩ => ⟨a, d, fun c hc => (a.cl c hc).few, e⟩, fun h => ⟨h.ok, h.ten, h.due⟩⟩
instance decOkBi (m h : Nat) : Decidable (OkBi m h) := decidable_of_iff (m ≤ 10 ∧ h ≤ 10 ∧ (∀ c ∈ birdsRaw m h, (c.map (·.1)).Nodup) ∧ (birdsRaw m h).length ≤ 1000) ⟨fun ⟨a, b, c, d⟩ => ⟨a, b, c, d⟩, fun h => ⟨h.m, h.h, h.nd, h.sm⟩⟩
instance decOkLi (names : List Str) : Decidable (OkLi names) := decidable_of_iff (names ≠ [] ∧ names.length ≤ 12 ∧ ∀ q ∈ names.zip (names.drop 1), q.1 ≠ q.2) ⟨fun ⟨a, b, c⟩ => ⟨a, b, c⟩, fun h => ⟨h.ne, h.few, h.ap⟩⟩
instance decOkRi (s c : Nat) : Decidable (OkRi s c) := decidable_of_iff (0 < s ∧ s ≤ 10 ∧ c ≤ 10 ∧ (∀ p, p < s → ∀ i, i < c → nmP p i ≠ nmP ((p + 1) % s) i) ∧ (∀ p, p < s → ∀ i, i < c → ∀ o, o < i → nmP p i ≠ nmP p o)) ⟨fun ⟨a, b, c, d, e⟩ => ⟨a, b, c, d, e⟩, fun h => ⟨h.s0, h.s, h.c, h.a1, h.a2⟩⟩
/-! ### clauses in another order -/
theorem letters_perm {r cs : List Cl} (h : r.Perm cs) : lettersW r = lettersW cs := by
  refine up_ext (sortS_lt (nubA_nodup List.nodup_nil)) (sortS_lt (nubA_nodup List.nodup_nil)) fun x => ?_
  show x ∈ sortS _ ↔ x ∈ sortS _
  rw [mem_sortS, mem_sortS, mem_nubA, mem_nubA, List.mem_map, List.mem_map]
  simp only [List.mem_flatMap, h.mem_iff]
theorem holds_perm {r cs : List Cl} (h : r.Perm cs) (w : Wd) : holdsAll r w = holdsAll cs w := by
  unfold holdsAll
  rw [Bool.eq_iff_iff, List.all_eq_true, List.all_eq_true]
  exact ⟨fun z c hc => z c (h.mem_iff.mpr hc), fun z c hc => z c (h.mem_iff.mp hc)⟩
theorem least_perm {r cs : List Cl} (h : r.Perm cs) : leastP r = leastP cs := by
  unfold leastP
  rw [letters_perm h]
  congr 1
  funext p
  exact holds_perm h _
theorem okCs_perm {r cs : List Cl} (h : r.Perm cs) (o : OkCs cs) : OkCs r := ⟨fun c hc => o.cl c (h.mem_iff.mp hc), by rw [h.length_eq]; exact o.few, by rw [letters_perm h]; exact o.let_⟩
theorem okAs_perm {r cs : List Cl} {b : Bool} (h : r.Perm cs) (o : OkAs cs b) : OkAs r b := ⟨okCs_perm h o.ok, by rw [letters_perm h]; exact o.ten, fun c hc => o.sm c (h.mem_iff.mp hc), by rw [least_perm h]; exact o.due⟩
/-! ### birds -/
theorem bi32 : OkBi 3 2 := by decide +kernel
theorem bi22 : OkBi 2 2 := by decide +kernel
theorem bi43 : OkBi 4 3 := by decide +kernel
theorem as32 : OkAs (birdsC 3 2) true := by decide +kernel
theorem as22 : OkAs (birdsC 2 2) false := by decide +kernel
theorem cs43 : OkCs (birdsC 4 3) ∧ 10 < (lettersW (birdsC 4 3)).length := by decide +kernel
theorem less32 : ∀ c ∈ birdsC 3 2, OkAs ((birdsC 3 2).erase c) false := by decide +kernel
theorem less_as {r : List Cl} (h : r.Perm (birdsC 3 2)) : OkAs (r.drop 1) false := by
  cases r with
  | nil => exact absurd h.length_eq (by decide +kernel)
  | cons c rest =>
    have hm : c ∈ birdsC 3 2 := h.mem_iff.mp (List.mem_cons_self ..)
    have hp : rest.Perm ((birdsC 3 2).erase c) := List.Perm.cons_inv (h.trans (List.perm_cons_erase hm))
    exact okAs_perm hp (less32 c hm)
/-! ### lines, rings -/
theorem li_ok : ∀ d, d < 3 → OkLi (nN (3 + d)) := by decide +kernel
theorem line_ok : ∀ d, d < 3 → ∀ b : Bool, OkAs (lineC (nN (3 + d)) b) (!decide (b = decide ((5 + d) % 2 = 1))) := by decide +kernel
theorem ri_ok : ∀ d, d < 3 → OkRi (3 + d) 2 := by decide +kernel
theorem ring_ok : ∀ d, d < 3 → OkAs (ringC (3 + d) 2) (decide ((3 + d) % 2 = 1)) := by decide +kernel
/-! ### a line cut in two -/
def barC (d : Nat) : List Cl := lineC (nN (3 + d)) (!decide ((5 + d) % 2 = 1))
def onesC (d e : Nat) : List Cl := (barC d).take (3 + 2 * e)
def othsC (d e : Nat) : List Cl := (barC d).drop (3 + 2 * e)
def aE (e : Nat) : Bool := decide ((e + 1) % 2 = 1)
instance decOkB (a b : List Cl) : Decidable (OkB a b) := decidable_of_iff (OkCs a ∧ OkCs b ∧ OkCs (a ++ b)) ⟨fun ⟨x, y, z⟩ => ⟨x, y, z⟩, fun h => ⟨h.one, h.other, h.both⟩⟩
instance decOkIb (p q : List Cl) (x : Str) (a b : Bool) : Decidable (OkIb (p, q, x, a, b)) := decidable_of_iff (OkB p q ∧ isLetter x = true ∧ a ≠ b ∧ x ∈ sharedC p q ∧ (∀ w ∈ whereC p (lettersW p), tellT x a b w = true) ∧ (∀ w ∈ whereC q (lettersW q), tellT x a b w = false))
  ⟨fun ⟨h1, h2, h3, h4, h5, h6⟩ => ⟨h1, h2, h3, h4, h5, h6⟩, fun h => ⟨h.b, h.lx, h.ne, h.sh, h.one, h.other⟩⟩
theorem bar_ok : ∀ d, d < 3 → OkAs (barC d) true := by decide +kernel
theorem cut_b : ∀ d, d < 3 → ∀ e, e < 2 + d → OkB (onesC d e) (othsC d e) := by decide +kernel
theorem cut_sh : ∀ d, d < 3 → ∀ e, e < 2 + d → sharedC (onesC d e) (othsC d e) = [nmN (e + 1)] := by decide +kernel
theorem cut_ib : ∀ d, d < 3 → ∀ e, e < 2 + d → OkIb (onesC d e, othsC d e, nmN (e + 1), aE e, !aE e) := by decide +kernel
theorem cut_m1 : ∀ d, d < 3 → ∀ e, e < 2 + d → ∃ w ∈ whereC (onesC d e) (lettersW (onesC d e)), getD w (nmN (e + 1)) = some (!aE e) := by decide +kernel
theorem cut_m2 : ∀ d, d < 3 → ∀ e, e < 2 + d → ∃ w ∈ whereC (othsC d e) (lettersW (othsC d e)), getD w (nmN (e + 1)) = some (aE e) := by decide +kernel
theorem cut_all (d e : Nat) : onesC d e ++ othsC d e = barC d := List.take_append_drop ..
def asW (wd : Wd) : As := fun y => (getD wd y).getD false
theorem sat_where {cs : List Cl} {ls : List Str} {wd : Wd} (h : wd ∈ whereC cs ls) : ∀ c ∈ cs, satC (asW wd) c := fun c hc => by
  obtain ⟨_, h2⟩ := List.mem_filter.mp h
  have h3 := List.all_eq_true.mp h2 c hc
  obtain ⟨l, hl, e⟩ := List.any_eq_true.mp h3
  exact ⟨l, hl, by unfold asW; rw [of_decide_eq_true e]; rfl⟩
theorem itp_is {ones others : List Cl} {x : Str} {a b : Bool} (h1 : ∃ w ∈ whereC ones (lettersW ones), getD w x = some b) (h2 : ∃ w ∈ whereC others (lettersW others), getD w x = some a) (ne : a ≠ b) (sh : sharedC ones others = [x]) (r : Row) (itp : Itp ones others (lettersW others) [] r) : r = ([x], [a, b]) := by
  obtain ⟨w1, m1, e1⟩ := h1
  obtain ⟨w2, m2, e2⟩ := h2
  have t1 : evalR r (asW w1) = true := by
    rcases itp.i1 _ (sat_where m1) with h | ⟨l, hl, _⟩
    · exact h
    · cases hl
  have t2 : evalR r (asW w2) = false := by
    cases e : evalR r (asW w2) with
    | false => rfl
    | true =>
      obtain ⟨l, hl, _⟩ := itp.i2 _ (sat_where m2) e
      cases hl
  have x1 : asW w1 x = b := by unfold asW; rw [e1]; rfl
  have x2 : asW w2 x = a := by unfold asW; rw [e2]; rfl
  have hsub : ∀ y ∈ r.1, y = x := fun y hy => by
    obtain ⟨s1, c, hc, l, hl, ey⟩ := itp.sub y hy
    have : y ∈ sharedC ones others := List.mem_filter.mpr ⟨by rw [← ey]; exact letter_in hc hl, by simpa using s1⟩
    rw [sh] at this
    exact List.mem_singleton.mp this
  have hnd := up_nodup itp.ok.up
  have hlen := itp.ok.len
  obtain ⟨ls, row⟩ := r
  dsimp only at hsub hnd hlen
  cases ls with
  | nil =>
    have : evalR ([], row) (asW w1) = evalR ([], row) (asW w2) := rfl
    rw [t1, t2] at this
    cases this
  | cons y r2 =>
    have ey := hsub y (List.mem_cons_self ..)
    subst ey
    cases r2 with
    | cons z r3 =>
      have ez := hsub z (by simp)
      subst ez
      simp at hnd
    | nil =>
      match row, hlen with
      | [p, q], _ =>
        have u1 : ([p, q] : List Bool).getD ((if asW w1 y = true then 2 ^ 0 else 0) + 0) false = true := t1
        have u2 : ([p, q] : List Bool).getD ((if asW w2 y = true then 2 ^ 0 else 0) + 0) false = false := t2
        rw [x1] at u1
        rw [x2] at u2
        cases a <;> cases b <;> simp_all
/-! ### the ring's tree -/
def cs8 : List Cl := (ringC 3 2).take 8
theorem ri32 : OkRi 3 2 := by decide +kernel
theorem cs8_ok : OkCs cs8 ∧ cs8 ≠ [] ∧ ∀ c ∈ cs8, c ≠ [] := by decide +kernel
theorem tc8 : OkTc cs8 := ⟨cs8_ok.1, cs8_ok.2.1, cs8_ok.2.2, fun c hc => (cs8_ok.1.cl c hc).few⟩
def okTb : Tr → Bool
  | .lt x => isLetter x
  | .nt t => okTb t
  | .pr _ a b => okTb a && okTb b
theorem okT_of : ∀ {t : Tr}, okTb t = true → okT t
  | .lt x, h => h
  | .nt t, h => okT_of (t := t) h
  | .pr _ a b, h => by
    have h : (okTb a && okTb b) = true := h
    rw [Bool.and_eq_true] at h
    exact ⟨okT_of h.1, okT_of h.2⟩
theorem tree8 : okTb (treeC cs8) = true ∧ sizeT (treeC cs8) ≤ 60 ∧ depT (treeC cs8) ≤ 12 ∧ (lettersT (treeC cs8)).length ≤ 12 := by decide +kernel
theorem tr8 : OkTr2 (treeC cs8) := ⟨⟨okT_of tree8.1, tree8.2.1, tree8.2.2.1⟩, tree8.2.2.2⟩
theorem idx_ok : ∀ d, d < 3 → ∀ e, e < 2 + d → (nN (3 + d))[e + 1]? = some (nmN (e + 1)) ∧ ∀ m, m < e + 1 → (nN (3 + d))[m]? ≠ some (nmN (e + 1)) := by decide +kernel
theorem count8 : (yesP (rowT (treeC cs8)).2).length = ((tW (lettersW cs8)).filter (holdsAll cs8)).length := by decide +kernel
end L97
/-! F97i -/
set_option maxHeartbeats 4000000
namespace L97
open PySem PySem.Spec L2 Pm
section
variable {X : Cx} {A : Own} {Γ : Pr} {σ : L2.St} {a b : Expr} {pos : Pos}
theorem m_addN {ρ : Type} {A' : ρ → Own} {f : ρ → Nat} {Cp : ρ → Prop} {c : Nat} (ha : E3 X A Γ σ a (RI (c : Nat))) (hb : M3 X A Γ σ b A' (fun r v => pP (v = .int (f r) ∧ Cp r))) : M3 X A Γ σ (.BinOp a .Add b pos) A' (fun r v => pP (v = .int ((c + f r : Nat) : Int) ∧ Cp r)) :=
  m_binR op_add ha hb fun q x y H Q ok _ hx hy k => ⟨c, f q, hx, hy.1, k _ _ (Ext.refl ok) ⟨by show V.int _ = V.int _; congr 1, hy.2⟩⟩
theorem m_mulN {ρ : Type} {A' : ρ → Own} {f : ρ → Nat} {Cp : ρ → Prop} {c : Nat} (ha : E3 X A Γ σ a (RI (c : Nat))) (hb : M3 X A Γ σ b A' (fun r v => pP (v = .int (f r) ∧ Cp r))) (hc : ∀ n : Nat, CMul (c : Nat) (n : Nat)) : M3 X A Γ σ (.BinOp a .Mult b pos) A' (fun r v => pP (v = .int ((c * f r : Nat) : Int) ∧ Cp r)) :=
  m_binR op_mul ha hb fun q x y H Q ok _ hx hy k => ⟨c, f q, hx, hy.1, hc _, k _ _ (Ext.refl ok) ⟨by show V.int _ = V.int _; congr 1, hy.2⟩⟩
theorem m_eqN {ρ : Type} {A' : ρ → Own} {f : ρ → Nat} {Cp : ρ → Prop} {c : Nat} (ha : M3 X A Γ σ a A' (fun r v => pP (v = .int (f r) ∧ Cp r))) (hb : ∀ r, E3 X (A' r) Γ σ b (RI (c : Nat))) : M3 X A Γ σ (.Compare a [.Eq] [b] pos) A' (fun r v => pP (v = .bl (decide (f r = c)) ∧ Cp r)) :=
  m_cmpL op_eq (nomark _) ha hb fun q x y H Q ok g hx hy k => by
    obtain ⟨hx, hc⟩ := hx
    have hx : x = .int (f q) := hx
    exact o_eq (x := .int (f q)) (y := .int (c : Nat)) rfl x y H Q ok g hx hy fun v H' e r => k v H' e ⟨by rw [show v = _ from r]; congr 1; simp; omega, hc⟩
end
theorem t_notB {X : Cx} {A : Own} {Γ : Pr} {σ : L2.St} {a b : Expr} {pos : Pos} {s t : Bool} (ha : E3 X A Γ σ a (RB s)) (hb : E3 X A Γ σ b (RB t)) : T3 X A Γ σ (.Compare a [.IsNot] [b] pos) (!decide (s = t)) := t_cmp op_notBl (nomark _) (fun x y H Q ok g rx ry k => ⟨s, t, rx, ry, k _ _ (Ext.refl ok) rfl⟩) ha hb
theorem small_log2 {n : Nat} (h : n < 100) : ((n : Nat) : Int).natAbs.log2 < 1920 := by
  rw [Int.natAbs_natCast]
  exact Nat.lt_of_le_of_lt (Nat.log2_le_self n) (by omega)
theorem nmN_len : ∀ k : Nat, k < 10 → ("n" : Str).length + (Str.ofString (toString ((k : Nat) : Int))).length ≤ 100 := by decide +kernel
structure OkZ (z : List Cl × Bool) : Prop where
  a : OkAs z.1 z.2
section
variable {P : Program} {w : World} {K : PySem.W.Frag} {mg : Str → Option Value} {base : Heap} {C Cg : Addr}
theorem ok_law (T : Tx K mg) (S : Ats K mg) (St : Sto K mg C) (G : PxT P K mg "TooGreat" Cg "most") {f : Addr} {fd : FuncData} (F : FunD K "law" "law" (defArgs slaw) (defBody slaw) (defScope slaw) [] [] f fd) : FnOk P w K mg base CX0 20 f fd ["script"] (spF (fun (d : {ns : List Int // ns.length ≤ 63}) => Pm.PC (RQ K (d.1.map V.int)) PN) fun _ => RB true) := by
  refine fn_mkF F claw (fun d vs G h => len1 h) fun cdv Ar outer s H vs ⟨ns, hns⟩ A G0 D hr hq hn => in1 fun v1 => ?_
  have nd := claw.nd
  refine b_for (δ := L2.St) (sd := fun d => d) (Ad := fun _ => A) (Γd := fun _ => pAnd (pSame G0) (RQ K (ns.map V.int) v1)) (rel := fun i d => ∃ x1 x2 x3 x4 x5 x6 x7 x8 x9 x10 x11 x12 x13 x14 x15 x16 x17 x18 x19 x20 x21, d = [some v1, x1, none, x2, x3, x4, x5, x6, x7, x8, x9, x10, x11, x12, x13, x14, x15, x16, x17, x18, x19, x20, none, x21] ∧ x21 = none) (i_rangeN (m := 3) T.range e_int (by decide)) (tg_name 1) (start nlaw [v1]) ⟨⟨_, _, _, _, _, _, _, _, _, _, _, _, _, _, _, _, _, _, _, _, _, rfl, rfl⟩, rfl, rfl⟩ (fun G h => h) (fun Gd i z d w2 hz hr2 => ?_) (fun d hr2 => ?_)
  · obtain ⟨x1, x2, x3, x4, x5, x6, x7, x8, x9, x10, x11, x12, x13, x14, x15, x16, x17, x18, x19, x20, x21, rfl, rfl⟩ := hr2
    obtain ⟨ez, hi⟩ := range_at hz
    subst ez
    refine B3.v (v := w2) (w := .int (z : Nat)) (fun G h => h.2) fun e1 => ?_
    subst e1
    refine B3.pre (Δ := pAnd (pAnd (pSame G0) (RQ K (ns.map V.int) v1)) Gd) ?_ fun G h => h.1
    refine b_setO 3 (f_c (ok_law_spring T S) hr ⟨(ns, z), hns, hi⟩ (a_cons (e_x 0 (R := RQ K (ns.map V.int)) (h := by exact fun G h => h.1.2)) (a_cons (e_v 1) a_nil))) fun p o => ?_
    refine B3.fact (p := ∃ sa sb : Int, o = .lst [.int sa, .int sb, .int 0] ∧ 0 ≤ sa ∧ 0 ≤ sb ∧ sb < 2147483648) (fun G h => h.2) fun ⟨sa, sb, eo, s1, s2, s3⟩ => ?_
    subst eo
    refine B3.pre (Δ := pAnd (pAnd (pSame G0) (RQ K (ns.map V.int) v1)) Gd) ?_ fun G h => h.1
    refine b_setM 4 (m_addN (c := 3) (f := fun r : Spr × Nat => r.2) (Cp := fun r : Spr × Nat => r.2 < 3 ∧ r.1.p = p ∧ r.1.Ok ∧ r.1.c ≤ 1) e_int (m_call (ok_law_draw T S) hr ⟨(⟨p, sa, sb, 0⟩, 3), ⟨s1, s2, s3⟩, by show 0 < 3; decide, by show 3 < 1000; decide, by show 0 < 1000000; decide⟩ A rfl (a_cons (e_v 3) (a_cons e_int a_nil)))) fun v4 r => ?_
    obtain ⟨⟨p1, a1, b1, c1⟩, d⟩ := r
    refine B3.fact (p := v4 = .int ((3 + d : Nat) : Int) ∧ d < 3 ∧ p1 = p ∧ Spr.Ok ⟨p1, a1, b1, c1⟩ ∧ c1 ≤ 1) (fun G h => h.2) fun ⟨ev, hd, ep, o1, hc1⟩ => ?_
    subst ev ep
    refine B3.pre (Δ := pAnd (pAnd (pSame G0) (RQ K (ns.map V.int) v1)) Gd) ?_ fun G h => h.1
    refine b_parEM 15 16 (Ra := RL RS (nN (3 + d))) (F3.rl (f_lc (own := [("k", 23)]) nmN RS (i_rangeN (m := 3 + d + 2) T.range (E3.imp (e_add (e_v 4) e_int) fun _ _ h => h.2) (by omega)) (tc_name 23) (blkOk_by (N := nlaw) (sc := defScope slaw) (by decide +kernel)) (fun Gd2 q k w' hm s2 H2 C2 cl fp => e_addS e_str (e_strI T.str (e_x 23 (R := RI (k : Nat)) (h := by exact fun G h => h.2)) (small_log2 (by have := List.mem_range.mp hm; omega))) (Nat.le_trans (nmN_len k (by have := List.mem_range.mp hm; omega)) (by rw [sizeLine_eq]; decide))) (by rw [List.length_range, sizeLine_eq]; omega))) (m_eqN (c := 0) (f := fun r : Spr × Nat => r.2) (Cp := fun r : Spr × Nat => r.2 < 2 ∧ r.1.p = p1 ∧ r.1.Ok ∧ r.1.c ≤ c1 + 1) (m_call (ok_law_draw T S) hr ⟨(⟨p1, a1, b1, c1⟩, 2), o1, by show 0 < 2; decide, by show 2 < 1000; decide, by show c1 < 1000000; omega⟩ A rfl (a_cons (e_v 3) (a_cons e_int a_nil))) (fun _ => e_int)) fun v15 r v16 => ?_
    obtain ⟨⟨p2, a2, b2, c2⟩, dd⟩ := r
    refine B3.fact (p := v16 = .bl (decide (dd = 0)) ∧ dd < 2 ∧ p2 = p1 ∧ Spr.Ok ⟨p2, a2, b2, c2⟩ ∧ c2 ≤ c1 + 1) (fun G h => h.2) fun ⟨ev, _, ep, o2, hc2⟩ => ?_
    subst ev ep
    generalize decide (dd = 0) = ob
    refine B3.pre (Δ := pAnd (pAnd (pAnd (pSame G0) (RQ K (ns.map V.int) v1)) Gd) (RL RS (nN (3 + d)) v15)) ?_ fun G h => ⟨h.1.1, h.1.2⟩
    refine b_set 5 (R := RCs (lineC (nN (3 + d)) ob)) (e_c (ok__law_f_line T S) hr ⟨(nN (3 + d), ob), li_ok d hd⟩ (a_cons (e_x 15 (R := RL RS (nN (3 + d))) (h := by exact fun G h => h.2)) (a_cons (e_v 16) a_nil))) fun v5 => ?_
    have hnl : (nN (3 + d)).length = 5 + d := by simp [nN]; omega
    refine b_setV 6 (w := .bl (decide (ob = decide ((5 + d) % 2 = 1)))) (E3.imp (e_eq (x := .bl ob) (y := .bl (decide ((5 + d) % 2 = 1))) (e_v 16) (E3.imp (e_eq (x := .int (((5 + d : Nat) : Int) % 2)) (y := .int 1) (e_mod (E3.imp (e_lenL (R := RS) (xs := nN (3 + d)) T.len (e_x 15 (R := RL RS (nN (3 + d))) (h := by exact fun G h => h.1.2))) fun v G h => by rw [← hnl]; exact h.2) e_int) e_int) (fun v G h => by
      rw [show v = _ from h.2]
      show V.bl _ = V.bl _
      congr 1
      refine decide_eq_decide.mpr ?_
      constructor
      · intro h; have := V.int.inj h; omega
      · intro h; congr 1; omega))) (fun v G h => by rw [show v = _ from h.2]; show V.bl _ = V.bl _; congr 1; simp)) ?_
    have hl0 := line_ok d hd ob
    generalize hln : lineC (nN (3 + d)) ob = line at hl0
    generalize decide (ob = decide ((5 + d) % 2 = 1)) = hol at hl0
    have hzs : ∀ z2 ∈ [(birdsC 3 2, true), (birdsC 2 2, false), (line, !hol), (ringC (3 + d) 2, decide ((3 + d) % 2 = 1))], OkAs z2.1 z2.2 := fun z2 hz2 => by
      simp only [List.mem_cons, List.not_mem_nil, or_false] at hz2
      rcases hz2 with rfl | rfl | rfl | rfl
      · exact as32
      · exact as22
      · exact hl0
      · exact ring_ok d hd
    refine b_for (δ := Spr × Option V × Option V × Option V) (sd := fun q => [some v1, some (.int (z : Nat)), none, some (.ref p2), some (.int ((3 + d : Nat) : Int)), some v5, some (.bl hol), x6, x7, x8, x9, x10, x11, x12, x13, some v15, some (.bl ob), q.2.1, q.2.2.1, q.2.2.2, x19, x20, none, none]) (Ad := fun q => q.1.own ++ A) (Γd := fun _ => pAnd (pAnd (pAnd (pSame G0) (RQ K (ns.map V.int) v1)) Gd) (RL RS (nN (3 + d)) v15)) (rel := fun i q => q.1.p = p2 ∧ q.1.Ok ∧ q.1.c ≤ 2 + 300 * i) (i_list (P := RT2 RCs RB) (xs := [(birdsC 3 2, true), (birdsC 2 2, false), (line, !hol), (ringC (3 + d) 2, decide ((3 + d) % 2 = 1))]) (F3.rl (f_four (T := RT2 RCs RB)
        (e_tup2 (R1 := RCs) (R2 := RB) (x := birdsC 3 2) (y := true) (e_c (ok__law_f_birds T S) hr ⟨(3, 2), bi32⟩ (a_cons e_int (a_cons e_int a_nil))) e_bl)
        (e_tup2 (R1 := RCs) (R2 := RB) (x := birdsC 2 2) (y := false) (e_c (ok__law_f_birds T S) hr ⟨(2, 2), bi22⟩ (a_cons e_int (a_cons e_int a_nil))) e_bl)
        (e_tup2 (R1 := RCs) (R2 := RB) (x := line) (y := !hol) (e_x 5 (R := RCs line) (h := by exact fun G h => hln ▸ h.2)) (e_not (t := hol) (e_v 6)))
        (e_tup2 (R1 := RCs) (R2 := RB) (x := ringC (3 + d) 2) (y := decide ((3 + d) % 2 = 1)) (e_c (ok__law_f_ring T S) hr ⟨(3 + d, 2), ri_ok d hd⟩ (a_cons (e_v 4) (a_cons e_int a_nil))) (E3.imp (e_eq (x := .int (((3 + d : Nat) : Int) % 2)) (y := .int 1) (e_mod (e_v 4) e_int) e_int) (fun v G h => by
          rw [show v = _ from h.2]
          show V.bl _ = V.bl _
          congr 1
          refine decide_eq_decide.mpr ?_
          constructor
          · intro h; have := V.int.inj h; omega
          · intro h; congr 1; omega)))))) (tg_pair (R1 := RCs) (R2 := RB) 17 18) (⟨p2, a2, b2, c2⟩, x16, x17, x18) ⟨⟨rfl, o2, by dsimp only; omega⟩, rfl, rfl⟩ (fun G h => h.1) (fun Gd2 j z2 q w3 hz2 hr3 => ?_) (fun q hr3 => ?_)
    · obtain ⟨⟨p3, a3, b3, c3⟩, y1, y2, y3⟩ := q
      obtain ⟨cs, due⟩ := z2
      obtain ⟨w17, w18⟩ := w3
      obtain ⟨ep, o3, hc3⟩ := hr3
      dsimp only at ep hc3 ⊢
      subst ep
      have hj := get_lt hz2
      have hj : j < 4 := hj
      have has := hzs _ (List.mem_of_getElem? hz2)
      dsimp only at has
      have hfew := has.ok.few
      refine B3.pre (Δ := pAnd (pAnd (pAnd (pAnd (pSame G0) (RQ K (ns.map V.int) v1)) Gd) (pAnd (RL RS (nN (3 + d)) v15) Gd2)) (pAnd (RCs cs w17) (RB due w18))) ?_ fun G h => ⟨⟨h.1.1.1, h.1.1.2, h.1.2⟩, h.2⟩
      refine B3.v (v := w18) (w := .bl due) (fun G h => h.2.2) fun e1 => ?_
      subst e1
      refine b_setM 19 (m_call (ok_law_mixed T S) hr ⟨(⟨p3, a3, b3, c3⟩, cs), o3, by dsimp only; omega, by dsimp only; omega⟩ A rfl (a_cons (e_v 3) (a_cons (e_x 17 (R := RCs cs) (h := by exact fun G h => h.2.1)) a_nil))) fun v19 r => ?_
      obtain ⟨⟨p4, a4, b4, c4⟩, mixed⟩ := r
      refine B3.fact (p := mixed.Perm cs ∧ p4 = p3 ∧ Spr.Ok ⟨p4, a4, b4, c4⟩ ∧ c4 ≤ c3 + cs.length) (fun G h => h.2.1) fun ⟨hpm, ep, o4, hc4⟩ => ?_
      subst ep
      refine b_when (t_not (t_of (e_c (ok__law_f_asked T S) hr ⟨(mixed, due), okAs_perm hpm has⟩ (a_cons (E3.imp (R := RAny) (e_v 3) fun _ _ _ => trivial) (a_cons (e_x 19 (R := RCs mixed) (h := by exact fun G h => h.2.2)) (a_cons (e_v 18) a_nil)))))) (fun e => absurd e (by decide)) fun _ => ?_
      refine b_fin rfl (⟨p4, a4, b4, c4⟩, some w17, some (.bl due), some v19) ⟨rfl, o4, by dsimp only; omega⟩ rfl rfl fun G h => ⟨⟨h.1.1.1, h.1.1.2.1⟩, h.1.1.2.2⟩
    · obtain ⟨⟨p3, a3, b3, c3⟩, y1, y2, y3⟩ := q
      obtain ⟨ep, o3, hc3⟩ := hr3
      dsimp only at ep hc3 ⊢
      subst ep
      have hc3 : c3 ≤ 2 + 300 * 4 := hc3
      have hbl : (birdsC 3 2).length = 9 := by decide +kernel
      refine b_setM 7 (m_from (α := Cl) (T := RCl) (xs := fun r : Spr × List Cl => r.2) (Cp := fun r : Spr × List Cl => r.2.Perm (birdsC 3 2) ∧ r.1.p = p3 ∧ r.1.Ok ∧ r.1.c ≤ c3 + (birdsC 3 2).length) 1 (m_call (ok_law_mixed T S) hr ⟨(⟨p3, a3, b3, c3⟩, birdsC 3 2), o3, by show (birdsC 3 2).length < 500; omega, by show c3 + (birdsC 3 2).length < 1000000; omega⟩ A rfl (a_cons (e_v 3) (a_cons (e_c (ok__law_f_birds T S) hr ⟨(3, 2), bi32⟩ (a_cons e_int (a_cons e_int a_nil))) a_nil))) (fun _ => e_int) rfl) fun v7 r => ?_
      obtain ⟨⟨p4, a4, b4, c4⟩, mixed⟩ := r
      refine B3.fact (p := mixed.Perm (birdsC 3 2) ∧ p4 = p3 ∧ Spr.Ok ⟨p4, a4, b4, c4⟩ ∧ c4 ≤ c3 + (birdsC 3 2).length) (fun G h => h.2.1) fun ⟨hpm, ep, o4, hc4⟩ => ?_
      subst ep
      refine b_when (t_not (t_of (e_c (ok__law_f_asked T S) hr ⟨(mixed.drop 1, false), less_as hpm⟩ (a_cons (E3.imp (R := RAny) (e_v 3) fun _ _ _ => trivial) (a_cons (e_x 7 (R := RCs (mixed.drop 1)) (h := by exact fun G h => h.2.2)) (a_cons e_bl a_nil)))))) (fun e => absurd e (by decide)) fun _ => ?_
      refine B3.pre (Δ := pAnd (pAnd (pAnd (pSame G0) (RQ K (ns.map V.int) v1)) Gd) (RL RS (nN (3 + d)) v15)) ?_ fun G h => h.1
      refine b_set 8 (R := RCs (barC d)) (e_c (ok__law_f_line T S) hr ⟨(nN (3 + d), !decide ((5 + d) % 2 = 1)), li_ok d hd⟩ (a_cons (e_x 15 (R := RL RS (nN (3 + d))) (h := by exact fun G h => h.2)) (a_cons (e_not (t := decide ((5 + d) % 2 = 1)) (E3.imp (e_eq (x := .int (((5 + d : Nat) : Int) % 2)) (y := .int 1) (e_mod (E3.imp (e_lenL (R := RS) (xs := nN (3 + d)) T.len (e_x 15 (R := RL RS (nN (3 + d))) (h := by exact fun G h => h.2))) fun v G h => by rw [← hnl]; exact h.2) e_int) e_int) (fun v G h => by
        rw [show v = _ from h.2]
        show V.bl _ = V.bl _
        congr 1
        refine decide_eq_decide.mpr ?_
        constructor
        · intro h; have := V.int.inj h; omega
        · intro h; congr 1; omega))) a_nil))) fun v8 => ?_
      refine b_setM 9 (m_addN (c := 2) (f := fun r : Spr × Nat => 2 * (1 + r.2)) (Cp := fun r : Spr × Nat => r.2 < 2 + d ∧ r.1.p = p4 ∧ r.1.Ok ∧ r.1.c ≤ c4 + 1) e_int (m_mulN (c := 2) (f := fun r : Spr × Nat => 1 + r.2) e_int (m_addN (c := 1) (f := fun r : Spr × Nat => r.2) e_int (m_call (ok_law_draw T S) hr ⟨(⟨p4, a4, b4, c4⟩, 2 + d), o4, by dsimp only; omega, by dsimp only; omega, by dsimp only; omega⟩ A rfl (a_cons (e_v 3) (a_cons (E3.imp (R := RI ((2 + d : Nat) : Int)) (e_sub (e_v 4) e_int) fun v G h => by rw [show v = _ from h.2]; show V.int _ = V.int _; congr 1; omega) a_nil)))) (fun n => .inl (by decide)))) fun v9 r => ?_
      obtain ⟨⟨p5, a5, b5, c5⟩, e⟩ := r
      refine B3.fact (p := v9 = .int ((2 + 2 * (1 + e) : Nat) : Int) ∧ e < 2 + d) (fun G h => ⟨h.2.1, h.2.2.1⟩) fun ⟨ev, he⟩ => ?_
      subst ev
      refine b_let (p := p5) (o := .lst [.int a5, .int b5, .int (c5 : Nat)]) ?_
      refine B3.pre (Δ := pAnd (pAnd (pAnd (pAnd (pSame G0) (RQ K (ns.map V.int) v1)) Gd) (RL RS (nN (3 + d)) v15)) (RCs (barC d) v8)) ?_ fun G h => h.1.1
      have hcut : (((2 + 2 * (1 + e) : Nat) : Int)) - 1 = ((3 + 2 * e : Nat) : Int) := by omega
      refine b_tupEE 20 21 (Ra := RCs (onesC d e)) (Rb := RCs (othsC d e)) (F3.rl (f_to (T := RCl) (xs := barC d) (3 + 2 * e) (e_x 8 (R := RCs (barC d)) (h := by exact fun G h => h.2)) (e_sub (e_v 9) e_int) hcut)) (F3.rl (f_from (T := RCl) (xs := barC d) (3 + 2 * e) (e_x 8 (R := RCs (barC d)) (h := by exact fun G h => h.2)) (e_sub (e_v 9) e_int) hcut)) fun v20 v21 => ?_
      refine B3.pre (Δ := pAnd (pAnd (pAnd (pAnd (pAnd (pSame G0) (RQ K (ns.map V.int) v1)) Gd) (RL RS (nN (3 + d)) v15)) (RCs (onesC d e) v20)) (RCs (othsC d e) v21)) ?_ fun G h => ⟨⟨h.1.1.1, h.1.2⟩, h.2⟩
      have hb := cut_b d hd e he
      have hsh := cut_sh d hd e he
      have hib := cut_ib d hd e he
      have hneq : ∀ b : Bool, b ≠ !b := by decide
      have hbt : ∀ (ss : List Stp) (res : List Cl), OkPf (onesC d e ++ othsC d e) ss res → res.getLast? = some [] → OkBt (onesC d e, othsC d e, ss, res, nmN (e + 1), aE e, !aE e) := fun ss res h1 h2 => ⟨hb, h1, h2, hneq (aE e), itp_is (cut_m1 d hd e he) (cut_m2 d hd e he) (hneq (aE e)) hsh⟩
      have hbar : OkAs (onesC d e ++ othsC d e) true := by rw [cut_all]; exact bar_ok d hd
      have hidx := idx_ok d hd e he
      have hae : aE e = decide ((e + 1) % 2 = 1) := rfl
      have hl1 := hb.one.few
      have hl2 := hb.other.few
      generalize onesC d e = ones at hb hsh hib hbt hbar hl1 hl2
      generalize othsC d e = others at hb hsh hib hbt hbar hl1 hl2
      generalize nmN (e + 1) = x at hsh hib hbt hidx
      generalize aE e = tt at hib hbt hae
      have hL : leastP (ones ++ others) = none := Option.isNone_iff_eq_none.mp hbar.due
      refine b_set 10 (R := upOut (ones ++ others)) (e_c (ok_refute_up T S) hr ⟨ones ++ others, hbar.ok, hbar.ten⟩ (a_cons (F3.rl (f_cat (T := RCl) (xs := ones) (ys := others) (e_x 20 (R := RCs ones) (h := by exact fun G h => h.1.2)) (e_x 21 (R := RCs others) (h := by exact fun G h => h.2)) (by rw [sizeLine_eq]; omega))) a_nil)) fun v10 => ?_
      unfold upOut
      rw [hL]
      dsimp only
      refine B3.ex fun ss => ?_
      refine B3.ex fun res => ?_
      refine B3.fact (p := OkPf (ones ++ others) ss res ∧ res.getLast? = some []) (fun G h => h.2.1) fun ⟨hpf, hla⟩ => ?_
      refine B3.pre (Δ := pAnd (pAnd (pAnd (pAnd (pAnd (pAnd (pSame G0) (RQ K (ns.map V.int) v1)) Gd) (RL RS (nN (3 + d)) v15)) (RCs ones v20)) (RCs others v21)) (RT2 RS (RL RStp) (("proof" : Str), ss) v10)) ?_ fun G h => ⟨h.1, h.2.2⟩
      refine b_setLcF 11 (own := [("letter", 22)]) (fun x => decide (x ∈ lettersW others)) (fun x : Str => x) RS (i_list (P := RS) (xs := lettersW ones) (e_c (ok_clause_letters T S) hr ⟨ones, hb.one⟩ (a_cons (e_x 20 (R := RCs ones) (h := by exact fun G h => h.1.1.2)) a_nil))) (tc_name 22) (blkOk_by (N := nlaw) (sc := defScope slaw) (by decide +kernel)) (fun Gd2 q y w' hm s2 H2 C2 cl fp => t_inL (e_x 22 (R := RS y) (h := by exact fun G h => h.2)) (e_c (ok_clause_letters T S) hr ⟨others, hb.other⟩ (a_cons (e_x 21 (R := RCs others) (h := by exact fun G h => h.1.1.1.2)) a_nil))) (fun Gd2 q y w' hm _ s2 H2 C2 cl fp => e_x 22 (R := RS y) (h := by exact fun G h => h.2)) (by have := hb.one.let_; rw [sizeLine_eq]; omega) (by intro _; rfl) fun v11 => ?_
      rw [List.map_id', show (lettersW ones).filter (fun x => decide (x ∈ lettersW others)) = sharedC ones others from rfl, hsh]
      refine b_when (t_or (t_ne (x := .str "proof") (y := .str "proof") (e_fst (R1 := RS) (R2 := RL RStp) (x := (("proof" : Str), ss)) (e_x 10 (R := RT2 RS (RL RStp) (("proof" : Str), ss)) (h := by exact fun G h => h.1.2))) e_str) fun _ => t_ne (x := .int ((([x] : List Str).length : Nat) : Int)) (y := .int 1) (e_lenL (R := RS) (xs := [x]) T.len (e_x 11 (R := RL RS [x]) (h := by exact fun G h => h.2))) e_int) (fun e => by simp at e) fun _ => ?_
      refine b_set 12 (R := RTab (2, [trV x tt (!tt)])) (e_c (ok_between_by T S St) hr ⟨(ones, others, ss, res, x, tt, !tt), hbt ss res hpf hla⟩ (a_cons (e_x 20 (R := RCs ones) (h := by exact fun G h => h.1.1.1.2)) (a_cons (e_x 21 (R := RCs others) (h := by exact fun G h => h.1.1.2)) (a_cons (e_snd (R1 := RS) (R2 := RL RStp) (x := (("proof" : Str), ss)) (e_x 10 (R := RT2 RS (RL RStp) (("proof" : Str), ss)) (h := by exact fun G h => h.1.2))) a_nil)))) fun v12 => ?_
      refine b_setV 13 (w := .int ((e + 1 : Nat) : Int)) (e_idx (xs := nN (3 + d)) (x := x) (j := e + 1) (e_x 15 (R := RL RS (nN (3 + d))) (h := by exact fun G h => h.1.1.1.1.1.2)) (e_atL (R := RS) (xs := [x]) 0 (e_x 11 (R := RL RS [x]) (h := by exact fun G h => h.1.2)) e_int rfl rfl) hidx.1 hidx.2) ?_
      have sh0 : ∀ {Γ' : Pr} {p1 p2 : Pos} {kk : Nat} {σ' : L2.St}, σ'[11]? = some (some v11) → Γ'.le (RL RS [x] v11) → E3 (cxOf CX0 P w K mg base nlaw (Str.ofString "law") (defScope slaw) f cdv Ar outer s H E0).nox A Γ' σ' (.Subscript (.Name "shared" p1) (.Constant (.int 0) kk p2) p1) (RS x) := fun hσ hΓ => e_atL (R := RS) (xs := [x]) 0 (e_var 11 (R := RL RS [x]) hΓ hσ) e_int rfl rfl
      refine b_when (t_or (t_not (t_of (e_c (same_tab T S x tt (!tt)) hr () (a_cons (e_x 12 (R := RTab (2, [trV x tt (!tt)])) (h := by exact fun G h => h.2)) (a_cons (e_tup2 (R1 := RI) (R2 := RL RP) (x := (2 : Int)) (y := [trV x tt (!tt)]) e_int (e_if (t := !tt) ((t_eq (x := .int (((e + 1 : Nat) : Int) % 2)) (y := .int 0) (e_mod (e_v 13) e_int) e_int).eq (by
          rw [hae]
          rcases Nat.mod_two_eq_zero_or_one (e + 1) with h | h
          · have h2 : ((e + 1 : Nat) : Int) % 2 = 0 := by omega
            rw [h2, h]
            decide
          · have h2 : ((e + 1 : Nat) : Int) % 2 = 1 := by omega
            rw [h2, h]
            decide)) (fun et => F3.rl (f_one (T := RP) (x := trV x tt (!tt)) (by
          have et : tt = false := by simpa using et
          subst et
          exact e_tupP (vs := [.str x, .int 0, .int 1]) (av_cons (e_atL (R := RS) (xs := [x]) 0 (e_x 11 (R := RL RS [x]) (h := by exact fun G h => h.1.2)) e_int rfl rfl) (av_cons e_int (av_cons e_int av_nil))) (by show 3 ≤ 1000; decide)))) (fun et => F3.rl (f_one (T := RP) (x := trV x tt (!tt)) (by
          have et : tt = true := by simpa using et
          subst et
          exact e_tupP (vs := [.str x, .int 1, .int 0]) (av_cons (e_atL (R := RS) (xs := [x]) 0 (e_x 11 (R := RL RS [x]) (h := by exact fun G h => h.1.2)) e_int rfl rfl) (av_cons e_int (av_cons e_int av_nil))) (by show 3 ≤ 1000; decide)))))) a_nil))))) fun _ => (t_notB (s := true) (t := true) (e_c (ok_is_between_by T S St) hr ⟨(ones, others, x, tt, !tt), hib⟩ (a_cons (e_x 20 (R := RCs ones) (h := by exact fun G h => h.1.1.1.1.2)) (a_cons (e_x 21 (R := RCs others) (h := by exact fun G h => h.1.1.1.2)) (a_cons (e_x 12 (R := RTab (2, [trV x tt (!tt)])) (h := by exact fun G h => h.2)) a_nil)))) e_bl)) (fun e => absurd e (by decide)) fun _ => ?_
      have hr8 : ∀ {Γ' : Pr} {σ' : L2.St} {p1 p2 p3 p4 p5 p6 p7 : Pos} {k1 k2 k3 : Nat}, E3 (cxOf CX0 P w K mg base nlaw (Str.ofString "law") (defScope slaw) f cdv Ar outer s H E0).nox A Γ' σ' (.Subscript (.Call (.Name "_law_f_ring" p1) [.Constant (.int 3) k1 p2, .Constant (.int 2) k2 p3] [] p4) (.Slice none (some (.Constant (.int 8) k3 p5)) none p6) p7) (RCs cs8) := F3.rl (f_to (T := RCl) (xs := ringC 3 2) 8 (e_c (ok__law_f_ring T S) hr ⟨(3, 2), ri32⟩ (a_cons e_int (a_cons e_int a_nil))) e_int rfl)
      refine b_set 14 (R := RTr (treeC cs8)) (e_c (ok_clauses_tree T S) hr ⟨cs8, tc8⟩ (a_cons hr8 a_nil)) fun v14 => ?_
      have hfew8 := cs8_ok.1.few
      refine b_when ((t_ne (x := .int ((yesP (rowT (treeC cs8)).2).length : Nat)) (y := .int (((tW (lettersW cs8)).filter (holdsAll cs8)).length : Nat)) (e_c (ok_world_count T S) hr ⟨treeC cs8, tr8⟩ (a_cons (F3.rl f_nil) (a_cons (e_x 14 (R := RTr (treeC cs8)) (h := by exact fun G h => h.2)) a_nil))) (e_lenL (R := RW) (xs := (tW (lettersW cs8)).filter (holdsAll cs8)) T.len (e_c (ok_law_l_worlds T S) hr ⟨(cs8, lettersW cs8), lettersW_nodup cs8, cs8_ok.1.let_, by dsimp only; omega, tc8.sm, fun c hc l hl => letter_in hc hl⟩ (a_cons hr8 (a_cons (e_c (ok_law_l_letters T S) hr ⟨cs8, by have := cs8_ok.1.let_; omega, tc8.sm⟩ (a_cons hr8 a_nil)) a_nil))))).eq (t' := false) (by rw [count8]; simp)) (fun e => absurd e (by decide)) fun _ => ?_
      refine b_fin rfl _ ⟨_, _, _, _, _, _, _, _, _, _, _, _, _, _, _, _, _, _, _, _, _, rfl, rfl⟩ rfl rfl fun G h => ⟨h.1.1.1.1.1.1.1.1, h.1.1.1.1.1.1.1.2⟩
  · obtain ⟨x1, x2, x3, x4, x5, x6, x7, x8, x9, x10, x11, x12, x13, x14, x15, x16, x17, x18, x19, x20, x21, rfl, rfl⟩ := hr2
    refine b_tryE (i := 2) G (ok_refute_upX T S G) hr ⟨birdsC 4 3, cs43⟩ (fun pn xe => a_cons (e_c (ok__law_f_birds T S) hr ⟨(4, 3), bi43⟩ (a_cons e_int (a_cons e_int a_nil))) a_nil) (fun vs G h => h.2) (fun ax dx oe pn hz hf => ?_)
    obtain ⟨vs2, hvs⟩ := hf
    have hot : L2H.HotC ((cxOf CX0 P w K mg base nlaw (Str.ofString "law") (defScope slaw) f cdv Ar outer s H E0).nox.suite ax ((ax, oe) :: pn)) := ⟨(ax, oe), ⟨rfl, vs2, hvs, hz.2.2 vs2 hvs⟩, List.mem_cons_self ..⟩
    exact b_rt (Γ := pAnd (pAnd (pSame G0) (RQ K (ns.map V.int) v1)) (pAt dx (.xd [("most", .int 10)]))) hq (e_cH (same_hot T S) ⟨(L2H.roomH_of (hr.mono (by decide : 1 ≤ 19))).dp, (L2H.roomH_of (hr.mono (by decide : 1 ≤ 19))).un⟩ hot () (a_cons (e_byPx (v := .int 10) G hz ⟨vs2, hvs⟩ (e_v 2) (by exact fun G h => h.2)) (a_cons e_int a_nil)))
end
end L97
/-! N97 -/
set_option maxHeartbeats 4000000
namespace L97h
open PySem PySem.Spec PyProof.Rows L2 He HkZ L97 Pm
section
variable {P : Program} {w : World} {K : PySem.W.Frag} {h : Heap} {mg : Str → Option Value} (X : K.In h) (G : h.Ns mainGlobals mg) (c : SaysZ F K)
include X G c
theorem atOf (i j : Nat) {x : Str} {st : Stmt} (h1 : F.fn[i]? = some (dF x st)) (h2 : F.fa[j]? = some (.glo x)) : At K mg x st := by
  obtain ⟨fd, D⟩ := c.def_ i h1
  exact ⟨ga K x, fd, D, glo_ok X G (c.fact j h2)⟩
theorem lsOf (i j : Nat) {x : Str} {xs : List Str} (h1 : F.ls[i]? = some (x, xs.map Dv.str)) (h2 : F.fa[j]? = some (.glo x)) : ∃ a, mg x = some (.ref a) ∧ ∀ H, SqL K H a (xs.map V.str) := by
  refine ⟨ga K x, glo_ok X G (c.fact j h2), fun H => ?_⟩
  have z := lstB_ok (c.lst i h1) H
  rw [List.map_map] at z
  exact z
theorem ats : L97.Ats K mg where
  dis_integer := atOf X G c 0 0 rfl rfl
  dis_between := atOf X G c 1 1 rfl rfl
  dis_list := atOf X G c 2 2 rfl rfl
  dis_name := atOf X G c 3 3 rfl rfl
  dis_letter := atOf X G c 4 4 rfl rfl
  dparts_of := atOf X G c 5 5 rfl rfl
  dis_head := atOf X G c 6 6 rfl rfl
  dis_within := atOf X G c 7 7 rfl rfl
  dis_tree := atOf X G c 8 8 rfl rfl
  dall_nodes := atOf X G c 9 9 rfl rfl
  dall_names := atOf X G c 10 10 rfl rfl
  dcheck_tree := atOf X G c 11 11 rfl rfl
  dis_line := atOf X G c 12 12 rfl rfl
  dis_book := atOf X G c 13 13 rfl rfl
  dunlike := atOf X G c 14 14 rfl rfl
  dleaf_kind := atOf X G c 15 15 rfl rfl
  dpaired_kind := atOf X G c 16 16 rfl rfl
  dkind_of := atOf X G c 17 17 rfl rfl
  dkinds_of_book := atOf X G c 18 18 rfl rfl
  dcheck_book := atOf X G c 19 19 rfl rfl
  dkind_up := atOf X G c 20 20 rfl rfl
  dletters_of := atOf X G c 21 21 rfl rfl
  djoin := atOf X G c 22 22 rfl rfl
  dis_truths := atOf X G c 23 23 rfl rfl
  dis_of := atOf X G c 24 24 rfl rfl
  dworld_at_place := atOf X G c 25 25 rfl rfl
  dspread := atOf X G c 26 26 rfl rfl
  dhalves := atOf X G c 27 27 rfl rfl
  djoined_row := atOf X G c 28 28 rfl rfl
  dbound_row := atOf X G c 29 29 rfl rfl
  drow_in := atOf X G c 30 30 rfl rfl
  dlines_needed := atOf X G c 31 31 rfl rfl
  drows_of_book := atOf X G c 32 32 rfl rfl
  dwhole_row := atOf X G c 33 33 rfl rfl
  dis_literal := atOf X G c 34 34 rfl rfl
  dis_clause := atOf X G c 35 35 rfl rfl
  dletters_within := atOf X G c 36 36 rfl rfl
  dare_clauses := atOf X G c 37 37 rfl rfl
  dcheck_clauses := atOf X G c 38 38 rfl rfl
  dclause_letters := atOf X G c 39 39 rfl rfl
  dholds_in := atOf X G c 40 40 rfl rfl
  dclauses_hold := atOf X G c 41 41 rfl rfl
  dliteral_tree := atOf X G c 42 42 rfl rfl
  djoined_trees := atOf X G c 43 43 rfl rfl
  dclauses_tree := atOf X G c 44 44 rfl rfl
  dmet := atOf X G c 45 45 rfl rfl
  dtold_clause := atOf X G c 46 46 rfl rfl
  dstepped := atOf X G c 47 47 rfl rfl
  dclauses_along := atOf X G c 48 48 rfl rfl
  dis_proof := atOf X G c 49 49 rfl rfl
  dproof_clauses := atOf X G c 50 50 rfl rfl
  dbroken_clause := atOf X G c 51 51 rfl rfl
  drefuted := atOf X G c 52 52 rfl rfl
  drefute_up := atOf X G c 53 53 rfl rfl
  dshorter_proof := atOf X G c 54 54 rfl rfl
  dmoved_step := atOf X G c 55 55 rfl rfl
  dis_triple := atOf X G c 56 56 rfl rfl
  dletters_rise := atOf X G c 57 57 rfl rfl
  drow_letters := atOf X G c 58 58 rfl rfl
  dis_table := atOf X G c 59 59 rfl rfl
  dtruth_by := atOf X G c 60 60 rfl rfl
  dtable_by_row := atOf X G c 61 61 rfl rfl
  dcheck_both := atOf X G c 62 62 rfl rfl
  dshared_letters := atOf X G c 63 63 rfl rfl
  dworlds_where := atOf X G c 64 64 rfl rfl
  dis_between_by := atOf X G c 65 65 rfl rfl
  dclause_row := atOf X G c 66 66 rfl rfl
  drows_along := atOf X G c 67 67 rfl rfl
  dbetween_by := atOf X G c 68 68 rfl rfl
  dyes_places := atOf X G c 69 69 rfl rfl
  dworld_count := atOf X G c 70 70 rfl rfl
  d_law_spring := atOf X G c 71 71 rfl rfl
  d_law_draw := atOf X G c 72 72 rfl rfl
  d_law_mixed := atOf X G c 73 73 rfl rfl
  d_law_same := atOf X G c 74 74 rfl rfl
  d_law_t_worlds := atOf X G c 75 75 rfl rfl
  d_law_l_letters := atOf X G c 76 76 rfl rfl
  d_law_l_hold := atOf X G c 77 77 rfl rfl
  d_law_l_met := atOf X G c 78 78 rfl rfl
  d_law_l_worlds := atOf X G c 79 79 rfl rfl
  d_law_l_along := atOf X G c 80 80 rfl rfl
  d_law_l_index := atOf X G c 81 81 rfl rfl
  d_law_l_proof := atOf X G c 82 82 rfl rfl
  d_law_f_birds := atOf X G c 83 83 rfl rfl
  d_law_f_odd := atOf X G c 84 84 rfl rfl
  d_law_f_line := atOf X G c 85 85 rfl rfl
  d_law_f_ring := atOf X G c 86 86 rfl rfl
  d_law_f_asked := atOf X G c 87 87 rfl rfl
  dlaw := atOf X G c 88 88 rfl rfl
theorem txs : L97.Tx K mg where
  all := free_ok X G (c.fact 89 (f := .free "all") rfl)
  any := free_ok X G (c.fact 90 (f := .free "any") rfl)
  bool := free_ok X G (c.fact 91 (f := .free "bool") rfl)
  dict := free_ok X G (c.fact 92 (f := .free "dict") rfl)
  enumerate := free_ok X G (c.fact 93 (f := .free "enumerate") rfl)
  int := free_ok X G (c.fact 94 (f := .free "int") rfl)
  isinstance := free_ok X G (c.fact 95 (f := .free "isinstance") rfl)
  len := free_ok X G (c.fact 96 (f := .free "len") rfl)
  list := free_ok X G (c.fact 97 (f := .free "list") rfl)
  range := free_ok X G (c.fact 98 (f := .free "range") rfl)
  reversed := free_ok X G (c.fact 99 (f := .free "reversed") rfl)
  sorted := free_ok X G (c.fact 100 (f := .free "sorted") rfl)
  str := free_ok X G (c.fact 101 (f := .free "str") rfl)
  super := free_ok X G (c.fact 102 (f := .free "super") rfl)
  tuple := free_ok X G (c.fact 103 (f := .free "tuple") rfl)
  zip := free_ok X G (c.fact 104 (f := .free "zip") rfl)
  cLETTERS := str_ok X G (c.fact 105 (f := .str "LETTERS" "abcdefghijklmnopqrstuvwxyz") rfl)
  cSIGNS := str_ok X G (c.fact 106 (f := .str "SIGNS" "abcdefghijklmnopqrstuvwxyz0123456789") rfl)
  cWORDS := lsOf X G c 0 107 rfl rfl
  cPAIRED := lsOf X G c 1 108 rfl rfl
  cBOUND := lsOf X G c 2 109 rfl rfl
  cPLAIN := lsOf X G c 3 110 rfl rfl
  cTWELVE_trees := int_ok X G (c.fact 111 (f := .int "TWELVE_trees" 12) rfl)
  cFORTY := int_ok X G (c.fact 112 (f := .int "FORTY" 40) rfl)
  cSIXTY_trees := int_ok X G (c.fact 113 (f := .int "SIXTY_trees" 60) rfl)
  cMOST := int_ok X G (c.fact 114 (f := .int "MOST" 12) rfl)
  cMANY := int_ok X G (c.fact 115 (f := .int "MANY" 300) rfl)
  cTWELVE_clauses := int_ok X G (c.fact 116 (f := .int "TWELVE_clauses" 12) rfl)
  cTEN := int_ok X G (c.fact 117 (f := .int "TEN" 10) rfl)
  cLONG := int_ok X G (c.fact 118 (f := .int "LONG" 9000) rfl)
  cTHOUSAND := int_ok X G (c.fact 119 (f := .int "THOUSAND" 1000) rfl)
  cSIXTY_tables := int_ok X G (c.fact 120 (f := .int "SIXTY_tables" 60) rfl)
theorem sto : L97.Sto K mg (ga K "Store") where
  gC := glo_ok X G (c.fact 121 (f := .glo "Store") rfl)
  cls := cls_ok (c.fact 122 (f := .cls "Store") rfl)
  nT := noat_ok (c.fact 129 (f := .noat "Store" "triples") rfl)
  nN := noat_ok (c.fact 130 (f := .noat "Store" "numbers") rfl)
  nF := noat_ok (c.fact 131 (f := .noat "Store" "found") rfl)
  ini := by
    obtain ⟨fd, D⟩ := c.def_ 89 (d := dM "Store" "__init__" "Store.__init__" sStore___init__) rfl
    exact ⟨ma K (ga K "Store") "__init__", fd, D, mkr_ok (c.fact 123 (f := .mkr "Store") rfl)⟩
  add := by
    obtain ⟨fd, D⟩ := c.def_ 90 (d := dM "Store" "add_row" "Store.add_row" sStore_add_row) rfl
    exact ⟨ma K (ga K "Store") "add_row", fd, D, meth_ok (c.fact 124 (f := .meth "Store" "add_row") rfl)⟩
  ttab := by
    obtain ⟨fd, D⟩ := c.def_ 91 (d := dM "Store" "take_table" "Store.take_table" sStore_take_table) rfl
    exact ⟨ma K (ga K "Store") "take_table", fd, D, meth_ok (c.fact 125 (f := .meth "Store" "take_table") rfl)⟩
  ttru := by
    obtain ⟨fd, D⟩ := c.def_ 92 (d := dM "Store" "take_truths" "Store.take_truths" sStore_take_truths) rfl
    exact ⟨ma K (ga K "Store") "take_truths", fd, D, meth_ok (c.fact 126 (f := .meth "Store" "take_truths") rfl)⟩
  put := by
    obtain ⟨fd, D⟩ := c.def_ 93 (d := dM "Store" "put_row" "Store.put_row" sStore_put_row) rfl
    exact ⟨ma K (ga K "Store") "put_row", fd, D, meth_ok (c.fact 127 (f := .meth "Store" "put_row") rfl)⟩
  tell := by
    obtain ⟨fd, D⟩ := c.def_ 94 (d := dM "Store" "tell_table" "Store.tell_table" sStore_tell_table) rfl
    exact ⟨ma K (ga K "Store") "tell_table", fd, D, meth_ok (c.fact 128 (f := .meth "Store" "tell_table") rfl)⟩
end
theorem hide0 {H : Hp} : hide [] H = H := by
  funext b
  show (if b ∈ ([] : List Addr) then none else H b) = H b
  rw [if_neg List.not_mem_nil]
def xd : ExD := ⟨"TooGreat", "TooGreat.__init__", "most", "too great", ⟨⟨44, 17, 44, 21⟩, ⟨44, 23, 44, 27⟩, ⟨45, 8, 45, 13⟩, ⟨45, 8, 45, 15⟩, ⟨45, 8, 45, 24⟩, ⟨45, 25, 45, 36⟩, ⟨45, 8, 45, 37⟩, ⟨45, 8, 45, 37⟩, ⟨46, 8, 46, 12⟩, ⟨46, 8, 46, 17⟩, ⟨46, 20, 46, 24⟩, ⟨46, 8, 46, 24⟩, 0⟩⟩
theorem pxs {K : PySem.W.Frag} {h : Heap} {mg : Str → Option Value} (X : K.In h) (G : h.Ns mainGlobals mg) (c : SaysZ F K) : PxT R.prog K mg "TooGreat" (ga K "TooGreat") "most" := by
  obtain ⟨c1, c2⟩ := c.exc 0 (d := xd) rfl
  exact ExD.px (P := R.prog) (d := xd) X G (txs X G c).super (by kernel_rfl) ⟨⟨_, fun _ => rfl⟩, fun _ _ _ _ _ _ _ _ => rfl, rfl, by decide, rfl, rfl, by decide⟩ c2 c1
theorem facts {w : World} {K : PySem.W.Frag} {h : Heap} {mg : Str → Option Value} {f : Addr} (X : K.In h) (G : h.Ns mainGlobals mg) (hfa : mg ("law" : Str) = some (.ref f)) (c : SaysZ F K) :
    ∃ fd : FuncData, (∀ (s : Shared) (v : Value), BindsTo s fd ⟨[v], []⟩ [("script", v)]) ∧ ∀ base : Heap, K.In base → base.Ns mainGlobals mg → FnOk R.prog w K mg base CX0 20 f fd ["script"] (spF (fun (d : {ns : List Int // ns.length ≤ 63}) => Pm.PC (RQ K (d.1.map V.int)) PN) fun _ => RB true) := by
  obtain ⟨fd, D⟩ := c.def_ 88 (d := dF "law" slaw) rfl
  have e := hfa.symm.trans (glo_ok X G (c.fact 88 (f := .glo "law") rfl))
  cases e
  have b := FunD.bindsA (ps := ["script"]) D fun _ _ _ _ _ _ us hl => match us, hl with | [_], _ => rfl
  exact ⟨fd, fun s v => b s [v] rfl, fun base _ _ => ok_law (txs X G c) (ats X G c) (sto X G c) (pxs X G c) D⟩
end L97h
open PySem PySem.W PySem.Calls PyProof.Rows
theorem PySem.Challenge.cw_planmill_k97_whole_main_great_clauses_an_holds : PySem.Challenge.rw_planmill_k97_whole_main_great_clauses_an.Holds := by
  w_on; o_law
  refine HandSHeadRun.head_any (r := L97h.R) (q := L97h.qv) (H := L97h.hk) (ob := L97h.ob) (M := 20000) (loose := L97h.names) (d := HandSHeadRun.topDef L97h.R.prog 148) (kwd := []) L97h.ob_eq (by kernel_rfl) (fun s => by kernel_rfl) L97h.run (by kernel_rfl) (by kernel_rfl) (by kernel_rfl) (by rfl) (by first | assumption | decide +kernel) (by decide +kernel) ⟨rfl, rfl, rfl, rfl, rfl, by decide +kernel⟩ ?hw ?hc
  case hw => w_witness2
  case hc =>
    refine L2.walk_ofE (l := PySem.Challenge.rw_planmill_k97_whole_main_great_clauses_an) (n := 63) (k := 20) (x := "script") (CX := L2.CX0) rfl (by decide) (by kernel_rfl) ⟨rfl, by decide, by decide⟩ ?F (fun _ _ _ _ z => z)
    intro w mg fa h Y G hmg0
    obtain ⟨K, KX, c⟩ := Y
    have hmg : mg ("law" : PySem.Str) = some (.ref fa) := by
      have e : (HandSHeadRun.topDef L97h.R.prog 148).name = ("law" : PySem.Str) := by kernel_rfl
      rw [← e]
      exact hmg0
    obtain ⟨fd, hb, hF⟩ := L97h.facts (w := w) KX G hmg c
    exact ⟨K, fd, _, KX, hb, fun H a ns hl _ hS => ⟨⟨ns, hl⟩, [], ⟨(fun p hp => nomatch hp), List.nodup_nil⟩, ⟨.ref a, [], rfl, ⟨a, rfl, L97h.hide0 ▸ hS⟩, rfl⟩, fun v H' _ r => r⟩, hF⟩
