import PyProof.Rows.All
import Wide.All
import OpenK.AllK
import Wide.FinOn
import KE.KStateDown
import Lean
import HandS.Head0
import HandS.Head1
import HandS.Head2
import HandS.ForMost
import HandS.Exc
import HandS.Deep
import HandS.Wide
import HandS.ExcInit
import HandS.ExcField
import KE.KSuper
import KE.KExcSuper
import HandS.HeadWalk
import HandS.ExcIs
import HandS.ExcOwn
import HandS.WordsExc
import HandS.Flow
import HandS.Style
import HandS.TupAny
import HandS.IsInst
import HandS.Defaults
import HandS.TupMul
import PyProof.Rows.StrMul
import HandS.SortOrd
import HandS.SortRule
import HandS.SortInts
import HandS.TupLe
import HandS.HeadHook1
import HandS.TryOnly
import HandS.Base
import HandS.Call
import HandS.TryMany
import KE.KExcIs
import HandS.List
import HandS.WideMore
import PyProof.ExcBaseAll.ValueError
import HandS.HeadHook4
import HandS.Codes
import HandS.HeadEnd
import PySem.Challenge.RW_shelfkinds_k20_whole_turns
section
set_option Elab.async false
set_option linter.all false
set_option maxRecDepth 100000
set_option maxHeartbeats 2000000
/-! PJa: an own error class over ValueError whose __init__ says super().__init__(..) and keeps its value. -/
namespace PI
open PySem PySem.Spec PyProof.Rows L2
/-- the body: super().__init__(e); self.f = y -/
def iniBody (e : Expr) (f y : Str) (p : Nat → Pos) : List Stmt :=
  [.Expr (.Call (.Attribute (.Call (.Name "super" (p 0)) [] [] (p 1)) "__init__" (p 2)) [e] [] (p 3)) (p 4), .Assign [.Attribute (.Name "self" (p 5)) f (p 6)] (.Name y (p 7)) (p 8)]
/-- what the written part says of such a class -/
structure IniC (P : Program) (K : PySem.W.Frag) (C : Addr) (at_ : Bool) (e : Expr) (f y : Str) (fI : Addr) (fd : FuncData) : Prop where
  oex : OexC K C
  ini : PySem.W.findIn K (.ref C) "__init__" = some (some (.ref fI))
  ty : PySem.W.typeIn K (.ref fI) = some (.type "function")
  fn : ∃ (qual : Str) (params : Arguments) (p : Nat → Pos) (scope : Scope) (kV doc pm ct oc : Value) (an od : Option Addr) (osl : Array (Option Value)) (cc cda : Addr),
    fd = PySem.W.ksFn "__init__" qual params (iniBody e f y p) scope .none kV doc pm an (.ref cda) ct cc ∧ K.lookup fI = some ⟨oc, od, .func fd, osl⟩ ∧ PySem.W.codeIn K (.ref cda) qual = true ∧
    (∃ p1 p2, params = ⟨[], [⟨"self", none, p1⟩, ⟨y, none, p2⟩], none, [], [], none, []⟩) ∧ scope.kind = .function ∧ scope.isCoroutine = false ∧ scope.isGenerator = false ∧
    scope.names.lookup ("self" : Str) = some .local ∧ scope.names.lookup y = some .local ∧ scope.names.lookup ("__class__" : Str) = some .free ∧ scope.names.lookup ("super" : Str) = some .globalImplicit ∧
    (∀ q ∈ scope.names, q.2 ≠ .cell) ∧ ((p 2).endLine == (p 3).line) = true ∧ (∀ q ∈ scope.names, q.2 = .free → q.1 = ("__class__" : Str)) ∧ (at_ = true → scope.names.lookup ("str" : Str) = some .globalImplicit) ∧
    (∃ ccl cdd vs ccs file tf, K.lookup cda = some ⟨ccl, cdd, .fields vs, ccs⟩ ∧ vs[2]? = some (.str file tf) ∧ ((P.main.file : Str) == file) = true) ∧
    (∃ cl cld csl, K.lookup cc = some ⟨cl, cld, .cell (some (.ref C)), csl⟩)
  cls : ∃ cd, PySem.W.clsIn K C = some cd
  sub : PySem.W.mroIn K C (.ref C) = some true
  sup : PySem.W.nsIn K mainGlobals "super" = some none
  opq : PySem.W.nsIn K cStatics "thirdparty.any" = some none
  up : PySem.W.ks_superIn K C C "__init__" = some (some (.builtin "ValueError.__init__"))
  ve : PySem.W.subIn K (.ref C) (.type "ValueError") = some true
  own : PySem.W.findIn K (.ref C) f = some none
  top : (P.main.scope.names.lookup ("super" : Str)).isSome = false
  ny : (y == ("self" : Str)) = false
  nd : (y == ("__debug__" : Str)) = false ∧ (y == ("__classdict__" : Str)) = false
/-- what such an __init__ keeps: A is asked of the value -/
def spIni (C : Addr) (f : Str) (B : V → Prop) : Sp := fun vs H Q _ => ∃ a v, vs = [.ref a, v] ∧ B v ∧ H a = some (exo a C none) ∧ ∀ d, H d = none → d ≠ a → Q .non (upd (upd H d (exd d [(f, v)])) a (exo a C (some d)))
section
variable {P : Program} {w : World} {K : PySem.W.Frag} {mg : Str → Option Value} {base : Heap} {C fI : Addr} {fd : FuncData} {e : Expr} {f y : Str} {at_ : Bool}
/-- the context of its body -/
def iniCx (P : Program) (w : World) (K : PySem.W.Frag) (mg : Str → Option Value) (base : Heap) (y : Str) (A : Around) (outer : List PySem.Env) (s : Shared) (H : Hp) (E : XK) (env : PySem.Env) : Cx where
  prog := P
  w := w
  K := K
  mg := mg
  base := base
  A := A.deeper env
  N := ["self", y]
  s_0 := s
  H_0 := H
  env := env
  outer := outer
  stack := env :: outer
  ex := []
  calm := true
  fn := fun _ => false
  pn := []
  xe := fun u s' => wpAny (model P w) (A.deeper env) (leaving env u) (fun _ s'' => L2.CX P w outer H s E u s'') (fun u' s'' => L2.CX P w outer H s E u' s'') s'

theorem look1 {α : Type} (f g : Str) (y : α) (fs : List (Str × α)) : ((f, y) :: fs).lookup g = if g = f then some y else fs.lookup g := by
  rw [List.lookup_cons]
  by_cases h : g = f
  · rw [if_pos h, h]; simp
  · rw [if_neg h, show (g == f) = false by simpa using h]
/-- the argument of super().__init__: nothing is asked of it but that it is one value -/
def ArgOk (P : Program) (w : World) (K : PySem.W.Frag) (mg : Str → Option Value) (base : Heap) (y : Str) (at_ : Bool) (e : Expr) (B : V → Prop) : Prop :=
  ∀ (A : Around) (outer : List PySem.Env) (s : Shared) (H : Hp) (E : XK) (env : PySem.Env), env.scope.kind = .function → env.scope.names.lookup y = some .local → (at_ = true → env.scope.names.lookup ("str" : Str) = some .globalImplicit) →
    ∃ ta, PA (iniCx P w K mg base y A outer s H E env) [e] ta ∧ ∀ (a : Addr) (v : V) (H : Hp) (Q : List V → Hp → Prop), B v → (∀ ws : List V, ws.length ≤ 1000 → Q ws H) → ta [some (.ref a), some v] H Q
/-- how such a call is walked, and its one argument -/
abbrev sup0 (p0 p1 : Pos) : Expr := .Call (.Name "super" p0) [] [] p1
def CallShape (e : Expr) : Prop := (∀ (env : PySem.Env) (p0 p1 p2 p3 : Pos), (p2.endLine == p3.line) = true → ∃ pl : Sem Bool, eval (.Call (.Attribute (sup0 p0 p1) "__init__" p2) [e] [] p3) env = (do
    let ov ← attributeBase (sup0 p0 p1) "__init__" env (eval (sup0 p0 p1) env)
    standAt p2.atName
    let (f, first) ← holding [ov] (getMethod ov "__init__" pl)
    callWith p3 f first (backTo p3 (starEach [e] env)) [])) ∧
  (∀ env : PySem.Env, starEach [e] env = (false, eval e env) :: starEach [] env) ∧ ∀ (env : PySem.Env) (p0 p1 p2 p3 p4 : Pos), swapsWith (.Call (.Attribute (sup0 p0 p1) "__init__" p2) [e] [] p3) none p4.line env = pure false
theorem ini_ok {B : V → Prop} (J : IniC P K C at_ e f y fI fd) (hA : ArgOk P w K mg base y at_ e B) (hS : CallShape e) : FnOk P w K mg base (L2.CX P w) 2 fI fd ["self", y] (spIni C f B) := by
  obtain ⟨qual, params, p, scope, kV, doc, pm, ct, oc, an, od, osl, cc, cda, rfl, lk, hcd, ⟨p1, p2, hpar⟩, hkf, hco, hgen, hsf, hsy, hsc, hss, hcell, hline, hfree, hstr, ⟨ccl, cdd, vs0, ccs, file, tf, lkc, hv2, hfile⟩, ⟨cl, cld, csl, lkcc⟩⟩ := J.fn
  refine ⟨fun vs H Q E h => ?_, fun A outer s H args us vs Q E hr e0 hb hv h => ?_⟩
  · obtain ⟨a, v, rfl, _⟩ := h; rfl
  obtain ⟨a, v, rfl, hB, ea, q⟩ := h
  obtain ⟨u, rfl, rv⟩ : ∃ u, us = [Value.ref a, u] ∧ RelV v u := by
    cases hv with
    | cons r1 hv =>
      cases hv with
      | cons r2 hv =>
        cases hv
        exact ⟨_, by rw [show _ = Value.ref a from r1], r2⟩
  have KX : K.In s.heap := e0.mod.kin.keeps fun b o z => (e0.bs b o z).1
  have lim : s.heap.NoLimit := e0.mod.nolimit.keeps fun b o z => (e0.bs b o z).1
  refine PySem.ks_codeAny_call_defAt (fd := PySem.W.ksFn "__init__" qual params (iniBody e f y p) scope .none kV doc pm an (.ref cda) ct cc) (body := iniBody e f y p) (binds := [("self", .ref a), (y, u)]) hr.depth (KX _ _ lk) rfl lim (PySem.W.codeRec_of KX hcd) rfl hb hcell (fun z hz => ?_) (fun h1 hns hk => ?_) hco hgen hkf
  · rcases List.mem_cons.mp hz with rfl | hz
    · exact hsf
    · rw [List.mem_singleton.mp hz]; exact hsy
  have hco' : ∀ {x o}, K.lookup x = some o → s.heap.get? x = some o ∧ H x = none := fun {x o} z => e0.bs x o (e0.mod.kin x o z)
  let env : PySem.Env := callEnv (PySem.W.ksFn "__init__" qual params (iniBody e f y p) scope .none kV doc pm an (.ref cda) ct cc) s.heap.objs.size fI
  let X : Cx := iniCx P w K mg base y A outer s H E env
  have ecell : ∀ {x c}, env.cells.lookup x = some c → x = "__class__" ∧ c = cc := fun {x c} z => by
    have z : (([("__class__", cc)] : List (Str × Addr)).lookup x) = some c := z
    rw [look1] at z
    by_cases hx : x = "__class__"
    · rw [if_pos hx] at z; cases z; exact ⟨hx, rfl⟩
    · rw [if_neg hx] at z; cases z
  have nsy : y ≠ "self" := fun z => by
    have := J.ny
    rw [z] at this
    exact absurd this (by decide)
  have I0 : Inv X [] [some (.ref a), some v] H { s with heap := h1, toks := s.toks + 2 } := by
    refine ⟨⟨e0.mod, hkf, rfl, rfl, Nat.le_refl _, fun x z c q1 q2 => ?_, fun x hx => ?_, fun x c z _ => absurd z Bool.false_ne_true, fun _ => hr.hd, Around.frames_deeper e0.frames, .inr ⟨rfl, rfl⟩, fun b z => absurd (show b ∈ ([] : List Addr) from z) (by simp), e0.bs, e0.bsz, fun b _ _ => (by simp : b ∉ ([] : List Addr)),
      fun b z => absurd (show b ∈ ([] : List Addr) from z) (by simp), e0.funs, e0.frf⟩, rfl, e0.bare, Un.kept hk, ⟨_, hns, fun i x v' q1 q2 q3 => ?_⟩, fun x c z => ?_, e0.hok.fresh (Nat.le_refl _), fun x c z => ?_, fun q hq => absurd (show q ∈ ([] : List (Addr × Obj)) from hq) (by simp), e0.hok.kept hk, rfl⟩
    · rw [(ecell q1).1, (ecell q2).1]
    · have hx : scope.names.lookup x = some .cell ∨ scope.names.lookup x = some .free := hx
      rcases hx with z | z
      · exact absurd rfl (hcell _ (PySem.mem_of_lookup z))
      · have := hfree _ (PySem.mem_of_lookup z) rfl
        exact ⟨cc, by rw [show x = "__class__" from this]; rfl⟩
    · match i, q1, q2 with
      | 0, q1, q2 =>
        cases q1; cases q2
        exact ⟨.ref a, rfl, .inl ⟨hsf, by
          show (List.lookup ("self" : Str) [(y, u), ("self", Value.ref a)]) = _
          rw [look1, if_neg (fun z => nsy z.symm)]; rfl⟩⟩
      | 1, q1, q2 =>
        cases q1; cases q2
        exact ⟨u, rv, .inl ⟨hsy, by
          show (List.lookup y [(y, u), ("self", Value.ref a)]) = _
          rw [look1, if_pos rfl]⟩⟩
      | i + 2, q1, q2 => exact absurd q1 (by simp [X, iniCx])
    · obtain ⟨_, rfl⟩ := ecell z
      exact ⟨_, _, hk _ _ (hco' lkcc).1, rfl⟩
    · obtain ⟨_, rfl⟩ := ecell z
      exact (hco' lkcc).2
  -- the first statement
  show PySem.wpAt (model P w) (A.deeper env) (.func (iniBody e f y p) env) (execs (iniBody e f y p) env) _ _ _
  obtain ⟨cdD, hcls⟩ := J.cls
  obtain ⟨nm, q0, N0, bs0, bm0, sn0, sub0, ab0, col0, dd0, k0, k1, k2', k3', k5, hC, hbm⟩ := J.oex.cls
  obtain ⟨hfr, hgg, hdd, htt, hoo⟩ : ∃ hfr hgg hdd htt, s = ⟨hfr, hgg, hdd, htt, s.os⟩ := ⟨s.heap, s.gens, s.drawn, s.toks, rfl⟩
  have KX1 : K.In h1 := KX.keeps hk
  obtain ⟨sh1, sh2, sh3⟩ := hS
  obtain ⟨pl, he⟩ := sh1 env (p 0) (p 1) (p 2) (p 3) hline
  refine PySem.ks_wpAt_execs_cons (PySem.ks_wpAt_Expr_any (PySem.ks_wpAt_MethodCall ?_ he) (I0.quiet) (sh3 env (p 0) (p 1) (p 2) (p 3) (p 4)))
  refine PySem.ks_wpAt_super_base (fd := PySem.W.ksFn "__init__" qual params (iniBody e f y p) scope .none kV doc pm an (.ref cda) ct cc) (ar := ⟨"self", none, p1⟩) hss hsc (by decide) rfl (KX1 _ _ lk) rfl (by rw [hpar]; rfl) rfl (KX1 _ _ lkc) rfl hv2 hfile J.top ?_
  obtain ⟨mb, hb1, hb2⟩ := e0.mod.blt
  have KB : ∀ b o, base.get? b = some o → h1.get? b = some o := fun b o z => hk b o (e0.bs b o z).1
  obtain ⟨t1, hx1⟩ := exo_at I0.hok ea
  have hD1 : h1.get? C = some (excClassObj nm q0 C N0 bs0 bm0 true sn0 sub0 ab0 col0 dd0 k0 k1 k2' k3' k5 "ValueError.__new__") := KX1 _ _ hC
  refine PySem.W.ks_loadName_global hkf hss (Calls.loadGlobal_builtin (env := env) (e0.mod.glob.keeps KB) (PySem.W.mg_none_of e0.mod.kin e0.mod.glob J.sup) (hb1.keeps KB) ((hb2 _ (by decide)).trans (by decide +kernel)) ⟨rfl, ?_⟩)
  refine wpAny_loadName_free hkf hsc rfl ⟨_, KX1 _ _ lkcc, rfl⟩ ?_
  refine wpAny_loadName_local (v := .ref a) hkf hsf hns (by
    show (List.lookup ("self" : Str) [(y, u), ("self", Value.ref a)]) = _
    rw [look1, if_neg (fun z => nsy z.symm)]; rfl) ?_
  refine PySem.ks_wpAny_isType_cls hD1 rfl ⟨rfl, ?_⟩
  refine PySem.ks_wpAny_call_super hD1 rfl hx1 rfl (fun c z => by cases z) (PySem.W.looks_mroIn KX1 J.sub) (fun h2 e2 k2 => ?_)
  have I2 : Inv X [] [some (.ref a), some v] H { heap := h2, gens := s.gens, drawn := s.drawn, toks := s.toks + 2, os := s.os } := I0.kept k2
  have KX2 : K.In h2 := I2.kIn
  have hup := J.up
  unfold PySem.W.ks_superIn at hup
  rw [hcls, Option.bind_some] at hup
  have LT2 : PySem.W.Looks (model P w) h2 (typeOf (.ref a)) (.ref C) := fun A' Q' E' s' k' q' => wpAny_typeOf_ref (k' _ _ (k2 _ _ hx1)) q'
  have ne : a ≠ C := fun z => by
    have q1 := (hco' hC).2
    rw [← z, ea] at q1
    cases q1
  refine PySem.W.kxs_getMethod PySem.W.kxs_ValueError e2 (PySem.W.looks_opaque KX2 J.opq) (l₀ := cdD.mro) (fun A' Q' E' s' k' q' => wpAny_bind ((PySem.W.looks_clsIn KX2 hcls) A' _ E' s' k' (wpAny_pure q'))) rfl KX2 hup (LT2.andThen (PySem.W.looks_subIn KX2 J.ve)) ne (by decide) ?_
  have k3 : ∀ b o, h2.get? b = some o → (h2.push (PySem.W.kxs_mw "ValueError.__init__" a)).get? b = some o := fun b o z => Heap.get?_push_of_some _ z
  have hu3 : (h2.push (PySem.W.kxs_mw "ValueError.__init__" a)).get? h2.objs.size = some (PySem.W.kxs_mw "ValueError.__init__" a) := Heap.get?_push_at rfl rfl
  have I3 : Inv X [(h2.objs.size, PySem.W.kxs_mw "ValueError.__init__" a)] [some (.ref a), some v] H { heap := h2.push (PySem.W.kxs_mw "ValueError.__init__" a), gens := s.gens, drawn := s.drawn, toks := s.toks + 2 + 1, os := s.os } :=
    (Inv.kept (t' := s.toks + 2 + 1) I2 k3).pins_of fun q hq => by
      rw [List.mem_singleton.mp hq]
      exact ⟨hu3, I2.hok.fresh (Nat.le_refl _), fun z => absurd I2.lt (by rw [← z]; exact Nat.lt_irrefl _), I2.nofs (Nat.le_refl _), fun v' z => by cases z⟩
  obtain ⟨ta, hta, hq⟩ := hA A outer s H E env hkf hsy hstr
  refine PySem.W.kxs_callWith (i := "ValueError.__init__") (x := a) (by rw [sh2 env]; rfl) ?_
  rw [sh2 env]
  refine PySem.Calls.evalArgs_plain ?_
  have run3 : wpAny (model P w) (A.deeper env) (spliced (backTo (p 3) (starEach [e] env))) _ _ _ := hta.run (p 3) _ _ _ H (fun ws H' => H' = H ∧ ws.length ≤ 1000) I3 (hq a v H _ hB fun ws hw => ⟨rfl, hw⟩)
  rw [sh2 env] at run3
  refine wpAny_mono run3 (fun us4 s4 h4 => ?_) (fun _ _ z => z)
  obtain ⟨ws, H4, I4, r4, eH4, hl4⟩ := h4
  rw [eH4] at I4
  have hu4 := (I4.pin (h2.objs.size, PySem.W.kxs_mw "ValueError.__init__" a) (List.mem_append_right _ List.mem_cons_self)).1
  refine ⟨hu4, ?_⟩
  obtain ⟨t4, hx4⟩ := exo_at I4.hok ea
  have hD4 : s4.heap.get? C = some (excClassObj nm q0 C N0 bs0 bm0 true sn0 sub0 ab0 col0 dd0 k0 k1 k2' k3' k5 "ValueError.__new__") := I4.kIn _ _ hC
  refine wpAny_call (codeAny_of_tree ?_)
  show wpAny (model P w) (A.deeper env).in1 (callAny (.ref h2.objs.size) ⟨us4, []⟩) _ _ _
  unfold callAny
  refine wpAny_bind (wpAny_load hu4 ?_)
  dsimp only
  refine PySem.W.KFB.if_so (by decide) ?_
  refine wpAny_bind (PySem.W.check_bound_init PySem.F.excBase_ValueError.toExcCallFacts hD4 hx4 rfl ?_)
  refine wpAny_bind (wpAny_pure (wpAny_pure ⟨plainId_quiet PySem.F.excBase_ValueError.init.plain _, codeAny_builtin PySem.F.excBase_ValueError.initEntry ?_⟩))
  have hl5 : us4.length ≤ sizeLine := by
    rw [← Paired.length r4, sizeLine_eq]; omega
  refine PySem.W.exc_init_tree (cls := .ref C) (t0 := t4) (dv := none) (c2 := .none) (c3 := .none) (b4 := .bool false) hx4 hl5 fun h5 k5' x5 _ => ?_
  have I5 : Inv X [(h2.objs.size, PySem.W.kxs_mw "ValueError.__init__" a)] [some (.ref a), some v] H { heap := h5, gens := s4.gens, drawn := s4.drawn, toks := s4.toks, os := s4.os } := by
    have z := Inv.write (t' := s4.toks) (x := a) (e := a) (o := exo a C none) I4 (by rw [ea]; exact True.intro) (.inl rfl) k5' ⟨_, x5⟩ (exo_ok x5)
    have eu : upd H a (exo a C none) = H := by
      funext b
      by_cases hb' : b = a
      · rw [hb', upd_same, ea]
      · rw [upd_ne hb']
    rw [eu] at z
    exact z
  -- the second statement
  have T2 : PSs X [.Assign [.Attribute (.Name "self" (p 5)) f (p 6)] (.Name y (p 7)) (p 8)] (tOst X.K f (tVar 0) (tVar 1)) :=
    pss_one (ps_ost (pe_var (i := 0) rfl (.inl hsf)) (pe_var (i := 1) rfl (.inl hsy) J.nd.1 J.nd.2) rfl)
  have run5 := T2.run _ _ _ H { nx := fun _ H' => Q .non H', rt := fun _ _ => False } I5 ⟨v, rfl, .ref a, rfl, a, C, rfl, J.oex, J.own, .inl ⟨ea, q⟩⟩
  refine PySem.wpAt_of_wpAny (wpAny_mono run5 (fun fl s6 h6 => ?_) fun _ _ z => z)
  cases fl with
  | next =>
    obtain ⟨σ6, H6, I6, q6⟩ := h6
    exact ⟨.non, H6, I6.os, I6.bare, I6.base, I6.hok, rfl, q6⟩
  | ret _ => obtain ⟨_, _, _, _, _, z⟩ := h6; exact z.elim
  | brk => obtain ⟨_, _, _, z⟩ := h6; exact z.elim
  | cont => obtain ⟨_, _, _, z⟩ := h6; exact z.elim
theorem shape0 {e : Expr} (hs : ∀ env : PySem.Env, starEach [e] env = (false, eval e env) :: starEach [] env) (env : PySem.Env) (p0 p1 p2 p3 : Pos) (hl : (p2.endLine == p3.line) = true) : ∃ pl : Sem Bool, eval (.Call (.Attribute (sup0 p0 p1) "__init__" p2) [e] [] p3) env = (do
    let ov ← attributeBase (sup0 p0 p1) "__init__" env (eval (sup0 p0 p1) env)
    standAt p2.atName
    let (f, first) ← holding [ov] (getMethod ov "__init__" pl)
    callWith p3 f first (backTo p3 (starEach [e] env)) []) := by
  refine ⟨do return (← importBound (sup0 p0 p1) env).getD true, ?_⟩
  unfold sup0
  conv => lhs; unfold eval
  refine congrArg _ (funext fun ov => congrArg _ (funext fun _ => ?_))
  unfold methodCall calleeOf methodCallPos
  have few : methodCallForm ([e].length + ([] : List Keyword).length) (backTo p3 (starEach [e] env)) (backToKw p3 (keywordEach [] env)) = true := by rw [hs env]; rfl
  rw [few]
  simp only [hl, Bool.not_true, Bool.false_or, if_true, pure_bind]
  rfl
theorem shape_name {y : Str} {p : Pos} : CallShape (.Name y p) := ⟨shape0 (by intro env; rfl), fun env => by rfl, fun env p0 p1 p2 p3 p4 => by rfl⟩
theorem arg_name {p : Pos} {B : V → Prop} (nd : (y == ("__debug__" : Str)) = false ∧ (y == ("__classdict__" : Str)) = false) : ArgOk P w K mg base y false (.Name y p) B := fun A outer s H E env hk hl hs =>
  ⟨_, pa_cons (pe_var (i := 1) rfl (.inl hl) nd.1 nd.2) pa_nil rfl, fun a v H Q hB q => ⟨v, rfl, q [v] (by simp)⟩⟩
theorem shape_at {l : Expr} {o : Operator} {r : Expr} {p : Pos} : CallShape (.BinOp l o r p) := ⟨shape0 (by intro env; rfl), fun env => by rfl, fun env p0 p1 p2 p3 p4 => by rfl⟩
theorem arg_at {x : Str} {j : Nat} {p1 p2 p3 p4 p5 : Pos} {B : V → Prop} (nd : (y == ("__debug__" : Str)) = false ∧ (y == ("__classdict__" : Str)) = false) (hx : x.length ≤ 100) (hm : mg "str" = none)
    (hB : ∀ v, B v → ∃ i, v = .int i ∧ i.natAbs.log2 < 1920 ∧ (Str.ofString (toString i)).length ≤ 1000) : ArgOk P w K mg base y true (.BinOp (.Constant (.str x) j p1) .Add (.Call (.Name "str" p2) [.Name y p3] [] p4) p5) B := fun A outer s H E env hk hl hs => by
  refine ⟨_, pa_cons (pe_op op_add_str pe_str (pe_callTy call_str_int ?_ hm (by decide +kernel) (pa_cons (pe_var (i := 1) rfl (.inl hl) nd.1 nd.2) pa_nil rfl))) pa_nil rfl, fun a v H Q hb q => ?_⟩
  · exact hs rfl
  · obtain ⟨i, rfl, h1, h2⟩ := hB v hb
    refine ⟨.int i, rfl, i, rfl, h1, x, Str.ofString (toString i), rfl, rfl, ?_, q _ (by simp)⟩
    rw [sizeLine_eq]; omega
end
end PI
end
section
set_option Elab.async false
set_option linter.all false
set_option maxRecDepth 100000
/-! PIa: the small language (E, S), its values (PyData), its interpreter. Plain Lean, no machine. -/
namespace PI
open PySem

abbrev Da := PySem.PyData

/-- an exception: the number of its class, the value of its own attribute (if it has one) -/
structure Ex where
  cls : Nat
  fld : Option Da

/-- a slot: without a value; a value that never changes; a list (dict) of our own (0 free, 1 the caller's, 2 locked); the script; a caught exception -/
inductive Sl where
  | un
  | val (d : Da)
  | own (m : Nat) (d : Da)
  | scr (ns : List Int)
  | exc (x : Ex)

abbrev Env := List Sl

/-- an answer; an exception with what is left; no answer -/
inductive R (ε α : Type) where
  | ok (a : α)
  | exc (x : Ex) (e : ε)
  | bad

/-- what a statement leads to -/
inductive Fl where
  | nx
  | ret (d : Da)
  | brk
  | cont

inductive BOp where
  | add | sub | mul | mod | fdiv | pow | shl
  deriving DecidableEq
inductive COp where
  | eq | ne | lt | le | gt | ge | isin | notin
  deriving DecidableEq
/-- built-in functions and types, called with one value -/
inductive B1 where
  | len | abs | int | str | list | tuple | sum | max | min | any | all | sorted | repr
  deriving DecidableEq
/-- .. with two values -/
inductive B2 where
  | max | min
  deriving DecidableEq
/-- types that isinstance is asked for -/
inductive Ty where
  | int | bool | str | tuple | list
  deriving DecidableEq
/-- methods that change nothing -/
inductive M1 where
  | split | join | index | startswith | partition
  deriving DecidableEq
/-- methods that change an own list -/
inductive MM where
  | append | extend | pop | popat
  deriving DecidableEq

/-- targets -/
inductive Tg where
  | nm (i : Nat)
  | tup (t : Tg)
  | nil
  | cons (t ts : Tg)

inductive E where
  | var (i : Nat)
  | bor (i : Nat)
  | mv (i : Nat)
  | io (i : Nat)
  | kc (d : Da)
  | gl (c : Nat)
  | nil
  | cons (e es : E)
  | tup (es : E)
  | lst (es : E)
  | call (f : Nat) (es : E)
  | call0 (f : Nat)
  | callx (fs : List Nat) (ix es : E)
  | b1 (b : B1) (a : E)
  | b2 (b : B2) (a c : E)
  | m1 (m : M1) (o a : E)
  | mm (m : MM) (i : Nat) (a : E)
  | bin (o : BOp) (a b : E)
  | neg (a : E)
  | cmp (o : COp) (a b : E)
  | chain (o o' : COp) (a b c : E)
  | isC (n : Bool) (a : E) (d : Da)
  | isi (a : E) (t : Ty)
  | nt (a : E)
  | and (a b : E)
  | or (a b : E)
  | ite (c a b : E)
  | idx (a b : E)
  | sl (a lo hi : E)
  | rev (a : E)
  | rg1 (a : E)
  | rg2 (a b : E)
  | rg3 (a b : E) (st : Int)
  | enm (a : E)
  | zip (a b : E)
  | lc (vs : List Nat) (tg : Tg) (it cond elt : E)

/-- what an except suite answers of its exception -/
inductive XE where
  | fld (f : Str)
  | str (s : Str)
  | add (a b : XE)
  | isx (c : Nat)
  | ite (c : Nat) (a b : XE)
  | pair (a b : XE)
inductive S where
  | skip
  | seq (a b : S)
  | expr (e : E)
  | asg (i : Nat) (e : E)
  | asgO (i : Nat) (e : E)
  | unp (t : Tg) (e : E)
  | par (ts : List (Nat × Bool)) (es : E)
  | setI (i : Nat) (ix e : E)
  | swp (i : Nat) (ia ib a b : E)
  | aug (i : Nat) (o : BOp) (e : E)
  | ret (e : E)
  | retN
  | ite (c : E) (a b : S)
  | whl (c : E) (b : S)
  | for (t : Tg) (it : E) (b : S)
  | raise (c : Nat) (a : E)
  | tryx (b : S) (h : S)
  | hnd (c : Nat) (i : Option Nat) (b : S) (more : S)
  | hndx (c : Nat) (j : Nat) (e : XE) (more : S)
  | brk
  | cont

/-! ### the values' operations -/
def fine (d : Da) : Bool := SeqAt.shaped d

def isScal : Da → Bool
  | .none | .bool _ | .int _ | .str _ => true
  | _ => false
/-- == of scalars as the layer has it -/
def scalEq : Da → Da → Option Bool
  | .none, .none => some true
  | .none, .int _ | .int _, .none | .none, .bool _ | .bool _, .none | .none, .str _ | .str _, .none => some false
  | .int i, .int j => some (decide (i = j))
  | .bool a, .bool b => some (decide (a = b))
  | .str x, .str y => some (decide (x = y))
  | .int _, .str _ | .str _, .int _ | .bool _, .str _ | .str _, .bool _ => some false
  | _, _ => none
def eqD (x y : Da) : Option Bool :=
  match scalEq x y with
  | some b => some b
  | none => if fine x && fine y then some (PyData.eqv x y) else none
def addD (x y : Da) : Option Da :=
  match x, y with
  | .int i, .int j => some (.int (i + j))
  | .str a, .str b => if a.length + b.length ≤ sizeLine then some (.str (a ++ b)) else none
  | .list a, .list b => if a.length + b.length ≤ sizeLine then some (.list (a ++ b)) else none
  | .tuple a, .tuple b => if a.length + b.length ≤ sizeLine then some (.tuple (a ++ b)) else none
  | _, _ => none
def mulOk (i j : Int) : Bool := decide (i.natAbs < 2 ^ 64) || decide (j.natAbs < 2 ^ 64) || decide (i.natAbs.log2 + j.natAbs.log2 < 1000000)
def binD (o : BOp) (x y : Da) : Option Da :=
  match o with
  | .add => addD x y
  | .sub => match x, y with
    | .int i, .int j => some (.int (i - j))
    | _, _ => none
  | .mul => match x, y with
    | .int i, .int j => if mulOk i j then some (.int (i * j)) else none
    | .list a, .int k => if -(2 ^ 63) ≤ k ∧ k < 2 ^ 63 ∧ a.length * k.toNat ≤ sizeLine then some (.list (List.replicate k.toNat a).flatten) else none
    | .tuple a, .int k => if 2 ≤ k ∧ k ≤ 1000 ∧ 1 ≤ a.length ∧ a.length ≤ 1000 then some (.tuple (List.replicate k.toNat a).flatten) else none
    | .str a, .int k => if -1000 ≤ k ∧ k ≤ 1000 ∧ a.length ≤ 1000 then some (.str (Txt.mul a k)) else none
    | _, _ => none
  | .mod => match x, y with
    | .int i, .int j => if 0 < j then some (.int (i % j)) else none
    | _, _ => none
  | .fdiv => match x, y with
    | .int i, .int j => if 0 < j ∧ j < 2 ^ 4000 then some (.int (i / j)) else none
    | _, _ => none
  | .pow => match x, y with
    | .int i, .int j => if 0 ≤ j ∧ j ≤ 1000000 ∧ i.natAbs < 2 ^ 64 then some (.int (i ^ j.toNat)) else none
    | _, _ => none
  | .shl => match x, y with
    | .int i, .int j => if 0 ≤ j ∧ j ≤ 1000000 ∧ i.natAbs < 2 ^ 64 then some (.int (i * 2 ^ j.toNat)) else none
    | _, _ => none
/-- is the one text within the other -/
def subIn (i j : Str) : Bool := !(Builtin.Str.occurrences j i 0 j.length 1).isEmpty
def inD (x y : Da) : Option Bool :=
  match y with
  | .str j => match x with
    | .str i => some (subIn i j)
    | _ => none
  | .list ds => if fine x && fine (.list ds) then some (ds.any fun z => PyData.eqv z x) else none
  | .tuple ds => if (isScal x && ds.all isScal) || (fine x && fine (.tuple ds)) then some (ds.any fun z => PyData.eqv z x) else none
  | _ => none
/-! the order of what is sorted: ints, texts, bools, tuples of these at any depth -/
mutual
def ltV : Da → Da → Bool
  | .int i, .int j => decide (i < j)
  | .bool a, .bool b => !a && b
  | .str a, .str b => decide (a.cps.toList < b.cps.toList)
  | .tuple xs, .tuple ys => ltVs xs ys
  | _, _ => false
def ltVs : List Da → List Da → Bool
  | [], [] => false
  | [], _ :: _ => true
  | _ :: _, [] => false
  | x :: xs, y :: ys => if PyData.eqv x y then ltVs xs ys else ltV x y
end
/-- what is sorted: an int, a text, a tuple of these that is not empty -/
def scOf : Da → Option Bool
  | .int _ => some false
  | .str _ => some true
  | _ => none
def scsOf : List Da → Option (List Bool)
  | [] => some []
  | d :: ds => match scOf d, scsOf ds with
    | some b, some bs => some (b :: bs)
    | _, _ => none
def skOf : Da → Option (Bool × List Bool)
  | .int _ => some (false, [false])
  | .str _ => some (false, [true])
  | .tuple ds => match scsOf ds with
    | some (b :: bs) => some (true, b :: bs)
    | _ => none
  | _ => none
def cmpD (o : COp) (x y : Da) : Option Bool :=
  match o with
  | .eq => eqD x y
  | .ne => (eqD x y).map (!·)
  | .isin => inD x y
  | .notin => (inD x y).map (!·)
  | .lt => match x, y with
    | .int i, .int j => some (decide (i < j))
    | .str i, .str j => some (decide (i.cps.toList < j.cps.toList))
    | .tuple a, .tuple b => match skOf (.tuple a) with
      | some s => if skOf (.tuple b) = some s then some (ltVs a b) else none
      | none => none
    | _, _ => none
  | .le => match x, y with
    | .int i, .int j => some (decide (i ≤ j))
    | _, _ => none
  | .gt => match x, y with
    | .int i, .int j => some (decide (j < i))
    | _, _ => none
  | .ge => match x, y with
    | .int i, .int j => some (decide (j ≤ i))
    | _, _ => none
def truD : Da → Option Bool
  | .none => some false
  | .bool b => some b
  | .int i => some (i != 0)
  | .str s => if s.length ≤ sizeLine then some ((s.length : Int) != 0) else none
  | .list xs => some (!xs.isEmpty)
  | .tuple xs => some (!xs.isEmpty)
  | _ => none
def sing (c : Nat) : Da := .str ⟨#[c]⟩
/-- the items that a for walks -/
def itemsD : Da → Option (List Da)
  | .list xs => some xs
  | .tuple xs => some xs
  | .str s => some (s.cps.toList.map sing)
  | _ => none
def atD (xs : List Da) (i : Int) : Option Da := L2.atI xs i
def idxD (x y : Da) : Option Da :=
  match x, y with
  | .list xs, .int i => atD xs i
  | .tuple xs, .int i => atD xs i
  | .str s, .int i => if s.length ≤ sizeLine then (L2.atI s.cps.toList i).map sing else none
  | _, _ => none
def cutD (xs : List Da) (lo hi : Option Int) : List Da := (xs.drop (HT.sIx xs.length 0 lo)).take (HT.sIx xs.length xs.length hi - HT.sIx xs.length 0 lo)
def slD (x : Da) (lo hi : Option Int) : Option Da :=
  match x with
  | .list xs => some (.list (cutD xs lo hi))
  | .tuple xs => some (.tuple (cutD xs lo hi))
  | .str s => if s.length ≤ sizeLine then some (.str (L2.cutS s lo hi)) else none
  | _ => none
def revD : Da → Option Da
  | .list xs => some (.list xs.reverse)
  | .tuple xs => some (.tuple xs.reverse)
  | _ => none
def intsD : List Da → Option (List Int)
  | [] => some []
  | .int i :: r => (intsD r).map (i :: ·)
  | _ :: _ => none
def blsD : List Da → Option (List Bool)
  | [] => some []
  | .bool i :: r => (blsD r).map (i :: ·)
  | _ :: _ => none
def strsD : List Da → Option (List Str)
  | [] => some []
  | .str i :: r => (strsD r).map (i :: ·)
  | _ :: _ => none
def maxL : List Int → Int
  | [] => 0
  | [x] => x
  | x :: y :: r => max x (maxL (y :: r))
def minL : List Int → Int
  | [] => 0
  | [x] => x
  | x :: y :: r => min x (minL (y :: r))
def insD (x : Da) : List Da → List Da
  | [] => [x]
  | y :: r => if ltV x y then x :: y :: r else y :: insD x r
def sortD (xs : List Da) : List Da := xs.foldl (fun acc x => insD x acc) []
/-- what may be sorted: all of one shape -/
def sortable : List Da → Bool
  | [] => true
  | d :: ds => match skOf d with
    | some s => (d :: ds).all fun e => decide (skOf e = some s)
    | none => false
def b1D (b : B1) (x : Da) : Option Da :=
  match b with
  | .len => match x with
    | .str s => if s.length ≤ sizeLine then some (.int s.length) else none
    | .list xs => some (.int xs.length)
    | .tuple xs => some (.int xs.length)
    | _ => none
  | .abs => match x with
    | .int i => some (.int (if i < 0 then -i else i))
    | _ => none
  | .int => match x with
    | .int i => some (.int i)
    | .bool k => some (.int (if k then 1 else 0))
    | _ => none
  | .str => match x with
    | .int i => if i.natAbs.log2 < 1920 then some (.str (Str.ofString (toString i))) else none
    | _ => none
  | .list => match x with
    | .list xs => some (.list xs)
    | .tuple xs => some (.list xs)
    | _ => none
  | .tuple => match x with
    | .list xs => some (.tuple xs)
    | .tuple xs => some (.tuple xs)
    | _ => none
  | .sum => match x with
    | .list xs => (intsD xs).map fun ns => .int ns.sum
    | _ => none
  | .max => match x with
    | .list xs => match intsD xs with
      | some ns => if 0 < ns.length then some (.int (maxL ns)) else none
      | none => none
    | _ => none
  | .min => match x with
    | .list xs => match intsD xs with
      | some ns => if 0 < ns.length then some (.int (minL ns)) else none
      | none => none
    | _ => none
  | .any => match x with
    | .list xs => (blsD xs).map fun bs => .bool (bs.any id)
    | _ => none
  | .all => match x with
    | .list xs => (blsD xs).map fun bs => .bool (bs.all id)
    | _ => none
  | .sorted => match x with
    | .list xs => if sortable xs then some (.list (sortD xs)) else none
    | .tuple xs => if sortable xs then some (.list (sortD xs)) else none
    | _ => none
  | .repr => none
def b2D (b : B2) (x y : Da) : Option Da :=
  match b with
  | .max => match x, y with
    | .int i, .int j => some (.int (if j > i then j else i))
    | _, _ => none
  | .min => match x, y with
    | .int i, .int j => some (.int (if j < i then j else i))
    | _, _ => none
def isTy (t : Ty) : Da → Bool
  | .int _ => t = .int
  | .bool _ => t = .int || t = .bool
  | .str _ => t = .str
  | .tuple _ => t = .tuple
  | .list _ => t = .list
  | _ => false
def isTyOk : Da → Bool
  | .dict _ => false
  | _ => true
def rangeD (a b : Int) : Option (List Da) :=
  if -(2 ^ 62) ≤ a ∧ a < 2 ^ 62 ∧ -(2 ^ 62) ≤ b ∧ b < 2 ^ 62 then some ((List.range (b - a).toNat).map fun k => .int (a + (k : Nat))) else none
def m1D (m : M1) (x y : Da) : Option Da :=
  match m with
  | .split => match x, y with
    | .str a, .str b => if (b.length == 0) = false ∧ a.length + 2 ≤ sizeLine then some (.list ((Txt.split a b).map .str)) else none
    | _, _ => none
  | .join => match x, y with
    | .str a, .list ds => match strsD ds with
      | some ys => if (ys.map (·.length)).sum + ys.length * a.length ≤ 16777216 then some (.str (Txt.join a ys)) else none
      | none => none
    | _, _ => none
  | .index => match x with
    | .list ds => if fine (.list ds) && fine y then
        match ds.findIdx? (fun z => PyData.eqv z y) with
        | some j => some (.int (j : Nat))
        | none => none
      else none
    | _ => none
  | .startswith => match x, y with
    | .str a, .str b => some (.bool (Txt.startswith a b))
    | _, _ => none
  | .partition => match x, y with
    | .str a, .str b => if (b.length == 0) = false ∧ a.length ≤ sizeLine then some (.tuple [.str (Txt.partition a b).1, .str (Txt.partition a b).2.1, .str (Txt.partition a b).2.2]) else none
    | _, _ => none
/-- an own list changed: the value, the new list -/
def mmD (m : MM) (xs : List Da) (y : Da) : Option (Da × List Da) :=
  match m with
  | .append => if xs.length < sizeLine then some (.none, xs ++ [y]) else none
  | .extend => match y with
    | .list ys => if xs.length + ys.length ≤ sizeLine then some (.none, xs ++ ys) else none
    | _ => none
  | .pop => match xs[xs.length - 1]? with
    | some z => some (z, xs.dropLast)
    | none => none
  | .popat => match y with
    | .int i => if -(2 ^ 63) ≤ i ∧ i < 2 ^ 63 then
        match L2.ixN xs.length i with
        | some k => match xs[k]? with
          | some z => some (z, xs.eraseIdx k)
          | none => none
        | none => none
      else none
    | _ => none

/-! ### slots -/
/-- a plain value is stored -/
def setv (env : Env) (i : Nat) (d : Da) : Option Env :=
  match env[i]? with
  | some (.own (_ + 1) _) => none
  | some (.scr _) => none
  | some _ => some (env.set i (.val d))
  | none => none
def isLst : Da → Bool
  | .list _ => true
  | _ => false
def setO (env : Env) (i : Nat) (d : Da) : Option Env :=
  match isLst d with
  | true => match env[i]? with
    | some (.own (_ + 1) _) => none
    | some (.scr _) => none
    | some _ => some (env.set i (.own 0 d))
    | none => none
  | false => none
mutual
def asgT : Tg → Da → Env → Option Env
  | .nm i, d, env => setv env i d
  | .tup ts, .tuple ds, env => asgTs ts ds env
  | .tup ts, .list ds, env => asgTs ts ds env
  | _, _, _ => none
def asgTs : Tg → List Da → Env → Option Env
  | .nil, [], env => some env
  | .cons t ts, d :: ds, env => match asgT t d env with
    | some env' => asgTs ts ds env'
    | none => none
  | _, _, _ => none
end
def wipeE (env : Env) : List Nat → Env
  | [] => env
  | v :: vs => (wipeE env vs).set v .un
/-- none of these slots is an own one -/
def plainAt (env : Env) (vs : List Nat) : Bool := vs.all fun v => match env[v]? with
  | some (.own _ _) => false
  | some (.scr _) => false
  | some _ => true
  | none => false
/-- the slots vs as in env0, the others as in env -/
def restE (env0 env : Env) : List Nat → Env
  | [] => env
  | v :: vs => match env0[v]? with
    | some s => (restE env0 env vs).set v s
    | none => restE env0 env vs
/-- the slot that an iterable walks, if it is a borrowed one -/
def lockOf : E → Option Nat
  | .bor i => some i
  | .enm a => lockOf a
  | _ => none
def lock (env : Env) : Option Nat → Env
  | none => env
  | some i => match env[i]? with
    | some (.own _ d) => env.set i (.own 2 d)
    | _ => env
def unlock (env0 env : Env) : Option Nat → Env
  | none => env
  | some i => match env0[i]?, env[i]? with
    | some (.own m _), some (.own _ d) => env.set i (.own m d)
    | _, _ => env
/-- the operand's value as it is now -/
def borOf : E → Option Nat
  | .bor i => some i
  | _ => none
def rr (e : E) (env : Env) (d : Da) : Option Da :=
  match e with
  | .bor i => match env[i]? with
    | some (.val x) => some x
    | some (.own _ x) => some x
    | _ => none
  | _ => some d

/-- an argument: a value, a slot of the caller's -/
inductive Av where
  | v (d : Da)
  | s (i : Nat)
def resolve (env : Env) : List Av → Option (List Sl)
  | [] => some []
  | .v d :: r => (resolve env r).map (.val d :: ·)
  | .s i :: r => match env[i]?, resolve env r with
    | some (.val d), some l => some (.val d :: l)
    | some (.own 0 d), some l => some (.own 1 d :: l)
    | some (.own 1 d), some l => some (.own 1 d :: l)
    | some (.scr ns), some l => some (.scr ns :: l)
    | _, _ => none
/-- the own slots among the arguments -/
def ownArgs (env : Env) : List Av → List Nat
  | [] => []
  | .v _ :: r => ownArgs env r
  | .s i :: r => match env[i]? with
    | some (.own _ _) => i :: ownArgs env r
    | _ => ownArgs env r
def nodupN : List Nat → Bool
  | [] => true
  | x :: r => !r.contains x && nodupN r
/-- what the callee left of them -/
def putBack : Env → List Av → List Sl → Option Env
  | env, [], [] => some env
  | env, .v _ :: r, _ :: os => putBack env r os
  | env, .s i :: r, o :: os => match env[i]? with
    | some (.own m _) => match o with
      | .own _ d => putBack (env.set i (.own m d)) r os
      | _ => none
    | _ => putBack env r os
  | _, _, _ => none
/-- at a def's end: the own parameters; none if one is gone -/
def finSl : List Sl → Env → Option (List Sl)
  | [], _ => some []
  | .own _ _ :: r, .own 1 d :: env => (finSl r env).map (.own 1 d :: ·)
  | .own _ _ :: _, _ => none
  | _ :: r, _ :: env => (finSl r env).map (.un :: ·)
  | _ :: _, [] => none

structure Fn where
  name : Str
  ps : List Str
  N : List Str
  body : S
  fresh : Bool
structure Tab where
  fns : List Fn
  cons : List (Str × Da)
  /-- exception classes: name, attribute (none: made with a text) -/
  cls : List (Str × Option Str)
  /-- class i is matched by except j -/
  sub : List (List Bool)

abbrev Rc := R (List Sl) (Da × List Sl)
abbrev Calls := Nat → List Sl → Rc

/-- if it yields a list, it is a new one -/
def fresh (T : Tab) : E → Bool
  | .var _ => false
  | .bor _ => false
  | .gl _ => false
  | .idx _ _ => false
  | .and _ _ => false
  | .or _ _ => false
  | .mm _ _ _ => false
  | .callx _ _ _ => false
  | .call f _ => match T.fns[f]? with
    | some g => g.fresh
    | none => false
  | .call0 f => match T.fns[f]? with
    | some g => g.fresh
    | none => false
  | .ite _ a b => fresh T a && fresh T b
  | .io _ => false
  | _ => true

section
variable (T : Tab) (call : Calls)

/-- one after another -/
def R.bnd {α β : Type} (r : R Env (α × Env)) (f : α → Env → R Env β) : R Env β :=
  match r with
  | .ok (a, env) => f a env
  | .exc x e => .exc x e
  | .bad => .bad
/-- where nothing may be raised -/
def R.bndX {α β : Type} (r : R Env (α × Env)) (f : α → Env → R Env β) : R Env β :=
  match r with
  | .ok (a, env) => f a env
  | .exc _ _ => .bad
  | .bad => .bad
def optB {ε α β : Type} (o : Option α) (f : α → R ε β) : R ε β :=
  match o with
  | some a => f a
  | none => .bad
def intB {α : Type} (d : Da) (f : Int → R Env α) : R Env α :=
  match d with
  | .int i => f i
  | _ => .bad
def lstB {α : Type} (d : Da) (f : List Da → R Env α) : R Env α :=
  match d with
  | .list i => f i
  | _ => .bad
/-- the own list at slot i that may be changed -/
def ownB {α : Type} (env : Env) (i : Nat) (f : Nat → List Da → R Env α) : R Env α :=
  match env[i]? with
  | some (.own m (.list xs)) => if m ≤ 1 then f m xs else .bad
  | _ => .bad
def iteB {ε α : Type} (c : Bool) (r : R ε α) : R ε α := match c with
  | true => r
  | false => .bad

def callV (f : Nat) (avs : List Av) (env : Env) : R Env (Da × Env) :=
  optB (resolve env avs) fun sls =>
    iteB (nodupN (ownArgs env avs)) (
      match call f sls with
      | .ok (d, outs) => optB (putBack env avs outs) fun env1 => .ok (d, env1)
      | .exc x outs => optB (putBack env avs outs) fun env1 => .exc x env1
      | .bad => .bad)

/-- a comprehension's turns -/
def lcLoop (step : Da → Env → R Env (Option Da × Env)) : List Da → Env → R Env (List Da × Env)
  | [], env => .ok ([], env)
  | x :: xs, env => (step x env).bndX fun o env1 => (lcLoop step xs env1).bndX fun ds env2 => .ok (match o with
    | some d => d :: ds
    | none => ds, env2)

/-- what an expression does, in each of its places: as a value, a test, a list of values, arguments, something walked, a part of a slice, a method's argument, a comprehension's test -/
structure EvR where
  e : Env → R Env (Da × Env)
  v : Env → R Env (Da × Env)
  t : Env → R Env (Bool × Env)
  l : Env → R Env (List Da × Env)
  a : Env → R Env (List Av × Env)
  i : Env → R Env (List Da × Env)
  p : Env → R Env (Option Int × Env)
  m : Env → R Env (Da × Env)
  c : Env → R Env (Bool × Env)
def truB (x : Da) (env : Env) : R Env (Bool × Env) := optB (truD x) fun b => .ok (b, env)
def EvR.ofE (f : Env → R Env (Da × Env)) : EvR where
  e := f
  v := f
  t := fun env => (f env).bnd truB
  l := fun _ => .bad
  a := fun _ => .bad
  i := fun env => (f env).bnd fun x env1 => optB (itemsD x) fun xs => .ok (xs, env1)
  p := fun env => (f env).bnd fun x env1 => intB x fun i => .ok (some i, env1)
  m := f
  c := fun env => (f env).bnd truB
/-- .. with a test of its own -/
def EvR.ofT (f : Env → R Env (Da × Env)) (t : Env → R Env (Bool × Env)) : EvR := { EvR.ofE f with t := t, c := t }
def EvR.none : EvR where
  e := fun _ => .bad
  v := fun _ => .bad
  t := fun _ => .bad
  l := fun _ => .bad
  a := fun _ => .bad
  i := fun _ => .bad
  p := fun _ => .bad
  m := fun _ => .bad
  c := fun _ => .bad
/-- two operands -/
def two {α : Type} (a : E) (A B : Env → R Env (Da × Env)) (env : Env) (f : Da → Da → Env → R Env α) : R Env α :=
  (A env).bnd fun x env1 => (B env1).bnd fun y env2 => optB (rr a env2 x) fun x' => f x' y env2
/-- what the method is asked of -/
def recv (m : M1) (x : Da) : Bool := match m with
  | .index => match x with
    | .list _ => true
    | _ => false
  | _ => match x with
    | .str _ => true
    | _ => false
def ownL (env : Env) (i : Nat) : Bool := match env[i]? with
  | some (.own _ (.list _)) => true
  | _ => false
def hasV (env : Env) (i : Nat) : Bool := match env[i]? with
  | some (.val _) => true
  | some (.own _ _) => true
  | some (.scr _) => true
  | _ => false
def evVar (i : Nat) (env : Env) : R Env (Da × Env) := match env[i]? with
  | some (.val d) => .ok (d, env)
  | some (.own 0 d) => .ok (d, env.set i (.val d))
  | _ => .bad
def evBor (i : Nat) (env : Env) : R Env (Da × Env) := match env[i]? with
  | some (.val d) => .ok (d, env)
  | some (.own _ d) => .ok (d, env)
  | _ => .bad
def evMv (i : Nat) (env : Env) : R Env (Da × Env) := match env[i]? with
  | some (.own 0 d) => .ok (d, env.set i .un)
  | _ => .bad
def evIo (i : Nat) (env : Env) : R Env (List Da × Env) := match env[i]? with
  | some (.scr ns) => .ok (ns.map .int, env)
  | _ => .bad
def isNoneD : Da → Bool
  | .none => true
  | _ => false
def isC (n : Bool) (d x : Da) (env : Env) : R Env (Da × Env) := match d with
  | .none => .ok (.bool (n != isNoneD x), env)
  | .bool k => match x with
    | .bool j => .ok (.bool (n != decide (j = k)), env)
    | _ => .bad
  | _ => .bad
/-- one turn of a comprehension -/
def lcStep (vs : List Nat) (tg : Tg) (C : Env → R Env (Bool × Env)) (A : Env → R Env (Da × Env)) (x : Da) (env : Env) : R Env (Option Da × Env) :=
  optB (asgT tg x env) fun env2 => (C env2).bndX fun b env3 => match b with
    | true => (A env3).bndX fun d env4 => .ok (some d, wipeE env4 vs)
    | false => .ok (Option.none, wipeE env3 vs)
def evLc (vs : List Nat) (lk : Option Nat) (step : Da → Env → R Env (Option Da × Env)) (xs : List Da) (env1 : Env) : R Env (Da × Env) :=
  iteB (plainAt env1 vs && decide (xs.length ≤ sizeLine)) ((lcLoop step xs (wipeE (lock env1 lk) vs)).bndX fun ds env5 => .ok (.list ds, unlock env1 (restE env1 env5 vs) lk))

def ev : E → EvR
  | .var i => .ofE (evVar i)
  | .bor i => { EvR.ofE (evBor i) with v := fun _ => .bad, m := fun _ => .bad }
  | .mv i => .ofE (evMv i)
  | .io i => { EvR.none with i := evIo i }
  | .kc d => .ofE fun env => .ok (d, env)
  | .gl c => .ofE fun env => optB T.cons[c]? fun p => .ok (p.2, env)
  | .nil => { EvR.none with
    l := fun env => .ok ([], env)
    a := fun env => .ok ([], env)
    p := fun env => .ok (Option.none, env)
    m := fun env => .ok (.none, env)
    c := fun env => .ok (true, env) }
  | .cons x r => { EvR.none with
    l := fun env => ((ev x).v env).bnd fun d env1 => ((ev r).l env1).bnd fun ds env2 => .ok (d :: ds, env2)
    a := match x with
      | .io i => fun env => iteB (hasV env i) (((ev r).a env).bnd fun ds env2 => .ok (.s i :: ds, env2))
      | _ => fun env => ((ev x).v env).bnd fun d env1 => ((ev r).a env1).bnd fun ds env2 => .ok (.v d :: ds, env2) }
  | .tup es => .ofE fun env => ((ev es).l env).bnd fun ds env1 => iteB (decide (ds.length ≤ sizeLine)) (.ok (.tuple ds, env1))
  | .lst es => .ofE fun env => ((ev es).l env).bnd fun ds env1 => iteB (decide (ds.length ≤ sizeLine)) (.ok (.list ds, env1))
  | .call f es => .ofE fun env => ((ev es).a env).bnd fun avs env1 => callV call f avs env1
  | .call0 f => .ofE fun env => match call f [] with
    | .ok (d, _) => .ok (d, env)
    | .exc _ _ => .bad
    | .bad => .bad
  | .callx fs ix es => .ofE fun env => ((ev ix).e env).bnd fun x env1 => intB x fun i => optB (L2.ixN fs.length i) fun k => optB fs[k]? fun f =>
      ((ev es).a env1).bnd fun avs env2 => callV call f avs env2
  | .b1 b a => .ofE fun env => ((ev a).e env).bnd fun x env1 => optB (b1D b x) fun d => .ok (d, env1)
  | .b2 b a c => .ofE fun env => two a (ev a).e (ev c).e env fun x y env2 => optB (b2D b x y) fun d => .ok (d, env2)
  | .m1 m o a => .ofE fun env => ((ev o).e env).bnd fun x env1 => iteB (recv m x) (((ev a).e env1).bnd fun y env2 => optB (rr o env2 x) fun x' => optB (m1D m x' y) fun d => .ok (d, env2))
  | .mm m i a => .ofE fun env => iteB (ownL env i) (((ev a).m env).bnd fun y env1 => ownB env1 i fun k xs => optB (mmD m xs y) fun p => .ok (p.1, env1.set i (.own k (.list p.2))))
  | .bin o a b => .ofE fun env => two a (ev a).e (ev b).e env fun x y env2 => optB (binD o x y) fun d => .ok (d, env2)
  | .neg a => .ofE fun env => ((ev a).e env).bnd fun x env1 => intB x fun i => .ok (.int (-i), env1)
  | .cmp o a b => .ofE fun env => two a (ev a).e (ev b).e env fun x y env2 => optB (cmpD o x y) fun d => .ok (.bool d, env2)
  | .chain o o' a b c => .ofE fun env => (((ev a).e env).bnd fun x env1 => ((ev b).e env1).bnd fun y env2 => optB (rr a env2 x) fun x' => optB (cmpD o x' y) fun k => match k with
      | true => ((ev c).e env2).bnd fun z env3 => optB (rr b env3 y) fun y' => optB (cmpD o' y' z) fun d => .ok (.bool d, env3)
      | false => .ok (.bool false, env2))
  | .isC n a d => .ofE fun env => ((ev a).e env).bnd fun x env1 => isC n d x env1
  | .isi a t => .ofE fun env => ((ev a).e env).bnd fun x env1 => iteB (isTyOk x) (.ok (.bool (isTy t x), env1))
  | .nt a => .ofT (fun env => ((ev a).e env).bnd fun x env1 => optB (truD x) fun b => .ok (.bool (!b), env1)) fun env => ((ev a).t env).bnd fun b env1 => .ok (!b, env1)
  | .and a b => .ofT (fun env => ((ev a).v env).bnd fun x env1 => optB (truD x) fun k => match k with
      | true => (ev b).v env1
      | false => .ok (x, env1)) fun env => ((ev a).t env).bnd fun k env1 => match k with
      | true => (ev b).t env1
      | false => .ok (false, env1)
  | .or a b => .ofT (fun env => ((ev a).v env).bnd fun x env1 => optB (truD x) fun k => match k with
      | true => .ok (x, env1)
      | false => (ev b).v env1) fun env => ((ev a).t env).bnd fun k env1 => match k with
      | true => .ok (true, env1)
      | false => (ev b).t env1
  | .ite c a b => .ofE fun env => ((ev c).t env).bnd fun k env1 => match k with
      | true => (ev a).v env1
      | false => (ev b).v env1
  | .idx a b => .ofE fun env => two a (ev a).e (ev b).e env fun x y env2 => optB (idxD x y) fun d => .ok (d, env2)
  | .sl a lo hi => .ofE fun env => ((ev a).e env).bnd fun x env1 => ((ev lo).p env1).bnd fun l env2 => ((ev hi).p env2).bnd fun h env3 => optB (rr a env3 x) fun x' => optB (slD x' l h) fun d => .ok (d, env3)
  | .rev a => .ofE fun env => ((ev a).e env).bnd fun x env1 => optB (revD x) fun d => .ok (d, env1)
  | .rg1 a => { EvR.none with i := fun env => ((ev a).e env).bnd fun x env1 => intB x fun n => optB (rangeD 0 n) fun xs => .ok (xs, env1) }
  | .rg2 a b => { EvR.none with i := fun env => ((ev a).e env).bnd fun x env1 => ((ev b).e env1).bnd fun y env2 => intB x fun m => intB y fun n => optB (rangeD m n) fun xs => .ok (xs, env2) }
  | .rg3 _ _ _ => .none
  | .enm a => { EvR.none with i := fun env => ((ev a).e env).bnd fun x env1 => lstB x fun xs => .ok (xs.zipIdx.map fun p => .tuple [.int (p.2 : Nat), p.1], env1) }
  | .zip a b => { EvR.none with i := fun env => two a (ev a).v (ev b).v env fun x y env2 => lstB x fun xs => lstB y fun ys => .ok ((xs.zip ys).map fun p => .tuple [p.1, p.2], env2) }
  | .lc vs tg it cond elt => .ofE fun env => ((ev it).i env).bnd fun xs env1 => evLc vs (lockOf it) (lcStep vs tg (ev cond).c (ev elt).v) xs env1
abbrev evalE (e : E) := (ev T call e).e
abbrev evalV (e : E) := (ev T call e).v
abbrev evalT (e : E) := (ev T call e).t

def forLoop (step : Da → Env → R Env (Fl × Env)) : List Da → Env → R Env (Fl × Env)
  | [], env => .ok (.nx, env)
  | x :: xs, env => match step x env with
    | .ok (.nx, env1) => forLoop step xs env1
    | .ok (.cont, env1) => forLoop step xs env1
    | .ok (.brk, env1) => .ok (.nx, env1)
    | .ok (.ret d, env1) => .ok (.ret d, env1)
    | .exc x e => .exc x e
    | .bad => .bad
def whLoop (cond : Env → R Env (Bool × Env)) (step : Env → R Env (Fl × Env)) : Nat → Env → R Env (Fl × Env)
  | 0, _ => .bad
  | n + 1, env => match cond env with
    | .ok (true, env0) => match step env0 with
      | .ok (.nx, env1) => whLoop cond step n env1
      | .ok (.cont, env1) => whLoop cond step n env1
      | .ok (.brk, env1) => .ok (.nx, env1)
      | .ok (.ret d, env1) => .ok (.ret d, env1)
      | .exc x e => .exc x e
      | .bad => .bad
    | .ok (false, env0) => .ok (.nx, env0)
    | .exc x e => .exc x e
    | .bad => .bad
/-- the most turns of a while -/
def whMost : Nat := 1000000

/-- several names at once, from the right: their values, new lists for the own ones -/
def parSet (env : Env) : List (Nat × Bool) → List Da → Option Env
  | [], [] => some env
  | (i, o) :: ts, d :: ds => match parSet env ts ds with
    | some env' => match o with
      | true => setO env' i d
      | false => setv env' i d
    | none => none
  | _, _ => none
/-- each own one's value is new -/
def parOk : List (Nat × Bool) → E → Bool
  | [], .nil => true
  | (_, o) :: ts, .cons e es => (!o || fresh T e) && parOk ts es
  | _, _ => false
def matches_ (c j : Nat) : Bool := ((T.sub.getD c []).getD j false)

/-- what an own error class may keep -/
def iniV (f : Str) : Da → Bool
  | .str _ => !(f == ("at" : Str))
  | .int i => (f == ("at" : Str)) && (decide (i.natAbs.log2 < 1920) && decide ((Str.ofString (toString i)).length ≤ 1000))
  | _ => false
def xev (x : Ex) : XE → Option Da
  | .fld f => match T.cls[x.cls]? with
    | some (_, some g) => if f = g then x.fld.filter (iniV g) else none
    | _ => none
  | .str s => some (.str s)
  | .add a b => match xev x a, xev x b with
    | some (.str s), some (.str t) => if s.length + t.length ≤ sizeLine then some (.str (s ++ t)) else none
    | _, _ => none
  | .isx c => some (.bool (matches_ T x.cls c))
  | .ite c a b => if matches_ T x.cls c then xev x a else xev x b
  | .pair a b => match xev x a, xev x b with
    | some d, some e => some (.tuple [d, e])
    | _, _ => none
/-- a name that goes -/
def clrN (env : Env) (j : Nat) : Option Env := match env[j]? with
  | some .un => some (env.set j .un)
  | some (.val _) => some (env.set j .un)
  | _ => none
def setX (env : Env) (j : Nat) (x : Ex) : Option Env :=
  match env[j]? with
  | some (.own _ _) => none
  | some (.scr _) => none
  | some _ => some (env.set j (.exc x))
  | none => none
def setB (o : Option Env) : R Env (Fl × Env) := optB o fun env => .ok (.nx, env)
/-- a block: statements, except clauses -/
structure SvR where
  s : Env → R Env (Fl × Env)
  h : Ex → Env → R Env (Fl × Env)
def SvR.ofS (f : Env → R Env (Fl × Env)) : SvR := ⟨f, fun x env => .exc x env⟩
def seqB (r : R Env (Fl × Env)) (f : Env → R Env (Fl × Env)) : R Env (Fl × Env) := match r with
  | .ok (.nx, env) => f env
  | r => r
/-- slot i's own list at place k becomes d -/
def putI (env : Env) (i : Nat) (k : Int) (d : Da) : R Env Env := ownB env i fun m xs => optB (L2.ixN xs.length k) fun j => .ok (env.set i (.own m (.list (xs.set j d))))
def eachB (f : Env → R Env (Fl × Env)) (t : Tg) (x : Da) (env : Env) : R Env (Fl × Env) := optB (asgT t x env) f
def augB (o : BOp) (i : Nat) (x : Da) (env : Env) (A : Env → R Env (Da × Env)) : R Env (Fl × Env) := intB x fun _ => (A env).bnd fun y env1 => intB y fun _ => optB (binD o x y) fun d => setB (setv env1 i d)
def unlk (env1 : Env) (lk : Option Nat) (r : R Env (Fl × Env)) : R Env (Fl × Env) := match r with
  | .ok (fl, env2) => .ok (fl, unlock env1 env2 lk)
  | .exc x e => .exc x (unlock env1 e lk)
  | .bad => .bad
def hndB (j : Nat) (x : Ex) (env : Env) (f : Env → R Env (Fl × Env)) : R Env (Fl × Env) := optB (setX env j x) fun env1 => match f env1 with
  | .ok (fl, env2) => .ok (fl, env2.set j .un)
  | .exc _ _ => .bad
  | .bad => .bad
def noX (r : R Env (Fl × Env)) : R Env (Fl × Env) := match r with
  | .exc _ _ => .bad
  | r => r
def tryB (r : R Env (Fl × Env)) (h : Ex → Env → R Env (Fl × Env)) : R Env (Fl × Env) := match r with
  | .exc x env => h x env
  | r => r

def sv : S → SvR
  | .skip => .ofS fun env => .ok (.nx, env)
  | .seq a b => .ofS fun env => seqB ((sv a).s env) (sv b).s
  | .expr e => .ofS fun env => (evalV T call e env).bnd fun _ env1 => .ok (.nx, env1)
  | .asg i e => .ofS fun env => (evalV T call e env).bnd fun d env1 => setB (setv env1 i d)
  | .asgO i e => .ofS fun env => iteB (fresh T e) ((evalV T call e env).bnd fun d env1 => setB (setO env1 i d))
  | .unp t e => .ofS fun env => (evalV T call e env).bnd fun d env1 => setB (asgT t d env1)
  | .par ts es => .ofS fun env => iteB (parOk T ts es) (((ev T call es).l env).bnd fun ds env1 => setB (parSet env1 ts ds))
  | .setI i ix e => .ofS fun env => (evalV T call e env).bnd fun d env1 => iteB (ownL env1 i) ((evalV T call ix env1).bnd fun k env2 => intB k fun k => match putI env2 i k d with
      | .ok env3 => .ok (.nx, env3)
      | _ => .bad)
  | .swp i ia ib a b => .ofS fun env => (evalV T call a env).bnd fun x env1 => (evalV T call b env1).bnd fun y env2 => (evalV T call ia env2).bnd fun k env3 => intB k fun k => match putI env3 i k x with
      | .ok env4 => (evalV T call ib env4).bnd fun k' env5 => intB k' fun k' => match putI env5 i k' y with
        | .ok env6 => .ok (.nx, env6)
        | _ => .bad
      | _ => .bad
  | .aug i o e => .ofS fun env => match env[i]? with
    | some (.val x) => augB o i x env (evalV T call e)
    | _ => .bad
  | .ret e => .ofS fun env => (evalV T call e env).bnd fun d env1 => .ok (.ret d, env1)
  | .retN => .ofS fun env => .ok (.ret .none, env)
  | .ite c a b => .ofS fun env => (evalT T call c env).bnd fun k env1 => match k with
      | true => (sv a).s env1
      | false => (sv b).s env1
  | .whl c b => .ofS fun env => whLoop (evalT T call c) (sv b).s whMost env
  | .for t it b => .ofS fun env => ((ev T call it).i env).bnd fun xs env1 => unlk env1 (lockOf it) (forLoop (eachB (sv b).s t) xs (lock env1 (lockOf it)))
  | .raise c a => .ofS fun env => match T.cls[c]? with
    | some (_, none) => .exc ⟨c, none⟩ env
    | some (_, some f) => (evalV T call a env).bnd fun d env1 => if iniV f d then .exc ⟨c, some d⟩ env1 else .bad
    | none => .bad
  | .tryx b h => .ofS fun env => tryB ((sv b).s env) (sv h).h
  | .hnd c i b more => ⟨fun _ => .bad, fun x env => if matches_ T x.cls c then
      match i with
      | none => noX ((sv b).s env)
      | some j => hndB j x env (sv b).s
    else (sv more).h x env⟩
  | .hndx c j e more => ⟨fun _ => .bad, fun x env => if matches_ T x.cls c then optB (xev T x e) fun d => optB (clrN env j) fun env1 => .ok (.ret d, env1)
    else (sv more).h x env⟩
  | .brk => .ofS fun env => .ok (.brk, env)
  | .cont => .ofS fun env => .ok (.cont, env)
abbrev evalS (s : S) := (sv T call s).s
end

/-- a def, its arguments as slots -/
def runFn (T : Tab) (call : Calls) (f : Nat) (args : List Sl) : Rc :=
  match T.fns[f]? with
  | some g =>
    if args.length = g.ps.length then
      match evalS T call g.body (args ++ List.replicate (g.N.length - args.length) .un) with
      | .ok (.nx, env) => match finSl args env with
        | some outs => .ok (.none, outs)
        | none => .bad
      | .ok (.ret d, env) => match finSl args env with
        | some outs => .ok (d, outs)
        | none => .bad
      | .ok _ => .bad
      | .exc x env => match finSl args env with
        | some outs => .exc x outs
        | none => .bad
      | .bad => .bad
    else .bad
  | none => .bad
/-- k calls, one in another -/
def callF (T : Tab) : Nat → Calls
  | 0 => fun _ _ => .bad
  | k + 1 => fun f args => runFn T (callF T k) f args
end PI
end
section
set_option Elab.async false
set_option linter.all false
set_option maxRecDepth 100000
/-! PIb: how a value stands in the abstract heap; the operations by the layer's rules. -/
namespace PI
open PySem PySem.Spec PyProof.Rows L2

/-! ### values in the abstract heap: G is what never changes -/
mutual
def Rep (K : PySem.W.Frag) (G : Hp) : Da → V → Prop
  | .none, v => v = .non
  | .bool b, v => v = .bl b
  | .int i, v => v = .int i
  | .str s, v => v = .str s
  | .list ds, v => ∃ a xs, v = .ref a ∧ G a = some (.lst xs) ∧ RepL K G ds xs
  | .tuple ds, v => ∃ a xs, v = .ref a ∧ SqT K G a xs ∧ RepL K G ds xs
  | .dict _, _ => False
def RepL (K : PySem.W.Frag) (G : Hp) : List Da → List V → Prop
  | [], xs => xs = []
  | d :: ds, xs => ∃ x r, xs = x :: r ∧ Rep K G d x ∧ RepL K G ds r
end
section
variable {K : PySem.W.Frag} {G G' H H' : Hp}
theorem sameT (h : Same G G') {a : Addr} {xs : List V} (s : SqT K G a xs) : SqT K G' a xs := by
  rcases s with (s | ⟨o, s⟩) | s
  · exact .inl (.inl (h _ _ s))
  · exact .inl (.inr ⟨o, h _ _ s⟩)
  · exact .inr s
mutual
theorem Rep.mono (h : Same G G') : ∀ {d : Da} {v : V}, Rep K G d v → Rep K G' d v
  | .none, _, r => r
  | .bool _, _, r => r
  | .int _, _, r => r
  | .str _, _, r => r
  | .list ds, _, r => by
    simp only [Rep] at r ⊢
    obtain ⟨a, xs, e, g, l⟩ := r
    exact ⟨a, xs, e, h _ _ g, RepL.mono h l⟩
  | .tuple ds, _, r => by
    simp only [Rep] at r ⊢
    obtain ⟨a, xs, e, g, l⟩ := r
    exact ⟨a, xs, e, sameT h g, RepL.mono h l⟩
  | .dict _, _, r => by simp only [Rep] at r
theorem RepL.mono (h : Same G G') : ∀ {ds : List Da} {xs : List V}, RepL K G ds xs → RepL K G' ds xs
  | [], _, r => by simp only [RepL] at r ⊢; exact r
  | d :: ds, _, r => by
    simp only [RepL] at r ⊢
    obtain ⟨x, t, e, h1, h2⟩ := r
    exact ⟨x, t, e, Rep.mono h h1, RepL.mono h h2⟩
end
theorem RepL.nil : RepL K G [] [] := by simp only [RepL]
theorem RepL.cons {d : Da} {ds : List Da} {x : V} {xs : List V} (h : Rep K G d x) (t : RepL K G ds xs) : RepL K G (d :: ds) (x :: xs) := by
  simp only [RepL]; exact ⟨x, xs, rfl, h, t⟩
theorem RepL.length : ∀ {ds : List Da} {xs : List V}, RepL K G ds xs → xs.length = ds.length
  | [], _, r => by simp only [RepL] at r; rw [r]; rfl
  | d :: ds, _, r => by
    simp only [RepL] at r
    obtain ⟨x, t, e, _, h2⟩ := r
    rw [e, List.length_cons, List.length_cons, RepL.length h2]
theorem RepL.get : ∀ {ds : List Da} {xs : List V} {i : Nat} {d : Da}, RepL K G ds xs → ds[i]? = some d → ∃ x, xs[i]? = some x ∧ Rep K G d x
  | [], _, _, _, _, e => by simp at e
  | d :: ds, _, i, d', r, e => by
    simp only [RepL] at r
    obtain ⟨x, t, rfl, h1, h2⟩ := r
    cases i with
    | zero => simp at e; subst e; exact ⟨x, rfl, h1⟩
    | succ i =>
      obtain ⟨y, e1, e2⟩ := RepL.get (i := i) (d := d') h2 (by simpa using e)
      exact ⟨y, by simpa using e1, e2⟩
theorem RepL.getV {ds : List Da} {xs : List V} {i : Nat} {x : V} (r : RepL K G ds xs) (e : xs[i]? = some x) : ∃ d, ds[i]? = some d ∧ Rep K G d x := by
  have hl := r.length
  have hi : i < ds.length := by
    have := (List.getElem?_eq_some_iff.mp e).1
    omega
  obtain ⟨y, e1, e2⟩ := r.get (List.getElem?_eq_getElem hi)
  rw [e] at e1; cases e1
  exact ⟨_, List.getElem?_eq_getElem hi, e2⟩
theorem RepL.append : ∀ {ds es : List Da} {xs ys : List V}, RepL K G ds xs → RepL K G es ys → RepL K G (ds ++ es) (xs ++ ys)
  | [], _, _, _, r, s => by simp only [RepL] at r; subst r; exact s
  | d :: ds, es, _, ys, r, s => by
    simp only [RepL] at r
    obtain ⟨x, t, rfl, h1, h2⟩ := r
    exact RepL.cons h1 (RepL.append h2 s)
theorem RepL.take : ∀ {ds : List Da} {xs : List V} (n : Nat), RepL K G ds xs → RepL K G (ds.take n) (xs.take n)
  | _, _, 0, _ => by simp only [List.take_zero]; exact RepL.nil
  | [], _, n + 1, r => by simp only [RepL] at r; subst r; exact RepL.nil
  | d :: ds, _, n + 1, r => by
    simp only [RepL] at r
    obtain ⟨x, t, rfl, h1, h2⟩ := r
    exact RepL.cons h1 (RepL.take n h2)
theorem RepL.drop : ∀ {ds : List Da} {xs : List V} (n : Nat), RepL K G ds xs → RepL K G (ds.drop n) (xs.drop n)
  | _, _, 0, r => r
  | [], _, n + 1, r => by simp only [RepL] at r; subst r; exact RepL.nil
  | d :: ds, _, n + 1, r => by
    simp only [RepL] at r
    obtain ⟨x, t, rfl, h1, h2⟩ := r
    exact RepL.drop n h2
theorem RepL.set : ∀ {ds : List Da} {xs : List V} (n : Nat) {d : Da} {x : V}, RepL K G ds xs → Rep K G d x → RepL K G (ds.set n d) (xs.set n x)
  | [], _, n, _, _, r, _ => by simp only [RepL] at r; subst r; exact RepL.nil
  | d :: ds, _, 0, _, _, r, h => by
    simp only [RepL] at r
    obtain ⟨x, t, rfl, h1, h2⟩ := r
    exact RepL.cons h h2
  | d :: ds, _, n + 1, _, _, r, h => by
    simp only [RepL] at r
    obtain ⟨x, t, rfl, h1, h2⟩ := r
    exact RepL.cons h1 (RepL.set n h2 h)
theorem RepL.eraseIdx : ∀ {ds : List Da} {xs : List V} (n : Nat), RepL K G ds xs → RepL K G (ds.eraseIdx n) (xs.eraseIdx n)
  | [], _, n, r => by simp only [RepL] at r; subst r; exact RepL.nil
  | d :: ds, _, 0, r => by
    simp only [RepL] at r
    obtain ⟨x, t, rfl, h1, h2⟩ := r
    exact h2
  | d :: ds, _, n + 1, r => by
    simp only [RepL] at r
    obtain ⟨x, t, rfl, h1, h2⟩ := r
    exact RepL.cons h1 (RepL.eraseIdx n h2)
theorem RepL.dropLast {ds : List Da} {xs : List V} (r : RepL K G ds xs) : RepL K G ds.dropLast xs.dropLast := by
  rw [List.dropLast_eq_take, List.dropLast_eq_take, r.length]
  exact r.take _
theorem RepL.reverse : ∀ {ds : List Da} {xs : List V}, RepL K G ds xs → RepL K G ds.reverse xs.reverse
  | [], _, r => by simp only [RepL] at r; subst r; exact RepL.nil
  | d :: ds, _, r => by
    simp only [RepL] at r
    obtain ⟨x, t, rfl, h1, h2⟩ := r
    rw [List.reverse_cons, List.reverse_cons]
    exact RepL.append (RepL.reverse h2) (RepL.cons h1 RepL.nil)
theorem RepL.rep {ds : List Da} {xs : List V} (r : RepL K G ds xs) : ∀ n : Nat, RepL K G (List.replicate n ds).flatten (List.replicate n xs).flatten
  | 0 => RepL.nil
  | n + 1 => by
    rw [List.replicate_succ, List.replicate_succ, List.flatten_cons, List.flatten_cons]
    exact RepL.append r (RepL.rep r n)
theorem RepL.ints : ∀ {ds : List Da} {xs : List V} {ns : List Int}, RepL K G ds xs → intsD ds = some ns → xs = ns.map V.int
  | [], _, _, r, e => by
    simp only [RepL] at r; simp only [intsD, Option.some.injEq] at e
    rw [r, ← e]; rfl
  | d :: ds, _, ns, r, e => by
    simp only [RepL] at r
    obtain ⟨x, t, rfl, h1, h2⟩ := r
    cases d with
    | int i =>
      simp only [intsD, Option.map_eq_some_iff] at e
      obtain ⟨ms, e1, rfl⟩ := e
      simp only [Rep] at h1
      rw [h1, RepL.ints h2 e1, List.map_cons]
    | _ => simp [intsD] at e
theorem RepL.bls : ∀ {ds : List Da} {xs : List V} {ns : List Bool}, RepL K G ds xs → blsD ds = some ns → xs = ns.map V.bl
  | [], _, _, r, e => by
    simp only [RepL] at r; simp only [blsD, Option.some.injEq] at e
    rw [r, ← e]; rfl
  | d :: ds, _, ns, r, e => by
    simp only [RepL] at r
    obtain ⟨x, t, rfl, h1, h2⟩ := r
    cases d with
    | bool i =>
      simp only [blsD, Option.map_eq_some_iff] at e
      obtain ⟨ms, e1, rfl⟩ := e
      simp only [Rep] at h1
      rw [h1, RepL.bls h2 e1, List.map_cons]
    | _ => simp [blsD] at e
theorem RepL.strs : ∀ {ds : List Da} {xs : List V} {ns : List Str}, RepL K G ds xs → strsD ds = some ns → xs = ns.map V.str
  | [], _, _, r, e => by
    simp only [RepL] at r; simp only [strsD, Option.some.injEq] at e
    rw [r, ← e]; rfl
  | d :: ds, _, ns, r, e => by
    simp only [RepL] at r
    obtain ⟨x, t, rfl, h1, h2⟩ := r
    cases d with
    | str i =>
      simp only [strsD, Option.map_eq_some_iff] at e
      obtain ⟨ms, e1, rfl⟩ := e
      simp only [Rep] at h1
      rw [h1, RepL.strs h2 e1, List.map_cons]
    | _ => simp [strsD] at e
theorem RepL.ofStrs : ∀ ys : List Str, RepL K G (ys.map PyData.str) (ys.map V.str)
  | [] => RepL.nil
  | y :: ys => RepL.cons (by simp only [Rep]) (RepL.ofStrs ys)
theorem RepL.ofInts : ∀ ys : List Int, RepL K G (ys.map PyData.int) (ys.map V.int)
  | [] => RepL.nil
  | y :: ys => RepL.cons (by simp only [Rep]) (RepL.ofInts ys)
mutual
theorem Rep.dp (h : Same G H) : ∀ {d : Da} {v : V}, Rep K G d v → Dp K H v d
  | .none, _, r => by simp only [Rep] at r; subst r; exact .non
  | .bool _, _, r => by simp only [Rep] at r; subst r; exact .bl _
  | .int _, _, r => by simp only [Rep] at r; subst r; exact .int _
  | .str _, _, r => by simp only [Rep] at r; subst r; exact .str _
  | .list ds, _, r => by
    simp only [Rep] at r
    obtain ⟨a, xs, rfl, g, l⟩ := r
    exact .lst (SqL.of (h _ _ g)) (RepL.dp h l)
  | .tuple ds, _, r => by
    simp only [Rep] at r
    obtain ⟨a, xs, rfl, g, l⟩ := r
    exact .tup (sameT h g) (RepL.dp h l)
  | .dict _, _, r => by simp only [Rep] at r
theorem RepL.dp (h : Same G H) : ∀ {ds : List Da} {xs : List V}, RepL K G ds xs → DpAll K H xs ds
  | [], _, r => by simp only [RepL] at r; subst r; exact .nil
  | d :: ds, _, r => by
    simp only [RepL] at r
    obtain ⟨x, t, rfl, h1, h2⟩ := r
    exact .cons (Rep.dp h h1) (RepL.dp h h2)
end

/-- an operand: a list may stand anywhere -/
def RepO (K : PySem.W.Frag) (G H : Hp) (d : Da) (v : V) : Prop :=
  match d with
  | .list ds => ∃ a xs, v = .ref a ∧ H a = some (.lst xs) ∧ RepL K G ds xs
  | d => Rep K G d v
theorem RepO.of (h : Same G H) {d : Da} {v : V} (r : Rep K G d v) : RepO K G H d v := by
  cases d with
  | list ds =>
    simp only [Rep] at r
    obtain ⟨a, xs, e, g, l⟩ := r
    exact ⟨a, xs, e, h _ _ g, l⟩
  | _ => exact r
theorem RepO.dp (h : Same G H) {d : Da} {v : V} (r : RepO K G H d v) : Dp K H v d := by
  cases d with
  | list ds =>
    obtain ⟨a, xs, rfl, g, l⟩ := r
    exact .lst (SqL.of g) (l.dp h)
  | _ => exact Rep.dp h r
/-- a new result: a list stands at a new place -/
def RepN (K : PySem.W.Frag) (G' H H' : Hp) (d : Da) (v : V) : Prop :=
  match d with
  | .list ds => ∃ p xs, v = .ref p ∧ H' p = some (.lst xs) ∧ H p = none ∧ G' p = none ∧ RepL K G' ds xs
  | d => Rep K G' d v
/-- what must be shown of a result d over the heap H -/
def Res (K : PySem.W.Frag) (G H : Hp) (d : Da) (Q : VK) : Prop :=
  ∀ v H' G', Same G G' → Same G' H' → Same H H' → (∀ b, H b ≠ none → G b = none → G' b = none) → RepN K G' H H' d v → Q v H'
theorem same_upd {p : Addr} {o : HO} (h : H p = none) : Same H (upd H p o) := fun b x e => by
  rw [upd_ne (ne_of_none e h)]
  exact e
theorem same_none (g : Same G H) {p : Addr} (h : H p = none) : G p = none := by
  cases e : G p with
  | none => rfl
  | some o => rw [g _ _ e] at h; cases h
theorem same_upd2 (g : Same G H) {p : Addr} {o : HO} (h : H p = none) : Same (upd G p o) (upd H p o) := fun b x e => by
  by_cases hb : b = p
  · subst hb; rw [upd_same] at e ⊢; exact e
  · rw [upd_ne hb] at e ⊢; exact g _ _ e
section
variable {Q : VK} {d : Da}
/-- a scalar, or what stood already -/
theorem Res.here (g : Same G H) (q : Res K G H d Q) {v : V} (r : Rep K G d v) (hd : ∀ ds, d ≠ .list ds := by intro _ z; cases z) : Q v H := by
  refine q v H G (Same.refl _) g (Same.refl _) (fun _ _ h => h) ?_
  cases d with
  | list ds => exact absurd rfl (hd ds)
  | _ => exact r
theorem Res.newL (g : Same G H) {ds : List Da} (q : Res K G H (.list ds) Q) {xs : List V} (r : RepL K G ds xs) {p : Addr} (h : H p = none) : Q (.ref p) (upd H p (.lst xs)) :=
  q (.ref p) _ G (Same.refl _) (fun b x e => same_upd h _ _ (g _ _ e)) (same_upd h) (fun _ _ h => h) ⟨p, xs, rfl, upd_same, h, same_none g h, r⟩
theorem Res.newT (g : Same G H) {ds : List Da} (q : Res K G H (.tuple ds) Q) {xs : List V} (r : RepL K G ds xs) {p : Addr} (h : H p = none) : Q (.ref p) (upd H p (.tup xs)) := by
  have gp := same_none g h
  refine q (.ref p) _ (upd G p (.tup xs)) (same_upd gp) (same_upd2 g h) (same_upd h) (fun b hb gb => ?_) ?_
  · rw [upd_ne (fun e => hb (by rw [e]; exact h))]
    exact gb
  · simp only [RepN, Rep]
    exact ⟨p, xs, rfl, SqT.of upd_same, r.mono (same_upd gp)⟩
end
end

/-! ### operators -/
def opOf : BOp → Operator
  | .add => .Add
  | .sub => .Sub
  | .mul => .Mult
  | .mod => .Mod
  | .fdiv => .FloorDiv
  | .pow => .Pow
  | .shl => .LShift
def cmpOf : COp → CmpOp
  | .eq => .Eq
  | .ne => .NotEq
  | .lt => .Lt
  | .le => .LtE
  | .gt => .Gt
  | .ge => .GtE
  | .isin => .In
  | .notin => .NotIn
def rBin (K : PySem.W.Frag) (f : Da → Da → Option Da) : R2 := fun x y H Q => ∃ G dx dy d, Same G H ∧ RepO K G H dx x ∧ RepO K G H dy y ∧ f dx dy = some d ∧ Res K G H d Q
theorem mulOk_of {i j : Int} (h : mulOk i j = true) : CMul i j ∨ CMulW i j := by
  unfold mulOk at h
  simp only [Bool.or_eq_true, decide_eq_true_eq] at h
  rcases h with (h | h) | h
  · exact .inl (.inl (by omega))
  · exact .inl (.inr (by omega))
  · exact .inr h
theorem divW_of {i j : Int} (h : 0 < j ∧ j < 2 ^ 4000) : CDivW i j :=
  wide_div (b := 4000) h.1 (by
    have h1 := h.1
    have h2 := h.2
    have e : ((j.natAbs : Nat) : Int) = j := by omega
    have e2 : ((2 ^ 4000 : Nat) : Int) = 2 ^ 4000 := by norm_cast
    omega) (by decide) (by decide)
theorem op_mul_str {X : Cx} : OpR X (binaryOp .Mult) (fun x y H Q => ∃ (i : Str) (k : Int), x = .str i ∧ y = .int k ∧ (-1000 ≤ k ∧ k ≤ 1000 ∧ i.length ≤ 1000) ∧ Q (.str (Txt.mul i k)) H) := by
  intro pins s σ H x y v u Q I rx ry h
  obtain ⟨i, k, rfl, rfl, hz, q⟩ := h
  obtain ⟨t, rfl⟩ := rx
  obtain ⟨t', rfl⟩ := ry
  exact SB.mul (PyProof.Rows.mulOk_of 1000 1000 hz.2.2 hz.2.1 (by omega) (by decide) (by decide)) (fun t' tk => ⟨.str (Txt.mul i k), H, I.tok _, ⟨_, rfl⟩, q⟩)
section
variable {X : Cx}
theorem op_bin : ∀ o : BOp, OpR X (binaryOp (opOf o)) (rBin X.K (binD o)) := by
  intro o pins s σ H x y v u Q I rx ry h
  obtain ⟨G, dx, dy, d, g, hx, hy, e, q⟩ := h
  cases o with
  | add =>
    cases dx with
    | int i =>
      cases dy with
      | int j =>
        simp only [binD, addD, Option.some.injEq] at e
        subst e
        exact op_add pins s σ H x y v u Q I rx ry ⟨i, j, hx, hy, q.here g rfl⟩
      | _ => simp [binD, addD] at e
    | str a =>
      cases dy with
      | str b =>
        simp only [binD, addD] at e
        split at e
        · simp only [Option.some.injEq] at e
          subst e
          exact op_add_str pins s σ H x y v u Q I rx ry ⟨a, b, hx, hy, by assumption, q.here g rfl⟩
        · cases e
      | _ => simp [binD, addD] at e
    | list a =>
      cases dy with
      | list b =>
        simp only [binD, addD] at e
        split at e
        · simp only [Option.some.injEq] at e
          subst e
          obtain ⟨l1, xs, e1, h1, r1⟩ := hx
          obtain ⟨l2, ys, e2, h2, r2⟩ := hy
          refine op_cat pins s σ H x y v u Q I rx ry ⟨l1, l2, xs, ys, e1, e2, h1, h2, ?_, fun p hp => q.newL g (r1.append r2) hp⟩
          rw [r1.length, r2.length]; assumption
        · cases e
      | _ => simp [binD, addD] at e
    | tuple a =>
      cases dy with
      | tuple b =>
        simp only [binD, addD] at e
        split at e
        · simp only [Option.some.injEq] at e
          subst e
          simp only [RepO, Rep] at hx hy
          obtain ⟨l1, xs, e1, h1, r1⟩ := hx
          obtain ⟨l2, ys, e2, h2, r2⟩ := hy
          refine op_catA pins s σ H x y v u Q I rx ry ⟨l1, l2, xs, ys, e1, e2, sameT g h1, sameT g h2, ?_, fun z => ?_, fun z z2 => ?_, fun _ _ p hp => q.newT g (r1.append r2) hp⟩
          · rw [r1.length, r2.length]; assumption
          · have hl := r1.length
            rw [z] at hl
            have : a = [] := List.length_eq_zero_iff.mp hl.symm
            subst this
            refine q.here g ?_
            simp only [Rep, List.nil_append]
            exact ⟨l2, ys, rfl, h2, r2⟩
          · have hl := r2.length
            rw [z2] at hl
            have : b = [] := List.length_eq_zero_iff.mp hl.symm
            subst this
            refine q.here g ?_
            simp only [Rep, List.append_nil]
            exact ⟨l1, xs, rfl, h1, r1⟩
        · cases e
      | _ => simp [binD, addD] at e
    | _ => simp [binD, addD] at e
  | sub =>
    cases dx with
    | int i =>
      cases dy with
      | int j =>
        simp only [binD, Option.some.injEq] at e
        subst e
        exact op_sub pins s σ H x y v u Q I rx ry ⟨i, j, hx, hy, q.here g rfl⟩
      | _ => simp [binD] at e
    | _ => simp [binD] at e
  | mul =>
    cases dx with
    | int i =>
      cases dy with
      | int j =>
        simp only [binD] at e
        split at e
        · rename_i hm
          simp only [Option.some.injEq] at e
          subst e
          rcases mulOk_of hm with hc | hc
          · exact op_mul pins s σ H x y v u Q I rx ry ⟨i, j, hx, hy, hc, q.here g rfl⟩
          · exact op_mulW pins s σ H x y v u Q I rx ry ⟨i, j, hx, hy, hc, q.here g rfl⟩
        · cases e
      | _ => simp [binD] at e
    | list a =>
      cases dy with
      | int k =>
        simp only [binD] at e
        split at e
        · rename_i hm
          simp only [Option.some.injEq] at e
          subst e
          obtain ⟨l1, xs, e1, h1, r1⟩ := hx
          exact op_rep pins s σ H x y v u Q I rx ry ⟨l1, k, xs, e1, hy, h1, hm.1, hm.2.1, by rw [r1.length]; exact hm.2.2, fun p hp => q.newL g (r1.rep _) hp⟩
        · cases e
      | _ => simp [binD] at e
    | tuple a =>
      cases dy with
      | int k =>
        simp only [binD] at e
        split at e
        · rename_i hm
          simp only [Option.some.injEq] at e
          subst e
          simp only [RepO, Rep] at hx
          obtain ⟨l1, xs, e1, h1, r1⟩ := hx
          have hl := r1.length
          exact op_repT pins s σ H x y v u Q I rx ry ⟨l1, k, xs, e1, hy, sameT g h1, (fun z => by rw [z, List.length_nil] at hl; omega), hm.1, hm.2.1, by omega, fun p hp => q.newT g (r1.rep _) hp⟩
        · cases e
      | _ => simp [binD] at e
    | str a =>
      cases dy with
      | int k =>
        simp only [binD] at e
        split at e
        · rename_i hm
          simp only [Option.some.injEq] at e
          subst e
          exact op_mul_str pins s σ H x y v u Q I rx ry ⟨a, k, hx, hy, hm, q.here g rfl⟩
        · cases e
      | _ => simp [binD] at e
    | _ => simp [binD] at e
  | mod =>
    cases dx with
    | int i =>
      cases dy with
      | int j =>
        simp only [binD] at e
        split at e
        · simp only [Option.some.injEq] at e
          subst e
          exact op_mod pins s σ H x y v u Q I rx ry ⟨i, j, hx, hy, by assumption, q.here g rfl⟩
        · cases e
      | _ => simp [binD] at e
    | _ => simp [binD] at e
  | fdiv =>
    cases dx with
    | int i =>
      cases dy with
      | int j =>
        simp only [binD] at e
        split at e
        · rename_i hm
          simp only [Option.some.injEq] at e
          subst e
          exact op_fdivW pins s σ H x y v u Q I rx ry ⟨i, j, hx, hy, divW_of hm, q.here g rfl⟩
        · cases e
      | _ => simp [binD] at e
    | _ => simp [binD] at e
  | pow =>
    cases dx with
    | int i =>
      cases dy with
      | int j =>
        simp only [binD] at e
        split at e
        · rename_i hm
          simp only [Option.some.injEq] at e
          subst e
          exact op_pow pins s σ H x y v u Q I rx ry ⟨i, j, hx, hy, hm, q.here g rfl⟩
        · cases e
      | _ => simp [binD] at e
    | _ => simp [binD] at e
  | shl =>
    cases dx with
    | int i =>
      cases dy with
      | int j =>
        simp only [binD] at e
        split at e
        · rename_i hm
          simp only [Option.some.injEq] at e
          subst e
          exact op_shl pins s σ H x y v u Q I rx ry ⟨i, j, hx, hy, hm, q.here g rfl⟩
        · cases e
      | _ => simp [binD] at e
    | _ => simp [binD] at e
end
end PI
end
section
set_option Elab.async false
set_option linter.all false
set_option maxRecDepth 100000
/-! PIba: sorted: the order of what is sorted; the machine's sort over it. -/
namespace PI
open PySem PySem.Spec PyProof.Rows L2

/-! ### texts in order -/
theorem str_asym {a b : Str} (h : a.cps.toList < b.cps.toList) : ¬ b.cps.toList < a.cps.toList := List.lt_asymm h
theorem str_tr {a b c : Str} (h1 : ¬ b.cps.toList < a.cps.toList) (h2 : ¬ c.cps.toList < b.cps.toList) : ¬ c.cps.toList < a.cps.toList := by
  intro h3
  have l1 : a.cps.toList ≤ b.cps.toList := List.not_lt.mp h1
  have l2 : b.cps.toList ≤ c.cps.toList := List.not_lt.mp h2
  exact List.not_lt.mpr (List.le_trans l1 l2) h3
theorem str_eq {a b : Str} (h1 : ¬ a.cps.toList < b.cps.toList) (h2 : ¬ b.cps.toList < a.cps.toList) : a = b := by
  have e : a.cps.toList = b.cps.toList := List.le_antisymm (List.not_lt.mp h2) (List.not_lt.mp h1)
  obtain ⟨⟨a⟩⟩ := a
  obtain ⟨⟨b⟩⟩ := b
  simp at e
  rw [e]
/-! ### scalars -/
theorem sc_inv {d : Da} {b : Bool} (h : scOf d = some b) : (b = false ∧ ∃ i, d = .int i) ∨ (b = true ∧ ∃ x, d = .str x) := by
  cases d with
  | int i => simp only [scOf, Option.some.injEq] at h; exact .inl ⟨h.symm, i, rfl⟩
  | str x => simp only [scOf, Option.some.injEq] at h; exact .inr ⟨h.symm, x, rfl⟩
  | _ => simp [scOf] at h
theorem sc_asym {x y : Da} {b : Bool} (hx : scOf x = some b) (hy : scOf y = some b) (h : ltV x y = true) : ltV y x = false := by
  rcases sc_inv hx with ⟨rfl, i, rfl⟩ | ⟨rfl, i, rfl⟩
  · rcases sc_inv hy with ⟨_, j, rfl⟩ | ⟨z, _⟩
    · simp only [ltV, decide_eq_true_eq, decide_eq_false_iff_not] at h ⊢; omega
    · cases z
  · rcases sc_inv hy with ⟨z, _⟩ | ⟨_, j, rfl⟩
    · cases z
    · simp only [ltV, decide_eq_true_eq, decide_eq_false_iff_not] at h ⊢; exact str_asym h
theorem sc_tr {x y z : Da} {b : Bool} (hx : scOf x = some b) (hy : scOf y = some b) (hz : scOf z = some b) (h1 : ltV y x = false) (h2 : ltV z y = false) : ltV z x = false := by
  rcases sc_inv hx with ⟨rfl, i, rfl⟩ | ⟨rfl, i, rfl⟩
  · rcases sc_inv hy with ⟨_, j, rfl⟩ | ⟨z, _⟩
    · rcases sc_inv hz with ⟨_, l, rfl⟩ | ⟨z, _⟩
      · simp only [ltV, decide_eq_false_iff_not] at h1 h2 ⊢; omega
      · cases z
    · cases z
  · rcases sc_inv hy with ⟨z, _⟩ | ⟨_, j, rfl⟩
    · cases z
    · rcases sc_inv hz with ⟨z, _⟩ | ⟨_, l, rfl⟩
      · cases z
      · simp only [ltV, decide_eq_false_iff_not] at h1 h2 ⊢; exact str_tr h1 h2
theorem sc_eq {x y : Da} {b : Bool} (hx : scOf x = some b) (hy : scOf y = some b) (h1 : ltV x y = false) (h2 : ltV y x = false) : x = y := by
  rcases sc_inv hx with ⟨rfl, i, rfl⟩ | ⟨rfl, i, rfl⟩
  · rcases sc_inv hy with ⟨_, j, rfl⟩ | ⟨z, _⟩
    · simp only [ltV, decide_eq_false_iff_not] at h1 h2; congr 1; omega
    · cases z
  · rcases sc_inv hy with ⟨z, _⟩ | ⟨_, j, rfl⟩
    · cases z
    · simp only [ltV, decide_eq_false_iff_not] at h1 h2; congr 1; exact str_eq h1 h2
theorem sc_eqv {x y : Da} {b : Bool} (hx : scOf x = some b) (hy : scOf y = some b) : PyData.eqv x y = true ↔ x = y := by
  rcases sc_inv hx with ⟨rfl, i, rfl⟩ | ⟨rfl, i, rfl⟩
  · rcases sc_inv hy with ⟨_, j, rfl⟩ | ⟨z, _⟩
    · simp [PyData.eqv]
    · cases z
  · rcases sc_inv hy with ⟨z, _⟩ | ⟨_, j, rfl⟩
    · cases z
    · simp [PyData.eqv]
/-! ### rows of scalars -/
theorem scs_cons {ds : List Da} {b : Bool} {bs : List Bool} (h : scsOf ds = some (b :: bs)) : ∃ d r, ds = d :: r ∧ scOf d = some b ∧ scsOf r = some bs := by
  cases ds with
  | nil => simp [scsOf] at h
  | cons d r =>
    simp only [scsOf] at h
    cases h1 : scOf d with
    | none => rw [h1] at h; simp at h
    | some c =>
      cases h2 : scsOf r with
      | none => rw [h1, h2] at h; simp at h
      | some cs =>
        rw [h1, h2] at h
        simp only [Option.some.injEq, List.cons.injEq] at h
        obtain ⟨rfl, rfl⟩ := h
        exact ⟨d, r, rfl, h1, h2⟩
theorem scs_nil {ds : List Da} (h : scsOf ds = some []) : ds = [] := by
  cases ds with
  | nil => rfl
  | cons d r =>
    simp only [scsOf] at h
    cases h1 : scOf d <;> cases h2 : scsOf r <;> rw [h1, h2] at h <;> simp at h
open Classical in
theorem ltVs_cons {x y : Da} {xs ys : List Da} {b : Bool} (hx : scOf x = some b) (hy : scOf y = some b) : ltVs (x :: xs) (y :: ys) = if x = y then ltVs xs ys else ltV x y := by
  have h := sc_eqv hx hy
  have e0 : ltVs (x :: xs) (y :: ys) = if PyData.eqv x y then ltVs xs ys else ltV x y := by simp only [ltVs]
  rw [e0]
  by_cases e : x = y
  · rw [if_pos e, if_pos (h.mpr e)]
  · rw [if_neg e, if_neg fun z => e (h.mp z)]
theorem scs_asym : ∀ {bs : List Bool} {xs ys : List Da}, scsOf xs = some bs → scsOf ys = some bs → ltVs xs ys = true → ltVs ys xs = false
  | [], xs, ys, hx, hy, h => by rw [scs_nil hx, scs_nil hy]; simp [ltVs]
  | b :: bs, xs, ys, hx, hy, h => by
    obtain ⟨x, xr, rfl, a1, a2⟩ := scs_cons hx
    obtain ⟨y, yr, rfl, b1, b2⟩ := scs_cons hy
    rw [ltVs_cons a1 b1] at h
    rw [ltVs_cons b1 a1]
    by_cases e : x = y
    · rw [if_pos e] at h; rw [if_pos e.symm]; exact scs_asym a2 b2 h
    · rw [if_neg e] at h; rw [if_neg (Ne.symm e)]; exact sc_asym a1 b1 h
theorem scs_eq : ∀ {bs : List Bool} {xs ys : List Da}, scsOf xs = some bs → scsOf ys = some bs → ltVs xs ys = false → ltVs ys xs = false → xs = ys
  | [], xs, ys, hx, hy, _, _ => by rw [scs_nil hx, scs_nil hy]
  | b :: bs, xs, ys, hx, hy, h1, h2 => by
    obtain ⟨x, xr, rfl, a1, a2⟩ := scs_cons hx
    obtain ⟨y, yr, rfl, b1, b2⟩ := scs_cons hy
    rw [ltVs_cons a1 b1] at h1
    rw [ltVs_cons b1 a1] at h2
    by_cases e : x = y
    · rw [if_pos e] at h1; rw [if_pos e.symm] at h2; rw [e, scs_eq a2 b2 h1 h2]
    · rw [if_neg e] at h1; rw [if_neg (Ne.symm e)] at h2; exact absurd (sc_eq a1 b1 h1 h2) e
theorem scs_tr : ∀ {bs : List Bool} {xs ys zs : List Da}, scsOf xs = some bs → scsOf ys = some bs → scsOf zs = some bs → ltVs ys xs = false → ltVs zs ys = false → ltVs zs xs = false
  | [], xs, ys, zs, hx, hy, hz, _, _ => by rw [scs_nil hx, scs_nil hz]; simp [ltVs]
  | b :: bs, xs, ys, zs, hx, hy, hz, h1, h2 => by
    obtain ⟨x, xr, rfl, a1, a2⟩ := scs_cons hx
    obtain ⟨y, yr, rfl, b1, b2⟩ := scs_cons hy
    obtain ⟨z, zr, rfl, c1, c2⟩ := scs_cons hz
    rw [ltVs_cons b1 a1] at h1
    rw [ltVs_cons c1 b1] at h2
    rw [ltVs_cons c1 a1]
    by_cases e1 : y = x
    · rw [if_pos e1] at h1
      by_cases e2 : z = y
      · rw [if_pos e2] at h2; rw [if_pos (e2.trans e1)]; exact scs_tr a2 b2 c2 h1 h2
      · rw [if_neg e2] at h2; rw [if_neg fun e => e2 (e.trans e1.symm), ← e1]; exact h2
    · rw [if_neg e1] at h1
      by_cases e2 : z = y
      · rw [if_neg fun e => e1 (e2.symm.trans e), e2]; exact h1
      · rw [if_neg e2] at h2
        have h3 := sc_tr a1 b1 c1 h1 h2
        by_cases e3 : z = x
        · -- then z and y are not apart
          subst e3
          exact absurd (sc_eq c1 b1 h2 h1) e2
        · rw [if_neg e3]; exact h3
/-! ### items -/
theorem sk_inv {d : Da} {s : Bool × List Bool} (h : skOf d = some s) : (s.1 = false ∧ ∃ b, s.2 = [b] ∧ scOf d = some b) ∨ (s.1 = true ∧ ∃ b bs ds, s.2 = b :: bs ∧ d = .tuple ds ∧ scsOf ds = some (b :: bs)) := by
  cases d with
  | int i => simp only [skOf, Option.some.injEq] at h; subst h; exact .inl ⟨rfl, false, rfl, rfl⟩
  | str i => simp only [skOf, Option.some.injEq] at h; subst h; exact .inl ⟨rfl, true, rfl, rfl⟩
  | tuple ds =>
    simp only [skOf] at h
    split at h
    · rename_i b bs hb
      simp only [Option.some.injEq] at h
      subst h
      exact .inr ⟨rfl, b, bs, ds, rfl, rfl, hb⟩
    · cases h
  | _ => simp [skOf] at h
theorem sk_asym {x y : Da} {s : Bool × List Bool} (hx : skOf x = some s) (hy : skOf y = some s) (h : ltV x y = true) : ltV y x = false := by
  rcases sk_inv hx with ⟨e, b, e2, h1⟩ | ⟨e, b, bs, ds, e2, rfl, h1⟩
  · rcases sk_inv hy with ⟨_, c, f2, h2⟩ | ⟨f, _⟩
    · rw [e2] at f2; cases f2; exact sc_asym h1 h2 h
    · rw [e] at f; cases f
  · rcases sk_inv hy with ⟨f, _⟩ | ⟨_, c, cs, es, f2, rfl, h2⟩
    · rw [e] at f; cases f
    · rw [e2] at f2; cases f2; simp only [ltV] at h ⊢; exact scs_asym h1 h2 h
theorem sk_tr {x y z : Da} {s : Bool × List Bool} (hx : skOf x = some s) (hy : skOf y = some s) (hz : skOf z = some s) (k1 : ltV y x = false) (k2 : ltV z y = false) : ltV z x = false := by
  rcases sk_inv hx with ⟨e, b, e2, h1⟩ | ⟨e, b, bs, ds, e2, rfl, h1⟩
  · rcases sk_inv hy with ⟨_, c, f2, h2⟩ | ⟨f, _⟩
    · rcases sk_inv hz with ⟨_, c', g2, h3⟩ | ⟨f, _⟩
      · rw [e2] at f2 g2; cases f2; cases g2; exact sc_tr h1 h2 h3 k1 k2
      · rw [e] at f; cases f
    · rw [e] at f; cases f
  · rcases sk_inv hy with ⟨f, _⟩ | ⟨_, c, cs, es, f2, rfl, h2⟩
    · rw [e] at f; cases f
    · rcases sk_inv hz with ⟨f, _⟩ | ⟨_, c', cs', es', g2, rfl, h3⟩
      · rw [e] at f; cases f
      · rw [e2] at f2 g2; cases f2; cases g2; simp only [ltV] at k1 k2 ⊢; exact scs_tr h1 h2 h3 k1 k2
theorem sk_eq {x y : Da} {s : Bool × List Bool} (hx : skOf x = some s) (hy : skOf y = some s) (k1 : ltV x y = false) (k2 : ltV y x = false) : x = y := by
  rcases sk_inv hx with ⟨e, b, e2, h1⟩ | ⟨e, b, bs, ds, e2, rfl, h1⟩
  · rcases sk_inv hy with ⟨_, c, f2, h2⟩ | ⟨f, _⟩
    · rw [e2] at f2; cases f2; exact sc_eq h1 h2 k1 k2
    · rw [e] at f; cases f
  · rcases sk_inv hy with ⟨f, _⟩ | ⟨_, c, cs, es, f2, rfl, h2⟩
    · rw [e] at f; cases f
    · rw [e2] at f2; cases f2; simp only [ltV] at k1 k2; rw [scs_eq h1 h2 k1 k2]
/-! ### sorted rows -/
theorem ins_mem {x y : Da} : ∀ {l : List Da}, y ∈ insD x l ↔ y = x ∨ y ∈ l
  | [] => by simp [insD]
  | z :: r => by
    unfold insD
    split
    · simp
    · rw [List.mem_cons, ins_mem (l := r), List.mem_cons]
      constructor
      · rintro (h | h | h)
        · exact .inr (.inl h)
        · exact .inl h
        · exact .inr (.inr h)
      · rintro (h | h | h)
        · exact .inr (.inl h)
        · exact .inl h
        · exact .inr (.inr h)
theorem ins_perm {x : Da} : ∀ {l : List Da}, (insD x l).Perm (x :: l)
  | [] => by simp [insD]
  | z :: r => by
    unfold insD
    split
    · exact .refl _
    · exact ((ins_perm (l := r)).cons z).trans (List.Perm.swap x z r)
theorem ins_sorted {x : Da} {s : Bool × List Bool} (hx : skOf x = some s) : ∀ {l : List Da}, (∀ y ∈ l, skOf y = some s) → l.Pairwise (fun a b => ltV b a = false) → (insD x l).Pairwise (fun a b => ltV b a = false)
  | [], _, _ => by simp [insD]
  | z :: r, hl, p => by
    have hz := hl z List.mem_cons_self
    have hr : ∀ y ∈ r, skOf y = some s := fun y hy => hl y (List.mem_cons_of_mem _ hy)
    obtain ⟨p1, p2⟩ := List.pairwise_cons.mp p
    unfold insD
    split
    · rename_i h
      refine List.pairwise_cons.mpr ⟨fun y hy => ?_, p⟩
      have h1 := sk_asym hx hz h
      rcases List.mem_cons.mp hy with e | hy
      · rw [e]; exact h1
      · exact sk_tr hx hz (hr y hy) h1 (p1 y hy)
    · rename_i h
      refine List.pairwise_cons.mpr ⟨fun y hy => ?_, ins_sorted hx hr p2⟩
      rcases ins_mem.mp hy with e | hy
      · rw [e]; exact Bool.eq_false_iff.mpr h
      · exact p1 y hy
theorem sort_go {s : Bool × List Bool} : ∀ {xs acc : List Da}, (∀ y ∈ xs, skOf y = some s) → (∀ y ∈ acc, skOf y = some s) → acc.Pairwise (fun a b => ltV b a = false) →
    (xs.foldl (fun acc x => insD x acc) acc).Pairwise (fun a b => ltV b a = false) ∧ (xs.foldl (fun acc x => insD x acc) acc).Perm (xs ++ acc)
  | [], acc, _, _, p => ⟨p, .refl _⟩
  | x :: xs, acc, hx, ha, p => by
    have h0 := hx x List.mem_cons_self
    have h1 : ∀ y ∈ xs, skOf y = some s := fun y hy => hx y (List.mem_cons_of_mem _ hy)
    have h2 : ∀ y ∈ insD x acc, skOf y = some s := fun y hy => by
      rcases ins_mem.mp hy with e | hy
      · rw [e]; exact h0
      · exact ha y hy
    obtain ⟨q1, q2⟩ := sort_go h1 h2 (ins_sorted h0 ha p)
    refine ⟨q1, q2.trans ?_⟩
    refine ((ins_perm (x := x) (l := acc)).append_left xs).trans ?_
    exact List.perm_middle
theorem sort_ok {s : Bool × List Bool} {xs : List Da} (h : ∀ y ∈ xs, skOf y = some s) : (sortD xs).Pairwise (fun a b => ltV b a = false) ∧ (sortD xs).Perm xs := by
  obtain ⟨q1, q2⟩ := sort_go (acc := []) h (fun y hy => by cases hy) List.Pairwise.nil
  exact ⟨q1, by rw [List.append_nil] at q2; exact q2⟩
/-- one sorted row alone -/
theorem sort_uniq {s : Bool × List Bool} : ∀ {xs ys : List Da}, (∀ y ∈ xs, skOf y = some s) → xs.Perm ys → xs.Pairwise (fun a b => ltV b a = false) → ys.Pairwise (fun a b => ltV b a = false) → xs = ys
  | [], ys, _, p, _, _ => (List.nil_perm.mp p).symm
  | x :: xs, [], _, p, _, _ => by have := p.length_eq; simp at this
  | x :: xs, y :: ys, h, p, s1, s2 => by
    obtain ⟨a1, a2⟩ := List.pairwise_cons.mp s1
    obtain ⟨b1, b2⟩ := List.pairwise_cons.mp s2
    have hx := h x List.mem_cons_self
    have hy : skOf y = some s := h y (p.mem_iff.mpr List.mem_cons_self)
    have e : x = y := by
      have m1 : x ∈ y :: ys := p.mem_iff.mp List.mem_cons_self
      have m2 : y ∈ x :: xs := p.mem_iff.mpr List.mem_cons_self
      rcases List.mem_cons.mp m1 with e | m1
      · exact e
      · rcases List.mem_cons.mp m2 with e | m2
        · exact e.symm
        · exact sk_eq hx hy (b1 x m1) (a1 y m2)
    subst e
    rw [sort_uniq (fun z hz => h z (List.mem_cons_of_mem _ hz)) (List.Perm.cons_inv p) a2 b2]
/-! ### items on the heap -/
def HSc (d : Da) (u : Value) : Prop := match d with
  | .int i => ∃ t, u = .int i t
  | .str x => ∃ t, u = .str x t
  | _ => False
def HScs : List Da → List Value → Prop
  | [], [] => True
  | d :: ds, u :: us => HSc d u ∧ HScs ds us
  | _, _ => False
def HIt (h : Heap) (d : Da) (u : Value) : Prop := match d with
  | .tuple ds => ∃ a o us n, u = .ref a ∧ h.get? a = some o ∧ o.cls = .type "tuple" ∧ o.data = .seq us n ∧ HScs ds us.toList
  | .int i => ∃ t, u = .int i t
  | .str x => ∃ t, u = .str x t
  | _ => False
theorem hsc_inj {d e : Da} {u : Value} (h1 : HSc d u) (h2 : HSc e u) : d = e := by
  cases d <;> cases e <;> simp only [HSc] at h1 h2 <;> first | (obtain ⟨t, rfl⟩ := h1; obtain ⟨t', z⟩ := h2; cases z; rfl) | (obtain ⟨t, rfl⟩ := h1; obtain ⟨t', z⟩ := h2; cases z)
theorem hscs_inj : ∀ {ds es : List Da} {us : List Value}, HScs ds us → HScs es us → ds = es
  | [], [], us, _, _ => rfl
  | [], _ :: _, [], _, h => h.elim
  | [], _ :: _, _ :: _, h, _ => h.elim
  | _ :: _, [], [], h, _ => h.elim
  | _ :: _, [], _ :: _, _, h => h.elim
  | _ :: _, _ :: _, [], h, _ => h.elim
  | d :: ds, e :: es, u :: us, h1, h2 => by rw [hsc_inj h1.1 h2.1, hscs_inj h1.2 h2.2]
theorem hscs_len : ∀ {ds : List Da} {us : List Value}, HScs ds us → ds.length = us.length
  | [], [], _ => rfl
  | [], _ :: _, h => h.elim
  | _ :: _, [], h => h.elim
  | _ :: _, _ :: _, h => by rw [List.length_cons, List.length_cons, hscs_len h.2]
theorem hit_inj {h : Heap} {d e : Da} {u : Value} (h1 : HIt h d u) (h2 : HIt h e u) : d = e := by
  cases d with
  | int i =>
    obtain ⟨t, rfl⟩ := h1
    cases e with
    | int j => obtain ⟨t', z⟩ := h2; cases z; rfl
    | str j => obtain ⟨t', z⟩ := h2; cases z
    | tuple es => obtain ⟨_, _, _, _, z, _⟩ := h2; cases z
    | _ => exact h2.elim
  | str i =>
    obtain ⟨t, rfl⟩ := h1
    cases e with
    | int j => obtain ⟨t', z⟩ := h2; cases z
    | str j => obtain ⟨t', z⟩ := h2; cases z; rfl
    | tuple es => obtain ⟨_, _, _, _, z, _⟩ := h2; cases z
    | _ => exact h2.elim
  | tuple ds =>
    obtain ⟨a, o, us, n, rfl, ho, hc, hd, hs⟩ := h1
    cases e with
    | int j => obtain ⟨t', z⟩ := h2; cases z
    | str j => obtain ⟨t', z⟩ := h2; cases z
    | tuple es =>
      obtain ⟨a', o', us', n', z, ho', _, hd', hs'⟩ := h2
      cases z
      rw [ho] at ho'
      cases ho'
      rw [hd] at hd'
      cases hd'
      rw [hscs_inj hs hs']
    | _ => exact h2.elim
  | _ => exact h1.elim
theorem HIt.keeps {h h' : Heap} {d : Da} {u : Value} (x : HIt h d u) (k : ∀ b o, h.get? b = some o → o.cls = .type "tuple" → h'.get? b = some o) : HIt h' d u := by
  cases d with
  | tuple ds =>
    obtain ⟨a, o, us, n, e, ho, hc, hd, hs⟩ := x
    exact ⟨a, o, us, n, e, k _ _ ho hc, hc, hd, hs⟩
  | int i => exact x
  | str i => exact x
  | _ => exact x.elim
section
variable {prog : Program} {w : World} {A : Around} {E : Value → Shared → Prop} {s : Shared}
theorem sc_cmp (c : Bool) {d e : Da} {u v : Value} {b : Bool} {Q : Bool → Shared → Prop} (h1 : scOf d = some b) (h2 : scOf e = some b) (r1 : HSc d u) (r2 : HSc e v) (q : Q (ltV d e) s) : wpAny (model prog w) A (oneLt' c u v) Q E s := by
  rcases sc_inv h1 with ⟨rfl, i, rfl⟩ | ⟨rfl, i, rfl⟩
  · rcases sc_inv h2 with ⟨_, j, rfl⟩ | ⟨z, _⟩
    · obtain ⟨t, rfl⟩ := r1
      obtain ⟨t', rfl⟩ := r2
      simp only [ltV] at q
      cases c with
      | true => exact oneLt_int q
      | false => exact PySem.W.kat_one _ _ (PyProof.Rows.lt_int (Q := PySem.W.BoolBack Q) q)
    · cases z
  · rcases sc_inv h2 with ⟨z, _⟩ | ⟨_, j, rfl⟩
    · cases z
    · obtain ⟨t, rfl⟩ := r1
      obtain ⟨t', rfl⟩ := r2
      simp only [ltV] at q
      cases c with
      | true => exact oneLt_str q
      | false => exact PySem.W.kat_one _ _ (PyProof.Rows.lt_str (Q := PySem.W.BoolBack Q) q)
theorem kat_row {b : Bool} {Q : Bool → Shared → Prop} : ∀ {bs : List Bool} {ds es : List Da} {us vs : List Value} (i : Nat), scsOf ds = some bs → scsOf es = some bs → HScs ds us → HScs es vs → Q (ltVs ds es) s → PySem.W.KatLex prog w A b false Q (us.zip vs) i s
  | [], ds, es, us, vs, i, h1, h2, r1, r2, q => by
    rw [scs_nil h1] at r1
    rw [scs_nil h2] at r2
    cases us with
    | cons _ _ => exact r1.elim
    | nil =>
      rw [scs_nil h1, scs_nil h2] at q
      simp only [ltVs] at q
      exact PySem.W.kat_nil q
  | c :: bs, ds, es, us, vs, i, h1, h2, r1, r2, q => by
    obtain ⟨d, dr, rfl, a1, a2⟩ := scs_cons h1
    obtain ⟨e, er, rfl, b1, b2⟩ := scs_cons h2
    cases us with
    | nil => exact r1.elim
    | cons u us =>
      cases vs with
      | nil => exact r2.elim
      | cons v vs =>
        rw [ltVs_cons a1 b1] at q
        have same : d = e → PySem.W.KatGo prog w A b false Q u v (us.zip vs) i true s := fun z => by
          rw [if_pos z] at q
          exact PySem.W.kat_yes (kat_row (i + 1) a2 b2 r1.2 r2.2 q)
        have diff : d ≠ e → PySem.W.KatGo prog w A b false Q u v (us.zip vs) i false s := fun z => by
          rw [if_neg z] at q
          exact PySem.W.kat_no (sc_cmp _ a1 b1 r1.1 r2.1 q)
        rcases sc_inv a1 with ⟨rfl, x, rfl⟩ | ⟨rfl, x, rfl⟩
        · rcases sc_inv b1 with ⟨_, y, rfl⟩ | ⟨z, _⟩
          · obtain ⟨t, rfl⟩ := r1.1
            obtain ⟨t', rfl⟩ := r2.1
            refine PySem.W.kat_cons (SeqAt.EqAt.int_int x t y t' prog w _ _ ?_)
            exact PySem.W.kat_go (fun e1 => same (by simpa using e1)) (fun e1 => diff (by simpa using e1))
          · cases z
        · rcases sc_inv b1 with ⟨z, _⟩ | ⟨_, y, rfl⟩
          · cases z
          · obtain ⟨t, rfl⟩ := r1.1
            obtain ⟨t', rfl⟩ := r2.1
            refine PySem.W.kat_cons (SeqAt.EqAt.str_str x t y t' prog w _ _ ?_)
            exact PySem.W.kat_go (fun e1 => same (by simpa using e1)) (fun e1 => diff (by simpa using e1))
/-- how two items are compared -/
def kindOf (sk : Bool × List Bool) : SortKind := if sk.1 = true then tuples' true else oneType'
theorem item_cmp {sk : Bool × List Bool} {d e : Da} {u v : Value} {Q : Bool → Shared → Prop} (h1 : skOf d = some sk) (h2 : skOf e = some sk) (r1 : HIt s.heap d u) (r2 : HIt s.heap e v) (q : Q (ltV d e) s) : wpAny (model prog w) A (keyLt' (kindOf sk) u v) Q E s := by
  unfold kindOf
  rcases sk_inv h1 with ⟨k, b, e2, h1'⟩ | ⟨k, b, bs, ds, e2, rfl, h1'⟩
  · rcases sk_inv h2 with ⟨_, c, f2, h2'⟩ | ⟨f, _⟩
    · rw [e2] at f2; cases f2
      rw [k]
      simp only [Bool.false_eq_true, if_false]
      rw [keyLt'_oneType]
      refine sc_cmp true h1' h2' ?_ ?_ q
      · cases d <;> first | exact r1 | simp [scOf] at h1'
      · cases e <;> first | exact r2 | simp [scOf] at h2'
    · rw [k] at f; cases f
  · rcases sk_inv h2 with ⟨f, _⟩ | ⟨_, c, cs, es, f2, rfl, h2'⟩
    · rw [k] at f; cases f
    · rw [e2] at f2; cases f2
      rw [k]
      simp only [if_true]
      obtain ⟨a, o, us, n, rfl, ho, hc, hd, hs⟩ := r1
      obtain ⟨a', o', us', n', rfl, ho', hc', hd', hs'⟩ := r2
      simp only [ltV] at q
      refine PySem.W.kat_lt ho hd ho' hd' ?_
      have l1 := hscs_len hs
      have l2 := hscs_len hs'
      have len : ∀ {bs : List Bool} {ds : List Da}, scsOf ds = some bs → ds.length = bs.length := fun {bs} => by
        induction bs with
        | nil => intro ds h; rw [scs_nil h]; rfl
        | cons b bs ih =>
          intro ds h
          obtain ⟨d, r, rfl, _, h'⟩ := scs_cons h
          rw [List.length_cons, List.length_cons, ih h']
      have : decide (us.size < us'.size) = false := by
        rw [len h1'] at l1
        rw [len h2'] at l2
        simp at l1 l2
        simp; omega
      rw [this]
      exact kat_row 0 h1' h2' hs hs' q

def HIts (h : Heap) : List Da → List Value → Prop
  | [], [] => True
  | d :: ds, u :: us => HIt h d u ∧ HIts h ds us
  | _, _ => False
theorem hits_len {h : Heap} : ∀ {ds : List Da} {us : List Value}, HIts h ds us → us.length = ds.length
  | [], [], _ => rfl
  | [], _ :: _, h => h.elim
  | _ :: _, [], h => h.elim
  | _ :: _, _ :: _, h => by rw [List.length_cons, List.length_cons, hits_len h.2]
theorem HIts.keeps {h h' : Heap} (k : ∀ b o, h.get? b = some o → o.cls = .type "tuple" → h'.get? b = some o) : ∀ {ds : List Da} {us : List Value}, HIts h ds us → HIts h' ds us
  | [], [], _ => trivial
  | [], _ :: _, h => h.elim
  | _ :: _, [], h => h.elim
  | _ :: _, _ :: _, h => ⟨h.1.keeps k, h.2.keeps k⟩
theorem ints_of {h : Heap} : ∀ {ds : List Da} {us : List Value}, (∀ d ∈ ds, scOf d = some false) → HIts h ds us → ∃ ns, IntsAre us ns
  | [], [], _, _ => ⟨[], .nil⟩
  | [], _ :: _, _, h => h.elim
  | _ :: _, [], _, h => h.elim
  | d :: ds, u :: us, hd, h => by
    obtain ⟨ns, r⟩ := ints_of (fun e he => hd e (List.mem_cons_of_mem _ he)) h.2
    rcases sc_inv (hd d List.mem_cons_self) with ⟨_, i, rfl⟩ | ⟨z, _⟩
    · obtain ⟨t, rfl⟩ := h.1
      exact ⟨i :: ns, .cons i t r⟩
    · cases z
theorem strs_of {h : Heap} : ∀ {ds : List Da} {us : List Value}, (∀ d ∈ ds, scOf d = some true) → HIts h ds us → ∃ ns, StrsAre us ns
  | [], [], _, _ => ⟨[], .nil⟩
  | [], _ :: _, _, h => h.elim
  | _ :: _, [], _, h => h.elim
  | d :: ds, u :: us, hd, h => by
    obtain ⟨ns, r⟩ := strs_of (fun e he => hd e (List.mem_cons_of_mem _ he)) h.2
    rcases sc_inv (hd d List.mem_cons_self) with ⟨z, _⟩ | ⟨_, i, rfl⟩
    · cases z
    · obtain ⟨t, rfl⟩ := h.1
      exact ⟨i :: ns, .cons i t r⟩
theorem tups_of {h : Heap} {b : Bool} {bs : List Bool} : ∀ {ds : List Da} {us : List Value}, (∀ d ∈ ds, skOf d = some (true, b :: bs)) → HIts h ds us → ∃ fs, PySem.W.KatTups h us fs ∧ fs.length = us.length ∧ ∀ f ∈ fs, ∃ d, scOf d = some b ∧ HSc d f
  | [], [], _, _ => ⟨[], trivial, rfl, fun f hf => by cases hf⟩
  | [], _ :: _, _, h => h.elim
  | _ :: _, [], _, h => h.elim
  | d :: ds, u :: us, hd, h => by
    obtain ⟨fs, r, l, q⟩ := tups_of (fun e he => hd e (List.mem_cons_of_mem _ he)) h.2
    rcases sk_inv (hd d List.mem_cons_self) with ⟨z, _⟩ | ⟨_, b', bs', es, z, rfl, hs⟩
    · cases z
    · cases z
      obtain ⟨a, o, ws, n, rfl, ho, hc, hd', hw⟩ := h.1
      obtain ⟨e, er, rfl, e1, e2⟩ := scs_cons hs
      cases hws : ws.toList with
      | nil => rw [hws] at hw; exact hw.elim
      | cons w0 wr =>
        rw [hws] at hw
        have h0 : ws[0]? = some w0 := by rw [← Array.getElem?_toList, hws]; rfl
        exact ⟨w0 :: fs, .cons ho hc hd' h0 r, by rw [List.length_cons, List.length_cons, l], fun f hf => by
          rcases List.mem_cons.mp hf with z | hf
          · rw [z]; exact ⟨e, e1, hw.1⟩
          · exact q f hf⟩
theorem kind_ok {sk : Bool × List Bool} {ds : List Da} {us : List Value} {Q : SortKind → Shared → Prop} (hk : ∀ d ∈ ds, skOf d = some sk) (hr : HIts s.heap ds us) (h2 : 2 ≤ us.length) (q : Q (kindOf sk) s) : wpAny (model prog w) A (keyKind' us.toArray) Q E s := by
  have hne : ∃ d, d ∈ ds := by
    cases ds with
    | nil => rw [hits_len hr] at h2; simp at h2
    | cons d _ => exact ⟨d, List.mem_cons_self⟩
  obtain ⟨d0, hd0⟩ := hne
  unfold kindOf at q
  rcases sk_inv (hk d0 hd0) with ⟨k, b, e2, _⟩ | ⟨k, b, bs, es, e2, _, _⟩
  · rw [k] at q
    simp only [Bool.false_eq_true, if_false] at q
    have hs : ∀ d ∈ ds, scOf d = some b := fun d hd => by
      rcases sk_inv (hk d hd) with ⟨_, c, f2, h⟩ | ⟨f, _⟩
      · rw [e2] at f2; cases f2; exact h
      · rw [k] at f; cases f
    cases b with
    | false =>
      obtain ⟨ns, hI⟩ := ints_of hs hr
      match us, hI, h2 with
      | v1 :: v2 :: rest, hI, _ =>
        rw [keyKind_ints hI]
        exact wpAny_pure q
      | [], _, h => exact absurd h (by decide)
      | [v], _, h => exact absurd h (by simp)
    | true =>
      obtain ⟨ns, hI⟩ := strs_of hs hr
      match us, hI, h2 with
      | v1 :: v2 :: rest, hI, _ =>
        rw [keyKind_strs hI]
        exact wpAny_pure q
      | [], _, h => exact absurd h (by decide)
      | [v], _, h => exact absurd h (by simp)
  · rw [k] at q
    simp only [if_true] at q
    have hs : ∀ d ∈ ds, skOf d = some (true, b :: bs) := fun d hd => by
      rw [hk d hd, ← e2, ← k]
    obtain ⟨fs, h1, hl, h3⟩ := tups_of hs hr
    cases b with
    | false =>
      refine PySem.W.kat_kind (T := .type "int") h1 (by omega) (fun f hm => ?_) (by rfl) ?_
      · obtain ⟨d, e1, e2⟩ := h3 f hm
        rcases sc_inv e1 with ⟨_, i, rfl⟩ | ⟨z, _⟩
        · obtain ⟨t, rfl⟩ := e2
          exact PySem.W.Looks.now
        · cases z
      · have e : (Value.type "int" != Value.type "tuple") = true := by first | decide +kernel | rfl | decide
        rw [e]
        exact q
    | true =>
      refine PySem.W.kat_kind (T := .type "str") h1 (by omega) (fun f hm => ?_) (by rfl) ?_
      · obtain ⟨d, e1, e2⟩ := h3 f hm
        rcases sc_inv e1 with ⟨z, _⟩ | ⟨_, i, rfl⟩
        · cases z
        · obtain ⟨t, rfl⟩ := e2
          exact PySem.W.Looks.now
      · have e : (Value.type "str" != Value.type "tuple") = true := by first | decide +kernel | rfl | decide
        rw [e]
        exact q
/-! ### each value's datum -/
open Classical in
noncomputable def datOf (h : Heap) (sk : Bool × List Bool) (d0 : Da) (u : Value) : Da := if x : ∃ d, skOf d = some sk ∧ HIt h d u then x.choose else d0
theorem datOf_sk {h : Heap} {sk : Bool × List Bool} {d0 : Da} (h0 : skOf d0 = some sk) (u : Value) : skOf (datOf h sk d0 u) = some sk := by
  unfold datOf
  split
  · rename_i x; exact x.choose_spec.1
  · exact h0
theorem datOf_is {h : Heap} {sk : Bool × List Bool} {d0 d : Da} {u : Value} (h1 : skOf d = some sk) (h2 : HIt h d u) : datOf h sk d0 u = d := by
  unfold datOf
  have x : ∃ d, skOf d = some sk ∧ HIt h d u := ⟨d, h1, h2⟩
  rw [dif_pos x]
  exact hit_inj x.choose_spec.2 h2
theorem datOf_swo {h : Heap} {sk : Bool × List Bool} {d0 : Da} (h0 : skOf d0 = some sk) : SrtO.Swo fun v u => ltV (datOf h sk d0 v) (datOf h sk d0 u) :=
  ⟨fun x y hh => sk_asym (datOf_sk h0 x) (datOf_sk h0 y) hh, fun x y z h1 h2 => sk_tr (datOf_sk h0 x) (datOf_sk h0 y) (datOf_sk h0 z) h1 h2⟩
theorem hits_mem {h : Heap} {sk : Bool × List Bool} {d0 : Da} : ∀ {ds : List Da} {us : List Value}, (∀ d ∈ ds, skOf d = some sk) → HIts h ds us → us.map (datOf h sk d0) = ds ∧ ∀ u ∈ us, HIt h (datOf h sk d0 u) u
  | [], [], _, _ => ⟨rfl, fun u hu => by cases hu⟩
  | [], _ :: _, _, h => h.elim
  | _ :: _, [], _, h => h.elim
  | d :: ds, u :: us, hk, hr => by
    obtain ⟨e1, e2⟩ := hits_mem (d0 := d0) (fun e he => hk e (List.mem_cons_of_mem _ he)) hr.2
    have e3 := datOf_is (d0 := d0) (hk d List.mem_cons_self) hr.1
    refine ⟨by rw [List.map_cons, e3, e1], fun v hv => ?_⟩
    rcases List.mem_cons.mp hv with z | hv
    · rw [z, e3]; exact hr.1
    · exact e2 v hv
theorem sortableO {sk : Bool × List Bool} {d0 : Da} {ds : List Da} {us : List Value} {a : Addr} {h0 : Heap} (hk : ∀ d ∈ ds, skOf d = some sk) (hr : HIts h0 ds us) (h2 : 2 ≤ us.length)
    (kp : ∀ b o, h0.get? b = some o → b ≠ a ∧ s.heap.get? b = some o) : SrtO.SortableO prog w A s a us fun v u => ltV (datOf h0 sk d0 v) (datOf h0 sk d0 u) := by
  intro h' keep
  have k' : ∀ b o, h0.get? b = some o → o.cls = .type "tuple" → h'.get? b = some o := fun b o e _ => keep b o (kp b o e).1 (kp b o e).2
  refine ⟨kindOf sk, fun Q E hq => kind_ok (s := { s with heap := h' }) hk (hr.keeps k') h2 hq, fun p q hm hm' => ?_⟩
  obtain ⟨e1, e2⟩ := hits_mem (d0 := d0) hk hr
  have sk' : ∀ u ∈ us, skOf (datOf h0 sk d0 u) = some sk := fun u hu => hk _ (by rw [← e1]; exact List.mem_map.mpr ⟨u, hu, rfl⟩)
  exact item_cmp (s := { s with heap := h' }) (sk' _ hm) (sk' _ hm') ((e2 _ hm).keeps k') ((e2 _ hm').keeps k') ⟨rfl, rfl⟩
end
/-! ### a tuple's items, collected -/
namespace SortT
variable {prog : Program} {w : World} {A : Around} {E : Value → Shared → Prop} {s : Shared}
theorem collect_tup {l : Addr} {vs : List Value} {Q : List Value → Shared → Prop} (hl : IsTup s.heap l vs.toArray)
    (h : Q vs { s with heap := (s.heap.push (seqObj "list" #[] 0)).update s.heap.objs.size (Obj.mapSeq (· ++ vs.toArray)) }) (hsz : vs.length ≤ sizeLine) :
    wpAny (model prog w) A (collect (.ref l)) Q E s := by
  obtain ⟨o, ho, hc, n, hd⟩ := hl
  unfold collect
  refine wpAny_bind (wpAny_runValue (codeAny_builtin entry_proto_collect' ?_))
  show wpAny _ _ (do again (.builtin "list.__iadd__" ⟨[← newList [], .ref l], []⟩)) _ _ s
  refine wpAny_bind (wpAny_newList (wpAny_pure ⟨Code.quiet_builtin _ (by decide +kernel), codeAny_builtin entry_list_iadd' ?_⟩))
  show wpAny _ _ (Builtin.List.listExtendWith (.ref s.heap.objs.size) (.ref l) (.ref s.heap.objs.size)) _ _ { s with heap := s.heap.push (seqObj "list" #[] 0) }
  unfold Builtin.List.listExtendWith
  have ho' : (s.heap.push (seqObj "list" #[] 0)).get? l = some o := Heap.get?_push_of_some _ ho
  refine wpAny_bind (wpAny_typeOf (T := "tuple") ⟨o, ho', hc⟩ ?_)
  have ht : (Value.type "tuple" == Value.type "tuple") = true := by rfl
  rw [if_pos (by rw [ht]; simp)]
  refine wpAny_bind (listItems_at ho' hd ?_)
  refine wpAny_bind (listItems_at (xs := #[]) (n := 0) (Heap.get?_push_size _ rfl) rfl ?_)
  rw [if_neg (by simp)]
  refine wpAny_bind (listUpdate_at (xs := #[]) (n := 0) (Heap.get?_push_size _ rfl) rfl ?_ (Nat.zero_le _) (by show (#[] ++ vs.toArray).size ≤ sizeLine + 1; simp only [Array.size_append, List.size_toArray, List.length_nil]; omega))
  refine wpAny_pure ?_
  show wpAny (model prog w) A (do
      let o ← load s.heap.objs.size
      match o.data with
      | .seq xs _ => pure xs.toList
      | _ => unsupported "internal:collect") Q E { s with heap := (s.heap.push (seqObj "list" #[] 0)).update s.heap.objs.size (Obj.mapSeq (· ++ vs.toArray)) }
  refine wpAny_bind (wpAny_load (get?_update_seq (Heap.get?_push_size _ rfl) _) ?_)
  show wpAny _ _ (pure ((#[] : Array Value) ++ vs.toArray).toList) Q E _
  rw [show ((#[] : Array Value) ++ vs.toArray).toList = vs by simp]
  exact wpAny_pure h
open SrtO Srt in
theorem sorted_tup {l : Addr} {vs : List Value} {ltv : Value → Value → Bool} {Q : Value → Shared → Prop} (O : Swo ltv) (hl : IsTup s.heap l vs.toArray) (hz : vs.length ≤ sizeLine)
    (hS : 2 ≤ vs.length → ∀ (h₁ : Heap) (a : Addr), h₁.get? a = some (seqObj "list" vs.toArray 0) → (∀ b o, s.heap.get? b = some o → b ≠ a ∧ h₁.get? b = some o) → SortableO prog w A.in1.in1 { s with heap := h₁ } a vs ltv)
    (h : ∀ out : List Value, Srtd ltv out → Stb ltv out vs → Q (.ref (s.heap.objs.size + 1)) { s with heap := sortedAll s.heap vs out.toArray }) :
    wpAny (model prog w) A (call (.builtin "sorted") [.ref l]) Q E s := by
  refine Calls.call_function_entry kind_sorted plain_sorted entry_sorted (args_sorted1 _) ?_
  unfold Builtin.«sorted»
  refine wpAny_bind (m := checkCount "sorted" 1 1 _) (wpAny_pure ?_)
  refine wpAny_bind (collect_tup hl ?_ hz)
  refine wpAny_bind (wpAny_newList ?_ hz)
  have hsz : ((s.heap.push (seqObj "list" #[] 0)).update s.heap.objs.size (Obj.mapSeq (· ++ vs.toArray))).objs.size = s.heap.objs.size + 1 := by
    rw [Heap.size_update, Heap.size_push]
  have hoL : (((s.heap.push (seqObj "list" #[] 0)).update s.heap.objs.size (Obj.mapSeq (· ++ vs.toArray))).push (seqObj "list" vs.toArray 0)).get? (s.heap.objs.size + 1) = some (seqObj "list" vs.toArray 0) := by
    rw [← hsz]; exact Heap.get?_push_size _ rfl
  have keep : ∀ b o, s.heap.get? b = some o → b ≠ s.heap.objs.size + 1 ∧ (((s.heap.push (seqObj "list" #[] 0)).update s.heap.objs.size (Obj.mapSeq (· ++ vs.toArray))).push (seqObj "list" vs.toArray 0)).get? b = some o := fun b o q => by
    have hlt : b < s.heap.objs.size := Heap.lt_size q
    refine ⟨Nat.ne_of_lt (Nat.lt_succ_of_lt hlt), Heap.get?_push_of_some _ ?_⟩
    rw [Heap.get?_update_ne _ _ _ _ (Nat.ne_of_lt hlt)]
    exact Heap.get?_push_of_some _ q
  show wpAny _ _ _ _ _ { s with heap := ((s.heap.push (seqObj "list" #[] 0)).update s.heap.objs.size (Obj.mapSeq (· ++ vs.toArray))).push (seqObj "list" vs.toArray 0) }
  rw [hsz]
  refine wpAny_bind (wpAny_holding (wpAny_call_entry slot_list_sort ⟨_, hoL, rfl⟩ entry_list_sort (list_sort_ord O hoL hz (fun h2 => hS h2 _ _ hoL keep) fun out hs hb => ⟨_, rfl, ?_⟩) (args_list_sort _)))
  exact wpAny_pure ⟨_, rfl, h out hs hb⟩
end SortT
/-! ### sorted(xs) -/
section
variable {X : Cx} {pins : List (Addr × Obj)} {σ : L2.St} {H G : Hp} {s : Shared}
theorem scs_heap {K : PySem.W.Frag} : ∀ {bs : List Bool} {ds : List Da} {xs : List V} {us : List Value}, scsOf ds = some bs → RepL K G ds xs → Vals xs us → HScs ds us
  | [], ds, xs, us, h, r, v => by
    rw [scs_nil h] at r ⊢
    simp only [RepL] at r
    subst r
    cases v
    trivial
  | b :: bs, ds, xs, us, h, r, v => by
    obtain ⟨d, dr, rfl, a1, a2⟩ := scs_cons h
    simp only [RepL] at r
    obtain ⟨x, t, rfl, r1, r2⟩ := r
    cases v with
    | cons v1 v2 =>
      refine ⟨?_, scs_heap a2 r2 v2⟩
      rcases sc_inv a1 with ⟨_, i, rfl⟩ | ⟨_, i, rfl⟩
      · simp only [Rep] at r1; subst r1; exact v1
      · simp only [Rep] at r1; subst r1; exact v1
theorem it_heap (I : Inv X pins σ H s) (g : Same G H) {d : Da} {x : V} {u : Value} {sk : Bool × List Bool} (h : skOf d = some sk) (r : Rep X.K G d x) (v : RelV x u) : HIt s.heap d u := by
  cases d with
  | int i => simp only [Rep] at r; subst r; exact v
  | str i => simp only [Rep] at r; subst r; exact v
  | tuple ds =>
    simp only [Rep] at r
    obtain ⟨a, xs, rfl, h1, h2⟩ := r
    cases v
    obtain ⟨its, rv, ht, hz⟩ := I.tuple (sameT g h1)
    obtain ⟨o, ho, hc, n, hd⟩ := ht
    rcases sk_inv h with ⟨_, b, _, z⟩ | ⟨_, b, bs, es, _, z, hs⟩
    · simp [scOf] at z
    · cases z
      exact ⟨a, o, _, n, rfl, ho, hc, hd, by simpa using scs_heap hs h2 rv⟩
  | _ => simp [skOf] at h
theorem its_heap (I : Inv X pins σ H s) (g : Same G H) {sk : Bool × List Bool} : ∀ {ds : List Da} {xs : List V} {us : List Value}, (∀ d ∈ ds, skOf d = some sk) → RepL X.K G ds xs → Vals xs us → HIts s.heap ds us
  | [], xs, us, _, r, v => by
    simp only [RepL] at r
    subst r
    cases v
    trivial
  | d :: ds, xs, us, h, r, v => by
    simp only [RepL] at r
    obtain ⟨x, t, rfl, r1, r2⟩ := r
    cases v with
    | cons v1 v2 => exact ⟨it_heap I g (h d List.mem_cons_self) r1 v1, its_heap I g (fun e he => h e (List.mem_cons_of_mem _ he)) r2 v2⟩
/-- the values again -/
theorem vals_again {K : PySem.W.Frag} {f : Value → Da} : ∀ {ds : List Da} {xs : List V} {us : List Value}, RepL K G ds xs → Vals xs us → us.map f = ds → ∀ u ∈ us, ∃ v, RelV v u ∧ Rep K G (f u) v
  | [], xs, us, r, v, e, u, hu => by
    simp only [RepL] at r
    subst r
    cases v
    cases hu
  | d :: ds, xs, us, r, v, e, u, hu => by
    simp only [RepL] at r
    obtain ⟨x, t, rfl, r1, r2⟩ := r
    cases v with
    | cons v1 v2 =>
      rw [List.map_cons, List.cons.injEq] at e
      rcases List.mem_cons.mp hu with z | hu
      · rw [z, e.1]; exact ⟨x, v1, r1⟩
      · exact vals_again r2 v2 e.2 u hu
theorem vals_make {K : PySem.W.Frag} {f : Value → Da} : ∀ {us : List Value}, (∀ u ∈ us, ∃ v, RelV v u ∧ Rep K G (f u) v) → ∃ xs, Vals xs us ∧ RepL K G (us.map f) xs
  | [], _ => ⟨[], .nil, RepL.nil⟩
  | u :: us, h => by
    obtain ⟨v, r1, r2⟩ := h u List.mem_cons_self
    obtain ⟨xs, q1, q2⟩ := vals_make fun w hw => h w (List.mem_cons_of_mem _ hw)
    exact ⟨v :: xs, .cons r1 q1, RepL.cons r2 q2⟩
theorem sortable_sk {d : Da} {ds : List Da} (h : sortable (d :: ds) = true) : ∃ sk, ∀ e ∈ d :: ds, skOf e = some sk := by
  have h : (match skOf d with
    | some s => (d :: ds).all fun e => decide (skOf e = some s)
    | none => false) = true := h
  cases hs : skOf d with
  | none => rw [hs] at h; cases h
  | some s =>
    rw [hs] at h
    exact ⟨s, fun e he => of_decide_eq_true (List.all_eq_true.mp h e he)⟩
theorem cr_sortedD : CallR X (.builtin "sorted") fun vs H Q => ∃ G a ds xs, vs = [.ref a] ∧ Same G H ∧ H a = some (.lst xs) ∧ RepL X.K G ds xs ∧ sortable ds = true ∧ Res X.K G H (.list (sortD ds)) Q := by
  intro pins s σ H vs us Q I r h
  obtain ⟨G, a, ds, xs, rfl, g, ha, rl, hs, q⟩ := h
  obtain ⟨its, rv, hl, hz⟩ := I.list (SqL.of ha)
  rw [Vals.ref1 r]
  have hlen : its.length ≤ sizeLine := by rw [← rv.length]; exact hz
  obtain ⟨sk, d0, h0, hk⟩ : ∃ sk d0, skOf d0 = some sk ∧ ∀ e ∈ ds, skOf e = some sk := by
    cases ds with
    | nil => exact ⟨(false, [false]), .int 0, rfl, fun e he => by cases he⟩
    | cons d ds =>
      obtain ⟨sk, h⟩ := sortable_sk hs
      exact ⟨sk, d, h d List.mem_cons_self, h⟩
  have hr := its_heap I g hk rl rv
  obtain ⟨e1, e2⟩ := hits_mem (d0 := d0) hk hr
  refine SrtO.sorted_ord (datOf_swo (h := s.heap) h0) hl.isList hlen (fun h2 h₁ a' _ kp => sortableO (s := { s with heap := h₁ }) hk hr h2 kp) fun out h1 h2 => ?_
  obtain ⟨ep, he'⟩ := PyProof.Rows.sortedAll_at s.heap its out.toArray
  have hmem : ∀ u ∈ out, u ∈ its := fun u hu => h2.perm.mem_iff.mp hu
  obtain ⟨ys, v1, v2⟩ := vals_make (us := out) (f := datOf s.heap sk d0) (K := X.K) (G := G) fun u hu => vals_again rl rv e1 u (hmem u hu)
  have hsort : out.map (datOf s.heap sk d0) = sortD ds := by
    obtain ⟨s1, s2⟩ := sort_ok hk
    have p : (out.map (datOf s.heap sk d0)).Perm ds := by
      have := h2.perm.map (datOf s.heap sk d0)
      rw [e1] at this
      exact this
    refine sort_uniq (s := sk) (fun y hy => hk y (p.mem_iff.mp hy)) (p.trans s2.symm) ?_ s1
    exact List.pairwise_map.mpr (h1.imp fun h => h)
  rw [hsort] at v2
  have hlen2 : ys.length ≤ sizeLine := by rw [v1.length, h2.perm.length_eq]; exact hlen
  exact ⟨.ref _, upd H (s.heap.objs.size + 1) (.lst ys), I.laid (t' := s.toks) (fun _ _ => PyProof.Rows.sortedAll_old) (Nat.le_succ _) ⟨hlen2, out, ep, v1, he'⟩, rfl, q.newL g v2 (I.hok.fresh (Nat.le_succ _))⟩
theorem cr_sortedT : CallR X (.builtin "sorted") fun vs H Q => ∃ G a ds xs, vs = [.ref a] ∧ Same G H ∧ SqT X.K H a xs ∧ RepL X.K G ds xs ∧ sortable ds = true ∧ Res X.K G H (.list (sortD ds)) Q := by
  intro pins s σ H vs us Q I r h
  obtain ⟨G, a, ds, xs, rfl, g, ha, rl, hs, q⟩ := h
  obtain ⟨its, rv, hl, hz⟩ := I.tuple ha
  rw [Vals.ref1 r]
  have hlen : its.length ≤ sizeLine := by rw [← rv.length]; exact hz
  obtain ⟨sk, d0, h0, hk⟩ : ∃ sk d0, skOf d0 = some sk ∧ ∀ e ∈ ds, skOf e = some sk := by
    cases ds with
    | nil => exact ⟨(false, [false]), .int 0, rfl, fun e he => by cases he⟩
    | cons d ds =>
      obtain ⟨sk, h⟩ := sortable_sk hs
      exact ⟨sk, d, h d List.mem_cons_self, h⟩
  have hr := its_heap I g hk rl rv
  obtain ⟨e1, e2⟩ := hits_mem (d0 := d0) hk hr
  refine SortT.sorted_tup (datOf_swo (h := s.heap) h0) hl hlen (fun h2 h₁ a' _ kp => sortableO (s := { s with heap := h₁ }) hk hr h2 kp) fun out h1 h2 => ?_
  obtain ⟨ep, he'⟩ := PyProof.Rows.sortedAll_at s.heap its out.toArray
  have hmem : ∀ u ∈ out, u ∈ its := fun u hu => h2.perm.mem_iff.mp hu
  obtain ⟨ys, v1, v2⟩ := vals_make (us := out) (f := datOf s.heap sk d0) (K := X.K) (G := G) fun u hu => vals_again rl rv e1 u (hmem u hu)
  have hsort : out.map (datOf s.heap sk d0) = sortD ds := by
    obtain ⟨s1, s2⟩ := sort_ok hk
    have p : (out.map (datOf s.heap sk d0)).Perm ds := by
      have := h2.perm.map (datOf s.heap sk d0)
      rw [e1] at this
      exact this
    refine sort_uniq (s := sk) (fun y hy => hk y (p.mem_iff.mp hy)) (p.trans s2.symm) ?_ s1
    exact List.pairwise_map.mpr (h1.imp fun h => h)
  rw [hsort] at v2
  have hlen2 : ys.length ≤ sizeLine := by rw [v1.length, h2.perm.length_eq]; exact hlen
  exact ⟨.ref _, upd H (s.heap.objs.size + 1) (.lst ys), I.laid (t' := s.toks) (fun _ _ => PyProof.Rows.sortedAll_old) (Nat.le_succ _) ⟨hlen2, out, ep, v1, he'⟩, rfl, q.newL g v2 (I.hok.fresh (Nat.le_succ _))⟩
end
end PI
end
section
set_option Elab.async false
set_option linter.all false
set_option maxRecDepth 100000
/-! PIc: comparisons, truth, built-in calls, subscripts by the layer's rules. -/
namespace PI
open PySem PySem.Spec PyProof.Rows L2
section
variable {X : Cx}
theorem scal_of {K : PySem.W.Frag} {G H : Hp} {dx dy : Da} {x y : V} {b : Bool} (hx : RepO K G H dx x) (hy : RepO K G H dy y) (e : scalEq dx dy = some b) : scal x y = true ∧ decide (x = y) = b := by
  cases dx <;> cases dy <;> simp only [scalEq, Option.some.injEq] at e <;> first | contradiction | (simp only [RepO, Rep] at hx hy; subst hx hy; subst e; refine ⟨rfl, ?_⟩; simp)
def rCmp (K : PySem.W.Frag) (f : Da → Da → Option Bool) : R2 := fun x y H Q => ∃ G dx dy b, Same G H ∧ RepO K G H dx x ∧ RepO K G H dy y ∧ f dx dy = some b ∧ Q (.bl b) H
theorem op_eqA (hu : X.A.units + 65 < cLine) : OpR X (compareOp .Eq) (rCmp X.K eqD) := by
  intro pins s σ H x y v u Q I rx ry h
  obtain ⟨G, dx, dy, b, g, hx, hy, e, q⟩ := h
  unfold eqD at e
  cases es : scalEq dx dy with
  | some c =>
    rw [es] at e
    cases e
    obtain ⟨h1, h2⟩ := scal_of hx hy es
    exact op_eq pins s σ H x y v u Q I rx ry ⟨h1, by rw [h2]; exact q⟩
  | none =>
    rw [es] at e
    simp only at e
    split at e
    · rename_i hf
      rw [Bool.and_eq_true] at hf
      cases e
      exact op_eqD (by omega) pins s σ H x y v u Q I rx ry ⟨dx, dy, hx.dp g, hy.dp g, hf.1, hf.2, q⟩
    · cases e
theorem op_neA (hu : X.A.units + 65 < cLine) : OpR X (compareOp .NotEq) (rCmp X.K fun x y => (eqD x y).map (!·)) := by
  intro pins s σ H x y v u Q I rx ry h
  obtain ⟨G, dx, dy, b, g, hx, hy, e, q⟩ := h
  simp only at e
  unfold eqD at e
  cases es : scalEq dx dy with
  | some c =>
    rw [es] at e
    cases e
    obtain ⟨h1, h2⟩ := scal_of hx hy es
    exact op_ne pins s σ H x y v u Q I rx ry ⟨h1, by rw [h2]; exact q⟩
  | none =>
    rw [es] at e
    simp only at e
    split at e
    · rename_i hf
      rw [Bool.and_eq_true] at hf
      cases e
      exact op_neD (by omega) pins s σ H x y v u Q I rx ry ⟨dx, dy, hx.dp g, hy.dp g, hf.1, hf.2, q⟩
    · cases e
theorem eqV_of {K : PySem.W.Frag} {G : Hp} {dx dy : Da} {x y : V} (hx : Rep K G dx x) (hy : Rep K G dy y) (sx : isScal dx = true) (sy : isScal dy = true) : eqV x y = PyData.eqv dx dy := by
  cases dx <;> cases dy <;> simp only [isScal, Bool.false_eq_true] at sx sy <;> simp only [Rep] at hx hy <;> subst hx hy <;> first | rfl | (simp only [PyData.eqv]; rfl)
theorem flat_of {K : PySem.W.Frag} {G : Hp} {dx : Da} {x : V} (hx : Rep K G dx x) (sx : isScal dx = true) : flatV x = true := by
  cases dx <;> simp only [isScal, Bool.false_eq_true] at sx <;> simp only [Rep] at hx <;> subst hx <;> rfl
theorem flats_of {K : PySem.W.Frag} {G : Hp} : ∀ {ds : List Da} {xs : List V}, RepL K G ds xs → ds.all isScal = true → xs.all flatV = true
  | [], _, r, _ => by simp only [RepL] at r; subst r; rfl
  | d :: ds, _, r, a => by
    simp only [RepL] at r
    obtain ⟨x, t, rfl, h1, h2⟩ := r
    rw [List.all_cons, Bool.and_eq_true] at a
    rw [List.all_cons, flat_of h1 a.1, flats_of h2 a.2]; rfl
theorem any_of {K : PySem.W.Frag} {G : Hp} {dy : Da} {y : V} (hy : Rep K G dy y) (sy : isScal dy = true) : ∀ {ds : List Da} {xs : List V}, RepL K G ds xs → ds.all isScal = true → inV y xs = ds.any fun z => PyData.eqv z dy
  | [], _, r, _ => by simp only [RepL] at r; subst r; rfl
  | d :: ds, _, r, a => by
    simp only [RepL] at r
    obtain ⟨x, t, rfl, h1, h2⟩ := r
    rw [List.all_cons, Bool.and_eq_true] at a
    have ih := any_of hy sy h2 a.2
    unfold inV at ih ⊢
    rw [List.any_cons, List.any_cons, ih, eqV_of h1 hy a.1 sy]
theorem RepO.scal {K : PySem.W.Frag} {G H : Hp} {d : Da} {v : V} (r : RepO K G H d v) (h : isScal d = true) : Rep K G d v := by
  cases d with
  | list _ => simp [isScal] at h
  | _ => exact r
theorem in_deepT {X : Cx} {pins : List (Addr × Obj)} {s : Shared} {σ : L2.St} {H : Hp} {d : Da} {ds : List Da} {x y : V} {v u : Value} {Q : V → Hp → Prop} (hu : X.A.units + 65 < cLine) (I : L2.Inv X pins σ H s)
    (hd : Dp X.K H x d) (he : Dp X.K H y (.tuple ds)) (rx : RelV x v) (ry : RelV y u) (sd : SeqAt.shaped d = true) (se : SeqAt.shaped (.tuple ds) = true) (q : Q (.bl (ds.any fun z => PyData.eqv z d)) H) :
    wpAny (model X.prog X.w) X.A (compareOp .In v u) (L2.EP X pins σ Q) X.xe s := by
  obtain ⟨as, r1⟩ := Dp.reads I d x v hd rx
  obtain ⟨bs, r2⟩ := Dp.reads I (.tuple ds) y u he ry
  refine SeqAt.in_tuple_reads r2 r1 (SeqAt.canLay_of_shaped se) (SeqAt.canLay_of_shaped sd) ?_ ⟨.bl _, H, I, rfl, q⟩
  have h1 := SeqAt.depth_of_shaped sd
  omega
theorem notIn_deepT {X : Cx} {pins : List (Addr × Obj)} {s : Shared} {σ : L2.St} {H : Hp} {d : Da} {ds : List Da} {x y : V} {v u : Value} {Q : V → Hp → Prop} (hu : X.A.units + 65 < cLine) (I : L2.Inv X pins σ H s)
    (hd : Dp X.K H x d) (he : Dp X.K H y (.tuple ds)) (rx : RelV x v) (ry : RelV y u) (sd : SeqAt.shaped d = true) (se : SeqAt.shaped (.tuple ds) = true) (q : Q (.bl (!ds.any fun z => PyData.eqv z d)) H) :
    wpAny (model X.prog X.w) X.A (compareOp .NotIn v u) (L2.EP X pins σ Q) X.xe s := by
  obtain ⟨as, r1⟩ := Dp.reads I d x v hd rx
  obtain ⟨bs, r2⟩ := Dp.reads I (.tuple ds) y u he ry
  refine SeqAt.notIn_tuple_reads r2 r1 (SeqAt.canLay_of_shaped se) (SeqAt.canLay_of_shaped sd) ?_ ⟨.bl _, H, I, rfl, q⟩
  have h1 := SeqAt.depth_of_shaped sd
  omega
theorem op_inA (hu : X.A.units + 65 < cLine) : OpR X (compareOp .In) (rCmp X.K inD) := by
  intro pins s σ H x y v u Q I rx ry h
  obtain ⟨G, dx, dy, b, g, hx, hy, e, q⟩ := h
  cases dy with
  | str j =>
    cases dx with
    | str i =>
      simp only [inD, Option.some.injEq] at e
      subst e
      exact op_in_str pins s σ H x y v u Q I rx ry ⟨i, j, hx, hy, q⟩
    | _ => simp [inD] at e
  | list ds =>
    simp only [inD] at e
    split at e
    · rename_i hf
      rw [Bool.and_eq_true] at hf
      cases e
      exact op_inD hu pins s σ H x y v u Q I rx ry ⟨dx, ds, hx.dp g, hy.dp g, hf.1, hf.2, q⟩
    · cases e
  | tuple ds =>
    simp only [inD] at e
    split at e
    · rename_i hf
      cases e
      rw [Bool.or_eq_true] at hf
      rcases hf with hf | hf
      · rw [Bool.and_eq_true] at hf
        have hx' := hx.scal hf.1
        simp only [RepO, Rep] at hy
        obtain ⟨p, xs, e1, h1, r1⟩ := hy
        refine op_in_seq pins s σ H x y v u Q I rx ry ⟨p, xs, e1, .inr (sameT g h1), flat_of hx' hf.1, flats_of r1 hf.2, ?_⟩
        simp only [Bool.false_eq_true, if_false]
        rw [any_of hx' hf.1 r1 hf.2]
        exact q
      · rw [Bool.and_eq_true] at hf
        exact in_deepT hu I (hx.dp g) (hy.dp g) rx ry hf.1 hf.2 q
    · cases e
  | _ => simp [inD] at e
theorem op_notInA (hu : X.A.units + 65 < cLine) : OpR X (compareOp .NotIn) (rCmp X.K fun x y => (inD x y).map (!·)) := by
  intro pins s σ H x y v u Q I rx ry h
  obtain ⟨G, dx, dy, b, g, hx, hy, e, q⟩ := h
  cases dy with
  | str j =>
    cases dx with
    | str i =>
      simp only [inD, Option.map_some, Option.some.injEq] at e
      subst e
      exact op_notin_str pins s σ H x y v u Q I rx ry ⟨i, j, hx, hy, q⟩
    | _ => simp [inD] at e
  | list ds =>
    simp only [inD] at e
    split at e
    · rename_i hf
      rw [Bool.and_eq_true] at hf
      cases e
      exact op_notInD hu pins s σ H x y v u Q I rx ry ⟨dx, ds, hx.dp g, hy.dp g, hf.1, hf.2, q⟩
    · cases e
  | tuple ds =>
    simp only [inD] at e
    split at e
    · rename_i hf
      cases e
      rw [Bool.or_eq_true] at hf
      rcases hf with hf | hf
      · rw [Bool.and_eq_true] at hf
        have hx' := hx.scal hf.1
        simp only [RepO, Rep] at hy
        obtain ⟨p, xs, e1, h1, r1⟩ := hy
        refine op_notIn_seq pins s σ H x y v u Q I rx ry ⟨p, xs, e1, .inr (sameT g h1), flat_of hx' hf.1, flats_of r1 hf.2, ?_⟩
        simp only [if_true]
        rw [any_of hx' hf.1 r1 hf.2]
        exact q
      · rw [Bool.and_eq_true] at hf
        exact notIn_deepT hu I (hx.dp g) (hy.dp g) rx ry hf.1 hf.2 q
    · cases e
  | _ => simp [inD] at e
/-! < of tuples -/
theorem hscs_at : ∀ {ds : List Da} {us : List Value} {j : Nat} {d : Da} {u : Value}, HScs ds us → ds[j]? = some d → us[j]? = some u → HSc d u
  | [], _, j, d, u, _, h, _ => by simp at h
  | _ :: _, [], j, d, u, h, _, _ => h.elim
  | e :: ds, v :: us, 0, d, u, h, h1, h2 => by
    simp at h1 h2
    subst h1 h2
    exact h.1
  | e :: ds, v :: us, j + 1, d, u, h, h1, h2 => hscs_at (ds := ds) (us := us) (j := j) h.2 (by simpa using h1) (by simpa using h2)
theorem scs_len : ∀ {bs : List Bool} {ds es : List Da}, scsOf ds = some bs → scsOf es = some bs → ds.length = es.length
  | [], ds, es, h1, h2 => by rw [scs_nil h1, scs_nil h2]
  | b :: bs, ds, es, h1, h2 => by
    obtain ⟨d, dr, rfl, a1, a2⟩ := scs_cons h1
    obtain ⟨c, cr, rfl, b1, b2⟩ := scs_cons h2
    rw [List.length_cons, List.length_cons, scs_len a2 b2]
theorem scs_at : ∀ {bs : List Bool} {ds : List Da} {j : Nat} {d : Da}, scsOf ds = some bs → ds[j]? = some d → ∃ c, scOf d = some c ∧ bs[j]? = some c
  | [], ds, j, d, h1, h2 => by rw [scs_nil h1] at h2; simp at h2
  | b :: bs, ds, j, d, h1, h2 => by
    obtain ⟨e, dr, rfl, a1, a2⟩ := scs_cons h1
    cases j with
    | zero => simp at h2; subst h2; exact ⟨b, a1, rfl⟩
    | succ j => simpa using scs_at (j := j) a2 (by simpa using h2)
theorem lex_ltVs (e r : Nat → Bool) : ∀ {bs : List Bool} {ds es : List Da} (i : Nat), scsOf ds = some bs → scsOf es = some bs →
    (∀ j x y, ds[j]? = some x → es[j]? = some y → e (i + j) = PyData.eqv x y ∧ r (i + j) = ltV x y) → Ob.lexAt e r false i ds.length = ltVs ds es
  | [], ds, es, i, h1, h2, _ => by
    rw [scs_nil h1, scs_nil h2]
    rfl
  | b :: bs, ds, es, i, h1, h2, h => by
    obtain ⟨d, dr, rfl, a1, a2⟩ := scs_cons h1
    obtain ⟨c, cr, rfl, b1, b2⟩ := scs_cons h2
    obtain ⟨q1, q2⟩ := h 0 d c rfl rfl
    rw [Nat.add_zero] at q1 q2
    rw [List.length_cons, Ob.lexAt_succ, q1, q2, ltVs]
    have ih := lex_ltVs e r (i + 1) a2 b2 (fun j x y hx hy => by
      have := h (j + 1) x y (by simpa using hx) (by simpa using hy)
      rw [show i + (j + 1) = i + 1 + j by omega] at this
      exact this)
    rw [ih]
theorem op_ltT {X : Cx} {G : Hp} {pins : List (Addr × Obj)} {s : Shared} {σ : L2.St} {H : Hp} {ds es : List Da} {x y : V} {v u : Value} {Q : V → Hp → Prop} {sk : Bool × List Bool} (hu : X.A.units + 65 < cLine) (I : L2.Inv X pins σ H s) (g : Same G H)
    (rx : Rep X.K G (.tuple ds) x) (ry : Rep X.K G (.tuple es) y) (vx : RelV x v) (vy : RelV y u) (h1 : skOf (.tuple ds) = some sk) (h2 : skOf (.tuple es) = some sk) (q : Q (.bl (ltVs ds es)) H) :
    wpAny (model X.prog X.w) X.A (compareOp .Lt v u) (L2.EP X pins σ Q) X.xe s := by
  obtain ⟨a, o, us, n, rfl, ho, hc, hd, hs⟩ := it_heap I g h1 rx vx
  obtain ⟨b, o2, us2, n2, rfl, ho2, hc2, hd2, hs2⟩ := it_heap I g h2 ry vy
  have hbs : ∃ bs, scsOf ds = some bs ∧ scsOf es = some bs := by
    rcases sk_inv h1 with ⟨_, c, _, z⟩ | ⟨_, c, bs, fs, e1, z, k1⟩
    · simp [scOf] at z
    · cases z
      rcases sk_inv h2 with ⟨_, c2, _, z⟩ | ⟨_, c2, bs2, fs2, e2, z, k2⟩
      · simp [scOf] at z
      · cases z
        rw [e1] at e2
        cases e2
        exact ⟨_, k1, k2⟩
  obtain ⟨bs, k1, k2⟩ := hbs
  have n1 : us.size = ds.length := by have := hscs_len hs; simpa using this.symm
  have n2 : us2.size = es.length := by have := hscs_len hs2; simpa using this.symm
  have nl : ds.length = es.length := scs_len k1 k2
  let e : Nat → Bool := fun j => match ds[j]?, es[j]? with
    | some x, some y => PyData.eqv x y
    | _, _ => false
  let r : Nat → Bool := fun j => match ds[j]?, es[j]? with
    | some x, some y => ltV x y
    | _, _ => false
  have at1 : ∀ j (hj : j < us.size), ∃ d, ds[j]? = some d ∧ HSc d us[j] ∧ ∃ c, scOf d = some c ∧ bs[j]? = some c := fun j hj => by
    have hj2 : j < ds.length := by omega
    obtain ⟨c, hc1, hc2⟩ := scs_at k1 (List.getElem?_eq_getElem hj2)
    exact ⟨ds[j], List.getElem?_eq_getElem hj2, hscs_at hs (List.getElem?_eq_getElem hj2) (by simp [hj]), c, hc1, hc2⟩
  have at2 : ∀ j (hj : j < us2.size), ∃ d, es[j]? = some d ∧ HSc d us2[j] ∧ ∃ c, scOf d = some c ∧ bs[j]? = some c := fun j hj => by
    have hj2 : j < es.length := by omega
    obtain ⟨c, hc1, hc2⟩ := scs_at k2 (List.getElem?_eq_getElem hj2)
    exact ⟨es[j], List.getElem?_eq_getElem hj2, hscs_at hs2 (List.getElem?_eq_getElem hj2) (by simp [hj]), c, hc1, hc2⟩
  have R := Ob.RcOp.tuples_lt (A := X.A) (s := s) (e := e) (r := r) ⟨o, ho, hc, n, hd⟩ ⟨o2, ho2, hc2, _, hd2⟩ (by omega) (fun j hj1 hj2 => by
    obtain ⟨d, d1, d2, c, d3, d4⟩ := at1 j hj1
    obtain ⟨f, f1, f2, c', f3, f4⟩ := at2 j hj2
    rw [d4] at f4
    cases f4
    show SeqAt.EqAt _ _ _ _ (match ds[j]?, es[j]? with
      | some x, some y => PyData.eqv x y
      | _, _ => false)
    rw [d1, f1]
    rcases sc_inv d3 with ⟨rfl, i1, rfl⟩ | ⟨rfl, i1, rfl⟩
    · rcases sc_inv f3 with ⟨_, i2, rfl⟩ | ⟨z, _⟩
      · obtain ⟨t, et⟩ := d2
        obtain ⟨t', et'⟩ := f2
        rw [et, et']
        exact SeqAt.EqAt.int_int _ _ _ _
      · cases z
    · rcases sc_inv f3 with ⟨z, _⟩ | ⟨_, i2, rfl⟩
      · cases z
      · obtain ⟨t, et⟩ := d2
        obtain ⟨t', et'⟩ := f2
        rw [et, et']
        exact SeqAt.EqAt.str_str _ _ _ _) (fun j hj1 hj2 _ => by
    obtain ⟨d, d1, d2, c, d3, d4⟩ := at1 j hj1
    obtain ⟨f, f1, f2, c', f3, f4⟩ := at2 j hj2
    rw [d4] at f4
    cases f4
    show Ob.RcOp _ _ _ _ _ (match ds[j]?, es[j]? with
      | some x, some y => ltV x y
      | _, _ => false)
    rw [d1, f1]
    rcases sc_inv d3 with ⟨rfl, i1, rfl⟩ | ⟨rfl, i1, rfl⟩
    · rcases sc_inv f3 with ⟨_, i2, rfl⟩ | ⟨z, _⟩
      · obtain ⟨t, et⟩ := d2
        obtain ⟨t', et'⟩ := f2
        rw [et, et']
        exact Ob.RcOp.lt_int _ _ _ _
      · cases z
    · rcases sc_inv f3 with ⟨z, _⟩ | ⟨_, i2, rfl⟩
      · cases z
      · obtain ⟨t, et⟩ := d2
        obtain ⟨t', et'⟩ := f2
        rw [et, et']
        exact fun _ _ _ _ h => PyProof.Rows.lt_str h)
  have hlex : Ob.lexAt e r (decide (us.size < us2.size)) 0 (min us.size us2.size) = ltVs ds es := by
    have z : decide (us.size < us2.size) = false := decide_eq_false (by omega)
    rw [z, show min us.size us2.size = ds.length by omega]
    refine lex_ltVs e r 0 k1 k2 fun j x y hx hy => ?_
    rw [Nat.zero_add]
    show (match ds[j]?, es[j]? with
      | some x, some y => PyData.eqv x y
      | _, _ => false) = _ ∧ (match ds[j]?, es[j]? with
      | some x, some y => ltV x y
      | _, _ => false) = _
    rw [hx, hy]
    exact ⟨rfl, rfl⟩
  rw [hlex] at R
  have z : wpAny (model X.prog X.w) X.A (compareOp .Lt (.ref a) (.ref b)) (L2.EP X pins σ Q) X.xe s := R X.prog X.w X.xe (L2.EP X pins σ Q) ⟨.bl _, H, I, rfl, q⟩
  exact z
theorem op_cmpA (hu : X.A.units + 65 < cLine) : ∀ o : COp, OpR X (compareOp (cmpOf o)) (rCmp X.K (cmpD o)) := by
  intro o
  cases o with
  | eq => exact op_eqA hu
  | ne => exact op_neA hu
  | isin => exact op_inA hu
  | notin => exact op_notInA hu
  | lt =>
    intro pins s σ H x y v u Q I rx ry h
    obtain ⟨G, dx, dy, b, g, hx, hy, e, q⟩ := h
    cases dx with
    | int i =>
      cases dy with
      | int j =>
        simp only [cmpD, Option.some.injEq] at e
        subst e
        exact op_lt pins s σ H x y v u Q I rx ry ⟨i, j, hx, hy, q⟩
      | _ => simp [cmpD] at e
    | str i =>
      cases dy with
      | str j =>
        simp only [cmpD, Option.some.injEq] at e
        subst e
        exact op_lt_str pins s σ H x y v u Q I rx ry ⟨i, j, hx, hy, q⟩
      | _ => simp [cmpD] at e
    | tuple a =>
      cases dy with
      | tuple b =>
        simp only [cmpD] at e
        split at e
        · rename_i sk hsk
          split at e
          · rename_i hsk2
            cases e
            exact op_ltT hu I g hx hy rx ry hsk hsk2 q
          · cases e
        · cases e
      | _ => simp [cmpD] at e
    | _ => simp [cmpD] at e
  | le =>
    intro pins s σ H x y v u Q I rx ry h
    obtain ⟨G, dx, dy, b, g, hx, hy, e, q⟩ := h
    cases dx with
    | int i =>
      cases dy with
      | int j =>
        simp only [cmpD, Option.some.injEq] at e
        subst e
        exact op_le pins s σ H x y v u Q I rx ry ⟨i, j, hx, hy, q⟩
      | _ => simp [cmpD] at e
    | _ => simp [cmpD] at e
  | gt =>
    intro pins s σ H x y v u Q I rx ry h
    obtain ⟨G, dx, dy, b, g, hx, hy, e, q⟩ := h
    cases dx with
    | int i =>
      cases dy with
      | int j =>
        simp only [cmpD, Option.some.injEq] at e
        subst e
        exact op_gt pins s σ H x y v u Q I rx ry ⟨i, j, hx, hy, q⟩
      | _ => simp [cmpD] at e
    | _ => simp [cmpD] at e
  | ge =>
    intro pins s σ H x y v u Q I rx ry h
    obtain ⟨G, dx, dy, b, g, hx, hy, e, q⟩ := h
    cases dx with
    | int i =>
      cases dy with
      | int j =>
        simp only [cmpD, Option.some.injEq] at e
        subst e
        exact op_ge pins s σ H x y v u Q I rx ry ⟨i, j, hx, hy, q⟩
      | _ => simp [cmpD] at e
    | _ => simp [cmpD] at e
/-! ### truth -/
theorem truV_of {K : PySem.W.Frag} {G H : Hp} {d : Da} {v : V} {b : Bool} (g : Same G H) (r : RepO K G H d v) (e : truD d = some b) : TruV K v H b := by
  have nil_iff : ∀ {ds : List Da} {xs : List V}, RepL K G ds xs → (!ds.isEmpty) = !xs.isEmpty := fun {ds xs} l => by
    have := l.length
    cases ds <;> cases xs <;> first | rfl | simp at this
  cases d with
  | none => simp only [truD, Option.some.injEq] at e; subst e; simp only [RepO, Rep] at r; subst r; exact rfl
  | bool k => simp only [truD, Option.some.injEq] at e; subst e; simp only [RepO, Rep] at r; subst r; exact rfl
  | int i => simp only [truD, Option.some.injEq] at e; subst e; simp only [RepO, Rep] at r; subst r; exact rfl
  | str z =>
    simp only [truD] at e
    split at e
    · simp only [Option.some.injEq] at e; subst e; simp only [RepO, Rep] at r; subst r; exact ⟨by assumption, rfl⟩
    · cases e
  | list ds =>
    simp only [truD, Option.some.injEq] at e; subst e
    obtain ⟨a, xs, rfl, h, l⟩ := r
    exact .inl ⟨xs, SqL.of h, nil_iff l⟩
  | tuple ds =>
    simp only [truD, Option.some.injEq] at e; subst e
    simp only [RepO, Rep] at r
    obtain ⟨a, xs, rfl, h, l⟩ := r
    exact .inr (.inl ⟨xs, sameT g h, nil_iff l⟩)
  | dict _ => simp [truD] at e
/-! ### built-in functions and types of one value -/
def b1Name : B1 → Str
  | .len => "len" | .abs => "abs" | .int => "int" | .str => "str" | .list => "list" | .tuple => "tuple" | .sum => "sum" | .max => "max" | .min => "min"
  | .any => "any" | .all => "all" | .sorted => "sorted" | .repr => "repr"
def b1Val : B1 → Value
  | .len => .builtin "len" | .abs => .builtin "abs" | .int => .type "int" | .str => .type "str" | .list => .type "list" | .tuple => .type "tuple" | .sum => .builtin "sum"
  | .max => .builtin "max" | .min => .builtin "min" | .any => .builtin "any" | .all => .builtin "all" | .sorted => .builtin "sorted" | .repr => .builtin "repr"
theorem maxL_ok : ∀ {ns : List Int} {m : Int}, 0 < ns.length → m ∈ ns → (∀ y, y ∈ ns → y ≤ m) → m = maxL ns
  | [], _, h, _, _ => by simp at h
  | [x], m, _, hm, _ => by simp at hm; rw [hm]; rfl
  | x :: y :: r, m, _, hm, hle => by
    have hx := hle x (by simp)
    by_cases hr : m ∈ y :: r
    · have ih := maxL_ok (ns := y :: r) (m := m) (by simp) hr (fun z hz => hle z (List.mem_cons_of_mem _ hz))
      show m = max x (maxL (y :: r))
      rw [← ih]; omega
    · have e : m = x := by
        rcases List.mem_cons.mp hm with e | e
        · exact e
        · exact absurd e hr
      have hall : ∀ z, z ∈ y :: r → z ≤ x := fun z hz => by rw [← e]; exact hle z (List.mem_cons_of_mem _ hz)
      have mem : ∀ (l : List Int), 0 < l.length → maxL l ∈ l := by
        intro l
        induction l with
        | nil => intro h; simp at h
        | cons a t ih =>
          intro _
          cases t with
          | nil => simp [maxL]
          | cons b t =>
            have ih := ih (by simp)
            show max a (maxL (b :: t)) ∈ a :: b :: t
            by_cases h : maxL (b :: t) ≤ a
            · rw [Int.max_eq_left h]; simp
            · rw [Int.max_eq_right (by omega)]; exact List.mem_cons_of_mem _ ih
      have := hall _ (mem (y :: r) (by simp))
      show m = max x (maxL (y :: r))
      omega
theorem minL_ok : ∀ {ns : List Int} {m : Int}, 0 < ns.length → m ∈ ns → (∀ y, y ∈ ns → m ≤ y) → m = minL ns
  | [], _, h, _, _ => by simp at h
  | [x], m, _, hm, _ => by simp at hm; rw [hm]; rfl
  | x :: y :: r, m, _, hm, hle => by
    have hx := hle x (by simp)
    by_cases hr : m ∈ y :: r
    · have ih := minL_ok (ns := y :: r) (m := m) (by simp) hr (fun z hz => hle z (List.mem_cons_of_mem _ hz))
      show m = min x (minL (y :: r))
      rw [← ih]; omega
    · have e : m = x := by
        rcases List.mem_cons.mp hm with e | e
        · exact e
        · exact absurd e hr
      have hall : ∀ z, z ∈ y :: r → x ≤ z := fun z hz => by rw [← e]; exact hle z (List.mem_cons_of_mem _ hz)
      have mem : ∀ (l : List Int), 0 < l.length → minL l ∈ l := by
        intro l
        induction l with
        | nil => intro h; simp at h
        | cons a t ih =>
          intro _
          cases t with
          | nil => simp [minL]
          | cons b t =>
            have ih := ih (by simp)
            show min a (minL (b :: t)) ∈ a :: b :: t
            by_cases h : a ≤ minL (b :: t)
            · rw [Int.min_eq_left h]; simp
            · rw [Int.min_eq_right (by omega)]; exact List.mem_cons_of_mem _ ih
      have := hall _ (mem (y :: r) (by simp))
      show m = min x (minL (y :: r))
      omega
def rB1 (K : PySem.W.Frag) (f : Da → Option Da) : List V → Hp → VK → Prop := fun vs H Q => ∃ G x dx d, vs = [x] ∧ Same G H ∧ RepO K G H dx x ∧ f dx = some d ∧ Res K G H d Q
theorem call_b1 (hc : X.calm = true) : ∀ b : B1, CallR X (b1Val b) (rB1 X.K (b1D b)) := by
  intro b pins s σ H vs us Q I rv h
  obtain ⟨G, x, dx, d, rfl, g, hx, e, q⟩ := h
  cases b with
  | len =>
    cases dx with
    | str z =>
      simp only [b1D] at e
      split at e
      · simp only [Option.some.injEq] at e
        subst e
        simp only [RepO, Rep] at hx
        subst hx
        exact call_len pins s σ H _ us Q I rv ⟨.str z, _, rfl, ⟨by assumption, rfl⟩, q.here g rfl⟩
      · cases e
    | list ds =>
      simp only [b1D, Option.some.injEq] at e
      subst e
      obtain ⟨a, xs, rfl, h1, l⟩ := hx
      exact call_len pins s σ H _ us Q I rv ⟨.ref a, xs.length, rfl, .inl ⟨xs, SqL.of h1, rfl⟩, by rw [l.length]; exact q.here g rfl⟩
    | tuple ds =>
      simp only [b1D, Option.some.injEq] at e
      subst e
      simp only [RepO, Rep] at hx
      obtain ⟨a, xs, rfl, h1, l⟩ := hx
      exact call_len pins s σ H _ us Q I rv ⟨.ref a, xs.length, rfl, .inr ⟨xs, sameT g h1, rfl⟩, by rw [l.length]; exact q.here g rfl⟩
    | _ => simp [b1D] at e
  | abs =>
    cases dx with
    | int i =>
      simp only [b1D, Option.some.injEq] at e
      subst e
      simp only [RepO, Rep] at hx
      subst hx
      exact call_abs pins s σ H _ us Q I rv ⟨i, rfl, q.here g rfl⟩
    | _ => simp [b1D] at e
  | int =>
    cases dx with
    | int i =>
      simp only [b1D, Option.some.injEq] at e
      subst e
      simp only [RepO, Rep] at hx
      subst hx
      exact call_int1 pins s σ H _ us Q I rv (.inl ⟨i, rfl, q.here g rfl⟩)
    | bool k =>
      simp only [b1D, Option.some.injEq] at e
      subst e
      simp only [RepO, Rep] at hx
      subst hx
      exact call_int1 pins s σ H _ us Q I rv (.inr ⟨k, rfl, q.here g rfl⟩)
    | _ => simp [b1D] at e
  | str =>
    cases dx with
    | int i =>
      simp only [b1D] at e
      split at e
      · simp only [Option.some.injEq] at e
        subst e
        simp only [RepO, Rep] at hx
        subst hx
        exact call_str_int pins s σ H _ us Q I rv ⟨i, rfl, by assumption, q.here g rfl⟩
      · cases e
    | _ => simp [b1D] at e
  | list =>
    cases dx with
    | list ds =>
      simp only [b1D, Option.some.injEq] at e
      subst e
      obtain ⟨a, xs, rfl, h1, l⟩ := hx
      exact call_list_of pins s σ H _ us Q I rv ⟨a, xs, rfl, .inl (SqL.of h1), fun p hp => q.newL g l hp⟩
    | tuple ds =>
      simp only [b1D, Option.some.injEq] at e
      subst e
      simp only [RepO, Rep] at hx
      obtain ⟨a, xs, rfl, h1, l⟩ := hx
      exact call_list_of pins s σ H _ us Q I rv ⟨a, xs, rfl, .inr (sameT g h1), fun p hp => q.newL g l hp⟩
    | _ => simp [b1D] at e
  | tuple =>
    cases dx with
    | list ds =>
      simp only [b1D, Option.some.injEq] at e
      subst e
      obtain ⟨a, xs, rfl, h1, l⟩ := hx
      exact call_tuple_of pins s σ H _ us Q I rv ⟨a, xs, rfl, .inl ⟨SqL.of h1, fun p hp => q.newT g l hp⟩⟩
    | tuple ds =>
      simp only [b1D, Option.some.injEq] at e
      subst e
      simp only [RepO, Rep] at hx
      obtain ⟨a, xs, rfl, h1, l⟩ := hx
      refine call_tuple_of pins s σ H _ us Q I rv ⟨a, xs, rfl, .inr ⟨sameT g h1, q.here g ?_⟩⟩
      simp only [Rep]
      exact ⟨a, xs, rfl, h1, l⟩
    | _ => simp [b1D] at e
  | sum =>
    cases dx with
    | list ds =>
      simp only [b1D, Option.map_eq_some_iff] at e
      obtain ⟨ns, e, rfl⟩ := e
      obtain ⟨a, xs, rfl, h1, l⟩ := hx
      have ex := l.ints e
      exact cr_sum hc pins s σ H _ us Q I rv ⟨a, ns, rfl, by rw [← ex]; exact SqL.of h1, q.here g rfl⟩
    | _ => simp [b1D] at e
  | max =>
    cases dx with
    | list ds =>
      simp only [b1D] at e
      cases en : intsD ds with
      | none => rw [en] at e; simp at e
      | some ns =>
        rw [en] at e
        simp only at e
        split at e
        · simp only [Option.some.injEq] at e
          subst e
          obtain ⟨a, xs, rfl, h1, l⟩ := hx
          have ex := l.ints en
          exact cr_max hc pins s σ H _ us Q I rv ⟨a, ns, rfl, by rw [← ex]; exact SqL.of h1, by assumption, fun m hm hle => by rw [maxL_ok (by assumption) hm hle]; exact q.here g rfl⟩
        · cases e
    | _ => simp [b1D] at e
  | min =>
    cases dx with
    | list ds =>
      simp only [b1D] at e
      cases en : intsD ds with
      | none => rw [en] at e; simp at e
      | some ns =>
        rw [en] at e
        simp only at e
        split at e
        · simp only [Option.some.injEq] at e
          subst e
          obtain ⟨a, xs, rfl, h1, l⟩ := hx
          have ex := l.ints en
          exact cr_min hc pins s σ H _ us Q I rv ⟨a, ns, rfl, by rw [← ex]; exact SqL.of h1, by assumption, fun m hm hle => by rw [minL_ok (by assumption) hm hle]; exact q.here g rfl⟩
        · cases e
    | _ => simp [b1D] at e
  | any =>
    cases dx with
    | list ds =>
      simp only [b1D, Option.map_eq_some_iff] at e
      obtain ⟨ns, e, rfl⟩ := e
      obtain ⟨a, xs, rfl, h1, l⟩ := hx
      have ex := l.bls e
      exact cr_any hc pins s σ H _ us Q I rv ⟨a, ns, rfl, by rw [← ex]; exact SqL.of h1, q.here g rfl⟩
    | _ => simp [b1D] at e
  | all =>
    cases dx with
    | list ds =>
      simp only [b1D, Option.map_eq_some_iff] at e
      obtain ⟨ns, e, rfl⟩ := e
      obtain ⟨a, xs, rfl, h1, l⟩ := hx
      have ex := l.bls e
      exact cr_all hc pins s σ H _ us Q I rv ⟨a, ns, rfl, by rw [← ex]; exact SqL.of h1, q.here g rfl⟩
    | _ => simp [b1D] at e
  | sorted =>
    cases dx with
    | list ds =>
      simp only [b1D] at e
      split at e
      · simp only [Option.some.injEq] at e
        subst e
        obtain ⟨a, xs, rfl, h1, l⟩ := hx
        exact cr_sortedD pins s σ H _ us Q I rv ⟨G, a, ds, xs, rfl, g, h1, l, by assumption, q⟩
      · cases e
    | tuple ds =>
      simp only [b1D] at e
      split at e
      · simp only [Option.some.injEq] at e
        subst e
        simp only [RepO, Rep] at hx
        obtain ⟨a, xs, rfl, h1, l⟩ := hx
        exact cr_sortedT pins s σ H _ us Q I rv ⟨G, a, ds, xs, rfl, g, sameT g h1, l, by assumption, q⟩
      · cases e
    | _ => simp [b1D] at e
  | repr => simp [b1D] at e
def b2Name : B2 → Str
  | .max => "max" | .min => "min"
def b2Val : B2 → Value
  | .max => .builtin "max" | .min => .builtin "min"
def rB2 (K : PySem.W.Frag) (f : Da → Da → Option Da) : List V → Hp → VK → Prop := fun vs H Q => ∃ G x y dx dy d, vs = [x, y] ∧ Same G H ∧ RepO K G H dx x ∧ RepO K G H dy y ∧ f dx dy = some d ∧ Res K G H d Q
theorem call_b2 (hc : X.calm = true) : ∀ b : B2, CallR X (b2Val b) (rB2 X.K (b2D b)) := by
  intro b pins s σ H vs us Q I rv h
  obtain ⟨G, x, y, dx, dy, d, rfl, g, hx, hy, e, q⟩ := h
  cases b with
  | max =>
    cases dx with
    | int i =>
      cases dy with
      | int j =>
        simp only [b2D, Option.some.injEq] at e
        subst e
        simp only [RepO, Rep] at hx hy
        subst hx hy
        exact call_max2 hc pins s σ H _ us Q I rv ⟨i, j, rfl, q.here g rfl⟩
      | _ => simp [b2D] at e
    | _ => simp [b2D] at e
  | min =>
    cases dx with
    | int i =>
      cases dy with
      | int j =>
        simp only [b2D, Option.some.injEq] at e
        subst e
        simp only [RepO, Rep] at hx hy
        subst hx hy
        exact call_min2 hc pins s σ H _ us Q I rv ⟨i, j, rfl, q.here g rfl⟩
      | _ => simp [b2D] at e
    | _ => simp [b2D] at e
/-! ### isinstance -/
def tyName : Ty → String
  | .int => "int" | .bool => "bool" | .str => "str" | .tuple => "tuple" | .list => "list"
theorem kt_none : ∀ t : Ty, kitB "NoneType" (tyName t) = some false := by intro t; cases t <;> decide +kernel
theorem kt_bool : ∀ t : Ty, kitB "bool" (tyName t) = some (t = .int || t = .bool) := by intro t; cases t <;> decide +kernel
theorem kt_int : ∀ t : Ty, kitB "int" (tyName t) = some (decide (t = .int)) := by intro t; cases t <;> decide +kernel
theorem kt_str : ∀ t : Ty, kitB "str" (tyName t) = some (decide (t = .str)) := by intro t; cases t <;> decide +kernel
theorem kt_list : ∀ t : Ty, kitB "list" (tyName t) = some (decide (t = .list)) := by intro t; cases t <;> decide +kernel
theorem kt_tuple : ∀ t : Ty, kitB "tuple" (tyName t) = some (decide (t = .tuple)) := by intro t; cases t <;> decide +kernel
theorem tyX_of {K : PySem.W.Frag} {G H : Hp} {d : Da} {v : V} (g : Same G H) (r : RepO K G H d v) (h : isTyOk d = true) (t : Ty) : ∃ u : String, TyX K H v (.type u) ∧ kitB u (tyName t) = some (isTy t d) := by
  cases d with
  | none => simp only [RepO, Rep] at r; subst r; exact ⟨_, .base .non, kt_none t⟩
  | bool k => simp only [RepO, Rep] at r; subst r; exact ⟨_, .base (.bl k), kt_bool t⟩
  | int i => simp only [RepO, Rep] at r; subst r; exact ⟨_, .base (.int i), kt_int t⟩
  | str z => simp only [RepO, Rep] at r; subst r; exact ⟨_, .base (.str z), kt_str t⟩
  | list ds =>
    obtain ⟨a, xs, rfl, h1, l⟩ := r
    exact ⟨_, .base (.lst h1), kt_list t⟩
  | tuple ds =>
    simp only [RepO, Rep] at r
    obtain ⟨a, xs, rfl, h1, l⟩ := r
    refine ⟨"tuple", ?_, kt_tuple t⟩
    rcases sameT g h1 with (e | ⟨o, e⟩) | ⟨o, its, n, e, c, _⟩
    · exact .base (.tup e)
    · exact .fTuple e
    · exact .kTuple e c
  | dict _ => simp [isTyOk] at h
def rIsiD (K : PySem.W.Frag) (t : Ty) : List V → Hp → VK → Prop := fun vs H Q => ∃ G x dx, vs = [x, .ty (tyName t)] ∧ Same G H ∧ RepO K G H dx x ∧ isTyOk dx = true ∧ Q (.bl (isTy t dx)) H
theorem call_isiD (t : Ty) : CallR X (.builtin "isinstance") (rIsiD X.K t) := by
  intro pins s σ H vs us Q I rv h
  obtain ⟨G, x, dx, rfl, g, hx, hk, q⟩ := h
  obtain ⟨u, h1, h2⟩ := tyX_of g hx hk t
  exact call_isi pins s σ H _ us Q I rv ⟨x, .ty (tyName t), _, _, _, rfl, .ty _, h1, kit_ty h2, q⟩
/-! ### subscripts, slices -/
theorem RepL.at {K : PySem.W.Frag} {G : Hp} {ds : List Da} {xs : List V} {i : Int} {d : Da} (r : RepL K G ds xs) (e : atD ds i = some d) : ∃ x, atI xs i = some x ∧ Rep K G d x := by
  unfold atD atI at e
  rw [← r.length] at e
  cases h : ixN xs.length i with
  | none => rw [h] at e; simp at e
  | some j =>
    rw [h] at e
    obtain ⟨x, h1, h2⟩ := r.get (i := j) (d := d) e
    exact ⟨x, by unfold atI; rw [h]; exact h1, h2⟩
/-- what the item of a list may be: a list within it is one that never changes -/
theorem ix_all : IxR X (fun x y H Q => ∃ G dx dy d, Same G H ∧ RepO X.K G H dx x ∧ RepO X.K G H dy y ∧ idxD dx dy = some d ∧ ∀ v, Rep X.K G d v → Q v H) := by
  intro value slice pins s σ H x y v u Q I rx ry h hs
  obtain ⟨G, dx, dy, d, g, hx, hy, e, q⟩ := h
  cases dy with
  | int i =>
    simp only [RepO, Rep] at hy
    subst hy
    cases dx with
    | list ds =>
      simp only [idxD] at e
      obtain ⟨a, xs, rfl, h1, l⟩ := hx
      obtain ⟨z, h2, h3⟩ := l.at e
      exact ix_seq value slice pins s σ H _ _ v u Q I rx ry (.inl ⟨a, xs, i, z, rfl, rfl, SqL.of h1, h2, q z h3⟩) hs
    | tuple ds =>
      simp only [idxD] at e
      simp only [RepO, Rep] at hx
      obtain ⟨a, xs, rfl, h1, l⟩ := hx
      obtain ⟨z, h2, h3⟩ := l.at e
      exact ix_seq value slice pins s σ H _ _ v u Q I rx ry (.inr (.inl ⟨a, xs, i, z, rfl, rfl, sameT g h1, h2, q z h3⟩)) hs
    | str z =>
      simp only [idxD] at e
      split at e
      · simp only [Option.map_eq_some_iff] at e
        obtain ⟨c, e, rfl⟩ := e
        simp only [RepO, Rep] at hx
        subst hx
        exact ix_seq value slice pins s σ H _ _ v u Q I rx ry (.inr (.inr ⟨z, i, c, rfl, rfl, by assumption, e, q _ (by simp only [sing, Rep])⟩)) hs
      · cases e
    | _ => simp [idxD] at e
  | _ => cases dx <;> simp [idxD] at e
theorem RepL.cut {K : PySem.W.Frag} {G : Hp} {ds : List Da} {xs : List V} (r : RepL K G ds xs) (lo hi : Option Int) : RepL K G (cutD ds lo hi) (cutV xs lo hi) := by
  unfold cutD cutV
  rw [r.length]
  exact RepL.take _ (RepL.drop _ r)
theorem cutD_whole {ds : List Da} {lo hi : Option Int} (h : HT.sIx ds.length 0 lo = 0 ∧ HT.sIx ds.length ds.length hi = ds.length) : cutD ds lo hi = ds := by
  unfold cutD
  rw [h.1, h.2, Nat.sub_zero, List.drop_zero, List.take_length]
theorem sl_all : SlR X (fun x lo hi H Q => ∃ G dx d, Same G H ∧ RepO X.K G H dx x ∧ slD dx lo hi = some d ∧ Res X.K G H d Q) := by
  intro pins s σ H x v vl vu lo hi sl Q I rx hsl pl pu h
  obtain ⟨G, dx, d, g, hx, e, q⟩ := h
  cases dx with
  | list ds =>
    simp only [slD, Option.some.injEq] at e
    subst e
    obtain ⟨a, xs, rfl, h1, l⟩ := hx
    exact sl_list pins s σ H _ v vl vu lo hi sl Q I rx hsl pl pu ⟨a, xs, rfl, SqL.of h1, fun p hp => q.newL g (l.cut lo hi) hp⟩
  | tuple ds =>
    simp only [slD, Option.some.injEq] at e
    subst e
    simp only [RepO, Rep] at hx
    obtain ⟨a, xs, rfl, h1, l⟩ := hx
    refine sl_tupA pins s σ H _ v vl vu lo hi sl Q I rx hsl pl pu ⟨a, xs, rfl, sameT g h1, fun hw => ?_, fun _ p hp => q.newT g (l.cut lo hi) hp⟩
    rw [l.length] at hw
    rw [cutD_whole hw] at q
    exact q.here g (by simp only [Rep]; exact ⟨a, xs, rfl, h1, l⟩)
  | str z =>
    simp only [slD] at e
    split at e
    · simp only [Option.some.injEq] at e
      subst e
      simp only [RepO, Rep] at hx
      subst hx
      exact sl_str pins s σ H _ v vl vu lo hi sl Q I rx hsl pl pu ⟨z, rfl, by assumption, q.here g rfl⟩
    · cases e
  | _ => simp [slD] at e
end
end PI
end
section
set_option Elab.async false
set_option linter.all false
set_option maxRecDepth 100000
/-! PId: the check of E, S against the row's syntax; the slots' relation; readings. -/
namespace PI
open PySem PySem.Spec PyProof.Rows L2

/-! ### the check -/
structure CC where
  cm : Bool
  N : List Str
  sc : Scope
  fn : Str → Bool
def nameOk (x : Str) : Bool := !(x == ("__debug__" : Str)) && !(x == ("__classdict__" : Str)) && decide (x ≠ ("__name__" : Str))
def visB (C : CC) (x : Str) : Bool := match C.sc.names.lookup x with
  | some .local => true
  | some .cell => true
  | some .free => true
  | _ => false
def locB (C : CC) (x : Str) : Bool := match C.sc.names.lookup x with
  | some .local => true
  | some .cell => C.fn x
  | _ => false
def gloB (C : CC) (x : Str) : Bool := nameOk x && (match C.sc.names.lookup x with
  | some .globalImplicit => true
  | _ => false)
def slotB (C : CC) (i : Nat) (x : Str) : Bool := decide (C.N[i]? = some x) && (visB C x && nameOk x)
def tgtB (C : CC) (i : Nat) (x : Str) : Bool := decide (C.N[i]? = some x) && locB C x
def notStar : Expr → Bool
  | .Starred _ _ => false
  | _ => true
def notSlice : Expr → Bool
  | .Slice _ _ _ _ => false
  | _ => true
def notSet : Expr → Bool
  | .Set _ _ _ => false
  | _ => true
def notCall0 : Expr → Bool
  | .Call _ [] _ _ => false
  | _ => true
/-- its test is its value's truth -/
def plainT : Expr → Bool
  | .UnaryOp .Not _ _ => false
  | .BoolOp _ _ _ => false
  | .IfExp _ _ _ _ => false
  | .Compare _ _ _ _ => false
  | _ => true
def constB : Const → Da → Bool
  | .none, .none => true
  | .bool a, .bool b => decide (a = b)
  | .int i, .int j => decide (i = j)
  | .str x, .str y => decide (x = y)
  | _, _ => false
def m1Name : M1 → Str
  | .split => "split" | .join => "join" | .index => "index" | .startswith => "startswith" | .partition => "partition"
def mmName : MM → Str
  | .append => "append" | .extend => "extend" | .pop => "pop" | .popat => "pop"
mutual
def chkTg (C : CC) : Tg → Expr → Bool
  | .nm i, .Name x _ => tgtB C i x
  | .tup ts, .Tuple es _ _ => C.cm && chkTgs C ts es
  | _, _ => false
def chkTgs (C : CC) : Tg → List Expr → Bool
  | .nil, [] => true
  | .cons t ts, e :: es => chkTg C t e && (notStar e && chkTgs C ts es)
  | _, _ => false
end
/-- is a tuple target -/
def isTup : Expr → Bool
  | .Tuple _ _ _ => true
  | _ => false
def ownOf (C : CC) (vs : List Nat) : List (Str × Nat) := vs.map fun v => ((C.N[v]?).getD Str.empty, v)
/-- the names that a target stores -/
def tgIn (vs : List Nat) : Tg → Bool
  | .nm i => vs.contains i
  | .tup t => tgIn vs t
  | .nil => true
  | .cons t ts => tgIn vs t && tgIn vs ts
/-- an expression's check, in each of its places -/
structure Ck where
  e : CC → Expr → Bool
  t : CC → Expr → Bool
  l : CC → List Expr → Bool
  a : CC → List Expr → Bool
  i : CC → Expr → Expr → Bool
  p : CC → Option Expr → Bool
  m : CC → List Expr → Bool
  c : CC → List Expr → Bool
def Ck.none : Ck where
  e := fun _ _ => false
  t := fun _ _ => false
  l := fun _ _ => false
  a := fun _ _ => false
  i := fun _ _ _ => false
  p := fun _ _ => false
  m := fun _ _ => false
  c := fun _ _ => false
def Ck.of (f t : CC → Expr → Bool) : Ck where
  e := f
  t := t
  l := fun _ _ => false
  a := fun _ _ => false
  i := fun C _ ex => notSet ex && f C ex
  p := fun C o => match o with
    | some ex => f C ex
    | Option.none => false
  m := fun C xs => match xs with
    | [x] => notStar x && f C x
    | _ => false
  c := fun C xs => match xs with
    | [x] => t C x
    | _ => false
def Ck.ofE (f : CC → Expr → Bool) : Ck := .of f fun C ex => plainT ex && f C ex
def Ck.ofC (f : CC → Expr → Bool) : Ck := .of f f
def isCd : Da → Bool
  | .none => true
  | .bool _ => true
  | _ => false
section
variable (T : Tab)
def fnB (f : Nat) (x : Str) : Bool := match T.fns[f]? with
  | some g => decide (g.name = x)
  | none => false
/-- [f, g, ..] as written -/
def fnsB (C : CC) : List Nat → List Expr → Bool
  | [], [] => true
  | f :: fs, .Name x _ :: es => gloB C x && (fnB T f x && fnsB C fs es)
  | _, _ => false
def andB (o : BoolOp) (f g : CC → Expr → Bool) (C : CC) (ex : Expr) : Bool := match ex with
  | .BoolOp op (y :: z :: r) p => decide (op = o) && (f C y && (match r with
    | [] => g C z
    | _ :: _ => g C (.BoolOp op (z :: r) p)))
  | _ => false
def blkCC (C : CC) (sc : Scope) : CC := ⟨C.cm, C.N, relS sc C.sc, fun x => sc.names.lookup x == some .cell⟩
def ck : E → Ck
  | .var i => .ofE fun C ex => match ex with
    | .Name x _ => slotB C i x
    | _ => false
  | .bor i => .ofE fun C ex => match ex with
    | .Name x _ => slotB C i x
    | _ => false
  | .mv i => .ofE fun C ex => match ex with
    | .Name x _ => slotB C i x
    | _ => false
  | .io i => { Ck.none with i := fun C _ ex => match ex with
    | .Name x _ => slotB C i x
    | _ => false }
  | .kc d => .ofE fun C ex => match ex with
    | .Constant c _ _ => constB c d
    | _ => false
  | .gl c => .ofE fun C ex => match ex with
    | .Name x _ => gloB C x && (match T.cons[c]? with
      | some (y, _) => decide (y = x)
      | none => false)
    | _ => false
  | .nil => { Ck.none with
    l := fun C xs => xs.isEmpty
    a := fun C xs => xs.isEmpty
    p := fun C o => o.isNone
    m := fun C xs => xs.isEmpty
    c := fun C xs => xs.isEmpty }
  | .cons x r => { Ck.none with
    l := fun C xs => match xs with
      | y :: ys => notStar y && ((ck x).e C y && (ck r).l C ys)
      | [] => false
    a := match x with
      | .io i => fun C xs => match xs with
        | .Name y _ :: ys => slotB C i y && (ck r).a C ys
        | _ => false
      | _ => fun C xs => match xs with
        | y :: ys => notStar y && ((ck x).e C y && (ck r).a C ys)
        | [] => false }
  | .tup es => .ofE fun C ex => match ex with
    | .Tuple xs _ _ => (ck es).l C xs
    | _ => false
  | .lst es => .ofE fun C ex => match ex with
    | .List xs _ => (ck es).l C xs
    | _ => false
  | .call f es => .ofE fun C ex => match ex with
    | .Call (.Name x _) (a :: as) [] _ => C.cm && (gloB C x && (fnB T f x && (notStar a && (as.all notStar && (ck es).a C (a :: as)))))
    | _ => false
  | .call0 f => .ofE fun C ex => match ex with
    | .Call (.Name x _) [] [] _ => C.cm && (gloB C x && fnB T f x)
    | _ => false
  | .callx fs ix es => .ofE fun C ex => match ex with
    | .Call (.Subscript (.List gs _) y _) (a :: as) [] _ => C.cm && (decide (fs.length ≤ 1000) && (fnsB T C fs gs && (notSlice y && ((ck ix).e C y && (notStar a && (as.all notStar && (ck es).a C (a :: as)))))))
    | _ => false
  | .b1 b a => .ofE fun C ex => match ex with
    | .Call (.Name x _) [y] [] _ => C.cm && (gloB C x && (decide (x = b1Name b) && (notStar y && (ck a).e C y)))
    | _ => false
  | .b2 b a c => .ofE fun C ex => match ex with
    | .Call (.Name x _) [y, z] [] _ => C.cm && (gloB C x && (decide (x = b2Name b) && (notStar y && (notStar z && ((ck a).e C y && (ck c).e C z)))))
    | _ => false
  | .m1 m o a => .ofE fun C ex => match ex with
    | .Call (.Attribute y nm ap) [z] [] p => C.cm && (decide (nm = m1Name m) && (ap.endLine == p.line && (notCall0 y && (notStar z && ((ck o).e C y && (ck a).e C z)))))
    | _ => false
  | .mm m i a => .ofE fun C ex => match ex with
    | .Call (.Attribute (.Name x _) nm ap) zs [] p => decide (nm = mmName m) && (ap.endLine == p.line && (slotB C i x && ((decide (m = .pop) == zs.isEmpty) && (ck a).m C zs)))
    | _ => false
  | .bin o a b => .ofE fun C ex => match ex with
    | .BinOp y op z _ => decide (op = opOf o) && ((ck a).e C y && (ck b).e C z)
    | _ => false
  | .neg a => .ofE fun C ex => match ex with
    | .UnaryOp op y _ => decide (op = .USub) && (ck a).e C y
    | _ => false
  | .cmp o a b => .ofC fun C ex => match ex with
    | .Compare y [op] [z] _ => decide (op = cmpOf o) && (!(behindInMarks op z) && ((ck a).e C y && (ck b).e C z))
    | _ => false
  | .chain o o' a b c => .ofC fun C ex => match ex with
    | .Compare y [op, op'] [z, u] _ => decide (op = cmpOf o) && (decide (op' = cmpOf o') && (!(lastMarks [op, op'] [z, u]) && ((ck a).e C y && ((ck b).e C z && (ck c).e C u))))
    | _ => false
  | .isC n a d => .ofC fun C ex => match ex with
    | .Compare y [op] [.Constant c _ _] _ => decide (op = if n then .IsNot else .Is) && (constB c d && (isCd d && (ck a).e C y))
    | _ => false
  | .isi a t => .ofE fun C ex => match ex with
    | .Call (.Name x _) [y, .Name z _] [] _ => gloB C x && (gloB C z && (decide (x = ("isinstance" : Str)) && (decide (z = Str.ofString (tyName t)) && (notStar y && (ck a).e C y))))
    | _ => false
  | .nt a => .of (fun C ex => match ex with
    | .UnaryOp op y _ => decide (op = .Not) && (ck a).e C y
    | _ => false) fun C ex => match ex with
    | .UnaryOp op y _ => decide (op = .Not) && (ck a).t C y
    | _ => false
  | .and a b => .of (andB .And (ck a).e (ck b).e) (andB .And (ck a).t (ck b).t)
  | .or a b => .of (andB .Or (ck a).e (ck b).e) (andB .Or (ck a).t (ck b).t)
  | .ite c a b => .ofE fun C ex => match ex with
    | .IfExp x y z _ => (ck c).t C x && ((ck a).e C y && (ck b).e C z)
    | _ => false
  | .idx a b => .ofE fun C ex => match ex with
    | .Subscript y z _ => notSlice z && ((ck a).e C y && (ck b).e C z)
    | _ => false
  | .sl a lo hi => .ofE fun C ex => match ex with
    | .Subscript y (.Slice l h none _) _ => (ck a).e C y && ((ck lo).p C l && (ck hi).p C h)
    | _ => false
  | .rev a => .ofE fun C ex => match ex with
    | .Subscript y (.Slice none none (some (.UnaryOp .USub (.Constant (.int 1) _ _) _)) _) _ => (ck a).e C y
    | _ => false
  | .rg1 a => { Ck.none with i := fun C _ ex => match ex with
    | .Call (.Name x _) [y] [] _ => gloB C x && (decide (x = ("range" : Str)) && (notStar y && (ck a).e C y))
    | _ => false }
  | .rg2 a b => { Ck.none with i := fun C _ ex => match ex with
    | .Call (.Name x _) [y, z] [] _ => gloB C x && (decide (x = ("range" : Str)) && (notStar y && (notStar z && ((ck a).e C y && (ck b).e C z))))
    | _ => false }
  | .rg3 _ _ _ => .none
  | .enm a => { Ck.none with i := fun C t ex => match ex with
    | .Call (.Name x _) [y] [] _ => isTup t && (gloB C x && (decide (x = ("enumerate" : Str)) && (notStar y && (ck a).e C y)))
    | _ => false }
  | .zip a b => { Ck.none with i := fun C t ex => match ex with
    | .Call (.Name x _) [y, z] [] _ => isTup t && (gloB C x && (decide (x = ("zip" : Str)) && (notStar y && (notStar z && ((ck a).e C y && (ck b).e C z)))))
    | _ => false }
  | .lc vs tg it cond elt => .ofE fun C ex => match ex with
    | .ListComp e [⟨t, i, ifs, 0⟩] sc _ => C.cm && (notSet i && (blkC C.N C.sc sc (ownOf C vs) && ((ck it).i C t i && (chkTg (blkCC C sc) tg t && (tgIn vs tg && ((ck cond).c (blkCC C sc) ifs && (ck elt).e (blkCC C sc) e))))))
    | _ => false
end
end PI
end
section
set_option Elab.async false
set_option linter.all false
set_option maxRecDepth 100000
/-! PIe: the slots' relation to the frame and the abstract heap; readings; what a context must have. -/
namespace PI
open PySem PySem.Spec PyProof.Rows L2

def ObjO (K : PySem.W.Frag) (G H : Hp) (d : Da) (a : Addr) : Prop :=
  match d with
  | .list ds => ∃ xs, H a = some (.lst xs) ∧ RepL K G ds xs
  | _ => False
structure Rel (K : PySem.W.Frag) (env : Env) (σ : L2.St) (H G F : Hp) : Prop where
  gs : Same G H
  fs : Same F H
  fg : ∀ b, F b ≠ none → G b = none
  len : env.length = σ.length
  val : ∀ (i : Nat) d, env[i]? = some (.val d) → ∃ v, σ[i]? = some (some v) ∧ Rep K G d v
  own : ∀ (i : Nat) m d, env[i]? = some (.own m d) → ∃ a, σ[i]? = some (some (.ref a)) ∧ G a = none ∧ F a = none ∧ ObjO K G H d a
  scr : ∀ (i : Nat) ns, env[i]? = some (.scr ns) → ∃ a, σ[i]? = some (some (.ref a)) ∧ SqL K G a (ns.map V.int)
  dj : ∀ (i j : Nat) m n d e a, env[i]? = some (.own m d) → env[j]? = some (.own n e) → σ[i]? = some (some (.ref a)) → σ[j]? = some (some (.ref a)) → i = j
def NotOwn (env : Env) (σ : L2.St) (a : Addr) : Prop := ∀ (i : Nat) m d, env[i]? = some (.own m d) → σ[i]? ≠ some (some (.ref a))
/-- a new result, its list nobody else's -/
def RepX (K : PySem.W.Frag) (G H F : Hp) (env : Env) (σ : L2.St) (d : Da) (v : V) : Prop :=
  match d with
  | .list ds => ∃ a xs, v = .ref a ∧ H a = some (.lst xs) ∧ G a = none ∧ F a = none ∧ NotOwn env σ a ∧ RepL K G ds xs
  | d => Rep K G d v
/-- what an expression yields: a borrowed slot's value; something new; something that never changes -/
def RepE (T : Tab) (K : PySem.W.Frag) (G H F : Hp) (env : Env) (σ : L2.St) (e : E) (d : Da) (v : V) : Prop :=
  match borOf e with
  | some i => σ[i]? = some (some v)
  | none => if fresh T e = true then RepX K G H F env σ d v else Rep K G d v
/-- .. once nobody will change it -/
def RepS (K : PySem.W.Frag) (G : Hp) (σ : L2.St) (e : E) (d : Da) (v : V) : Prop :=
  match borOf e with
  | some i => σ[i]? = some (some v)
  | none => Rep K G d v
section
variable {T : Tab} {K : PySem.W.Frag} {env : Env} {σ : L2.St} {H G F : Hp}
theorem sqL_mono {G' : Hp} (h : Same G G') {a : Addr} {xs : List V} (s : SqL K G a xs) : SqL K G' a xs := by
  rcases s with (s | ⟨o, s⟩) | s
  · exact .inl (.inl (h _ _ s))
  · exact .inl (.inr ⟨o, h _ _ s⟩)
  · exact .inr s
theorem ObjO.mono {G' : Hp} (h : Same G G') {d : Da} {a : Addr} (o : ObjO K G H d a) : ObjO K G' H d a := by
  cases d with
  | list ds =>
    obtain ⟨xs, e, l⟩ := o
    exact ⟨xs, e, l.mono h⟩
  | _ => exact o
/-- the heap grows, nothing of it changes -/
theorem Rel.grow {G' H' : Hp} (r : Rel K env σ H G F) (g1 : Same G G') (g2 : Same G' H') (h : Same H H') (n : ∀ b, H b ≠ none → G b = none → G' b = none) : Rel K env σ H' G' F where
  gs := g2
  fs := fun b o e => h _ _ (r.fs _ _ e)
  fg := fun b hb => n b (by
    cases e : F b with
    | none => exact absurd e hb
    | some o => rw [r.fs _ _ e]; simp) (r.fg b hb)
  len := r.len
  val := fun i d e => let ⟨v, h1, h2⟩ := r.val i d e; ⟨v, h1, h2.mono g1⟩
  own := fun i m d e => by
    obtain ⟨a, h1, h2, h3, h4⟩ := r.own i m d e
    refine ⟨a, h1, ?_, h3, ?_⟩
    · refine n a ?_ h2
      cases d with
      | list ds => obtain ⟨xs, e, _⟩ := h4; rw [e]; simp
      | _ => exact h4.elim
    · cases d with
      | list ds =>
        obtain ⟨xs, e, l⟩ := h4
        exact ⟨xs, h _ _ e, l.mono g1⟩
      | _ => exact h4
  scr := fun i ns e => let ⟨a, h1, h2⟩ := r.scr i ns e; ⟨a, h1, sqL_mono g1 h2⟩
  dj := r.dj
/-- a list that nobody else has is settled: it never changes from here on -/
theorem Rel.settleL (r : Rel K env σ H G F) {a : Addr} {xs : List V} (h : H a = some (.lst xs)) (ga : G a = none) (fa : F a = none) (no : NotOwn env σ a) :
    Same G (upd G a (.lst xs)) ∧ Rel K env σ H (upd G a (.lst xs)) F := by
  have g1 : Same G (upd G a (.lst xs)) := same_upd ga
  refine ⟨g1, ⟨fun b o e => ?_, r.fs, fun b hb => ?_, r.len, fun i d e => let ⟨v, h1, h2⟩ := r.val i d e; ⟨v, h1, h2.mono g1⟩, fun i m d e => ?_, fun i ns e => let ⟨a, h1, h2⟩ := r.scr i ns e; ⟨a, h1, sqL_mono g1 h2⟩, r.dj⟩⟩
  · by_cases hb : b = a
    · subst hb; rw [upd_same] at e; rw [h]; exact e
    · rw [upd_ne hb] at e; exact r.gs _ _ e
  · have hne : b ≠ a := fun z => by rw [z] at hb; exact hb fa
    rw [upd_ne hne]
    exact r.fg b hb
  · obtain ⟨c, h1, h2, h3, h4⟩ := r.own i m d e
    have hne : c ≠ a := fun z => by subst z; exact no i m d e h1
    exact ⟨c, h1, by rw [upd_ne hne]; exact h2, h3, h4.mono g1⟩
theorem Rel.settle (r : Rel K env σ H G F) {e : E} {d : Da} {v : V} (x : RepE T K G H F env σ e d v) : ∃ G', Same G G' ∧ Rel K env σ H G' F ∧ RepS K G' σ e d v := by
  unfold RepE at x
  unfold RepS
  cases hb : borOf e with
  | some i => rw [hb] at x; exact ⟨G, Same.refl _, r, x⟩
  | none =>
    rw [hb] at x
    simp only at x ⊢
    split at x
    · cases d with
      | list ds =>
        obtain ⟨a, xs, rfl, h1, h2, h3, h4, h5⟩ := x
        obtain ⟨g1, r1⟩ := r.settleL h1 h2 h3 h4
        refine ⟨_, g1, r1, ?_⟩
        simp only [Rep]
        exact ⟨a, xs, rfl, upd_same, h5.mono g1⟩
      | _ => exact ⟨G, Same.refl _, r, x⟩
    · exact ⟨G, Same.refl _, r, x⟩
theorem RepS.mono {G' : Hp} (h : Same G G') {e : E} {d : Da} {v : V} (x : RepS K G σ e d v) : RepS K G' σ e d v := by
  unfold RepS at x ⊢
  cases hb : borOf e with
  | some i => rw [hb] at x; exact x
  | none => rw [hb] at x; exact Rep.mono h x
/-- the operand as it is now -/
theorem Rel.operand (r : Rel K env σ H G F) {e : E} {d d' : Da} {v : V} (x : RepS K G σ e d v) (h : rr e env d = some d') : RepO K G H d' v := by
  unfold RepS at x
  cases e with
  | bor i =>
    simp only [borOf] at x
    simp only [rr] at h
    cases he : env[i]? with
    | none => rw [he] at h; simp at h
    | some s =>
      rw [he] at h
      cases s with
      | val z =>
        simp only [Option.some.injEq] at h
        subst h
        obtain ⟨w, h1, h2⟩ := r.val i z he
        rw [x] at h1
        cases h1
        exact RepO.of r.gs h2
      | own m z =>
        simp only [Option.some.injEq] at h
        subst h
        obtain ⟨a, h1, h2, h3, h4⟩ := r.own i m z he
        rw [x] at h1
        cases h1
        cases z with
        | list ds => obtain ⟨xs, e1, e2⟩ := h4; exact ⟨a, xs, rfl, e1, e2⟩
        | _ => exact h4.elim
      | _ => simp at h
  | _ =>
    simp only [rr, Option.some.injEq] at h
    subst h
    simp only [borOf] at x
    exact RepO.of r.gs x
/-- an operation's result, over the slots -/
theorem Rel.res (r : Rel K env σ H G F) {d : Da} {v : V} {H' G' : Hp} (g1 : Same G G') (g2 : Same G' H') (h : Same H H') (n : ∀ b, H b ≠ none → G b = none → G' b = none) (x : RepN K G' H H' d v) :
    Rel K env σ H' G' F ∧ RepX K G' H' F env σ d v := by
  refine ⟨r.grow g1 g2 h n, ?_⟩
  cases d with
  | list ds =>
    obtain ⟨p, xs, rfl, h1, h2, h3, h4⟩ := x
    refine ⟨p, xs, rfl, h1, h3, ?_, fun i m d e z => ?_, h4⟩
    · exact same_none r.fs h2
    · obtain ⟨a, e1, _, _, e4⟩ := r.own i m d e
      rw [z] at e1
      cases e1
      cases d with
      | list ds => obtain ⟨xs, q, _⟩ := e4; rw [h2] at q; cases q
      | _ => exact e4
  | _ => exact x
end

/-! ### what is raised -/
/-- a wish of what is raised, at the slots -/
def ExRep (T : Tab) (K : PySem.W.Frag) (G H : Hp) (x : Ex) (cls : Value) (dx : Option Addr) : Prop :=
  match T.cls[x.cls]? with
  | some (n, none) => cls = .ref (He.ga K n) ∧ dx = none ∧ x.fld = none
  | some (n, some f) => cls = .ref (He.ga K n) ∧ ∃ d a v, x.fld = some d ∧ dx = some a ∧ H a = some (.xd [(f, v)]) ∧ Rep K G d v
  | none => False
/-- what a raise must meet -/
def ExcTo (T : Tab) (K : PySem.W.Frag) (W : WX) (G F : Hp) (σ : L2.St) (x : Ex) (env : Env) : Prop :=
  ∀ cls dx H' G', Same G G' → Rel K env σ H' G' F → ExRep T K G' H' x cls dx → W cls dx σ H'

/-- what must be shown of an answer -/
def Pst (T : Tab) (K : PySem.W.Frag) (W : WX) {α : Type} (G F : Hp) (σ : L2.St) (r : R Env (α × Env)) (P : α → Env → Prop) : Prop := match r with
  | .ok (a, e) => P a e
  | .exc x e => ExcTo T K W G F σ x e
  | .bad => False
/-! ### readings -/
section
variable (T : Tab) (call : Calls) (K : PySem.W.Frag) (W : WX)
def tE (e : E) : TE := fun σ H Q => ∃ env G F, Rel K env σ H G F ∧ Pst T K W G F σ ((ev T call e).e env) fun d env' => ∀ v H' G', Same G G' → Rel K env' σ H' G' F → RepE T K G' H' F env' σ e d v → Q v H'
def tT (f : Env → R Env (Bool × Env)) : TT := fun σ H Q => ∃ env G F, Rel K env σ H G F ∧ Pst T K W G F σ (f env) fun b env' => ∀ H' G', Same G G' → Rel K env' σ H' G' F → Q b H'
def tL (f : Env → R Env (List Da × Env)) : TA := fun σ H Q => ∃ env G F, Rel K env σ H G F ∧ Pst T K W G F σ (f env) fun ds env' => ∀ vs H' G', Same G G' → Rel K env' σ H' G' F → RepL K G' ds vs → Q vs H'
/-- an argument: a value, the value of a slot -/
def ArgsR (G : Hp) (σ : L2.St) : List Av → List V → Prop
  | [], vs => vs = []
  | .v d :: r, vs => ∃ x t, vs = x :: t ∧ Rep K G d x ∧ ArgsR G σ r t
  | .s i :: r, vs => ∃ x t, vs = x :: t ∧ σ[i]? = some (some x) ∧ ArgsR G σ r t
def tAr (f : Env → R Env (List Av × Env)) : TA := fun σ H Q => ∃ env G F, Rel K env σ H G F ∧ Pst T K W G F σ (f env) fun as env' => ∀ vs H' G', Same G G' → Rel K env' σ H' G' F → ArgsR K G' σ as vs → Q vs H'
def tP (f : Env → R Env (Option Int × Env)) : TO := fun σ H Q => ∃ env G F, Rel K env σ H G F ∧ Pst T K W G F σ (f env) fun o env' => ∀ H' G', Same G G' → Rel K env' σ H' G' F → Q o H'
/-- a walk of these items, as long as what it stands on stands -/
def Walks (J : It) (xs : List Da) (G0 : Hp) (lk : Option (Addr × List Da)) : Prop :=
  ∀ (i : Nat) (H G : Hp), Same G0 G → Same G H → (∀ a ds, lk = some (a, ds) → ObjO K G H (.list ds) a) →
    (i < xs.length → J.go i H ∧ ∀ x H', J.yld i H x H' → ∃ d G', xs[i]? = some d ∧ Rep K G' d x ∧ Same G G' ∧ Same G' H' ∧ Same H H' ∧ (∀ b, H b ≠ none → G b = none → G' b = none)) ∧ (xs.length ≤ i → J.stop i H)
/-- the lock that a walk asks for -/
def LockIs (e : E) (env : Env) (σ : L2.St) (lk : Option (Addr × List Da)) : Prop :=
  ∀ a ds, lk = some (a, ds) → ∃ i m, lockOf e = some i ∧ env[i]? = some (.own m (.list ds)) ∧ σ[i]? = some (some (.ref a))
def tI (e : E) : TI := fun σ H R' => ∃ env G F, Rel K env σ H G F ∧ Pst T K W G F σ ((ev T call e).i env) fun xs env' => ∀ J H' G' lk, Same G G' → Rel K env' σ H' G' F → Walks K J xs G' lk → LockIs e env' σ lk → R' J H'
end

/-! ### a def's promise -/
def allOwn1 (sls : List Sl) : Prop := ∀ s ∈ sls, ∀ m d, s = .own m d → m = 1
def spF (T : Tab) (k f : Nat) (g : Fn) (K : PySem.W.Frag) : Sp := fun vs H Q E => ∃ sls G F, vs.length = g.ps.length ∧ Rel K sls (vs.map some) H G F ∧ allOwn1 sls ∧
  match callF T k f sls with
  | .ok (d, outs) => ∀ v H' G', Same G G' → Rel K outs (vs.map some) H' G' F → (if g.fresh = true then RepX K G' H' F outs (vs.map some) d v else Rep K G' d v) → Q v H'
  | .exc x outs => ∀ cls dx H' G', Same G G' → Rel K outs (vs.map some) H' G' F → ExRep T K G' H' x cls dx → E cls dx H'
  | .bad => False

/-! ### contexts -/
def bltNames : List (Str × Value) := [("len", .builtin "len"), ("abs", .builtin "abs"), ("int", .type "int"), ("str", .type "str"), ("list", .type "list"), ("tuple", .type "tuple"), ("sum", .builtin "sum"), ("max", .builtin "max"),
  ("min", .builtin "min"), ("any", .builtin "any"), ("all", .builtin "all"), ("sorted", .builtin "sorted"), ("repr", .builtin "repr"), ("isinstance", .builtin "isinstance"), ("range", .type "range"), ("enumerate", .type "enumerate"), ("zip", .type "zip"), ("bool", .type "bool")]
/-- what the module must hold: constants, built-in names not hidden, exception classes -/
structure TabOk (T : Tab) (K : PySem.W.Frag) (mg : Str → Option Value) : Prop where
  cons : ∀ (c : Nat) n d, T.cons[c]? = some (n, d) → ∃ u v, mg n = some u ∧ RelV v u ∧ ∀ G, Rep K G d v
  blt : ∀ p ∈ bltNames, mg p.1 = none
  cls : ∀ (c : Nat) n o, T.cls[c]? = some (n, o) → mg n = some (.ref (He.ga K n)) ∧ PySem.W.keepIn K (.ref (He.ga K n)) = true ∧ PySem.W.subIn K (.ref (He.ga K n)) (.type "BaseException") = some true ∧
    PySem.W.typeIn K (.ref (He.ga K n)) = some (.type "type") ∧ (o = none → PySem.W.excIn K (He.ga K n) [.type "ValueError", .type "Exception", .type "BaseException", .type "object"] "ValueError.__new__" = true)
  sub : ∀ (c j : Nat) n m o p, T.cls[c]? = some (n, o) → T.cls[j]? = some (m, p) → PySem.W.exmOne K (.ref (He.ga K n)) (.ref (He.ga K m)) = some (matches_ T c j)
  xf : ∀ (c : Nat) n f, T.cls[c]? = some (n, some f) → XfC K (He.ga K n) ∧ PySem.W.findIn K (.ref (He.ga K n)) f = some none
  isE : ∀ (c : Nat) n o, T.cls[c]? = some (n, o) → ExcC K (He.ga K n)
  kit : ∀ (c j : Nat) n m o p, T.cls[c]? = some (n, o) → T.cls[j]? = some (m, p) → PySem.W.kitOne K (.ref (He.ga K n)) (.ref (He.ga K m)) = some (matches_ T c j)
/-- what an own __init__ must be able to keep -/
def iniB (f : Str) : V → Prop := fun v => f = ("at" : Str) → ∃ i, v = .int i ∧ i.natAbs.log2 < 1920 ∧ (Str.ofString (toString i)).length ≤ 1000
structure IniX (X : Cx) (n f : Str) : Prop where
  ex : ∃ fI fd, OexC X.K (He.ga X.K n) ∧ PySem.W.findIn X.K (.ref (He.ga X.K n)) "__init__" = some (some (.ref fI)) ∧ PySem.W.typeIn X.K (.ref fI) = some (.type "function") ∧
    FnOk X.prog X.w X.K X.mg X.base (L2.CX X.prog X.w) 2 fI fd ["self", f] (spIni (He.ga X.K n) f (iniB f)) ∧ Binds X.K fd ["self", f] []
structure GX (T : Tab) (k : Nat) (C : CC) (W : WX) (X : Cx) : Prop where
  calm : C.cm = true → X.calm = true
  room : C.cm = true → Room (k + 3) X.A
  un : X.A.units + 65 < cLine
  takes : Takes X W
  N : X.N = C.N
  nd : C.N.Nodup
  sc : X.env.scope = C.sc
  fn : ∀ x, C.fn x = true → X.fn x = true
  fns : ∀ (f : Nat) g, T.fns[f]? = some g → ∃ fa fd, FnOk X.prog X.w X.K X.mg X.base (L2.CX X.prog X.w) (k + 3) fa fd g.ps (spF T k f g X.K) ∧ X.mg g.name = some (.ref fa) ∧ PySem.W.keepIn X.K (.ref fa) = true ∧ Binds X.K fd g.ps []
  tab : TabOk T X.K X.mg
  ini : ∀ (c : Nat) n f, T.cls[c]? = some (n, some f) → IniX X n f
end PI
end
section
set_option Elab.async false
set_option linter.all false
set_option maxRecDepth 100000
/-! PIf: an expression's reading by the interpreter's answer: values, tests, lists. -/
namespace PI
open PySem PySem.Spec PyProof.Rows L2

theorem _root_.L2.PE.imp {X : Cx} {e : Expr} {t t' : TE} (h : PE X e t) (w : ∀ σ H Q, t' σ H Q → t σ H Q) : PE X e t' := ⟨fun pins s σ H Q I x => h.run pins s σ H Q I (w σ H Q x)⟩
theorem _root_.L2.PT.imp {X : Cx} {e : Expr} {t t' : TT} (h : PT X e t) (w : ∀ σ H Q, t' σ H Q → t σ H Q) : PT X e t' := ⟨fun pins s σ H Q I x => h.run pins s σ H Q I (w σ H Q x)⟩
theorem _root_.L2.PA.imp {X : Cx} {e : List Expr} {t t' : TA} (h : PA X e t) (w : ∀ σ H Q, t' σ H Q → t σ H Q) : PA X e t' := ⟨fun pos pins s σ H Q I x => h.run pos pins s σ H Q I (w σ H Q x)⟩
theorem _root_.L2.PO.imp {X : Cx} {e : Option Expr} {t t' : TO} (h : PO X e t) (w : ∀ σ H Q, t' σ H Q → t σ H Q) : PO X e t' := ⟨fun pins s σ H Q I x => h.run pins s σ H Q I (w σ H Q x)⟩
theorem _root_.L2.PI.imp {X : Cx} {tg e : Expr} {t t' : TI} (h : L2.PI X tg e t) (w : ∀ σ H Q, t' σ H Q → t σ H Q) : L2.PI X tg e t' := ⟨fun pins s σ H Q I x => h.run pins s σ H Q I (w σ H Q x)⟩

section
variable {T : Tab} {call : Calls} {K : PySem.W.Frag} {W : WX} {α β : Type} {G G1 F H : Hp} {σ : L2.St} {env : Env}
theorem ExcTo.mono {x : Ex} {e : Env} (h : ExcTo T K W G F σ x e) (g : Same G G1) : ExcTo T K W G1 F σ x e := fun cls dx H' G' g1 r x => h cls dx H' G' (g.trans g1) r x
theorem Pst.bnd {r : R Env (α × Env)} {f : α → Env → R Env (β × Env)} {P : β → Env → Prop} (h : Pst T K W G F σ (r.bnd f) P) : Pst T K W G F σ r fun a e => Pst T K W G F σ (f a e) P := by
  cases r with
  | ok p => exact h
  | exc x e => exact h
  | bad => exact h
theorem Pst.imp {r : R Env (α × Env)} {P P' : α → Env → Prop} (h : Pst T K W G F σ r P) (g : Same G G1) (w : ∀ a e, r = .ok (a, e) → P a e → P' a e) : Pst T K W G1 F σ r P' := by
  cases r with
  | ok p => exact w p.1 p.2 rfl h
  | exc x e => exact ExcTo.mono h g
  | bad => exact h
theorem Pst.mono {r : R Env (α × Env)} {P : α → Env → Prop} (h : Pst T K W G F σ r P) (g : Same G G1) : Pst T K W G1 F σ r P := h.imp g fun _ _ _ x => x
theorem Pst.opt {γ : Type} {o : Option γ} {f : γ → R Env (α × Env)} {P : α → Env → Prop} (h : Pst T K W G F σ (optB o f) P) : ∃ a, o = some a ∧ Pst T K W G F σ (f a) P := by
  cases o with
  | none => exact h.elim
  | some a => exact ⟨a, rfl, h⟩
theorem Pst.int {d : Da} {f : Int → R Env (α × Env)} {P : α → Env → Prop} (h : Pst T K W G F σ (intB d f) P) : ∃ a, d = .int a ∧ Pst T K W G F σ (f a) P := by
  cases d with
  | int i => exact ⟨i, rfl, h⟩
  | _ => exact h.elim
theorem Pst.lst {d : Da} {f : List Da → R Env (α × Env)} {P : α → Env → Prop} (h : Pst T K W G F σ (lstB d f) P) : ∃ a, d = .list a ∧ Pst T K W G F σ (f a) P := by
  cases d with
  | list i => exact ⟨i, rfl, h⟩
  | _ => exact h.elim
theorem Pst.ite {c : Bool} {r : R Env (α × Env)} {P : α → Env → Prop} (h : Pst T K W G F σ (iteB c r) P) : c = true ∧ Pst T K W G F σ r P := by
  cases c with
  | true => exact ⟨rfl, h⟩
  | false => exact h.elim
theorem Pst.ok {a : α} {e : Env} {P : α → Env → Prop} (h : Pst T K W G F σ (.ok (a, e)) P) : P a e := h

/-- new if it may be, else settled -/
def RepV (T : Tab) (K : PySem.W.Frag) (G H F : Hp) (env : Env) (σ : L2.St) (e : E) (d : Da) (v : V) : Prop := if fresh T e = true then RepX K G H F env σ d v else Rep K G d v
/-- the reading in a place that keeps the value -/
def tV (T : Tab) (call : Calls) (K : PySem.W.Frag) (W : WX) (e : E) : TE := fun σ H Q => ∃ env G F, Rel K env σ H G F ∧ Pst T K W G F σ ((ev T call e).v env) fun d env' => ∀ v H' G', Same G G' → Rel K env' σ H' G' F → RepV T K G' H' F env' σ e d v → Q v H'
theorem Rel.settleV (r : Rel K env σ H G F) {e : E} {d : Da} {v : V} (x : RepV T K G H F env σ e d v) : ∃ G', Same G G' ∧ Rel K env σ H G' F ∧ Rep K G' d v := by
  unfold RepV at x
  split at x
  · cases d with
    | list ds =>
      obtain ⟨a, xs, rfl, h1, h2, h3, h4, h5⟩ := x
      obtain ⟨g1, r1⟩ := r.settleL h1 h2 h3 h4
      refine ⟨_, g1, r1, ?_⟩
      simp only [Rep]
      exact ⟨a, xs, rfl, upd_same, h5.mono g1⟩
    | _ => exact ⟨G, Same.refl _, r, x⟩
  · exact ⟨G, Same.refl _, r, x⟩
/-- the value is read, then settled -/
theorem tE_of (r : Rel K env σ H G F) {a : E} {Q : VK}
    (p : Pst T K W G F σ ((ev T call a).e env) fun x env1 => ∀ v H1 G1, Same G G1 → Rel K env1 σ H1 G1 F → RepS K G1 σ a x v → Q v H1) : tE T call K W a σ H Q := by
  refine ⟨env, G, F, r, Pst.imp p (Same.refl _) fun x env1 _ h => ?_⟩
  intro v H1 G1 g1 r1 s1
  obtain ⟨G2, g2, r2, s2⟩ := r1.settle s1
  exact h v H1 G2 (g1.trans g2) r2 s2
theorem tV_of (r : Rel K env σ H G F) {a : E} {Q : VK}
    (p : Pst T K W G F σ ((ev T call a).v env) fun x env1 => ∀ v H1 G1, Same G G1 → Rel K env1 σ H1 G1 F → Rep K G1 x v → Q v H1) : tV T call K W a σ H Q := by
  refine ⟨env, G, F, r, Pst.imp p (Same.refl _) fun x env1 _ h => ?_⟩
  intro v H1 G1 g1 r1 s1
  obtain ⟨G2, g2, r2, s2⟩ := r1.settleV s1
  exact h v H1 G2 (g1.trans g2) r2 s2
theorem ev_v {e : E} (h : borOf e = none) : (ev T call e).v = (ev T call e).e := by
  cases e <;> first | rfl | simp [borOf] at h
theorem bor_v {e : E} {i : Nat} (h : borOf e = some i) (env : Env) : (ev T call e).v env = .bad := by
  cases e with
  | bor j => rfl
  | _ => simp [borOf] at h
/-- keeping a value is reading it -/
theorem tV_to {e : E} {H : Hp} {Q : VK} (h : tV T call K W e σ H Q) : tE T call K W e σ H Q := by
  obtain ⟨env, G, F, r, p⟩ := h
  cases hb : borOf e with
  | some i =>
    rw [bor_v hb] at p
    exact p.elim
  | none =>
    rw [ev_v hb] at p
    refine ⟨env, G, F, r, Pst.imp p (Same.refl _) fun x env1 _ h => ?_⟩
    intro v H1 G1 g1 r1 s1
    refine h v H1 G1 g1 r1 ?_
    unfold RepE at s1
    rw [hb] at s1
    exact s1
theorem _root_.L2.PE.v {X : Cx} {ex : Expr} {e : E} (h : PE X ex (tE T call K W e)) : PE X ex (tV T call K W e) := h.imp fun _ _ _ => tV_to
/-- the value of an operand that was just read -/
theorem rr_self {e : E} {env env1 : Env} {d : Da} (h : (ev T call e).e env = .ok (d, env1)) : rr e env1 d = some d := by
  cases e with
  | bor i =>
    have h' : evBor i env = .ok (d, env1) := h
    unfold evBor at h'
    cases he : env[i]? with
    | none => rw [he] at h'; cases h'
    | some s =>
      rw [he] at h'
      cases s with
      | val z => cases h'; simp only [rr, he]
      | own m z => cases h'; simp only [rr, he]
      | _ => cases h'
  | _ => rfl
/-- an operation's result meets what is wanted -/
theorem fin_res {e : E} {d : Da} {Q : VK} (r : Rel K env σ H G F) (hP : ∀ v H' G', Same G G' → Rel K env σ H' G' F → RepE T K G' H' F env σ e d v → Q v H') (hb : borOf e = none := by rfl) (hf : fresh T e = true := by rfl) : Res K G H d Q := by
  intro v H' G' g1 g2 h n x
  obtain ⟨r', x'⟩ := r.res g1 g2 h n x
  refine hP v H' G' g1 r' ?_
  unfold RepE
  rw [hb]
  simp only [hf, if_true]
  exact x'
/-- a scalar -/
theorem fin_sc {e : E} {d : Da} {v : V} {Q : VK} (r : Rel K env σ H G F) (hP : ∀ v H' G', Same G G' → Rel K env σ H' G' F → RepE T K G' H' F env σ e d v → Q v H') (x : Rep K G d v) (hd : ∀ ds, d ≠ .list ds := by intro _ z; cases z)
    (hb : borOf e = none := by rfl) : Q v H := by
  refine hP v H G (Same.refl _) r ?_
  unfold RepE
  rw [hb]
  simp only
  split
  · cases d with
    | list ds => exact absurd rfl (hd ds)
    | _ => exact x
  · exact x
/-- what never changes -/
theorem fin_rep {e : E} {d : Da} {v : V} {Q : VK} (r : Rel K env σ H G F) (hP : ∀ v H' G', Same G G' → Rel K env σ H' G' F → RepE T K G' H' F env σ e d v → Q v H') (x : Rep K G d v)
    (hb : borOf e = none := by rfl) (hf : fresh T e = false := by rfl) : Q v H := by
  refine hP v H G (Same.refl _) r ?_
  unfold RepE
  rw [hb]
  simp only [hf]
  exact x
/-- two operands read, one after the other -/
theorem two_of {γ : Type} (r : Rel K env σ H G F) {a b : E} {f : Da → Da → Env → R Env (γ × Env)} {P : γ → Env → Prop} {R' : V → V → Hp → Prop}
    (p : Pst T K W G F σ (two a (ev T call a).e (ev T call b).e env f) P)
    (h : ∀ x y env2 v u H2 G2, Same G G2 → Rel K env2 σ H2 G2 F → RepO K G2 H2 x v → RepO K G2 H2 y u → Pst T K W G2 F σ (f x y env2) P → R' v u H2) :
    tE T call K W a σ H fun v H1 => tE T call K W b σ H1 fun u H2 => R' v u H2 := by
  unfold two at p
  refine tE_of r (p.bnd.imp (Same.refl _) fun x env1 _ p1 v H1 G1 g1 r1 s1 => ?_)
  refine tE_of r1 ((p1.mono g1).bnd.imp (Same.refl _) fun y env2 hy p2 u H2 G2 g2 r2 s2 => ?_)
  obtain ⟨x', hx, p3⟩ := p2.opt
  exact h x' y env2 v u H2 G2 (g1.trans g2) r2 (r2.operand (s1.mono g2) hx) (r2.operand s2 (rr_self hy)) (p3.mono g2)
end

section
variable {T : Tab} {k : Nat} {C : CC} {W : WX} {X : Cx}
theorem and2 {a b : Bool} (h : (a && b) = true) : a = true ∧ b = true := Bool.and_eq_true_iff.mp h
/-! ### names -/
theorem slot_ok (G : GX T k C W X) {i : Nat} {x : Str} (h : slotB C i x = true) : X.N[i]? = some x ∧ Vis X.env.scope x ∧ (x == ("__debug__" : Str)) = false ∧ (x == ("__classdict__" : Str)) = false := by
  obtain ⟨h1, h⟩ := and2 h
  obtain ⟨h2, h3⟩ := and2 h
  obtain ⟨h3, _⟩ := and2 h3
  obtain ⟨h3, h4⟩ := and2 h3
  refine ⟨by rw [G.N]; exact of_decide_eq_true h1, ?_, by simpa using h3, by simpa using h4⟩
  unfold visB at h2
  unfold Vis
  rw [G.sc]
  split at h2 <;> first | (rename_i e; rw [e]; simp) | simp at h2
theorem glo_ok (G : GX T k C W X) {x : Str} (h : gloB C x = true) : Gl X x ∧ (x == ("__debug__" : Str)) = false ∧ x ≠ ("__name__" : Str) := by
  obtain ⟨h1, h2⟩ := and2 h
  obtain ⟨h3, h4⟩ := and2 h1
  obtain ⟨h3, _⟩ := and2 h3
  refine ⟨?_, by simpa using h3, of_decide_eq_true h4⟩
  unfold Gl Env.kindOf
  rw [G.sc]
  split at h2
  · rename_i e; exact e
  · cases h2
theorem pe_slot (G : GX T k C W X) {i : Nat} {x : Str} {p : Pos} (h : slotB C i x = true) : PE X (.Name x p) (tVar i) := by
  obtain ⟨h1, h2, h3, h4⟩ := slot_ok G h
  exact pe_var h1 h2 h3 h4
variable {call : Calls}
theorem snd_var (G : GX T k C W X) {i : Nat} {ex : Expr} (h : (ck T (.var i)).e C ex = true) : PE X ex (tE T call X.K W (.var i)) := by
  cases ex with
  | Name x p =>
    refine (pe_slot G h).imp fun σ H Q hq => ?_
    obtain ⟨env, G, F, r, p⟩ := hq
    have p' : Pst T X.K W G F σ (evVar i env) _ := p
    unfold evVar at p'
    cases he : env[i]? with
    | none => rw [he] at p'; exact p'.elim
    | some s =>
      rw [he] at p'
      cases s with
      | val d =>
        obtain ⟨v, h1, h2⟩ := r.val i d he
        exact ⟨v, h1, fin_rep r p' h2⟩
      | own m d =>
        cases m with
        | zero =>
          -- the own list is settled: the slot holds a plain value from here on
          obtain ⟨a, h1, h2, h3, h4⟩ := r.own i 0 d he
          cases d with
          | list ds =>
            obtain ⟨xs, e1, e2⟩ := h4
            have hi : i < env.length := (List.getElem?_eq_some_iff.mp he).1
            have r1 : Rel X.K (env.set i .un) σ H G F := by
              have key : ∀ (j : Nat) s, (env.set i .un)[j]? = some s → (j = i ∧ s = .un) ∨ env[j]? = some s := fun j s e => by
                by_cases hj : j = i
                · subst hj; rw [List.getElem?_set_self hi] at e; cases e; exact .inl ⟨rfl, rfl⟩
                · rw [List.getElem?_set_ne (Ne.symm hj)] at e; exact .inr e
              refine ⟨r.gs, r.fs, r.fg, by rw [List.length_set]; exact r.len, fun j d e => ?_, fun j m d e => ?_, fun j ns e => ?_, fun j j' m n d e a q1 q2 => ?_⟩
              · rcases key j _ e with ⟨_, z⟩ | e
                · cases z
                · exact r.val j d e
              · rcases key j _ e with ⟨_, z⟩ | e
                · cases z
                · exact r.own j m d e
              · rcases key j _ e with ⟨_, z⟩ | e
                · cases z
                · exact r.scr j ns e
              · rcases key j _ q1 with ⟨_, z⟩ | q1
                · cases z
                · rcases key j' _ q2 with ⟨_, z⟩ | q2
                  · cases z
                  · exact r.dj j j' m n d e a q1 q2
            have no : NotOwn (env.set i .un) σ a := fun j m d e z => by
              by_cases hj : j = i
              · subst hj; rw [List.getElem?_set_self hi] at e; cases e
              · rw [List.getElem?_set_ne (Ne.symm hj)] at e
                exact hj (r.dj j i m 0 d _ a e he z h1)
            obtain ⟨g1, r2⟩ := r1.settleL e1 h2 h3 no
            have rp : Rep X.K (upd G a (.lst xs)) (.list ds) (.ref a) := by
              simp only [Rep]; exact ⟨a, xs, rfl, upd_same, e2.mono g1⟩
            refine ⟨.ref a, h1, p' (.ref a) H _ g1 ?_ ?_⟩
            · refine ⟨r2.gs, r2.fs, r2.fg, by rw [List.length_set, r.len], fun j d e => ?_, fun j m d e => ?_, fun j ns e => ?_, fun j j' m n d e a q1 q2 => ?_⟩
              · by_cases hj : j = i
                · subst hj; rw [List.getElem?_set_self hi] at e; cases e; exact ⟨_, h1, rp⟩
                · refine r2.val j d ?_
                  rw [List.getElem?_set_ne (Ne.symm hj)] at e ⊢; exact e
              · by_cases hj : j = i
                · subst hj; rw [List.getElem?_set_self hi] at e; cases e
                · refine r2.own j m d ?_
                  rw [List.getElem?_set_ne (Ne.symm hj)] at e ⊢; exact e
              · by_cases hj : j = i
                · subst hj; rw [List.getElem?_set_self hi] at e; cases e
                · refine r2.scr j ns ?_
                  rw [List.getElem?_set_ne (Ne.symm hj)] at e ⊢; exact e
              · by_cases hj : j = i
                · subst hj; rw [List.getElem?_set_self hi] at q1; cases q1
                · by_cases hj' : j' = i
                  · subst hj'; rw [List.getElem?_set_self hi] at q2; cases q2
                  · rw [List.getElem?_set_ne (Ne.symm hj)] at q1
                    rw [List.getElem?_set_ne (Ne.symm hj')] at q2
                    exact r.dj j j' m n d e a q1 q2
            · exact rp
          | _ => exact h4.elim
        | succ m => exact p'.elim
      | _ => exact p'.elim
  | _ => simp [ck, Ck.ofE, Ck.of] at h
end
end PI
end
section
set_option Elab.async false
set_option linter.all false
set_option maxRecDepth 100000
/-! PIm: rules of the machine that the layer lacks: x[::-1] of a list or a tuple; [f, g, ..][i](..). -/
namespace PI
open PySem PySem.Spec PyProof.Rows L2 HT
section
variable {prog : Program} {w : World} {A : Around} {E : Value → Shared → Prop} {s : Shared}
theorem adjust_rev (n : Nat) : Builtin.Slice.sliceAdjust none none (-1) (n : Int) = ((n : Int) - 1, -1) := by
  unfold Builtin.Slice.sliceAdjust
  simp
theorem places_rev (n : Nat) : Builtin.Slice.slicePlaces ((n : Int) - 1) (-1) (-1) = n := by
  unfold Builtin.Slice.slicePlaces
  rw [if_neg (by decide)]
  split
  · have : ((n : Int) - 1 - -1 - 1) / (- -1) = (n : Int) - 1 := by simp
    rw [this]; omega
  · omega
theorem sliceApplied_rev {sl : Addr} {vs : Value} {n : Nat} {Q : Int × Int × Nat → Shared → Prop} (hs : s.heap.IsSliceOf sl .none .none vs) (ps : IsPart vs (some (-1)))
    (h : Q ((n : Int) - 1, -1, n) s) : wpAny (model prog w) A (Builtin.Slice.sliceApplied (.ref sl) (pure (n : Int))) Q E s := by
  obtain ⟨os, hos, hcs, hds⟩ := id hs
  unfold Builtin.Slice.sliceApplied Builtin.Slice.sliceFields
  refine wpAny_bind (wpAny_bind (wpAny_field hos hds (x := .none) rfl (wpAny_bind (wpAny_field hos hds (x := .none) rfl (wpAny_bind (wpAny_field hos hds (x := vs) rfl (wpAny_pure ?_)))))))
  refine wpAny_bind (slicePart_ ps ?_)
  show wpAny _ _ (if ((-1 : Int) == 0) = true then _ else _) _ _ s
  rw [if_neg (by decide)]
  refine wpAny_bind (slicePart_none (wpAny_bind (slicePart_none (wpAny_bind (wpAny_pure ?_)))))
  show wpAny _ _ (match Builtin.Slice.sliceAdjust none none (-1) (n : Int) with | (lo, hi) => pure (lo, (-1 : Int), Builtin.Slice.slicePlaces lo hi (-1))) _ _ s
  rw [adjust_rev n]
  show wpAny _ _ (pure ((n : Int) - 1, (-1 : Int), Builtin.Slice.slicePlaces ((n : Int) - 1) (-1) (-1))) _ _ s
  rw [places_rev]
  exact wpAny_pure h
theorem filterMap_someM {α β : Type} {f : α → Option β} {g : α → β} : ∀ {l : List α}, (∀ m ∈ l, f m = some (g m)) → l.filterMap f = l.map g
  | [], _ => rfl
  | a :: r, h => by
    rw [List.filterMap_cons, h a (List.mem_cons_self ..)]
    show g a :: List.filterMap f r = _
    rw [filterMap_someM (l := r) fun m hm => h m (List.mem_cons_of_mem _ hm), List.map_cons]
theorem pick_rev (xs : Array Value) : ((List.range xs.size).filterMap fun (m : Nat) => xs[(((xs.size : Nat) : Int) - 1 + (m : Int) * (-1)).toNat]?).toArray = xs.toList.reverse.toArray := by
  congr 1
  apply List.ext_getElem?
  intro i
  have e : (List.range xs.size).filterMap (fun (m : Nat) => xs[(((xs.size : Nat) : Int) - 1 + (m : Int) * (-1)).toNat]?) = (List.range xs.size).map (fun m => (xs[xs.size - 1 - m]?).getD .none) := by
    refine filterMap_someM fun m hm => ?_
    have hm' : m < xs.size := List.mem_range.mp hm
    have e1 : (((xs.size : Nat) : Int) - 1 + (m : Int) * (-1)).toNat = xs.size - 1 - m := by omega
    rw [e1]
    have h2 : xs.size - 1 - m < xs.size := by omega
    simp [h2]
  rw [e]
  by_cases hi : i < xs.size
  · have h2 : xs.size - 1 - i < xs.size := by omega
    rw [List.getElem?_map, List.getElem?_range hi, Option.map_some, List.getElem?_reverse (by simpa using hi)]
    simp [h2]
  · rw [List.getElem?_eq_none (by simp; omega), List.getElem?_eq_none (by simp; omega)]
theorem getItem_tuple_rev {t sl : Addr} {items : Array Value} {vs : Value} {Q : Value → Shared → Prop} (ht : IsTup s.heap t items) (hs : s.heap.IsSliceOf sl .none .none vs) (ps : IsPart vs (some (-1)))
    (h : Q (.ref s.heap.objs.size) { s with heap := s.heap.push { cls := .type "tuple", data := .seq items.toList.reverse.toArray } })
    (hsz : items.size ≤ sizeLine) : wpAny (model prog w) A (getItem (.ref t) (.ref sl)) Q E s := by
  have htake : sizeOk (.seq items.toList.reverse.toArray) := by
    show items.toList.reverse.toArray.size ≤ sizeLine
    rw [List.size_toArray, List.length_reverse, Array.length_toList]
    exact hsz
  obtain ⟨os, hos, hcs, hds⟩ := id hs
  have hTs : s.TypeIs (.ref sl) "slice" := ⟨os, hos, hcs⟩
  unfold getItem
  try with_reducible refine wpAny_holding ?_
  first | refine wpAny_bind (wpAny_pure ?_) | skip
  refine wpAny_bind (wpAny_sequenceKey ht.typeIs (by decide) ?_)
  refine wpAny_bind (wpAny_callSpecial?_slot (name := Str.ofString "__getitem__") ht.typeIs PyProof.Rows.slot_tuple_getitem
    (wpAny_call_entry PyProof.Rows.slot_tuple_getitem ht.typeIs entry_tuple_getitem ?_ (args_tuple_getitem _ _)))
  show wpAny _ _ (Builtin.Tuple.tupleItemsOf (.ref t) >>= _) _ _ s
  refine wpAny_bind (tupleItemsOf_ ht ?_)
  refine wpAny_bind (wpAny_typeOf hTs ?_)
  rw [if_pos (by decide)]
  refine wpAny_bind (sliceApplied_rev hs ps ?_)
  have hno : ¬ ((((items.size : Nat) : Int) - 1 == 0 && (-1 : Int) == 1 && items.size == items.size) = true) := by
    intro q
    rw [Bool.and_eq_true, Bool.and_eq_true] at q
    exact absurd q.1.2 (by decide)
  show wpAny _ _ (if ((((items.size : Nat) : Int) - 1) == 0 && (-1 : Int) == 1 && items.size == items.size) = true then _ else _) _ _ s
  rw [if_neg hno, pick_rev]
  first
    | exact wpAny_bind (m := Builtin.Tuple.tupleExact _) (wpAny_newObj_type (wpAny_pure ⟨_, rfl, wpAny_pure h⟩) htake)
    | exact wpAny_bind (m := Builtin.Tuple.tupleExact _) (wpAny_newObj_type (wpAny_bind (wpAny_pure (wpAny_pure ⟨_, rfl, wpAny_pure h⟩))) htake)
    | exact wpAny_bind (wpAny_bind (m := Builtin.Tuple.tupleExact _) (wpAny_newObj_type (wpAny_pure (wpAny_pure ⟨_, rfl, wpAny_pure h⟩)) htake))
    | exact wpAny_bind (wpAny_bind (m := Builtin.Tuple.tupleExact _) (wpAny_newObj_type (wpAny_pure ⟨_, rfl, wpAny_pure h⟩) htake))
end
/-- x[::-1], x a list or a tuple -/
def tRevA (K : PySem.W.Frag) (te : TE) : TE := fun σ H Q => te σ H fun x H1 => (∃ a xs, x = .ref a ∧ SqL K H1 a xs ∧ ∀ p, H1 p = none → Q (.ref p) (upd H1 p (.lst xs.reverse))) ∨
  ∃ a xs, x = .ref a ∧ SqT K H1 a xs ∧ ∀ p, H1 p = none → Q (.ref p) (upd H1 p (.tup xs.reverse))
theorem pe_revA {X : Cx} {e : Expr} {te : TE} {k : Nat} {p1 p2 p3 pos : Pos} (he : PE X e te) : PE X (.Subscript e (.Slice none none (some (.UnaryOp .USub (.Constant (.int 1) k p1) p2)) p3) pos) (tRevA X.K te) := by
  refine ⟨fun pins s σ H Q I h => ?_⟩
  refine Subscript_ (thn (he.run pins s σ H _ I h) fun v s1 ⟨x, H1, I1, r1, q1⟩ => ?_)
  have hst : PO X (some (.UnaryOp .USub (.Constant (.int 1) k p1) p2)) (tPart (tUn (rU fun i => .int (-i)) (tC (.int 1)))) := po_some (pe_un un_neg pe_int)
  refine wpAny_Slice (thn (po_none.run pins s1 σ H1 (fun o H2 => o = none ∧ H2 = H1) I1 ⟨rfl, rfl⟩) fun vl s2 ⟨l, H2, I2, pl, el, e2⟩ => ?_)
  subst el e2
  refine thn (po_none.run pins s2 σ H2 (fun o H3 => o = none ∧ H3 = H2) I2 ⟨rfl, rfl⟩) fun vu s3 ⟨u, H3, I3, pu, eu, e3⟩ => ?_
  subst eu e3
  refine thn (hst.run pins s3 σ H3 (fun o H4 => o = some (-1) ∧ H4 = H3) I3 ⟨1, rfl, -1, rfl, rfl, rfl⟩) fun vs s4 ⟨o, H4, I4, ps, eo, e4⟩ => ?_
  subst eo e4
  have I5 : Inv X pins σ H4 { s4 with heap := s4.heap.push { cls := .type "slice", data := .fields #[vl, vu, vs] } } := I4.kept (t' := s4.toks) fun b ob q => Heap.get?_push_of_some _ q
  rcases q1 with ⟨a, xs, ex, hx, q⟩ | ⟨a, xs, ex, hx, q⟩
  · subst ex
    cases r1
    obtain ⟨its, r, ht, hz⟩ := I5.list hx
    have hlen := r.length
    show wpAny (model X.prog X.w) X.A (subscriptTail e (.Slice none none (some (.UnaryOp .USub (.Constant (.int 1) k p1) p2)) p3) (.ref a) (.ref s4.heap.objs.size)) (EP X pins σ Q) X.xe { s4 with heap := s4.heap.push { cls := .type "slice", data := .fields #[vl, vu, vs] } }
    refine tail_any (ops := [.ref a, .ref s4.heap.objs.size]) ht.isList.typeIs (PySem.slot_list_getitem.lookup) ?_ (by with_unfolding_all rfl)
    refine wpAny_getItem_list_slice ht.isList (Heap.IsSliceOf.new _ vl vu vs) pl pu ps (by decide) ?_ (by rw [List.size_toArray]; omega)
    rw [PySem.W.krv_pick]
    refine ⟨.ref _, _, I5.laid (t' := s4.toks) (o := .lst xs.reverse) (fun b ob q => Heap.get?_push_of_some _ q) (Nat.le_refl _) ?_, rfl, q _ (I5.hok.fresh (Nat.le_refl _))⟩
    exact ⟨by rw [List.length_reverse]; exact hz, _, 0, r.reverse, Heap.get?_push_size _ rfl⟩
  · subst ex
    cases r1
    obtain ⟨its, r, ht, hz⟩ := I5.tuple hx
    have hlen := r.length
    cases pl
    cases pu
    show wpAny (model X.prog X.w) X.A (subscriptTail e (.Slice none none (some (.UnaryOp .USub (.Constant (.int 1) k p1) p2)) p3) (.ref a) (.ref s4.heap.objs.size)) (EP X pins σ Q) X.xe { s4 with heap := s4.heap.push { cls := .type "slice", data := .fields #[.none, .none, vs] } }
    refine tail_any (ops := [.ref a, .ref s4.heap.objs.size]) ht.typeIs (PyProof.Rows.slot_tuple_getitem.lookup) ?_ (by with_unfolding_all rfl)
    refine getItem_tuple_rev ht (Heap.IsSliceOf.new _ .none .none vs) ps ?_ (by rw [List.size_toArray]; omega)
    refine ⟨.ref _, _, I5.laid (t' := s4.toks) (o := .tup xs.reverse) (fun b ob q => Heap.get?_push_of_some _ q) (Nat.le_refl _) ?_, rfl, q _ (I5.hok.fresh (Nat.le_refl _))⟩
    exact ⟨by rw [List.length_reverse]; exact hz, _, r.reverse, IsTup.new _ _⟩
end PI
end
section
set_option Elab.async false
set_option linter.all false
set_option maxRecDepth 100000
/-! PIg: an expression's reading by the interpreter's answer: the constructs one by one. -/
namespace PI
open PySem PySem.Spec PyProof.Rows L2

/-! ### shapes of the syntax -/
section
variable {env : PySem.Env} {e : Expr} {es : List Expr}
theorem star_of (h : notStar e = true) : starEach (e :: es) env = (false, eval e env) :: starEach es env := by
  cases e <;> first | rfl | simp [notStar] at h
theorem stars_of (h : es.all notStar = true) (pos : Pos) : (backTo pos (starEach es env)).any (·.1) = false := by
  induction es with
  | nil => rfl
  | cons e es ih =>
    rw [List.all_cons, Bool.and_eq_true] at h
    rw [star_of h.1]
    show (false || (backTo pos (starEach es env)).any (·.1)) = false
    rw [ih h.2]; rfl
theorem plain_of (h : plainT e = true) (whole : Sem Value) : isTrue e env whole = (do let v ← whole; standAt e.pos; holding [v] (truthy v)) := by
  cases e with
  | UnaryOp op x p => cases op <;> first | rfl | simp [plainT] at h
  | BoolOp _ _ _ => simp [plainT] at h
  | IfExp _ _ _ _ => simp [plainT] at h
  | Compare _ _ _ _ => simp [plainT] at h
  | _ => rfl
theorem slice_of (h : notSlice e = true) : PlainIx e := by
  intro o i
  cases e <;> first | rfl | simp [notSlice] at h
theorem set_of (h : notSet e = true) (x : Value) : foldedSetIterable e env x = pure x := by
  cases e <;> first | rfl | simp [notSet] at h
theorem base_of (h : notCall0 e = true) (nm : Str) : attributeBase e nm env (eval e env) = eval e env := by
  cases e with
  | Call f as kws p =>
    cases as with
    | nil => simp [notCall0] at h
    | cons a as => cases f <;> rfl
  | _ => rfl
end

/-! ### what an expression does, wherever it stands -/
/-- a method's argument, or none -/
def isNilE : E → Bool
  | .nil => true
  | _ => false
def tM (T : Tab) (K : PySem.W.Frag) (W : WX) (n : Bool) (f : Env → R Env (Da × Env)) : TA := fun σ H Q => ∃ env G F, Rel K env σ H G F ∧ Pst T K W G F σ (f env) fun d env' => ∀ vs H' G', Same G G' → Rel K env' σ H' G' F → (match n with
  | true => vs = []
  | false => ∃ v, vs = [v] ∧ Rep K G' d v) → Q vs H'
structure Snd (T : Tab) (k : Nat) (n : E) : Prop where
  e : ∀ {C W X}, GX T k C W X → ∀ {ex}, (ck T n).e C ex = true → PE X ex (tE T (callF T k) X.K W n)
  t : ∀ {C W X}, GX T k C W X → ∀ {ex}, (ck T n).t C ex = true → PT X ex (tT T X.K W (ev T (callF T k) n).t)
  l : ∀ {C W X}, GX T k C W X → ∀ {xs}, (ck T n).l C xs = true → PA X xs (tL T X.K W (ev T (callF T k) n).l)
  a : ∀ {C W X}, GX T k C W X → ∀ {xs}, (ck T n).a C xs = true → PA X xs (tAr T X.K W (ev T (callF T k) n).a)
  i : ∀ {C W X}, GX T k C W X → C.cm = true → ∀ {tg ex}, (ck T n).i C tg ex = true → L2.PI X tg ex (tI T (callF T k) X.K W n)
  p : ∀ {C W X}, GX T k C W X → ∀ {o}, (ck T n).p C o = true → PO X o (tP T X.K W (ev T (callF T k) n).p)
  m : ∀ {C W X}, GX T k C W X → ∀ {xs}, (ck T n).m C xs = true → PA X xs (tM T X.K W (isNilE n) (ev T (callF T k) n).m)
  c : ∀ {C W X}, GX T k C W X → ∀ {xs}, (ck T n).c C xs = true → PTs X xs (tT T X.K W (ev T (callF T k) n).c)

section
variable {T : Tab} {k : Nat} {C : CC} {W : WX} {X : Cx}
/-! ### a value's truth -/
theorem tru_post {K : PySem.W.Frag} {G F H : Hp} {σ : L2.St} {env env1 : Env} {e : E} {x : Da} {v : V} {Q : Bool → Hp → Prop} (r : Rel K env1 σ H G F) (s : RepS K G σ e x v) (hrr : rr e env1 x = some x)
    (p : Pst T K W G F σ (truB x env1) fun b env' => ∀ H' G', Same G G' → Rel K env' σ H' G' F → Q b H') : ∃ b, TruV K v H b ∧ Q b H := by
  obtain ⟨b, hb, p⟩ := p.opt
  exact ⟨b, truV_of r.gs (r.operand s hrr) hb, p.ok H G (Same.refl _) r⟩
theorem pt_tru (G : GX T k C W X) {e : E} {ex : Expr} (he : PE X ex (tE T (callF T k) X.K W e)) (hp : plainT ex = true) :
    PT X ex (tT T X.K W fun env => ((ev T (callF T k) e).e env).bnd truB) := by
  refine (pt_truth he (plain_of hp)).imp fun σ H Q hq => ?_
  obtain ⟨env, G, F, r, p⟩ := hq
  refine tE_of r (p.bnd.imp (Same.refl _) fun x env1 hx p1 v H1 G1 g1 r1 s1 => ?_)
  refine tru_post (env := env) r1 s1 (rr_self hx) ((p1.mono g1).imp (Same.refl _) fun b e2 _ h H' G' g r' => h H' G' (g1.trans g) r')
/-! ### what a for walks: a list, a tuple, a text -/
def iAny (K : PySem.W.Frag) (te : TE) : TI := fun σ H R' => te σ H fun x H1 => (∃ a, x = .ref a ∧ (∃ xs, SqL K H1 a xs) ∧ R' (Itl K a) H1) ∨ (∃ a, x = .ref a ∧ (∃ xs, SqT K H1 a xs) ∧ R' (Itt K a) H1) ∨ ∃ z, x = .str z ∧ R' (Its z) H1
theorem pi_any {tg l : Expr} {tl : TE} (hl : PE X l tl) : L2.PI X tg l (iAny X.K tl) := by
  refine ⟨fun pins s σ H R I h => ?_⟩
  refine thn (hl.run pins s σ H _ I h) fun v s1 ⟨x, H1, I1, r1, q1⟩ => ?_
  rcases q1 with ⟨a, e, ⟨xs, hq⟩, q⟩ | ⟨a, e, ⟨xs, hq⟩, q⟩ | ⟨x, ex, q⟩
  · subst e
    cases r1
    obtain ⟨its, rv, p, hz⟩ := I1.list hq
    refine wpAny_pyIter_list p.isList ?_
    refine ⟨s1.heap.objs.size, [s1.heap.objs.size], _, _, H1, rfl, I1.kept (t' := s1.toks) fun b o e => Heap.get?_push_of_some _ e, turn_list a _, ⟨_, Heap.get?_push_size _ rfl, rfl, rfl⟩, fun b hb => ?_, q⟩
    have e : b = s1.heap.objs.size := by simpa using hb
    subst e
    exact I1.fpOk (Nat.le_refl _) (I1.hok.fresh (Nat.le_refl _))
  · subst e
    cases r1
    obtain ⟨its, rv, p, hz⟩ := I1.tuple hq
    refine wpAny_pyIter_tuple (show s1.heap.IsTuple a its.toArray from p) ?_
    refine ⟨s1.heap.objs.size, [s1.heap.objs.size], _, _, H1, rfl, I1.kept (t' := s1.toks) fun b o e => Heap.get?_push_of_some _ e, turn_tuple a _, ⟨_, Heap.get?_push_size _ rfl, rfl, rfl⟩, fun b hb => ?_, q⟩
    have e : b = s1.heap.objs.size := by simpa using hb
    subst e
    exact I1.fpOk (Nat.le_refl _) (I1.hok.fresh (Nat.le_refl _))
  · subst ex
    obtain ⟨t, rfl⟩ := r1
    cases ha : x.cps.all (· < 128)
    · exact wpAny_pyIter_wide ha (pi_one (tk := s1.toks) I1 _ (turn_str _ x t "str_iterator" (.inr rfl)) ⟨_, Heap.get?_push_size _ rfl, rfl, rfl⟩ q)
    · exact wpAny_pyIter_ascii ha (pi_one (tk := s1.toks) I1 _ (turn_str _ x t "str_ascii_iterator" (.inl rfl)) ⟨_, Heap.get?_push_size _ rfl, rfl, rfl⟩ q)
theorem walk_list {K : PySem.W.Frag} {G0 : Hp} {a : Addr} {ds : List Da} {xs : List V} (h : G0 a = some (.lst xs)) (l : RepL K G0 ds xs) : Walks K (Itl K a) ds G0 none := by
  intro i H G g0 g _
  have hs : SqL K H a xs := SqL.of (g _ _ (g0 _ _ h))
  have hl := l.length
  refine ⟨fun hi => ⟨?_, fun x H' hy => ?_⟩, fun hi => ⟨xs, hs, by omega⟩⟩
  · have : i < xs.length := by omega
    exact ⟨xs, xs[i], hs, List.getElem?_eq_getElem this⟩
  · obtain ⟨rfl, hy⟩ := hy
    obtain ⟨d, e1, e2⟩ := l.getV (hy xs hs)
    exact ⟨d, G, e1, e2.mono g0, Same.refl _, g, Same.refl _, fun _ _ h => h⟩
theorem walk_lock {K : PySem.W.Frag} {G0 : Hp} {a : Addr} {ds : List Da} : Walks K (Itl K a) ds G0 (some (a, ds)) := by
  intro i H G g0 g lk
  obtain ⟨xs, h, l⟩ := lk a ds rfl
  have hs : SqL K H a xs := SqL.of h
  have hl := l.length
  refine ⟨fun hi => ⟨?_, fun x H' hy => ?_⟩, fun hi => ⟨xs, hs, by omega⟩⟩
  · have : i < xs.length := by omega
    exact ⟨xs, xs[i], hs, List.getElem?_eq_getElem this⟩
  · obtain ⟨rfl, hy⟩ := hy
    obtain ⟨d, e1, e2⟩ := l.getV (hy xs hs)
    exact ⟨d, G, e1, e2, Same.refl _, g, Same.refl _, fun _ _ h => h⟩
theorem walk_tup {K : PySem.W.Frag} {G0 : Hp} {a : Addr} {ds : List Da} {xs : List V} (h : SqT K G0 a xs) (l : RepL K G0 ds xs) : Walks K (Itt K a) ds G0 none := by
  intro i H G g0 g _
  have hs : SqT K H a xs := sameT g (sameT g0 h)
  have hl := l.length
  refine ⟨fun hi => ⟨?_, fun x H' hy => ?_⟩, fun hi => ⟨xs, hs, by omega⟩⟩
  · have : i < xs.length := by omega
    exact ⟨xs, xs[i], hs, List.getElem?_eq_getElem this⟩
  · obtain ⟨rfl, hy⟩ := hy
    obtain ⟨d, e1, e2⟩ := l.getV (hy xs hs)
    exact ⟨d, G, e1, e2.mono g0, Same.refl _, g, Same.refl _, fun _ _ h => h⟩
theorem walk_str {K : PySem.W.Frag} {G0 : Hp} {z : Str} : Walks K (Its z) (z.cps.toList.map sing) G0 none := by
  intro i H G g0 g _
  refine ⟨fun hi => ⟨?_, fun x H' hy => ?_⟩, fun hi => ?_⟩
  · show i < z.cps.size
    simpa using hi
  · obtain ⟨rfl, c, hc, rfl⟩ := hy
    refine ⟨sing c, G, ?_, by simp only [sing, Rep], Same.refl _, g, Same.refl _, fun _ _ h => h⟩
    rw [List.getElem?_map, Array.getElem?_toList, hc]; rfl
  · show z.cps.size ≤ i
    simpa using hi
theorem pi_ofE (G : GX T k C W X) {e : E} {tg ex : Expr} (he : PE X ex (tE T (callF T k) X.K W e)) (hi : (ev T (callF T k) e).i = fun env => ((ev T (callF T k) e).e env).bnd fun x env1 => optB (itemsD x) fun xs => .ok (xs, env1))
    (hl : lockOf e = borOf e) : L2.PI X tg ex (tI T (callF T k) X.K W e) := by
  refine (pi_any he).imp fun σ H R' hq => ?_
  obtain ⟨env, G, F, r, p⟩ := hq
  rw [hi] at p
  refine tE_of r (p.bnd.imp (Same.refl _) fun x env1 hx p1 v H1 G1 g1 r1 s1 => ?_)
  obtain ⟨xs, hxs, p2⟩ := p1.opt
  have q := p2.ok
  have fin : ∀ J lk, Walks X.K J xs G1 lk → LockIs e env1 σ lk → R' J H1 := fun J lk w l => q J H1 G1 lk g1 r1 w l
  cases hb : borOf e with
  | some j =>
    unfold RepS at s1
    rw [hb] at s1
    simp only at s1
    have hrr := rr_self hx
    have hej : e = .bor j := by cases e <;> simp [borOf] at hb; rw [hb]
    subst hej
    simp only [rr] at hrr
    cases he1 : env1[j]? with
    | none => rw [he1] at hrr; simp at hrr
    | some sl =>
      rw [he1] at hrr
      cases sl with
      | val z =>
        simp only [Option.some.injEq] at hrr
        subst hrr
        obtain ⟨w, h1, h2⟩ := r1.val j z he1
        rw [s1] at h1
        cases h1
        cases z with
        | list ds =>
          simp only [itemsD, Option.some.injEq] at hxs
          subst hxs
          simp only [Rep] at h2
          obtain ⟨a, ys, rfl, h3, h4⟩ := h2
          exact .inl ⟨a, rfl, ⟨ys, SqL.of (r1.gs _ _ h3)⟩, fin _ none (walk_list h3 h4) fun _ _ z => by cases z⟩
        | tuple ds =>
          simp only [itemsD, Option.some.injEq] at hxs
          subst hxs
          simp only [Rep] at h2
          obtain ⟨a, ys, rfl, h3, h4⟩ := h2
          exact .inr (.inl ⟨a, rfl, ⟨ys, sameT r1.gs h3⟩, fin _ none (walk_tup h3 h4) fun _ _ z => by cases z⟩)
        | str z =>
          simp only [itemsD, Option.some.injEq] at hxs
          subst hxs
          simp only [Rep] at h2
          exact .inr (.inr ⟨z, h2, fin _ none walk_str fun _ _ z => by cases z⟩)
        | _ => simp [itemsD] at hxs
      | own m z =>
        simp only [Option.some.injEq] at hrr
        subst hrr
        obtain ⟨a, h1, h2, h3, h4⟩ := r1.own j m z he1
        rw [s1] at h1
        cases h1
        cases z with
        | list ds =>
          simp only [itemsD, Option.some.injEq] at hxs
          subst hxs
          obtain ⟨ys, e1, e2⟩ := h4
          refine .inl ⟨a, rfl, ⟨ys, SqL.of e1⟩, fin _ (some (a, ds)) walk_lock fun b es z => ?_⟩
          cases z
          exact ⟨j, m, rfl, he1, s1⟩
        | _ => exact h4.elim
      | _ => simp at hrr
  | none =>
    unfold RepS at s1
    rw [hb] at s1
    simp only at s1
    cases x with
    | list ds =>
      simp only [itemsD, Option.some.injEq] at hxs
      subst hxs
      simp only [Rep] at s1
      obtain ⟨a, ys, rfl, h3, h4⟩ := s1
      exact .inl ⟨a, rfl, ⟨ys, SqL.of (r1.gs _ _ h3)⟩, fin _ none (walk_list h3 h4) fun _ _ z => by cases z⟩
    | tuple ds =>
      simp only [itemsD, Option.some.injEq] at hxs
      subst hxs
      simp only [Rep] at s1
      obtain ⟨a, ys, rfl, h3, h4⟩ := s1
      exact .inr (.inl ⟨a, rfl, ⟨ys, sameT r1.gs h3⟩, fin _ none (walk_tup h3 h4) fun _ _ z => by cases z⟩)
    | str z =>
      simp only [itemsD, Option.some.injEq] at hxs
      subst hxs
      simp only [Rep] at s1
      exact .inr (.inr ⟨z, s1, fin _ none walk_str fun _ _ z => by cases z⟩)
    | _ => simp [itemsD] at hxs

/-! ### an expression from its value -/
theorem Snd.mk' {e : E} {f g : CC → Expr → Bool} {fe : Env → R Env (Da × Env)} {ft : Env → R Env (Bool × Env)}
    (hck : ck T e = .of f g) (hev : ev T (callF T k) e = { EvR.ofT fe ft with v := (ev T (callF T k) e).v, m := (ev T (callF T k) e).m })
    (hm : (ev T (callF T k) e).m = (ev T (callF T k) e).v) (hl : lockOf e = borOf e) (hn : isNilE e = false)
    (he : ∀ {C W X}, GX T k C W X → ∀ {ex}, f C ex = true → PE X ex (tE T (callF T k) X.K W e))
    (ht : ∀ {C W X}, GX T k C W X → ∀ {ex}, g C ex = true → PT X ex (tT T X.K W ft)) : Snd T k e where
  e := fun G ex h => he G (by rw [hck] at h; exact h)
  t := fun G ex h => by
    rw [hck] at h
    rw [hev]
    exact ht G h
  l := fun _ _ h => by rw [hck] at h; exact absurd h Bool.false_ne_true
  a := fun _ _ h => by rw [hck] at h; exact absurd h Bool.false_ne_true
  i := fun {C W X} G hc tg ex h => by
    rw [hck] at h
    obtain ⟨_, h⟩ := and2 (show (notSet ex && f C ex) = true from h)
    refine pi_ofE G (he G h) ?_ hl
    rw [hev]
    rfl
  p := fun {C W X} G o h => by
    rw [hck] at h
    cases o with
    | none => exact absurd h Bool.false_ne_true
    | some ex =>
      refine (po_some (he G h)).imp fun σ H Q hq => ?_
      obtain ⟨env, G, F, r, p⟩ := hq
      rw [hev] at p
      have p' : Pst T X.K W G F σ (((ev T (callF T k) e).e env).bnd fun x env1 => intB x fun i => .ok (some i, env1)) fun o env' => ∀ H' G', Same G G' → Rel X.K env' σ H' G' F → Q o H' := by
        rw [hev]; exact p
      refine tE_of r (p'.bnd.imp (Same.refl _) fun x env1 hx p1 v H1 G1 g1 r1 s1 => ?_)
      obtain ⟨i, rfl, p2⟩ := p1.int
      have o := r1.operand s1 (rr_self hx)
      exact ⟨i, o, p2.ok H1 G1 g1 r1⟩
  m := fun {C W X} G xs h => by
    rw [hck] at h
    cases xs with
    | nil => exact absurd h Bool.false_ne_true
    | cons x r =>
      cases r with
      | nil =>
        obtain ⟨h1, h2⟩ := and2 (show (notStar x && f C x) = true from h)
        refine (pa_cons (he G h2).v pa_nil (star_of h1)).imp fun σ H Q hq => ?_
        obtain ⟨env, G, F, r, p⟩ := hq
        rw [hm, hn] at p
        refine tV_of r (p.imp (Same.refl _) fun d env1 _ q v H1 G1 g1 r1 s1 => ?_)
        exact q [v] H1 G1 g1 r1 ⟨v, rfl, s1⟩
      | cons y r => exact absurd h Bool.false_ne_true
  c := fun {C W X} G xs h => by
    rw [hck] at h
    cases xs with
    | nil => exact absurd h Bool.false_ne_true
    | cons x r =>
      cases r with
      | nil =>
        rw [hev]
        exact pts_one (ht G h)
      | cons y r => exact absurd h Bool.false_ne_true
theorem Snd.ofE {e : E} {f : CC → Expr → Bool} {fe : Env → R Env (Da × Env)} (hck : ck T e = .ofE f) (hev : ev T (callF T k) e = EvR.ofE fe) (hl : lockOf e = borOf e) (hn : isNilE e = false)
    (he : ∀ {C W X}, GX T k C W X → ∀ {ex}, f C ex = true → PE X ex (tE T (callF T k) X.K W e)) : Snd T k e := by
  have hfe : (ev T (callF T k) e).e = fe := by rw [hev]; rfl
  refine Snd.mk' (f := f) (g := fun C ex => plainT ex && f C ex) (fe := fe) (ft := fun env => (fe env).bnd truB) hck (by rw [hev]; rfl) (by rw [hev]; rfl) hl hn he fun {C W X} G ex h => ?_
  obtain ⟨h1, h2⟩ := and2 h
  have := pt_tru G (he G h2) h1
  rw [hfe] at this
  exact this
/-- a comparison -/
theorem Snd.ofC {e : E} {f : CC → Expr → Bool} {fe : Env → R Env (Da × Env)} (hck : ck T e = .ofC f) (hev : ev T (callF T k) e = EvR.ofE fe) (hl : lockOf e = borOf e) (hn : isNilE e = false)
    (he : ∀ {C W X}, GX T k C W X → ∀ {ex}, f C ex = true → PE X ex (tE T (callF T k) X.K W e))
    (ht : ∀ {C W X}, GX T k C W X → ∀ {ex}, f C ex = true → PT X ex (tT T X.K W fun env => (fe env).bnd truB)) : Snd T k e :=
  Snd.mk' (f := f) (g := f) (fe := fe) (ft := fun env => (fe env).bnd truB) hck (by rw [hev]; rfl) (by rw [hev]; rfl) hl hn he ht
/-- .. that stands nowhere -/
theorem Snd.no {e : E} (hck : ck T e = .none) : Snd T k e where
  e := fun _ _ h => by rw [hck] at h; exact absurd h Bool.false_ne_true
  t := fun _ _ h => by rw [hck] at h; exact absurd h Bool.false_ne_true
  l := fun _ _ h => by rw [hck] at h; exact absurd h Bool.false_ne_true
  a := fun _ _ h => by rw [hck] at h; exact absurd h Bool.false_ne_true
  i := fun _ _ _ _ h => by rw [hck] at h; exact absurd h Bool.false_ne_true
  p := fun _ _ h => by rw [hck] at h; exact absurd h Bool.false_ne_true
  m := fun _ _ h => by rw [hck] at h; exact absurd h Bool.false_ne_true
  c := fun _ _ h => by rw [hck] at h; exact absurd h Bool.false_ne_true
end
end PI
end
section
set_option Elab.async false
set_option linter.all false
set_option maxRecDepth 100000
/-! PIh: the constructs, each from its parts. -/
namespace PI
open PySem PySem.Spec PyProof.Rows L2
section
variable {T : Tab} {k : Nat}

theorem n_var (i : Nat) : Snd T k (.var i) := Snd.ofE rfl rfl rfl rfl fun G ex h => snd_var G h
theorem n_bor (i : Nat) : Snd T k (.bor i) := by
  refine Snd.mk' (f := fun C ex => match ex with
    | .Name x _ => slotB C i x
    | _ => false) (fe := evBor i) (ft := fun env => (evBor i env).bnd truB) rfl rfl rfl rfl rfl (fun {C W X} G ex h => ?_) (fun {C W X} G ex h => ?_)
  · cases ex with
    | Name x p =>
      refine (pe_slot G h).imp fun σ H Q hq => ?_
      obtain ⟨env, G', F, r, p⟩ := hq
      have p' : Pst T X.K W G' F σ (evBor i env) _ := p
      unfold evBor at p'
      cases he : env[i]? with
      | none => rw [he] at p'; exact p'.elim
      | some s =>
        rw [he] at p'
        cases s with
        | val d =>
          obtain ⟨v, h1, h2⟩ := r.val i d he
          exact ⟨v, h1, p' v H G' (Same.refl _) r h1⟩
        | own m d =>
          obtain ⟨a, h1, h2⟩ := r.own i m d he
          exact ⟨_, h1, p' _ H G' (Same.refl _) r h1⟩
        | _ => exact p'.elim
    | _ => exact absurd h Bool.false_ne_true
  · obtain ⟨h1, h⟩ := and2 h
    cases ex with
    | Name x p =>
      have he : PE X (.Name x p) (tE T (callF T k) X.K W (.bor i)) := by
        refine (pe_slot G h).imp fun σ H Q hq => ?_
        obtain ⟨env, G', F, r, p⟩ := hq
        have p' : Pst T X.K W G' F σ (evBor i env) _ := p
        unfold evBor at p'
        cases he : env[i]? with
        | none => rw [he] at p'; exact p'.elim
        | some s =>
          rw [he] at p'
          cases s with
          | val d =>
            obtain ⟨v, h1, h2⟩ := r.val i d he
            exact ⟨v, h1, p' v H G' (Same.refl _) r h1⟩
          | own m d =>
            obtain ⟨a, h1, h2⟩ := r.own i m d he
            exact ⟨_, h1, p' _ H G' (Same.refl _) r h1⟩
          | _ => exact p'.elim
      exact pt_tru G he h1
    | _ => exact absurd h Bool.false_ne_true
/-- a slot without a value -/
theorem Rel.unset {K : PySem.W.Frag} {env : Env} {σ : L2.St} {H G F : Hp} (r : Rel K env σ H G F) (i : Nat) : Rel K (env.set i .un) σ H G F := by
  have key : ∀ (j : Nat) s, (env.set i .un)[j]? = some s → s = .un ∨ (j ≠ i ∧ env[j]? = some s) := fun j s e => by
    by_cases hj : i = j
    · subst hj
      by_cases hi : i < env.length
      · rw [List.getElem?_set_self hi] at e; cases e; exact .inl rfl
      · rw [List.set_eq_of_length_le (by omega)] at e
        rw [List.getElem?_eq_none (by omega)] at e; cases e
    · rw [List.getElem?_set_ne hj] at e; exact .inr ⟨fun z => hj z.symm, e⟩
  refine ⟨r.gs, r.fs, r.fg, by rw [List.length_set]; exact r.len, fun j d e => ?_, fun j m d e => ?_, fun j ns e => ?_, fun j j' m n d e a q1 q2 => ?_⟩
  · rcases key j _ e with z | ⟨_, e⟩
    · cases z
    · exact r.val j d e
  · rcases key j _ e with z | ⟨_, e⟩
    · cases z
    · exact r.own j m d e
  · rcases key j _ e with z | ⟨_, e⟩
    · cases z
    · exact r.scr j ns e
  · rcases key j _ q1 with z | ⟨_, q1⟩
    · cases z
    · rcases key j' _ q2 with z | ⟨_, q2⟩
      · cases z
      · exact r.dj j j' m n d e a q1 q2
theorem Rel.unset_not {K : PySem.W.Frag} {env : Env} {σ : L2.St} {H G F : Hp} (r : Rel K env σ H G F) {i : Nat} {m : Nat} {d : Da} {a : Addr} (he : env[i]? = some (.own m d)) (ha : σ[i]? = some (some (.ref a))) : NotOwn (env.set i .un) σ a := fun j n e q z => by
  by_cases hj : i = j
  · subst hj
    have hi : i < env.length := (List.getElem?_eq_some_iff.mp he).1
    rw [List.getElem?_set_self hi] at q; cases q
  · rw [List.getElem?_set_ne hj] at q
    exact hj (r.dj j i n m e d a q he z ha).symm
theorem n_mv (i : Nat) : Snd T k (.mv i) := by
  refine Snd.ofE rfl rfl rfl rfl fun {C W X} G ex h => ?_
  cases ex with
  | Name x p =>
    refine (pe_slot G h).imp fun σ H Q hq => ?_
    obtain ⟨env, G', F, r, p⟩ := hq
    have p' : Pst T X.K W G' F σ (evMv i env) _ := p
    unfold evMv at p'
    cases he : env[i]? with
    | none => rw [he] at p'; exact p'.elim
    | some s =>
      rw [he] at p'
      cases s with
      | own m d =>
        cases m with
        | zero =>
          obtain ⟨a, h1, h2, h3, h4⟩ := r.own i 0 d he
          refine ⟨_, h1, p' _ H G' (Same.refl _) (r.unset i) ?_⟩
          cases d with
          | list ds =>
            obtain ⟨xs, e1, e2⟩ := h4
            exact ⟨a, xs, rfl, e1, h2, h3, r.unset_not he h1, e2⟩
          | _ => exact h4.elim
        | succ m => exact p'.elim
      | _ => exact p'.elim
  | _ => exact absurd h Bool.false_ne_true
theorem n_kc (d : Da) : Snd T k (.kc d) := by
  refine Snd.ofE rfl rfl rfl rfl fun {C W X} G ex h => ?_
  cases ex with
  | Constant c j p =>
    have key : ∃ v, PE X (.Constant c j p) (tC v) ∧ (∀ G, Rep X.K G d v) ∧ ∀ ds, d ≠ .list ds := by
      cases c <;> cases d <;> first
        | exact absurd h Bool.false_ne_true
        | exact ⟨.non, pe_non, fun G => (by simp only [Rep]), fun _ z => (by cases z)⟩
        | (obtain rfl := of_decide_eq_true h; first | exact ⟨.bl _, pe_bl, fun G => (by simp only [Rep]), fun _ z => (by cases z)⟩ | exact ⟨.int _, pe_int, fun G => (by simp only [Rep]), fun _ z => (by cases z)⟩ | exact ⟨.str _, pe_str, fun G => (by simp only [Rep]), fun _ z => (by cases z)⟩)
    obtain ⟨v, h1, h2, h3⟩ := key
    refine h1.imp fun σ H Q hq => ?_
    obtain ⟨env, G', F, r, p⟩ := hq
    exact fin_sc (e := .kc d) r p.ok (h2 G') h3
  | _ => exact absurd h Bool.false_ne_true
theorem n_gl (c : Nat) : Snd T k (.gl c) := by
  refine Snd.ofE rfl rfl rfl rfl fun {C W X} G ex h => ?_
  cases ex with
  | Name x p =>
    obtain ⟨h1, h2⟩ := and2 h
    obtain ⟨g1, g2, _⟩ := glo_ok G h1
    cases hc : T.cons[c]? with
    | none => rw [hc] at h2; cases h2
    | some q =>
      obtain ⟨y, d⟩ := q
      rw [hc] at h2
      obtain rfl := of_decide_eq_true h2
      obtain ⟨u, v, e1, e2, e3⟩ := G.tab.cons c y d hc
      refine (pe_glob g1 e1 e2 g2).imp fun σ H Q hq => ?_
      obtain ⟨env, G', F, r, p⟩ := hq
      have p' : Pst T X.K W G' F σ (optB T.cons[c]? fun p => .ok (p.2, env)) _ := p
      rw [hc] at p'
      exact fin_rep (e := .gl c) r p' (e3 G')
  | _ => exact absurd h Bool.false_ne_true
/-! ### displays -/
theorem n_tup {es : E} (s : Snd T k es) : Snd T k (.tup es) := by
  refine Snd.ofE rfl rfl rfl rfl fun {C W X} G ex h => ?_
  cases ex with
  | Tuple xs j p =>
    refine (pe_tup (s.l G h)).imp fun σ H Q hq => ?_
    obtain ⟨env, G', F, r, p⟩ := hq
    refine ⟨env, G', F, r, p.bnd.imp (Same.refl _) fun ds env1 _ p1 vs H1 G1 g1 r1 l => ?_⟩
    obtain ⟨hz, p2⟩ := p1.ite
    refine ⟨by rw [l.length]; exact of_decide_eq_true hz, fun q hq => ?_⟩
    exact (fin_res (e := .tup es) r1 fun v H' G' g => p2.ok v H' G' (g1.trans g)).newT r1.gs l hq
  | _ => exact absurd h Bool.false_ne_true
theorem n_lst {es : E} (s : Snd T k es) : Snd T k (.lst es) := by
  refine Snd.ofE rfl rfl rfl rfl fun {C W X} G ex h => ?_
  cases ex with
  | List xs p =>
    refine (pe_lst (s.l G h)).imp fun σ H Q hq => ?_
    obtain ⟨env, G', F, r, p⟩ := hq
    refine ⟨env, G', F, r, p.bnd.imp (Same.refl _) fun ds env1 _ p1 vs H1 G1 g1 r1 l => ?_⟩
    obtain ⟨hz, p2⟩ := p1.ite
    refine ⟨by rw [l.length]; exact of_decide_eq_true hz, fun q hq => ?_⟩
    exact (fin_res (e := .lst es) r1 fun v H' G' g => p2.ok v H' G' (g1.trans g)).newL r1.gs l hq
  | _ => exact absurd h Bool.false_ne_true
theorem n_nil : Snd T k .nil where
  e := fun _ _ h => absurd h Bool.false_ne_true
  t := fun _ _ h => absurd h Bool.false_ne_true
  l := fun {C W X} G xs h => by
    cases xs with
    | nil =>
      refine pa_nil.imp fun σ H Q hq => ?_
      obtain ⟨env, G', F, r, p⟩ := hq
      exact p.ok [] H G' (Same.refl _) r RepL.nil
    | cons _ _ => exact absurd h Bool.false_ne_true
  a := fun {C W X} G xs h => by
    cases xs with
    | nil =>
      refine pa_nil.imp fun σ H Q hq => ?_
      obtain ⟨env, G', F, r, p⟩ := hq
      exact p.ok [] H G' (Same.refl _) r (by simp only [ArgsR])
    | cons _ _ => exact absurd h Bool.false_ne_true
  i := fun _ _ _ _ h => absurd h Bool.false_ne_true
  p := fun {C W X} G o h => by
    cases o with
    | none =>
      refine po_none.imp fun σ H Q hq => ?_
      obtain ⟨env, G', F, r, p⟩ := hq
      exact p.ok H G' (Same.refl _) r
    | some _ => exact absurd h Bool.false_ne_true
  m := fun {C W X} G xs h => by
    cases xs with
    | nil =>
      refine pa_nil.imp fun σ H Q hq => ?_
      obtain ⟨env, G', F, r, p⟩ := hq
      exact p.ok [] H G' (Same.refl _) r rfl
    | cons _ _ => exact absurd h Bool.false_ne_true
  c := fun {C W X} G xs h => by
    cases xs with
    | nil =>
      refine ⟨fun pins s σ H Q I hq => ?_⟩
      obtain ⟨env, G', F, r, p⟩ := hq
      exact pts_nil.run pins s σ H Q I (p.ok H G' (Same.refl _) r)
    | cons _ _ => exact absurd h Bool.false_ne_true
theorem ck_consA {x r : E} (h : ∀ i, x ≠ .io i) : (ck T (.cons x r)).a = fun C xs => match xs with
    | y :: ys => notStar y && ((ck T x).e C y && (ck T r).a C ys)
    | [] => false := by
  cases x <;> first | rfl | exact absurd rfl (h _)
theorem ev_consA {call : Calls} {x r : E} (h : ∀ i, x ≠ .io i) : (ev T call (.cons x r)).a = fun env => ((ev T call x).v env).bnd fun d env1 => ((ev T call r).a env1).bnd fun ds env2 => .ok (.v d :: ds, env2) := by
  cases x <;> first | rfl | exact absurd rfl (h _)
theorem ArgsR.mono {K : PySem.W.Frag} {G G' : Hp} {σ : L2.St} (g : Same G G') : ∀ {as : List Av} {vs : List V}, ArgsR K G σ as vs → ArgsR K G' σ as vs
  | [], _, h => by simp only [ArgsR] at h ⊢; exact h
  | .v d :: r, _, h => by
    simp only [ArgsR] at h ⊢
    obtain ⟨x, t, e, h1, h2⟩ := h
    exact ⟨x, t, e, h1.mono g, ArgsR.mono g h2⟩
  | .s i :: r, _, h => by
    simp only [ArgsR] at h ⊢
    obtain ⟨x, t, e, h1, h2⟩ := h
    exact ⟨x, t, e, h1, ArgsR.mono g h2⟩
theorem n_cons {x r : E} (s : Snd T k x) (t : Snd T k r) : Snd T k (.cons x r) where
  e := fun _ _ h => absurd h Bool.false_ne_true
  t := fun _ _ h => absurd h Bool.false_ne_true
  l := fun {C W X} G xs h => by
    cases xs with
    | nil => exact absurd h Bool.false_ne_true
    | cons y ys =>
      obtain ⟨h1, h⟩ := and2 h
      obtain ⟨h2, h3⟩ := and2 h
      refine (pa_cons (s.e G h2).v (t.l G h3) (star_of h1)).imp fun σ H Q hq => ?_
      obtain ⟨env, G', F, r, p⟩ := hq
      refine tV_of r (p.bnd.imp (Same.refl _) fun d env1 _ p1 v H1 G1 g1 r1 s1 => ?_)
      refine ⟨env1, G1, F, r1, (p1.mono g1).bnd.imp (Same.refl _) fun ds env2 _ p2 vs H2 G2 g2 r2 l => ?_⟩
      exact p2.ok (v :: vs) H2 G2 (g1.trans g2) r2 (RepL.cons (s1.mono g2) l)
  a := fun {C W X} G xs h => by
    by_cases hio : ∃ i, x = .io i
    · obtain ⟨i, rfl⟩ := hio
      cases xs with
      | nil => exact absurd h Bool.false_ne_true
      | cons y ys =>
        cases y with
        | Name y p =>
          obtain ⟨h1, h2⟩ := and2 h
          refine (pa_cons (pe_slot G h1) (t.a G h2) rfl).imp fun σ H Q hq => ?_
          obtain ⟨env, G', F, r', p⟩ := hq
          have p' : Pst T X.K W G' F σ (iteB (hasV env i) (((ev T (callF T k) r).a env).bnd fun ds env2 => .ok (.s i :: ds, env2))) fun as env' => ∀ vs H' G'', Same G' G'' → Rel X.K env' σ H' G'' F → ArgsR X.K G'' σ as vs → Q vs H' := p
          obtain ⟨hv, p1⟩ := p'.ite
          have hs : ∃ v, σ[i]? = some (some v) := by
            unfold hasV at hv
            cases he : env[i]? with
            | none => rw [he] at hv; simp at hv
            | some s =>
              rw [he] at hv
              cases s with
              | val d => obtain ⟨v, h, _⟩ := r'.val i d he; exact ⟨v, h⟩
              | own m d => obtain ⟨v, h, _⟩ := r'.own i m d he; exact ⟨_, h⟩
              | scr ns => obtain ⟨v, h, _⟩ := r'.scr i ns he; exact ⟨_, h⟩
              | _ => simp at hv
          obtain ⟨v, hv⟩ := hs
          refine ⟨v, hv, env, G', F, r', p1.bnd.imp (Same.refl _) fun ds env2 _ p2 vs H2 G2 g2 r2 l => ?_⟩
          exact p2.ok (v :: vs) H2 G2 g2 r2 (by simp only [ArgsR]; exact ⟨v, vs, rfl, hv, l⟩)
        | _ => exact absurd h Bool.false_ne_true
    · have hne : ∀ i, x ≠ .io i := fun i e => hio ⟨i, e⟩
      rw [ck_consA hne] at h
      rw [ev_consA hne]
      cases xs with
      | nil => exact absurd h Bool.false_ne_true
      | cons y ys =>
        obtain ⟨h1, h⟩ := and2 h
        obtain ⟨h2, h3⟩ := and2 h
        refine (pa_cons (s.e G h2).v (t.a G h3) (star_of h1)).imp fun σ H Q hq => ?_
        obtain ⟨env, G', F, r, p⟩ := hq
        refine tV_of r (p.bnd.imp (Same.refl _) fun d env1 _ p1 v H1 G1 g1 r1 s1 => ?_)
        refine ⟨env1, G1, F, r1, (p1.mono g1).bnd.imp (Same.refl _) fun ds env2 _ p2 vs H2 G2 g2 r2 l => ?_⟩
        exact p2.ok (v :: vs) H2 G2 (g1.trans g2) r2 (by simp only [ArgsR]; exact ⟨v, vs, rfl, s1.mono g2, l⟩)
  i := fun _ _ _ _ h => absurd h Bool.false_ne_true
  p := fun _ _ h => absurd h Bool.false_ne_true
  m := fun _ _ h => absurd h Bool.false_ne_true
  c := fun _ _ h => absurd h Bool.false_ne_true
end
end PI
end
section
set_option Elab.async false
set_option linter.all false
set_option maxRecDepth 100000
/-! PIi: operators, comparisons, built-ins, methods, subscripts, tests. -/
namespace PI
open PySem PySem.Spec PyProof.Rows L2
section
variable {T : Tab} {k : Nat} {W : WX}
theorem n_bin (o : BOp) {a b : E} (s : Snd T k a) (t : Snd T k b) : Snd T k (.bin o a b) := by
  refine Snd.ofE rfl rfl rfl rfl fun {C W X} G ex h => ?_
  cases ex with
  | BinOp y op z p =>
    obtain ⟨h1, h⟩ := and2 h
    obtain ⟨h2, h3⟩ := and2 h
    obtain rfl := of_decide_eq_true h1
    refine (pe_op (op_bin o) (s.e G h2) (t.e G h3)).imp fun σ H Q hq => ?_
    obtain ⟨env, G', F, r, p⟩ := hq
    refine two_of r p fun x y env2 v u H2 G2 g2 r2 ox oy p2 => ?_
    obtain ⟨d, hd, p3⟩ := p2.opt
    exact ⟨G2, x, y, d, r2.gs, ox, oy, hd, fin_res (e := .bin o a b) r2 fun v H' G'' g => p3.ok v H' G'' (g2.trans g)⟩
  | _ => exact absurd h Bool.false_ne_true
theorem n_neg {a : E} (s : Snd T k a) : Snd T k (.neg a) := by
  refine Snd.ofE rfl rfl rfl rfl fun {C W X} G ex h => ?_
  cases ex with
  | UnaryOp op y p =>
    obtain ⟨h1, h2⟩ := and2 h
    obtain rfl := of_decide_eq_true h1
    refine (pe_un un_neg (s.e G h2)).imp fun σ H Q hq => ?_
    obtain ⟨env, G', F, r, p⟩ := hq
    refine tE_of r (p.bnd.imp (Same.refl _) fun x env1 hx p1 v H1 G1 g1 r1 s1 => ?_)
    obtain ⟨i, rfl, p2⟩ := p1.int
    exact ⟨i, r1.operand s1 (rr_self hx), fin_sc (e := .neg a) r1 (fun v H' G'' g => p2.ok v H' G'' (g1.trans g)) (by simp only [Rep])⟩
  | _ => exact absurd h Bool.false_ne_true
theorem n_cmp (o : COp) {a b : E} (s : Snd T k a) (t : Snd T k b) : Snd T k (.cmp o a b) := by
  refine Snd.ofC rfl rfl rfl rfl (fun {C W X} G ex h => ?_) (fun {C W X} G ex h => ?_)
  · split at h
    · obtain ⟨h1, h⟩ := and2 h
      obtain ⟨h2, h⟩ := and2 h
      obtain ⟨h3, h4⟩ := and2 h
      obtain rfl := of_decide_eq_true h1
      refine (pe_cmpR (op_cmpA G.un o) (s.e G h3) (t.e G h4) (by simpa using h2)).imp fun σ H Q hq => ?_
      obtain ⟨env, G', F, r, p⟩ := hq
      refine two_of r p fun x y env2 v u H2 G2 g2 r2 ox oy p2 => ?_
      obtain ⟨d, hd, p3⟩ := p2.opt
      exact ⟨G2, x, y, d, r2.gs, ox, oy, hd, fin_sc (e := .cmp o a b) r2 (fun v H' G'' g => p3.ok v H' G'' (g2.trans g)) (by simp only [Rep])⟩
    · exact absurd h Bool.false_ne_true
  · split at h
    · obtain ⟨h1, h⟩ := and2 h
      obtain ⟨h2, h⟩ := and2 h
      obtain ⟨h3, h4⟩ := and2 h
      obtain rfl := of_decide_eq_true h1
      refine (pt_cmpR (op_cmpA G.un o) (s.e G h3) (t.e G h4) (by simpa using h2)).imp fun σ H Q hq => ?_
      obtain ⟨env, G', F, r, p⟩ := hq
      refine two_of r p.bnd fun x y env2 v u H2 G2 g2 r2 ox oy p2 => ?_
      obtain ⟨d, hd, p3⟩ := p2.opt
      exact ⟨G2, x, y, d, r2.gs, ox, oy, hd, d, rfl, p3.ok.ok H2 G2 g2 r2⟩
    · exact absurd h Bool.false_ne_true
/-- a bool as a test -/
theorem bl_post {K : PySem.W.Frag} {G F H : Hp} {σ : L2.St} {env : Env} {b : Bool} {Q : Bool → Hp → Prop} (r : Rel K env σ H G F) (p : Pst T K W G F σ (truB (.bool b) env) fun b env' => ∀ H' G', Same G G' → Rel K env' σ H' G' F → Q b H') : Q b H :=
  (show Pst T K W G F σ (.ok (b, env)) _ from p) H G (Same.refl _) r
theorem n_chain (o o' : COp) {a b c : E} (s : Snd T k a) (t : Snd T k b) (u : Snd T k c) : Snd T k (.chain o o' a b c) := by
  have main : ∀ {C : CC} {W : WX} {X : Cx} {ex : Expr}, GX T k C W X → (match ex with
    | .Compare y [op, op'] [z, u] _ => decide (op = cmpOf o) && (decide (op' = cmpOf o') && (!(lastMarks [op, op'] [z, u]) && ((ck T a).e C y && ((ck T b).e C z && (ck T c).e C u))))
    | _ => false) = true → ∃ t : TE, PE X ex t ∧ PT X ex (tTest t) ∧ ∀ env G' F σ H (P : Da → Env → Prop) (Q : VK), Rel X.K env σ H G' F →
      Pst T X.K W G' F σ ((ev T (callF T k) (.chain o o' a b c)).e env) P →
      (∀ d env2 H2 G2, Same G' G2 → Rel X.K env2 σ H2 G2 F → P (.bool d) env2 → Q (.bl d) H2) → t σ H Q := by
    intro C W X ex G h
    split at h
    · rename_i y op op' z u' pos
      obtain ⟨h1, h⟩ := and2 h
      obtain ⟨h2, h⟩ := and2 h
      obtain ⟨h3, h⟩ := and2 h
      obtain ⟨h4, h⟩ := and2 h
      obtain ⟨h5, h6⟩ := and2 h
      obtain rfl := of_decide_eq_true h1
      obtain rfl := of_decide_eq_true h2
      have hm : lastMarks [cmpOf o, cmpOf o'] [z, u'] = false := by simpa using h3
      refine ⟨_, pe_chain (op_cmpA G.un o) (op_cmpA G.un o') (s.e G h4) (t.e G h5) (u.e G h6) hm, pt_chain (op_cmpA G.un o) (op_cmpA G.un o') (s.e G h4) (t.e G h5) (u.e G h6) hm, fun env G' F σ H P Q r p q => ?_⟩
      have p' : Pst T X.K W G' F σ (((ev T (callF T k) a).e env).bnd fun x env1 => ((ev T (callF T k) b).e env1).bnd fun y env2 => optB (rr a env2 x) fun x' => optB (cmpD o x' y) fun k' => match k' with
        | true => ((ev T (callF T k) c).e env2).bnd fun z env3 => optB (rr b env3 y) fun y' => optB (cmpD o' y' z) fun d => .ok (.bool d, env3)
        | false => .ok (.bool false, env2)) P := p
      refine tE_of r (p'.bnd.imp (Same.refl _) fun x env1 hx p1 v H1 G1 g1 r1 s1 => ?_)
      refine tE_of r1 ((p1.mono g1).bnd.imp (Same.refl _) fun y env2 hy p2 w H2 G2 g2 r2 s2 => ?_)
      obtain ⟨x', hx', p3⟩ := p2.opt
      obtain ⟨k', hk, p4⟩ := p3.opt
      refine ⟨G2, x', y, k', r2.gs, r2.operand (s1.mono g2) hx', r2.operand s2 (rr_self hy), hk, k', rfl, ?_⟩
      cases k' with
      | true =>
        simp only [if_true]
        refine tE_of r2 ((p4.mono g2).bnd.imp (Same.refl _) fun z env3 hz p5 w' H3 G3 g3 r3 s3 => ?_)
        obtain ⟨y', hy', p6⟩ := p5.opt
        obtain ⟨d, hd, p7⟩ := p6.opt
        exact ⟨G3, y', z, d, r3.gs, r3.operand (s2.mono g3) hy', r3.operand s3 (rr_self hz), hd, q d env3 H3 G3 ((g1.trans g2).trans g3) r3 p7.ok⟩
      | false =>
        simp only [Bool.false_eq_true, if_false]
        exact q false env2 H2 G2 (g1.trans g2) r2 p4.ok
    · exact absurd h Bool.false_ne_true
  refine Snd.ofC rfl rfl rfl rfl (fun {C W X} G ex h => ?_) (fun {C W X} G ex h => ?_)
  · obtain ⟨t, h1, h2, h3⟩ := main G h
    refine h1.imp fun σ H Q hq => ?_
    obtain ⟨env, G', F, r, p⟩ := hq
    exact h3 env G' F σ H _ Q r p fun d env2 H2 G2 g2 r2 q => fin_sc (e := .chain o o' a b c) r2 (fun v H' G'' g => q v H' G'' (g2.trans g)) (by simp only [Rep])
  · obtain ⟨t, h1, h2, h3⟩ := main G h
    refine h2.imp fun σ H Q hq => ?_
    obtain ⟨env, G', F, r, p⟩ := hq
    exact h3 env G' F σ H _ _ r p.bnd fun d env2 H2 G2 g2 r2 q => ⟨d, rfl, bl_post (T := T) (W := W) r2 (q.imp g2 fun _ _ _ h H' G'' g => h H' G'' (g2.trans g))⟩
theorem n_isC (n : Bool) {a : E} (d : Da) (s : Snd T k a) : Snd T k (.isC n a d) := by
  have main : ∀ {C : CC} {W : WX} {X : Cx} {ex : Expr}, GX T k C W X → (match ex with
    | .Compare y [op] [.Constant c _ _] _ => decide (op = if n then .IsNot else .Is) && (constB c d && (isCd d && (ck T a).e C y))
    | _ => false) = true → ∃ t : TE, PE X ex t ∧ PT X ex (tTest t) ∧ ∀ env G' F σ H (P : Da → Env → Prop) (Q : VK), Rel X.K env σ H G' F →
      Pst T X.K W G' F σ ((ev T (callF T k) (.isC n a d)).e env) P →
      (∀ d env2 H2 G2, Same G' G2 → Rel X.K env2 σ H2 G2 F → P (.bool d) env2 → Q (.bl d) H2) → t σ H Q := by
    intro C W X ex G h
    split at h
    · rename_i y op c j p1 p2
      obtain ⟨h1, h⟩ := and2 h
      obtain ⟨h2, h⟩ := and2 h
      obtain ⟨h9, h3⟩ := and2 h
      obtain rfl := of_decide_eq_true h1
      cases c with
      | none =>
        cases d with
        | none =>
          cases n with
          | true =>
            refine ⟨_, pe_cmpR op_notN (s.e G h3) pe_non (nomark _), pt_cmpR op_notN (s.e G h3) pe_non (nomark _), fun env G' F σ H P Q r p q => ?_⟩
            have p' : Pst T X.K W G' F σ (((ev T (callF T k) a).e env).bnd fun x env1 => isC true .none x env1) P := p
            refine tE_of r (p'.bnd.imp (Same.refl _) fun x env1 hx p1 v H1 G1 g1 r1 s1 => ?_)
            refine ⟨rfl, ?_⟩
            have o := r1.operand s1 (rr_self hx)
            have e : (!decide (v = .non)) = (true != isNoneD x) := by
              cases x <;> simp only [RepO, Rep] at o
              case none => subst o; rfl
              case list => obtain ⟨_, _, rfl, _⟩ := o; rfl
              case tuple => obtain ⟨_, _, rfl, _⟩ := o; rfl
              all_goals first | (subst o; rfl) | exact o.elim
            rw [e]
            exact q _ env1 H1 G1 g1 r1 p1
          | false =>
            refine ⟨_, pe_cmpR op_isN (s.e G h3) pe_non (nomark _), pt_cmpR op_isN (s.e G h3) pe_non (nomark _), fun env G' F σ H P Q r p q => ?_⟩
            have p' : Pst T X.K W G' F σ (((ev T (callF T k) a).e env).bnd fun x env1 => isC false .none x env1) P := p
            refine tE_of r (p'.bnd.imp (Same.refl _) fun x env1 hx p1 v H1 G1 g1 r1 s1 => ?_)
            refine ⟨rfl, ?_⟩
            have o := r1.operand s1 (rr_self hx)
            have e : (decide (v = .non)) = (false != isNoneD x) := by
              cases x <;> simp only [RepO, Rep] at o
              case none => subst o; rfl
              case list => obtain ⟨_, _, rfl, _⟩ := o; rfl
              case tuple => obtain ⟨_, _, rfl, _⟩ := o; rfl
              all_goals first | (subst o; rfl) | exact o.elim
            rw [e]
            exact q _ env1 H1 G1 g1 r1 p1
        | _ => exact absurd h2 Bool.false_ne_true
      | bool kc =>
        cases d with
        | bool kd =>
          obtain rfl := of_decide_eq_true h2
          cases n with
          | true =>
            refine ⟨_, pe_cmpR op_notBl (s.e G h3) pe_bl (nomark _), pt_cmpR op_notBl (s.e G h3) pe_bl (nomark _), fun env G' F σ H P Q r p q => ?_⟩
            have p' : Pst T X.K W G' F σ (((ev T (callF T k) a).e env).bnd fun x env1 => isC true (.bool kc) x env1) P := p
            refine tE_of r (p'.bnd.imp (Same.refl _) fun x env1 hx p1 v H1 G1 g1 r1 s1 => ?_)
            have o := r1.operand s1 (rr_self hx)
            cases x with
            | bool jx =>
              simp only [RepO, Rep] at o
              refine ⟨jx, kc, o, rfl, ?_⟩
              have e : (!decide (jx = kc)) = (true != decide (jx = kc)) := by cases decide (jx = kc) <;> rfl
              rw [e]
              exact q _ env1 H1 G1 g1 r1 p1
            | _ => exact p1.elim
          | false =>
            refine ⟨_, pe_cmpR op_isBl (s.e G h3) pe_bl (nomark _), pt_cmpR op_isBl (s.e G h3) pe_bl (nomark _), fun env G' F σ H P Q r p q => ?_⟩
            have p' : Pst T X.K W G' F σ (((ev T (callF T k) a).e env).bnd fun x env1 => isC false (.bool kc) x env1) P := p
            refine tE_of r (p'.bnd.imp (Same.refl _) fun x env1 hx p1 v H1 G1 g1 r1 s1 => ?_)
            have o := r1.operand s1 (rr_self hx)
            cases x with
            | bool jx =>
              simp only [RepO, Rep] at o
              refine ⟨jx, kc, o, rfl, ?_⟩
              have e : decide (jx = kc) = (false != decide (jx = kc)) := by cases decide (jx = kc) <;> rfl
              rw [e]
              exact q _ env1 H1 G1 g1 r1 p1
            | _ => exact p1.elim
        | _ => exact absurd h2 Bool.false_ne_true
      | _ => cases d <;> first | exact absurd h2 Bool.false_ne_true | exact absurd h9 Bool.false_ne_true
    · exact absurd h Bool.false_ne_true
  refine Snd.ofC rfl rfl rfl rfl (fun {C W X} G ex h => ?_) (fun {C W X} G ex h => ?_)
  · obtain ⟨t, h1, h2, h3⟩ := main G h
    refine h1.imp fun σ H Q hq => ?_
    obtain ⟨env, G', F, r, p⟩ := hq
    exact h3 env G' F σ H _ Q r p fun d' env2 H2 G2 g2 r2 q => fin_sc (e := .isC n a d) r2 (fun v H' G'' g => q v H' G'' (g2.trans g)) (by simp only [Rep])
  · obtain ⟨t, h1, h2, h3⟩ := main G h
    refine h2.imp fun σ H Q hq => ?_
    obtain ⟨env, G', F, r, p⟩ := hq
    exact h3 env G' F σ H _ _ r p.bnd fun d env2 H2 G2 g2 r2 q => ⟨d, rfl, bl_post (T := T) (W := W) r2 (q.imp g2 fun _ _ _ h H' G'' g => h H' G'' (g2.trans g))⟩
/-! ### built-ins -/
theorem blt_ok {C : CC} {W : WX} {X : Cx} (G : GX T k C W X) {x : Str} {v : Value} (h : (x, v) ∈ bltNames) : X.mg x = none := G.tab.blt _ h
theorem n_b1 (b : B1) {a : E} (s : Snd T k a) : Snd T k (.b1 b a) := by
  refine Snd.ofE rfl rfl rfl rfl fun {C W X} G ex h => ?_
  split at h
  · rename_i x p1 y p2
    obtain ⟨hc, h⟩ := and2 h
    obtain ⟨h1, h⟩ := and2 h
    obtain ⟨h2, h⟩ := and2 h
    obtain ⟨h3, h4⟩ := and2 h
    obtain rfl := of_decide_eq_true h2
    obtain ⟨g1, g2, g3⟩ := glo_ok G h1
    have main : PE X (.Call (.Name (b1Name b) p1) [y] [] p2) (tCB (rB1 X.K (b1D b)) (tCons (tE T (callF T k) X.K W a) tNil)) := by
      have pa := pa_cons (s.e G h4) pa_nil (star_of (env := X.env) h3)
      have hcall := call_b1 (X := X) (G.calm hc) b
      have hst : starEach [y] X.env = (false, eval y X.env) :: starEach [] X.env := star_of h3
      cases b
      case len => exact pe_callB hcall g1 (G.tab.blt ("len", .builtin "len") (by decide +kernel)) (by decide +kernel) pa (hdb := g2) (he := hst)
      case abs => exact pe_callB hcall g1 (G.tab.blt ("abs", .builtin "abs") (by decide +kernel)) (by decide +kernel) pa (hdb := g2) (he := hst)
      case int => exact pe_callTy hcall g1 (G.tab.blt ("int", .type "int") (by decide +kernel)) (by decide +kernel) pa (hdb := g2) (he := hst)
      case str => exact pe_callTy hcall g1 (G.tab.blt ("str", .type "str") (by decide +kernel)) (by decide +kernel) pa (hdb := g2) (he := hst)
      case list => exact pe_callTy hcall g1 (G.tab.blt ("list", .type "list") (by decide +kernel)) (by decide +kernel) pa (hdb := g2) (he := hst)
      case tuple => exact pe_callTy hcall g1 (G.tab.blt ("tuple", .type "tuple") (by decide +kernel)) (by decide +kernel) pa (hdb := g2) (he := hst)
      case sum => exact pe_callB hcall g1 (G.tab.blt ("sum", .builtin "sum") (by decide +kernel)) (by decide +kernel) pa (hdb := g2) (he := hst)
      case max => exact pe_callB hcall g1 (G.tab.blt ("max", .builtin "max") (by decide +kernel)) (by decide +kernel) pa (hdb := g2) (he := hst)
      case min => exact pe_callB hcall g1 (G.tab.blt ("min", .builtin "min") (by decide +kernel)) (by decide +kernel) pa (hdb := g2) (he := hst)
      case any => exact pe_callB hcall g1 (G.tab.blt ("any", .builtin "any") (by decide +kernel)) (by decide +kernel) pa (hdb := g2) (he := hst)
      case all => exact pe_callB hcall g1 (G.tab.blt ("all", .builtin "all") (by decide +kernel)) (by decide +kernel) pa (hdb := g2) (he := hst)
      case sorted => exact pe_callB hcall g1 (G.tab.blt ("sorted", .builtin "sorted") (by decide +kernel)) (by decide +kernel) pa (hdb := g2) (he := hst)
      case repr => exact pe_callB hcall g1 (G.tab.blt ("repr", .builtin "repr") (by decide +kernel)) (by decide +kernel) pa (hdb := g2) (he := hst)
    refine main.imp fun σ H Q hq => ?_
    obtain ⟨env, G', F, r, p⟩ := hq
    refine tE_of r (p.bnd.imp (Same.refl _) fun x env1 hx p1 v H1 G1 g1 r1 s1 => ?_)
    obtain ⟨d, hd, p2⟩ := p1.opt
    exact ⟨G1, v, x, d, rfl, r1.gs, r1.operand s1 (rr_self hx), hd, fin_res (e := .b1 b a) r1 fun v H' G'' g => p2.ok v H' G'' (g1.trans g)⟩
  · exact absurd h Bool.false_ne_true
theorem n_b2 (b : B2) {a c : E} (s : Snd T k a) (t : Snd T k c) : Snd T k (.b2 b a c) := by
  refine Snd.ofE rfl rfl rfl rfl fun {C W X} G ex h => ?_
  split at h
  · rename_i x p1 y z p2
    obtain ⟨hc, h⟩ := and2 h
    obtain ⟨h1, h⟩ := and2 h
    obtain ⟨h2, h⟩ := and2 h
    obtain ⟨h3, h⟩ := and2 h
    obtain ⟨h4, h⟩ := and2 h
    obtain ⟨h5, h6⟩ := and2 h
    obtain rfl := of_decide_eq_true h2
    obtain ⟨g1, g2, g3⟩ := glo_ok G h1
    have main : PE X (.Call (.Name (b2Name b) p1) [y, z] [] p2) (tCB (rB2 X.K (b2D b)) (tCons (tE T (callF T k) X.K W a) (tCons (tE T (callF T k) X.K W c) tNil))) := by
      have hst : starEach [y, z] X.env = (false, eval y X.env) :: starEach [z] X.env := star_of h3
      have pa := pa_cons (s.e G h5) (pa_cons (t.e G h6) pa_nil (star_of (env := X.env) h4)) hst
      have hcall := call_b2 (X := X) (G.calm hc) b
      have hpl := stars_of (env := X.env) (es := [z]) (by simp [h4]) p2
      cases b
      case max => exact pe_callB hcall g1 (G.tab.blt ("max", .builtin "max") (by decide +kernel)) (by decide +kernel) pa (hdb := g2) (he := hst) (hpl := hpl)
      case min => exact pe_callB hcall g1 (G.tab.blt ("min", .builtin "min") (by decide +kernel)) (by decide +kernel) pa (hdb := g2) (he := hst) (hpl := hpl)
    refine main.imp fun σ H Q hq => ?_
    obtain ⟨env, G', F, r, p⟩ := hq
    refine two_of r p fun x y env2 v u H2 G2 g2 r2 ox oy p2 => ?_
    obtain ⟨d, hd, p3⟩ := p2.opt
    exact ⟨G2, v, u, x, y, d, rfl, r2.gs, ox, oy, hd, fin_res (e := .b2 b a c) r2 fun v H' G'' g => p3.ok v H' G'' (g2.trans g)⟩
  · exact absurd h Bool.false_ne_true
theorem n_isi {a : E} (ty : Ty) (s : Snd T k a) : Snd T k (.isi a ty) := by
  refine Snd.ofE rfl rfl rfl rfl fun {C W X} G ex h => ?_
  split at h
  · rename_i x p1 y z p2 p3
    obtain ⟨h1, h⟩ := and2 h
    obtain ⟨h2, h⟩ := and2 h
    obtain ⟨h3, h⟩ := and2 h
    obtain ⟨h4, h⟩ := and2 h
    obtain ⟨h5, h6⟩ := and2 h
    obtain rfl := of_decide_eq_true h3
    obtain rfl := of_decide_eq_true h4
    obtain ⟨g1, g2, g3⟩ := glo_ok G h1
    obtain ⟨e1, e2, e3⟩ := glo_ok G h2
    have hst : starEach [y, .Name (Str.ofString (tyName ty)) p2] X.env = (false, eval y X.env) :: starEach [.Name (Str.ofString (tyName ty)) p2] X.env := star_of h5
    have pty : PE X (.Name (Str.ofString (tyName ty)) p2) (tC (.ty (tyName ty))) := by
      cases ty
      case int => exact pe_bltn e1 (G.tab.blt ("int", .type "int") (by decide +kernel)) (by decide +kernel) rfl
      case bool => exact pe_bltn e1 (G.tab.blt ("bool", .type "bool") (by decide +kernel)) (by decide +kernel) rfl
      case str => exact pe_bltn e1 (G.tab.blt ("str", .type "str") (by decide +kernel)) (by decide +kernel) rfl
      case tuple => exact pe_bltn e1 (G.tab.blt ("tuple", .type "tuple") (by decide +kernel)) (by decide +kernel) rfl
      case list => exact pe_bltn e1 (G.tab.blt ("list", .type "list") (by decide +kernel)) (by decide +kernel) rfl
    have main := pe_callB (call_isiD (X := X) ty) g1 (G.tab.blt ("isinstance", .builtin "isinstance") (by decide +kernel)) (by decide +kernel) (pa_cons (s.e G h6) (pa_cons pty pa_nil) hst) (pos := p3) (p := p1) (hdb := g2) (he := hst)
    refine main.imp fun σ H Q hq => ?_
    obtain ⟨env, G', F, r, p⟩ := hq
    refine tE_of r (p.bnd.imp (Same.refl _) fun x env1 hx p1 v H1 G1 g1 r1 s1 => ?_)
    obtain ⟨hk, p2⟩ := p1.ite
    exact ⟨G1, v, x, rfl, r1.gs, r1.operand s1 (rr_self hx), hk, fin_sc (e := .isi a ty) r1 (fun v H' G'' g => p2.ok v H' G'' (g1.trans g)) (by simp only [Rep])⟩
  · exact absurd h Bool.false_ne_true
end
end PI
end
section
set_option Elab.async false
set_option linter.all false
set_option maxRecDepth 100000
/-! PIj: methods, and, or, not, if, subscripts, slices. -/
namespace PI
open PySem PySem.Spec PyProof.Rows L2
section
variable {T : Tab} {k : Nat} {W : WX}
theorem few_of {z : Expr} {env : PySem.Env} {pos : Pos} (h : notStar z = true) : ((backTo pos (starEach [z] env)).all (fun x => !x.1) && (backToKw pos (keywordEach [] env)).all (fun x => x.1.isSome)
      && decide (([z] : List Expr).length + ([] : List Keyword).length + (if ([] : List Keyword).isEmpty then 0 else 1) < 30)) = true := by
  rw [star_of h]; rfl
theorem findIdx_spec {ds : List Da} {p : Da → Bool} {j : Nat} (h : ds.findIdx? p = some j) : ∃ z, ds[j]? = some z ∧ p z = true ∧ ∀ (m : Nat) z', m < j → ds[m]? = some z' → p z' = false := by
  obtain ⟨hj, h1, h2⟩ := List.findIdx?_eq_some_iff_getElem.mp h
  refine ⟨ds[j], List.getElem?_eq_getElem hj, h1, fun m z' hm hz => ?_⟩
  have := h2 m hm
  obtain ⟨hm', e⟩ := List.getElem?_eq_some_iff.mp hz
  rw [e] at this
  simpa using this
/-- the value-level rules of the methods -/
def rM1 (K : PySem.W.Frag) (m : M1) : V → List V → Hp → VK → Prop := fun x vs H Q => ∃ G dx y dy d, vs = [y] ∧ Same G H ∧ RepO K G H dx x ∧ RepO K G H dy y ∧ m1D m dx dy = some d ∧ Res K G H d Q
theorem strs_res {K : PySem.W.Frag} {G H : Hp} {ys : List Str} {Q : VK} (g : Same G H) (q : Res K G H (.list (ys.map PyData.str)) Q) : rNewStrs ys H Q := fun p hp => q.newL g (RepL.ofStrs ys) hp
theorem n_m1 (m : M1) {o a : E} (s : Snd T k o) (t : Snd T k a) : Snd T k (.m1 m o a) := by
  refine Snd.ofE rfl rfl rfl rfl fun {C W X} G ex h => ?_
  split at h
  · rename_i y nm ap z p
    obtain ⟨hc, h⟩ := and2 h
    obtain ⟨h1, h⟩ := and2 h
    obtain ⟨h2, h⟩ := and2 h
    obtain ⟨h3, h⟩ := and2 h
    obtain ⟨h4, h⟩ := and2 h
    obtain ⟨h5, h6⟩ := and2 h
    obtain rfl := of_decide_eq_true h1
    have hst : starEach [z] X.env = [(false, eval z X.env)] := star_of h4
    have hbase := fun nm => base_of (env := X.env) h3 nm
    -- the receiver is read and looked at, then the argument
    have key : ∀ (R' : V → V → Hp → Prop) {σ H Q}, tE T (callF T k) X.K W (.m1 m o a) σ H Q →
        (∀ x y d v u G2 H2, Same G2 H2 → RepO X.K G2 H2 x v → RepO X.K G2 H2 y u → m1D m x y = some d → Res X.K G2 H2 d Q → R' v u H2) →
        ∀ (Pr : V → Hp → Prop), (∀ x v G1 H1, Same G1 H1 → recv m x = true → RepO X.K G1 H1 x v → Pr v H1) → tE T (callF T k) X.K W o σ H fun v H1 => Pr v H1 ∧ tE T (callF T k) X.K W a σ H1 fun u H2 => R' v u H2 := by
      intro R' σ H Q hq hR Pr hPr
      obtain ⟨env, G', F, r, q⟩ := hq
      have q' : Pst T X.K W G' F σ (((ev T (callF T k) o).e env).bnd fun x env1 => iteB (recv m x) (((ev T (callF T k) a).e env1).bnd fun y env2 => optB (rr o env2 x) fun x' => optB (m1D m x' y) fun d => .ok (d, env2))) fun d env' => ∀ v H' G'', Same G' G'' → Rel X.K env' σ H' G'' F → RepE T X.K G'' H' F env' σ (.m1 m o a) d v → Q v H' := q
      refine tE_of r (q'.bnd.imp (Same.refl _) fun x env1 hx p1 v H1 G1 g1 r1 s1 => ?_)
      obtain ⟨hr, p1⟩ := p1.ite
      refine ⟨hPr x v G1 H1 r1.gs hr (r1.operand s1 (rr_self hx)), ?_⟩
      refine tE_of r1 ((p1.mono g1).bnd.imp (Same.refl _) fun y env2 hy p2 u H2 G2 g2 r2 s2 => ?_)
      obtain ⟨x', hx', p3⟩ := p2.opt
      obtain ⟨d, hd, p4⟩ := p3.opt
      exact hR x' y d v u G2 H2 r2.gs (r2.operand (s1.mono g2) hx') (r2.operand s2 (rr_self hy)) hd (fin_res (e := .m1 m o a) r2 fun v H' G'' g => p4.ok v H' G'' ((g1.trans g2).trans g))
    have str1 : ∀ x v (G1 H1 : Hp), recv m x = true → m ≠ .index → RepO X.K G1 H1 x v → ∃ a, v = .str a := by
      intro x v G1 H1 hr hm o
      cases x with
      | str z => exact ⟨z, o⟩
      | _ => cases m <;> first | exact absurd hr Bool.false_ne_true | exact absurd rfl hm
    cases m with
    | split =>
      refine (pe_split (s.e G h5) (t.e G h6) hst (hbase _) h2).imp fun σ H Q hq => ?_
      refine key _ hq ?_ (fun v _ => ∃ a, v = .str a) fun x v G1 H1 _ hr ox => str1 x v G1 H1 hr (by decide) ox
      intro x y d v u G2 H2 g ox oy hd q
      cases x with
      | str a =>
        cases y with
        | str b =>
          simp only [m1D] at hd
          split at hd
          · rename_i hcnd
            simp only [Option.some.injEq] at hd
            subst hd
            simp only [RepO, Rep] at ox oy
            exact ⟨a, b, ox, by rw [oy], hcnd.1, hcnd.2, strs_res g q⟩
          · cases hd
        | _ => simp [m1D] at hd
      | _ => simp [m1D] at hd
    | join =>
      refine (pe_join (s.e G h5) (t.e G h6) hst (hbase _) h2).imp fun σ H Q hq => ?_
      refine key _ hq ?_ (fun v _ => ∃ a, v = .str a) fun x v G1 H1 _ hr ox => str1 x v G1 H1 hr (by decide) ox
      intro x y d v u G2 H2 g ox oy hd q
      cases x with
      | str a =>
        cases y with
        | list ds =>
          simp only [m1D] at hd
          cases hs : strsD ds with
          | none => rw [hs] at hd; simp at hd
          | some ys =>
            rw [hs] at hd
            simp only at hd
            split at hd
            · simp only [Option.some.injEq] at hd
              subst hd
              simp only [RepO, Rep] at ox
              obtain ⟨b, xs, rfl, e1, l⟩ := oy
              have ex := l.strs hs
              exact ⟨a, b, ys, ox, rfl, .inl (by rw [← ex]; exact SqL.of e1), by assumption, q.here g rfl⟩
            · cases hd
        | _ => simp [m1D] at hd
      | _ => cases y <;> simp [m1D] at hd
    | startswith =>
      refine (pe_m1 (name := "startswith") F.slot_str_startswith F.type_str_startswith mt_startswith (s.e G h5) (t.e G h6) hst (hbase _) h2).imp fun σ H Q hq => ?_
      refine key _ hq ?_ (fun v _ => ∃ a, v = .str a) fun x v G1 H1 _ hr ox => str1 x v G1 H1 hr (by decide) ox
      intro x y d v u G2 H2 g ox oy hd q
      cases x with
      | str a =>
        cases y with
        | str b =>
          simp only [m1D, Option.some.injEq] at hd
          subst hd
          simp only [RepO, Rep] at ox oy
          exact ⟨a, b, ox, by rw [oy], q.here g rfl⟩
        | _ => simp [m1D] at hd
      | _ => simp [m1D] at hd
    | partition =>
      refine (pe_partition (s.e G h5) (t.e G h6) hst (hbase _) h2).imp fun σ H Q hq => ?_
      refine key _ hq ?_ (fun v _ => ∃ a, v = .str a) fun x v G1 H1 _ hr ox => str1 x v G1 H1 hr (by decide) ox
      intro x y d v u G2 H2 g ox oy hd q
      cases x with
      | str a =>
        cases y with
        | str b =>
          simp only [m1D] at hd
          split at hd
          · rename_i hcnd
            simp only [Option.some.injEq] at hd
            subst hd
            simp only [RepO, Rep] at ox oy
            refine ⟨a, b, ox, by rw [oy], hcnd.1, hcnd.2, fun p hp => q.newT g (RepL.cons ?_ (RepL.cons ?_ (RepL.cons ?_ RepL.nil))) hp⟩ <;> simp only [Rep]
          · cases hd
        | _ => simp [m1D] at hd
      | _ => simp [m1D] at hd
    | index =>
      refine (pe_bm (name := "index") F.plainAttrs_list F.slot_list_index F.type_list_index (mt_indexD G.un) (s.e G h5) (pa_cons (t.e G h6) pa_nil hst) (hbase _) (few_of h4) h2 hst).imp fun σ H Q hq => ?_
      refine key _ hq ?_ (fun v H1 => tyV X.K "list" v H1) fun x v G1 H1 g hr ox => ?_
      · intro x y d v u G2 H2 g ox oy hd q
        cases x with
        | list ds =>
          simp only [m1D] at hd
          split at hd
          · rename_i hf
            rw [Bool.and_eq_true] at hf
            cases hj : ds.findIdx? (fun z => PyData.eqv z y) with
            | none => rw [hj] at hd; simp at hd
            | some j =>
              rw [hj] at hd
              simp only [Option.some.injEq] at hd
              subst hd
              obtain ⟨z, e1, e2, e3⟩ := findIdx_spec hj
              have dp := ox.dp g
              obtain ⟨b, xs, rfl, _, _⟩ := ox
              exact ⟨b, u, y, ds, j, z, rfl, rfl, dp, oy.dp g, hf.1, hf.2, e1, e2, e3, q.here g rfl⟩
          · cases hd
        | _ => simp [m1D] at hd
      · cases x with
        | list ds =>
          obtain ⟨b, xs, rfl, e1, _⟩ := ox
          exact .inl ⟨rfl, xs, SqL.of e1⟩
        | _ => exact absurd hr Bool.false_ne_true
  · exact absurd h Bool.false_ne_true
/-! ### methods that change an own list -/
/-- an own list is written -/
theorem Rel.put {K : PySem.W.Frag} {env : Env} {σ : L2.St} {H G F : Hp} (r : Rel K env σ H G F) {i m : Nat} {d : Da} {a : Addr} {ds : List Da} {xs : List V} (he : env[i]? = some (.own m d)) (ha : σ[i]? = some (some (.ref a))) (l : RepL K G ds xs) :
    Rel K (env.set i (.own m (.list ds))) σ (upd H a (.lst xs)) G F := by
  obtain ⟨a', h1, h2, h3, h4⟩ := r.own i m d he
  rw [ha] at h1
  cases h1
  have hi : i < env.length := (List.getElem?_eq_some_iff.mp he).1
  have key : ∀ (j : Nat) s, (env.set i (.own m (.list ds)))[j]? = some s → (j = i ∧ s = .own m (.list ds)) ∨ (j ≠ i ∧ env[j]? = some s) := fun j s e => by
    by_cases hj : i = j
    · subst hj; rw [List.getElem?_set_self hi] at e; cases e; exact .inl ⟨rfl, rfl⟩
    · rw [List.getElem?_set_ne hj] at e; exact .inr ⟨fun z => hj z.symm, e⟩
  have nG : ∀ b o, G b = some o → b ≠ a := fun b o e z => by rw [z, h2] at e; cases e
  refine ⟨fun b o e => by rw [upd_ne (nG b o e)]; exact r.gs b o e, fun b o e => ?_, r.fg, by rw [List.length_set]; exact r.len, fun j d e => ?_, fun j m' d' e => ?_, fun j ns e => ?_, fun j j' m' n d' e a' q1 q2 z1 z2 => ?_⟩
  · have : b ≠ a := fun z => by rw [z, h3] at e; cases e
    rw [upd_ne this]; exact r.fs b o e
  · rcases key j _ e with ⟨_, z⟩ | ⟨_, e⟩
    · cases z
    · exact r.val j d e
  · rcases key j _ e with ⟨rfl, z⟩ | ⟨hj, e⟩
    · cases z
      exact ⟨a, ha, h2, h3, xs, upd_same, l⟩
    · obtain ⟨b, e1, e2, e3, e4⟩ := r.own j m' d' e
      have : b ≠ a := fun z => by
        subst z
        exact hj (r.dj j i m' m d' d b e he e1 ha)
      refine ⟨b, e1, e2, e3, ?_⟩
      cases d' with
      | list ds' => obtain ⟨ys, q1, q2⟩ := e4; exact ⟨ys, by rw [upd_ne this]; exact q1, q2⟩
      | _ => exact e4.elim
  · rcases key j _ e with ⟨_, z⟩ | ⟨_, e⟩
    · cases z
    · exact r.scr j ns e
  · rcases key j _ q1 with ⟨rfl, z⟩ | ⟨hj, p1⟩
    · cases z
      rcases key j' _ q2 with ⟨rfl, z⟩ | ⟨hj', q2⟩
      · rfl
      · exact r.dj j j' m n d e a' he q2 z1 z2
    · rcases key j' _ q2 with ⟨rfl, z⟩ | ⟨hj', q2⟩
      · cases z
        exact r.dj _ _ m' m d' d a' p1 he z1 z2
      · exact r.dj j j' m' n d' e a' p1 q2 z1 z2
theorem own_of {α : Type} {K : PySem.W.Frag} {G F : Hp} {σ : L2.St} {env : Env} {i : Nat} {f : Nat → List Da → R Env (α × Env)} {P : α → Env → Prop} (h : Pst T K W G F σ (ownB env i f) P) :
    ∃ m xs, env[i]? = some (.own m (.list xs)) ∧ m ≤ 1 ∧ Pst T K W G F σ (f m xs) P := by
  unfold ownB at h
  cases he : env[i]? with
  | none => rw [he] at h; exact h.elim
  | some s =>
    rw [he] at h
    cases s with
    | own m d =>
      cases d with
      | list xs =>
        by_cases hm : m ≤ 1
        · simp only [hm, if_true] at h
          exact ⟨m, xs, rfl, hm, h⟩
        · simp only [hm, if_false] at h
          exact h.elim
      | _ => exact h.elim
    | _ => exact h.elim
theorem n_mm (m : MM) (i : Nat) {a : E} (s : Snd T k a) : Snd T k (.mm m i a) := by
  refine Snd.ofE rfl rfl rfl rfl fun {C W X} G ex h => ?_
  split at h
  · rename_i x p1 nm ap zs p
    obtain ⟨h1, h⟩ := and2 h
    obtain ⟨h2, h⟩ := and2 h
    obtain ⟨h3, h⟩ := and2 h
    obtain ⟨h4, h5⟩ := and2 h
    obtain rfl := of_decide_eq_true h1
    have hsl := pe_slot G h3 (p := p1)
    -- the list, the argument, the change
    have key : ∀ {σ H Q}, tE T (callF T k) X.K W (.mm m i a) σ H Q → ∃ v, σ[i]? = some (some v) ∧ tyV X.K "list" v H ∧
        tM T X.K W (isNilE a) (ev T (callF T k) a).m σ H fun vs H2 => ∃ b xs ds dy d ys G2, v = .ref b ∧ Same G2 H2 ∧ H2 b = some (.lst xs) ∧ G2 b = none ∧ RepL X.K G2 ds xs ∧ (isNilE a = false → ∃ w, vs = [w] ∧ Rep X.K G2 dy w) ∧ mmD m ds dy = some (d, ys) ∧
          ∀ v' zs', Rep X.K G2 d v' → RepL X.K G2 ys zs' → Q v' (upd H2 b (.lst zs')) := by
      intro σ H Q hq
      obtain ⟨env, G', F, r, q⟩ := hq
      have q' : Pst T X.K W G' F σ (iteB (ownL env i) (((ev T (callF T k) a).m env).bnd fun y env1 => ownB env1 i fun k xs => optB (mmD m xs y) fun p => .ok (p.1, env1.set i (.own k (.list p.2))))) fun d env' => ∀ v H' G'', Same G' G'' → Rel X.K env' σ H' G'' F → RepE T X.K G'' H' F env' σ (.mm m i a) d v → Q v H' := q
      obtain ⟨hL, q1⟩ := q'.ite
      have hown : ∃ b xs, σ[i]? = some (some (.ref b)) ∧ H b = some (.lst xs) := by
        unfold ownL at hL
        cases he : env[i]? with
        | none => rw [he] at hL; simp at hL
        | some s =>
          rw [he] at hL
          cases s with
          | own n d =>
            cases d with
            | list ds =>
              obtain ⟨b, e1, _, _, xs, e2, _⟩ := r.own i n _ he
              exact ⟨b, xs, e1, e2⟩
            | _ => simp at hL
          | _ => simp at hL
      obtain ⟨b, xs0, hb, hx0⟩ := hown
      refine ⟨.ref b, hb, .inl ⟨rfl, xs0, SqL.of hx0⟩, env, G', F, r, q1.bnd.imp (Same.refl _) fun dy env1 _ p2 vs H2 G2 g2 r2 hvs => ?_⟩
      obtain ⟨n, ds, he, hn, p3⟩ := own_of p2
      obtain ⟨⟨d, ys⟩, hd, p4⟩ := p3.opt
      obtain ⟨b', e1, e2, e3, xs, e4, e5⟩ := r2.own i n _ he
      rw [hb] at e1
      cases e1
      exact ⟨b, xs, ds, dy, d, ys, G2, rfl, r2.gs, e4, e2, e5, fun hn => by rw [hn] at hvs; exact hvs, hd, fun v' zs' hv' hz' => p4.ok v' _ G2 g2 (r2.put he hb hz') hv'⟩
    have ptm := s.m G h5
    have one : m ≠ .pop → ∃ z, zs = [z] ∧ notStar z = true ∧ isNilE a = false := by
      intro hm
      cases zs with
      | nil => simp [hm] at h4
      | cons z zs =>
        cases zs with
        | nil => exact ⟨z, rfl, by cases a <;> first | exact absurd h5 Bool.false_ne_true | exact (and2 h5).1, by cases a <;> first | exact absurd h5 Bool.false_ne_true | rfl⟩
        | cons _ _ => cases a <;> exact absurd h5 Bool.false_ne_true
    cases m with
    | pop =>
      have hz : zs = [] := by
        cases zs with
        | nil => rfl
        | cons _ _ => simp at h4
      subst hz
      refine (pe_bm0 (name := "pop") F.plainAttrs_list F.slot_list_pop F.type_list_pop mt_pop hsl rfl h2).imp fun σ H Q hq => ?_
      obtain ⟨v, hv, hty, env, G', F, r, q⟩ := key hq
      refine ⟨v, hv, hty, ?_⟩
      have ha : a = .nil := by
        cases a <;> first | rfl | exact absurd h5 Bool.false_ne_true
      subst ha
      obtain ⟨b, xs, ds, dy, d, ys, G2, rfl, g, e1, e2, e3, _, hd, q2⟩ := q.ok [] H G' (Same.refl _) r rfl
      simp only [mmD] at hd
      cases hl : ds[ds.length - 1]? with
      | none => rw [hl] at hd; simp at hd
      | some z =>
        rw [hl] at hd
        simp only [Option.some.injEq, Prod.mk.injEq] at hd
        obtain ⟨rfl, rfl⟩ := hd
        obtain ⟨y, f1, f2⟩ := e3.get hl
        exact ⟨b, xs, y, rfl, rfl, e1, by rw [e3.length]; exact f1, q2 y _ f2 e3.dropLast⟩
    | append =>
      obtain ⟨z, rfl, hz, hn⟩ := one (by decide)
      have hst : starEach [z] X.env = (false, eval z X.env) :: starEach [] X.env := star_of hz
      refine (pe_bm (name := "append") F.plainAttrs_list F.slot_list_append F.type_list_append mt_append hsl ptm rfl (few_of hz) h2 hst).imp fun σ H Q hq => ?_
      obtain ⟨v, hv, hty, env, G', F, r, q⟩ := key hq
      refine ⟨v, hv, hty, env, G', F, r, q.imp (Same.refl _) fun dy env1 _ q2 vs H2 G2 g2 r2 hvs => ?_⟩
      obtain ⟨b, xs, ds, dy', d, ys, G3, rfl, g, e1, e2, e3, hvs', hd, q3⟩ := q2 vs H2 G2 g2 r2 hvs
      obtain ⟨w, rfl, hw⟩ := hvs' hn
      simp only [mmD] at hd
      split at hd
      · simp only [Option.some.injEq, Prod.mk.injEq] at hd
        obtain ⟨rfl, rfl⟩ := hd
        exact ⟨b, xs, w, rfl, rfl, e1, by rw [e3.length]; assumption, q3 .non _ (by simp only [Rep]) (e3.append (RepL.cons hw RepL.nil))⟩
      · cases hd
    | extend =>
      obtain ⟨z, rfl, hz, hn⟩ := one (by decide)
      have hst : starEach [z] X.env = (false, eval z X.env) :: starEach [] X.env := star_of hz
      refine (pe_bm (name := "extend") F.plainAttrs_list F.slot_list_extend F.type_list_extend mt_extend hsl ptm rfl (few_of hz) h2 hst).imp fun σ H Q hq => ?_
      obtain ⟨v, hv, hty, env, G', F, r, q⟩ := key hq
      refine ⟨v, hv, hty, env, G', F, r, q.imp (Same.refl _) fun dy env1 _ q2 vs H2 G2 g2 r2 hvs => ?_⟩
      obtain ⟨b, xs, ds, dy', d, ys, G3, rfl, g, e1, e2, e3, hvs', hd, q3⟩ := q2 vs H2 G2 g2 r2 hvs
      obtain ⟨w, rfl, hw⟩ := hvs' hn
      simp only [mmD] at hd
      cases dy' with
      | list es =>
        simp only at hd
        split at hd
        · simp only [Option.some.injEq, Prod.mk.injEq] at hd
          obtain ⟨rfl, rfl⟩ := hd
          simp only [Rep] at hw
          obtain ⟨c, zs', rfl, f1, f2⟩ := hw
          exact ⟨b, c, xs, zs', rfl, rfl, e1, g _ _ f1, by rw [e3.length, f2.length]; assumption, q3 .non _ (by simp only [Rep]) (e3.append f2)⟩
        · cases hd
      | _ => simp at hd
    | popat =>
      obtain ⟨z, rfl, hz, hn⟩ := one (by decide)
      have hst : starEach [z] X.env = (false, eval z X.env) :: starEach [] X.env := star_of hz
      refine (pe_bm (name := "pop") F.plainAttrs_list F.slot_list_pop F.type_list_pop mt_popAt hsl ptm rfl (few_of hz) h2 hst).imp fun σ H Q hq => ?_
      obtain ⟨v, hv, hty, env, G', F, r, q⟩ := key hq
      refine ⟨v, hv, hty, env, G', F, r, q.imp (Same.refl _) fun dy env1 _ q2 vs H2 G2 g2 r2 hvs => ?_⟩
      obtain ⟨b, xs, ds, dy', d, ys, G3, rfl, g, e1, e2, e3, hvs', hd, q3⟩ := q2 vs H2 G2 g2 r2 hvs
      obtain ⟨w, rfl, hw⟩ := hvs' hn
      simp only [mmD] at hd
      cases dy' with
      | int j =>
        simp only at hd
        split at hd
        · rename_i hj
          cases hx : ixN ds.length j with
          | none => rw [hx] at hd; simp at hd
          | some n =>
            rw [hx] at hd
            simp only at hd
            cases hl : ds[n]? with
            | none => rw [hl] at hd; simp at hd
            | some z' =>
              rw [hl] at hd
              simp only [Option.some.injEq, Prod.mk.injEq] at hd
              obtain ⟨rfl, rfl⟩ := hd
              obtain ⟨y, f1, f2⟩ := e3.get hl
              simp only [Rep] at hw
              exact ⟨b, xs, j, n, y, rfl, by rw [hw], e1, hj.1, hj.2, by rw [e3.length]; exact (ixN_seq hx).1, f1, q3 y _ f2 (e3.eraseIdx n)⟩
        · cases hd
      | _ => simp at hd
  · exact absurd h Bool.false_ne_true
end
end PI
end
section
set_option Elab.async false
set_option linter.all false
set_option maxRecDepth 100000
/-! PIk: not, and, or, if, subscripts, slices. -/
namespace PI
open PySem PySem.Spec PyProof.Rows L2
section
variable {T : Tab} {k : Nat} {W : WX}
theorem n_nt {a : E} (s : Snd T k a) : Snd T k (.nt a) := by
  refine Snd.mk' (f := fun C ex => match ex with
    | .UnaryOp op y _ => decide (op = .Not) && (ck T a).e C y
    | _ => false) (g := fun C ex => match ex with
    | .UnaryOp op y _ => decide (op = .Not) && (ck T a).t C y
    | _ => false) (fe := fun env => ((ev T (callF T k) a).e env).bnd fun x env1 => optB (truD x) fun b => .ok (.bool (!b), env1))
    (ft := fun env => ((ev T (callF T k) a).t env).bnd fun b env1 => .ok (!b, env1)) rfl rfl rfl rfl rfl (fun {C W X} G ex h => ?_) (fun {C W X} G ex h => ?_)
  · split at h
    · rename_i op y p
      obtain ⟨h1, h2⟩ := and2 h
      obtain rfl := of_decide_eq_true h1
      refine (pe_notT (s.e G h2)).imp fun σ H Q hq => ?_
      obtain ⟨env, G', F, r, p⟩ := hq
      have p' : Pst T X.K W G' F σ (((ev T (callF T k) a).e env).bnd fun x env1 => optB (truD x) fun b => .ok (PyData.bool (!b), env1)) _ := p
      refine tE_of r (p'.bnd.imp (Same.refl _) fun x env1 hx p1 v H1 G1 g1 r1 s1 => ?_)
      obtain ⟨b, hb, p2⟩ := p1.opt
      exact ⟨b, truV_of r1.gs (r1.operand s1 (rr_self hx)) hb, fin_sc (e := .nt a) r1 (fun v H' G'' g => p2.ok v H' G'' (g1.trans g)) (by simp only [Rep])⟩
    · exact absurd h Bool.false_ne_true
  · split at h
    · rename_i op y p
      obtain ⟨h1, h2⟩ := and2 h
      obtain rfl := of_decide_eq_true h1
      refine (pt_not (s.t G h2)).imp fun σ H Q hq => ?_
      obtain ⟨env, G', F, r, p⟩ := hq
      exact ⟨env, G', F, r, p.bnd.imp (Same.refl _) fun b env1 _ p1 H1 G1 g1 r1 => p1.ok H1 G1 g1 r1⟩
    · exact absurd h Bool.false_ne_true
theorem pw_of {X : Cx} {op : BoolOp} {vs : List Expr} {p : Pos} {t : TT} (h : PT X (.BoolOp op vs p) t) : PW X (.BoolOp op vs p) t := ⟨fun whole pins s σ H Q I hq => h.run pins s σ H Q I hq⟩
/-- the rest of an and, of an or -/
theorem rest_e {op : BoolOp} {f g : CC → Expr → Bool} {C : CC} {ex : Expr} {t : TE} {X : Cx} (h : andB op f g C ex = true) (hb : ∀ {e}, g C e = true → PE X e t) :
    ∃ y z r p, ex = .BoolOp op (y :: z :: r) p ∧ f C y = true ∧ PE X (.BoolOp op (z :: r) p) t := by
  unfold andB at h
  split at h
  · rename_i op' y z r p
    obtain ⟨h1, h⟩ := and2 h
    obtain ⟨h2, h3⟩ := and2 h
    obtain rfl := of_decide_eq_true h1
    refine ⟨y, z, r, p, rfl, h2, ?_⟩
    cases r with
    | nil => exact pe_one (hb h3)
    | cons _ _ => exact hb h3
  · exact absurd h Bool.false_ne_true
theorem rest_t {op : BoolOp} {f g : CC → Expr → Bool} {C : CC} {ex : Expr} {t : TT} {X : Cx} (h : andB op f g C ex = true) (hb : ∀ {e}, g C e = true → PT X e t) (one : ∀ {z p}, PT X z t → PW X (.BoolOp op [z] p) t) :
    ∃ y z r p, ex = .BoolOp op (y :: z :: r) p ∧ f C y = true ∧ PW X (.BoolOp op (z :: r) p) t := by
  unfold andB at h
  split at h
  · rename_i op' y z r p
    obtain ⟨h1, h⟩ := and2 h
    obtain ⟨h2, h3⟩ := and2 h
    obtain rfl := of_decide_eq_true h1
    refine ⟨y, z, r, p, rfl, h2, ?_⟩
    cases r with
    | nil => exact one (hb h3)
    | cons _ _ => exact pw_of (hb h3)
  · exact absurd h Bool.false_ne_true
theorem n_and {a b : E} (s : Snd T k a) (t : Snd T k b) : Snd T k (.and a b) := by
  refine Snd.mk' (f := andB .And (ck T a).e (ck T b).e) (g := andB .And (ck T a).t (ck T b).t)
    (fe := fun env => ((ev T (callF T k) a).v env).bnd fun x env1 => optB (truD x) fun k' => match k' with
      | true => (ev T (callF T k) b).v env1
      | false => .ok (x, env1))
    (ft := fun env => ((ev T (callF T k) a).t env).bnd fun k' env1 => match k' with
      | true => (ev T (callF T k) b).t env1
      | false => .ok (false, env1)) rfl rfl rfl rfl rfl (fun {C W X} G ex h => ?_) (fun {C W X} G ex h => ?_)
  · obtain ⟨y, z, rr, p, rfl, h1, h2⟩ := rest_e h (t := tV T (callF T k) X.K W b) fun hb => (t.e G hb).v
    refine (pe_andT (s.e G h1).v h2).imp fun σ H Q hq => ?_
    obtain ⟨env, G', F, r, p⟩ := hq
    have p' : Pst T X.K W G' F σ (((ev T (callF T k) a).v env).bnd fun x env1 => optB (truD x) fun k' => match k' with
      | true => (ev T (callF T k) b).v env1
      | false => .ok (x, env1)) _ := p
    refine tV_of r (p'.bnd.imp (Same.refl _) fun x env1 _ p1 v H1 G1 g1 r1 s1 => ?_)
    obtain ⟨k', hk, p2⟩ := p1.opt
    refine ⟨k', truV_of r1.gs (RepO.of r1.gs s1) hk, ?_⟩
    cases k' with
    | true =>
      simp only [if_true]
      refine tV_of r1 ((p2.mono g1).imp (Same.refl _) fun y env2 _ q v2 H2 G2 g2 r2 s2 => ?_)
      exact fin_rep (e := .and a b) r2 (fun v H' G'' g => q v H' G'' ((g1.trans g2).trans g)) s2
    | false =>
      simp only [Bool.false_eq_true, if_false]
      exact fin_rep (e := .and a b) r1 (fun v H' G'' g => p2.ok v H' G'' (g1.trans g)) s1
  · obtain ⟨y, z, rr, p, rfl, h1, h2⟩ := rest_t h (t := tT T X.K W (ev T (callF T k) b).t) (fun hb => t.t G hb) fun hz => pw_and1 hz
    refine (pw_and (s.t G h1) h2).pt.imp fun σ H Q hq => ?_
    obtain ⟨env, G', F, r, p⟩ := hq
    refine ⟨env, G', F, r, p.bnd.imp (Same.refl _) fun k' env1 _ p1 H1 G1 g1 r1 => ?_⟩
    cases k' with
    | true =>
      simp only [if_true]
      exact ⟨env1, G1, F, r1, (p1.mono g1).imp (Same.refl _) fun b' env2 _ q H2 G2 g2 r2 => q H2 G2 (g1.trans g2) r2⟩
    | false =>
      simp only [Bool.false_eq_true, if_false]
      exact p1.ok H1 G1 g1 r1
theorem n_or {a b : E} (s : Snd T k a) (t : Snd T k b) : Snd T k (.or a b) := by
  refine Snd.mk' (f := andB .Or (ck T a).e (ck T b).e) (g := andB .Or (ck T a).t (ck T b).t)
    (fe := fun env => ((ev T (callF T k) a).v env).bnd fun x env1 => optB (truD x) fun k' => match k' with
      | true => .ok (x, env1)
      | false => (ev T (callF T k) b).v env1)
    (ft := fun env => ((ev T (callF T k) a).t env).bnd fun k' env1 => match k' with
      | true => .ok (true, env1)
      | false => (ev T (callF T k) b).t env1) rfl rfl rfl rfl rfl (fun {C W X} G ex h => ?_) (fun {C W X} G ex h => ?_)
  · obtain ⟨y, z, rr, p, rfl, h1, h2⟩ := rest_e h (t := tV T (callF T k) X.K W b) fun hb => (t.e G hb).v
    refine (pe_orT (s.e G h1).v h2).imp fun σ H Q hq => ?_
    obtain ⟨env, G', F, r, p⟩ := hq
    have p' : Pst T X.K W G' F σ (((ev T (callF T k) a).v env).bnd fun x env1 => optB (truD x) fun k' => match k' with
      | true => .ok (x, env1)
      | false => (ev T (callF T k) b).v env1) _ := p
    refine tV_of r (p'.bnd.imp (Same.refl _) fun x env1 _ p1 v H1 G1 g1 r1 s1 => ?_)
    obtain ⟨k', hk, p2⟩ := p1.opt
    refine ⟨k', truV_of r1.gs (RepO.of r1.gs s1) hk, ?_⟩
    cases k' with
    | false =>
      simp only [Bool.false_eq_true, if_false]
      refine tV_of r1 ((p2.mono g1).imp (Same.refl _) fun y env2 _ q v2 H2 G2 g2 r2 s2 => ?_)
      exact fin_rep (e := .or a b) r2 (fun v H' G'' g => q v H' G'' ((g1.trans g2).trans g)) s2
    | true =>
      simp only [if_true]
      exact fin_rep (e := .or a b) r1 (fun v H' G'' g => p2.ok v H' G'' (g1.trans g)) s1
  · obtain ⟨y, z, rr, p, rfl, h1, h2⟩ := rest_t h (t := tT T X.K W (ev T (callF T k) b).t) (fun hb => t.t G hb) fun hz => pw_or1 hz
    refine (pw_or (s.t G h1) h2).pt.imp fun σ H Q hq => ?_
    obtain ⟨env, G', F, r, p⟩ := hq
    refine ⟨env, G', F, r, p.bnd.imp (Same.refl _) fun k' env1 _ p1 H1 G1 g1 r1 => ?_⟩
    cases k' with
    | false =>
      simp only [Bool.false_eq_true, if_false]
      exact ⟨env1, G1, F, r1, (p1.mono g1).imp (Same.refl _) fun b' env2 _ q H2 G2 g2 r2 => q H2 G2 (g1.trans g2) r2⟩
    | true =>
      simp only [if_true]
      exact p1.ok H1 G1 g1 r1
theorem RepX.rep_of {K : PySem.W.Frag} {G H F : Hp} {env : Env} {σ : L2.St} {e : E} {d : Da} {v : V} (hf : fresh T e = true) (x : RepV T K G H F env σ e d v) : RepX K G H F env σ d v := by
  unfold RepV at x
  rw [hf] at x
  exact x
theorem n_ite {c a b : E} (u : Snd T k c) (s : Snd T k a) (t : Snd T k b) : Snd T k (.ite c a b) := by
  refine Snd.ofE rfl rfl rfl rfl fun {C W X} G ex h => ?_
  split at h
  · rename_i x y z p
    obtain ⟨h1, h⟩ := and2 h
    obtain ⟨h2, h3⟩ := and2 h
    refine (pe_ifExp (u.t G h1) (s.e G h2).v (t.e G h3).v).imp fun σ H Q hq => ?_
    obtain ⟨env, G', F, r, p⟩ := hq
    have p' : Pst T X.K W G' F σ (((ev T (callF T k) c).t env).bnd fun k' env1 => match k' with
      | true => (ev T (callF T k) a).v env1
      | false => (ev T (callF T k) b).v env1) _ := p
    refine ⟨env, G', F, r, p'.bnd.imp (Same.refl _) fun k' env1 _ p1 H1 G1 g1 r1 => ?_⟩
    -- a branch's value, new if both are
    have fin : ∀ {e : E} {d : Da} {env2 : Env} {Q' : V → Hp → Prop}, (fresh T (.ite c a b) = true → fresh T e = true) →
        (∀ v H' G'', Same G' G'' → Rel X.K env2 σ H' G'' F → RepE T X.K G'' H' F env2 σ (.ite c a b) d v → Q' v H') →
        ∀ v H2 G2, Same G1 G2 → Rel X.K env2 σ H2 G2 F → RepV T X.K G2 H2 F env2 σ e d v → Q' v H2 := by
      intro e d env2 Q' hf q v H2 G2 g2 r2 x
      by_cases hfr : fresh T (.ite c a b) = true
      · refine q v H2 G2 (g1.trans g2) r2 ?_
        unfold RepE
        simp only [borOf, hfr, if_true]
        exact RepX.rep_of (hf hfr) x
      · obtain ⟨G3, g3, r3, s3⟩ := r2.settleV x
        refine q v H2 G3 ((g1.trans g2).trans g3) r3 ?_
        unfold RepE
        simp only [borOf, hfr, if_false]
        exact s3
    cases k' with
    | true =>
      simp only [if_true]
      exact ⟨env1, G1, F, r1, (p1.mono g1).imp (Same.refl _) fun d env2 _ q => fin (fun hfr => (and2 (show (fresh T a && fresh T b) = true from hfr)).1) q⟩
    | false =>
      simp only [Bool.false_eq_true, if_false]
      exact ⟨env1, G1, F, r1, (p1.mono g1).imp (Same.refl _) fun d env2 _ q => fin (fun hfr => (and2 (show (fresh T a && fresh T b) = true from hfr)).2) q⟩
  · exact absurd h Bool.false_ne_true
/-! ### subscripts -/
theorem n_idx {a b : E} (s : Snd T k a) (t : Snd T k b) : Snd T k (.idx a b) := by
  refine Snd.ofE rfl rfl rfl rfl fun {C W X} G ex h => ?_
  split at h
  · rename_i y z p
    obtain ⟨h1, h⟩ := and2 h
    obtain ⟨h2, h3⟩ := and2 h
    refine (pe_ix ix_all (s.e G h2) (t.e G h3) (slice_of h1)).imp fun σ H Q hq => ?_
    obtain ⟨env, G', F, r, p⟩ := hq
    refine two_of r p fun x y env2 v u H2 G2 g2 r2 ox oy p2 => ?_
    obtain ⟨d, hd, p3⟩ := p2.opt
    exact ⟨G2, x, y, d, r2.gs, ox, oy, hd, fun v' hv => fin_rep (e := .idx a b) r2 (fun v H' G'' g => p3.ok v H' G'' (g2.trans g)) hv⟩
  · exact absurd h Bool.false_ne_true
theorem n_sl {a lo hi : E} (s : Snd T k a) (l : Snd T k lo) (u : Snd T k hi) : Snd T k (.sl a lo hi) := by
  refine Snd.ofE rfl rfl rfl rfl fun {C W X} G ex h => ?_
  split at h
  · rename_i y le he p1 p2
    obtain ⟨h1, h⟩ := and2 h
    obtain ⟨h2, h3⟩ := and2 h
    refine (pe_slice sl_all (s.e G h1) (l.p G h2) (u.p G h3)).imp fun σ H Q hq => ?_
    obtain ⟨env, G', F, r, p⟩ := hq
    have p' : Pst T X.K W G' F σ (((ev T (callF T k) a).e env).bnd fun x env1 => ((ev T (callF T k) lo).p env1).bnd fun l env2 => ((ev T (callF T k) hi).p env2).bnd fun h env3 => optB (rr a env3 x) fun x' => optB (slD x' l h) fun d => .ok (d, env3)) _ := p
    refine tE_of r (p'.bnd.imp (Same.refl _) fun x env1 hx q1 v H1 G1 g1 r1 s1 => ?_)
    refine ⟨env1, G1, F, r1, (q1.mono g1).bnd.imp (Same.refl _) fun lo' env2 _ q2 H2 G2 g2 r2 => ?_⟩
    refine ⟨env2, G2, F, r2, (q2.mono g2).bnd.imp (Same.refl _) fun hi' env3 _ q3 H3 G3 g3 r3 => ?_⟩
    obtain ⟨x', hx', q4⟩ := q3.opt
    obtain ⟨d, hd, q5⟩ := q4.opt
    exact ⟨G3, x', d, r3.gs, r3.operand (s1.mono (g2.trans g3)) hx', hd, fin_res (e := .sl a lo hi) r3 fun v H' G'' g => q5.ok v H' G'' (((g1.trans g2).trans g3).trans g)⟩
  · exact absurd h Bool.false_ne_true
theorem n_rev {a : E} (s : Snd T k a) : Snd T k (.rev a) := by
  refine Snd.ofE rfl rfl rfl rfl fun {C W X} G ex h => ?_
  split at h
  · refine (pe_revA (s.e G h)).imp fun σ H Q hq => ?_
    obtain ⟨env, G', F, r, p⟩ := hq
    refine tE_of r (p.bnd.imp (Same.refl _) fun x env1 hx p1 v H1 G1 g1 r1 s1 => ?_)
    obtain ⟨d, hd, p2⟩ := p1.opt
    have o := r1.operand s1 (rr_self hx)
    have fr := fin_res (e := .rev a) r1 fun v H' G'' g => p2.ok v H' G'' (g1.trans g)
    cases x with
    | list ds =>
      simp only [revD, Option.some.injEq] at hd
      subst hd
      obtain ⟨b, xs, rfl, e1, e2⟩ := o
      exact .inl ⟨b, xs, rfl, SqL.of e1, fun q hq => fr.newL r1.gs e2.reverse hq⟩
    | tuple ds =>
      simp only [revD, Option.some.injEq] at hd
      subst hd
      simp only [RepO, Rep] at o
      obtain ⟨b, xs, rfl, e1, e2⟩ := o
      exact .inr ⟨b, xs, rfl, sameT r1.gs e1, fun q hq => fr.newT r1.gs e2.reverse hq⟩
    | _ => simp [revD] at hd
  · exact absurd h Bool.false_ne_true
end
end PI
end
section
set_option Elab.async false
set_option linter.all false
set_option maxRecDepth 100000
/-! PIl: what a for walks; calls. -/
namespace PI
open PySem PySem.Spec PyProof.Rows L2
section
variable {T : Tab} {k : Nat} {W : WX}
/-! ### ranges, enumerate, zip, the script -/
theorem walk_rng {K : PySem.W.Frag} {G0 : Hp} {lo : Int} {n : Nat} : Walks K (Itr lo n) ((List.range n).map fun j => .int (lo + (j : Nat))) G0 none := by
  intro i H G g0 g _
  refine ⟨fun hi => ⟨show i < n by simpa using hi, fun x H' hy => ?_⟩, fun hi => show n ≤ i by simpa using hi⟩
  obtain ⟨rfl, rfl⟩ := hy
  have hi' : i < n := by simpa using hi
  refine ⟨.int (lo + (i : Nat)), G, ?_, by simp only [Rep], Same.refl _, g, Same.refl _, fun _ _ h => h⟩
  rw [List.getElem?_map, List.getElem?_range hi']; rfl
theorem new_tup {K : PySem.W.Frag} {G H : Hp} {T' : Addr} {ds : List Da} {xs : List V} (g : Same G H) (h : H T' = none) (l : RepL K G ds xs) :
    ∃ G', Rep K G' (.tuple ds) (.ref T') ∧ Same G G' ∧ Same G' (upd H T' (.tup xs)) ∧ Same H (upd H T' (.tup xs)) ∧ (∀ b, H b ≠ none → G b = none → G' b = none) := by
  have gp := same_none g h
  refine ⟨upd G T' (.tup xs), ?_, same_upd gp, same_upd2 g h, same_upd h, fun b hb gb => ?_⟩
  · simp only [Rep]
    exact ⟨T', xs, rfl, SqT.of upd_same, l.mono (same_upd gp)⟩
  · rw [upd_ne (fun e => hb (by rw [e]; exact h))]
    exact gb
theorem walk_enm {K : PySem.W.Frag} {G0 : Hp} {a : Addr} {ds : List Da} {lk : Option (Addr × List Da)} (hs : ∀ H G, Same G0 G → Same G H → (∀ a ds, lk = some (a, ds) → ObjO K G H (.list ds) a) → ∃ xs, SqL K H a xs ∧ RepL K G ds xs) :
    Walks K (Ite K a) (ds.zipIdx.map fun p => .tuple [.int (p.2 : Nat), p.1]) G0 lk := by
  intro i H G g0 g hl
  obtain ⟨xs, h1, h2⟩ := hs H G g0 g hl
  have hlen := h2.length
  refine ⟨fun hi => ⟨?_, fun x H' hy => ?_⟩, fun hi => ?_⟩
  · have : i < xs.length := by simp at hi; omega
    exact ⟨xs, xs[i], h1, List.getElem?_eq_getElem this⟩
  · obtain ⟨T', x, rfl, nT, rfl, hx⟩ := hy
    obtain ⟨d, e1, e2⟩ := h2.getV (hx xs h1)
    obtain ⟨G', f1, f2, f3, f4, f5⟩ := new_tup (K := K) (ds := [.int (i : Nat), d]) (xs := [.int (i : Nat), x]) g nT (RepL.cons (by simp only [Rep]) (RepL.cons e2 RepL.nil))
    refine ⟨_, G', ?_, f1, f2, f3, f4, f5⟩
    rw [List.getElem?_map, List.getElem?_zipIdx, e1]
    simp
  · exact ⟨xs, h1, by simp at hi; omega⟩
theorem walk_zip {K : PySem.W.Frag} {G0 : Hp} {a b : Addr} {ds es : List Da} {xs ys : List V} (ha : G0 a = some (.lst xs)) (la : RepL K G0 ds xs) (hb : G0 b = some (.lst ys)) (lb : RepL K G0 es ys) :
    Walks K (Itz K a b) ((ds.zip es).map fun p => .tuple [p.1, p.2]) G0 none := by
  intro i H G g0 g _
  have h1 : SqL K H a xs := SqL.of (g _ _ (g0 _ _ ha))
  have h2 : SqL K H b ys := SqL.of (g _ _ (g0 _ _ hb))
  have l1 := la.length
  have l2 := lb.length
  refine ⟨fun hi => ⟨?_, fun x H' hy => ?_⟩, fun hi => ?_⟩
  · simp at hi
    have q1 : i < xs.length := by omega
    have q2 : i < ys.length := by omega
    exact ⟨xs, ys, xs[i], ys[i], h1, h2, List.getElem?_eq_getElem q1, List.getElem?_eq_getElem q2⟩
  · obtain ⟨T', x, y, rfl, nT, rfl, hx, hy⟩ := hy
    obtain ⟨d, e1, e2⟩ := la.getV (hx xs h1)
    obtain ⟨d', f1, f2⟩ := lb.getV (hy ys h2)
    obtain ⟨G', p1, p2, p3, p4, p5⟩ := new_tup (ds := [d, d']) g nT (RepL.cons (e2.mono g0) (RepL.cons (f2.mono g0) RepL.nil))
    refine ⟨_, G', ?_, p1, p2, p3, p4, p5⟩
    rw [List.getElem?_map, (List.getElem?_zip_eq_some (z := (d, d'))).mpr ⟨e1, f1⟩]
    rfl
  · simp at hi
    refine ⟨xs, ys, h1, h2, ?_⟩
    omega
/-- a source of a for alone -/
theorem Snd.ofI {e : E} {fi : CC → Expr → Expr → Bool} (hck : ck T e = { Ck.none with i := fi })
    (hi : ∀ {C W X}, GX T k C W X → C.cm = true → ∀ {tg ex}, fi C tg ex = true → L2.PI X tg ex (tI T (callF T k) X.K W e)) : Snd T k e where
  e := fun _ _ h => by rw [hck] at h; exact absurd h Bool.false_ne_true
  t := fun _ _ h => by rw [hck] at h; exact absurd h Bool.false_ne_true
  l := fun _ _ h => by rw [hck] at h; exact absurd h Bool.false_ne_true
  a := fun _ _ h => by rw [hck] at h; exact absurd h Bool.false_ne_true
  i := fun G hc tg ex h => hi G hc (by rw [hck] at h; exact h)
  p := fun _ _ h => by rw [hck] at h; exact absurd h Bool.false_ne_true
  m := fun _ _ h => by rw [hck] at h; exact absurd h Bool.false_ne_true
  c := fun _ _ h => by rw [hck] at h; exact absurd h Bool.false_ne_true
theorem no_lock {e : E} {env : Env} {σ : L2.St} : LockIs e env σ none := fun _ _ z => by cases z
theorem n_io (i : Nat) : Snd T k (.io i) := by
  refine Snd.ofI rfl fun {C W X} G hc tg ex h => ?_
  cases ex with
  | Name x p =>
    refine (pi_list (pe_slot G h)).imp fun σ H R' hq => ?_
    obtain ⟨env, G', F, r, q⟩ := hq
    have q' : Pst T X.K W G' F σ (evIo i env) _ := q
    unfold evIo at q'
    cases he : env[i]? with
    | none => rw [he] at q'; exact q'.elim
    | some s =>
      rw [he] at q'
      cases s with
      | scr ns =>
        obtain ⟨a, h1, h2⟩ := r.scr i ns he
        refine ⟨.ref a, h1, a, rfl, ⟨_, sqL_mono r.gs h2⟩, q' _ H G' none (Same.refl _) r ?_ no_lock⟩
        intro j H2 G2 g0 g _
        have hs : SqL X.K H2 a (ns.map V.int) := sqL_mono g (sqL_mono g0 h2)
        have l := RepL.ofInts (K := X.K) (G := G2) ns
        refine ⟨fun hi => ⟨?_, fun x H' hy => ?_⟩, fun hi => ⟨_, hs, by simpa using hi⟩⟩
        · have hj : j < (ns.map V.int).length := by simpa using hi
          exact ⟨_, (ns.map V.int)[j], hs, List.getElem?_eq_getElem hj⟩
        · obtain ⟨rfl, hy⟩ := hy
          obtain ⟨d, e1, e2⟩ := l.getV (hy _ hs)
          exact ⟨d, G2, e1, e2, Same.refl _, g, Same.refl _, fun _ _ h => h⟩
      | _ => exact q'.elim
  | _ => exact absurd h Bool.false_ne_true
theorem n_rg1 {a : E} (s : Snd T k a) : Snd T k (.rg1 a) := by
  refine Snd.ofI rfl fun {C W X} G hc tg ex h => ?_
  split at h
  · rename_i x p1 y p
    obtain ⟨h1, h⟩ := and2 h
    obtain ⟨h2, h⟩ := and2 h
    obtain ⟨h3, h4⟩ := and2 h
    obtain rfl := of_decide_eq_true h2
    obtain ⟨g1, g2, g3⟩ := glo_ok G h1
    refine (pi_range1 g1 (G.tab.blt ("range", .type "range") (by decide +kernel)) (pa_cons (s.e G h4) pa_nil (star_of h3)) (star_of h3)).imp fun σ H R' hq => ?_
    obtain ⟨env, G', F, r, q⟩ := hq
    refine tE_of r (q.bnd.imp (Same.refl _) fun x env1 hx p1 v H1 G1 g1 r1 s1 => ?_)
    obtain ⟨n, rfl, p2⟩ := p1.int
    obtain ⟨xs, hxs, p3⟩ := p2.opt
    have o := r1.operand s1 (rr_self hx)
    unfold rangeD at hxs
    split at hxs
    · rename_i hb
      simp only [Option.some.injEq] at hxs
      subst hxs
      refine ⟨n, by rw [show v = .int n from o], hb.2.2.1, hb.2.2.2, p3.ok _ H1 G1 none g1 r1 ?_ no_lock⟩
      have e : (n - 0).toNat = n.toNat := by simp
      rw [e]
      exact walk_rng
    · cases hxs
  · exact absurd h Bool.false_ne_true
theorem n_rg2 {a b : E} (s : Snd T k a) (t : Snd T k b) : Snd T k (.rg2 a b) := by
  refine Snd.ofI rfl fun {C W X} G hc tg ex h => ?_
  split at h
  · rename_i x p1 y z p
    obtain ⟨h1, h⟩ := and2 h
    obtain ⟨h2, h⟩ := and2 h
    obtain ⟨h3, h⟩ := and2 h
    obtain ⟨h4, h⟩ := and2 h
    obtain ⟨h5, h6⟩ := and2 h
    obtain rfl := of_decide_eq_true h2
    obtain ⟨g1, g2, g3⟩ := glo_ok G h1
    have hst : starEach [y, z] X.env = [(false, eval y X.env), (false, eval z X.env)] := by rw [star_of h3, star_of h4]; rfl
    refine (pi_range2 g1 (G.tab.blt ("range", .type "range") (by decide +kernel)) (pa_cons (s.e G h5) (pa_cons (t.e G h6) pa_nil (star_of h4)) (star_of h3)) hst (star_of h4)).imp fun σ H R' hq => ?_
    obtain ⟨env, G', F, r, q⟩ := hq
    have q' : Pst T X.K W G' F σ (((ev T (callF T k) a).e env).bnd fun x env1 => ((ev T (callF T k) b).e env1).bnd fun y env2 => intB x fun m => intB y fun n => optB (rangeD m n) fun xs => .ok (xs, env2)) _ := q
    refine tE_of r (q'.bnd.imp (Same.refl _) fun x env1 hx p1 v H1 G1 g1 r1 s1 => ?_)
    refine tE_of r1 ((p1.mono g1).bnd.imp (Same.refl _) fun y env2 hy p2 u H2 G2 g2 r2 s2 => ?_)
    obtain ⟨m, rfl, p3⟩ := p2.int
    obtain ⟨n, rfl, p4⟩ := p3.int
    obtain ⟨xs, hxs, p5⟩ := p4.opt
    have o1 : v = .int m := by
      have := s1
      unfold RepS at this
      cases hb : borOf a with
      | none => rw [hb] at this; simpa only [Rep] using this
      | some j =>
        have := rr_self hx
        have e : a = .bor j := by cases a <;> simp [borOf] at hb; rw [hb]
        subst e
        exact r1.operand s1 this
    have o2 : u = .int n := r2.operand s2 (rr_self hy)
    unfold rangeD at hxs
    split at hxs
    · rename_i hb
      simp only [Option.some.injEq] at hxs
      subst hxs
      exact ⟨m, n, by rw [o1, o2], hb, p5.ok _ H2 G2 none (g1.trans g2) r2 walk_rng no_lock⟩
    · cases hxs
  · exact absurd h Bool.false_ne_true
theorem tup_of {tg : Expr} (h : isTup tg = true) : ∃ es k p, tg = .Tuple es k p := by
  cases tg with
  | Tuple es k p => exact ⟨es, k, p, rfl⟩
  | _ => simp [isTup] at h
theorem n_enm {a : E} (s : Snd T k a) : Snd T k (.enm a) := by
  refine Snd.ofI rfl fun {C W X} G hc tg ex h => ?_
  split at h
  · rename_i x p1 y p
    obtain ⟨h0, h⟩ := and2 h
    obtain ⟨h1, h⟩ := and2 h
    obtain ⟨h2, h⟩ := and2 h
    obtain ⟨h3, h4⟩ := and2 h
    obtain rfl := of_decide_eq_true h2
    obtain ⟨g1, g2, g3⟩ := glo_ok G h1
    obtain ⟨es, kk, tp, rfl⟩ := tup_of h0
    refine (pi_enum g1 (G.tab.blt ("enumerate", .type "enumerate") (by decide +kernel)) (pa_cons (s.e G h4) pa_nil (star_of h3)) (star_of h3)).imp fun σ H R' hq => ?_
    obtain ⟨env, G', F, r, q⟩ := hq
    refine tE_of r (q.bnd.imp (Same.refl _) fun x env1 hx p1 v H1 G1 g1 r1 s1 => ?_)
    obtain ⟨ds, rfl, p2⟩ := p1.lst
    have q2 := p2.ok
    have hrr := rr_self hx
    cases hb : borOf a with
    | none =>
      unfold RepS at s1
      rw [hb] at s1
      simp only [Rep] at s1
      obtain ⟨b, xs, rfl, e1, e2⟩ := s1
      refine ⟨b, xs, rfl, SqL.of (r1.gs _ _ e1), q2 _ H1 G1 none g1 r1 (walk_enm fun H2 G2 f0 f _ => ?_) no_lock⟩
      exact ⟨xs, SqL.of (f _ _ (f0 _ _ e1)), e2.mono f0⟩
    | some j =>
      unfold RepS at s1
      rw [hb] at s1
      simp only at s1
      have hej : a = .bor j := by cases a <;> simp [borOf] at hb; rw [hb]
      subst hej
      simp only [rr] at hrr
      cases he1 : env1[j]? with
      | none => rw [he1] at hrr; simp at hrr
      | some sl =>
        rw [he1] at hrr
        cases sl with
        | val z =>
          simp only [Option.some.injEq] at hrr
          subst hrr
          obtain ⟨w, h1, h2⟩ := r1.val j _ he1
          rw [s1] at h1
          cases h1
          simp only [Rep] at h2
          obtain ⟨b, xs, rfl, e1, e2⟩ := h2
          refine ⟨b, xs, rfl, SqL.of (r1.gs _ _ e1), q2 _ H1 G1 none g1 r1 (walk_enm fun H2 G2 f0 f _ => ?_) no_lock⟩
          exact ⟨xs, SqL.of (f _ _ (f0 _ _ e1)), e2.mono f0⟩
        | own m z =>
          simp only [Option.some.injEq] at hrr
          subst hrr
          obtain ⟨b, h1, h2, h3, xs, e1, e2⟩ := r1.own j m _ he1
          rw [s1] at h1
          cases h1
          refine ⟨b, xs, rfl, SqL.of e1, q2 _ H1 G1 (some (b, ds)) g1 r1 (walk_enm fun H2 G2 f0 f lk => ?_) fun c es z => ?_⟩
          · obtain ⟨ys, k1, k2⟩ := lk b ds rfl
            exact ⟨ys, SqL.of k1, k2⟩
          · cases z
            exact ⟨j, m, rfl, he1, s1⟩
        | _ => simp at hrr
  · exact absurd h Bool.false_ne_true
theorem n_zip {a b : E} (s : Snd T k a) (t : Snd T k b) : Snd T k (.zip a b) := by
  refine Snd.ofI rfl fun {C W X} G hc tg ex h => ?_
  split at h
  · rename_i x p1 y z p
    obtain ⟨h0, h⟩ := and2 h
    obtain ⟨h1, h⟩ := and2 h
    obtain ⟨h2, h⟩ := and2 h
    obtain ⟨h3, h⟩ := and2 h
    obtain ⟨h4, h⟩ := and2 h
    obtain ⟨h5, h6⟩ := and2 h
    obtain rfl := of_decide_eq_true h2
    obtain ⟨g1, g2, g3⟩ := glo_ok G h1
    obtain ⟨es, kk, tp, rfl⟩ := tup_of h0
    refine (pi_zip g1 (G.tab.blt ("zip", .type "zip") (by decide +kernel)) (pa_cons (s.e G h5).v (pa_cons (t.e G h6).v pa_nil (star_of h4)) (star_of h3)) (star_of h3) (stars_of (by simp [h4]) _)).imp fun σ H R' hq => ?_
    obtain ⟨env, G', F, r, q⟩ := hq
    have q' : Pst T X.K W G' F σ (two a (ev T (callF T k) a).v (ev T (callF T k) b).v env fun x y env2 => lstB x fun xs => lstB y fun ys => .ok ((xs.zip ys).map fun p => PyData.tuple [p.1, p.2], env2)) _ := q
    unfold two at q'
    refine tV_of r (q'.bnd.imp (Same.refl _) fun x env1 hx p1 v H1 G1 g1 r1 s1 => ?_)
    refine tV_of r1 ((p1.mono g1).bnd.imp (Same.refl _) fun y env2 hy p2 u H2 G2 g2 r2 s2 => ?_)
    obtain ⟨x', hx', p3⟩ := p2.opt
    obtain ⟨ds, rfl, p4⟩ := p3.lst
    obtain ⟨es', rfl, p5⟩ := p4.lst
    have ex : x = .list ds := by
      cases hb : borOf a with
      | some j => rw [bor_v hb] at hx; cases hx
      | none =>
        cases a <;> first | (simp only [rr, Option.some.injEq] at hx'; exact hx') | simp [borOf] at hb
    subst ex
    simp only [Rep] at s1 s2
    obtain ⟨c, xs, rfl, e1, e2⟩ := s1
    obtain ⟨c', ys, rfl, f1, f2⟩ := s2
    exact ⟨c, c', xs, ys, rfl, SqL.of (r2.gs _ _ (g2 _ _ e1)), SqL.of (r2.gs _ _ f1), p5.ok _ H2 G2 none (g1.trans g2) r2 (walk_zip (g2 _ _ e1) (e2.mono g2) f1 f2) no_lock⟩
  · exact absurd h Bool.false_ne_true
end
end PI
end
section
set_option Elab.async false
set_option linter.all false
set_option maxRecDepth 100000
/-! PIn: calls of defs: the callee's slots, what it leaves. -/
namespace PI
open PySem PySem.Spec PyProof.Rows L2
section
variable {K : PySem.W.Frag} {env : Env} {σ : L2.St} {H G F : Hp}
/-- one argument's slot -/
def res1 (env : Env) : Av → Option Sl
  | .v d => some (.val d)
  | .s i => match env[i]? with
    | some (.val d) => some (.val d)
    | some (.own 0 d) => some (.own 1 d)
    | some (.own 1 d) => some (.own 1 d)
    | some (.scr ns) => some (.scr ns)
    | _ => none
theorem resolve_cons {av : Av} {r : List Av} {sls : List Sl} (h : resolve env (av :: r) = some sls) : ∃ s t, sls = s :: t ∧ res1 env av = some s ∧ resolve env r = some t := by
  cases av with
  | v d =>
    simp only [resolve, Option.map_eq_some_iff] at h
    obtain ⟨t, h1, rfl⟩ := h
    exact ⟨_, t, rfl, rfl, h1⟩
  | s i =>
    simp only [resolve] at h
    split at h <;> simp only [Option.some.injEq, reduceCtorEq] at h
    · rename_i e1 e2; subst h; exact ⟨_, _, rfl, by simp only [res1, e1], e2⟩
    · rename_i e1 e2; subst h; exact ⟨_, _, rfl, by simp only [res1, e1], e2⟩
    · rename_i e1 e2; subst h; exact ⟨_, _, rfl, by simp only [res1, e1], e2⟩
    · rename_i e1 e2; subst h; exact ⟨_, _, rfl, by simp only [res1, e1], e2⟩
theorem resolve_get : ∀ {avs : List Av} {sls : List Sl} {p : Nat} {s : Sl}, resolve env avs = some sls → sls[p]? = some s → ∃ av, avs[p]? = some av ∧ res1 env av = some s
  | [], sls, p, s, h, e => by simp only [resolve, Option.some.injEq] at h; subst h; simp at e
  | av :: r, sls, p, s, h, e => by
    obtain ⟨s0, t, rfl, h1, h2⟩ := resolve_cons h
    cases p with
    | zero => simp at e; subst e; exact ⟨av, rfl, h1⟩
    | succ p =>
      obtain ⟨av', e1, e2⟩ := resolve_get (p := p) (s := s) h2 (by simpa using e)
      exact ⟨av', by simpa using e1, e2⟩
theorem resolve_len : ∀ {avs : List Av} {sls : List Sl}, resolve env avs = some sls → sls.length = avs.length
  | [], sls, h => by simp only [resolve, Option.some.injEq] at h; subst h; rfl
  | av :: r, sls, h => by
    obtain ⟨s0, t, rfl, h1, h2⟩ := resolve_cons h
    rw [List.length_cons, List.length_cons, resolve_len h2]
/-- an argument's value -/
def arg1 (K : PySem.W.Frag) (G : Hp) (σ : L2.St) (v : V) : Av → Prop
  | .v d => Rep K G d v
  | .s i => σ[i]? = some (some v)
theorem args_get : ∀ {avs : List Av} {vs : List V} {p : Nat} {av : Av}, ArgsR K G σ avs vs → avs[p]? = some av → ∃ v, vs[p]? = some v ∧ arg1 K G σ v av
  | [], _, p, av, _, e => by simp at e
  | .v d :: r, _, p, av, h, e => by
    simp only [ArgsR] at h
    obtain ⟨x, t, rfl, h1, h2⟩ := h
    cases p with
    | zero => simp at e; subst e; exact ⟨x, rfl, h1⟩
    | succ p =>
      obtain ⟨v, e1, e2⟩ := args_get (p := p) (av := av) h2 (by simpa using e)
      exact ⟨v, by simpa using e1, e2⟩
  | .s i :: r, _, p, av, h, e => by
    simp only [ArgsR] at h
    obtain ⟨x, t, rfl, h1, h2⟩ := h
    cases p with
    | zero => simp at e; subst e; exact ⟨x, rfl, h1⟩
    | succ p =>
      obtain ⟨v, e1, e2⟩ := args_get (p := p) (av := av) h2 (by simpa using e)
      exact ⟨v, by simpa using e1, e2⟩
theorem args_len : ∀ {avs : List Av} {vs : List V}, ArgsR K G σ avs vs → vs.length = avs.length
  | [], _, h => by simp only [ArgsR] at h; rw [h]; rfl
  | .v d :: r, _, h => by
    simp only [ArgsR] at h
    obtain ⟨x, t, rfl, h1, h2⟩ := h
    rw [List.length_cons, List.length_cons, args_len h2]
  | .s i :: r, _, h => by
    simp only [ArgsR] at h
    obtain ⟨x, t, rfl, h1, h2⟩ := h
    rw [List.length_cons, List.length_cons, args_len h2]
/-! ### the own slots among the arguments -/
theorem mem_own : ∀ {avs : List Av} {i : Nat}, i ∈ ownArgs env avs → ∃ (p : Nat) (m : Nat) (d : Da), avs[p]? = some (.s i) ∧ env[i]? = some (.own m d)
  | [], i, h => by simp [ownArgs] at h
  | .v d :: r, i, h => by
    obtain ⟨p, m, d, e1, e2⟩ := mem_own (avs := r) (i := i) h
    exact ⟨p + 1, m, d, by simpa using e1, e2⟩
  | .s j :: r, i, h => by
    simp only [ownArgs] at h
    split at h
    · rename_i m d e
      rcases List.mem_cons.mp h with rfl | h
      · exact ⟨0, m, d, rfl, e⟩
      · obtain ⟨p, m, d, e1, e2⟩ := mem_own (avs := r) (i := i) h
        exact ⟨p + 1, m, d, by simpa using e1, e2⟩
    · obtain ⟨p, m, d, e1, e2⟩ := mem_own (avs := r) (i := i) h
      exact ⟨p + 1, m, d, by simpa using e1, e2⟩
theorem own_mem : ∀ {avs : List Av} {i p m : Nat} {d : Da}, avs[p]? = some (.s i) → env[i]? = some (.own m d) → i ∈ ownArgs env avs
  | [], i, p, m, d, h, _ => by simp at h
  | .v d' :: r, i, p, m, d, h, e => by
    cases p with
    | zero => simp at h
    | succ p => exact own_mem (avs := r) (p := p) (by simpa using h) e
  | .s j :: r, i, p, m, d, h, e => by
    simp only [ownArgs]
    cases p with
    | zero =>
      simp at h
      subst h
      rw [e]
      exact List.mem_cons_self ..
    | succ p =>
      have := own_mem (avs := r) (p := p) (by simpa using h) e
      split
      · exact List.mem_cons_of_mem _ this
      · exact this
theorem nodup_own : ∀ {avs : List Av} {i p q m : Nat} {d : Da}, nodupN (ownArgs env avs) = true → avs[p]? = some (.s i) → avs[q]? = some (.s i) → env[i]? = some (.own m d) → p = q
  | [], i, p, q, m, d, _, h, _, _ => by simp at h
  | .v d' :: r, i, p, q, m, d, n, h, h', e => by
    cases p with
    | zero => simp at h
    | succ p =>
      cases q with
      | zero => simp at h'
      | succ q => rw [nodup_own (avs := r) (p := p) (q := q) n (by simpa using h) (by simpa using h') e]
  | .s j :: r, i, p, q, m, d, n, h, h', e => by
    simp only [ownArgs] at n
    cases p with
    | zero =>
      simp at h
      subst h
      rw [e] at n
      simp only [nodupN, Bool.and_eq_true, Bool.not_eq_true'] at n
      cases q with
      | zero => rfl
      | succ q =>
        have := own_mem (avs := r) (p := q) (by simpa using h') e
        have c := List.contains_iff_mem.mpr this
        rw [n.1] at c; cases c
    | succ p =>
      cases q with
      | zero =>
        simp at h'
        subst h'
        rw [e] at n
        simp only [nodupN, Bool.and_eq_true, Bool.not_eq_true'] at n
        have := own_mem (avs := r) (p := p) (by simpa using h) e
        have c := List.contains_iff_mem.mpr this
        rw [n.1] at c; cases c
      | succ q =>
        have n' : nodupN (ownArgs env r) = true := by
          split at n
          · simp only [nodupN, Bool.and_eq_true] at n; exact n.2
          · exact n
        rw [nodup_own (avs := r) (p := p) (q := q) n' (by simpa using h) (by simpa using h') e]
/-- the caller's own lists that are not handed over -/
def kept (env : Env) (σ : L2.St) (avs : List Av) (b : Addr) : Prop := ∃ (i : Nat) (m : Nat) (d : Da), env[i]? = some (.own m d) ∧ σ[i]? = some (some (.ref b)) ∧ i ∉ ownArgs env avs
open Classical in
noncomputable def frameOf (env : Env) (σ : L2.St) (H F : Hp) (avs : List Av) : Hp := fun b => if kept env σ avs b then H b else F b
theorem frame_kept {avs : List Av} {b : Addr} (h : kept env σ avs b) : frameOf env σ H F avs b = H b := by unfold frameOf; rw [if_pos h]
theorem frame_not {avs : List Av} {b : Addr} (h : ¬ kept env σ avs b) : frameOf env σ H F avs b = F b := by unfold frameOf; rw [if_neg h]
theorem kept_F (r : Rel K env σ H G F) {avs : List Av} {b : Addr} (h : kept env σ avs b) : F b = none ∧ G b = none ∧ H b ≠ none := by
  obtain ⟨i, m, d, e1, e2, _⟩ := h
  obtain ⟨a, q1, q2, q3, q4⟩ := r.own i m d e1
  rw [e2] at q1
  cases q1
  refine ⟨q3, q2, ?_⟩
  cases d with
  | list ds => obtain ⟨xs, z, _⟩ := q4; rw [z]; simp
  | _ => exact q4.elim
/-- the callee's slots -/
theorem callee_rel (r : Rel K env σ H G F) {avs : List Av} {vs : List V} {sls : List Sl} (ar : ArgsR K G σ avs vs) (hr : resolve env avs = some sls) (hn : nodupN (ownArgs env avs) = true) :
    Rel K sls (vs.map some) H G (frameOf env σ H F avs) ∧ allOwn1 sls := by
  have look : ∀ {p : Nat} {s : Sl}, sls[p]? = some s → ∃ av v, avs[p]? = some av ∧ res1 env av = some s ∧ vs[p]? = some v ∧ arg1 K G σ v av := fun {p s} e => by
    obtain ⟨av, e1, e2⟩ := resolve_get hr e
    obtain ⟨v, e3, e4⟩ := args_get ar e1
    exact ⟨av, v, e1, e2, e3, e4⟩
  have ownLook : ∀ {p m : Nat} {d : Da}, sls[p]? = some (.own m d) → m = 1 ∧ ∃ i n v, avs[p]? = some (.s i) ∧ env[i]? = some (.own n d) ∧ vs[p]? = some v ∧ σ[i]? = some (some v) := fun {p m d} e => by
    obtain ⟨av, v, e1, e2, e3, e4⟩ := look e
    cases av with
    | v d' => simp [res1] at e2
    | s i =>
      simp only [res1] at e2
      split at e2 <;> simp only [Option.some.injEq, reduceCtorEq, Sl.own.injEq] at e2
      · rename_i he; obtain ⟨rfl, rfl⟩ := e2; exact ⟨rfl, i, _, v, e1, he, e3, e4⟩
      · rename_i he; obtain ⟨rfl, rfl⟩ := e2; exact ⟨rfl, i, _, v, e1, he, e3, e4⟩
  refine ⟨⟨r.gs, fun b o e => ?_, fun b hb => ?_, ?_, fun p d e => ?_, fun p m d e => ?_, fun p ns e => ?_, fun p q m n d e a h1 h2 z1 z2 => ?_⟩, fun s hs m d e => ?_⟩
  · by_cases hk : kept env σ avs b
    · rw [frame_kept hk] at e; exact e
    · rw [frame_not hk] at e; exact r.fs b o e
  · by_cases hk : kept env σ avs b
    · exact (kept_F r hk).2.1
    · rw [frame_not hk] at hb; exact r.fg b hb
  · rw [List.length_map, args_len ar, resolve_len hr]
  · obtain ⟨av, v, e1, e2, e3, e4⟩ := look e
    refine ⟨v, by rw [List.getElem?_map, e3]; rfl, ?_⟩
    cases av with
    | v d' => simp only [res1, Option.some.injEq, Sl.val.injEq] at e2; subst e2; exact e4
    | s i =>
      simp only [res1] at e2
      split at e2 <;> simp only [Option.some.injEq, reduceCtorEq, Sl.val.injEq] at e2
      · rename_i he
        subst e2
        obtain ⟨w, q1, q2⟩ := r.val i _ he
        have e4' : σ[i]? = some (some v) := e4
        rw [e4'] at q1
        cases q1
        exact q2
  · obtain ⟨_, i, n, v, e1, e2, e3, e4⟩ := ownLook e
    obtain ⟨a, q1, q2, q3, q4⟩ := r.own i n d e2
    rw [e4] at q1
    cases q1
    refine ⟨a, by rw [List.getElem?_map, e3]; rfl, q2, ?_, q4⟩
    rw [frame_not]
    · exact q3
    · rintro ⟨j, m', d', w1, w2, w3⟩
      have : j = i := r.dj j i m' n d' d a w1 e2 w2 e4
      subst this
      exact w3 (own_mem e1 e2)
  · obtain ⟨av, v, e1, e2, e3, e4⟩ := look e
    cases av with
    | v d' => simp [res1] at e2
    | s i =>
      simp only [res1] at e2
      split at e2 <;> simp only [Option.some.injEq, reduceCtorEq, Sl.scr.injEq] at e2
      · rename_i he
        subst e2
        obtain ⟨a, q1, q2⟩ := r.scr i _ he
        have e4' : σ[i]? = some (some v) := e4
        rw [e4'] at q1
        cases q1
        exact ⟨a, by rw [List.getElem?_map, e3]; rfl, q2⟩
  · obtain ⟨_, i, n1, v, e1, e2, e3, e4⟩ := ownLook h1
    obtain ⟨_, j, n2, w, f1, f2, f3, f4⟩ := ownLook h2
    rw [List.getElem?_map, e3] at z1
    rw [List.getElem?_map, f3] at z2
    simp only [Option.map_some, Option.some.injEq] at z1 z2
    subst z1 z2
    have : i = j := r.dj i j n1 n2 d e a e2 f2 e4 f4
    subst this
    exact nodup_own hn e1 f1 e2
  · subst e
    obtain ⟨p, hp⟩ := List.mem_iff_getElem?.mp hs
    exact (ownLook hp).1
/-! ### what the callee left -/
theorem ownArgs_set {i m : Nat} {d d0 : Da} (he : env[i]? = some (.own m d0)) : ∀ avs : List Av, ownArgs (env.set i (.own m d)) avs = ownArgs env avs
  | [] => rfl
  | .v _ :: r => ownArgs_set he r
  | .s j :: r => by
    have hi : i < env.length := (List.getElem?_eq_some_iff.mp he).1
    simp only [ownArgs]
    by_cases hj : i = j
    · subst hj
      rw [List.getElem?_set_self hi, he, ownArgs_set he r]
    · rw [List.getElem?_set_ne hj, ownArgs_set he r]
/-- in the midst: the slots that are still to be written lack the list -/
structure Mid (K : PySem.W.Frag) (env : Env) (σ : L2.St) (H G F : Hp) (rem : List Nat) : Prop where
  len : env.length = σ.length
  val : ∀ (i : Nat) d, env[i]? = some (.val d) → ∃ v, σ[i]? = some (some v) ∧ Rep K G d v
  own : ∀ (i : Nat) m d, env[i]? = some (.own m d) → ∃ a, σ[i]? = some (some (.ref a)) ∧ F a = none ∧ ((G a = none ∧ ObjO K G H d a) ∨ i ∈ rem)
  scr : ∀ (i : Nat) ns, env[i]? = some (.scr ns) → ∃ a, σ[i]? = some (some (.ref a)) ∧ SqL K G a (ns.map V.int)
  dj : ∀ (i j : Nat) m n d e a, env[i]? = some (.own m d) → env[j]? = some (.own n e) → σ[i]? = some (some (.ref a)) → σ[j]? = some (some (.ref a)) → i = j
theorem back_mid : ∀ {avs : List Av} {outs : List Sl} {env env2 : Env}, putBack env avs outs = some env2 → Mid K env σ H G F (ownArgs env avs) →
    (∀ (p i m : Nat) (d : Da), avs[p]? = some (.s i) → outs[p]? = some (.own m d) → ∃ a, σ[i]? = some (some (.ref a)) ∧ G a = none ∧ ObjO K G H d a) → Mid K env2 σ H G F []
  | [], [], env, env2, h, M, _ => by simp only [putBack, Option.some.injEq] at h; subst h; exact M
  | [], _ :: _, env, env2, h, M, _ => by simp [putBack] at h
  | .v _ :: _, [], env, env2, h, M, _ => by simp [putBack] at h
  | .s _ :: _, [], env, env2, h, M, _ => by simp [putBack] at h
  | .v _ :: r, o :: os, env, env2, h, M, hO => back_mid (avs := r) (outs := os) h M fun p i m d h1 h2 => hO (p + 1) i m d (by simpa using h1) (by simpa using h2)
  | .s i :: r, o :: os, env, env2, h, M, hO => by
    have hO' : ∀ (p i m : Nat) (d : Da), r[p]? = some (.s i) → os[p]? = some (.own m d) → ∃ a, σ[i]? = some (some (.ref a)) ∧ G a = none ∧ ObjO K G H d a := fun p i m d h1 h2 => hO (p + 1) i m d (by simpa using h1) (by simpa using h2)
    simp only [putBack] at h
    cases he : env[i]? with
    | none =>
      rw [he] at h
      have e : ownArgs env (.s i :: r) = ownArgs env r := by simp only [ownArgs, he]
      rw [e] at M
      exact back_mid h M hO'
    | some s =>
      rw [he] at h
      cases s with
      | own m d0 =>
        have e : ownArgs env (.s i :: r) = i :: ownArgs env r := by simp only [ownArgs, he]
        rw [e] at M
        cases o with
        | own m' d =>
          simp only at h
          have hi : i < env.length := (List.getElem?_eq_some_iff.mp he).1
          obtain ⟨a, q1, q2, q3⟩ := hO 0 i m' d rfl rfl
          have key : ∀ (j : Nat) s, (env.set i (.own m d))[j]? = some s → (j = i ∧ s = .own m d) ∨ (j ≠ i ∧ env[j]? = some s) := fun j s e => by
            by_cases hj : i = j
            · subst hj; rw [List.getElem?_set_self hi] at e; cases e; exact .inl ⟨rfl, rfl⟩
            · rw [List.getElem?_set_ne hj] at e; exact .inr ⟨fun z => hj z.symm, e⟩
          refine back_mid (avs := r) (outs := os) h ?_ hO'
          rw [ownArgs_set he r]
          refine ⟨by rw [List.length_set]; exact M.len, fun j d e => ?_, fun j n d' e => ?_, fun j ns e => ?_, fun j j' n n' d' e a' w1 w2 z1 z2 => ?_⟩
          · rcases key j _ e with ⟨_, z⟩ | ⟨_, e⟩
            · cases z
            · exact M.val j d e
          · rcases key j _ e with ⟨rfl, z⟩ | ⟨hj, e⟩
            · cases z
              obtain ⟨b, f1, f2, _⟩ := M.own j m d0 he
              rw [q1] at f1
              cases f1
              exact ⟨a, q1, f2, .inl ⟨q2, q3⟩⟩
            · obtain ⟨b, f1, f2, f3⟩ := M.own j n d' e
              refine ⟨b, f1, f2, ?_⟩
              rcases f3 with f3 | f3
              · exact .inl f3
              · rcases List.mem_cons.mp f3 with z | z
                · exact absurd z hj
                · exact .inr z
          · rcases key j _ e with ⟨_, z⟩ | ⟨_, e⟩
            · cases z
            · exact M.scr j ns e
          · rcases key j _ w1 with ⟨rfl, z⟩ | ⟨_, x1⟩
            · cases z
              rcases key j' _ w2 with ⟨rfl, z⟩ | ⟨_, x2⟩
              · rfl
              · exact M.dj _ _ _ _ _ _ a' he x2 z1 z2
            · rcases key j' _ w2 with ⟨rfl, z⟩ | ⟨_, x2⟩
              · cases z
                exact M.dj _ _ _ _ _ _ a' x1 he z1 z2
              · exact M.dj _ _ _ _ _ _ a' x1 x2 z1 z2
        | _ => simp at h
      | _ =>
        have e : ownArgs env (.s i :: r) = ownArgs env r := by simp only [ownArgs, he]
        rw [e] at M
        exact back_mid h M hO'
/-- own slots are own slots ahead, and those handed over have come back -/
theorem back_own : ∀ {avs : List Av} {outs : List Sl} {env env2 : Env}, putBack env avs outs = some env2 →
    (∀ (i m : Nat) (d : Da), env2[i]? = some (.own m d) → ∃ d0, env[i]? = some (.own m d0)) ∧
    (∀ (p i m : Nat) (d0 : Da), avs[p]? = some (.s i) → env[i]? = some (.own m d0) → ∃ n d, outs[p]? = some (.own n d))
  | [], [], env, env2, h => by
    simp only [putBack, Option.some.injEq] at h; subst h
    exact ⟨fun i m d e => ⟨d, e⟩, fun p i m d0 h => by simp at h⟩
  | [], _ :: _, env, env2, h => by simp [putBack] at h
  | .v _ :: _, [], env, env2, h => by simp [putBack] at h
  | .s _ :: _, [], env, env2, h => by simp [putBack] at h
  | .v _ :: r, o :: os, env, env2, h => by
    obtain ⟨h1, h2⟩ := back_own (avs := r) (outs := os) h
    refine ⟨h1, fun p i m d0 e1 e2 => ?_⟩
    cases p with
    | zero => simp at e1
    | succ p =>
      obtain ⟨n, d, q⟩ := h2 p i m d0 (by simpa using e1) e2
      exact ⟨n, d, by simpa using q⟩
  | .s i :: r, o :: os, env, env2, h => by
    simp only [putBack] at h
    have other : (∀ m d, env[i]? ≠ some (.own m d)) → putBack env r os = some env2 → (∀ (i m : Nat) (d : Da), env2[i]? = some (.own m d) → ∃ d0, env[i]? = some (.own m d0)) ∧
        (∀ (p j m : Nat) (d0 : Da), (Av.s i :: r)[p]? = some (.s j) → env[j]? = some (.own m d0) → ∃ n d, (o :: os)[p]? = some (.own n d)) := by
      intro hne h
      obtain ⟨h1, h2⟩ := back_own (avs := r) (outs := os) h
      refine ⟨h1, fun p j m d0 e1 e2 => ?_⟩
      cases p with
      | zero => simp at e1; subst e1; exact absurd e2 (hne m d0)
      | succ p =>
        obtain ⟨n, d, q⟩ := h2 p j m d0 (by simpa using e1) e2
        exact ⟨n, d, by simpa using q⟩
    cases he : env[i]? with
    | none => rw [he] at h; exact other (fun m d z => by rw [he] at z; cases z) h
    | some s =>
      rw [he] at h
      cases s with
      | own m d0 =>
        cases o with
        | own m' d =>
          simp only at h
          have hi : i < env.length := (List.getElem?_eq_some_iff.mp he).1
          obtain ⟨h1, h2⟩ := back_own (avs := r) (outs := os) h
          refine ⟨fun j n d' e => ?_, fun p j n d1 e1 e2 => ?_⟩
          · obtain ⟨d2, q⟩ := h1 j n d' e
            by_cases hj : i = j
            · subst hj; rw [List.getElem?_set_self hi] at q; cases q; exact ⟨d0, he⟩
            · rw [List.getElem?_set_ne hj] at q; exact ⟨d2, q⟩
          · cases p with
            | zero => exact ⟨m', d, rfl⟩
            | succ p =>
              have : ∃ d2, (env.set i (.own m d))[j]? = some (.own n d2) := by
                by_cases hj : i = j
                · subst hj; rw [he] at e2; cases e2; exact ⟨d, List.getElem?_set_self hi⟩
                · exact ⟨d1, by rw [List.getElem?_set_ne hj]; exact e2⟩
              obtain ⟨d2, q⟩ := this
              obtain ⟨n', d', q'⟩ := h2 p j n d2 (by simpa using e1) q
              exact ⟨n', d', by simpa using q'⟩
        | _ => simp at h
      | _ => exact other (fun m d z => by rw [he] at z; cases z) h
/-- behind the call, the caller's slots -/
theorem back_rel (r : Rel K env σ H G F) {avs : List Av} {vs : List V} {outs : List Sl} {env2 : Env} {H' G' : Hp} (ar : ArgsR K G σ avs vs) (g : Same G G')
    (ro : Rel K outs (vs.map some) H' G' (frameOf env σ H F avs)) (hb : putBack env avs outs = some env2) : Rel K env2 σ H' G' F := by
  have hout : ∀ (p i m : Nat) (d : Da), avs[p]? = some (.s i) → outs[p]? = some (.own m d) → ∃ a, σ[i]? = some (some (.ref a)) ∧ G' a = none ∧ ObjO K G' H' d a := by
    intro p i m d h1 h2
    obtain ⟨a, q1, q2, q3, q4⟩ := ro.own p m d h2
    obtain ⟨v, e1, e2⟩ := args_get ar h1
    rw [List.getElem?_map, e1] at q1
    simp only [Option.map_some, Option.some.injEq] at q1
    subst q1
    exact ⟨a, e2, q2, q4⟩
  have M : Mid K env σ H' G' F (ownArgs env avs) := by
    refine ⟨r.len, fun i d e => let ⟨v, h1, h2⟩ := r.val i d e; ⟨v, h1, h2.mono g⟩, fun i m d e => ?_, fun i ns e => let ⟨a, h1, h2⟩ := r.scr i ns e; ⟨a, h1, sqL_mono g h2⟩, r.dj⟩
    obtain ⟨a, h1, h2, h3, h4⟩ := r.own i m d e
    refine ⟨a, h1, h3, ?_⟩
    by_cases hm : i ∈ ownArgs env avs
    · exact .inr hm
    · have hk : kept env σ avs a := ⟨i, m, d, e, h1, hm⟩
      have fk : frameOf env σ H F avs a = H a := frame_kept hk
      refine .inl ⟨ro.fg a (by rw [fk]; exact (kept_F r hk).2.2), ?_⟩
      cases d with
      | list ds =>
        obtain ⟨xs, q1, q2⟩ := h4
        exact ⟨xs, ro.fs a _ (by rw [fk]; exact q1), q2.mono g⟩
      | _ => exact h4.elim
  have M2 := back_mid hb M hout
  refine ⟨ro.gs, fun b o e => ?_, fun b hb => ?_, M2.len, M2.val, fun i m d e => ?_, M2.scr, M2.dj⟩
  · refine ro.fs b o ?_
    rw [frame_not fun hk => ?_]
    · exact e
    · rw [(kept_F r hk).1] at e; cases e
  · refine ro.fg b ?_
    rw [frame_not fun hk => ?_]
    · exact hb
    · exact hb (kept_F r hk).1
  · obtain ⟨a, h1, h2, h3⟩ := M2.own i m d e
    rcases h3 with ⟨h3, h4⟩ | h3
    · exact ⟨a, h1, h3, h2, h4⟩
    · simp at h3
theorem back_X (r : Rel K env σ H G F) {avs : List Av} {vs : List V} {outs : List Sl} {env2 : Env} {H' G' : Hp} {d : Da} {v : V} (ar : ArgsR K G σ avs vs)
    (ro : Rel K outs (vs.map some) H' G' (frameOf env σ H F avs)) (hb : putBack env avs outs = some env2) (x : RepX K G' H' (frameOf env σ H F avs) outs (vs.map some) d v) : RepX K G' H' F env2 σ d v := by
  cases d with
  | list ds =>
    obtain ⟨a, xs, rfl, h1, h2, h3, h4, h5⟩ := x
    have nk : ¬ kept env σ avs a := fun hk => (kept_F r hk).2.2 ((frame_kept (H := H) (F := F) hk).symm.trans h3)
    refine ⟨a, xs, rfl, h1, h2, (frame_not (H := H) (F := F) nk).symm.trans h3, fun i m d e z => ?_, h5⟩
    obtain ⟨b1, b2⟩ := back_own hb
    obtain ⟨d0, e0⟩ := b1 i m d e
    by_cases hm : i ∈ ownArgs env avs
    · obtain ⟨p, m', d', q1, q2⟩ := mem_own hm
      obtain ⟨n, d2, q3⟩ := b2 p i m' d' q1 q2
      obtain ⟨w, q4, q5⟩ := args_get ar q1
      have q5' : σ[i]? = some (some w) := q5
      rw [z] at q5'
      cases q5'
      exact h4 p n d2 q3 (by rw [List.getElem?_map, q4]; rfl)
    · exact nk ⟨i, m, d0, e0, z, hm⟩
  | _ => exact x
end
end PI
end
section
set_option Elab.async false
set_option linter.all false
set_option maxRecDepth 100000
/-! PIo: calls as expressions. -/
namespace PI
open PySem PySem.Spec PyProof.Rows L2
section
variable {T : Tab} {k : Nat} {W : WX}
theorem run_len {call : Calls} {f : Nat} {g : Fn} {sls : List Sl} (hg : T.fns[f]? = some g) : sls.length = g.ps.length ∨ runFn T call f sls = .bad := by
  unfold runFn
  rw [hg]
  simp only
  by_cases h : sls.length = g.ps.length
  · exact .inl h
  · rw [if_neg h]; exact .inr rfl
theorem callF_len {f : Nat} {g : Fn} {sls : List Sl} (hg : T.fns[f]? = some g) : sls.length = g.ps.length ∨ callF T k f sls = .bad := by
  cases k with
  | zero => exact .inr rfl
  | succ k => exact run_len hg
/-- what the caller wants, as the callee's promise -/
theorem sp_of {K : PySem.W.Frag} {env : Env} {σ : L2.St} {H G F : Hp} {f : Nat} {g : Fn} {avs : List Av} {vs : List V} {Q : VK} {E : XK} {P : Da → Env → Prop} (hg : T.fns[f]? = some g) (r : Rel K env σ H G F) (ar : ArgsR K G σ avs vs)
    (p : Pst T K W G F σ (callV (callF T k) f avs env) P)
    (hP : ∀ d env' v H' G', P d env' → Same G G' → Rel K env' σ H' G' F → (if g.fresh = true then RepX K G' H' F env' σ d v else Rep K G' d v) → Q v H')
    (hE : ∀ x env' cls dx H' G', ExcTo T K W G F σ x env' → Same G G' → Rel K env' σ H' G' F → ExRep T K G' H' x cls dx → E cls dx H') : spF T k f g K vs H Q E := by
  unfold callV at p
  obtain ⟨sls, hs, p⟩ := p.opt
  obtain ⟨hn, p⟩ := p.ite
  obtain ⟨rc, ho⟩ := callee_rel r ar hs hn
  have hl : vs.length = g.ps.length := by
    rcases callF_len (k := k) (sls := sls) hg with h | h
    · rw [args_len ar, ← resolve_len hs]; exact h
    · rw [h] at p; exact p.elim
  refine ⟨sls, G, frameOf env σ H F avs, hl, rc, ho, ?_⟩
  cases hc : callF T k f sls with
  | bad => rw [hc] at p; exact p
  | ok q =>
    obtain ⟨d, outs⟩ := q
    rw [hc] at p
    simp only at p ⊢
    obtain ⟨env2, hb, p2⟩ := p.opt
    intro v H' G' g1 ro x
    refine hP d env2 v H' G' p2.ok g1 (back_rel r ar g1 ro hb) ?_
    split at x
    · rename_i hf
      rw [if_pos hf]
      exact back_X r ar ro hb x
    · rename_i hf
      rw [if_neg hf]
      exact x
  | exc x outs =>
    rw [hc] at p
    simp only at p ⊢
    obtain ⟨env2, hb, p2⟩ := p.opt
    intro cls dx H' G' g1 ro xr
    exact hE x env2 cls dx H' G' p2 g1 (back_rel r ar g1 ro hb) xr
theorem fresh_call {f : Nat} {es : E} {g : Fn} (hg : T.fns[f]? = some g) : fresh T (.call f es) = g.fresh := by
  unfold fresh; rw [hg]
theorem fnB_ok {f : Nat} {x : Str} (h : fnB T f x = true) : ∃ g, T.fns[f]? = some g ∧ g.name = x := by
  unfold fnB at h
  cases hg : T.fns[f]? with
  | none => rw [hg] at h; cases h
  | some g => rw [hg] at h; exact ⟨g, rfl, of_decide_eq_true h⟩
theorem n_call (f : Nat) {es : E} (s : Snd T k es) : Snd T k (.call f es) := by
  refine Snd.ofE rfl rfl rfl rfl fun {C W X} G ex h => ?_
  split at h
  · rename_i x p1 a as p
    obtain ⟨hc, h⟩ := and2 h
    obtain ⟨h1, h⟩ := and2 h
    obtain ⟨h2, h⟩ := and2 h
    obtain ⟨h3, h⟩ := and2 h
    obtain ⟨h4, h5⟩ := and2 h
    obtain ⟨g, hg, rfl⟩ := fnB_ok h2
    obtain ⟨g1, g2, _⟩ := glo_ok G h1
    obtain ⟨fa, fd, Fok, hmg, hk, hb⟩ := G.fns f g hg
    refine (pe_callS Fok (G.room hc) g1 hmg hk hb (fun σ => passAt G.takes σ) (s.a G h5) g2 (star_of h3) (stars_of h4 _)).imp fun σ H Q hq => ?_
    obtain ⟨env, G', F, r, q⟩ := hq
    refine ⟨env, G', F, r, q.bnd.imp (Same.refl _) fun avs env1 _ p1 vs H1 G1 gg r1 ar => ?_⟩
    refine sp_of hg r1 ar (p1.mono gg) (fun d env' v H' G'' hP g3 r3 x => hP v H' G'' (gg.trans g3) r3 ?_) fun x env' cls dx H' G'' hE g3 r3 xr => hE cls dx H' G'' g3 r3 xr
    unfold RepE
    simp only [borOf]
    rw [fresh_call hg]
    exact x
  · exact absurd h Bool.false_ne_true
theorem n_call0 (f : Nat) : Snd T k (.call0 f) := by
  refine Snd.ofE rfl rfl rfl rfl fun {C W X} G ex h => ?_
  split at h
  · rename_i x p1 p
    obtain ⟨hc, h⟩ := and2 h
    obtain ⟨h1, h2⟩ := and2 h
    obtain ⟨g, hg, rfl⟩ := fnB_ok h2
    obtain ⟨g1, g2, _⟩ := glo_ok G h1
    obtain ⟨fa, fd, Fok, hmg, hk, hb⟩ := G.fns f g hg
    refine (pe_call0 (E := E0) Fok (G.room hc) g1 hmg hk hb .nil passL g2).imp fun σ H Q hq => ?_
    obtain ⟨env, G', F, r, q⟩ := hq
    have q' : Pst T X.K W G' F σ (match callF T k f [] with
      | .ok (d, _) => .ok (d, env)
      | .exc _ _ => .bad
      | .bad => .bad) fun d env' => ∀ v H' G'', Same G' G'' → Rel X.K env' σ H' G'' F → RepE T X.K G'' H' F env' σ (.call0 f) d v → Q v H' := q
    show spF T k f g X.K ([] ++ []) H Q E0
    have ar : ArgsR X.K G' σ [] [] := by simp only [ArgsR]
    obtain ⟨rc, ho⟩ := callee_rel (avs := []) (sls := []) r ar rfl rfl
    have hl : ([] : List V).length = g.ps.length := by
      rcases callF_len (T := T) (k := k) (sls := []) hg with h | h
      · exact h
      · rw [h] at q'; exact q'.elim
    refine ⟨[], G', frameOf env σ H F [], hl, rc, ho, ?_⟩
    cases hcall : callF T k f [] with
    | bad => rw [hcall] at q'; exact q'
    | exc x outs => rw [hcall] at q'; exact q'.elim
    | ok z =>
      obtain ⟨d, outs⟩ := z
      rw [hcall] at q'
      simp only
      intro v H' G'' g3 ro x
      have hlo : outs = [] := by
        have := ro.len
        cases outs with
        | nil => rfl
        | cons _ _ => simp at this
      subst hlo
      refine q' v H' G'' g3 (back_rel (outs := []) r ar g3 ro rfl) ?_
      unfold RepE
      simp only [borOf]
      have hf : fresh T (.call0 f) = g.fresh := by unfold fresh; rw [hg]
      rw [hf]
      split at x
      · rename_i hf
        rw [if_pos hf]
        exact back_X (outs := []) r ar ro rfl x
      · rename_i hf
        rw [if_neg hf]
        exact x
  · exact absurd h Bool.false_ne_true
/-! ### [f, g, ..][i](..) -/
theorem pe_callx {X : Cx} {k : Nat} {y gs e : Expr} {es : List Expr} {p2 pos : Pos} {tf : TE} {t : TA} {E : L2.St → XK} {OK : Addr → Sp → Prop} (hOK : ∀ fa sp, OK fa sp → ∃ fd ps, FnOk X.prog X.w X.K X.mg X.base (L2.CX X.prog X.w) k fa fd ps sp ∧ PySem.W.keepIn X.K (.ref fa) = true ∧ Binds X.K fd ps [])
    (hr : Room k X.A) (hf : PE X (.Subscript gs y p2) tf) (hx : ∀ σ, PassesAt (L2.CX X.prog X.w) X σ (E σ)) (ha : PA X (e :: es) t)
    (he : starEach (e :: es) X.env = (false, eval e X.env) :: starEach es X.env) (hpl : (backTo pos (starEach es X.env)).any (·.1) = false) :
    PE X (.Call (.Subscript gs y p2) (e :: es) [] pos) (fun σ H Q => tf σ H fun v H1 => ∃ fa sp, v = .ref fa ∧ OK fa sp ∧ t σ H1 fun vs H2 => sp vs H2 Q (E σ)) := by
  refine ⟨fun pins s σ H Q I h => ?_⟩
  refine PyProof.Rows.Call_ (thn (hf.run pins s σ H _ I h) fun u s1 ⟨v, H1, I1, r1, q1⟩ => ?_) rfl
  obtain ⟨fa, sp, rfl, ok, q⟩ := q1
  cases r1
  obtain ⟨fd, ps, F, hk, hb⟩ := hOK fa sp ok
  refine PySem.W.callWith_K (h₀ := X.base) I.ok.mod.kin hk (thn (ha.run pos pins s1 σ _ _ I1 q) fun us s2 ⟨vs, H2, I2, r, q⟩ => ⟨I2.kIn, ?_⟩) he hpl
  exact run_fnS F hr hb (hx σ) I2 r q
/-- the defs of a written list -/
theorem fns_pa {C : CC} {X : Cx} (G : GX T k C W X) : ∀ {fs : List Nat} {gs : List Expr}, fnsB T C fs gs = true → ∃ fas : List Addr, fas.length = fs.length ∧
    PA X gs (fun σ H Q => Q (fas.map V.ref) H) ∧ ∀ (j f : Nat) (fa : Addr), fs[j]? = some f → fas[j]? = some fa → ∃ g, T.fns[f]? = some g ∧ ∃ fd, FnOk X.prog X.w X.K X.mg X.base (L2.CX X.prog X.w) (k + 3) fa fd g.ps (spF T k f g X.K) ∧ PySem.W.keepIn X.K (.ref fa) = true ∧ Binds X.K fd g.ps []
  | [], gs, h => by
    cases gs with
    | nil => exact ⟨[], rfl, pa_nil, fun j f fa h => by simp at h⟩
    | cons _ _ => exact absurd h Bool.false_ne_true
  | f :: fs, gs, h => by
    cases gs with
    | nil => exact absurd h Bool.false_ne_true
    | cons x gs =>
      cases x with
      | Name x p =>
        obtain ⟨h1, h⟩ := and2 h
        obtain ⟨h2, h3⟩ := and2 h
        obtain ⟨g, hg, rfl⟩ := fnB_ok h2
        obtain ⟨g1, g2, _⟩ := glo_ok G h1
        obtain ⟨fa, fd, Fok, hmg, hk, hb⟩ := G.fns f g hg
        obtain ⟨fas, hl, pa, hfa⟩ := fns_pa G h3
        refine ⟨fa :: fas, by rw [List.length_cons, List.length_cons, hl], pa_cons (pe_glob (v := .ref fa) g1 hmg rfl g2) pa rfl, fun j f' fa' e1 e2 => ?_⟩
        cases j with
        | zero =>
          simp at e1 e2
          subst e1 e2
          exact ⟨g, hg, fd, Fok, hk, hb⟩
        | succ j => exact hfa j f' fa' (by simpa using e1) (by simpa using e2)
      | _ => exact absurd h Bool.false_ne_true
theorem Rel.weakF {K : PySem.W.Frag} {env : Env} {σ : L2.St} {H G F F' : Hp} (r : Rel K env σ H G F') (h : Same F F') : Rel K env σ H G F where
  gs := r.gs
  fs := fun b o e => r.fs b o (h b o e)
  fg := fun b hb => r.fg b (by
    cases e : F b with
    | none => exact absurd e hb
    | some o => rw [h b o e]; simp)
  len := r.len
  val := r.val
  own := fun i m d e => by
    obtain ⟨a, h1, h2, h3, h4⟩ := r.own i m d e
    have h5 : F a = none := by
      cases e : F a with
      | none => rfl
      | some o => rw [h a o e] at h3; cases h3
    exact ⟨a, h1, h2, h5, h4⟩
  scr := r.scr
  dj := r.dj
/-- a new object, held for a while -/
theorem Rel.hold {K : PySem.W.Frag} {env : Env} {σ : L2.St} {H G F : Hp} (r : Rel K env σ H G F) {p : Addr} {o : HO} (hp : H p = none) : Rel K env σ (upd H p o) G (upd F p o) := by
  have hG := same_none r.gs hp
  have hF := same_none r.fs hp
  refine ⟨fun b x e => same_upd hp _ _ (r.gs b x e), same_upd2 r.fs hp, fun b hb => ?_, r.len, r.val, fun i m d e => ?_, r.scr, r.dj⟩
  · by_cases h : b = p
    · subst h; exact hG
    · rw [upd_ne h] at hb; exact r.fg b hb
  · obtain ⟨a, h1, h2, h3, h4⟩ := r.own i m d e
    have hne : a ≠ p := fun z => by
      subst z
      cases d with
      | list ds => obtain ⟨xs, q, _⟩ := h4; rw [hp] at q; cases q
      | _ => exact h4.elim
    refine ⟨a, h1, h2, by rw [upd_ne hne]; exact h3, ?_⟩
    cases d with
    | list ds => obtain ⟨xs, q, l⟩ := h4; exact ⟨xs, by rw [upd_ne hne]; exact q, l⟩
    | _ => exact h4.elim
theorem ExcTo.weakF {K : PySem.W.Frag} {σ : L2.St} {G F F' : Hp} {x : Ex} {env : Env} (h : ExcTo T K W G F σ x env) (hF : Same F F') : ExcTo T K W G F' σ x env := fun cls dx H' G' g r xr => h cls dx H' G' g (r.weakF hF) xr
theorem Pst.weakF {K : PySem.W.Frag} {α : Type} {σ : L2.St} {G F F' : Hp} {r : R Env (α × Env)} {P : α → Env → Prop} (h : Pst T K W G F σ r P) (hF : Same F F') : Pst T K W G F' σ r P := by
  cases r with
  | ok p => exact h
  | exc x e => exact ExcTo.weakF h hF
  | bad => exact h
theorem n_callx (fs : List Nat) {ix es : E} (u : Snd T k ix) (s : Snd T k es) : Snd T k (.callx fs ix es) := by
  refine Snd.ofE rfl rfl rfl rfl fun {C W X} G ex h => ?_
  split at h
  · rename_i gs p1 y p2 a as p
    obtain ⟨hc, h⟩ := and2 h
    obtain ⟨h0, h⟩ := and2 h
    obtain ⟨h1, h⟩ := and2 h
    obtain ⟨h2, h⟩ := and2 h
    obtain ⟨h3, h⟩ := and2 h
    obtain ⟨h4, h⟩ := and2 h
    obtain ⟨h5, h6⟩ := and2 h
    have h0 := of_decide_eq_true h0
    obtain ⟨fas, hlen, pa, hfa⟩ := fns_pa G h1
    refine (pe_callx (k := k + 3) (OK := fun fa sp => ∃ (j f : Nat) (g : Fn), fs[j]? = some f ∧ fas[j]? = some fa ∧ T.fns[f]? = some g ∧ sp = spF T k f g X.K) (fun fa sp ⟨j, f, g, e1, e2, e3, e4⟩ => ?_) (G.room hc)
      (pe_ix ix_list (pe_lst pa) (u.e G h3) (slice_of h2)) (fun σ => passAt G.takes σ) (s.a G h6) (star_of h4) (stars_of h5 _)).imp fun σ H Q hq => ?_
    · obtain ⟨g', hg', fd, Fok, hk, hb⟩ := hfa j f fa e1 e2
      rw [e3] at hg'
      cases hg'
      subst e4
      exact ⟨fd, g.ps, Fok, hk, hb⟩
    · obtain ⟨env, G', F, r, q⟩ := hq
      have q' : Pst T X.K W G' F σ (((ev T (callF T k) ix).e env).bnd fun x env1 => intB x fun i => optB (L2.ixN fs.length i) fun j => optB fs[j]? fun f => ((ev T (callF T k) es).a env1).bnd fun avs env2 => callV (callF T k) f avs env2) fun d env' => ∀ v H' G'', Same G' G'' → Rel X.K env' σ H' G'' F → RepE T X.K G'' H' F env' σ (.callx fs ix es) d v → Q v H' := q
      by_cases hsz : (fas.map V.ref).length ≤ sizeLine
      · refine ⟨hsz, fun pl hpl => ?_⟩
        have r0 := r.hold (o := .lst (fas.map V.ref)) hpl
        have hF : Same F (upd F pl (.lst (fas.map V.ref))) := same_upd (same_none r.fs hpl)
        refine tE_of r0 ((q'.weakF hF).bnd.imp (Same.refl _) fun x env1 hx p1 v H1 G1 g1 r1 s1 => ?_)
        obtain ⟨i, rfl, p2⟩ := p1.int
        obtain ⟨j, hj, p3⟩ := p2.opt
        obtain ⟨f, hf, p4⟩ := p3.opt
        have ov : v = .int i := r1.operand s1 (rr_self hx)
        have hjl : j < fas.length := by rw [hlen]; exact (List.getElem?_eq_some_iff.mp hf).1
        have hfa' : fas[j]? = some fas[j] := List.getElem?_eq_getElem hjl
        obtain ⟨g, hg, _⟩ := hfa j f _ hf hfa'
        refine ⟨pl, fas.map V.ref, i, .ref fas[j], rfl, ov, SqL.of (r1.fs _ _ upd_same), ?_, fas[j], _, rfl, ⟨j, f, g, hf, hfa', hg, rfl⟩, ?_⟩
        · unfold atI
          rw [List.length_map, hlen, hj]
          show (fas.map V.ref)[j]? = some _
          rw [List.getElem?_map, hfa']; rfl
        · refine ⟨env1, G1, F, r1.weakF hF, ?_⟩
          have p5 : Pst T X.K W G1 F σ (((ev T (callF T k) es).a env1).bnd fun avs env2 => callV (callF T k) f avs env2) fun d env' => ∀ v H' G'', Same G' G'' → Rel X.K env' σ H' G'' F → RepE T X.K G'' H' F env' σ (.callx fs ix es) d v → Q v H' := by
            have q2 := q'.mono g1
            rw [hx] at q2
            have q3 : Pst T X.K W G1 F σ (optB (L2.ixN fs.length i) fun j => optB fs[j]? fun f => ((ev T (callF T k) es).a env1).bnd fun avs env2 => callV (callF T k) f avs env2) fun d env' => ∀ v H' G'', Same G' G'' → Rel X.K env' σ H' G'' F → RepE T X.K G'' H' F env' σ (.callx fs ix es) d v → Q v H' := q2
            rw [hj] at q3
            have q4 : Pst T X.K W G1 F σ (optB fs[j]? fun f => ((ev T (callF T k) es).a env1).bnd fun avs env2 => callV (callF T k) f avs env2) fun d env' => ∀ v H' G'', Same G' G'' → Rel X.K env' σ H' G'' F → RepE T X.K G'' H' F env' σ (.callx fs ix es) d v → Q v H' := q3
            rw [hf] at q4
            exact q4
          refine p5.bnd.imp (Same.refl _) fun avs env2 _ p6 vs H2 G2 g2 r2 ar => ?_
          refine sp_of hg r2 ar (p6.mono g2) (fun d env' v H' G'' hP g3 r3 x => ?_) fun x env' cls dx H' G'' hE g3 r3 xr => hE cls dx H' G'' g3 r3 xr
          by_cases hfr : g.fresh = true
          · rw [if_pos hfr] at x
            have : RepV T X.K G'' H' F env' σ (.kc .none) d v := x
            obtain ⟨G4, g4, r4, s4⟩ := r3.settleV this
            exact hP v H' G4 (((g1.trans g2).trans g3).trans g4) r4 s4
          · rw [if_neg hfr] at x
            exact hP v H' G'' ((g1.trans g2).trans g3) r3 x
      · -- so long a list of defs is not written
        exact absurd (by rw [List.length_map, hlen]; exact Nat.le_trans h0 (by decide)) hsz
  · exact absurd h Bool.false_ne_true
end
end PI
end
section
set_option Elab.async false
set_option linter.all false
set_option maxRecDepth 100000
/-! PIp: a locked slot stays as it is. -/
namespace PI
open PySem

/-- what a slot may be known by, as long as nothing is stored there -/
structure Kp (Φ : Sl → Prop) : Prop where
  own : ∀ {s}, Φ s → ∃ m d, s = .own (m + 1) d
  chg : ∀ {m d d'}, m ≤ 1 → Φ (.own m d) → Φ (.own m d')
  lok : ∀ {m d}, Φ (.own m d) → Φ (.own 2 d)
  unl : ∀ {m m' d d'}, Φ (.own m d) → Φ (.own m' d') → Φ (.own m d')
def isLk (d : Da) (s : Sl) : Prop := s = .own 2 d
def isOw (s : Sl) : Prop := ∃ m d, s = .own (m + 1) d
theorem kp_lk (d : Da) : Kp (isLk d) where
  own := fun h => ⟨1, d, h⟩
  chg := fun h e => by unfold isLk at e; injection e with e1 e2; omega
  lok := fun e => by unfold isLk at e ⊢; injection e with e1 e2; rw [e2]
  unl := fun e e' => by unfold isLk at e e' ⊢; injection e with e1 e2; injection e' with e3 e4; rw [e1, e4]
theorem kp_ow : Kp isOw where
  own := fun h => h
  chg := fun h ⟨m, d, e⟩ => by injection e with e1 e2; exact ⟨m, _, by rw [e1]⟩
  lok := fun _ => ⟨1, _, rfl⟩
  unl := fun ⟨m, d, e⟩ _ => by injection e with e1 e2; exact ⟨m, _, by rw [e1]⟩
section
variable {T : Tab} {call : Calls} {i : Nat} {Φ : Sl → Prop} {α β : Type}
def Ls (i : Nat) (Φ : Sl → Prop) (env : Env) : Prop := ∃ s, env[i]? = some s ∧ Φ s
def Kr (i : Nat) (Φ : Sl → Prop) (r : R Env (α × Env)) : Prop := match r with
  | .ok p => Ls i Φ p.2
  | .exc _ e => Ls i Φ e
  | .bad => True
def KF (i : Nat) (Φ : Sl → Prop) (f : Env → R Env (α × Env)) : Prop := ∀ env, Ls i Φ env → Kr i Φ (f env)
theorem Kr.bnd {r : R Env (α × Env)} {f : α → Env → R Env (β × Env)} (h : Kr i Φ r) (g : ∀ a e, Ls i Φ e → Kr i Φ (f a e)) : Kr i Φ (r.bnd f) := by
  cases r with
  | ok p => exact g _ _ h
  | exc x e => exact h
  | bad => trivial
theorem Kr.bndX {r : R Env (α × Env)} {f : α → Env → R Env (β × Env)} (h : Kr i Φ r) (g : ∀ a e, Ls i Φ e → Kr i Φ (f a e)) : Kr i Φ (r.bndX f) := by
  cases r with
  | ok p => exact g _ _ h
  | exc x e => trivial
  | bad => trivial
theorem Kr.opt {γ : Type} {o : Option γ} {f : γ → R Env (α × Env)} (h : ∀ a, o = some a → Kr i Φ (f a)) : Kr i Φ (optB o f) := by
  cases o with
  | none => trivial
  | some a => exact h a rfl
theorem Kr.int {x : Da} {f : Int → R Env (α × Env)} (h : ∀ a, Kr i Φ (f a)) : Kr i Φ (intB x f) := by
  cases x <;> first | exact h _ | trivial
theorem Kr.lst {x : Da} {f : List Da → R Env (α × Env)} (h : ∀ a, Kr i Φ (f a)) : Kr i Φ (lstB x f) := by
  cases x <;> first | exact h _ | trivial
theorem Kr.ite {c : Bool} {r : R Env (α × Env)} (h : c = true → Kr i Φ r) : Kr i Φ (iteB c r) := by
  cases c with
  | true => exact h rfl
  | false => trivial
theorem Kr.ok {a : α} {e : Env} (h : Ls i Φ e) : Kr i Φ (.ok (a, e)) := h
theorem Ls.set {env : Env} (h : Ls i Φ env) {j : Nat} {s : Sl} (hj : j ≠ i) : Ls i Φ (env.set j s) := by
  obtain ⟨s', e, f⟩ := h
  exact ⟨s', by rw [List.getElem?_set_ne hj]; exact e, f⟩
theorem Ls.set' {env : Env} (h : Ls i Φ env) {j : Nat} {s s' : Sl} (hj : env[j]? = some s') (hs : ¬ Φ s') : Ls i Φ (env.set j s) := h.set fun z => by
  subst z
  obtain ⟨_, e, f⟩ := h
  rw [hj] at e
  cases e
  exact hs f
variable (K : Kp Φ)
include K
theorem Kp.val {d : Da} (h : Φ (.val d)) : False := by
  obtain ⟨_, _, z⟩ := K.own h
  cases z
theorem Kp.un (h : Φ .un) : False := by
  obtain ⟨_, _, z⟩ := K.own h
  cases z
theorem Kp.exc {x : Ex} (h : Φ (.exc x)) : False := by
  obtain ⟨_, _, z⟩ := K.own h
  cases z
theorem Kp.scr {x : List Int} (h : Φ (.scr x)) : False := by
  obtain ⟨_, _, z⟩ := K.own h
  cases z
theorem Kp.zero {d : Da} (h : Φ (.own 0 d)) : False := by
  obtain ⟨_, _, z⟩ := K.own h
  cases z
theorem Ls.own {env : Env} (h : Ls i Φ env) {j m : Nat} {d d' : Da} (hj : env[j]? = some (.own m d)) (hm : m ≤ 1) : Ls i Φ (env.set j (.own m d')) := by
  by_cases e : j = i
  · subst e
    obtain ⟨_, e, f⟩ := h
    rw [hj] at e
    cases e
    exact ⟨_, List.getElem?_set_self (List.getElem?_eq_some_iff.mp hj).1, K.chg hm f⟩
  · exact h.set e
omit K
theorem truB_k (x : Da) : KF i Φ (truB x) := fun env h => .opt fun b _ => h
/-! ### stores -/
variable (K : Kp Φ)
include K
theorem setv_k {env env' : Env} {j : Nat} {x : Da} (h : Ls i Φ env) (e : setv env j x = some env') : Ls i Φ env' := by
  unfold setv at e
  cases hj : env[j]? with
  | none => rw [hj] at e; cases e
  | some s =>
    rw [hj] at e
    cases s with
    | own m z =>
      cases m with
      | zero => cases e; exact h.set' hj K.zero
      | succ m => cases e
    | scr ns => cases e
    | un => cases e; exact h.set' hj K.un
    | val _ => cases e; exact h.set' hj K.val
    | exc _ => cases e; exact h.set' hj K.exc
theorem setO_k {env env' : Env} {j : Nat} {x : Da} (h : Ls i Φ env) (e : setO env j x = some env') : Ls i Φ env' := by
  unfold setO at e
  cases hx : isLst x with
  | false => rw [hx] at e; cases e
  | true =>
    rw [hx] at e
    simp only at e
    cases hj : env[j]? with
    | none => rw [hj] at e; cases e
    | some s =>
      rw [hj] at e
      cases s with
      | own m z =>
        cases m with
        | zero => cases e; exact h.set' hj K.zero
        | succ m => cases e
      | scr ns => cases e
      | un => cases e; exact h.set' hj K.un
      | val _ => cases e; exact h.set' hj K.val
      | exc _ => cases e; exact h.set' hj K.exc
mutual
theorem asgT_k : ∀ (t : Tg) {x : Da} {env env' : Env}, Ls i Φ env → asgT t x env = some env' → Ls i Φ env'
  | .nm j, x, env, env', h, e => setv_k K h (by simpa only [asgT] using e)
  | .tup ts, x, env, env', h, e => by
    cases x with
    | tuple ds => exact asgTs_k ts (ds := ds) h (by simpa only [asgT] using e)
    | list ds => exact asgTs_k ts (ds := ds) h (by simpa only [asgT] using e)
    | _ => simp [asgT] at e
  | .nil, x, env, env', h, e => by cases x <;> simp [asgT] at e
  | .cons _ _, x, env, env', h, e => by cases x <;> simp [asgT] at e
theorem asgTs_k : ∀ (t : Tg) {ds : List Da} {env env' : Env}, Ls i Φ env → asgTs t ds env = some env' → Ls i Φ env'
  | .nil, [], env, env', h, e => by simp only [asgTs, Option.some.injEq] at e; subst e; exact h
  | .nil, _ :: _, env, env', h, e => by simp [asgTs] at e
  | .cons t ts, [], env, env', h, e => by simp [asgTs] at e
  | .cons t ts, x :: ds, env, env', h, e => by
    simp only [asgTs] at e
    cases h1 : asgT t x env with
    | none => rw [h1] at e; cases e
    | some env1 => rw [h1] at e; exact asgTs_k ts (asgT_k t h h1) e
  | .nm _, ds, env, env', h, e => by cases ds <;> simp [asgTs] at e
  | .tup _, ds, env, env', h, e => by cases ds <;> simp [asgTs] at e
end
/-! ### calls -/
omit K in
theorem resolve_k {env : Env} : ∀ {avs : List Av} {sls : List Sl}, resolve env avs = some sls → Av.s i ∈ avs → ∀ {m d}, env[i]? = some (.own m d) → m ≤ 1
  | [], _, _, z, _, _, _ => by cases z
  | .v x :: r, sls, e, z, m, d, h => by
    simp only [resolve] at e
    cases hr : resolve env r with
    | none => rw [hr] at e; cases e
    | some l => exact resolve_k hr (by simpa using z) h
  | .s j :: r, sls, e, z, m, d, h => by
    simp only [resolve] at e
    cases hr : resolve env r with
    | none =>
      rw [hr] at e
      split at e <;> simp_all
    | some l =>
      rcases List.mem_cons.mp z with z | z
      · cases z
        rw [h, hr] at e
        match m, e with
        | 0, _ => exact Nat.zero_le _
        | 1, _ => exact Nat.le_refl _
        | m + 2, e => simp at e
      · exact resolve_k hr z h
theorem putBack_k : ∀ {avs : List Av} {outs : List Sl} {env env' : Env}, Ls i Φ env → (Av.s i ∈ avs → ∀ {m d}, env[i]? = some (.own m d) → m ≤ 1) → putBack env avs outs = some env' → Ls i Φ env'
  | [], [], env, env', h, _, e => by simp only [putBack, Option.some.injEq] at e; subst e; exact h
  | [], _ :: _, env, env', h, _, e => by simp [putBack] at e
  | .v x :: r, [], env, env', h, _, e => by simp [putBack] at e
  | .s x :: r, [], env, env', h, _, e => by simp [putBack] at e
  | .v x :: r, o :: os, env, env', h, n, e => putBack_k h (fun z => n (List.mem_cons_of_mem _ z)) (by simpa only [putBack] using e)
  | .s j :: r, o :: os, env, env', h, n, e => by
    simp only [putBack] at e
    split at e
    · rename_i m z hz
      split at e
      · rename_i m' d'
        by_cases hj : j = i
        · rw [hj] at hz e
          have hm := n (by rw [hj]; exact List.mem_cons_self) hz
          refine putBack_k (Ls.own K h hz hm) (fun _ m' d'' e' => ?_) e
          rw [List.getElem?_set_self (List.getElem?_eq_some_iff.mp hz).1] at e'
          cases e'
          exact hm
        · refine putBack_k (h.set hj) (fun q m' d'' e' => ?_) e
          rw [List.getElem?_set_ne hj] at e'
          exact n (List.mem_cons_of_mem _ q) e'
      · cases e
    · exact putBack_k h (fun z => n (List.mem_cons_of_mem _ z)) e
theorem callV_k (f : Nat) (avs : List Av) : KF i Φ (callV call f avs) := fun env h => by
  unfold callV
  refine .opt fun sls hs => .ite fun _ => ?_
  have hn : Av.s i ∈ avs → ∀ {m d}, env[i]? = some (.own m d) → m ≤ 1 := fun z m d e => resolve_k hs z e
  cases call f sls with
  | ok p =>
    obtain ⟨x, outs⟩ := p
    exact .opt fun env1 he => Kr.ok (putBack_k K h hn he)
  | exc x outs =>
    show Kr i Φ (optB (putBack env avs outs) fun env1 => R.exc x env1)
    exact .opt fun env1 he => putBack_k K h hn he
  | bad => trivial
/-! ### locks, comprehensions -/
theorem lock_k {env : Env} (h : Ls i Φ env) : ∀ lk, Ls i Φ (lock env lk)
  | none => h
  | some j => by
    unfold lock
    simp only
    split
    · rename_i m z hj
      by_cases e : j = i
      · subst e
        obtain ⟨_, h, f⟩ := h
        rw [hj] at h
        cases h
        exact ⟨_, List.getElem?_set_self (List.getElem?_eq_some_iff.mp hj).1, K.lok f⟩
      · exact h.set e
    · exact h
theorem unlock_k {env0 env : Env} (h0 : Ls i Φ env0) (h : Ls i Φ env) : ∀ lk, Ls i Φ (unlock env0 env lk)
  | none => h
  | some j => by
    unfold unlock
    simp only
    split
    · rename_i m z m' z' hj hj'
      by_cases e : j = i
      · subst e
        obtain ⟨_, h, f⟩ := h
        obtain ⟨_, h0, f0⟩ := h0
        rw [hj'] at h
        rw [hj] at h0
        cases h
        cases h0
        exact ⟨_, List.getElem?_set_self (List.getElem?_eq_some_iff.mp hj').1, K.unl f0 f⟩
      · exact h.set e
    · exact h
theorem plainAt_k {env : Env} (h : Ls i Φ env) {vs : List Nat} (p : plainAt env vs = true) : i ∉ vs := fun hi => by
  have := List.all_eq_true.mp p i hi
  obtain ⟨_, h, f⟩ := h
  obtain ⟨_, _, rfl⟩ := K.own f
  rw [h] at this
  cases this
omit K in
theorem wipeE_k {env : Env} (h : Ls i Φ env) : ∀ {vs : List Nat}, i ∉ vs → Ls i Φ (wipeE env vs)
  | [], _ => h
  | v :: vs, hn => by
    unfold wipeE
    exact (wipeE_k h fun z => hn (List.mem_cons_of_mem _ z)).set fun z => hn (by rw [z]; exact List.mem_cons_self)
omit K in
theorem restE_k {env0 env : Env} (h : Ls i Φ env) : ∀ {vs : List Nat}, i ∉ vs → Ls i Φ (restE env0 env vs)
  | [], _ => h
  | v :: vs, hn => by
    unfold restE
    have := restE_k (env0 := env0) h (vs := vs) fun z => hn (List.mem_cons_of_mem _ z)
    split
    · exact this.set fun z => hn (by rw [z]; exact List.mem_cons_self)
    · exact this
theorem lcStep_k {vs : List Nat} {tg : Tg} {C : Env → R Env (Bool × Env)} {A : Env → R Env (Da × Env)} (hC : KF i Φ C) (hA : KF i Φ A) (hn : i ∉ vs) (x : Da) : KF i Φ (lcStep vs tg C A x) := fun env h => by
  unfold lcStep
  refine .opt fun env2 h2 => (hC env2 (asgT_k K tg h h2)).bndX fun b env3 h3 => ?_
  cases b with
  | true => exact (hA env3 h3).bndX fun y env4 h4 => Kr.ok (wipeE_k h4 hn)
  | false => exact Kr.ok (wipeE_k h3 hn)
omit K in
theorem lcLoop_k {step : Da → Env → R Env (Option Da × Env)} (hs : ∀ x, KF i Φ (step x)) : ∀ xs, KF i Φ (lcLoop step xs)
  | [], env, h => h
  | x :: xs, env, h => by
    unfold lcLoop
    exact (hs x env h).bndX fun o env1 h1 => (lcLoop_k hs xs env1 h1).bndX fun ds env2 h2 => Kr.ok h2
theorem evLc_k {vs : List Nat} {lk : Option Nat} {step : Da → Env → R Env (Option Da × Env)} (hs : i ∉ vs → ∀ x, KF i Φ (step x)) (xs : List Da) : KF i Φ (evLc vs lk step xs) := fun env h => by
  unfold evLc
  refine .ite fun hp => ?_
  rw [Bool.and_eq_true] at hp
  have hn := plainAt_k K h hp.1
  exact (lcLoop_k (hs hn) xs _ (wipeE_k (lock_k K h lk) hn)).bndX fun ds env5 h5 => Kr.ok (unlock_k K h (restE_k h5 hn) lk)
/-! ### expressions -/
structure KE (j : Nat) (Φ : Sl → Prop) (r : EvR) : Prop where
  e : KF j Φ r.e
  v : KF j Φ r.v
  t : KF j Φ r.t
  l : KF j Φ r.l
  a : KF j Φ r.a
  i : KF j Φ r.i
  p : KF j Φ r.p
  m : KF j Φ r.m
  c : KF j Φ r.c
omit K in
theorem KF.no : KF i Φ (fun _ => (.bad : R Env (α × Env))) := fun _ _ => trivial
omit K in
theorem KE.none : KE i Φ .none := ⟨.no, .no, .no, .no, .no, .no, .no, .no, .no⟩
omit K in
theorem KE.ofT {f : Env → R Env (Da × Env)} {t : Env → R Env (Bool × Env)} (h : KF i Φ f) (ht : KF i Φ t) : KE i Φ (.ofT f t) where
  e := h
  v := h
  t := ht
  l := .no
  a := .no
  i := fun env k => (h env k).bnd fun x e1 k1 => .opt fun xs _ => Kr.ok k1
  p := fun env k => (h env k).bnd fun x e1 k1 => .int fun n => Kr.ok k1
  m := h
  c := ht
omit K in
theorem KE.ofE {f : Env → R Env (Da × Env)} (h : KF i Φ f) : KE i Φ (.ofE f) := .ofT h fun env k => (h env k).bnd fun x e1 k1 => truB_k x e1 k1
omit K in
theorem two_k {a : E} {A B : Env → R Env (Da × Env)} {f : Da → Da → Env → R Env (α × Env)} (hA : KF i Φ A) (hB : KF i Φ B) (hf : ∀ x y, KF i Φ (f x y)) : KF i Φ fun env => two a A B env f := fun env k => by
  unfold two
  exact (hA env k).bnd fun x e1 k1 => (hB e1 k1).bnd fun y e2 k2 => .opt fun x' _ => hf x' y e2 k2
omit K in
theorem evBor_k (j : Nat) : KF i Φ (evBor j) := fun env h => by
  unfold evBor
  split <;> first | exact Kr.ok h | trivial
theorem evVar_k (j : Nat) : KF i Φ (evVar j) := fun env h => by
  unfold evVar
  split
  · exact Kr.ok h
  · rename_i hj
    exact Kr.ok (h.set' hj K.zero)
  · trivial
theorem evMv_k (j : Nat) : KF i Φ (evMv j) := fun env h => by
  unfold evMv
  split
  · rename_i hj
    exact Kr.ok (h.set' hj K.zero)
  · trivial
omit K in
theorem evIo_k (j : Nat) : KF i Φ (evIo j) := fun env h => by
  unfold evIo
  split
  · exact Kr.ok h
  · trivial
omit K in
theorem isC_k (n : Bool) (y x : Da) : KF i Φ (isC n y x) := fun env h => by
  unfold isC
  split
  · exact Kr.ok h
  · split
    · exact Kr.ok h
    · trivial
  · trivial
omit K in
theorem own_k {env : Env} {j : Nat} {f : Nat → List Da → R Env (α × Env)} (h : ∀ m xs, env[j]? = some (.own m (.list xs)) → m ≤ 1 → Kr i Φ (f m xs)) : Kr i Φ (ownB env j f) := by
  unfold ownB
  split
  · rename_i m xs hj
    split
    · exact h m xs hj (by assumption)
    · trivial
  · trivial
theorem keep : ∀ e : E, KE i Φ (ev T call e)
  | .var j => .ofE (evVar_k K j)
  | .bor j => { KE.ofE (evBor_k j) with v := .no, m := .no }
  | .mv j => .ofE (evMv_k K j)
  | .io j => { KE.none with i := evIo_k j }
  | .kc x => .ofE fun env h => Kr.ok h
  | .gl c => .ofE fun env h => .opt fun p _ => Kr.ok h
  | .nil => { KE.none with l := fun env h => Kr.ok h, a := fun env h => Kr.ok h, p := fun env h => Kr.ok h, m := fun env h => Kr.ok h, c := fun env h => Kr.ok h }
  | .cons x r => { KE.none with
    l := fun env h => ((keep x).v env h).bnd fun y e1 h1 => ((keep r).l e1 h1).bnd fun ds e2 h2 => Kr.ok h2
    a := by
      have hh : KF i Φ fun env => ((ev T call x).v env).bnd fun d env1 => ((ev T call r).a env1).bnd fun ds env2 => .ok (Av.v d :: ds, env2) := fun env h => ((keep x).v env h).bnd fun y e1 h1 => ((keep r).a e1 h1).bnd fun ds e2 h2 => Kr.ok h2
      cases x with
      | io j => exact fun env h => .ite fun _ => ((keep r).a env h).bnd fun ds e2 h2 => Kr.ok h2
      | _ => exact hh }
  | .tup es => .ofE fun env h => ((keep es).l env h).bnd fun ds e1 h1 => .ite fun _ => Kr.ok h1
  | .lst es => .ofE fun env h => ((keep es).l env h).bnd fun ds e1 h1 => .ite fun _ => Kr.ok h1
  | .call f es => .ofE fun env h => ((keep es).a env h).bnd fun avs e1 h1 => callV_k K f avs e1 h1
  | .call0 f => .ofE fun env h => by
    show Kr i Φ (match call f [] with
      | .ok (d, _) => .ok (d, env)
      | .exc _ _ => .bad
      | .bad => .bad)
    cases call f [] with
    | ok p => exact Kr.ok h
    | exc _ _ => trivial
    | bad => trivial
  | .callx fs ix es => .ofE fun env h => ((keep ix).e env h).bnd fun x e1 h1 => .int fun n => .opt fun k _ => .opt fun f _ => ((keep es).a e1 h1).bnd fun avs e2 h2 => callV_k K f avs e2 h2
  | .b1 b a => .ofE fun env h => ((keep a).e env h).bnd fun x e1 h1 => .opt fun z _ => Kr.ok h1
  | .b2 b a c => .ofE (two_k (keep a).e (keep c).e fun x y e2 h2 => .opt fun z _ => Kr.ok h2)
  | .m1 m o a => .ofE fun env h => ((keep o).e env h).bnd fun x e1 h1 => .ite fun _ => ((keep a).e e1 h1).bnd fun y e2 h2 => .opt fun z _ => .opt fun z' _ => Kr.ok h2
  | .mm m j a => .ofE fun env h => .ite fun _ => ((keep a).m env h).bnd fun y e1 h1 => own_k fun k xs hj hk => .opt fun p _ => Kr.ok (Ls.own K h1 hj hk)
  | .bin o a b => .ofE (two_k (keep a).e (keep b).e fun x y e2 h2 => .opt fun z _ => Kr.ok h2)
  | .neg a => .ofE fun env h => ((keep a).e env h).bnd fun x e1 h1 => .int fun n => Kr.ok h1
  | .cmp o a b => .ofE (two_k (keep a).e (keep b).e fun x y e2 h2 => .opt fun z _ => Kr.ok h2)
  | .chain o o' a b c => .ofE fun env h => ((keep a).e env h).bnd fun x e1 h1 => ((keep b).e e1 h1).bnd fun y e2 h2 => .opt fun x' _ => .opt fun k _ => by
    cases k with
    | true => exact ((keep c).e e2 h2).bnd fun z e3 h3 => .opt fun y' _ => .opt fun z' _ => Kr.ok h3
    | false => exact Kr.ok h2
  | .isC n a x => .ofE fun env h => ((keep a).e env h).bnd fun y e1 h1 => isC_k n x y e1 h1
  | .isi a t => .ofE fun env h => ((keep a).e env h).bnd fun x e1 h1 => .ite fun _ => Kr.ok h1
  | .nt a => .ofT (fun env h => ((keep a).e env h).bnd fun x e1 h1 => .opt fun b _ => Kr.ok h1) fun env h => ((keep a).t env h).bnd fun b e1 h1 => Kr.ok h1
  | .and a b => .ofT (fun env h => ((keep a).v env h).bnd fun x e1 h1 => .opt fun k _ => by
      cases k with
      | true => exact (keep b).v e1 h1
      | false => exact Kr.ok h1) fun env h => ((keep a).t env h).bnd fun k e1 h1 => by
      cases k with
      | true => exact (keep b).t e1 h1
      | false => exact Kr.ok h1
  | .or a b => .ofT (fun env h => ((keep a).v env h).bnd fun x e1 h1 => .opt fun k _ => by
      cases k with
      | true => exact Kr.ok h1
      | false => exact (keep b).v e1 h1) fun env h => ((keep a).t env h).bnd fun k e1 h1 => by
      cases k with
      | true => exact Kr.ok h1
      | false => exact (keep b).t e1 h1
  | .ite c a b => .ofE fun env h => ((keep c).t env h).bnd fun k e1 h1 => by
      cases k with
      | true => exact (keep a).v e1 h1
      | false => exact (keep b).v e1 h1
  | .idx a b => .ofE (two_k (keep a).e (keep b).e fun x y e2 h2 => .opt fun z _ => Kr.ok h2)
  | .sl a lo hi => .ofE fun env h => ((keep a).e env h).bnd fun x e1 h1 => ((keep lo).p e1 h1).bnd fun l e2 h2 => ((keep hi).p e2 h2).bnd fun u e3 h3 => .opt fun x' _ => .opt fun z _ => Kr.ok h3
  | .rev a => .ofE fun env h => ((keep a).e env h).bnd fun x e1 h1 => .opt fun z _ => Kr.ok h1
  | .rg1 a => { KE.none with i := fun env h => ((keep a).e env h).bnd fun x e1 h1 => .int fun n => .opt fun z _ => Kr.ok h1 }
  | .rg2 a b => { KE.none with i := fun env h => ((keep a).e env h).bnd fun x e1 h1 => ((keep b).e e1 h1).bnd fun y e2 h2 => .int fun n => .int fun n' => .opt fun z _ => Kr.ok h2 }
  | .rg3 _ _ _ => .none
  | .enm a => { KE.none with i := fun env h => ((keep a).e env h).bnd fun x e1 h1 => .lst fun xs => Kr.ok h1 }
  | .zip a b => { KE.none with i := two_k (keep a).v (keep b).v fun x y e2 h2 => .lst fun xs => .lst fun ys => Kr.ok h2 }
  | .lc vs tg it cond elt => .ofE fun env h => ((keep it).i env h).bnd fun xs e1 h1 => evLc_k K (fun hn => lcStep_k K (keep cond).c (keep elt).v hn) xs e1 h1
/-! ### statements -/
structure KS (j : Nat) (Φ : Sl → Prop) (r : SvR) : Prop where
  s : KF j Φ r.s
  h : ∀ x, KF j Φ (r.h x)
omit K in
theorem KS.ofS {f : Env → R Env (Fl × Env)} (h : KF i Φ f) : KS i Φ (.ofS f) := ⟨h, fun x env k => k⟩
theorem setB_k {env : Env} (h : Ls i Φ env) {j : Nat} {x : Da} : Kr i Φ (setB (setv env j x)) := Kr.opt fun e he => Kr.ok (setv_k K h he)
theorem setBO_k {env : Env} (h : Ls i Φ env) {j : Nat} {x : Da} : Kr i Φ (setB (setO env j x)) := Kr.opt fun e he => Kr.ok (setO_k K h he)
theorem parSet_k : ∀ (ts : List (Nat × Bool)) {ds : List Da} {env env' : Env}, Ls i Φ env → parSet env ts ds = some env' → Ls i Φ env'
  | [], [], env, env', h, e => by simp only [parSet, Option.some.injEq] at e; subst e; exact h
  | [], _ :: _, env, env', h, e => by simp [parSet] at e
  | (j, o) :: ts, [], env, env', h, e => by simp [parSet] at e
  | (j, o) :: ts, x :: ds, env, env', h, e => by
    simp only [parSet] at e
    cases h1 : parSet env ts ds with
    | none => rw [h1] at e; cases e
    | some env1 =>
      rw [h1] at e
      have h2 := parSet_k ts h h1
      cases o with
      | true => exact setO_k K h2 e
      | false => exact setv_k K h2 e
omit K in
theorem putI_is (env : Env) (j : Nat) (k : Int) (x : Da) : putI env j k x = .bad ∨ ∃ m xs jj, env[j]? = some (.own m (.list xs)) ∧ m ≤ 1 ∧ L2.ixN xs.length k = some jj ∧ putI env j k x = .ok (env.set j (.own m (.list (xs.set jj x)))) := by
  unfold putI ownB
  cases hj : env[j]? with
  | none => exact .inl rfl
  | some s =>
    cases s with
    | own m d =>
      cases d with
      | list xs =>
        by_cases hm : m ≤ 1
        · simp only
          rw [if_pos hm]
          cases hk : L2.ixN xs.length k with
          | none => exact .inl rfl
          | some jj => exact .inr ⟨m, xs, jj, rfl, hm, hk, rfl⟩
        · simp only
          rw [if_neg hm]
          exact .inl rfl
      | _ => exact .inl rfl
    | _ => exact .inl rfl
theorem putI_k {env env' : Env} (h : Ls i Φ env) {j : Nat} {k : Int} {x : Da} (e : putI env j k x = .ok env') : Ls i Φ env' := by
  rcases putI_is env j k x with z | ⟨m, xs, jj, h1, h2, _, h3⟩
  · rw [z] at e; cases e
  · rw [h3] at e
    cases e
    exact Ls.own K h h1 h2
theorem setX_k {env env' : Env} (h : Ls i Φ env) {j : Nat} {x : Ex} (e : setX env j x = some env') : Ls i Φ env' := by
  unfold setX at e
  split at e
  · cases e
  · cases e
  · rename_i s n1 n2 hj
    cases e
    refine h.set' hj fun z => ?_
    obtain ⟨m, d, z⟩ := K.own z
    exact n1 _ _ z
  · cases e
omit K in
theorem forLoop_k {step : Da → Env → R Env (Fl × Env)} (hs : ∀ x, KF i Φ (step x)) : ∀ xs, KF i Φ (forLoop step xs)
  | [], env, h => h
  | x :: xs, env, h => by
    unfold forLoop
    have := hs x env h
    split <;> (rename_i e; rw [e] at this)
    · exact forLoop_k hs xs _ this
    · exact forLoop_k hs xs _ this
    · exact this
    · exact this
    · exact this
    · trivial
omit K in
theorem whLoop_k {c : Env → R Env (Bool × Env)} {step : Env → R Env (Fl × Env)} (hc : KF i Φ c) (hs : KF i Φ step) : ∀ n, KF i Φ (whLoop c step n)
  | 0, env, h => trivial
  | n + 1, env, h => by
    unfold whLoop
    have h1 := hc env h
    split
    · rename_i env0 e1
      rw [e1] at h1
      have h2 := hs env0 h1
      split <;> (rename_i e; rw [e] at h2)
      · exact whLoop_k hc hs n _ h2
      · exact whLoop_k hc hs n _ h2
      · exact h2
      · exact h2
      · exact h2
      · trivial
    · rename_i env0 e1
      rw [e1] at h1
      exact h1
    · rename_i e1
      rw [e1] at h1
      exact h1
    · trivial
omit K in
theorem seqB_k {r : R Env (Fl × Env)} {f : Env → R Env (Fl × Env)} (h : Kr i Φ r) (g : KF i Φ f) : Kr i Φ (seqB r f) := by
  unfold seqB
  split
  · exact g _ h
  · exact h
theorem unlk_k {env0 : Env} (h0 : Ls i Φ env0) {r : R Env (Fl × Env)} (h : Kr i Φ r) (lk : Option Nat) : Kr i Φ (unlk env0 lk r) := by
  unfold unlk
  split
  · exact Kr.ok (unlock_k K h0 h lk)
  · exact unlock_k K h0 h lk
  · trivial
theorem ks_setI (j : Nat) {A B : Env → R Env (Da × Env)} (hA : KF i Φ A) (hB : KF i Φ B) : KF i Φ fun env => (A env).bnd fun d env1 => iteB (ownL env1 j) ((B env1).bnd fun k env2 => intB k fun k => match putI env2 j k d with
      | .ok env3 => .ok (Fl.nx, env3)
      | _ => .bad) := fun env h => (hA env h).bnd fun x e1 h1 => .ite fun _ => (hB e1 h1).bnd fun y e2 h2 => .int fun n => by
  cases hp : putI e2 j n x with
  | ok e3 => exact putI_k K h2 hp
  | exc _ _ => trivial
  | bad => trivial
theorem ks_swp (j : Nat) {A B IA IB : Env → R Env (Da × Env)} (hA : KF i Φ A) (hB : KF i Φ B) (hIA : KF i Φ IA) (hIB : KF i Φ IB) : KF i Φ fun env => (A env).bnd fun x env1 => (B env1).bnd fun y env2 => (IA env2).bnd fun k env3 => intB k fun k => match putI env3 j k x with
      | .ok env4 => (IB env4).bnd fun k' env5 => intB k' fun k' => match putI env5 j k' y with
        | .ok env6 => .ok (Fl.nx, env6)
        | _ => .bad
      | _ => .bad := fun env h => (hA env h).bnd fun x e1 h1 => (hB e1 h1).bnd fun y e2 h2 => (hIA e2 h2).bnd fun z e3 h3 => .int fun n => by
  cases hp : putI e3 j n x with
  | ok e4 =>
    exact (hIB e4 (putI_k K h3 hp)).bnd fun z e5 h5 => .int fun n' => by
      cases hp : putI e5 j n' y with
      | ok e6 => exact putI_k K h5 hp
      | exc _ _ => trivial
      | bad => trivial
  | exc _ _ => trivial
  | bad => trivial
theorem ks_aug (j : Nat) (o : BOp) {A : Env → R Env (Da × Env)} (hA : KF i Φ A) : KF i Φ fun env => match env[j]? with
    | some (.val x) => augB o j x env A
    | _ => .bad := fun env h => by
  show Kr i Φ (match env[j]? with
    | some (.val x) => augB o j x env A
    | _ => .bad)
  cases hj : env[j]? with
  | none => trivial
  | some s =>
    cases s with
    | val x => exact .int fun _ => (hA env h).bnd fun y e1 h1 => .int fun _ => .opt fun d _ => setB_k K h1
    | _ => trivial
omit K in
theorem ks_ite {C : Env → R Env (Bool × Env)} {f g : Env → R Env (Fl × Env)} (hC : KF i Φ C) (hf : KF i Φ f) (hg : KF i Φ g) : KF i Φ fun env => (C env).bnd fun k env1 => match k with
      | true => f env1
      | false => g env1 := fun env h => (hC env h).bnd fun k e1 h1 => by
  cases k with
  | true => exact hf e1 h1
  | false => exact hg e1 h1
omit K in
theorem ks_raise (c : Nat) {A : Env → R Env (Da × Env)} (hA : KF i Φ A) : KF i Φ fun env => match T.cls[c]? with
    | some (_, none) => (.exc ⟨c, none⟩ env : R Env (Fl × Env))
    | some (_, some f) => (A env).bnd fun d env1 => if iniV f d then .exc ⟨c, some d⟩ env1 else .bad
    | none => .bad := fun env h => by
  show Kr i Φ (match T.cls[c]? with
    | some (_, none) => (.exc ⟨c, none⟩ env : R Env (Fl × Env))
    | some (_, some f) => (A env).bnd fun d env1 => if iniV f d then .exc ⟨c, some d⟩ env1 else .bad
    | none => .bad)
  cases hc : T.cls[c]? with
  | none => trivial
  | some p =>
    obtain ⟨n, o⟩ := p
    cases o with
    | none => exact h
    | some f =>
      refine Kr.bnd (hA env h) (fun x e1 h1 => ?_)
      cases iniV f x with
      | true => exact h1
      | false => trivial
omit K in
theorem ks_try {f : Env → R Env (Fl × Env)} {g : Ex → Env → R Env (Fl × Env)} (hf : KF i Φ f) (hg : ∀ x, KF i Φ (g x)) : KF i Φ fun env => tryB (f env) g := fun env h => by
  show Kr i Φ (tryB (f env) g)
  have h1 := hf env h
  cases hr : f env with
  | ok p => rw [hr] at h1; exact h1
  | exc x e => rw [hr] at h1; exact hg x e h1
  | bad => trivial
theorem ks_hnd (c : Nat) (jo : Option Nat) {f : Env → R Env (Fl × Env)} {g : Ex → Env → R Env (Fl × Env)} (hf : KF i Φ f) (hg : ∀ x, KF i Φ (g x)) (x : Ex) : KF i Φ fun env => if matches_ T x.cls c then
      match jo with
      | none => noX (f env)
      | some j => hndB j x env f
    else g x env := fun env h => by
  show Kr i Φ (if matches_ T x.cls c then
      match jo with
      | none => noX (f env)
      | some j => hndB j x env f
    else g x env)
  cases matches_ T x.cls c with
  | false => exact hg x env h
  | true =>
    simp only [if_true]
    cases jo with
    | none =>
      have h1 := hf env h
      simp only
      cases hr : f env with
      | ok p => rw [hr] at h1; exact h1
      | exc x e => trivial
      | bad => trivial
    | some j =>
      simp only
      unfold hndB
      refine .opt fun e1 he => ?_
      have h3 := setX_k K h he
      have h2 := hf e1 h3
      cases hr : f e1 with
      | ok p =>
        rw [hr] at h2
        refine Kr.ok (Ls.set h2 fun z => ?_)
        unfold setX at he
        obtain ⟨s, q1, q2⟩ := h3
        cases hj : env[j]? with
        | none => rw [hj] at he; cases he
        | some s' =>
          rw [hj] at he
          have : e1 = env.set j (.exc x) := by
            cases s' <;> first | (simp only [Option.some.injEq] at he; exact he.symm) | cases he
          rw [this, ← z, List.getElem?_set_self (List.getElem?_eq_some_iff.mp hj).1] at q1
          cases q1
          exact K.exc q2
      | exc _ _ => trivial
      | bad => trivial
theorem ks_hndx (c j : Nat) (e : XE) {g : Ex → Env → R Env (Fl × Env)} (hg : ∀ x, KF i Φ (g x)) (x : Ex) : KF i Φ fun env => if matches_ T x.cls c then optB (xev T x e) fun d => optB (clrN env j) fun env1 => .ok (.ret d, env1) else g x env := fun env h => by
  show Kr i Φ (if matches_ T x.cls c then optB (xev T x e) fun d => optB (clrN env j) fun env1 => .ok (.ret d, env1) else g x env)
  cases matches_ T x.cls c with
  | false => exact hg x env h
  | true =>
    simp only [if_true]
    refine .opt fun d _ => .opt fun e1 he => ?_
    unfold clrN at he
    have key : ∀ s, env[j]? = some s → (∀ m d, s ≠ .own m d) → (∀ ns, s ≠ .scr ns) → Kr i Φ (R.ok (Fl.ret d, env.set j .un) : R Env (Fl × Env)) := fun s hs n1 n2 => Kr.ok (Ls.set h fun z => by
      obtain ⟨t, q1, q2⟩ := h
      rw [← z, hs] at q1
      cases q1
      cases s with
      | own m d => exact absurd rfl (n1 m d)
      | scr ns => exact absurd rfl (n2 ns)
      | un => exact K.un q2
      | val d => exact K.val q2
      | exc y => exact K.exc q2)
    split at he
    · rename_i hs
      cases he
      exact key _ hs (fun _ _ z => by cases z) fun _ z => by cases z
    · rename_i d' hs
      cases he
      exact key _ hs (fun _ _ z => by cases z) fun _ z => by cases z
    · cases he
omit K in
theorem ks_whl {c : Env → R Env (Bool × Env)} {step : Env → R Env (Fl × Env)} (hc : KF i Φ c) (hs : KF i Φ step) (n : Nat) : KS i Φ (.ofS fun env => whLoop c step n env) := .ofS fun env h => whLoop_k hc hs n env h
omit K in
theorem sv_whl (c : E) (b : S) : sv T call (.whl c b) = .ofS fun env => whLoop (evalT T call c) (sv T call b).s whMost env := by rw [sv]
theorem keepS (s : S) : KS i Φ (sv T call s) := by
  induction s with
  | skip => exact .ofS fun env h => Kr.ok h
  | seq a b ha hb => exact .ofS fun env h => seqB_k (ha.s env h) hb.s
  | expr e => exact .ofS fun env h => ((keep K e).v env h).bnd fun x e1 h1 => Kr.ok h1
  | asg j e => exact .ofS fun env h => ((keep K e).v env h).bnd fun x e1 h1 => setB_k K h1
  | asgO j e => exact .ofS fun env h => .ite fun _ => ((keep K e).v env h).bnd fun x e1 h1 => setBO_k K h1
  | unp t e => exact .ofS fun env h => ((keep K e).v env h).bnd fun x e1 h1 => .opt fun e2 he => Kr.ok (asgT_k K t h1 he)
  | par ts es => exact .ofS fun env h => .ite fun _ => ((keep K es).l env h).bnd fun x e1 h1 => .opt fun e2 he => Kr.ok (parSet_k K ts h1 he)
  | setI j ix e => exact .ofS (ks_setI K j (keep K e).v (keep K ix).v)
  | swp j ia ib a b => exact .ofS (ks_swp K j (keep K a).v (keep K b).v (keep K ia).v (keep K ib).v)
  | aug j o e => exact .ofS (ks_aug K j o (keep K e).v)
  | ret e => exact .ofS fun env h => ((keep K e).v env h).bnd fun x e1 h1 => Kr.ok h1
  | retN => exact .ofS fun env h => Kr.ok h
  | ite c a b ha hb => exact .ofS (ks_ite (keep K c).t ha.s hb.s)
  | whl c b hb => rw [sv_whl]; exact ks_whl (keep K c).t hb.s _
  | «for» t it b hb => exact .ofS fun env h => ((keep K it).i env h).bnd fun xs e1 h1 => unlk_k K h1 (forLoop_k (fun x env h => .opt fun e2 he => hb.s e2 (asgT_k K t h he)) xs _ (lock_k K h1 (lockOf it))) (lockOf it)
  | raise c a => exact .ofS (ks_raise c (keep K a).v)
  | tryx b hh hb hhh => exact .ofS (ks_try hb.s hhh.h)
  | hnd c jo b more hb hm => exact ⟨fun env h => trivial, ks_hnd K c jo hb.s hm.h⟩
  | hndx c j e more hm => exact ⟨fun env h => trivial, ks_hndx K c j e hm.h⟩
  | brk => exact .ofS fun env h => Kr.ok h
  | cont => exact .ofS fun env h => Kr.ok h
end
abbrev Lk (i : Nat) (d : Da) : Env → Prop := Ls i (isLk d)
theorem lk_of {i : Nat} {d : Da} {env : Env} : Lk i d env ↔ env[i]? = some (.own 2 d) := ⟨fun ⟨s, e, f⟩ => by rw [show s = .own 2 d from f] at e; exact e, fun e => ⟨_, e, rfl⟩⟩
end PI
end
section
set_option Elab.async false
set_option linter.all false
set_option maxRecDepth 100000
/-! PIq: targets; list comprehensions. -/
namespace PI
open PySem PySem.Spec PyProof.Rows L2
section
variable {T : Tab} {k : Nat} {K : PySem.W.Frag} {env env1 : Env} {σ σ' : L2.St} {H G F : Hp}
/-! ### slots changed -/
/-- slots without a value may hold anything -/
theorem Rel.sig (r : Rel K env σ H G F) (hl : σ'.length = σ.length) (h : ∀ (i : Nat) s, env[i]? = some s → s = .un ∨ (∃ x, s = .exc x) ∨ σ'[i]? = σ[i]?) : Rel K env σ' H G F := by
  have key : ∀ (i : Nat) s, env[i]? = some s → s ≠ .un → (∀ x, s ≠ .exc x) → σ'[i]? = σ[i]? := fun i s e h1 h2 => by
    rcases h i s e with z | ⟨x, z⟩ | z
    · exact absurd z h1
    · exact absurd z (h2 x)
    · exact z
  refine ⟨r.gs, r.fs, r.fg, r.len.trans hl.symm, fun i d e => ?_, fun i m d e => ?_, fun i ns e => ?_, fun i j m n d e a h1 h2 z1 z2 => ?_⟩
  · rw [key i _ e (fun z => by cases z) (fun x z => by cases z)]; exact r.val i d e
  · rw [key i _ e (fun z => by cases z) (fun x z => by cases z)]; exact r.own i m d e
  · rw [key i _ e (fun z => by cases z) (fun x z => by cases z)]; exact r.scr i ns e
  · rw [key i _ h1 (fun z => by cases z) (fun x z => by cases z)] at z1
    rw [key j _ h2 (fun z => by cases z) (fun x z => by cases z)] at z2
    exact r.dj i j m n d e a h1 h2 z1 z2
/-- a slot's value is forgotten -/
theorem Rel.drop (r : Rel K env σ H G F) (i : Nat) (o : Option V) : Rel K (env.set i .un) (σ.set i o) H G F := by
  refine (r.unset i).sig (by rw [List.length_set]) fun j s e => ?_
  by_cases hj : i = j
  · subst hj
    by_cases hi : i < env.length
    · rw [List.getElem?_set_self hi] at e; cases e; exact .inl rfl
    · rw [List.getElem?_eq_none (by rw [List.length_set]; omega)] at e; cases e
  · exact .inr (.inr (List.getElem?_set_ne hj))
/-- a plain value is stored -/
theorem Rel.setv (r : Rel K env σ H G F) {i : Nat} {d : Da} {v : V} (hd : Rep K G d v) : Rel K (env.set i (.val d)) (σ.set i (some v)) H G F := by
  have r1 := r.drop i (some v)
  have key : ∀ (j : Nat) s, (env.set i (.val d))[j]? = some s → (j = i ∧ s = .val d ∧ i < env.length) ∨ (i ≠ j ∧ (env.set i .un)[j]? = some s) := fun j s e => by
    by_cases hj : i = j
    · subst hj
      by_cases hi : i < env.length
      · rw [List.getElem?_set_self hi] at e; cases e; exact .inl ⟨rfl, rfl, hi⟩
      · rw [List.getElem?_eq_none (by rw [List.length_set]; omega)] at e; cases e
    · refine .inr ⟨hj, ?_⟩
      rw [List.getElem?_set_ne hj] at e ⊢; exact e
  refine ⟨r.gs, r.fs, r.fg, by rw [List.length_set, List.length_set]; exact r.len, fun j d' e => ?_, fun j m d' e => ?_, fun j ns e => ?_, fun j j' m n d e a q1 q2 => ?_⟩
  · rcases key j _ e with ⟨rfl, z, hi⟩ | ⟨_, e⟩
    · cases z
      exact ⟨v, List.getElem?_set_self (by rw [← r.len]; exact hi), hd⟩
    · exact r1.val j d' e
  · rcases key j _ e with ⟨_, z, _⟩ | ⟨_, e⟩
    · cases z
    · exact r1.own j m d' e
  · rcases key j _ e with ⟨_, z, _⟩ | ⟨_, e⟩
    · cases z
    · exact r1.scr j ns e
  · rcases key j _ q1 with ⟨_, z, _⟩ | ⟨_, q1⟩
    · cases z
    · rcases key j' _ q2 with ⟨_, z, _⟩ | ⟨_, q2⟩
      · cases z
      · exact r1.dj j j' m n d e a q1 q2
theorem setv_set {i : Nat} {d : Da} {env' : Env} (h : setv env i d = some env') : env' = env.set i (.val d) ∧ i < env.length := by
  unfold PI.setv at h
  cases he : env[i]? with
  | none => rw [he] at h; cases h
  | some s =>
    have hi := (List.getElem?_eq_some_iff.mp he).1
    rw [he] at h
    cases s with
    | own m z =>
      cases m with
      | zero => simp only [Option.some.injEq] at h; exact ⟨h.symm, hi⟩
      | succ m => simp at h
    | scr ns => simp at h
    | _ => simp only [Option.some.injEq] at h; exact ⟨h.symm, hi⟩
/-- an own list's mode -/
theorem Rel.mode (r : Rel K env σ H G F) {i m n : Nat} {d : Da} (he : env[i]? = some (.own m d)) : Rel K (env.set i (.own n d)) σ H G F := by
  have hi := (List.getElem?_eq_some_iff.mp he).1
  have key : ∀ (j : Nat) s, (env.set i (.own n d))[j]? = some s → (j = i ∧ s = .own n d) ∨ (env[j]? = some s) := fun j s e => by
    by_cases hj : i = j
    · subst hj
      rw [List.getElem?_set_self hi] at e; cases e; exact .inl ⟨rfl, rfl⟩
    · rw [List.getElem?_set_ne hj] at e; exact .inr e
  have key2 : ∀ (j : Nat) m' d', (env.set i (.own n d))[j]? = some (.own m' d') → ∃ m'', env[j]? = some (.own m'' d') := fun j m' d' e => by
    rcases key j _ e with ⟨rfl, z⟩ | e
    · cases z; exact ⟨m, he⟩
    · exact ⟨m', e⟩
  refine ⟨r.gs, r.fs, r.fg, by rw [List.length_set]; exact r.len, fun j d' e => ?_, fun j m d' e => ?_, fun j ns e => ?_, fun j j' m n d e a q1 q2 => ?_⟩
  · rcases key j _ e with ⟨_, z⟩ | e
    · cases z
    · exact r.val j d' e
  · obtain ⟨m', e⟩ := key2 j _ _ e
    exact r.own j m' d' e
  · rcases key j _ e with ⟨_, z⟩ | e
    · cases z
    · exact r.scr j ns e
  · obtain ⟨_, q1⟩ := key2 j _ _ q1
    obtain ⟨_, q2⟩ := key2 j' _ _ q2
    exact r.dj j j' _ _ d e a q1 q2
theorem Rel.lock (r : Rel K env σ H G F) : ∀ lk, Rel K (PI.lock env lk) σ H G F
  | none => r
  | some i => by
    unfold PI.lock
    simp only
    split
    · rename_i he; exact r.mode he
    · exact r
theorem Rel.unlock (r : Rel K env σ H G F) (env0 : Env) : ∀ lk, Rel K (PI.unlock env0 env lk) σ H G F
  | none => r
  | some i => by
    unfold PI.unlock
    simp only
    split
    · rename_i he; exact r.mode he
    · exact r
theorem wipe_get : ∀ (vs : List Nat) (j : Nat), (wipe σ vs)[j]? = if j ∈ vs then (σ[j]?).map (fun _ => none) else σ[j]?
  | [], j => by simp [wipe]
  | v :: vs, j => by
    unfold wipe
    have ih := wipe_get vs j
    by_cases hj : v = j
    · subst hj
      rw [if_pos List.mem_cons_self]
      by_cases hv : v < σ.length
      · rw [List.getElem?_set_self (by rw [wipe_length]; exact hv), List.getElem?_eq_getElem hv]; rfl
      · rw [List.getElem?_eq_none (by rw [List.length_set, wipe_length]; omega), List.getElem?_eq_none (by omega)]; rfl
    · rw [List.getElem?_set_ne hj, ih]
      have : (j ∈ v :: vs) ↔ j ∈ vs := by simp only [List.mem_cons]; exact ⟨fun h => h.resolve_left fun e => hj e.symm, .inr⟩
      simp only [this]
theorem wipe_set {i : Nat} {vs : List Nat} {o : Option V} (h : i ∈ vs) : wipe (σ.set i o) vs = wipe σ vs := by
  apply List.ext_getElem?
  intro j
  rw [wipe_get, wipe_get]
  by_cases hj : j ∈ vs
  · rw [if_pos hj, if_pos hj]
    by_cases hi : i = j
    · subst hi
      by_cases hl : i < σ.length
      · rw [List.getElem?_set_self hl, List.getElem?_eq_getElem hl]; rfl
      · rw [List.getElem?_eq_none (by rw [List.length_set]; omega), List.getElem?_eq_none (by omega)]
    · rw [List.getElem?_set_ne hi]
  · rw [if_neg hj, if_neg hj, List.getElem?_set_ne fun e => hj (by rw [← e]; exact h)]
theorem Rel.wipe (r : Rel K env σ H G F) : ∀ vs, Rel K (wipeE env vs) (L2.wipe σ vs) H G F
  | [] => r
  | v :: vs => (r.wipe vs).drop v none
theorem wipeE_len : ∀ vs : List Nat, (wipeE env vs).length = env.length
  | [] => rfl
  | v :: vs => by unfold wipeE; rw [List.length_set, wipeE_len vs]
theorem restE_get {env0 env : Env} (hl : env0.length = env.length) : ∀ (vs : List Nat) (j : Nat), (restE env0 env vs)[j]? = if j ∈ vs then env0[j]? else env[j]?
  | [], j => by simp [restE]
  | v :: vs, j => by
    have ih := restE_get hl vs
    have hlen : (restE env0 env vs).length = env.length := by
      have : ∀ vs : List Nat, (restE env0 env vs).length = env.length := fun vs => by
        induction vs with
        | nil => rfl
        | cons v vs ih =>
          unfold restE
          split
          · rw [List.length_set, ih]
          · exact ih
      exact this vs
    unfold restE
    by_cases hj : v = j
    · subst hj
      rw [if_pos List.mem_cons_self]
      cases he : env0[v]? with
      | none =>
        simp only
        rw [List.getElem?_eq_none (by rw [hlen, ← hl]; exact List.getElem?_eq_none_iff.mp he)]
      | some s =>
        simp only
        rw [List.getElem?_set_self (by rw [hlen, ← hl]; exact (List.getElem?_eq_some_iff.mp he).1)]
    · have : (j ∈ v :: vs) ↔ j ∈ vs := by simp only [List.mem_cons]; exact ⟨fun h => h.resolve_left fun e => hj e.symm, .inr⟩
      simp only [this]
      split
      · rw [List.getElem?_set_ne hj]; exact ih j
      · exact ih j
theorem plainAt_not {vs : List Nat} (p : plainAt env vs = true) {j : Nat} (hj : j ∈ vs) : (∀ m d, env[j]? ≠ some (.own m d)) ∧ ∀ ns, env[j]? ≠ some (.scr ns) := by
  have := List.all_eq_true.mp p j hj
  refine ⟨fun m d e => ?_, fun ns e => ?_⟩ <;> (rw [e] at this; cases this)
/-- a block's own names are as they were before it -/
theorem Rel.rest {H1 G1 F1 : Hp} {vs : List Nat} (r : Rel K env σ H G F) (r1 : Rel K env1 (L2.wipe σ vs) H1 G1 F1) (g : Same G G1) (p : plainAt env vs = true) : Rel K (restE env env1 vs) σ H1 G1 F1 := by
  have hl : env.length = env1.length := by rw [r.len, r1.len, wipe_length]
  have key : ∀ (j : Nat) s, (restE env env1 vs)[j]? = some s → (j ∈ vs ∧ env[j]? = some s) ∨ (j ∉ vs ∧ env1[j]? = some s ∧ (L2.wipe σ vs)[j]? = σ[j]?) := fun j s e => by
    rw [restE_get hl] at e
    by_cases hj : j ∈ vs
    · rw [if_pos hj] at e; exact .inl ⟨hj, e⟩
    · rw [if_neg hj] at e
      refine .inr ⟨hj, e, ?_⟩
      rw [wipe_get, if_neg hj]
  have hlen : (restE env env1 vs).length = env1.length := by
    have : ∀ vs : List Nat, (restE env env1 vs).length = env1.length := fun vs => by
      induction vs with
      | nil => rfl
      | cons v vs ih =>
        unfold restE
        split
        · rw [List.length_set, ih]
        · exact ih
    exact this vs
  refine ⟨r1.gs, r1.fs, r1.fg, by rw [hlen, ← hl]; exact r.len, fun j d e => ?_, fun j m d e => ?_, fun j ns e => ?_, fun j j' m n d e a q1 q2 z1 z2 => ?_⟩
  · rcases key j _ e with ⟨_, e⟩ | ⟨_, e, z⟩
    · obtain ⟨v, h1, h2⟩ := r.val j d e
      exact ⟨v, h1, h2.mono g⟩
    · rw [← z]; exact r1.val j d e
  · rcases key j _ e with ⟨hj, e⟩ | ⟨_, e, z⟩
    · exact absurd e ((plainAt_not p hj).1 m d)
    · rw [← z]; exact r1.own j m d e
  · rcases key j _ e with ⟨hj, e⟩ | ⟨_, e, z⟩
    · exact absurd e ((plainAt_not p hj).2 ns)
    · rw [← z]; exact r1.scr j ns e
  · rcases key j _ q1 with ⟨hj, e⟩ | ⟨_, e1, y1⟩
    · exact absurd e ((plainAt_not p hj).1 m d)
    · rcases key j' _ q2 with ⟨hj, e⟩ | ⟨_, e2, y2⟩
      · exact absurd e ((plainAt_not p hj).1 _ _)
      · exact r1.dj j j' m n d _ a e1 e2 (by rw [y1]; exact z1) (by rw [y2]; exact z2)
/-- what is held is written -/
theorem Rel.rehold {D : Addr} {o o' : HO} (r : Rel K env σ H G (upd F D o)) : Rel K env σ (upd H D o') G (upd F D o') := by
  have hG : G D = none := r.fg D (by rw [upd_same]; simp)
  refine ⟨fun b x e => ?_, fun b x e => ?_, fun b hb => ?_, r.len, r.val, fun i m d e => ?_, r.scr, r.dj⟩
  · have : b ≠ D := fun z => by rw [z, hG] at e; cases e
    rw [upd_ne this]; exact r.gs b x e
  · by_cases hb : b = D
    · subst hb; rw [upd_same] at e ⊢; exact e
    · rw [upd_ne hb] at e ⊢; exact r.fs b x (by rw [upd_ne hb]; exact e)
  · by_cases h : b = D
    · rw [h]; exact hG
    · rw [upd_ne h] at hb; exact r.fg b (by rw [upd_ne h]; exact hb)
  · obtain ⟨a, h1, h2, h3, h4⟩ := r.own i m d e
    have hne : a ≠ D := fun z => by rw [z, upd_same] at h3; cases h3
    refine ⟨a, h1, h2, by rw [upd_ne hne] at h3 ⊢; exact h3, ?_⟩
    cases d with
    | list ds => obtain ⟨xs, q, l⟩ := h4; exact ⟨xs, by rw [upd_ne hne]; exact q, l⟩
    | _ => exact h4.elim
end
/-! ### targets -/
section
variable {T : Tab} {k : Nat} {C : CC} {W : WX} {X : Cx}
def tG (K : PySem.W.Frag) (t : Tg) : TG := fun v σ H Q => ∃ env G F d env', Rel K env σ H G F ∧ Rep K G d v ∧ asgT t d env = some env' ∧ ∀ σ', Rel K env' σ' H G F → (∀ vs, tgIn vs t = true → wipe σ' vs = wipe σ vs) → (∀ j, Ls j isOw env → σ'[j]? = σ[j]?) → Q σ' H
def tGs (K : PySem.W.Frag) (t : Tg) : TGs := fun vs σ H Q => ∃ env G F ds env', Rel K env σ H G F ∧ RepL K G ds vs ∧ asgTs t ds env = some env' ∧ ∀ σ', Rel K env' σ' H G F → (∀ vs, tgIn vs t = true → wipe σ' vs = wipe σ vs) → (∀ j, Ls j isOw env → σ'[j]? = σ[j]?) → Q σ' H
theorem _root_.L2.PG.imp {X : Cx} {e : Expr} {t t' : TG} (h : PG X e t) (w : ∀ v σ H Q, t' v σ H Q → t v σ H Q) : PG X e t' := ⟨fun pins s σ H v u Q I r x => h.run pins s σ H v u Q I r (w v σ H Q x)⟩
theorem _root_.L2.PGs.imp {X : Cx} {e : List Expr} {t t' : TGs} (h : PGs X e t) (w : ∀ v σ H Q, t' v σ H Q → t v σ H Q) : PGs X e t' := ⟨fun pins s σ H v u Q I r x => h.run pins s σ H v u Q I r (w v σ H Q x)⟩
theorem pg_or {e : Expr} {t t' : TG} (h : PG X e t) (h' : PG X e t') : PG X e fun v σ H Q => t v σ H Q ∨ t' v σ H Q := ⟨fun pins s σ H v u Q I r x => x.elim (h.run pins s σ H v u Q I r) (h'.run pins s σ H v u Q I r)⟩
theorem tgt_ok (G : GX T k C W X) {i : Nat} {x : Str} (h : tgtB C i x = true) : X.N[i]? = some x ∧ L2.Loc X.env.scope x ∧ (X.fn x = true ∨ X.env.scope.names.lookup x = some .local) := by
  obtain ⟨h1, h2⟩ := and2 h
  refine ⟨by rw [G.N]; exact of_decide_eq_true h1, ?_⟩
  unfold locB at h2
  unfold L2.Loc
  rw [G.sc]
  split at h2
  · rename_i e; exact ⟨.inl e, .inr e⟩
  · rename_i e; exact ⟨.inr e, .inl (G.fn x h2)⟩
  · cases h2
theorem assign_star {e : Expr} {es : List Expr} {env : PySem.Env} (h : notStar e = true) : assignEach (e :: es) env = (false, assign e env) :: assignEach es env := by
  cases e <;> first | rfl | simp [notStar] at h
theorem chk_len : ∀ (ts : Tg) (es : List Expr), chkTgs C ts es = true → (assignEach es X.env).length = es.length ∧ (assignEach es X.env).findIdx? (·.1) = none
  | .nil, [], _ => ⟨rfl, rfl⟩
  | .nil, _ :: _, h => absurd h Bool.false_ne_true
  | .cons t ts, [], h => absurd h Bool.false_ne_true
  | .cons t ts, e :: es, h => by
    obtain ⟨_, h⟩ := and2 h
    obtain ⟨h2, h3⟩ := and2 h
    obtain ⟨l1, l2⟩ := chk_len ts es h3
    rw [assign_star h2]
    refine ⟨by rw [List.length_cons, l1, List.length_cons], ?_⟩
    rw [List.findIdx?_cons, l2]; rfl
  | .nm _, es, h => by cases es <;> exact absurd h Bool.false_ne_true
  | .tup _, es, h => by cases es <;> exact absurd h Bool.false_ne_true
theorem asgTs_len : ∀ (ts : Tg) {ds : List Da} {env env' : Env}, asgTs ts ds env = some env' → ∀ es, chkTgs C ts es = true → ds.length = es.length
  | .nil, [], _, _, _, [], _ => rfl
  | .nil, _ :: _, _, _, e, _, _ => by simp [asgTs] at e
  | .nil, [], _, _, _, _ :: _, h => absurd h Bool.false_ne_true
  | .cons t ts, [], _, _, e, _, _ => by simp [asgTs] at e
  | .cons t ts, x :: ds, env, env', e, [], h => absurd h Bool.false_ne_true
  | .cons t ts, x :: ds, env, env', e, y :: es, h => by
    obtain ⟨_, h⟩ := and2 h
    obtain ⟨h2, h3⟩ := and2 h
    simp only [asgTs] at e
    cases h1 : asgT t x env with
    | none => rw [h1] at e; cases e
    | some env1 => rw [h1] at e; rw [List.length_cons, List.length_cons, asgTs_len ts e es h3]
  | .nm _, ds, _, _, e, _, _ => by cases ds <;> simp [asgTs] at e
  | .tup _, ds, _, _, e, _, _ => by cases ds <;> simp [asgTs] at e
mutual
theorem pg_tg (G : GX T k C W X) : ∀ (t : Tg) {ex : Expr}, chkTg C t ex = true → PG X ex (tG X.K t)
  | .nm i, ex, h => by
    cases ex with
    | Name x p =>
      obtain ⟨h1, h2, h3⟩ := tgt_ok G h
      refine (pg_name (by rw [G.N]; exact G.nd) h1 h2 h3).imp fun v σ H Q hq => ?_
      obtain ⟨env, G', F, d, env', r, rp, e, q⟩ := hq
      have e' : PI.setv env i d = some env' := by simpa only [asgT] using e
      obtain ⟨rfl, _⟩ := setv_set e'
      refine q _ (r.setv rp) (fun vs hv => wipe_set (by simpa [tgIn] using hv)) fun j hj => List.getElem?_set_ne fun z => ?_
      obtain ⟨s, q1, m, d', rfl⟩ := hj
      rw [← z] at q1
      unfold PI.setv at e'
      rw [q1] at e'
      cases e' 
    | _ => exact absurd h Bool.false_ne_true
  | .tup ts, ex, h => by
    cases ex with
    | Tuple es kk p =>
      obtain ⟨hc, h⟩ := and2 h
      obtain ⟨l1, l2⟩ := chk_len (X := X) ts es h
      have ps := pgs_tg G ts h
      refine (pg_or (pg_tup (n := es.length) (G.calm hc) ps l1 l2) (pg_lst (n := es.length) (G.calm hc) ps l1 l2)).imp fun v σ H Q hq => ?_
      obtain ⟨env, G', F, d, env', r, rp, e, q⟩ := hq
      cases d with
      | tuple ds =>
        simp only [Rep] at rp
        obtain ⟨a, xs, rfl, h3, h4⟩ := rp
        have e' : asgTs ts ds env = some env' := by simpa only [asgT] using e
        exact .inl ⟨a, xs, rfl, sameT r.gs h3, by rw [h4.length]; exact asgTs_len ts e' es h, env, G', F, ds, env', r, h4, e', q⟩
      | list ds =>
        simp only [Rep] at rp
        obtain ⟨a, xs, rfl, h3, h4⟩ := rp
        have e' : asgTs ts ds env = some env' := by simpa only [asgT] using e
        exact .inr ⟨a, xs, rfl, SqL.of (r.gs _ _ h3), by rw [h4.length]; exact asgTs_len ts e' es h, env, G', F, ds, env', r, h4, e', q⟩
      | _ => simp [asgT] at e
    | _ => exact absurd h Bool.false_ne_true
  | .nil, ex, h => by cases ex <;> exact absurd h Bool.false_ne_true
  | .cons _ _, ex, h => by cases ex <;> exact absurd h Bool.false_ne_true
theorem pgs_tg (G : GX T k C W X) : ∀ (t : Tg) {es : List Expr}, chkTgs C t es = true → PGs X es (tGs X.K t)
  | .nil, es, h => by
    cases es with
    | nil =>
      refine pgs_nil.imp fun vs σ H Q hq => ?_
      obtain ⟨env, G', F, ds, env', r, rp, e, q⟩ := hq
      cases ds with
      | nil =>
        simp only [asgTs, Option.some.injEq] at e
        subst e
        exact ⟨by cases vs with
          | nil => rfl
          | cons v vs => have := rp.length; simp at this, q _ r (fun vs _ => rfl) fun j _ => rfl⟩
      | cons _ _ => simp [asgTs] at e
    | cons _ _ => exact absurd h Bool.false_ne_true
  | .cons t ts, es, h => by
    cases es with
    | nil => exact absurd h Bool.false_ne_true
    | cons e es =>
      obtain ⟨h1, h⟩ := and2 h
      obtain ⟨h2, h3⟩ := and2 h
      refine (pgs_cons (pg_tg G t h1) (pgs_tg G ts h3) (by rw [assign_star h2]; rfl)).imp fun vs σ H Q hq => ?_
      obtain ⟨env, G', F, ds, env', r, rp, e, q⟩ := hq
      cases ds with
      | nil => simp [asgTs] at e
      | cons d ds =>
        simp only [asgTs] at e
        cases h4 : asgT t d env with
        | none => rw [h4] at e; cases e
        | some env1 =>
          rw [h4] at e
          cases vs with
          | nil => have := rp.length; simp at this
          | cons v vs =>
            have r1 : Rep X.K G' d v ∧ RepL X.K G' ds vs := by
              simp only [RepL] at rp
              obtain ⟨x, t, e, q1, q2⟩ := rp
              cases e
              exact ⟨q1, q2⟩
            refine ⟨v, vs, rfl, env, G', F, d, env1, r, r1.1, h4, fun σ1 q1 w1 o1 => ⟨env1, G', F, ds, env', q1, r1.2, e, fun σ2 q2 w2 o2 => q σ2 q2 (fun us hu => ?_) fun j hj => (o2 j (asgT_k kp_ow t hj h4)).trans (o1 j hj)⟩⟩
            obtain ⟨u1, u2⟩ := and2 (show (tgIn us t && tgIn us ts) = true from hu)
            rw [w2 us u2, w1 us u1]
  | .nm _, es, h => by cases es <;> exact absurd h Bool.false_ne_true
  | .tup _, es, h => by cases es <;> exact absurd h Bool.false_ne_true
end
end
end PI
end
section
set_option Elab.async false
set_option linter.all false
set_option maxRecDepth 100000
/-! PIr: list comprehensions; every expression. -/
namespace PI
open PySem PySem.Spec PyProof.Rows L2
section
variable {T : Tab} {k : Nat} {C : CC} {W : WX} {X : Cx}
theorem wipe_wipe {σ : L2.St} {vs : List Nat} : wipe (wipe σ vs) vs = wipe σ vs := by
  apply List.ext_getElem?
  intro j
  rw [wipe_get, wipe_get]
  by_cases hj : j ∈ vs
  · rw [if_pos hj, if_pos hj]
    cases σ[j]? <;> rfl
  · rw [if_neg hj]
abbrev W0 : WX := fun _ _ _ _ => False
theorem Pst.bndX {K : PySem.W.Frag} {G F : Hp} {σ : L2.St} {α β : Type} {r : R Env (α × Env)} {f : α → Env → R Env (β × Env)} {P : β → Env → Prop} {W' : WX} {G1 F1 : Hp} {σ1 : L2.St} (h : Pst T K W G F σ (r.bndX f) P) :
    Pst T K W' G1 F1 σ1 r fun a e => Pst T K W G F σ (f a e) P := by
  cases r with
  | ok p => exact h
  | exc x e => exact h.elim
  | bad => exact h
theorem lc_next {K : PySem.W.Frag} {G F : Hp} {σ : L2.St} {β : Type} {step : Da → Env → R Env (Option Da × Env)} {x : Da} {rest : List Da} {e : Env} {f : List Da → Env → R Env (β × Env)} {P : β → Env → Prop} {W' : WX} {G1 F1 : Hp} {σ1 : L2.St}
    (h : Pst T K W G F σ ((lcLoop step (x :: rest) e).bndX f) P) :
    Pst T K W' G1 F1 σ1 (step x e) fun o e1 => Pst T K W G F σ ((lcLoop step rest e1).bndX fun ds e2 => f (match o with
      | some d => d :: ds
      | none => ds) e2) P := by
  unfold lcLoop at h
  cases hs : step x e with
  | ok p =>
    rw [hs] at h
    show Pst T K W G F σ ((lcLoop step rest p.2).bndX _) P
    have h' : Pst T K W G F σ (((lcLoop step rest p.2).bndX fun ds env2 => .ok (match p.1 with
      | some d => d :: ds
      | none => ds, env2)).bndX f) P := h
    cases hr : lcLoop step rest p.2 with
    | ok q => rw [hr] at h'; exact h'
    | exc y e2 => rw [hr] at h'; exact h'
    | bad => rw [hr] at h'; exact h'
  | exc y e1 => rw [hs] at h; exact h.elim
  | bad => rw [hs] at h; exact h.elim
theorem gx_blk (G : GX T k C W X) (s : Shared) (H : Hp) (sc : Scope) (cl : List (Str × Addr)) (A : Addr) (fp : List Addr) : GX T k (blkCC C sc) W0 (X.blk s H sc (compEnvC sc cl A X.env) fp) where
  calm := G.calm
  room := G.room
  un := G.un
  takes := fun u s' ⟨a, B, sI, pins, σ, H, cls, d, e, I, nb, up, sky, na, os, ag, w⟩ => w
  N := G.N
  nd := G.nd
  sc := by show relS sc X.env.scope = relS sc C.sc; rw [G.sc]
  fn := fun x h => h
  fns := G.fns
  ini := fun c n f e => ⟨(G.ini c n f e).ex⟩
  tab := G.tab
theorem blk_ok (G : GX T k C W X) {sc : Scope} {own : List (Str × Nat)} (h : blkC C.N C.sc sc own = true) : BlkOk X.N X.env.scope sc own := by
  rw [G.N, G.sc]; exact blkOk_by h
theorem own_map {C : CC} (vs : List Nat) : (ownOf C vs).map (·.2) = vs := by
  unfold ownOf
  induction vs with
  | nil => rfl
  | cons v vs ih => rw [List.map_cons, List.map_cons, ih]
/-- what stands at the start of a comprehension's turn i -/
def LcI (T : Tab) (K : PySem.W.Frag) (W : WX) (step : Da → Env → R Env (Option Da × Env)) (xs : List Da) (vs : List Nat) (σ : L2.St) (G1 F : Hp) (D : Addr) (lk : Option (Addr × List Da)) (fin : List Da → Env → R Env (Da × Env)) (P : Da → Env → Prop) (i : Nat) (H : Hp) : Prop :=
  ∃ env G acc dacc, Same G1 G ∧ Rel K env (wipe σ vs) H G (upd F D (.lst acc)) ∧ RepL K G dacc acc ∧ dacc.length ≤ i ∧ (∀ a ds, lk = some (a, ds) → ∃ j, Lk j (.list ds) env ∧ σ[j]? = some (some (.ref a)) ∧ j ∉ vs) ∧
    Pst T K W G1 F σ ((lcLoop step (xs.drop i) env).bndX fun ds e => fin (dacc ++ ds) e) P
/-- what a comprehension's value asks of its parts -/
theorem lc_read {K : PySem.W.Frag} {vs : List Nat} {tg : Tg} {it cond elt : E} (h4 : tgIn vs tg = true) {σ : L2.St} {H : Hp} {Q : VK} (hq : tE T (callF T k) K W (.lc vs tg it cond elt) σ H Q) :
    tLc (tI T (callF T k) K W it) (tG K tg) (tT T K W0 (ev T (callF T k) cond).c) (tV T (callF T k) K W0 elt) vs σ H Q := by
  obtain ⟨env, G', F, r, q⟩ := hq
  have q' : Pst T K W G' F σ (((ev T (callF T k) it).i env).bnd fun xs env1 => evLc vs (lockOf it) (lcStep vs tg (ev T (callF T k) cond).c (ev T (callF T k) elt).v) xs env1) fun d env' => ∀ v H' G'', Same G' G'' → Rel K env' σ H' G'' F → RepE T K G'' H' F env' σ (.lc vs tg it cond elt) d v → Q v H' := q
  refine ⟨env, G', F, r, q'.bnd.imp (Same.refl _) fun xs env1 _ p1 J H1 G1 lk g1 r1 wlk lis D hD => ?_⟩
  unfold evLc at p1
  obtain ⟨hb, p2⟩ := p1.ite
  obtain ⟨hb, hsz⟩ := and2 hb
  have hsz := of_decide_eq_true hsz
  -- the turns
  generalize hstep : lcStep vs tg (ev T (callF T k) cond).c (ev T (callF T k) elt).v = step at p2
  have hFD : F D = none := same_none r1.fs hD
  have hlk : ∀ a ds, lk = some (a, ds) → ∃ j, Lk j (.list ds) (wipeE (lock env1 (lockOf it)) vs) ∧ σ[j]? = some (some (.ref a)) ∧ j ∉ vs := fun a ds e => by
    obtain ⟨j, m, e1, e2, e3⟩ := lis a ds e
    have hj : j ∉ vs := fun hj => (plainAt_not hb hj).1 m _ e2
    refine ⟨j, ?_, e3, hj⟩
    refine wipeE_k ?_ hj
    rw [e1]
    refine lk_of.mpr ?_
    unfold PI.lock
    simp only [e2]
    exact List.getElem?_set_self (List.getElem?_eq_some_iff.mp e2).1
  refine ⟨fun i m H => m = xs.length - i ∧ i ≤ xs.length ∧ LcI T K W step xs vs σ G1 F D lk (fun ds env5 => .ok (.list ds, unlock env1 (restE env1 env5 vs) (lockOf it))) (fun d env' => ∀ v H' G'', Same G' G'' → Rel K env' σ H' G'' F → RepE T K G'' H' F env' σ (.lc vs tg it cond elt) d v → Q v H') i H, ⟨xs.length, rfl, Nat.zero_le _, ?_⟩, ?_⟩
  · refine ⟨_, G1, [], [], Same.refl _, ((r1.lock (lockOf it)).wipe vs).hold hD, RepL.nil, Nat.le_refl _, hlk, ?_⟩
    exact p2.mono g1
  · rintro i m H2 ⟨rfl, hi, envi, Gi, acc, dacc, gi, ri, la, hle, hl, pi⟩
    have hobj : ∀ a ds, lk = some (a, ds) → ObjO K Gi H2 (.list ds) a := fun a ds e => by
      obtain ⟨j, e1, e2, e3⟩ := hl a ds e
      obtain ⟨b, f1, _, _, f4⟩ := ri.own j 2 _ (lk_of.mp e1)
      rw [wipe_get, if_neg e3, e2] at f1
      cases f1
      exact f4
    obtain ⟨w1, w2⟩ := wlk i H2 Gi gi ri.gs hobj
    by_cases hlt : i < xs.length
    · refine .inr ⟨(w1 hlt).1, fun H' => LcI T K W step xs vs σ G1 F D lk (fun ds env5 => .ok (.list ds, unlock env1 (restE env1 env5 vs) (lockOf it))) (fun d env' => ∀ v H' G'', Same G' G'' → Rel K env' σ H' G'' F → RepE T K G'' H' F env' σ (.lc vs tg it cond elt) d v → Q v H') (i + 1) H', fun H' nx => ⟨xs.length - (i + 1), by omega, rfl, hlt, nx⟩, fun x H3 hy => ?_⟩
      obtain ⟨d, G3, e1, rp, g3, gs3, hs3, n3⟩ := (w1 hlt).2 x H3 hy
      have r3 := ri.grow g3 gs3 hs3 n3
      have hdrop : xs.drop i = d :: xs.drop (i + 1) := by
        rw [List.drop_eq_getElem_cons hlt]
        rw [List.getElem?_eq_getElem hlt] at e1
        cases e1
        rfl
      rw [hdrop] at pi
      have ps := lc_next (W' := W0) (G1 := G3) (F1 := upd F D (.lst acc)) (σ1 := σ) pi
      have hsd : step d envi = optB (asgT tg d envi) fun env2 => ((ev T (callF T k) cond).c env2).bndX fun b env3 => match b with
        | true => ((ev T (callF T k) elt).v env3).bndX fun d env4 => .ok (some d, wipeE env4 vs)
        | false => .ok (Option.none, wipeE env3 vs) := by rw [← hstep]; rfl
      rw [hsd] at ps
      obtain ⟨env2, ha, ps⟩ := ps.opt
      refine ⟨envi, G3, _, d, env2, r3, rp, ha, fun σ2 r4 hw _ => ⟨(hw vs h4).trans wipe_wipe, env2, G3, _, r4, ?_⟩⟩
      have hw := (hw vs h4).trans wipe_wipe
      have ps2 := Pst.bndX (W' := W0) (G1 := G3) (F1 := upd F D (.lst acc)) (σ1 := σ2) ps
      have hl2 : ∀ a ds, lk = some (a, ds) → ∃ j, Lk j (.list ds) env2 ∧ σ[j]? = some (some (.ref a)) ∧ j ∉ vs := fun a ds e => by
        obtain ⟨j, e1, e2, e3⟩ := hl a ds e
        exact ⟨j, asgT_k (kp_lk (.list ds)) tg e1 ha, e2, e3⟩
      refine ps2.imp (Same.refl _) fun b env3 hb3 p3 H4 G4 g4 r5 => ?_
      have hl3 : ∀ a ds, lk = some (a, ds) → ∃ j, Lk j (.list ds) env3 ∧ σ[j]? = some (some (.ref a)) ∧ j ∉ vs := fun a ds e => by
        obtain ⟨j, e1, e2, e3⟩ := hl2 a ds e
        have := (keep (T := T) (call := callF T k) (kp_lk (.list ds)) cond).c env2 e1
        rw [hb3] at this
        exact ⟨j, this, e2, e3⟩
      have gG4 : Same G1 G4 := (gi.trans g3).trans g4
      cases b with
      | false =>
        simp only [Bool.false_eq_true, if_false]
        have rw' : Rel K (wipeE env3 vs) (wipe σ vs) H4 G4 (upd F D (.lst acc)) := by rw [← hw]; exact r5.wipe vs
        refine ⟨_, G4, acc, dacc, gG4, rw', la.mono (g3.trans g4), Nat.le_succ_of_le hle, fun a ds e => ?_, ?_⟩
        · obtain ⟨j, e1, e2, e3⟩ := hl3 a ds e
          exact ⟨j, wipeE_k e1 e3, e2, e3⟩
        · exact p3
      | true =>
        simp only [if_true]
        have ps3 := Pst.bndX (W' := W0) (G1 := G4) (F1 := upd F D (.lst acc)) (σ1 := σ2) p3
        refine tV_of r5 (ps3.imp (Same.refl _) fun y env4 hy4 p4 v H5 G5 g5 r6 rv => ?_)
        refine ⟨acc, r6.fs _ _ upd_same, ?_, ?_⟩
        · rw [la.length]; omega
        · have r7 := (r6.wipe vs).rehold (o' := .lst (acc ++ [v]))
          rw [hw] at r7
          refine ⟨_, G5, acc ++ [v], dacc ++ [y], gG4.trans g5, r7, (la.mono ((g3.trans g4).trans g5)).append (RepL.cons rv RepL.nil), by rw [List.length_append]; exact Nat.succ_le_succ hle, fun a ds e => ?_, ?_⟩
          · obtain ⟨j, e1, e2, e3⟩ := hl3 a ds e
            have := (keep (T := T) (call := callF T k) (kp_lk (.list ds)) elt).v env3 e1
            rw [hy4] at this
            exact ⟨j, wipeE_k this e3, e2, e3⟩
          · have p5 : Pst T K W G1 F σ ((lcLoop step (xs.drop (i + 1)) (wipeE env4 vs)).bndX fun ds e => .ok (PyData.list (dacc ++ (y :: ds)), unlock env1 (restE env1 e vs) (lockOf it))) _ := p4
            simpa only [List.append_assoc, List.singleton_append] using p5
    · have hii : i = xs.length := by omega
      subst hii
      refine .inl ⟨w2 (Nat.le_refl _), ?_⟩
      rw [List.drop_length] at pi
      have pf : ∀ v H' G'', Same G' G'' → Rel K (unlock env1 (restE env1 envi vs) (lockOf it)) σ H' G'' F → RepE T K G'' H' F (unlock env1 (restE env1 envi vs) (lockOf it)) σ (.lc vs tg it cond elt) (.list (dacc ++ [])) v → Q v H' := pi
      rw [List.append_nil] at pf
      have rr := (r1.rest ri gi hb).unlock env1 (lockOf it)
      have hGD : Gi D = none := ri.fg D (by rw [upd_same]; simp)
      refine pf (.ref D) H2 Gi (g1.trans gi) (rr.weakF (same_upd hFD)) ?_
      unfold RepE
      simp only [borOf]
      show RepX K Gi H2 F _ σ (.list dacc) (.ref D)
      refine ⟨D, acc, rfl, ri.fs _ _ upd_same, hGD, hFD, fun j m z e1 e2 => ?_, la⟩
      obtain ⟨b, f1, _, f3, _⟩ := rr.own j m z e1
      rw [e2] at f1
      cases f1
      rw [upd_same] at f3
      cases f3
theorem n_lc (vs : List Nat) (tg : Tg) {it cond elt : E} (s : Snd T k it) (t : Snd T k cond) (u : Snd T k elt) : Snd T k (.lc vs tg it cond elt) := by
  refine Snd.ofE rfl rfl rfl rfl fun {C W X} G ex h => ?_
  split at h
  · rename_i e tx ix ifs sc p
    obtain ⟨hc, h⟩ := and2 h
    obtain ⟨h0, h⟩ := and2 h
    obtain ⟨h1, h⟩ := and2 h
    obtain ⟨h2, h⟩ := and2 h
    obtain ⟨h3, h⟩ := and2 h
    obtain ⟨h4, h⟩ := and2 h
    obtain ⟨h5, h6⟩ := and2 h
    refine (pe_lc (own := ownOf C vs) (g := tG X.K tg) (tt := tT T X.K W0 (ev T (callF T k) cond).c) (te := tV T (callF T k) X.K W0 elt) (G.calm hc) (by rw [G.N]; exact G.nd) (s.i G hc h2) (blk_ok G h1) (fun s H A cl fp => pg_tg (gx_blk G s H sc cl A fp) tg h3) (fun s H A cl fp => t.c (gx_blk G s H sc cl A fp) h5)
      (fun s H A cl fp => (u.e (gx_blk G s H sc cl A fp) h6).v) (fun x => set_of h0 x)).imp fun σ H Q hq => ?_
    rw [own_map]
    exact lc_read h4 hq
  · exact absurd h Bool.false_ne_true
/-! ### every expression -/
theorem snd : ∀ e : E, Snd T k e
  | .var i => n_var i
  | .bor i => n_bor i
  | .mv i => n_mv i
  | .io i => n_io i
  | .kc d => n_kc d
  | .gl c => n_gl c
  | .nil => n_nil
  | .cons x r => n_cons (snd x) (snd r)
  | .tup es => n_tup (snd es)
  | .lst es => n_lst (snd es)
  | .call f es => n_call f (snd es)
  | .call0 f => n_call0 f
  | .callx fs ix es => n_callx fs (snd ix) (snd es)
  | .b1 b a => n_b1 b (snd a)
  | .b2 b a c => n_b2 b (snd a) (snd c)
  | .m1 m o a => n_m1 m (snd o) (snd a)
  | .mm m i a => n_mm m i (snd a)
  | .bin o a b => n_bin o (snd a) (snd b)
  | .neg a => n_neg (snd a)
  | .cmp o a b => n_cmp o (snd a) (snd b)
  | .chain o o' a b c => n_chain o o' (snd a) (snd b) (snd c)
  | .isC n a d => n_isC n d (snd a)
  | .isi a t => n_isi t (snd a)
  | .nt a => n_nt (snd a)
  | .and a b => n_and (snd a) (snd b)
  | .or a b => n_or (snd a) (snd b)
  | .ite c a b => n_ite (snd c) (snd a) (snd b)
  | .idx a b => n_idx (snd a) (snd b)
  | .sl a lo hi => n_sl (snd a) (snd lo) (snd hi)
  | .rev a => n_rev (snd a)
  | .rg1 a => n_rg1 (snd a)
  | .rg2 a b => n_rg2 (snd a) (snd b)
  | .rg3 _ _ _ => Snd.no rfl
  | .enm a => n_enm (snd a)
  | .zip a b => n_zip (snd a) (snd b)
  | .lc vs tg it cond elt => n_lc vs tg (snd it) (snd cond) (snd elt)
end
end PI
end
section
set_option Elab.async false
set_option linter.all false
set_option maxRecDepth 100000
/-! PJb: a try whose clauses may bind names. -/
namespace PI
open PySem PySem.Spec PyProof.Rows L2
/-- a caught exception that has come down: a its place, σ, H the state without it -/
structure Air (X : Cx) (pins : List (Addr × Obj)) (σ : L2.St) (H : Hp) (cls : Value) (d : Option Addr) (a : Addr) (s : Shared) : Prop where
  ex : ∃ (B : Heap) (t : Shared), Inv X pins σ H t ∧ (∀ b o, t.heap.get? b = some o → b ∉ frs X.stack → B.get? b = some o) ∧ t.heap.UpToSlots s.heap ∧ HandSPX.FlyingZ B (X.env :: X.outer) a (Zc cls d) s.heap ∧ s.os = t.os ∧ AllBare s.gens
  na : H a = none
section
variable {X : Cx} {pins : List (Addr × Obj)} {σ : L2.St} {H : Hp} {cls : Value} {d : Option Addr} {a : Addr} {s : Shared}
theorem Air.inv (x : Air X pins σ H cls d a s) : Inv X pins σ H s := by
  obtain ⟨⟨B, t, J, kB, u, fly, ho, hb⟩, _⟩ := x
  exact J.landed kB fly.1 u ho hb
theorem Air.look (x : Air X pins σ H cls d a s) (hf : X.env.frame = some X.env.locals) : ∃ oe vs, s.heap.get? a = some oe ∧ Zc cls d oe ∧ oe.data = .fields vs ∧ Inv (X.suite a ((a, oe) :: (X.pn ++ pins))) [] σ H s := by
  have J := x.inv
  obtain ⟨⟨B, t, _, _, _, fly, _, _⟩, na⟩ := x
  obtain ⟨oe, vs, g, z, dt⟩ := fly.there
  have out : a ∉ frs (X.env :: X.outer) := fun m => by
    obtain ⟨_, o, g', nd⟩ := fly.2.2.1.mem m
    rw [g] at g'
    cases g'
    exact nd _ dt
  refine ⟨oe, vs, g, z, dt, J.suite g dt na (fun e => out ?_) (fun m => out ?_)⟩
  · exact List.mem_filterMap.mpr ⟨X.env, List.mem_cons_self, by rw [hf, e]⟩
  · obtain ⟨e, he, q⟩ := List.mem_filterMap.mp m
    exact List.mem_filterMap.mpr ⟨e, List.mem_cons_of_mem _ he, q⟩
theorem Air.again {M : Model} {A : Around} {Q : Unit → Shared → Prop} {E : Value → Shared → Prop} (x : Air X pins σ H cls d a s) (h : ∀ s', Air X pins σ H cls d a s' → Q () s') : wpAny M A (setFlight (.ref a) none) Q E s := by
  obtain ⟨⟨B, t, J, kB, u, fly, ho, hb⟩, na⟩ := x
  exact HandSPX.lands_againZ fly fun h' fly' u' => h _ ⟨⟨B, t, J, kB, u.trans u', fly', ho, hb⟩, na⟩
/-- no clause takes it -/
theorem Air.pass {A : Around} {W : WX} {D : Ends} (x : Air X pins σ H cls d a s) (hs : X.stack = X.env :: X.outer) (hf : X.env.frame = some X.env.locals) (tk : Takes X W) (w : W cls d σ H) :
    wpAny (model X.prog X.w) A (handleBy (.ref a) X.env []) (SP X pins D) X.xe s := by
  obtain ⟨⟨B, t, J, kB, u, fly, ho, hb⟩, na⟩ := x
  have up : wpAny (model X.prog X.w) A (setFlight (.ref a) X.env.frame) (fun _ s4 => wpAny (model X.prog X.w) A (throw (.ref a) : Sem Flow) (SP X pins D) X.xe s4) X.xe s := by
    rw [hf]
    exact HandSPX.setFlight_upZ fly fun h' held u' => wpAny_throw (tk _ _ ⟨a, B, t, pins, σ, H, cls, d, rfl, J, kB, u.trans u', .inr (.inr (by rw [hs]; exact held)), na, ho, hb, w⟩)
  obtain ⟨_, _, _, oe, vs, tb, _, _, g, _, dt, v1, _⟩ := id fly
  refine wpAny_handleBy_nil ?_
  unfold PySem.passOn
  refine wpAny_bind (wpAny_field g dt v1 ?_)
  rw [if_neg (by simp : ¬ ((Value.ref tb == Value.none) = true))]
  first
    | exact wpAny_bind (wpAny_pure (wpAny_bind up))
    | exact wpAny_bind up
end
/-- the name goes behind the suite -/
def goneD (i : Nat) (D : Ends) : Ends := { nx := fun σ H => D.nx (σ.set i none) H, rt := D.rt, bk := fun σ H => D.bk (σ.set i none) H, ct := fun σ H => D.ct (σ.set i none) H }
abbrev Clz := Value × Option Nat × (Addr → Value → Option Addr → TS)
/-- what the clauses wish of an exception, one after the other -/
def wMix (K : PySem.W.Frag) (W : WX) (D : Ends) : List Clz → WX
  | [] => W
  | (c, none, ts) :: r => fun cls d σ H => ∃ b, PySem.W.exmOne K cls c = some b ∧ (b = true → ∀ a, H a = none → ts a cls d D σ H) ∧ (b = false → wMix K W D r cls d σ H)
  | (c, some i, ts) :: r => fun cls d σ H => ∃ b, PySem.W.exmOne K cls c = some b ∧ (b = true → ∀ a, H a = none → ts a cls d (goneD i D) (σ.set i (some (.ref a))) H) ∧ (b = false → wMix K W D r cls d σ H)
inductive HdMix (X : Cx) : List ExceptHandler → List Clz → Prop
  | nil : HdMix X [] []
  | plain {x : Str} {c : Value} {ts : Addr → Value → Option Addr → TS} {st : Stmt} {sts : List Stmt} {p q : Pos} {hds : List ExceptHandler} {l : List Clz} (nm : Names X x c)
      (run : ∀ (a : Addr) (oe : Obj) (cls : Value) (d : Option Addr) (pn : List (Addr × Obj)), Zc cls d oe → (∃ vs, oe.data = .fields vs) → PSs (X.suite a ((a, oe) :: pn)) (st :: sts) (ts a cls d)) (more : HdMix X hds l) :
      HdMix X (.ExceptHandler (some (.Name x p)) none (st :: sts) q :: hds) ((c, none, ts) :: l)
  | named {x n : Str} {i : Nat} {c : Value} {ts : Addr → Value → Option Addr → TS} {st : Stmt} {sts : List Stmt} {p q : Pos} {hds : List ExceptHandler} {l : List Clz} (nm : Names X x c) (at_ : X.N[i]? = some n) (lc : X.env.kindOf n = some .local)
      (run : ∀ (a : Addr) (oe : Obj) (cls : Value) (d : Option Addr) (pn : List (Addr × Obj)), Zc cls d oe → (∃ vs, oe.data = .fields vs) → PSs (X.suite a ((a, oe) :: pn)) (st :: sts) (ts a cls d)) (more : HdMix X hds l) :
      HdMix X (.ExceptHandler (some (.Name x p)) (some n) (st :: sts) q :: hds) ((c, some i, ts) :: l)
section
variable {X : Cx} {body : List Stmt} {h0 : ExceptHandler} {hds : List ExceptHandler} {l : List Clz} {pos : Pos} {tb : WX → TS} {W : WX}
theorem SP.unsuite {pins : List (Addr × Obj)} {D : Ends} {a : Addr} {oe : Obj} {fl : Flow} {s : Shared} (ok : X.Ok) (h : SP (X.suite a ((a, oe) :: (X.pn ++ pins))) [] D fl s) : SP X pins D fl s := by
  cases fl with
  | next => exact let ⟨σ, H, J, q⟩ := h; ⟨σ, H, J.unsuite ok, q⟩
  | brk => exact let ⟨σ, H, J, q⟩ := h; ⟨σ, H, J.unsuite ok, q⟩
  | cont => exact let ⟨σ, H, J, q⟩ := h; ⟨σ, H, J.unsuite ok, q⟩
  | ret u => exact let ⟨v, σ, H, J, r, q⟩ := h; ⟨v, σ, H, J.unsuite ok, r, q⟩
theorem SP.unTry {pins : List (Addr × Obj)} {D : Ends} {xe : Value → Shared → Prop} {fl : Flow} {s : Shared} (ok : X.Ok) (h : SP (X.tr (X.pn ++ pins) xe) [] D fl s) : SP X pins D fl s := by
  cases fl with
  | next => exact let ⟨σ, H, J, q⟩ := h; ⟨σ, H, J.ofTry ok, q⟩
  | brk => exact let ⟨σ, H, J, q⟩ := h; ⟨σ, H, J.ofTry ok, q⟩
  | cont => exact let ⟨σ, H, J, q⟩ := h; ⟨σ, H, J.ofTry ok, q⟩
  | ret u => exact let ⟨v, σ, H, J, r, q⟩ := h; ⟨v, σ, H, J.ofTry ok, r, q⟩
theorem mix_test {pins : List (Addr × Obj)} {σ : L2.St} {H : Hp} {cls c : Value} {d : Option Addr} {a : Addr} {s : Shared} {x : Str} {p : Pos} {b : Bool} {Q : Bool → Shared → Prop} {E E' : Value → Shared → Prop} (f : Air X pins σ H cls d a s) (hf : X.env.frame = some X.env.locals) (nm : Names X x c) (hb : PySem.W.exmOne X.K cls c = some b) (q : Q b s) :
    wpAny (model X.prog X.w) (X.A.mark (some (.ref a))) (eval (.Name x p) X.env) (fun u s1 => wpAny (model X.prog X.w) (X.A.mark (some (.ref a))) (excMatches (.ref a) u) Q E s1) E' s := by
  obtain ⟨oe, vs, g, z, dt, S⟩ := f.look hf
  have LT : PySem.W.Looks (model X.prog X.w) s.heap (typeOf (.ref a)) cls := fun A Q E s k q => wpAny_typeOf_ref (k _ _ g) (by rw [z.1]; exact q)
  have LM := PySem.W.exm_one (M := model X.prog X.w) f.inv.kIn LT hb
  obtain ⟨gl, nd, hm | ⟨hm, bt, nn⟩⟩ := nm
  · exact ld_glob (X := X.suite a ((a, oe) :: (X.pn ++ pins))) S gl hm (LM.here q) nd
  · exact ld_blt (X := X.suite a ((a, oe) :: (X.pn ++ pins))) S gl hm bt (LM.here q) nn nd
theorem mix_go {pins : List (Addr × Obj)} {σ : L2.St} {H : Hp} {cls : Value} {d : Option Addr} {a : Addr} {D : Ends} (ok : X.Ok) (nd : X.N.Nodup) (hs : X.stack = X.env :: X.outer) (hf : X.env.frame = some X.env.locals) (tk : Takes X W) :
    ∀ {hds : List ExceptHandler} {l : List Clz}, HdMix X hds l → ∀ {s : Shared}, Air X pins σ H cls d a s → wMix X.K W D l cls d σ H → wpAny (model X.prog X.w) X.A (handleBy (.ref a) X.env hds) (SP X pins D) X.xe s := by
  intro hds l hk
  induction hk with
  | nil => exact fun f w => f.pass hs hf tk w
  | plain nm run more ih =>
    intro s f ⟨b, hb, yes, no⟩
    refine wpAny_handleBy_cons (codeAny_handlers_test (mix_test f hf nm hb ?_)) (fun q => by cases q)
    cases b with
    | false => exact ih f (no rfl)
    | true =>
      refine codeAny_handlers_suite (f.again fun s' f' => ?_)
      obtain ⟨oe, vs, g, z, dt, S⟩ := f'.look hf
      exact wpAny_mono ((run a oe cls d (X.pn ++ pins) z ⟨_, dt⟩).run [] s' _ H D S (yes rfl a f.na)) (fun fl s6 h => SP.unsuite ok h) (fun _ _ q => q.elim)
  | @named x n i c ts st sts p q hds l nm at_ lc run more ih =>
    intro s f ⟨b, hb, yes, no⟩
    refine wpAny_handleBy_cons (codeAny_handlers_test (mix_test f hf nm hb ?_)) (fun q => by cases q)
    cases b with
    | false => exact ih f (no rfl)
    | true =>
      refine codeAny_handlers_suite_as (f.again fun s' f' => ?_)
      obtain ⟨oe, vs, g, z, dt, S⟩ := f'.look hf
      refine store_ok (X := X.suite a ((a, oe) :: (X.pn ++ pins))) (v := .ref a) S nd at_ (.inl lc) rfl (fun s5 S5 => ?_) (.inr lc)
      refine wpAny_mono ((run a oe cls d (X.pn ++ pins) z ⟨_, dt⟩).run [] s5 _ H _ S5 (yes rfl a f.na)) (fun fl s6 h => ?_) (fun _ _ q => q.elim)
      have h := SP.unsuite ok h
      have bye : ∀ {σ6 : L2.St} {H6 : Hp} {R : Shared → Prop}, Inv X pins σ6 H6 s6 → (∀ s7, Inv X pins (σ6.set i none) H6 s7 → R s7) → wpAny (model X.prog X.w) X.A (do bindName X.env n .none; unbindBehindTheSuite X.env n q) (fun _ s7 => R s7) X.xe s6 := fun {σ6 H6 R} J hq => gone_ok J nd at_ lc hq
      cases fl with
      | next => exact let ⟨σ6, H6, J, w⟩ := h; bye J fun s7 J7 => ⟨_, _, J7, w⟩
      | brk => exact let ⟨σ6, H6, J, w⟩ := h; bye J fun s7 J7 => ⟨_, _, J7, w⟩
      | cont => exact let ⟨σ6, H6, J, w⟩ := h; bye J fun s7 J7 => ⟨_, _, J7, w⟩
      | ret u => exact let ⟨v6, σ6, H6, J, r, w⟩ := h; bye J fun s7 J7 => ⟨v6, _, _, J7, r, w⟩
theorem ps_try_mix (nd : X.N.Nodup) (hs : X.stack = X.env :: X.outer) (hf : X.env.frame = some X.env.locals) (tk : Takes X W)
    (hb : ∀ (W' : WX) (pn : List (Addr × Obj)) (xe : Value → Shared → Prop), Takes (X.tr pn xe) W' → PassesOwn (model X.prog X.w) X.A X.env xe → PSs (X.tr pn xe) body (tb W'))
    (hh : HdMix X (h0 :: hds) l) : PS X (.Try body (h0 :: hds) [] [] pos) (fun D σ H => tb (wMix X.K W D l) D σ H) := by
  refine ⟨fun pins s σ H D I h => wpAny_Try_except ?_⟩
  have ok := I.ok
  have run := (hb (wMix X.K W D l) (X.pn ++ pins) (fun u s1 => wpAny (model X.prog X.w) X.A (noteFrame u X.env) (fun _ s2 => wpAny (model X.prog X.w) X.A (setFlight u none) (fun _ s3 =>
    wpAny (model X.prog X.w) X.A (handleBy u X.env (h0 :: hds)) (SP X pins D) X.xe s3) X.xe s2) X.xe s1) (fun u s1 y => ?_) PassesOwn.looking).run [] s σ H D (I.toTry _) h
  · refine wpAny_mono run (fun fl s1 q => ?_) (fun _ _ q => q)
    have q := SP.unTry ok q
    cases fl with
    | next => exact let ⟨σ', H', J, w⟩ := q; wpAny_execs_nil ⟨σ', H', J, w⟩
    | brk => exact q
    | cont => exact q
    | ret u => exact q
  · obtain ⟨a, B, t, pins', σ', H', cls, d, rfl, J, kB, u, sky, na, ho, hg, w⟩ := y
    rw [show (X.tr (X.pn ++ pins) _).stack = X.env :: X.outer from hs] at sky
    have hfr : X.A.frames = some (X.env :: X.outer) := by rw [ok.frames, hs]
    exact Sky.land Zc.steady hfr hf sky fun h3 fly u3 => mix_go ok nd hs hf tk hh (s := { s1 with heap := h3 }) ⟨⟨B, t, J.ofTry ok, kB, u.trans u3, fly, ho, hg⟩, na⟩ w
end
end PI
end
section
set_option Elab.async false
set_option linter.all false
set_option maxRecDepth 100000
set_option maxHeartbeats 2000000
/-! PJc: what an except suite answers of its exception. -/
namespace PI
open PySem PySem.Spec PyProof.Rows L2
/-- isinstance(e, c), e the exception that the suite holds, with a dict or without -/
theorem call_isX {X : Cx} {a D : Addr} {oe : Obj} {d : Option Addr} {pn : List (Addr × Obj)} (C : ExcC X.K D) (hz : Zc (.ref D) d oe) (hf : ∃ vs, oe.data = .fields vs) :
    CallR (X.suite a ((a, oe) :: pn)) (.builtin "isinstance") fun xs H Q => ∃ (c : V) (cv : Value) (b : Bool), xs = [.ref a, c] ∧ (∀ u, RelV c u → u = cv) ∧ PySem.W.kitOne X.K (.ref D) cv = some b ∧ (∀ dd, d = some dd → ∃ fs, H dd = some (.xd fs)) ∧ Q (.bl b) H := by
  intro pins s σ H xs us Q I r h
  obtain ⟨c, cv, b, rfl, hcv, e, hd, q⟩ := h
  cases r with
  | cons r1 r =>
    cases r with
    | cons r2 r =>
      cases r
      cases r1
      obtain rfl := hcv _ r2
      have g := (I.pin (a, oe) (List.mem_append_left _ List.mem_cons_self)).1
      obtain ⟨vs, dt⟩ := hf
      have nc : PySem.W.notCls oe = true := by unfold PySem.W.notCls; rw [dt] <;> rfl
      have cl : (PySem.W.clsIn X.K D).isSome = true := by
        obtain ⟨cd, hc, _⟩ := PySem.W.any_some C.hd
        rw [hc]; rfl
      obtain ⟨od, J⟩ : ∃ od, PySem.W.InstAt s.heap a oe D od := by
        cases d with
        | none => exact ⟨none, g, hz.1, nc, by rw [hz.2]; trivial⟩
        | some dd =>
          obtain ⟨fs, hdd⟩ := hd dd rfl
          obtain ⟨mA, ⟨o, _, _, ho, _⟩, _⟩ := (show ObjOk X.prog X.w H s.heap dd (.xd fs) from I.hok dd _ hdd)
          exact ⟨some o, g, hz.1, nc, by rw [hz.2]; exact ho⟩
      exact PySem.W.kia_one (PySem.W.kitx_exc (od := od) cl C.hg C.hk C.hs C.ha C.hn C.ht C.hm) I.kIn J e (fun z => nomatch z) fun tk => ⟨.bl b, H, I.kept (t' := tk) fun _ _ z => z, rfl, q⟩
/-- the suite's expression against its text: n the exception's name -/
def isxB (T : Tab) (C : CC) (n : Str) (c : Nat) (i y m : Str) : Bool := (decide (i = ("isinstance" : Str)) && gloB C i) && ((decide (y = n) && gloB C m) && (match T.cls[c]? with
  | some (q, _) => decide (q = m)
  | none => false))
def xck (T : Tab) (C : CC) (n : Str) : XE → Expr → Bool
  | .fld f => fun ex => match ex with
    | .Attribute (.Name x _) g _ => decide (x = n) && decide (g = f)
    | _ => false
  | .str s => fun ex => match ex with
    | .Constant (.str t) _ _ => decide (t = s)
    | _ => false
  | .add a b => fun ex => match ex with
    | .BinOp l .Add r _ => xck T C n a l && xck T C n b r
    | _ => false
  | .isx c => fun ex => match ex with
    | .Call (.Name i _) [.Name x _, .Name m _] [] _ => isxB T C n c i x m
    | _ => false
  | .ite c a b => fun ex => match ex with
    | .IfExp (.Call (.Name i _) [.Name x _, .Name m _] [] _) l r _ => isxB T C n c i x m && (xck T C n a l && xck T C n b r)
    | _ => false
  | .pair a b => fun ex => match ex with
    | .Tuple [l, r] _ _ => (notStar l && notStar r) && (xck T C n a l && xck T C n b r)
    | _ => false
section
variable {T : Tab} {k : Nat} {C : CC} {W : WX} {X : Cx} {j : Nat} {n : Str} {x : Ex} {a : Addr} {oe : Obj} {cls : Value} {dx : Option Addr} {pn : List (Addr × Obj)}
theorem ExRep.mono {K : PySem.W.Frag} {G G' H H' : Hp} (r : ExRep T K G H x cls dx) (g : Same G G') (h : Same H H') : ExRep T K G' H' x cls dx := by
  unfold ExRep at r ⊢
  split at r
  · exact r
  · obtain ⟨e, d, b, v, e1, e2, e3, e4⟩ := r
    exact ⟨e, d, b, v, e1, e2, h _ _ e3, e4.mono g⟩
  · exact r
/-- the reading: a stands in slot j, dx its dict -/
def tX (T : Tab) (K : PySem.W.Frag) (j : Nat) (x : Ex) (a : Addr) (cls : Value) (dx : Option Addr) (e : XE) : TE := fun σ H Q => ∃ G, σ[j]? = some (some (.ref a)) ∧ Same G H ∧ ExRep T K G H x cls dx ∧
  ∃ d, xev T x e = some d ∧ ∀ v H' G', Same G G' → Same G' H' → Same H H' → (∀ b, H b ≠ none → G b = none → G' b = none) → Rep K G' d v → Q v H'
theorem cls_is {K : PySem.W.Frag} {G H : Hp} (r : ExRep T K G H x cls dx) : ∃ m o, T.cls[x.cls]? = some (m, o) ∧ cls = .ref (He.ga K m) := by
  unfold ExRep at r
  split at r
  · rename_i m hm; exact ⟨m, none, hm, r.1⟩
  · rename_i m f hm; exact ⟨m, some f, hm, r.1⟩
  · exact r.elim
theorem dx_is {K : PySem.W.Frag} {G H : Hp} (r : ExRep T K G H x cls dx) : ∀ dd, dx = some dd → ∃ fs, H dd = some (.xd fs) := fun dd e => by
  unfold ExRep at r
  split at r
  · rw [r.2.1] at e; cases e
  · obtain ⟨_, d, b, v, _, e2, e3, _⟩ := r
    rw [e] at e2; cases e2
    exact ⟨_, e3⟩
  · exact r.elim
theorem x_isx (G : GX T k C W X) (hj : X.N[j]? = some n) (hn : X.env.kindOf n = some .local) (nd : nameOk n = true) (hz : Zc cls dx oe) (hf : ∃ vs, oe.data = .fields vs) {c : Nat} {i m y : Str} {p1 p2 p3 p4 : Pos}
    (h : isxB T C n c i y m = true) : PE (X.suite a ((a, oe) :: pn)) (.Call (.Name i p1) [.Name y p2, .Name m p3] [] p4)
      fun σ H Q => ∃ G, σ[j]? = some (some (.ref a)) ∧ Same G H ∧ ExRep T X.K G H x cls dx ∧ Q (.bl (matches_ T x.cls c)) H := by
  unfold isxB at h
  obtain ⟨h1, h⟩ := and2 h
  obtain ⟨h1, h2⟩ := and2 h1
  obtain ⟨h3, h5⟩ := and2 h
  obtain ⟨h3, h4⟩ := and2 h3
  obtain rfl := of_decide_eq_true h1
  obtain rfl := of_decide_eq_true h3
  split at h5
  · rename_i q o hc
    obtain rfl := of_decide_eq_true h5
    obtain ⟨g1, g2, g3⟩ := glo_ok G h2
    obtain ⟨g4, g5, g6⟩ := glo_ok G h4
    obtain ⟨c1, c2, c3, c4, c5⟩ := G.tab.cls c _ _ hc
    obtain ⟨n1, n2⟩ := and2 nd
    obtain ⟨n1, n3⟩ := and2 n1
    refine ⟨fun pins s σ H Q I ⟨G', e1, e2, r, q0⟩ => ?_⟩
    obtain ⟨m', o', hm', rfl⟩ := cls_is r
    have ca := call_isX (X := X) (a := a) (oe := oe) (pn := pn) (G.tab.isE x.cls m' o' hm') hz hf
    have main : PE (X.suite a ((a, oe) :: pn)) (.Call (.Name "isinstance" p1) [.Name y p2, .Name q p3] [] p4) _ :=
      pe_callB ca g1 (G.tab.blt ("isinstance", .builtin "isinstance") (by decide +kernel)) (by decide +kernel) (pa_cons (pe_var (i := j) hj (.inl hn) (by simpa using n1) (by simpa using n3)) (pa_cons (pe_glob (v := .ref (He.ga X.K q)) g4 c1 rfl g5) pa_nil)) (hdb := g2)
    exact main.run pins s σ H Q I ⟨.ref a, e1, _, _, _, rfl, fun u z => z, G.tab.kit x.cls c m' q o' o hm' hc, dx_is r, q0⟩
  · exact absurd h5 Bool.false_ne_true
theorem xev_nl : ∀ (e : XE) {d : Da}, xev T x e = some d → ∀ ds, d ≠ .list ds
  | .fld f, d, h, ds, z => by
    subst z
    unfold xev at h
    split at h
    · split at h
      · have := (Option.filter_eq_some_iff.mp h).2
        cases this
      · cases h
    · cases h
  | .str s, d, h, ds, z => by subst z; cases h
  | .add a b, d, h, ds, z => by
    subst z
    unfold xev at h
    split at h
    · split at h <;> cases h
    · cases h
  | .isx c, d, h, ds, z => by subst z; cases h
  | .ite c a b, d, h, ds, z => by
    unfold xev at h
    split at h
    · exact xev_nl a h ds z
    · exact xev_nl b h ds z
  | .pair a b, d, h, ds, z => by
    subst z
    unfold xev at h
    split at h <;> cases h
theorem xe_ok (G : GX T k C W X) (hj : X.N[j]? = some n) (hn : X.env.kindOf n = some .local) (nd : nameOk n = true) (hz : Zc cls dx oe) (hf : ∃ vs, oe.data = .fields vs) :
    ∀ (e : XE) {ex : Expr}, xck T C n e ex = true → PE (X.suite a ((a, oe) :: pn)) ex (tX T X.K j x a cls dx e)
  | .fld f, ex, h => by
    unfold xck at h
    split at h <;> try exact absurd h Bool.false_ne_true
    rename_i y p1 g p2
    obtain ⟨h1, h2⟩ := and2 h
    obtain rfl := of_decide_eq_true h1
    obtain rfl := of_decide_eq_true h2
    obtain ⟨n1, n2⟩ := and2 nd
    obtain ⟨n1, n3⟩ := and2 n1
    refine ⟨fun pins s σ H Q I ⟨G', e1, e2, r, d, e3, q⟩ => ?_⟩
    unfold xev at e3
    unfold ExRep at r
    cases hm : T.cls[x.cls]? with
    | none => rw [hm] at r; exact r.elim
    | some z =>
      obtain ⟨m, o⟩ := z
      rw [hm] at r e3
      cases o with
      | none => cases e3
      | some f0 =>
        obtain ⟨rfl, d0, b, v, r1, rfl, r3, r4⟩ := r
        simp only at e3
        split at e3
        · rename_i hfg
          obtain rfl := hfg
          rw [r1] at e3
          obtain ⟨e3, _⟩ := Option.filter_eq_some_iff.mp e3
          cases e3
          obtain ⟨xc, hno⟩ := G.tab.xf x.cls m _ hm
          exact (pe_xf xc hno hz hf (pe_var (X := X.suite a ((a, oe) :: pn)) (i := j) hj (.inl hn) (by simpa using n1) (by simpa using n3))).run pins s σ H Q I
            ⟨.ref a, e1, rfl, rfl, b, _, v, rfl, r3, by simp [List.lookup], q v H G' (Same.refl _) e2 (Same.refl _) (fun _ _ z => z) r4⟩
        · cases e3
  | .str s, ex, h => by
    unfold xck at h
    split at h <;> try exact absurd h Bool.false_ne_true
    obtain rfl := of_decide_eq_true h
    exact pe_str.imp fun σ H Q ⟨G', e1, e2, r, d, e3, q⟩ => by
      cases e3
      exact q _ H G' (Same.refl _) e2 (Same.refl _) (fun _ _ z => z) (by simp only [Rep])
  | .add a' b', ex, h => by
    unfold xck at h
    split at h <;> try exact absurd h Bool.false_ne_true
    obtain ⟨h1, h2⟩ := and2 h
    refine (pe_op op_add_str (xe_ok G hj hn nd hz hf a' h1) (xe_ok G hj hn nd hz hf b' h2)).imp fun σ H Q ⟨G', e1, e2, r, d, e3, q⟩ => ?_
    unfold xev at e3
    split at e3
    · rename_i s t ea eb
      split at e3
      · rename_i hl
        cases e3
        refine ⟨G', e1, e2, r, _, ea, fun v H1 G1 g1 gs1 s1 nn1 rv => ⟨G1, e1, gs1, r.mono g1 s1, _, eb, fun v' H2 G2 g2 gs2 s2 nn2 rv' => ⟨s, t, rv, rv', hl, ?_⟩⟩⟩
        refine q _ H2 G2 (g1.trans g2) gs2 (s1.trans s2) (fun b hb gb => nn2 b (fun z => ?_) (nn1 b hb gb)) (by simp only [Rep])
        cases hx : H b with
        | none => exact hb hx
        | some o => rw [s1 _ _ hx] at z; cases z
      · cases e3
    · cases e3
  | .isx c, ex, h => by
    unfold xck at h
    split at h <;> try exact absurd h Bool.false_ne_true
    exact (x_isx G hj hn nd hz hf h).imp fun σ H Q ⟨G', e1, e2, r, d, e3, q⟩ => by
      cases e3
      exact ⟨G', e1, e2, r, q _ H G' (Same.refl _) e2 (Same.refl _) (fun _ _ z => z) (by simp only [Rep])⟩
  | .ite c a' b', ex, h => by
    unfold xck at h
    split at h <;> try exact absurd h Bool.false_ne_true
    obtain ⟨h0, h⟩ := and2 h
    obtain ⟨h1, h2⟩ := and2 h
    refine (pe_ifExp (pt_val (x_isx (x := x) G hj hn nd hz hf h0)) (xe_ok G hj hn nd hz hf a' h1) (xe_ok G hj hn nd hz hf b' h2)).imp fun σ H Q ⟨G', e1, e2, r, d, e3, q⟩ => ?_
    unfold xev at e3
    refine ⟨G', e1, e2, r, _, rfl, ?_⟩
    by_cases hm : matches_ T x.cls c = true
    · rw [if_pos hm] at e3 ⊢
      exact ⟨G', e1, e2, r, d, e3, q⟩
    · rw [if_neg hm] at e3 ⊢
      exact ⟨G', e1, e2, r, d, e3, q⟩
  | .pair a' b', ex, h => by
    unfold xck at h
    split at h <;> try exact absurd h Bool.false_ne_true
    obtain ⟨h0, h⟩ := and2 h
    obtain ⟨h1, h2⟩ := and2 h
    obtain ⟨k1, k2⟩ := and2 h0
    refine (pe_tup (pa_cons (xe_ok G hj hn nd hz hf a' h1) (pa_cons (xe_ok G hj hn nd hz hf b' h2) pa_nil (star_of k2)) (star_of k1))).imp fun σ H Q ⟨G', e1, e2, r, d, e3, q⟩ => ?_
    unfold xev at e3
    split at e3
    · rename_i da db ea eb
      cases e3
      refine ⟨G', e1, e2, r, _, ea, fun v H1 G1 g1 gs1 s1 nn1 rv => ⟨G1, e1, gs1, r.mono g1 s1, _, eb, fun v' H2 G2 g2 gs2 s2 nn2 rv' => ⟨by simp [sizeLine_eq], fun p hp => ?_⟩⟩⟩
      have gp := same_none gs2 hp
      refine q _ _ (upd G2 p (.tup [v, v'])) ((g1.trans g2).trans (same_upd gp)) (same_upd2 gs2 hp) ((s1.trans s2).trans (same_upd hp)) (fun b hb gb => ?_) ?_
      · have h1b : H1 b ≠ none := fun z => by
          cases hx : H b with
          | none => exact hb hx
          | some o => rw [s1 _ _ hx] at z; cases z
        have h2b : H2 b ≠ none := fun z => by
          cases hx : H1 b with
          | none => exact h1b hx
          | some o => rw [s2 _ _ hx] at z; cases z
        rw [upd_ne (fun z => h2b (by rw [z]; exact hp))]
        exact nn2 b h1b (nn1 b hb gb)
      · simp only [Rep]
        exact ⟨p, _, rfl, SqT.of upd_same, RepL.cons ((rv.mono g2).mono (same_upd gp)) (RepL.cons (rv'.mono (same_upd gp)) RepL.nil)⟩
    · cases e3
end
end PI
end
section
set_option Elab.async false
set_option linter.all false
set_option maxRecDepth 100000
/-! PIs: the check of statements. -/
namespace PI
open PySem PySem.Spec PyProof.Rows L2

structure CkS where
  one : CC → Stmt → Bool
  blk : CC → List Stmt → Bool
  hds : CC → List ExceptHandler → Bool
def CkS.no : CkS := ⟨fun _ _ => false, fun _ _ => false, fun _ _ => false⟩
def CkS.of (f : CC → Stmt → Bool) : CkS := ⟨f, fun _ _ => false, fun _ _ => false⟩
def notComp : Expr → Bool
  | .ListComp _ _ _ _ => false
  | .SetComp _ _ _ _ => false
  | .DictComp _ _ _ _ _ => false
  | _ => true
def notTupE : Expr → Bool
  | .Tuple _ _ _ => false
  | _ => true
/-- the names that would be stored from the right -/
def swNames (sc : Scope) (ts : List Expr) : List Str :=
  let line := (ts.head?.map (·.pos.line)).getD 0
  ts.filterMap fun
    | .Name id pos => if sc.names.lookup id == some .local && pos.line == line then some id else none
    | _ => none
def isStarred : Expr → Bool
  | .Starred _ _ => true
  | _ => false
/-- a tuple's parts go by the tuple -/
def noSwap (sc : Scope) (ts vs : List Expr) : Bool :=
  ((!(ts.length == 2 || ts.length == 3) || vs.length != ts.length) || vs.any isStarred) || (((swNames sc ts).length != ts.length || (swNames sc ts).eraseDups.length != (swNames sc ts).length) || vs.all (foldedForSure 8))
/-- .. do not -/
def doSwap (sc : Scope) (ts vs : List Expr) : Bool :=
  !((!(ts.length == 2 || ts.length == 3) || vs.length != ts.length) || vs.any isStarred) && (!((swNames sc ts).length != ts.length || (swNames sc ts).eraseDups.length != (swNames sc ts).length) && (!(vs.all (foldedForSure 8)) && !(vs.all (constantsAlone 8))))
def unpB (C : CC) : Expr → Expr → Bool
  | .Tuple ts _ _, .Tuple vs _ _ => noSwap C.sc ts vs
  | .Tuple _ _ _, _ => true
  | _, _ => false
def locO (C : CC) (x : Str) : Bool := decide (C.sc.names.lookup x = some .local)
section
variable (T : Tab) (fr : Bool)
def asgB (i : Nat) (e : E) (C : CC) : Stmt → Bool
  | .Assign [.Name x _] ex _ => tgtB C i x && (ck T e).e C ex
  | _ => false
def isStrC : Expr → Bool
  | .Constant (.str _) _ _ => true
  | _ => false
def ckS : S → CkS
  | .skip => ⟨fun _ st => match st with
    | .Pass _ => true
    | .Expr (.Constant (.str _) _ _) _ => true
    | _ => false, fun _ l => l.isEmpty, fun _ l => l.isEmpty⟩
  | .seq a b => ⟨fun _ _ => false, fun C l => match l with
    | st :: r => (ckS a).one C st && (ckS b).blk C r
    | [] => false, fun _ _ => false⟩
  | .expr e => .of fun C st => match st with
    | .Expr ex _ => notComp ex && (ck T e).e C ex
    | _ => false
  | .asg i e => .of fun C st => asgB T i e C st
  | .asgO i e => .of fun C st => asgB T i e C st
  | .unp t e => .of fun C st => match st with
    | .Assign [tg] ex _ => unpB C tg ex && (chkTg C t tg && (ck T e).e C ex)
    | _ => false
  | .par ts es => .of fun C st => match ts with
    | [(i, _), (j, _)] => (match st with
      | .Assign [.Tuple [.Name x px, .Name y py] kt pt] (.Tuple [a, b] _ _) _ => C.cm && (decide (i ≠ j) && (decide (C.N[i]? = some x) && (decide (C.N[j]? = some y) && (locO C x && (locO C y && (doSwap C.sc [.Name x px, .Name y py] [a, b] && (ck T es).l C [a, b]))))))
      | _ => false)
    | [(i, _), (j, _), (l, _)] => (match st with
      | .Assign [.Tuple [.Name x px, .Name y py, .Name z pz] kt pt] (.Tuple [a, b, c] _ _) _ => C.cm && (decide (i ≠ j ∧ i ≠ l ∧ j ≠ l) && (decide (C.N[i]? = some x) && (decide (C.N[j]? = some y) && (decide (C.N[l]? = some z) && (locO C x && (locO C y && (locO C z && (doSwap C.sc [.Name x px, .Name y py, .Name z pz] [a, b, c] && (ck T es).l C [a, b, c]))))))))
      | _ => false)
    | _ => false
  | .setI i ix e => .of fun C st => match st with
    | .Assign [.Subscript (.Name x _) y _] ex _ => slotB C i x && (notSlice y && ((ck T ix).e C y && (ck T e).e C ex))
    | _ => false
  | .swp _ _ _ _ _ => .no
  | .aug i o e => .of fun C st => match st with
    | .AugAssign (.Name x _) op ex _ => tgtB C i x && (decide (op = opOf o) && (decide (o = .add ∨ o = .sub ∨ o = .fdiv) && (ck T e).e C ex))
    | _ => false
  | .ret e => .of fun C st => match st with
    | .Return (some ex) _ => (!fr || fresh T e) && (ck T e).e C ex
    | _ => false
  | .retN => .of fun C st => match st with
    | .Return none _ => true
    | _ => false
  | .ite c a b => .of fun C st => match st with
    | .If x l r _ => (ck T c).t C x && ((ckS a).blk C l && (ckS b).blk C r)
    | _ => false
  | .whl c b => .of fun C st => match st with
    | .While x l [] _ => (ck T c).t C x && (ckS b).blk C l
    | _ => false
  | .for t it b => .of fun C st => match st with
    | .For tg ex l [] _ => C.cm && (notSet ex && ((ck T it).i C tg ex && (chkTg C t tg && (ckS b).blk C l)))
    | _ => false
  | .raise c a => .of fun C st => match st with
    | .Raise (some (.Call (.Name x _) [y] [] _)) none _ => C.cm && (gloB C x && (match T.cls[c]? with
      | some (n, none) => decide (n = x) && isStrC y
      | some (n, some _) => decide (n = x) && (notStar y && (ck T a).e C y)
      | none => false))
    | _ => false
  | .tryx b h => .of fun C st => match st with
    | .Try l (h0 :: hs) [] [] _ => (ckS b).blk C l && (ckS h).hds { C with cm := false } (h0 :: hs)
    | _ => false
  | .hnd c jo b more => ⟨fun _ _ => false, fun _ _ => false, fun C l => match jo with
    | none => (match l with
      | .ExceptHandler (some (.Name x _)) none (s0 :: ss) _ :: r => gloB C x && ((match T.cls[c]? with
        | some (n, _) => decide (n = x)
        | _ => false) && ((ckS b).blk C (s0 :: ss) && (ckS more).hds C r))
      | _ => false)
    | some _ => false⟩
  | .hndx c j e more => ⟨fun _ _ => false, fun _ _ => false, fun C l => match l with
    | .ExceptHandler (some (.Name x _)) (some n) [.Return (some ex) _] _ :: r => gloB C x && ((match T.cls[c]? with
      | some (m, _) => decide (m = x)
      | _ => false) && ((decide (C.N[j]? = some n) && (decide (C.sc.names.lookup n = some .local) && nameOk n)) && (xck T C n e ex && (ckS more).hds C r)))
    | _ => false⟩
  | .brk => .of fun C st => match st with
    | .Break _ => true
    | _ => false
  | .cont => .of fun C st => match st with
    | .Continue _ => true
    | _ => false
end
end PI
end
section
set_option Elab.async false
set_option linter.all false
set_option maxRecDepth 100000
/-! PIt: statements, each by the interpreter's answer. -/
namespace PI
open PySem PySem.Spec PyProof.Rows L2

structure GS (T : Tab) (k : Nat) (C : CC) (W : WX) (X : Cx) : Prop extends GX T k C W X where
  pass : PassesOwn (model X.prog X.w) X.A X.env X.xe
  stack : X.stack = X.env :: X.outer
  frame : X.env.frame = some X.env.locals
  kind : X.env.scope.kind = .function
/-- the slots that the caller keeps -/
def PinA (A : List (Nat × Addr)) (env : Env) (σ : L2.St) : Prop := ∀ p ∈ A, Ls p.1 isOw env ∧ σ[p.1]? = some (some (.ref p.2))
def RepR (fr : Bool) (K : PySem.W.Frag) (G H F : Hp) (env : Env) (σ : L2.St) (d : Da) (v : V) : Prop := if fr = true then RepX K G H F env σ d v else Rep K G d v
def PstS (T : Tab) (K : PySem.W.Frag) (W : WX) (A : List (Nat × Addr)) (fr : Bool) (G F : Hp) (D : Ends) (r : R Env (Fl × Env)) : Prop := match r with
  | .ok (.nx, e) => ∀ σ' H' G', Same G G' → Rel K e σ' H' G' F → PinA A e σ' → D.nx σ' H'
  | .ok (.brk, e) => ∀ σ' H' G', Same G G' → Rel K e σ' H' G' F → PinA A e σ' → D.bk σ' H'
  | .ok (.cont, e) => ∀ σ' H' G', Same G G' → Rel K e σ' H' G' F → PinA A e σ' → D.ct σ' H'
  | .ok (.ret d, e) => ∀ σ' v H' G', Same G G' → Rel K e σ' H' G' F → PinA A e σ' → RepR fr K G' H' F e σ' d v → D.rt v H'
  | .exc x e => ∀ cls dx σ' H' G', Same G G' → Rel K e σ' H' G' F → PinA A e σ' → ExRep T K G' H' x cls dx → W cls dx σ' H'
  | .bad => False
def tS (T : Tab) (K : PySem.W.Frag) (W : WX) (A : List (Nat × Addr)) (fr : Bool) (f : Env → R Env (Fl × Env)) : TS := fun D σ H => ∃ env G F, Rel K env σ H G F ∧ PinA A env σ ∧ PstS T K W A fr G F D (f env)
theorem _root_.L2.PS.imp {X : Cx} {st : Stmt} {t t' : TS} (h : PS X st t) (w : ∀ D σ H, t' D σ H → t D σ H) : PS X st t' := ⟨fun pins s σ H D I x => h.run pins s σ H D I (w D σ H x)⟩
theorem _root_.L2.PSs.imp {X : Cx} {st : List Stmt} {t t' : TS} (h : PSs X st t) (w : ∀ D σ H, t' D σ H → t D σ H) : PSs X st t' := ⟨fun pins s σ H D I x => h.run pins s σ H D I (w D σ H x)⟩
section
variable {T : Tab} {K : PySem.W.Frag} {W : WX} {A : List (Nat × Addr)} {fr : Bool} {G G1 F H : Hp} {D : Ends} {σ σ' : L2.St} {env env' : Env} {α : Type}
theorem PstS.mono {r : R Env (Fl × Env)} (h : PstS T K W A fr G F D r) (g : Same G G1) : PstS T K W A fr G1 F D r := by
  cases r with
  | ok p =>
    obtain ⟨fl, e⟩ := p
    cases fl with
    | nx => exact fun σ' H' G' g1 r p => h σ' H' G' (g.trans g1) r p
    | brk => exact fun σ' H' G' g1 r p => h σ' H' G' (g.trans g1) r p
    | cont => exact fun σ' H' G' g1 r p => h σ' H' G' (g.trans g1) r p
    | ret d => exact fun σ' v H' G' g1 r p x => h σ' v H' G' (g.trans g1) r p x
  | exc x e => exact fun cls dx σ' H' G' g1 r p x => h cls dx σ' H' G' (g.trans g1) r p x
  | bad => exact h
theorem PinA.keep {f : Env → R Env (α × Env)} (hp : PinA A env σ) (hk : ∀ i, KF i isOw f) {a : α} (h : f env = .ok (a, env')) : PinA A env' σ := fun p hq => by
  have := hk p.1 env (hp p hq).1
  rw [h] at this
  exact ⟨this, (hp p hq).2⟩
theorem PstS.bnd {f : Env → R Env (α × Env)} {g : α → Env → R Env (Fl × Env)} (hp : PinA A env σ) (hk : ∀ i, KF i isOw f) (h : PstS T K W A fr G F D ((f env).bnd g)) : Pst T K W G F σ (f env) fun a e => PinA A e σ ∧ PstS T K W A fr G F D (g a e) := by
  cases hr : f env with
  | ok p =>
    rw [hr] at h
    exact ⟨hp.keep hk (a := p.1) (by rw [hr]), h⟩
  | exc x e =>
    rw [hr] at h
    intro cls dx H' G' g1 r xr
    refine h cls dx σ H' G' g1 r (fun p hq => ⟨?_, (hp p hq).2⟩) xr
    have := hk p.1 env (hp p hq).1
    rw [hr] at this
    exact this
  | bad => rw [hr] at h; exact h
theorem PstS.opt {γ : Type} {o : Option γ} {f : γ → R Env (Fl × Env)} (h : PstS T K W A fr G F D (optB o f)) : ∃ a, o = some a ∧ PstS T K W A fr G F D (f a) := by
  cases o with
  | none => exact h.elim
  | some a => exact ⟨a, rfl, h⟩
theorem PstS.ite {c : Bool} {r : R Env (Fl × Env)} (h : PstS T K W A fr G F D (iteB c r)) : c = true ∧ PstS T K W A fr G F D r := by
  cases c with
  | true => exact ⟨rfl, h⟩
  | false => exact h.elim
theorem PstS.int {d : Da} {f : Int → R Env (Fl × Env)} (h : PstS T K W A fr G F D (intB d f)) : ∃ a, d = .int a ∧ PstS T K W A fr G F D (f a) := by
  cases d with
  | int i => exact ⟨i, rfl, h⟩
  | _ => exact h.elim
/-! ### stores -/
theorem setv_not {i j : Nat} {d : Da} (h : setv env i d = some env') (hj : Ls j isOw env) : i ≠ j := fun z => by
  obtain ⟨s, q1, m, d', rfl⟩ := hj
  rw [← z] at q1
  unfold PI.setv at h
  rw [q1] at h
  cases h
theorem setO_is {i : Nat} {d : Da} (h : setO env i d = some env') : ∃ ds, d = .list ds ∧ env' = env.set i (.own 0 (.list ds)) ∧ i < env.length ∧ ∀ j, Ls j isOw env → i ≠ j := by
  unfold PI.setO at h
  cases d with
  | list ds =>
    simp only [isLst] at h
    cases he : env[i]? with
    | none => rw [he] at h; cases h
    | some s =>
      have hi := (List.getElem?_eq_some_iff.mp he).1
      rw [he] at h
      have hj : (∀ m d, s ≠ .own (m + 1) d) → ∀ j, Ls j isOw env → i ≠ j := fun hs j ⟨s', q1, m, d', q2⟩ z => by
        rw [← z, he] at q1
        cases q1
        exact hs m d' q2
      cases s with
      | own m z =>
        cases m with
        | zero => simp only [Option.some.injEq] at h; exact ⟨ds, rfl, h.symm, hi, hj fun m d z => by cases z⟩
        | succ m => simp at h
      | scr ns => simp at h
      | _ => simp only [Option.some.injEq] at h; exact ⟨ds, rfl, h.symm, hi, hj fun m d z => by cases z⟩
  | _ => simp [isLst] at h
theorem PinA.set {i : Nat} {o : Option V} (hp : PinA A env σ) (hn : ∀ j, Ls j isOw env → i ≠ j) (hk : ∀ j, Ls j isOw env → Ls j isOw env') : PinA A env' (σ.set i o) := fun p hq => by
  obtain ⟨h1, h2⟩ := hp p hq
  exact ⟨hk _ h1, by rw [List.getElem?_set_ne (hn _ h1)]; exact h2⟩
theorem PinA.setv {i : Nat} {d : Da} {o : Option V} (hp : PinA A env σ) (h : setv env i d = some env') : PinA A env' (σ.set i o) := hp.set (fun j hj => setv_not h hj) fun j hj => setv_k kp_ow hj h
theorem PinA.setO {i : Nat} {d : Da} {o : Option V} (hp : PinA A env σ) (h : setO env i d = some env') : PinA A env' (σ.set i o) := by
  obtain ⟨_, _, _, _, hn⟩ := setO_is h
  exact hp.set hn fun j hj => setO_k kp_ow hj h
/-- a new own list -/
theorem Rel.setO (r : Rel K env σ H G F) {i : Nat} {ds : List Da} {a : Addr} {xs : List V} (hi : i < env.length) (h : H a = some (.lst xs)) (ga : G a = none) (fa : F a = none) (no : NotOwn env σ a) (l : RepL K G ds xs) :
    Rel K (env.set i (.own 0 (.list ds))) (σ.set i (some (.ref a))) H G F := by
  have r1 := r.drop i (some (.ref a))
  have hs : (σ.set i (some (V.ref a)))[i]? = some (some (.ref a)) := List.getElem?_set_self (by rw [← r.len]; exact hi)
  have key : ∀ (j : Nat) s, (env.set i (.own 0 (.list ds)))[j]? = some s → (j = i ∧ s = .own 0 (.list ds)) ∨ (i ≠ j ∧ (env.set i .un)[j]? = some s) := fun j s e => by
    by_cases hj : i = j
    · subst hj
      rw [List.getElem?_set_self hi] at e; cases e; exact .inl ⟨rfl, rfl⟩
    · refine .inr ⟨hj, ?_⟩
      rw [List.getElem?_set_ne hj] at e ⊢; exact e
  have no1 : ∀ (j : Nat) m d, i ≠ j → (env.set i .un)[j]? = some (.own m d) → (σ.set i (some (V.ref a)))[j]? ≠ some (some (.ref a)) := fun j m d hj e z => by
    rw [List.getElem?_set_ne hj] at e z
    exact no j m d e z
  refine ⟨r.gs, r.fs, r.fg, by rw [List.length_set, List.length_set]; exact r.len, fun j d' e => ?_, fun j m d' e => ?_, fun j ns e => ?_, fun j j' m n d e b q1 q2 z1 z2 => ?_⟩
  · rcases key j _ e with ⟨_, z⟩ | ⟨_, e⟩
    · cases z
    · exact r1.val j d' e
  · rcases key j _ e with ⟨rfl, z⟩ | ⟨_, e⟩
    · cases z
      exact ⟨a, hs, ga, fa, xs, h, l⟩
    · exact r1.own j m d' e
  · rcases key j _ e with ⟨_, z⟩ | ⟨_, e⟩
    · cases z
    · exact r1.scr j ns e
  · rcases key j _ q1 with ⟨rfl, z⟩ | ⟨hj, q1⟩
    · cases z
      rcases key j' _ q2 with ⟨rfl, z⟩ | ⟨hj', q2⟩
      · rfl
      · rw [hs] at z1
        cases z1
        exact absurd z2 (no1 j' _ _ hj' q2)
    · rcases key j' _ q2 with ⟨rfl, z⟩ | ⟨hj', q2⟩
      · rw [hs] at z2
        cases z2
        exact absurd z1 (no1 j _ _ hj q1)
      · exact r1.dj j j' m n d e b q1 q2 z1 z2
/-- a new list, held for a while -/
theorem Rel.keepF (r : Rel K env σ H G F) {a : Addr} {o : HO} (h : H a = some o) (ga : G a = none) (fa : F a = none) (no : NotOwn env σ a) : Rel K env σ H G (upd F a o) := by
  refine ⟨r.gs, fun b x e => ?_, fun b hb => ?_, r.len, r.val, fun i m d e => ?_, r.scr, r.dj⟩
  · by_cases hb : b = a
    · subst hb; rw [upd_same] at e; rw [h]; exact e
    · rw [upd_ne hb] at e; exact r.fs b x e
  · by_cases h : b = a
    · rw [h]; exact ga
    · rw [upd_ne h] at hb; exact r.fg b hb
  · obtain ⟨b, h1, h2, h3, h4⟩ := r.own i m d e
    have : b ≠ a := fun z => by subst z; exact no i m d e h1
    exact ⟨b, h1, h2, by rw [upd_ne this]; exact h3, h4⟩
end
end PI
end
section
set_option Elab.async false
set_option linter.all false
set_option maxRecDepth 100000
/-! PIu: the statements one by one: stores, ends, blocks. -/
namespace PI
open PySem PySem.Spec PyProof.Rows L2

structure SndS (T : Tab) (k : Nat) (fr : Bool) (s : S) : Prop where
  one : ∀ {C W X}, GS T k C W X → ∀ A {st}, (ckS T fr s).one C st = true → PS X st (tS T X.K W A fr (sv T (callF T k) s).s)
  blk : ∀ {C W X}, GS T k C W X → ∀ A {l}, (ckS T fr s).blk C l = true → PSs X l (tS T X.K W A fr (sv T (callF T k) s).s)
  hds : ∀ {C W X}, GS T k C W X → C.cm = false → ∀ A {l}, (ckS T fr s).hds C l = true → ∃ lst, HdMix X l lst ∧ ∀ {D σ H G F env x cls dx}, Rel X.K env σ H G F → PinA A env σ → ExRep T X.K G H x cls dx →
    PstS T X.K W A fr G F D ((sv T (callF T k) s).h x env) → wMix X.K W D lst cls dx σ H
section
variable {T : Tab} {k : Nat} {fr : Bool} {C : CC} {W : WX} {X : Cx} {A : List (Nat × Addr)}
theorem SndS.of {s : S} {f : CC → Stmt → Bool} (hck : ckS T fr s = .of f) (h : ∀ {C W X}, GS T k C W X → ∀ A {st}, f C st = true → PS X st (tS T X.K W A fr (sv T (callF T k) s).s)) : SndS T k fr s where
  one := fun G A st hh => h G A (by rw [hck] at hh; exact hh)
  blk := fun G A l hh => by rw [hck] at hh; exact absurd hh Bool.false_ne_true
  hds := fun G _ A l hh => by rw [hck] at hh; exact absurd hh Bool.false_ne_true
theorem SndS.no {s : S} (hck : ckS T fr s = .no) : SndS T k fr s where
  one := fun G A st hh => by rw [hck] at hh; exact absurd hh Bool.false_ne_true
  blk := fun G A l hh => by rw [hck] at hh; exact absurd hh Bool.false_ne_true
  hds := fun G _ A l hh => by rw [hck] at hh; exact absurd hh Bool.false_ne_true
theorem kf_v {call : Calls} (e : E) (i : Nat) : KF i isOw (ev T call e).v := (keep kp_ow e).v
theorem kf_t {call : Calls} (e : E) (i : Nat) : KF i isOw (ev T call e).t := (keep kp_ow e).t
theorem comp_sw {e : Expr} {env : PySem.Env} {o : Option Expr} {l : Nat} (h : notComp e = true) : swapsWith e o l env = pure false := by
  cases e <;> first | rfl | simp [notComp] at h
theorem s_skip : SndS T k fr .skip where
  one := fun G A st h => by
    cases st with
    | Pass p => exact ps_pass.imp fun D σ H ⟨env, G', F, r, hp, q⟩ => q σ H G' (Same.refl _) r hp
    | Expr e p =>
      cases e with
      | Constant c j p' =>
        cases c with
        | str x => exact ps_doc.imp fun D σ H ⟨env, G', F, r, hp, q⟩ => q σ H G' (Same.refl _) r hp
        | _ => exact absurd h Bool.false_ne_true
      | _ => exact absurd h Bool.false_ne_true
    | _ => exact absurd h Bool.false_ne_true
  blk := fun G A l h => by
    cases l with
    | nil => exact pss_nil.imp fun D σ H ⟨env, G', F, r, hp, q⟩ => q σ H G' (Same.refl _) r hp
    | cons _ _ => exact absurd h Bool.false_ne_true
  hds := fun G hc A l h => by
    cases l with
    | nil => exact ⟨[], .nil, fun r hp xr q => q _ _ _ _ _ (Same.refl _) r hp xr⟩
    | cons _ _ => exact absurd h Bool.false_ne_true
theorem s_seq {a b : S} (s : SndS T k fr a) (t : SndS T k fr b) : SndS T k fr (.seq a b) where
  one := fun G A st h => absurd h Bool.false_ne_true
  blk := fun {C W X} G A l h => by
    cases l with
    | nil => exact absurd h Bool.false_ne_true
    | cons st r =>
      obtain ⟨h1, h2⟩ := and2 h
      refine (pss_cons (s.one G A h1) (t.blk G A h2)).imp fun D σ H ⟨env, G', F, r, hp, q⟩ => ⟨env, G', F, r, hp, ?_⟩
      have q' : PstS T X.K W A fr G' F D (seqB ((sv T (callF T k) a).s env) (sv T (callF T k) b).s) := q
      cases hr : (sv T (callF T k) a).s env with
      | ok p =>
        rw [hr] at q'
        obtain ⟨fl, e⟩ := p
        cases fl with
        | nx => exact fun σ' H' G2 g r2 p2 => ⟨e, G2, F, r2, p2, PstS.mono q' g⟩
        | brk => exact q'
        | cont => exact q'
        | ret d => exact q'
      | exc x e => rw [hr] at q'; exact q'
      | bad => rw [hr] at q'; exact q'
  hds := fun G _ A l h => absurd h Bool.false_ne_true
theorem s_brk : SndS T k fr .brk := .of rfl fun G A st h => by
  cases st with
  | Break p => exact ps_break.imp fun D σ H ⟨env, G', F, r, hp, q⟩ => q σ H G' (Same.refl _) r hp
  | _ => exact absurd h Bool.false_ne_true
theorem s_cont : SndS T k fr .cont := .of rfl fun G A st h => by
  cases st with
  | Continue p => exact ps_continue.imp fun D σ H ⟨env, G', F, r, hp, q⟩ => q σ H G' (Same.refl _) r hp
  | _ => exact absurd h Bool.false_ne_true
theorem s_retN : SndS T k fr .retN := .of rfl fun {C W X} G A st h => by
  cases st with
  | Return o p =>
    cases o with
    | none => exact ps_retN.imp fun D σ H ⟨env, G', F, r, hp, q⟩ => q σ .non H G' (Same.refl _) r hp (by
        unfold RepR
        have : Rep X.K G' .none .non := by simp only [Rep]
        split <;> exact this)
    | some _ => exact absurd h Bool.false_ne_true
  | _ => exact absurd h Bool.false_ne_true
theorem s_ret (e : E) : SndS T k fr (.ret e) := .of rfl fun {C W X} G A st h => by
  cases st with
  | Return o p =>
    cases o with
    | none => exact absurd h Bool.false_ne_true
    | some ex =>
      obtain ⟨h1, h2⟩ := and2 h
      refine (ps_ret ((snd (k := k) e).e G.toGX h2).v).imp fun D σ H ⟨env, G', F, r, hp, q⟩ => ?_
      have q' : PstS T X.K W A fr G' F D (((ev T (callF T k) e).v env).bnd fun d env1 => .ok (.ret d, env1)) := q
      refine ⟨env, G', F, r, (q'.bnd hp (kf_v e)).imp (Same.refl _) fun d env1 _ ⟨hp1, q1⟩ v H1 G1 g1 r1 x => ?_⟩
      cases fr with
      | true =>
        refine q1 σ v H1 G1 g1 r1 hp1 ?_
        have hf : fresh T e = true := by simpa using h1
        unfold RepV at x
        rw [if_pos hf] at x
        exact x
      | false =>
        obtain ⟨G2, g2, r2, x2⟩ := r1.settleV x
        exact q1 σ v H1 G2 (g1.trans g2) r2 hp1 x2
  | _ => exact absurd h Bool.false_ne_true
theorem s_expr (e : E) : SndS T k fr (.expr e) := .of rfl fun {C W X} G A st h => by
  cases st with
  | Expr ex p =>
    obtain ⟨h1, h2⟩ := and2 h
    refine (ps_expr ((snd (k := k) e).e G.toGX h2).v (comp_sw h1)).imp fun D σ H ⟨env, G', F, r, hp, q⟩ => ?_
    have q' : PstS T X.K W A fr G' F D (((ev T (callF T k) e).v env).bnd fun d env1 => .ok (.nx, env1)) := q
    exact tV_of r ((q'.bnd hp (kf_v e)).imp (Same.refl _) fun d env1 _ ⟨hp1, q1⟩ v H1 G1 g1 r1 x => q1 σ H1 G1 g1 r1 hp1)
  | _ => exact absurd h Bool.false_ne_true
theorem s_ite (c : E) {a b : S} (s : SndS T k fr a) (t : SndS T k fr b) : SndS T k fr (.ite c a b) := .of rfl fun {C W X} G A st h => by
  cases st with
  | If x l r p =>
    obtain ⟨h1, h⟩ := and2 h
    obtain ⟨h2, h3⟩ := and2 h
    refine (ps_if ((snd (k := k) c).t G.toGX h1) (s.blk G A h2) (t.blk G A h3)).imp fun D σ H ⟨env, G', F, r, hp, q⟩ => ?_
    have q' : PstS T X.K W A fr G' F D (((ev T (callF T k) c).t env).bnd fun k1 env1 => match k1 with
      | true => (sv T (callF T k) a).s env1
      | false => (sv T (callF T k) b).s env1) := q
    refine ⟨env, G', F, r, (q'.bnd hp (kf_t c)).imp (Same.refl _) fun d env1 _ ⟨hp1, q1⟩ H1 G1 g1 r1 => ?_⟩
    cases d with
    | true => simp only [if_true]; exact ⟨env1, G1, F, r1, hp1, PstS.mono q1 g1⟩
    | false => simp only [Bool.false_eq_true, if_false]; exact ⟨env1, G1, F, r1, hp1, PstS.mono q1 g1⟩
  | _ => exact absurd h Bool.false_ne_true
/-- a name that a value is stored at -/
theorem sw_is (G : GS T k C W X) {x : Str} {px : Pos} {elt : Expr} {gs : List Comprehension} {sc : Scope} {pos : Pos} {l : Nat} :
    swapsWith (.ListComp elt gs sc pos) (some (.Name x px)) l X.env = pure true ∧ C.sc.names.lookup x = some .local ∨ swapsWith (.ListComp elt gs sc pos) (some (.Name x px)) l X.env = pure false := by
  have hb : X.env.blockKind = .function := by unfold Env.blockKind; rw [G.kind]; rfl
  have e : swapsWith (.ListComp elt gs sc pos) (some (.Name x px)) l X.env = pure (X.env.blockKind == .function && X.env.kindOf x == some .local && px.line == pos.line && !(sc.names.any fun (n, k) => n == x && (k == .local || k == .cell))) := rfl
  rw [e]
  cases hv : (X.env.blockKind == .function && X.env.kindOf x == some .local && px.line == pos.line && !(sc.names.any fun (n, k) => n == x && (k == .local || k == .cell))) with
  | false => exact .inr rfl
  | true =>
    refine .inl ⟨rfl, ?_⟩
    simp only [Bool.and_eq_true] at hv
    have := hv.1.1.2
    unfold Env.kindOf at this
    rw [G.sc] at this
    simpa using this
/-- name = value, whatever is stored -/
theorem ps_name (G : GS T k C W X) {i : Nat} {x : Str} {px p : Pos} {ex : Expr} {e : E} (h1 : tgtB C i x = true) (h2 : (ck T e).e C ex = true) :
    PS X (.Assign [.Name x px] ex p) (tAsg (tV T (callF T k) X.K W e) (gName i)) := by
  obtain ⟨n1, n2, n3⟩ := tgt_ok G.toGX h1
  have nd : X.N.Nodup := by rw [G.N]; exact G.nd
  have plain : swapsWith ex (some (.Name x px)) p.line X.env = pure false → PS X (.Assign [.Name x px] ex p) (tAsg (tV T (callF T k) X.K W e) (gName i)) := fun hs => ps_set nd n1 n2 ((snd (k := k) e).e G.toGX h2).v hs n3
  by_cases hc : notComp ex = true
  · exact plain (comp_sw hc)
  · cases ex with
    | ListComp elt gs sc pos =>
      rcases sw_is G (x := x) (px := px) (elt := elt) (gs := gs) (sc := sc) (pos := pos) (l := p.line) with ⟨hs, hl⟩ | hs
      · cases e with
        | lc vs tg it cond elt' =>
          have hl : X.env.scope.names.lookup x = some .local := by rw [G.sc]; exact hl
          have h : (match (Expr.ListComp elt gs sc pos) with
            | .ListComp e [⟨t, i, ifs, 0⟩] sc _ => C.cm && (notSet i && (blkC C.N C.sc sc (ownOf C vs) && ((ck T it).i C t i && (chkTg (blkCC C sc) tg t && (tgIn vs tg && ((ck T cond).c (blkCC C sc) ifs && (ck T elt').e (blkCC C sc) e))))))
            | _ => false) = true := h2
          split at h
          · rename_i e0 elt0 tx ix ifs sc0 p0 heq
            cases heq
            obtain ⟨hc, h⟩ := and2 h
            obtain ⟨h0, h⟩ := and2 h
            obtain ⟨h1, h⟩ := and2 h
            obtain ⟨h2, h⟩ := and2 h
            obtain ⟨h3, h⟩ := and2 h
            obtain ⟨h4, h⟩ := and2 h
            obtain ⟨h5, h6⟩ := and2 h
            refine (ps_setLc (own := ownOf C vs) (g := tG X.K tg) (tt := tT T X.K W0 (ev T (callF T k) cond).c) (te := tV T (callF T k) X.K W0 elt') (G.calm hc) nd n1 hl hs ((snd it).i G.toGX hc h2) (blk_ok G.toGX h1) (fun s H A cl fp => pg_tg (gx_blk G.toGX s H sc cl A fp) tg h3)
              (fun s H A cl fp => (snd cond).c (gx_blk G.toGX s H sc cl A fp) h5) (fun s H A cl fp => ((snd elt').e (gx_blk G.toGX s H sc cl A fp) h6).v) (fun x => set_of h0 x)).imp fun D σ H hq => ?_
            rw [own_map]
            exact lc_read h4 (tV_to hq)
          · exact absurd h Bool.false_ne_true
        | _ => first | exact absurd h2 Bool.false_ne_true | (simp [ck, Ck.ofE, Ck.ofC, Ck.of, Ck.none, andB] at h2)
      · exact plain hs
    | SetComp _ _ _ _ => exact plain (by cases e <;> first | exact absurd h2 Bool.false_ne_true | (simp [ck, Ck.ofE, Ck.ofC, Ck.of, Ck.none, andB] at h2))
    | DictComp _ _ _ _ _ => exact plain (by cases e <;> first | exact absurd h2 Bool.false_ne_true | (simp [ck, Ck.ofE, Ck.ofC, Ck.of, Ck.none, andB] at h2))
    | _ => exact absurd rfl hc
theorem s_asg (i : Nat) (e : E) : SndS T k fr (.asg i e) := .of rfl fun {C W X} G A st h => by
  unfold asgB at h
  split at h
  · rename_i x px ex p
    obtain ⟨h1, h2⟩ := and2 h
    refine (ps_name G h1 h2).imp fun D σ H ⟨env, G', F, r, hp, q⟩ => ?_
    have q' : PstS T X.K W A fr G' F D (((ev T (callF T k) e).v env).bnd fun d env1 => setB (setv env1 i d)) := q
    refine tV_of r ((q'.bnd hp (kf_v e)).imp (Same.refl _) fun d env1 _ ⟨hp1, q1⟩ v H1 G1 g1 r1 rv => ?_)
    obtain ⟨env2, he, q2⟩ := q1.opt
    have hp2 := hp1.setv (o := some v) he
    obtain ⟨rfl, _⟩ := setv_set he
    exact q2 _ H1 G1 g1 (r1.setv rv) hp2
  · exact absurd h Bool.false_ne_true
theorem s_asgO (i : Nat) (e : E) : SndS T k fr (.asgO i e) := .of rfl fun {C W X} G A st h => by
  unfold asgB at h
  split at h
  · rename_i x px ex p
    obtain ⟨h1, h2⟩ := and2 h
    refine (ps_name G h1 h2).imp fun D σ H ⟨env, G', F, r, hp, q⟩ => ?_
    have q' : PstS T X.K W A fr G' F D (iteB (fresh T e) (((ev T (callF T k) e).v env).bnd fun d env1 => setB (setO env1 i d))) := q
    obtain ⟨hf, q'⟩ := q'.ite
    refine ⟨env, G', F, r, (q'.bnd hp (kf_v e)).imp (Same.refl _) fun d env1 _ ⟨hp1, q1⟩ v H1 G1 g1 r1 x => ?_⟩
    obtain ⟨env2, he, q2⟩ := q1.opt
    have hp2 := hp1.setO (o := some v) he
    obtain ⟨ds, rfl, rfl, hi, _⟩ := setO_is he
    unfold RepV at x
    rw [if_pos hf] at x
    obtain ⟨a, xs, rfl, e1, e2, e3, e4, e5⟩ := x
    exact q2 _ H1 G1 g1 (r1.setO hi e1 e2 e3 e4 e5) hp2
  · exact absurd h Bool.false_ne_true
end
end PI
end
section
set_option Elab.async false
set_option linter.all false
set_option maxRecDepth 100000
/-! PIv: the statements one by one: several targets, places, loops. -/
namespace PI
open PySem PySem.Spec PyProof.Rows L2
section
variable {T : Tab} {k : Nat} {fr : Bool} {C : CC} {W : WX} {X : Cx} {A : List (Nat × Addr)}
theorem star_any {vs : List Expr} : (vs.any fun | .Starred .. => true | _ => false) = vs.any isStarred := by
  induction vs with
  | nil => rfl
  | cons v vs ih => rw [List.any_cons, List.any_cons, ih]; cases v <;> rfl
theorem names_is {env : PySem.Env} {ts : List Expr} : (ts.filterMap fun
    | .Name id pos => if env.kindOf id == some .local && pos.line == (ts.head?.map (·.pos.line)).getD 0 then some id else none
    | _ => none) = swNames env.scope ts := rfl
theorem blk_fn (G : GS T k C W X) : X.env.blockKind = .function := by unfold Env.blockKind; rw [G.kind]; rfl
/-- whose parts are stored -/
theorem sw_none (G : GS T k C W X) {tg ex : Expr} (h : unpB C tg ex = true) : swappedStores [tg] ex X.env = pure none := by
  cases tg with
  | Tuple ts kt pt =>
    cases ex with
    | Tuple vs kv pv =>
      have h : noSwap X.env.scope ts vs = true := by rw [G.sc]; exact h
      unfold noSwap at h
      unfold swappedStores
      simp only [blk_fn G]
      show (if (!(ts.length == 2 || ts.length == 3) || vs.length != ts.length || ScopeKind.function != .function) = true then pure none else _) = _
      by_cases h1 : (!(ts.length == 2 || ts.length == 3) || vs.length != ts.length) = true
      · rw [if_pos (by rw [h1]; rfl)]
      · rw [if_neg (by rw [Bool.eq_false_iff.mpr h1]; decide)]
        simp only [Bool.eq_false_iff.mpr h1, Bool.false_or] at h
        by_cases h2 : vs.any isStarred = true
        · show (if (vs.any fun | .Starred .. => true | _ => false) = true then pure none else _) = _
          rw [star_any, if_pos h2]
        · show (if (vs.any fun | .Starred .. => true | _ => false) = true then pure none else _) = _
          rw [star_any, if_neg h2]
          simp only [Bool.eq_false_iff.mpr h2, Bool.false_or] at h
          by_cases h3 : ((swNames X.env.scope ts).length != ts.length || (swNames X.env.scope ts).eraseDups.length != (swNames X.env.scope ts).length) = true
          · show (if ((swNames X.env.scope ts).length != ts.length || (swNames X.env.scope ts).eraseDups.length != (swNames X.env.scope ts).length) = true then pure none else _) = _
            rw [if_pos h3]
          · show (if ((swNames X.env.scope ts).length != ts.length || (swNames X.env.scope ts).eraseDups.length != (swNames X.env.scope ts).length) = true then pure none else _) = _
            rw [if_neg h3]
            simp only [Bool.eq_false_iff.mpr h3, Bool.false_or] at h
            show (if vs.all (foldedForSure 8) = true then pure none else _) = _
            rw [if_pos h]
    | _ => rfl
  | _ => exact absurd h Bool.false_ne_true
theorem sw_some (G : GS T k C W X) {ts vs : List Expr} {kt pt kv pv} (h : doSwap C.sc ts vs = true) : swappedStores [.Tuple ts kt pt] (.Tuple vs kv pv) X.env = pure (some (swNames X.env.scope ts)) := by
  have h : doSwap X.env.scope ts vs = true := by rw [G.sc]; exact h
  obtain ⟨h1, h⟩ := and2 h
  obtain ⟨h2, h⟩ := and2 h
  obtain ⟨h3, h4⟩ := and2 h
  simp only [Bool.not_eq_true'] at h2 h3 h4
  have h1 : ((!(ts.length == 2 || ts.length == 3) || vs.length != ts.length) || vs.any isStarred) = false := (Bool.not_eq_true' _).mp h1
  obtain ⟨h1, h1'⟩ := Bool.or_eq_false_iff.mp h1
  unfold swappedStores
  simp only [blk_fn G]
  show (if (!(ts.length == 2 || ts.length == 3) || vs.length != ts.length || ScopeKind.function != .function) = true then pure none else _) = _
  rw [if_neg (by rw [h1]; decide)]
  show (if (vs.any fun | .Starred .. => true | _ => false) = true then pure none else _) = _
  rw [star_any, if_neg (by rw [h1']; decide)]
  show (if ((swNames X.env.scope ts).length != ts.length || (swNames X.env.scope ts).eraseDups.length != (swNames X.env.scope ts).length) = true then pure none else _) = _
  rw [if_neg (by rw [h2]; decide)]
  show (if vs.all (foldedForSure 8) = true then pure none else _) = _
  rw [if_neg (by rw [h3]; decide)]
  show (if vs.all (constantsAlone 8) = true then (do unsupported "assign.tuple-of-constant-expressions:order-of-the-stores"; _) else _) = _
  rw [if_neg (by rw [h4]; decide)]
  rfl
theorem s_unp (t : Tg) (e : E) : SndS T k fr (.unp t e) := .of rfl fun {C W X} G A st h => by
  split at h
  · rename_i tg ex p
    obtain ⟨h1, h⟩ := and2 h
    obtain ⟨h2, h3⟩ := and2 h
    have hs : swapsWithSole [tg] ex p.line X.env = pure false := by
      cases tg with
      | Tuple ts kt pt => cases ex <;> rfl
      | _ => exact absurd h1 Bool.false_ne_true
    have ha : (assignEach [tg] X.env).map (·.2) = [assign tg X.env] := by
      cases tg with
      | Tuple ts kt pt => rfl
      | _ => exact absurd h1 Bool.false_ne_true
    refine (ps_asg ((snd (k := k) e).e G.toGX h3).v (pg_tg G.toGX t h2) hs (sw_none G h1) ha).imp fun D σ H ⟨env, G', F, r, hp, q⟩ => ?_
    have q' : PstS T X.K W A fr G' F D (((ev T (callF T k) e).v env).bnd fun d env1 => setB (asgT t d env1)) := q
    refine tV_of r ((q'.bnd hp (kf_v e)).imp (Same.refl _) fun d env1 _ ⟨hp1, q1⟩ v H1 G1 g1 r1 rv => ?_)
    obtain ⟨env2, he, q2⟩ := q1.opt
    exact ⟨env1, G1, F, d, env2, r1, rv, he, fun σ' r2 _ ho => q2 σ' H1 G1 g1 r2 fun p hq => ⟨asgT_k kp_ow t (hp1 p hq).1 he, by rw [ho _ (hp1 p hq).1]; exact (hp1 p hq).2⟩⟩
  · exact absurd h Bool.false_ne_true
theorem s_setI (i : Nat) (ix e : E) : SndS T k fr (.setI i ix e) := .of rfl fun {C W X} G A st h => by
  split at h
  · rename_i x px y ps ex p
    obtain ⟨h1, h⟩ := and2 h
    obtain ⟨h2, h⟩ := and2 h
    obtain ⟨h3, h4⟩ := and2 h
    have hs : swapsWithSole [.Subscript (.Name x px) y ps] ex p.line X.env = pure false := by cases ex <;> rfl
    have hw : swappedStores [.Subscript (.Name x px) y ps] ex X.env = pure none := by cases ex <;> rfl
    have ha : ∀ v, assign (.Subscript (.Name x px) y ps) X.env v = (do
      let ov ← holding [v] (eval (.Name x px) X.env)
      let iv ← holding [v, ov] (eval y X.env)
      standAt ps
      holding [v, ov, iv] (setItem ov iv v)
      release [v, ov, iv] []) := fun v => by cases y <;> first | rfl | exact absurd h2 Bool.false_ne_true
    refine (ps_asg ((snd (k := k) e).e G.toGX h4).v (pg_sub (pe_slot G.toGX h1) ((snd (k := k) ix).e G.toGX h3).v set_list ha) hs hw rfl).imp fun D σ H ⟨env, G', F, r, hp, q⟩ => ?_
    have q' : PstS T X.K W A fr G' F D (((ev T (callF T k) e).v env).bnd fun d env1 => iteB (ownL env1 i) (((ev T (callF T k) ix).v env1).bnd fun k env2 => intB k fun k => match putI env2 i k d with
      | .ok env3 => .ok (.nx, env3)
      | _ => .bad)) := q
    refine tV_of r ((q'.bnd hp (kf_v e)).imp (Same.refl _) fun d env1 _ ⟨hp1, q1⟩ v H1 G1 g1 r1 rv => ?_)
    obtain ⟨hL, q2⟩ := q1.ite
    have hown : ∃ b, σ[i]? = some (some (.ref b)) := by
      unfold ownL at hL
      cases he : env1[i]? with
      | none => rw [he] at hL; simp at hL
      | some s =>
        rw [he] at hL
        cases s with
        | own n d =>
          obtain ⟨b, e1, _⟩ := r1.own i n _ he
          exact ⟨b, e1⟩
        | _ => simp at hL
    obtain ⟨b, hb⟩ := hown
    refine ⟨.ref b, hb, tV_of r1 (((q2.mono g1).bnd hp1 (kf_v ix)).imp (Same.refl _) fun kd env2 _ ⟨hp2, q3⟩ u H2 G2 g2 r2 ru => ?_)⟩
    obtain ⟨n, rfl, q4⟩ := q3.int
    have hu : u = .int n := by simpa only [Rep] using ru
    rcases putI_is env2 i n d with z | ⟨m, xs, jj, e1, e2, e3, e4⟩
    · rw [z] at q4; exact q4.elim
    · rw [e4] at q4
      obtain ⟨b', f1, f2, f3, ys, f4, f5⟩ := r2.own i m _ e1
      rw [hb] at f1
      cases f1
      refine ⟨b, ys, n, jj, rfl, hu, f4, by rw [f5.length]; exact e3, ?_⟩
      exact q4 σ _ G2 g2 (r2.put e1 hb (f5.set jj (rv.mono g2))) fun p hq => ⟨Ls.own kp_ow (hp2 p hq).1 e1 e2, (hp2 p hq).2⟩
  · exact absurd h Bool.false_ne_true
theorem tV_imp {call : Calls} {K : PySem.W.Frag} {e : E} {σ : L2.St} {H : Hp} {Q Q' : VK} (h : tV T call K W e σ H Q) (w : ∀ v H, Q v H → Q' v H) : tV T call K W e σ H Q' := by
  obtain ⟨env, G, F, r, p⟩ := h
  exact ⟨env, G, F, r, p.imp (Same.refl _) fun d env1 _ q v H1 G1 g r1 x => w _ _ (q v H1 G1 g r1 x)⟩
theorem ip_fdivW {X : Cx} : PIp X .FloorDiv (rI CDivW fun i j => .int (i / j)) := iop_fdivW
theorem s_aug (i : Nat) (o : BOp) (e : E) : SndS T k fr (.aug i o e) := .of rfl fun {C W X} G A st h => by
  split at h
  · rename_i x px op ex p
    obtain ⟨h1, h⟩ := and2 h
    obtain ⟨h2, h⟩ := and2 h
    obtain ⟨h3, h4⟩ := and2 h
    obtain rfl := of_decide_eq_true h2
    have h3 := of_decide_eq_true h3
    obtain ⟨n1, n2, n3⟩ := tgt_ok G.toGX h1
    have nd : X.N.Nodup := by rw [G.N]; exact G.nd
    have key : ∀ {D σ H}, tS T X.K W A fr (sv T (callF T k) (.aug i o e)).s D σ H → ∃ a, σ[i]? = some (some (.int a)) ∧ tV T (callF T k) X.K W e σ H fun y H1 => ∃ b d, y = .int b ∧ binD o (.int a) (.int b) = some d ∧ ∀ z, Rep X.K (fun _ => none) d z → D.nx (σ.set i (some z)) H1 := by
      intro D σ H ⟨env, G', F, r, hp, q⟩
      have q' : PstS T X.K W A fr G' F D (match env[i]? with
        | some (.val x) => augB o i x env (evalV T (callF T k) e)
        | _ => .bad) := q
      cases he : env[i]? with
      | none => rw [he] at q'; exact q'.elim
      | some s =>
        rw [he] at q'
        cases s with
        | val x =>
          have q2 : PstS T X.K W A fr G' F D (intB x fun _ => ((ev T (callF T k) e).v env).bnd fun y env1 => intB y fun _ => optB (binD o x y) fun d => setB (PI.setv env1 i d)) := q'
          obtain ⟨a, rfl, q2⟩ := q2.int
          obtain ⟨v, e1, e2⟩ := r.val i _ he
          have hv : v = .int a := by simpa only [Rep] using e2
          subst hv
          refine ⟨a, e1, tV_of r ((q2.bnd hp (kf_v e)).imp (Same.refl _) fun y env1 _ ⟨hp1, q3⟩ w H1 G1 g1 r1 rw1 => ?_)⟩
          obtain ⟨b, rfl, q5⟩ := q3.int
          obtain ⟨d, hd, q6⟩ := q5.opt
          obtain ⟨env2, hs, q7⟩ := q6.opt
          have hp2 := fun z => hp1.setv (o := some z) hs
          obtain ⟨rfl, _⟩ := setv_set hs
          exact ⟨b, d, by simpa only [Rep] using rw1, hd, fun z hz => q7 _ H1 G1 g1 (r1.setv (hz.mono fun _ _ e => by cases e)) (hp2 z)⟩
        | _ => exact q'.elim
    rcases h3 with rfl | rfl | rfl
    · refine (ps_aug nd n1 n2 ((snd (k := k) e).e G.toGX h4).v ip_add n3).imp fun D σ H hq => ?_
      obtain ⟨a, e1, e2⟩ := key hq
      refine ⟨_, e1, tV_imp e2 fun y H1 ⟨b, d, q1, q2, q3⟩ => ⟨a, b, rfl, q1, ?_⟩⟩
      simp only [binD, addD, Option.some.injEq] at q2
      subst q2
      exact q3 _ (by simp only [Rep])
    · refine (ps_aug nd n1 n2 ((snd (k := k) e).e G.toGX h4).v ip_sub n3).imp fun D σ H hq => ?_
      obtain ⟨a, e1, e2⟩ := key hq
      refine ⟨_, e1, tV_imp e2 fun y H1 ⟨b, d, q1, q2, q3⟩ => ⟨a, b, rfl, q1, ?_⟩⟩
      simp only [binD, Option.some.injEq] at q2
      subst q2
      exact q3 _ (by simp only [Rep])
    · refine (ps_aug nd n1 n2 ((snd (k := k) e).e G.toGX h4).v ip_fdivW n3).imp fun D σ H hq => ?_
      obtain ⟨a, e1, e2⟩ := key hq
      refine ⟨_, e1, tV_imp e2 fun y H1 ⟨b, d, q1, q2, q3⟩ => ?_⟩
      simp only [binD] at q2
      split at q2
      · rename_i hm
        simp only [Option.some.injEq] at q2
        subst q2
        exact ⟨a, b, rfl, q1, divW_of hm, q3 _ (by simp only [Rep])⟩
      · cases q2
  · exact absurd h Bool.false_ne_true
end
end PI
end
section
set_option Elab.async false
set_option linter.all false
set_option maxRecDepth 100000
/-! PIw: several names at once, loops, exceptions; every statement. -/
namespace PI
open PySem PySem.Spec PyProof.Rows L2
section
variable {T : Tab} {k : Nat} {fr : Bool} {C : CC} {W : WX} {X : Cx} {A : List (Nat × Addr)}
/-! ### several names at once -/
/-- their values: what an own one gets is held -/
def ParR (K : PySem.W.Frag) (G F' : Hp) : List (Nat × Bool) → List Da → List V → Hp → Prop
  | [], [], [], F => F = F'
  | (_, true) :: ts, d :: ds, v :: vs, F => ∀ dl, d = .list dl → ∃ a xs, v = .ref a ∧ F a = none ∧ RepL K G dl xs ∧ ParR K G F' ts ds vs (upd F a (.lst xs))
  | (_, false) :: ts, d :: ds, v :: vs, F => Rep K G d v ∧ ParR K G F' ts ds vs F
  | _, _, _, _ => False
/-- the slots stored -/
def setMany (σ : L2.St) : List (Nat × Bool) → List V → L2.St
  | (i, _) :: ts, v :: vs => (setMany σ ts vs).set i (some v)
  | _, _ => σ
def tPr (T : Tab) (call : Calls) (K : PySem.W.Frag) (W : WX) (ts : List (Nat × Bool)) (es : E) : TA := fun σ H Q => ∃ env G F, Rel K env σ H G F ∧ Pst T K W G F σ ((ev T call es).l env) fun ds env' => ∀ vs H' G' F', Same G G' → Same F F' → Rel K env' σ H' G' F' → ParR K G' F' ts ds vs F → Q vs H'
theorem pa_par (G : GX T k C W X) : ∀ {ts : List (Nat × Bool)} {es : E} {xs : List Expr}, (ck T es).l C xs = true → parOk T ts es = true → PA X xs (tPr T (callF T k) X.K W ts es)
  | [], es, xs, h, ho => by
    cases es with
    | nil =>
      cases xs with
      | nil => exact pa_nil.imp fun σ H Q ⟨env, G', F, r, q⟩ => q [] H G' F (Same.refl _) (Same.refl _) r rfl
      | cons _ _ => exact absurd h Bool.false_ne_true
    | _ => exact absurd ho Bool.false_ne_true
  | (i, o) :: ts, es, xs, h, ho => by
    cases es with
    | cons e es =>
      cases xs with
      | nil => exact absurd h Bool.false_ne_true
      | cons y ys =>
        obtain ⟨h1, h⟩ := and2 (show (notStar y && ((ck T e).e C y && (ck T es).l C ys)) = true from h)
        obtain ⟨h2, h3⟩ := and2 h
        obtain ⟨o1, o2⟩ := and2 (show ((!o || fresh T e) && parOk T ts es) = true from ho)
        refine (pa_cons ((snd (k := k) e).e G h2).v (pa_par G (ts := ts) h3 o2) (star_of h1)).imp fun σ H Q ⟨env, G', F, r, q⟩ => ?_
        have q' : Pst T X.K W G' F σ (((ev T (callF T k) e).v env).bnd fun d env1 => ((ev T (callF T k) es).l env1).bnd fun ds env2 => .ok (d :: ds, env2)) fun ds env' => ∀ vs H' G'' F', Same G' G'' → Same F F' → Rel X.K env' σ H' G'' F' → ParR X.K G'' F' ((i, o) :: ts) ds vs F → Q vs H' := q
        cases o with
        | false =>
          refine tV_of r (q'.bnd.imp (Same.refl _) fun d env1 _ q1 v H1 G1 g1 r1 rv => ⟨env1, G1, F, r1, (q1.mono g1).bnd.imp (Same.refl _) fun ds env2 _ q2 vs H2 G2 F2 g2 hF r2 pr => ?_⟩)
          exact q2.ok (v :: vs) H2 G2 F2 (g1.trans g2) hF r2 ⟨rv.mono g2, pr⟩
        | true =>
          have hf : fresh T e = true := by simpa using o1
          refine ⟨env, G', F, r, q'.bnd.imp (Same.refl _) fun d env1 _ q1 v H1 G1 g1 r1 x => ?_⟩
          unfold RepV at x
          rw [if_pos hf] at x
          by_cases hd : ∃ dl, d = .list dl
          · obtain ⟨dl, rfl⟩ := hd
            obtain ⟨a, xs, rfl, e1, e2, e3, e4, e5⟩ := x
            refine ⟨env1, G1, upd F a (.lst xs), r1.keepF e1 e2 e3 e4, ((q1.mono g1).weakF (same_upd e3)).bnd.imp (Same.refl _) fun ds env2 _ q2 vs H2 G2 F2 g2 hF r2 pr => ?_⟩
            exact q2.ok (.ref a :: vs) H2 G2 F2 (g1.trans g2) ((same_upd e3).trans hF) r2 fun dl' e => by cases e; exact ⟨a, xs, rfl, e3, e5.mono g2, pr⟩
          · refine ⟨env1, G1, F, r1, (q1.mono g1).bnd.imp (Same.refl _) fun ds env2 _ q2 vs H2 G2 F2 g2 hF r2 pr => ?_⟩
            exact q2.ok (v :: vs) H2 G2 F2 (g1.trans g2) hF r2 fun dl' e => absurd ⟨dl', e⟩ hd
    | _ => exact absurd ho Bool.false_ne_true
theorem par_rel {K : PySem.W.Frag} {H G F' : Hp} : ∀ {ts : List (Nat × Bool)} {ds : List Da} {vs : List V} {F : Hp} {env env' : Env} {σ : L2.St}, ParR K G F' ts ds vs F → Rel K env σ H G F' → PinA A env σ → parSet env ts ds = some env' →
    Rel K env' (setMany σ ts vs) H G F ∧ PinA A env' (setMany σ ts vs) ∧ vs.length = ts.length
  | [], [], [], F, env, env', σ, pr, r, hp, e => by
    have : F = F' := pr
    subst this
    simp only [parSet, Option.some.injEq] at e
    subst e
    exact ⟨r, hp, rfl⟩
  | [], [], _ :: _, F, env, env', σ, pr, r, hp, e => pr.elim
  | [], _ :: _, vs, F, env, env', σ, pr, r, hp, e => by simp [parSet] at e
  | (i, o) :: ts, [], vs, F, env, env', σ, pr, r, hp, e => by simp [parSet] at e
  | (i, true) :: ts, d :: ds, [], F, env, env', σ, pr, r, hp, e => pr.elim
  | (i, false) :: ts, d :: ds, [], F, env, env', σ, pr, r, hp, e => pr.elim
  | (i, false) :: ts, d :: ds, v :: vs, F, env, env', σ, pr, r, hp, e => by
    simp only [parSet] at e
    cases h1 : parSet env ts ds with
    | none => rw [h1] at e; cases e
    | some env1 =>
      rw [h1] at e
      obtain ⟨rp, pr⟩ := pr
      obtain ⟨r1, p1, l1⟩ := par_rel pr r hp h1
      have e' : PI.setv env1 i d = some env' := e
      have p2 := p1.setv (o := some v) e'
      obtain ⟨rfl, _⟩ := setv_set e'
      exact ⟨r1.setv rp, p2, by rw [List.length_cons, List.length_cons, l1]⟩
  | (i, true) :: ts, d :: ds, v :: vs, F, env, env', σ, pr, r, hp, e => by
    simp only [parSet] at e
    cases h1 : parSet env ts ds with
    | none => rw [h1] at e; cases e
    | some env1 =>
      rw [h1] at e
      have e' : PI.setO env1 i d = some env' := e
      obtain ⟨dl, rfl, rfl, hi, _⟩ := setO_is e'
      obtain ⟨a, xs, rfl, fa, l, pr⟩ := pr dl rfl
      obtain ⟨r1, p1, l1⟩ := par_rel pr r hp h1
      have ha : H a = some (.lst xs) := r1.fs _ _ upd_same
      have ga : G a = none := r1.fg a (by rw [upd_same]; simp)
      have no : NotOwn env1 (setMany σ ts vs) a := fun j m d e z => by
        obtain ⟨b, q1, _, q3, _⟩ := r1.own j m d e
        rw [z] at q1
        cases q1
        rw [upd_same] at q3
        cases q3
      exact ⟨(r1.weakF (same_upd fa)).setO hi ha ga fa no l, p1.setO e', by rw [List.length_cons, List.length_cons, l1]⟩
theorem sw_len {sc : Scope} {ts vs : List Expr} (h : doSwap sc ts vs = true) : (swNames sc ts).length = ts.length := by
  obtain ⟨_, h⟩ := and2 h
  obtain ⟨h2, _⟩ := and2 h
  have h2 := (Bool.not_eq_true' _).mp h2
  obtain ⟨h2, _⟩ := Bool.or_eq_false_iff.mp h2
  simpa using h2
theorem _root_.L2.PS.cond {X : Cx} {st : Stmt} {t : TS} {c : Prop} (ho : ∀ D σ H, t D σ H → c) (h : c → PS X st t) : PS X st t := ⟨fun pins s σ H D I x => (h (ho D σ H x)).run pins s σ H D I x⟩
theorem s_par (ts : List (Nat × Bool)) (es : E) : SndS T k fr (.par ts es) := .of rfl fun {C W X} G A st h => by
  have nd : X.N.Nodup := by rw [G.N]; exact G.nd
  have key : ∀ {D σ H}, tS T X.K W A fr (sv T (callF T k) (.par ts es)).s D σ H → parOk T ts es = true ∧ tPr T (callF T k) X.K W ts es σ H fun vs H1 => vs.length = ts.length ∧ D.nx (setMany σ ts vs) H1 := by
    intro D σ H ⟨env, G', F, r, hp, q⟩
    have q' : PstS T X.K W A fr G' F D (iteB (parOk T ts es) (((ev T (callF T k) es).l env).bnd fun ds env1 => setB (parSet env1 ts ds))) := q
    obtain ⟨ho, q'⟩ := q'.ite
    refine ⟨ho, env, G', F, r, (q'.bnd hp fun i => (keep kp_ow es).l).imp (Same.refl _) fun ds env1 _ ⟨hp1, q1⟩ vs H1 G1 F1 g1 hF r1 pr => ?_⟩
    obtain ⟨env2, he, q2⟩ := q1.opt
    obtain ⟨r2, p2, l2⟩ := par_rel pr r1 hp1 he
    exact ⟨l2, q2 _ H1 G1 g1 r2 p2⟩
  split at h
  · rename_i i o1 j o2
    split at h
    · rename_i x px y py kt pt a b k2 p2 p
      obtain ⟨hc, h⟩ := and2 h
      obtain ⟨h1, h⟩ := and2 h
      obtain ⟨h2, h⟩ := and2 h
      obtain ⟨h3, h⟩ := and2 h
      obtain ⟨h4, h⟩ := and2 h
      obtain ⟨h5, h⟩ := and2 h
      obtain ⟨h6, h7⟩ := and2 h
      have hij : i ≠ j := of_decide_eq_true h1
      have hw := sw_some (kt := kt) (pt := pt) (kv := k2) (pv := p2) G h6
      have hn : swNames X.env.scope [.Name x px, .Name y py] = [x, y] := by
        have := sw_len h6
        rw [← G.sc] at this
        revert this
        unfold swNames
        simp only [List.filterMap_cons, List.filterMap_nil]
        split <;> split <;> intro z <;> simp_all
      rw [hn] at hw
      refine (PS.cond (ho := fun D σ H hq => (key (D := D) (σ := σ) (H := H) hq).1) fun ho => (ps_par (G.calm hc) nd (by rw [G.N]; exact of_decide_eq_true h2) (by rw [G.N]; exact of_decide_eq_true h3) hij (by rw [G.sc]; exact of_decide_eq_true h4) (by rw [G.sc]; exact of_decide_eq_true h5) (pa_par G.toGX h7 ho) hw rfl).imp fun D σ H hq => ?_)
      obtain ⟨_, env, G', F, r, q⟩ := key hq
      refine ⟨env, G', F, r, q.imp (Same.refl _) fun ds env1 _ q1 vs H1 G1 F1 g1 hF r1 pr => ?_⟩
      obtain ⟨l, q2⟩ := q1 vs H1 G1 F1 g1 hF r1 pr
      match vs, l with
      | [v, w], _ =>
        refine ⟨v, w, rfl, ?_⟩
        have : setMany σ [(i, o1), (j, o2)] [v, w] = (σ.set i (some v)).set j (some w) := by
          show (σ.set j (some w)).set i (some v) = _
          exact List.set_comm _ _ (Ne.symm hij)
        rw [← this]; exact q2
    · exact absurd h Bool.false_ne_true
  · rename_i i o1 j o2 l o3
    split at h
    · rename_i x px y py z pz kt pt a b c k2 p2 p
      obtain ⟨hc, h⟩ := and2 h
      obtain ⟨h1, h⟩ := and2 h
      obtain ⟨h2, h⟩ := and2 h
      obtain ⟨h3, h⟩ := and2 h
      obtain ⟨h3', h⟩ := and2 h
      obtain ⟨h4, h⟩ := and2 h
      obtain ⟨h5, h⟩ := and2 h
      obtain ⟨h5', h⟩ := and2 h
      obtain ⟨h6, h7⟩ := and2 h
      obtain ⟨hij, hil, hjl⟩ := of_decide_eq_true h1
      have hw := sw_some (kt := kt) (pt := pt) (kv := k2) (pv := p2) G h6
      have hn : swNames X.env.scope [.Name x px, .Name y py, .Name z pz] = [x, y, z] := by
        have := sw_len h6
        rw [← G.sc] at this
        revert this
        unfold swNames
        simp only [List.filterMap_cons, List.filterMap_nil]
        split <;> split <;> split <;> intro z <;> simp_all
      rw [hn] at hw
      refine (PS.cond (ho := fun D σ H hq => (key (D := D) (σ := σ) (H := H) hq).1) fun ho => (ps_par3 (G.calm hc) nd (by rw [G.N]; exact of_decide_eq_true h2) (by rw [G.N]; exact of_decide_eq_true h3) (by rw [G.N]; exact of_decide_eq_true h3') hij hil hjl (by rw [G.sc]; exact of_decide_eq_true h4) (by rw [G.sc]; exact of_decide_eq_true h5)
        (by rw [G.sc]; exact of_decide_eq_true h5') (pa_par G.toGX h7 ho) hw rfl).imp fun D σ H hq => ?_)
      obtain ⟨_, env, G', F, r, q⟩ := key hq
      refine ⟨env, G', F, r, q.imp (Same.refl _) fun ds env1 _ q1 vs H1 G1 F1 g1 hF r1 pr => ?_⟩
      obtain ⟨ll, q2⟩ := q1 vs H1 G1 F1 g1 hF r1 pr
      match vs, ll with
      | [v, w, u], _ =>
        refine ⟨v, w, u, rfl, ?_⟩
        have : setMany σ [(i, o1), (j, o2), (l, o3)] [v, w, u] = ((σ.set i (some v)).set j (some w)).set l (some u) := by
          show ((σ.set l (some u)).set j (some w)).set i (some v) = _
          rw [List.set_comm _ _ (Ne.symm hjl), List.set_comm _ _ (Ne.symm hil), List.set_comm _ _ (Ne.symm hij)]
        rw [← this]; exact q2
    · exact absurd h Bool.false_ne_true
  · exact absurd h Bool.false_ne_true
/-! ### loops -/
theorem s_whl (c : E) {b : S} (s : SndS T k fr b) : SndS T k fr (.whl c b) := .of rfl fun {C W X} G A st h => by
  split at h
  · rename_i x l p
    obtain ⟨h1, h2⟩ := and2 h
    refine (ps_while G.pass ((snd (k := k) c).t G.toGX h1) (s.blk G A h2)).imp fun D σ H ⟨env, G', F, r, hp, q⟩ => ?_
    rw [sv_whl] at q
    have q' : PstS T X.K W A fr G' F D (whLoop (ev T (callF T k) c).t (sv T (callF T k) b).s whMost env) := q
    generalize whMost = n at q'
    refine ⟨fun m σ H => ∃ env G, Rel X.K env σ H G F ∧ PinA A env σ ∧ PstS T X.K W A fr G F D (whLoop (ev T (callF T k) c).t (sv T (callF T k) b).s m env), ⟨n, env, G', r, hp, q'⟩, ?_⟩
    rintro m σ1 H1 ⟨env1, G1, r1, hp1, q1⟩
    cases m with
    | zero => exact q1.elim
    | succ m =>
      refine ⟨env1, G1, F, r1, ?_⟩
      unfold whLoop at q1
      cases hr : (ev T (callF T k) c).t env1 with
      | bad => rw [hr] at q1; exact q1
      | exc x e =>
        rw [hr] at q1
        intro cls dx H' G2 g2 r2 xr
        refine q1 cls dx σ1 H' G2 g2 r2 (fun p hq => ⟨?_, (hp1 p hq).2⟩) xr
        have := kf_t (T := T) (call := callF T k) c p.1 env1 (hp1 p hq).1
        rw [hr] at this
        exact this
      | ok v =>
        obtain ⟨kk, env2⟩ := v
        have hp2 : PinA A env2 σ1 := hp1.keep (f := (ev T (callF T k) c).t) (fun i => kf_t c i) hr
        rw [hr] at q1
        show ∀ H' G'', Same G1 G'' → Rel X.K env2 σ1 H' G'' F → _
        intro H2 G2 g2 r2
        cases kk with
        | false =>
          simp only [Bool.false_eq_true, if_false]
          exact q1 σ1 H2 G2 g2 r2 hp2
        | true =>
          simp only [if_true]
          refine ⟨fun σ H => ∃ env G, Rel X.K env σ H G F ∧ PinA A env σ ∧ PstS T X.K W A fr G F D (whLoop (ev T (callF T k) c).t (sv T (callF T k) b).s m env), fun σ' H' hn => ⟨m, Nat.lt_succ_self m, hn⟩, env2, G2, F, r2, hp2, ?_⟩
          have q2 := PstS.mono q1 g2
          dsimp only at q2
          cases hs : (sv T (callF T k) b).s env2 with
          | bad => rw [hs] at q2; exact q2
          | exc x e => rw [hs] at q2; exact q2
          | ok v =>
            obtain ⟨fl, env3⟩ := v
            rw [hs] at q2
            cases fl with
            | nx => exact fun σ' H' G3 g3 r3 p3 => ⟨env3, G3, r3, p3, PstS.mono q2 g3⟩
            | cont => exact fun σ' H' G3 g3 r3 p3 => ⟨env3, G3, r3, p3, PstS.mono q2 g3⟩
            | brk => exact q2
            | ret d => exact q2
  · exact absurd h Bool.false_ne_true
theorem PinA.unlock {env env0 : Env} {σ : L2.St} (hp : PinA A env σ) (h0 : ∀ p ∈ A, Ls p.1 isOw env0) (lk : Option Nat) : PinA A (PI.unlock env0 env lk) σ := fun p hq => ⟨unlock_k kp_ow (h0 p hq) (hp p hq).1 lk, (hp p hq).2⟩
theorem own_unlock {env env0 : Env} {lk : Option Nat} {j m : Nat} {d : Da} (h : (PI.unlock env0 env lk)[j]? = some (.own m d)) : ∃ m' d', env[j]? = some (.own m' d') := by
  cases lk with
  | none => exact ⟨m, d, h⟩
  | some i =>
    unfold PI.unlock at h
    simp only at h
    split at h
    · rename_i e1 e2
      by_cases hj : i = j
      · subst hj; exact ⟨_, _, e2⟩
      · rw [List.getElem?_set_ne hj] at h; exact ⟨_, _, h⟩
    · exact ⟨_, _, h⟩
theorem RepR.unlock {K : PySem.W.Frag} {G H F : Hp} {env env0 : Env} {σ : L2.St} {d : Da} {v : V} {lk : Option Nat} (x : RepR fr K G H F env σ d v) : RepR fr K G H F (PI.unlock env0 env lk) σ d v := by
  unfold RepR at x ⊢
  split
  · rename_i hf
    rw [if_pos hf] at x
    cases d with
    | list ds =>
      obtain ⟨a, xs, e1, e2, e3, e4, e5, e6⟩ := x
      exact ⟨a, xs, e1, e2, e3, e4, fun j m d e z => let ⟨m', d', e'⟩ := own_unlock e; e5 j m' d' e' z, e6⟩
    | _ => exact x
  · rename_i hf
    rw [if_neg hf] at x
    exact x
/-- what stands at the start of turn i of a for -/
def FoI (T : Tab) (K : PySem.W.Frag) (W : WX) (A A' : List (Nat × Addr)) (fr : Bool) (step : Da → Env → R Env (Fl × Env)) (xs : List Da) (G1 F : Hp) (lk : Option (Addr × List Da)) (fin : R Env (Fl × Env) → R Env (Fl × Env)) (D : Ends) (i : Nat) (σ : L2.St) (H : Hp) : Prop :=
  ∃ env G, Same G1 G ∧ Rel K env σ H G F ∧ PinA A' env σ ∧ (∀ a ds, lk = some (a, ds) → ∃ j, Lk j (.list ds) env ∧ (j, a) ∈ A') ∧ PstS T K W A fr G1 F D (fin (forLoop step (xs.drop i) env))
theorem pss_ex {X : Cx} {ι : Type} {sts : List Stmt} {t : ι → TS} (h : ∀ i, PSs X sts (t i)) : PSs X sts fun D σ H => ∃ i, t i D σ H := ⟨fun pins s σ H D I ⟨i, x⟩ => (h i).run pins s σ H D I x⟩
theorem s_for (t : Tg) (it : E) {b : S} (s : SndS T k fr b) : SndS T k fr (.for t it b) := .of rfl fun {C W X} G A st h => by
  split at h
  · rename_i tg ex l p
    obtain ⟨hc, h⟩ := and2 h
    obtain ⟨h0, h⟩ := and2 h
    obtain ⟨h1, h⟩ := and2 h
    obtain ⟨h2, h3⟩ := and2 h
    refine (ps_for G.pass (G.calm hc) ((snd (k := k) it).i G.toGX hc h1) (pg_tg G.toGX t h2) (pss_ex fun A' => s.blk G A' h3) (fun x => set_of h0 x)).imp fun D σ H ⟨env, G', F, r, hp, q⟩ => ?_
    have q' : PstS T X.K W A fr G' F D (((ev T (callF T k) it).i env).bnd fun xs env1 => unlk env1 (lockOf it) (forLoop (eachB (sv T (callF T k) b).s t) xs (PI.lock env1 (lockOf it)))) := q
    refine ⟨env, G', F, r, (q'.bnd hp fun i => (keep kp_ow it).i).imp (Same.refl _) fun xs env1 _ ⟨hp1, p1⟩ J H1 G1 lk g1 r1 wlk lis => ?_⟩
    -- the slots that the body keeps, and the walked one
    obtain ⟨A', hA, hA', hL⟩ : ∃ A' : List (Nat × Addr), (∀ p ∈ A, p ∈ A') ∧ PinA A' (PI.lock env1 (lockOf it)) σ ∧ ∀ a ds, lk = some (a, ds) → ∃ j, Lk j (.list ds) (PI.lock env1 (lockOf it)) ∧ (j, a) ∈ A' := by
      have base : PinA A (PI.lock env1 (lockOf it)) σ := fun p hq => ⟨lock_k kp_ow (hp1 p hq).1 _, (hp1 p hq).2⟩
      cases lk with
      | none => exact ⟨A, fun _ z => z, base, fun a ds z => by cases z⟩
      | some v =>
        obtain ⟨a, ds⟩ := v
        obtain ⟨j, m, e1, e2, e3⟩ := lis a ds rfl
        have hj : Lk j (.list ds) (PI.lock env1 (lockOf it)) := by
          rw [e1]
          refine lk_of.mpr ?_
          unfold PI.lock
          simp only [e2]
          exact List.getElem?_set_self (List.getElem?_eq_some_iff.mp e2).1
        refine ⟨(j, a) :: A, fun p hq => List.mem_cons_of_mem _ hq, fun p hq => ?_, fun a' ds' z => by cases z; exact ⟨j, hj, List.mem_cons_self⟩⟩
        rcases List.mem_cons.mp hq with z | hq
        · subst z
          exact ⟨⟨_, lk_of.mp hj, 1, _, rfl⟩, e3⟩
        · exact base p hq
    have back : ∀ {e : Env} {σ' : L2.St}, PinA A' e σ' → PinA A (PI.unlock env1 e (lockOf it)) σ' := fun {e σ'} p => PinA.unlock (fun q hq => p q (hA q hq)) (fun q hq => (hp1 q hq).1) _
    generalize hf : (sv T (callF T k) b).s = f at p1
    refine ⟨fun i m σ H => m = xs.length - i ∧ i ≤ xs.length ∧ FoI T X.K W A A' fr (eachB f t) xs G1 F lk (unlk env1 (lockOf it)) D i σ H, ⟨xs.length, rfl, Nat.zero_le _, _, G1, Same.refl _, r1.lock _, hA', hL, PstS.mono p1 g1⟩, ?_⟩
    rintro i m σ2 H2 ⟨rfl, hi, envi, Gi, gi, ri, pi, li, qi⟩
    have hobj : ∀ a ds, lk = some (a, ds) → ObjO X.K Gi H2 (.list ds) a := fun a ds e => by
      obtain ⟨j, e1, e2⟩ := li a ds e
      obtain ⟨b, f1, _, _, f4⟩ := ri.own j 2 _ (lk_of.mp e1)
      rw [(pi _ e2).2] at f1
      cases f1
      exact f4
    obtain ⟨w1, w2⟩ := wlk i H2 Gi gi ri.gs hobj
    by_cases hlt : i < xs.length
    · refine .inr ⟨(w1 hlt).1, fun σ' H' => FoI T X.K W A A' fr (eachB f t) xs G1 F lk (unlk env1 (lockOf it)) D (i + 1) σ' H', fun σ' H' nx => ⟨xs.length - (i + 1), by omega, rfl, hlt, nx⟩, fun x H3 hy => ?_⟩
      obtain ⟨d, G3, e1, rp, g3, gs3, hs3, n3⟩ := (w1 hlt).2 x H3 hy
      have r3 := ri.grow g3 gs3 hs3 n3
      have hdrop : xs.drop i = d :: xs.drop (i + 1) := by
        rw [List.drop_eq_getElem_cons hlt]
        rw [List.getElem?_eq_getElem hlt] at e1
        cases e1
        rfl
      rw [hdrop] at qi
      unfold forLoop eachB at qi
      cases ha : asgT t d envi with
      | none => rw [ha] at qi; exact qi.elim
      | some env2 =>
        rw [ha] at qi
        simp only [optB] at qi
        refine ⟨envi, G3, F, d, env2, r3, rp, ha, fun σ4 r4 _ ho => ⟨A', env2, G3, F, r4, fun p hq => ⟨asgT_k kp_ow t (pi p hq).1 ha, by rw [ho _ (pi p hq).1]; exact (pi p hq).2⟩, ?_⟩⟩
        have ql := PstS.mono qi (gi.trans g3)
        have hl2 : ∀ {α : Type} {fl : Fl} {env3 : Env}, f env2 = .ok (fl, env3) → ∀ a ds, lk = some (a, ds) → ∃ j, Lk j (.list ds) env3 ∧ (j, a) ∈ A' := fun {α fl env3} hr a ds e => by
          obtain ⟨j, e1, e2⟩ := li a ds e
          have := (keepS (T := T) (call := callF T k) (kp_lk (.list ds)) b).s env2 (asgT_k (kp_lk (.list ds)) t e1 ha)
          rw [hf, hr] at this
          exact ⟨j, this, e2⟩
        cases hs : f env2 with
        | bad => rw [hs] at qi; exact qi
        | exc y e =>
          rw [hs] at ql
          exact fun cls dx σ' H' G5 g5 r5 p5 xr => ql cls dx σ' H' G5 g5 (r5.unlock env1 _) (back p5) xr
        | ok v =>
          obtain ⟨fl, env3⟩ := v
          have hl3 := hl2 (α := Nat) hs
          rw [hs] at qi ql
          cases fl with
          | nx => exact fun σ' H' G5 g5 r5 p5 => ⟨env3, G5, (gi.trans g3).trans g5, r5, p5, hl3, qi⟩
          | cont => exact fun σ' H' G5 g5 r5 p5 => ⟨env3, G5, (gi.trans g3).trans g5, r5, p5, hl3, qi⟩
          | brk => exact fun σ' H' G5 g5 r5 p5 => ql σ' H' G5 g5 (r5.unlock env1 _) (back p5)
          | ret z => exact fun σ' v H' G5 g5 r5 p5 x => ql σ' v H' G5 g5 (r5.unlock env1 _) (back p5) (RepR.unlock x)
    · have hii : i = xs.length := by omega
      subst hii
      rw [List.drop_length] at qi
      exact .inl ⟨w2 (Nat.le_refl _), qi σ2 H2 Gi gi (ri.unlock env1 _) (back pi)⟩
  · exact absurd h Bool.false_ne_true
/-! ### exceptions -/
theorem s_raise (c : Nat) (a : E) : SndS T k fr (.raise c a) := .of rfl fun {C W X} G A st h => by
  split at h
  · rename_i x px y p3 p
    obtain ⟨hc, h⟩ := and2 h
    obtain ⟨h1, h2⟩ := and2 h
    obtain ⟨g1, g2, _⟩ := glo_ok G.toGX h1
    split at h2
    · rename_i n hcl
      obtain ⟨h2, h3⟩ := and2 h2
      obtain rfl := of_decide_eq_true h2
      obtain ⟨c1, c2, c3, c4, c5⟩ := G.tab.cls c _ _ hcl
      unfold isStrC at h3
      split at h3
      · refine (L2.ps_raise (G.calm hc) G.takes (pmk_own PySem.F.excBase_ValueError (c5 rfl) c1 c2 (raises_own c3 c4) g1 g2)).imp fun D σ H ⟨env, G', F, r, hp, q⟩ => ?_
        have q' : PstS T X.K W A fr G' F D (match T.cls[c]? with
          | some (_, none) => (.exc ⟨c, none⟩ env : R Env (Fl × Env))
          | some (_, some f) => ((ev T (callF T k) a).v env).bnd fun d env1 => if iniV f d then .exc ⟨c, some d⟩ env1 else .bad
          | none => .bad) := q
        rw [hcl] at q'
        refine q' _ none σ H G' (Same.refl _) r hp ?_
        unfold ExRep
        show match T.cls[c]? with
          | some (n', none) => _ = Value.ref (He.ga X.K n') ∧ (none : Option Addr) = none ∧ (none : Option Da) = none
          | some (n', some f) => _
          | none => False
        rw [hcl]
        exact ⟨rfl, rfl, rfl⟩
      · exact absurd h3 Bool.false_ne_true
    · rename_i n f hcl
      obtain ⟨h2, h3⟩ := and2 h2
      obtain ⟨h3, h4⟩ := and2 h3
      obtain rfl := of_decide_eq_true h2
      obtain ⟨c1, c2, c3, c4, c5⟩ := G.tab.cls c _ _ hcl
      obtain ⟨fI, fd, T1, T2, T3, F1, hb⟩ := (G.ini c n f hcl).ex
      have hx : Passes (L2.CX X.prog X.w) X (fun _ _ _ => False) := fun pins σ H s e s' I cx => G.takes e s' (XE.of_call I (fun _ _ _ z => z.elim) cx)
      refine (L2.ps_raise (G.calm hc) G.takes (pmk_oex (dvs := []) (ds := []) T1 T2 T3 F1 ((G.room hc).mono (by omega)) hb .nil hx g1 c1 (pa_cons ((snd (k := k) a).e G.toGX h4).v pa_nil (star_of h3)) g2 (star_of h3))).imp fun D σ H ⟨env, G', F, r, hp, q⟩ => ?_
      have q' : PstS T X.K W A fr G' F D (match T.cls[c]? with
        | some (_, none) => (.exc ⟨c, none⟩ env : R Env (Fl × Env))
        | some (_, some f) => ((ev T (callF T k) a).v env).bnd fun d env1 => if iniV f d then .exc ⟨c, some d⟩ env1 else .bad
        | none => .bad) := q
      rw [hcl] at q'
      refine ⟨env, G', F, r, (q'.bnd hp fun i => kf_v a i).imp (Same.refl _) fun d env1 _ ⟨hp1, q1⟩ v H1 G1 gg1 r1 rv => ⟨by simp, fun a0 ha0 => ?_⟩⟩
      obtain ⟨G2, gg2, r2, rp⟩ := r1.settleV rv
      by_cases hv : iniV f d = true
      · rw [if_pos hv] at q1
        refine ⟨a0, v, rfl, fun hf => ?_, upd_same, fun d0 hd0 hne => ⟨rfl, d0, [(f, v)], upd_same, ?_, ?_, ?_⟩⟩
        · subst hf
          cases d with
          | int i =>
            unfold iniV at hv
            obtain ⟨_, hv⟩ := and2 hv
            obtain ⟨v1, v2⟩ := and2 hv
            exact ⟨i, by simpa only [Rep] using rp, of_decide_eq_true v1, of_decide_eq_true v2⟩
          | str s => exact absurd hv (by unfold iniV; simp)
          | _ => cases hv
        · rw [upd_ne hne, upd_same]
        · rw [upd_ne hne] at hd0; exact hd0
        · rw [upd_ne hne] at hd0
          have eH : upd (del (upd (upd (upd H1 a0 (exo a0 (He.ga X.K n) none)) d0 (exd d0 [(f, v)])) a0 (exo a0 (He.ga X.K n) (some d0))) a0) d0 (.xd [(f, v)]) = upd H1 d0 (.xd [(f, v)]) := by
            funext b
            by_cases b1 : b = d0
            · rw [b1, upd_same, upd_same]
            · rw [upd_ne b1, upd_ne b1]
              by_cases b2 : b = a0
              · rw [b2, del_same, ha0]
              · rw [del_ne b2, upd_ne b2, upd_ne b1, upd_ne b2]
          rw [eH]
          refine q1 _ (some d0) σ _ G2 (gg1.trans gg2) (r2.grow (Same.refl _) (r2.gs.trans (same_upd hd0)) (same_upd hd0) (fun _ _ z => z)) hp1 ?_
          unfold ExRep
          show match T.cls[c]? with
            | some (n', none) => _
            | some (n', some f') => _
            | none => False
          rw [hcl]
          exact ⟨rfl, d, d0, v, rfl, rfl, upd_same, rp⟩
      · rw [if_neg hv] at q1
        exact q1.elim
    · exact absurd h2 Bool.false_ne_true
  · exact absurd h Bool.false_ne_true
theorem gs_tr (G : GS T k C W X) {W' : WX} {pn : List (Addr × Obj)} {xe : Value → Shared → Prop} (tk : Takes (X.tr pn xe) W') (hp : PassesOwn (model X.prog X.w) X.A X.env xe) : GS T k C W' (X.tr pn xe) where
  calm := G.calm
  room := G.room
  un := G.un
  takes := tk
  N := G.N
  nd := G.nd
  sc := G.sc
  fn := G.fn
  fns := G.fns
  ini := fun c n f e => ⟨(G.ini c n f e).ex⟩
  tab := G.tab
  pass := hp
  stack := G.stack
  frame := G.frame
  kind := G.kind
theorem gs_suite (G : GS T k C W X) (hc : C.cm = false) (a : Addr) (pn : List (Addr × Obj)) : GS T k C W0 (X.suite a pn) where
  calm := fun h => by rw [hc] at h; cases h
  room := fun h => by rw [hc] at h; cases h
  un := G.un
  takes := fun u s' ⟨a, B, sI, pins, σ, H, cls, d, e, I, nb, up, sky, na, os, ag, w⟩ => w
  N := G.N
  nd := G.nd
  sc := G.sc
  fn := G.fn
  fns := G.fns
  ini := fun c n f e => ⟨(G.ini c n f e).ex⟩
  tab := G.tab
  pass := PassesOwn.never
  stack := G.stack
  frame := G.frame
  kind := G.kind
theorem gs_hot (G : GS T k C W X) : GS T k { C with cm := false } W X where
  calm := fun h => by cases h
  room := fun h => by cases h
  un := G.un
  takes := G.takes
  N := G.N
  nd := G.nd
  sc := G.sc
  fn := G.fn
  fns := G.fns
  ini := fun c n f e => ⟨(G.ini c n f e).ex⟩
  tab := G.tab
  pass := G.pass
  stack := G.stack
  frame := G.frame
  kind := G.kind
theorem s_hnd (c : Nat) (jo : Option Nat) {b more : S} (s : SndS T k fr b) (t : SndS T k fr more) : SndS T k fr (.hnd c jo b more) where
  one := fun G A st h => absurd h Bool.false_ne_true
  blk := fun G A l h => absurd h Bool.false_ne_true
  hds := fun {C W X} G hc A l h => by
    cases jo with
    | some _ => exact absurd h Bool.false_ne_true
    | none =>
      have h : (match (generalizing := false) l with
        | .ExceptHandler (some (.Name x _)) none (s0 :: ss) _ :: r => gloB C x && ((match T.cls[c]? with
          | some (n, _) => decide (n = x)
          | _ => false) && ((ckS T fr b).blk C (s0 :: ss) && (ckS T fr more).hds C r))
        | _ => false) = true := h
      split at h
      · rename_i x px s0 ss p r
        obtain ⟨h1, h⟩ := and2 h
        obtain ⟨h2, h⟩ := and2 h
        obtain ⟨h3, h4⟩ := and2 h
        split at h2
        · rename_i n o hcl
          obtain rfl := of_decide_eq_true h2
          obtain ⟨g1, g2, _⟩ := glo_ok G.toGX h1
          obtain ⟨c1, _⟩ := G.tab.cls c _ _ hcl
          obtain ⟨lst, hk, hm⟩ := t.hds G hc A h4
          refine ⟨(.ref (He.ga X.K n), none, fun a cls d => tS T X.K W0 A fr (sv T (callF T k) b).s) :: lst, .plain ⟨g1, g2, .inl c1⟩ (fun a oe cls d pn _ _ => s.blk (gs_suite G hc a _) A h3) hk, ?_⟩
          intro D σ H G' F env xx cls dx r hp xr q
          have q' : PstS T X.K W A fr G' F D (if matches_ T xx.cls c then noX ((sv T (callF T k) b).s env) else (sv T (callF T k) more).h xx env) := q
          unfold ExRep at xr
          cases hx : T.cls[xx.cls]? with
          | none => rw [hx] at xr; exact xr.elim
          | some v =>
            obtain ⟨m, o'⟩ := v
            have hcls : cls = .ref (He.ga X.K m) := by
              rw [hx] at xr
              cases o' with
              | none => exact xr.1
              | some f => exact xr.1
            subst hcls
            refine ⟨_, G.tab.sub xx.cls c m n o' o hx hcl, fun hb a ha => ?_, fun hb => ?_⟩
            · rw [hb] at q'
              simp only [if_true] at q'
              refine ⟨env, G', F, r, hp, ?_⟩
              cases hr : (sv T (callF T k) b).s env with
              | ok p =>
                rw [hr] at q'
                obtain ⟨fl, e⟩ := p
                cases fl <;> exact q'
              | exc y e => rw [hr] at q'; exact q'.elim
              | bad => rw [hr] at q'; exact q'
            · rw [hb] at q'
              simp only [Bool.false_eq_true, if_false] at q'
              refine hm r hp ?_ q'
              unfold ExRep
              rw [hx] at xr ⊢
              exact xr
        · exact absurd h2 Bool.false_ne_true
      · exact absurd h Bool.false_ne_true
theorem s_hndx (c j : Nat) (e : XE) {more : S} (t : SndS T k fr more) : SndS T k fr (.hndx c j e more) where
  one := fun G A st h => absurd h Bool.false_ne_true
  blk := fun G A l h => absurd h Bool.false_ne_true
  hds := fun {C W X} G hc A l h => by
    have h : (match (generalizing := false) l with
      | .ExceptHandler (some (.Name x _)) (some n) [.Return (some ex) _] _ :: r => gloB C x && ((match T.cls[c]? with
        | some (m, _) => decide (m = x)
        | _ => false) && ((decide (C.N[j]? = some n) && (decide (C.sc.names.lookup n = some .local) && nameOk n)) && (xck T C n e ex && (ckS T fr more).hds C r)))
      | _ => false) = true := h
    split at h
    · rename_i x px n ex p1 p r _
      obtain ⟨h1, h⟩ := and2 h
      obtain ⟨h2, h⟩ := and2 h
      obtain ⟨h3, h⟩ := and2 h
      obtain ⟨h6, h7⟩ := and2 h
      obtain ⟨h3, h4⟩ := and2 h3
      obtain ⟨h4, h5⟩ := and2 h4
      split at h2
      · rename_i m o hcl
        obtain rfl := of_decide_eq_true h2
        obtain ⟨g1, g2, _⟩ := glo_ok G.toGX h1
        obtain ⟨c1, _⟩ := G.tab.cls c _ _ hcl
        obtain ⟨lst, hk, hm⟩ := t.hds G hc A h7
        have hj : X.N[j]? = some n := by rw [G.N]; exact of_decide_eq_true h3
        have hn : X.env.kindOf n = some .local := by unfold PySem.Env.kindOf; rw [G.sc]; exact of_decide_eq_true h4
        refine ⟨(.ref (He.ga X.K m), some j, fun a cls d D σ H => ∃ x, tX T X.K j x a cls d e σ H D.rt) :: lst, .named ⟨g1, g2, .inl c1⟩ hj hn (fun a oe cls d pn hz hf => pss_one ⟨fun pins s σ H D I ⟨x, q⟩ => ?_⟩) hk, ?_⟩
        · exact (ps_ret (xe_ok G.toGX (x := x) hj hn h5 hz hf e h6)).run pins s σ H D I q
        · intro D σ H G' F env xx cls dx r hp xr q
          have q' : PstS T X.K W A fr G' F D (if matches_ T xx.cls c then optB (xev T xx e) fun d => optB (clrN env j) fun env1 => .ok (.ret d, env1) else (sv T (callF T k) more).h xx env) := q
          obtain ⟨m', o', hx, rfl⟩ := cls_is xr
          refine ⟨_, G.tab.sub xx.cls c m' m o' o hx hcl, fun hb a ha => ?_, fun hb => ?_⟩
          · rw [hb] at q'
            simp only [if_true] at q'
            obtain ⟨d, e1, q1⟩ := q'.opt
            obtain ⟨env1, e2, q2⟩ := q1.opt
            have hjl : j < σ.length := by
              rw [← r.len]
              unfold clrN at e2
              split at e2
              · rename_i z; exact (List.getElem?_eq_some_iff.mp z).1
              · rename_i z; exact (List.getElem?_eq_some_iff.mp z).1
              · cases e2
            have he1 : env1 = env.set j .un ∧ ∀ i, Ls i isOw env → j ≠ i := by
              unfold clrN at e2
              split at e2
              · rename_i z
                cases e2
                exact ⟨rfl, fun i ⟨s, w1, m, d, w2⟩ y => by rw [← y, z] at w1; cases w1; cases w2⟩
              · rename_i d' z
                cases e2
                exact ⟨rfl, fun i ⟨s, w1, m, d, w2⟩ y => by rw [← y, z] at w1; cases w1; cases w2⟩
              · cases e2
            obtain ⟨rfl, hne⟩ := he1
            refine ⟨xx, G', List.getElem?_set_self hjl, r.gs, xr, d, e1, fun v H' G2 g1 gs s nn rv => ?_⟩
            refine q2 (σ.set j none) v H' G2 g1 ((r.grow g1 gs s nn).drop j none) (hp.set hne fun i hi => Ls.set hi (hne i hi)) ?_
            unfold RepR
            split
            · cases d with
              | list ds => exact absurd rfl (xev_nl e e1 ds)
              | _ => exact rv
            · exact rv
          · rw [hb] at q'
            simp only [Bool.false_eq_true, if_false] at q'
            exact hm r hp xr q'
      · exact absurd h2 Bool.false_ne_true
    · exact absurd h Bool.false_ne_true
theorem s_try {b hh : S} (s : SndS T k fr b) (t : SndS T k fr hh) : SndS T k fr (.tryx b hh) := .of rfl fun {C W X} G A st h => by
  split at h
  · rename_i l h0 hs p
    obtain ⟨h1, h2⟩ := and2 h
    obtain ⟨lst, hk, hm⟩ := t.hds (gs_hot G) rfl A h2
    refine (ps_try_mix (tb := fun W' => tS T X.K W' A fr (sv T (callF T k) b).s) (by rw [G.N]; exact G.nd) G.stack G.frame G.takes (fun W' pn xe tk pass => s.blk (gs_tr G tk pass) A h1) hk).imp fun D σ H ⟨env, G', F, r, hp, q⟩ => ?_
    have q' : PstS T X.K W A fr G' F D (tryB ((sv T (callF T k) b).s env) (sv T (callF T k) hh).h) := q
    refine ⟨env, G', F, r, hp, ?_⟩
    cases hr : (sv T (callF T k) b).s env with
    | ok p =>
      rw [hr] at q'
      obtain ⟨fl, e⟩ := p
      cases fl <;> exact q'
    | exc x e =>
      rw [hr] at q'
      exact fun cls dx σ' H' G2 g r2 p2 xr => hm r2 p2 xr (PstS.mono q' g)
    | bad => rw [hr] at q'; exact q'
  · exact absurd h Bool.false_ne_true
/-! ### every statement -/
theorem sndS (s : S) : SndS T k fr s := by
  induction s with
  | skip => exact s_skip
  | seq a b ha hb => exact s_seq ha hb
  | expr e => exact s_expr e
  | asg i e => exact s_asg i e
  | asgO i e => exact s_asgO i e
  | unp t e => exact s_unp t e
  | par ts es => exact s_par ts es
  | setI i ix e => exact s_setI i ix e
  | swp i ia ib a b => exact .no rfl
  | aug i o e => exact s_aug i o e
  | ret e => exact s_ret e
  | retN => exact s_retN
  | ite c a b ha hb => exact s_ite c ha hb
  | whl c b hb => exact s_whl c hb
  | «for» t it b hb => exact s_for t it hb
  | raise c a => exact s_raise c a
  | tryx b h hb hh => exact s_try hb hh
  | hnd c i b more hb hm => exact s_hnd c i hb hm
  | hndx c j e more hm => exact s_hndx c j e hm
  | brk => exact s_brk
  | cont => exact s_cont
end
end PI
end
section
set_option Elab.async false
set_option linter.all false
set_option maxRecDepth 100000
/-! PIx: the defs of a table keep their promises. -/
namespace PI
open PySem PySem.Spec PyProof.Rows L2

/-! ### how arguments bind -/
theorem zip_has {α β : Type} [BEq α] [LawfulBEq α] : ∀ {ps : List α} {us : List β} {x : α}, us.length = ps.length → x ∈ ps → ((ps.zip us).lookup x).isNone = false
  | p :: ps, u :: us, x, hl, hx => by
    rw [List.zip_cons_cons, List.lookup_cons]
    cases hb : x == p with
    | true => rfl
    | false =>
      rcases List.mem_cons.mp hx with z | z
      · rw [z] at hb; simp at hb
      · exact zip_has (by simpa using hl) z
  | p :: ps, [], x, hl, hx => by simp at hl
theorem zip_all {ps : List Str} {us : List Value} (hl : us.length = ps.length) : ps.filter (fun n => ((ps.zip us).lookup n).isNone) = [] := by
  rw [List.filter_eq_nil_iff]
  intro x hx
  rw [zip_has hl hx]; decide
theorem zip_skip {p : Str} {v : Value} {l : List (Str × Value)} : ∀ {qs : List Str}, p ∉ qs → qs.filterMap (fun n => (((p, v) :: l).lookup n).map (n, ·)) = qs.filterMap (fun n => (l.lookup n).map (n, ·))
  | [], _ => rfl
  | q :: qs, h => by
    have hq : (q == p) = false := by
      cases hb : q == p with
      | true => exact absurd (by rw [beq_iff_eq.mp hb]; exact List.mem_cons_self) h
      | false => rfl
    have ih := zip_skip (v := v) (l := l) (qs := qs) fun z => h (List.mem_cons_of_mem _ z)
    have e : ((p, v) :: l).lookup q = l.lookup q := by rw [List.lookup_cons, hq]
    rw [List.filterMap_cons, List.filterMap_cons, ih, e]
theorem zip_back : ∀ {ps : List Str} {us : List Value}, ps.Nodup → us.length = ps.length → ps.filterMap (fun n => ((ps.zip us).lookup n).map (n, ·)) = ps.zip us
  | [], us, _, _ => rfl
  | p :: ps, [], _, hl => by simp at hl
  | p :: ps, u :: us, nd, hl => by
    obtain ⟨h1, h2⟩ := List.nodup_cons.mp nd
    rw [List.zip_cons_cons, List.filterMap_cons, zip_skip h1, zip_back h2 (by simpa using hl)]
    have : ((p, u) :: ps.zip us).lookup p = some u := by rw [List.lookup_cons]; simp
    rw [this]; rfl
theorem bind_plain {as : List PySem.Arg} {x qual : Str} {body : List Stmt} {scope : Scope} {kV doc pm cdv ct : Value} {an : Option Addr} {us : List Value} (nd : (as.map (·.arg)).Nodup) (hl : us.length = (as.map (·.arg)).length) :
    bindArgs (PySem.W.fnOf x qual ⟨[], as, none, [], [], none, []⟩ body scope .none kV doc pm an cdv ct) ⟨us, []⟩ = pure ((as.map (·.arg)).zip us) := by
  unfold bindArgs PySem.W.fnOf
  generalize hps : as.map (·.arg) = ps at nd hl
  have hl2 : us.length ≤ as.length := by rw [hl, ← hps, List.length_map]; exact Nat.le_refl _
  simp only [List.map_nil, List.nil_append, hps, List.append_nil, List.forIn_nil]
  have hg : ¬ (us.length > ps.length) := by omega
  have e : seqItems? .none = pure none := rfl
  rw [e]
  simp only [pure_bind, Option.getD_none, Array.toList_empty, List.drop_nil, List.length_nil, Nat.sub_zero, List.take_length, zip_all hl, List.drop_length, List.zip_nil_left, List.forIn_nil, zip_back nd hl, Option.isNone_none, Bool.and_true, decide_eq_true_eq, hg, if_false, List.isEmpty_nil, Bool.not_true, Bool.false_eq_true, List.zip_nil_right]

/-! ### a def against its text -/
def argsB (p : Arguments) (ps : List Str) : Bool := match p with
  | ⟨[], as, none, [], [], none, []⟩ => decide (as.map (·.arg) = ps)
  | _ => false
def dOf (st : Stmt) : He.DefD := match st with
  | .FunctionDef name args body _ _ _ scope _ _ _ => ⟨(name, none), name, name, args, body, scope, [], []⟩
  | _ => ⟨(Str.empty, none), Str.empty, Str.empty, ⟨[], [], none, [], [], none, []⟩, [], default, [], []⟩
def ccOf (g : Fn) (d : He.DefD) : CC := ⟨true, g.N, d.scope, fun _ => true⟩
def fnOkB (T : Tab) (g : Fn) (d : He.DefD) : Bool := decide (d.at_ = (g.name, none)) && (argsB d.params g.ps && (C8.scC g.N g.ps d.scope && ((ckS T g.fresh g.body).blk (ccOf g d) d.body && (d.dfl.isEmpty && d.kwd.isEmpty))))

section
variable {T : Tab} {k : Nat} {K : PySem.W.Frag}
/-! ### a def's entry and end -/
theorem get_pad {α : Type} {l : List α} {n : Nat} {x : α} {i : Nat} {s : α} (h : (l ++ List.replicate n x)[i]? = some s) : (i < l.length ∧ l[i]? = some s) ∨ (l.length ≤ i ∧ s = x) := by
  by_cases hi : i < l.length
  · rw [List.getElem?_append_left hi] at h; exact .inl ⟨hi, h⟩
  · have hi : l.length ≤ i := by omega
    rw [List.getElem?_append_right hi] at h
    exact .inr ⟨hi, (List.mem_replicate.mp (List.mem_of_getElem? h)).2⟩
theorem Rel.pad {env : Env} {vs : List V} {H G F : Hp} (r : Rel K env (vs.map some) H G F) (n : Nat) : Rel K (env ++ List.replicate n .un) (vs.map some ++ List.replicate n none) H G F := by
  have hl : env.length = vs.length := by rw [r.len, List.length_map]
  have left : ∀ {i : Nat}, i < env.length → (vs.map some ++ List.replicate n none)[i]? = (vs.map some)[i]? := fun {i} hi => List.getElem?_append_left (by rw [List.length_map]; omega)
  refine ⟨r.gs, r.fs, r.fg, by simp [hl], fun i d e => ?_, fun i m d e => ?_, fun i ns e => ?_, fun i j m n d e a q1 q2 z1 z2 => ?_⟩
  · rcases get_pad e with ⟨hi, e⟩ | ⟨_, z⟩
    · rw [left hi]; exact r.val i d e
    · cases z
  · rcases get_pad e with ⟨hi, e⟩ | ⟨_, z⟩
    · rw [left hi]; exact r.own i m d e
    · cases z
  · rcases get_pad e with ⟨hi, e⟩ | ⟨_, z⟩
    · rw [left hi]; exact r.scr i ns e
    · cases z
  · rcases get_pad q1 with ⟨hi, e1⟩ | ⟨_, z⟩
    · rcases get_pad q2 with ⟨hj, e2⟩ | ⟨_, z⟩
      · exact r.dj i j m _ d e a e1 e2 (by rw [← left hi]; exact z1) (by rw [← left hj]; exact z2)
      · cases z
    · cases z
/-- the slots that the caller keeps, where they lie -/
def pinsOf (sls : List Sl) (vs : List V) : List (Nat × Addr) := (List.range sls.length).filterMap fun i => match (sls[i]? : Option Sl), (vs[i]? : Option V) with
  | some (.own _ _), some (.ref a) => some (i, a)
  | _, _ => none
theorem pins_mem {sls : List Sl} {vs : List V} {i : Nat} {m : Nat} {d : Da} {a : Addr} (h1 : sls[i]? = some (.own m d)) (h2 : vs[i]? = some (.ref a)) : (i, a) ∈ pinsOf sls vs := by
  unfold pinsOf
  rw [List.mem_filterMap]
  exact ⟨i, List.mem_range.mpr (List.getElem?_eq_some_iff.mp h1).1, by rw [h1, h2]⟩
theorem mem_pins {sls : List Sl} {vs : List V} {p : Nat × Addr} (h : p ∈ pinsOf sls vs) : (∃ m d, sls[p.1]? = some (.own m d)) ∧ vs[p.1]? = some (.ref p.2) := by
  unfold pinsOf at h
  rw [List.mem_filterMap] at h
  obtain ⟨i, _, e⟩ := h
  split at e
  · rename_i m d a h1 h2
    cases e
    exact ⟨⟨m, d, h1⟩, h2⟩
  · cases e
theorem pin_start {sls : List Sl} {vs : List V} (ho : allOwn1 sls) (n : Nat) : PinA (pinsOf sls vs) (sls ++ List.replicate n .un) (vs.map some ++ List.replicate n none) := fun p hp => by
  obtain ⟨⟨m, d, h1⟩, h2⟩ := mem_pins hp
  have hm : m = 1 := ho _ (List.mem_of_getElem? h1) m d rfl
  subst hm
  have hi := (List.getElem?_eq_some_iff.mp h1).1
  have hv : (vs.map some)[p.1]? = some (some (.ref p.2)) := by rw [List.getElem?_map, h2]; rfl
  refine ⟨⟨_, by rw [List.getElem?_append_left hi]; exact h1, 0, d, rfl⟩, ?_⟩
  rw [List.getElem?_append_left (List.getElem?_eq_some_iff.mp hv).1]
  exact hv
theorem fin_is : ∀ {sls : List Sl} {env : Env} {outs : List Sl}, finSl sls env = some outs → outs.length = sls.length ∧ ∀ (i : Nat) s, outs[i]? = some s → s = .un ∨ ∃ d m d', s = .own 1 d ∧ env[i]? = some (.own 1 d) ∧ sls[i]? = some (.own m d')
  | [], env, outs, h => by
    simp only [finSl, Option.some.injEq] at h
    subst h
    exact ⟨rfl, fun i s e => by simp at e⟩
  | s0 :: sls, [], outs, h => by cases s0 <;> simp [finSl] at h
  | s0 :: sls, e0 :: env, outs, h => by
    have rest : ∀ {o : Sl}, (finSl sls env).map (o :: ·) = some outs → (o = .un ∨ ∃ d m d', o = .own 1 d ∧ e0 = .own 1 d ∧ s0 = .own m d') → outs.length = (s0 :: sls).length ∧ ∀ (i : Nat) s, outs[i]? = some s → s = .un ∨ ∃ d m d', s = .own 1 d ∧ (e0 :: env)[i]? = some (.own 1 d) ∧ (s0 :: sls)[i]? = some (.own m d') := by
      intro o h ho
      cases h1 : finSl sls env with
      | none => rw [h1] at h; cases h
      | some os =>
        rw [h1] at h
        cases h
        obtain ⟨l1, q⟩ := fin_is h1
        refine ⟨by rw [List.length_cons, List.length_cons, l1], fun i s e => ?_⟩
        cases i with
        | zero =>
          simp only [List.getElem?_cons_zero, Option.some.injEq] at e
          subst e
          rcases ho with z | ⟨d, m, d', z1, z2, z3⟩
          · exact .inl z
          · exact .inr ⟨d, m, d', z1, by rw [z2]; rfl, by rw [z3]; rfl⟩
        | succ i => simpa using q i s (by simpa using e)
    cases s0 with
    | own m d' =>
      cases e0 with
      | own n d =>
        match n, h with
        | 0, h => simp [finSl] at h
        | 1, h => exact rest (by simpa only [finSl] using h) (.inr ⟨d, m, d', rfl, rfl, rfl⟩)
        | n + 2, h => simp [finSl] at h
      | _ => simp [finSl] at h
    | _ => exact rest (by simpa only [finSl] using h) (.inl rfl)
theorem fin_rel {sls : List Sl} {vs : List V} {env : Env} {σ : L2.St} {H G F : Hp} {outs : List Sl} (hf : finSl sls env = some outs) (r : Rel K env σ H G F) (p : PinA (pinsOf sls vs) env σ) (hl : sls.length = vs.length) (h0 : ∀ (i : Nat) m d, sls[i]? = some (.own m d) → ∃ a, vs[i]? = some (.ref a)) :
    Rel K outs (vs.map some) H G F ∧ ∀ a, NotOwn env σ a → NotOwn outs (vs.map some) a := by
  obtain ⟨l1, q⟩ := fin_is hf
  have key : ∀ (i : Nat) m d, outs[i]? = some (.own m d) → env[i]? = some (.own 1 d) ∧ m = 1 ∧ (vs.map some)[i]? = σ[i]? := fun i m d e => by
    rcases q i _ e with z | ⟨d1, m', d', z1, z2, z3⟩
    · cases z
    · cases z1
      obtain ⟨a, ha⟩ := h0 i m' d' z3
      have := (p (i, a) (pins_mem z3 ha)).2
      exact ⟨z2, rfl, by rw [this, List.getElem?_map, ha]; rfl⟩
  refine ⟨⟨r.gs, r.fs, r.fg, by rw [List.length_map, l1, hl], fun i d e => ?_, fun i m d e => ?_, fun i ns e => ?_, fun i j m n d e a q1 q2 z1 z2 => ?_⟩, fun a no i m d e z => ?_⟩
  · rcases q i _ e with z | ⟨_, _, _, z, _⟩ <;> cases z
  · obtain ⟨e1, rfl, e2⟩ := key i m d e
    rw [e2]; exact r.own i 1 d e1
  · rcases q i _ e with z | ⟨_, _, _, z, _⟩ <;> cases z
  · obtain ⟨e1, _, f1⟩ := key i m d q1
    obtain ⟨e2, _, f2⟩ := key j n e q2
    exact r.dj i j 1 1 d e a e1 e2 (by rw [← f1]; exact z1) (by rw [← f2]; exact z2)
  · obtain ⟨e1, _, f1⟩ := key i m d e
    exact no i 1 d e1 (by rw [← f1]; exact z)
/-! ### the table -/
theorem args_ok {p : Arguments} {ps : List Str} (h : argsB p ps = true) : ∃ as, p = ⟨[], as, none, [], [], none, []⟩ ∧ as.map (·.arg) = ps := by
  unfold argsB at h
  split at h
  · rename_i as
    exact ⟨as, rfl, of_decide_eq_true h⟩
  · cases h
section
variable {P : Program} {w : World} {mg : Str → Option Value} {base : Heap}
def IniP (P : Program) (w : World) (K : PySem.W.Frag) (mg : Str → Option Value) (base : Heap) (n f : Str) : Prop := ∃ fI fd, OexC K (He.ga K n) ∧ PySem.W.findIn K (.ref (He.ga K n)) "__init__" = some (some (.ref fI)) ∧ PySem.W.typeIn K (.ref fI) = some (.type "function") ∧
  FnOk P w K mg base (L2.CX P w) 2 fI fd ["self", f] (spIni (He.ga K n) f (iniB f)) ∧ Binds K fd ["self", f] []
theorem fn_body {g : Fn} {d : He.DefD} {f : Nat} {fa : Addr} {fd : FuncData} (hg : T.fns[f]? = some g) (hc : fnOkB T g d = true) (tab : TabOk T K mg) (hini : ∀ (c : Nat) n f, T.cls[c]? = some (n, some f) → IniP P w K mg base n f) (F : FunD K d.name d.qual d.params d.body d.scope [] [] fa fd)
    (ih : ∀ (f : Nat) g, T.fns[f]? = some g → ∃ fa fd, FnOk P w K mg base (L2.CX P w) (k + 3) fa fd g.ps (spF T k f g K) ∧ mg g.name = some (.ref fa) ∧ PySem.W.keepIn K (.ref fa) = true ∧ Binds K fd g.ps []) :
    FnOk P w K mg base (L2.CX P w) (k + 1 + 3) fa fd g.ps (spF T (k + 1) f g K) := by
  obtain ⟨_, hc⟩ := and2 hc
  obtain ⟨_, hc⟩ := and2 hc
  obtain ⟨h3, hc⟩ := and2 hc
  obtain ⟨h4, _⟩ := and2 hc
  have S := C8.fnScope_by h3
  refine F.ok S (fun vs H Q E h => ?_) (fun cdv A outer s H vs Q E hr h => ?_)
  · obtain ⟨_, _, _, h, _⟩ := h; exact h
  · obtain ⟨sls, G, F', hl, rel, ho, hm⟩ := h
    have hls : sls.length = vs.length := by rw [rel.len, List.length_map]
    have gs : GS T k (ccOf g d) (fun cls dx _ H' => E cls dx H') (cxOf (L2.CX P w) P w K mg base g.N d.qual d.scope fa cdv A outer s H E) := {
      calm := fun _ => rfl
      room := fun _ => hr
      un := by have := hr.un; show (A.deeper _).units + 65 < cLine; omega
      takes := takes_of rfl rfl rfl rfl
      N := rfl
      nd := S.nd
      sc := rfl
      fn := fun _ _ => rfl
      fns := ih
      tab := tab
      ini := fun c n f e => ⟨hini c n f e⟩
      pass := passes_of rfl
      stack := rfl
      frame := rfl
      kind := S.kind }
    refine ⟨_, (sndS g.body).blk gs (pinsOf sls vs) h4, ?_⟩
    have h0 : ∀ (i : Nat) m d, sls[i]? = some (.own m d) → ∃ a, vs[i]? = some (.ref a) := fun i m d e => by
      obtain ⟨a, e1, _⟩ := rel.own i m d e
      rw [List.getElem?_map] at e1
      cases hv : vs[i]? with
      | none => rw [hv] at e1; cases e1
      | some v => rw [hv] at e1; cases e1; exact ⟨a, rfl⟩
    refine ⟨sls ++ List.replicate (g.N.length - vs.length) Sl.un, G, F', rel.pad (g.N.length - vs.length), pin_start ho (g.N.length - vs.length), ?_⟩
    have hrun : callF T (k + 1) f sls = (match (sv T (callF T k) g.body).s (sls ++ List.replicate (g.N.length - vs.length) .un) with
      | .ok (.nx, env) => (match finSl sls env with
        | some outs => .ok (.none, outs)
        | none => .bad)
      | .ok (.ret d, env) => (match finSl sls env with
        | some outs => .ok (d, outs)
        | none => .bad)
      | .ok _ => .bad
      | .exc x env => (match finSl sls env with
        | some outs => .exc x outs
        | none => .bad)
      | .bad => .bad) := by
      show runFn T (callF T k) f sls = _
      unfold runFn
      rw [hg]
      simp only
      rw [if_pos (by rw [hls, hl]), hls]
      try rfl
    rw [hrun] at hm
    cases hs : (sv T (callF T k) g.body).s (sls ++ List.replicate (g.N.length - vs.length) .un) with
    | bad => rw [hs] at hm; exact hm
    | exc x env' =>
      rw [hs] at hm
      cases hf : finSl sls env' with
      | none => simp only [hf] at hm
      | some outs =>
        simp only [hf] at hm
        exact fun cls dx σ' H' G' g1 r1 p1 xr => hm cls dx H' G' g1 (fin_rel hf r1 p1 hls h0).1 xr
    | ok v =>
      obtain ⟨fl, env'⟩ := v
      rw [hs] at hm
      cases fl with
      | brk => exact hm.elim
      | cont => exact hm.elim
      | nx =>
        cases hf : finSl sls env' with
        | none => simp only [hf] at hm
        | some outs =>
          simp only [hf] at hm
          refine fun σ' H' G' g1 r1 p1 => hm .non H' G' g1 (fin_rel hf r1 p1 hls h0).1 ?_
          have : Rep K G' .none .non := by simp only [Rep]
          split <;> exact this
      | ret dd =>
        cases hf : finSl sls env' with
        | none => simp only [hf] at hm
        | some outs =>
          simp only [hf] at hm
          refine fun σ' v H' G' g1 r1 p1 x => ?_
          obtain ⟨r2, no⟩ := fin_rel hf r1 p1 hls h0
          refine hm v H' G' g1 r2 ?_
          unfold RepR at x
          split
          · rename_i hfr
            rw [if_pos hfr] at x
            cases dd with
            | list ds =>
              obtain ⟨a, xs, e1, e2, e3, e4, e5, e6⟩ := x
              exact ⟨a, xs, e1, e2, e3, e4, no a e5, e6⟩
            | _ => exact x
          · rename_i hfr
            rw [if_neg hfr] at x
            exact x
theorem fns_ok (tab : TabOk T K mg) (hini : ∀ (c : Nat) n f, T.cls[c]? = some (n, some f) → IniP P w K mg base n f) (H : ∀ (f : Nat) g, T.fns[f]? = some g → ∃ d fd, fnOkB T g d = true ∧ FunD K d.name d.qual d.params d.body d.scope [] [] (He.ga K g.name) fd ∧ mg g.name = some (.ref (He.ga K g.name))) :
    ∀ (k : Nat) (f : Nat) g, T.fns[f]? = some g → ∃ fa fd, FnOk P w K mg base (L2.CX P w) (k + 3) fa fd g.ps (spF T k f g K) ∧ mg g.name = some (.ref fa) ∧ PySem.W.keepIn K (.ref fa) = true ∧ Binds K fd g.ps []
  | 0, f, g, hg => by
    obtain ⟨d, fd, hc, F, hm⟩ := H f g hg
    have hb : Binds K fd g.ps [] := by
      obtain ⟨_, hc⟩ := and2 hc
      obtain ⟨h2, hc⟩ := and2 hc
      obtain ⟨h3, _⟩ := and2 hc
      obtain ⟨as, e1, e2⟩ := args_ok h2
      have S := C8.fnScope_by h3
      refine F.bindsN fun kV doc pm an cdv ct us hl => ?_
      rw [e1, ← e2]
      have nd : g.ps.Nodup := by rw [← S.pre]; exact S.nd.sublist (List.take_sublist _ _)
      exact bind_plain (by rw [e2]; exact nd) (by rw [e2]; exact hl)
    refine ⟨_, fd, ⟨fun vs H Q E h => ?_, fun A outer s H args us vs Q E hr e0 hb' hv h => ?_⟩, hm, F.kp, hb⟩
    · obtain ⟨_, _, _, h, _⟩ := h; exact h
    · obtain ⟨_, _, _, _, _, _, h⟩ := h; exact h.elim
  | k + 1, f, g, hg => by
    have ih := fns_ok tab hini H k
    obtain ⟨d, fd, hc, F, hm⟩ := H f g hg
    obtain ⟨fa', fd', _, hm', hk', hb'⟩ := ih f g hg
    refine ⟨_, fd, fn_body hg hc tab hini F ih, hm, F.kp, ?_⟩
    obtain ⟨_, hc⟩ := and2 hc
    obtain ⟨h2, hc⟩ := and2 hc
    obtain ⟨h3, _⟩ := and2 hc
    obtain ⟨as, e1, e2⟩ := args_ok h2
    have S := C8.fnScope_by h3
    refine F.bindsN fun kV doc pm an cdv ct us hl => ?_
    rw [e1, ← e2]
    have nd : g.ps.Nodup := by rw [← S.pre]; exact S.nd.sublist (List.take_sublist _ _)
    exact bind_plain (by rw [e2]; exact nd) (by rw [e2]; exact hl)
end
end
end PI
end
section
set_option Elab.async false
set_option linter.all false
set_option maxRecDepth 100000
set_option maxHeartbeats 2000000
/-! PJd: looks at own error classes. -/
namespace PI
open PySem PySem.Spec PyProof.Rows L2
def oexB (K : PySem.W.Frag) (C : Addr) : Bool := (match K.lookup C with
  | some ⟨.type "type", _, .cls cd, sl⟩ => (match cd.mro, sl.toList with
    | .ref C' :: bm, [_, _, _, _, some (.builtin nw), _] => decide (C' = C) && (decide (nw = "ValueError.__new__") && (!cd.hasDel && (cd.hasDict && PySem.HandSPX.refsVE bm)))
    | _, _ => false)
  | _ => false) && (decide (PySem.W.findIn K (.ref C) "__setattr__" = some (some (.builtin "object.__setattr__"))) && (decide (PySem.W.subIn K (.ref C) (.type "BaseException") = some true) && (decide (PySem.W.typeIn K (.ref C) = some (.type "type")) && PySem.W.keepIn K (.ref C))))
theorem oexB_ok {K : PySem.W.Frag} {C : Addr} (h : oexB K C = true) : OexC K C ∧ ∃ cd, PySem.W.clsIn K C = some cd := by
  obtain ⟨h1, h⟩ := and2 h
  obtain ⟨h2, h⟩ := and2 h
  obtain ⟨h3, h⟩ := and2 h
  obtain ⟨h4, h5⟩ := and2 h
  split at h1
  · rename_i dd cd sl ho
    split at h1
    · rename_i C' bm k0 k1 k2 k3 nw k5 hm hs
      obtain ⟨q1, q⟩ := and2 h1
      obtain ⟨q2, q⟩ := and2 q
      obtain ⟨q3, q⟩ := and2 q
      obtain ⟨q4, q5⟩ := and2 q
      obtain rfl := of_decide_eq_true q1
      obtain rfl := of_decide_eq_true q2
      obtain ⟨nm, bs, mro, ns, qn, hd, sn, sub, ab, col, dl⟩ := cd
      have q3 : dl = false := by simpa using q3
      have q4 : hd = true := q4
      have hm : mro = .ref C' :: bm := hm
      subst q3 q4 hm
      have hsl : sl = #[k0, k1, k2, k3, some (.builtin "ValueError.__new__"), k5] := by
        rw [← Array.toArray_toList (xs := sl), hs]
      subst hsl
      exact ⟨⟨⟨nm, qn, ns, bs, bm, sn, sub, ab, col, dd, k0, k1, k2, k3, k5, ho, q5⟩, of_decide_eq_true h2, of_decide_eq_true h3, of_decide_eq_true h4, h5⟩, _, by unfold PySem.W.clsIn; rw [ho] <;> rfl⟩
    · exact absurd h1 Bool.false_ne_true
  · exact absurd h1 Bool.false_ne_true
def excB (K : PySem.W.Frag) (D : Addr) : Bool := decide (PySem.W.findIn K (.ref D) "__getattribute__" = some (some (.builtin "BaseException.__getattribute__"))) && (decide (PySem.W.findIn K (.ref D) "__getattr__" = some none) && (decide (PySem.W.subIn K (.ref D) (.type "BaseException") = some true) &&
  (PySem.W.hasDictIn K D && (decide (PySem.W.findIn K (.ref D) "__class__" = some (some (.builtin "object.__class__"))) && (decide (PySem.W.specialIn K (.builtin "object.__class__") "__get__" = some (some (.builtin "getset_descriptor.__get__"))) &&
  (decide (PySem.W.takesIn K (.builtin "object.__class__") = some true) && decide (PySem.W.mroIn K D (.type "object") = some true)))))))
theorem excB_ok {K : PySem.W.Frag} {D : Addr} (h : excB K D = true) : ExcC K D := by
  obtain ⟨h1, h⟩ := and2 h
  obtain ⟨h2, h⟩ := and2 h
  obtain ⟨h3, h⟩ := and2 h
  obtain ⟨h4, h⟩ := and2 h
  obtain ⟨h5, h⟩ := and2 h
  obtain ⟨h6, h⟩ := and2 h
  obtain ⟨h7, h8⟩ := and2 h
  exact ⟨of_decide_eq_true h1, of_decide_eq_true h2, of_decide_eq_true h3, h4, of_decide_eq_true h5, of_decide_eq_true h6, of_decide_eq_true h7, of_decide_eq_true h8⟩
/-- the argument's form: the value itself; "at " + str of it -/
def argF (f : Str) : Expr → Option Bool
  | .Name y _ => if y = f then some false else none
  | .BinOp (.Constant (.str x) _ _) .Add (.Call (.Name s _) [.Name y _] [] _) _ => if s = ("str" : Str) ∧ y = f ∧ x.length ≤ 100 ∧ f = ("at" : Str) then some true else none
  | _ => none
def scB (sc : Scope) (f : Str) (at_ : Bool) : Bool := decide (sc.kind = .function) && (!sc.isCoroutine && (!sc.isGenerator && (decide (sc.names.lookup ("self" : Str) = some .local) && (decide (sc.names.lookup f = some .local) && (decide (sc.names.lookup ("__class__" : Str) = some .free) &&
  (decide (sc.names.lookup ("super" : Str) = some .globalImplicit) && (sc.names.all (fun q => !decide (q.2 = .cell)) && (sc.names.all (fun q => !decide (q.2 = .free) || decide (q.1 = ("__class__" : Str))) && (!at_ || decide (sc.names.lookup ("str" : Str) = some .globalImplicit))))))))))
def bodyB (f : Str) (body : List Stmt) (at_ : Bool) : Bool := match body with
  | [.Expr (.Call (.Attribute (.Call (.Name s _) [] [] _) i p2) [e] [] p3) _, .Assign [.Attribute (.Name se _) g _] (.Name y _) _] =>
    decide (s = ("super" : Str)) && (decide (i = ("__init__" : Str)) && (decide (se = ("self" : Str)) && (decide (g = f) && (decide (y = f) && ((p2.endLine == p3.line) && decide (argF f e = some at_))))))
  | _ => false
theorem bodyB_ok {f : Str} {body : List Stmt} {at_ : Bool} (h : bodyB f body at_ = true) : ∃ e p, body = iniBody e f f p ∧ ((p 2).endLine == (p 3).line) = true ∧ argF f e = some at_ := by
  unfold bodyB at h
  split at h
  · rename_i s p0 p1 i p2 e p3 p4 se p5 g p6 y p7 p8
    obtain ⟨h1, h⟩ := and2 h
    obtain ⟨h2, h⟩ := and2 h
    obtain ⟨h3, h⟩ := and2 h
    obtain ⟨h4, h⟩ := and2 h
    obtain ⟨h5, h⟩ := and2 h
    obtain ⟨h6, h7⟩ := and2 h
    obtain rfl := of_decide_eq_true h1
    obtain rfl := of_decide_eq_true h2
    obtain rfl := of_decide_eq_true h3
    obtain rfl := of_decide_eq_true h4
    obtain rfl := of_decide_eq_true h5
    exact ⟨e, fun n => [p0, p1, p2, p3, p4, p5, p6, p7, p8].getD n p0, rfl, h6, of_decide_eq_true h7⟩
  · exact absurd h Bool.false_ne_true
def parB (ps : Arguments) (f : Str) : Bool := match ps with
  | ⟨[], [⟨a, none, _⟩, ⟨b, none, _⟩], none, [], [], none, []⟩ => decide (a = ("self" : Str)) && decide (b = f)
  | _ => false
def cdB (F : Str) (K : PySem.W.Frag) (cda : Addr) : Bool := match K.lookup cda with
  | some ⟨_, _, .fields vs, _⟩ => (match (vs[2]? : Option Value) with
    | some (Value.str file _) => F == file
    | _ => false)
  | _ => false
def ccB (K : PySem.W.Frag) (cc C : Addr) : Bool := match K.lookup cc with
  | some ⟨_, _, .cell (some (.ref D)), _⟩ => decide (D = C)
  | _ => false
def isAt (f : Str) : Bool := f == ("at" : Str)
def fdB (F : Str) (K : PySem.W.Frag) (C : Addr) (f : Str) (fI : Addr) : Bool := match K.lookup fI with
  | some ⟨_, _, .func ⟨nm, qual, params, .stmts body, sc, gl, [(cn, cc)], .none, _, _, _, _, .ref cda, _, bl⟩, _⟩ =>
    decide (nm = ("__init__" : Str)) && (decide (gl = mainGlobals) && (decide (bl = builtinsNs) && (decide (cn = ("__class__" : Str)) && (PySem.W.codeIn K (.ref cda) qual && (parB params f && (scB sc f (isAt f) && (bodyB f body (isAt f) && (cdB F K cda && ccB K cc C))))))))
  | _ => false
/-- what K must say of the class n, which keeps f -/
def iniK (F : Str) (K : PySem.W.Frag) (n f : Str) : Bool := oexB K (He.ga K n) && ((match PySem.W.findIn K (.ref (He.ga K n)) "__init__" with
  | some (some (.ref fI)) => decide (PySem.W.typeIn K (.ref fI) = some (.type "function")) && fdB F K (He.ga K n) f fI
  | _ => false) && (decide (PySem.W.mroIn K (He.ga K n) (.ref (He.ga K n)) = some true) && (decide (PySem.W.nsIn K mainGlobals "super" = some none) && (decide (PySem.W.nsIn K cStatics "thirdparty.any" = some none) &&
  (decide (PySem.W.ks_superIn K (He.ga K n) (He.ga K n) "__init__" = some (some (.builtin "ValueError.__init__"))) && (decide (PySem.W.subIn K (.ref (He.ga K n)) (.type "ValueError") = some true) && (decide (PySem.W.findIn K (.ref (He.ga K n)) f = some none) &&
  (!(f == ("self" : Str)) && (!(f == ("__debug__" : Str)) && !(f == ("__classdict__" : Str)))))))))))
section
variable {P : Program} {w : World} {K : PySem.W.Frag} {mg : Str → Option Value} {base : Heap}
theorem scB_ok {sc : Scope} {f : Str} {at_ : Bool} (h : scB sc f at_ = true) : sc.kind = .function ∧ sc.isCoroutine = false ∧ sc.isGenerator = false ∧ sc.names.lookup ("self" : Str) = some .local ∧ sc.names.lookup f = some .local ∧ sc.names.lookup ("__class__" : Str) = some .free ∧ sc.names.lookup ("super" : Str) = some .globalImplicit ∧
    (∀ q ∈ sc.names, q.2 ≠ .cell) ∧ (∀ q ∈ sc.names, q.2 = .free → q.1 = ("__class__" : Str)) ∧ (at_ = true → sc.names.lookup ("str" : Str) = some .globalImplicit) := by
  obtain ⟨h1, h⟩ := and2 h
  obtain ⟨h2, h⟩ := and2 h
  obtain ⟨h3, h⟩ := and2 h
  obtain ⟨h4, h⟩ := and2 h
  obtain ⟨h5, h⟩ := and2 h
  obtain ⟨h6, h⟩ := and2 h
  obtain ⟨h7, h⟩ := and2 h
  obtain ⟨h8, h⟩ := and2 h
  obtain ⟨h9, h⟩ := and2 h
  refine ⟨of_decide_eq_true h1, by simpa using h2, by simpa using h3, of_decide_eq_true h4, of_decide_eq_true h5, of_decide_eq_true h6, of_decide_eq_true h7, fun q hq => ?_, fun q hq z => ?_, fun z => ?_⟩
  · have := List.all_eq_true.mp h8 q hq
    simpa using this
  · have := List.all_eq_true.mp h9 q hq
    rw [z] at this
    simpa using this
  · rw [z] at h
    simpa using h
theorem parB_ok {ps : Arguments} {f : Str} (h : parB ps f = true) : ∃ p1 p2, ps = ⟨[], [⟨"self", none, p1⟩, ⟨f, none, p2⟩], none, [], [], none, []⟩ := by
  unfold parB at h
  split at h
  · rename_i a p1 b p2
    obtain ⟨h1, h2⟩ := and2 h
    obtain rfl := of_decide_eq_true h1
    obtain rfl := of_decide_eq_true h2
    exact ⟨p1, p2, rfl⟩
  · exact absurd h Bool.false_ne_true
theorem cdB_ok {F : Str} {cda : Addr} (h : cdB F K cda = true) : ∃ ccl cdd vs ccs file tf, K.lookup cda = some ⟨ccl, cdd, .fields vs, ccs⟩ ∧ vs[2]? = some (.str file tf) ∧ (F == file) = true := by
  unfold cdB at h
  split at h
  · rename_i a b vs c e
    split at h
    · rename_i file tf e2
      exact ⟨_, _, _, _, _, _, e, e2, h⟩
    · exact absurd h Bool.false_ne_true
  · exact absurd h Bool.false_ne_true
theorem ccB_ok {cc C : Addr} (h : ccB K cc C = true) : ∃ cl cld csl, K.lookup cc = some ⟨cl, cld, .cell (some (.ref C)), csl⟩ := by
  unfold ccB at h
  split at h
  · rename_i a b D c e
    obtain rfl := of_decide_eq_true h
    exact ⟨_, _, _, e⟩
  · exact absurd h Bool.false_ne_true
theorem fdB_ok {C fI : Addr} {f : Str} (h : fdB P.main.file K C f fI = true) : ∃ (e : Expr) (fd : FuncData), argF f e = some (isAt f) ∧ ∃ (qual : Str) (params : Arguments) (p : Nat → Pos) (scope : Scope) (kV doc pm ct oc : Value) (an od : Option Addr) (osl : Array (Option Value)) (cc cda : Addr),
    fd = PySem.W.ksFn "__init__" qual params (iniBody e f f p) scope .none kV doc pm an (.ref cda) ct cc ∧ K.lookup fI = some ⟨oc, od, .func fd, osl⟩ ∧ PySem.W.codeIn K (.ref cda) qual = true ∧
    (∃ p1 p2, params = ⟨[], [⟨"self", none, p1⟩, ⟨f, none, p2⟩], none, [], [], none, []⟩) ∧ scope.kind = .function ∧ scope.isCoroutine = false ∧ scope.isGenerator = false ∧
    scope.names.lookup ("self" : Str) = some .local ∧ scope.names.lookup f = some .local ∧ scope.names.lookup ("__class__" : Str) = some .free ∧ scope.names.lookup ("super" : Str) = some .globalImplicit ∧
    (∀ q ∈ scope.names, q.2 ≠ .cell) ∧ ((p 2).endLine == (p 3).line) = true ∧ (∀ q ∈ scope.names, q.2 = .free → q.1 = ("__class__" : Str)) ∧ (isAt f = true → scope.names.lookup ("str" : Str) = some .globalImplicit) ∧
    (∃ ccl cdd vs ccs file tf, K.lookup cda = some ⟨ccl, cdd, .fields vs, ccs⟩ ∧ vs[2]? = some (.str file tf) ∧ ((P.main.file : Str) == file) = true) ∧
    (∃ cl cld csl, K.lookup cc = some ⟨cl, cld, .cell (some (.ref C)), csl⟩) := by
  unfold fdB at h
  split at h
  · rename_i oc od nm qual params body sc gl cn cc kV doc pm an cda ct bl osl e
    obtain ⟨h1, h⟩ := and2 h
    obtain ⟨h2, h⟩ := and2 h
    obtain ⟨h3, h⟩ := and2 h
    obtain ⟨h4, h⟩ := and2 h
    obtain ⟨h5, h⟩ := and2 h
    obtain ⟨h6, h⟩ := and2 h
    obtain ⟨h7, h⟩ := and2 h
    obtain ⟨h8, h⟩ := and2 h
    obtain ⟨h9, h10⟩ := and2 h
    obtain rfl := of_decide_eq_true h1
    obtain rfl := of_decide_eq_true h2
    obtain rfl := of_decide_eq_true h3
    obtain rfl := of_decide_eq_true h4
    obtain ⟨ex, p, rfl, hl, ha⟩ := bodyB_ok h8
    obtain ⟨s1, s2, s3, s4, s5, s6, s7, s8, s9, s10⟩ := scB_ok h7
    exact ⟨ex, _, ha, qual, params, p, sc, kV, doc, pm, ct, oc, an, od, osl, cc, cda, rfl, e, h5, parB_ok h6, s1, s2, s3, s4, s5, s6, s7, s8, hl, s9, s10, cdB_ok h9, ccB_ok h10⟩
  · exact absurd h Bool.false_ne_true
theorem ini_of {n f : Str} (kin : K.In base) (hm : mg "str" = none) (top : (P.main.scope.names.lookup ("super" : Str)).isSome = false) (h : iniK P.main.file K n f = true) : IniP P w K mg base n f := by
  obtain ⟨h1, h⟩ := and2 h
  obtain ⟨h2, h⟩ := and2 h
  obtain ⟨h3, h⟩ := and2 h
  obtain ⟨h4, h⟩ := and2 h
  obtain ⟨h5, h⟩ := and2 h
  obtain ⟨h6, h⟩ := and2 h
  obtain ⟨h7, h⟩ := and2 h
  obtain ⟨h8, h⟩ := and2 h
  obtain ⟨h9, h⟩ := and2 h
  obtain ⟨h10, h11⟩ := and2 h
  obtain ⟨ox, hcl⟩ := oexB_ok h1
  split at h2
  · rename_i fI hf
    obtain ⟨h12, h13⟩ := and2 h2
    obtain ⟨e, fd, ha, hfn⟩ := fdB_ok (P := P) h13
    have nd : (f == ("__debug__" : Str)) = false ∧ (f == ("__classdict__" : Str)) = false := ⟨by simpa using h10, by simpa using h11⟩
    have ns : (f == ("self" : Str)) = false := by simpa using h9
    have J : IniC P K (He.ga K n) (isAt f) e f f fI fd := ⟨ox, hf, of_decide_eq_true h12, hfn, hcl, of_decide_eq_true h3, of_decide_eq_true h4, of_decide_eq_true h5, of_decide_eq_true h6, of_decide_eq_true h7, of_decide_eq_true h8, top, ns, nd⟩
    obtain ⟨hA, hS⟩ : ArgOk P w K mg base f (isAt f) e (iniB f) ∧ CallShape e := by
      unfold argF at ha
      split at ha
      · split at ha
        · rename_i y p hy
          obtain rfl := hy
          cases z : isAt y with
          | true => rw [z] at ha; cases ha
          | false => exact ⟨arg_name nd, shape_name⟩
        · cases ha
      · split at ha
        · rename_i hh
          obtain ⟨rfl, rfl, hx, rfl⟩ := hh
          exact ⟨arg_at nd hx hm fun v hv => hv rfl, shape_at⟩
        · cases ha
      · cases ha
    refine ⟨fI, fd, ox, hf, of_decide_eq_true h12, ini_ok J hA hS, ?_⟩
    obtain ⟨qual, params, p, scope, kV, doc, pm, ct, oc, an, od, osl, cc, cda, rfl, _, _, ⟨p1, p2, rfl⟩, _⟩ := hfn
    refine .all fun us hl => ?_
    have b := bind_plain (as := [⟨"self", none, p1⟩, ⟨f, none, p2⟩]) (x := "__init__") (qual := qual) (body := iniBody e f f p) (scope := scope) (kV := kV) (doc := doc) (pm := pm) (cdv := .ref cda) (ct := ct) (an := an) (us := us)
      (by
        have hne : ¬ (("self" : Str) = f) := fun z => by
          have q := ns
          rw [← z] at q
          simp at q
        simp [hne]) hl
    unfold bindArgs at b ⊢
    exact b
  · exact absurd h2 Bool.false_ne_true
end
end PI
end
section
set_option Elab.async false
set_option linter.all false
set_option maxRecDepth 100000
/-! PIy: a law's end: the table's facts read by the head's Hook. -/
namespace PI
open PySem PySem.Spec PyProof.Rows L2

/-! ### constants of the module -/
mutual
def depB (K : PySem.W.Frag) : Da → Value → Bool
  | .none, .none => true
  | .bool a, .bool b => a == b
  | .int i, .int j _ => decide (i = j)
  | .str x, .str y _ => decide (x = y)
  | .tuple ds, .ref a => match K.lookup a with
    | some ⟨.type c, _, .seq its _, _⟩ => decide (c = "tuple") && (decide (its.size ≤ sizeLine) && depsB K ds its.toList)
    | _ => false
  | _, _ => false
def depsB (K : PySem.W.Frag) : List Da → List Value → Bool
  | [], [] => true
  | d :: ds, u :: us => depB K d u && depsB K ds us
  | _, _ => false
end
mutual
theorem depB_ok {K : PySem.W.Frag} : ∀ (d : Da) {u : Value}, depB K d u = true → ∃ v, RelV v u ∧ ∀ G, Rep K G d v
  | .none, u, h => by
    cases u <;> first | exact ⟨.non, rfl, fun G => by simp only [Rep]⟩ | simp [depB] at h
  | .bool a, u, h => by
    cases u with
    | bool b =>
      have e : a = b := by simpa [depB] using h
      subst e
      exact ⟨.bl a, rfl, fun G => by simp only [Rep]⟩
    | _ => simp [depB] at h
  | .int i, u, h => by
    cases u with
    | int j t =>
      have e : i = j := by simpa [depB] using h
      subst e
      exact ⟨.int i, ⟨t, rfl⟩, fun G => by simp only [Rep]⟩
    | _ => simp [depB] at h
  | .str x, u, h => by
    cases u with
    | str y t =>
      have e : x = y := by simpa [depB] using h
      subst e
      exact ⟨.str x, ⟨t, rfl⟩, fun G => by simp only [Rep]⟩
    | _ => simp [depB] at h
  | .tuple ds, u, h => by
    cases u with
    | ref a =>
      simp only [depB] at h
      split at h
      · rename_i c od its n osl hl
        obtain ⟨h1, h⟩ := and2 h
        obtain ⟨h2, h3⟩ := and2 h
        have h1 := of_decide_eq_true h1
        obtain ⟨vs, r, rp⟩ := depsB_ok ds h3
        refine ⟨.ref a, rfl, fun G => ?_⟩
        simp only [Rep]
        exact ⟨a, vs, rfl, .inr ⟨_, its, n, hl, by rw [h1], rfl, of_decide_eq_true h2, r⟩, rp G⟩
      · cases h
    | _ => simp [depB] at h
  | .list ds, u, h => by cases u <;> simp [depB] at h
  | .dict ds, u, h => by cases u <;> simp [depB] at h
theorem depsB_ok {K : PySem.W.Frag} : ∀ (ds : List Da) {us : List Value}, depsB K ds us = true → ∃ vs, Vals vs us ∧ ∀ G, RepL K G ds vs
  | [], us, h => by
    cases us with
    | nil => exact ⟨[], .nil, fun G => RepL.nil⟩
    | cons _ _ => simp [depsB] at h
  | d :: ds, us, h => by
    cases us with
    | nil => simp [depsB] at h
    | cons u us =>
      simp only [depsB] at h
      obtain ⟨h1, h2⟩ := and2 h
      obtain ⟨v, r1, p1⟩ := depB_ok d h1
      obtain ⟨vs, r2, p2⟩ := depsB_ok ds h2
      exact ⟨v :: vs, .cons r1 r2, fun G => RepL.cons (p1 G) (p2 G)⟩
end
/-! ### the facts -/
def conB (K : PySem.W.Frag) (p : Str × Da) : Bool := match PySem.W.nsIn K mainGlobals p.1 with
  | some (some u) => depB K p.2 u
  | _ => false
def clsB (K : PySem.W.Frag) (p : Str × Option Str) : Bool := (He.Fa.glo p.1).ok K && (PySem.W.keepIn K (.ref (He.ga K p.1)) && (decide (PySem.W.subIn K (.ref (He.ga K p.1)) (.type "BaseException") = some true) && (decide (PySem.W.typeIn K (.ref (He.ga K p.1)) = some (.type "type")) &&
  (p.2.isSome || PySem.W.excIn K (He.ga K p.1) He.veBase "ValueError.__new__"))))
def subB (T : Tab) (K : PySem.W.Frag) : Bool := (List.range T.cls.length).all fun c => (List.range T.cls.length).all fun j => match T.cls[c]?, T.cls[j]? with
  | some (n, _), some (m, _) => decide (PySem.W.exmOne K (.ref (He.ga K n)) (.ref (He.ga K m)) = some (matches_ T c j))
  | _, _ => false
def kitB (T : Tab) (K : PySem.W.Frag) : Bool := (List.range T.cls.length).all fun c => (List.range T.cls.length).all fun j => match T.cls[c]?, T.cls[j]? with
  | some (n, _), some (m, _) => decide (PySem.W.kitOne K (.ref (He.ga K n)) (.ref (He.ga K m)) = some (matches_ T c j))
  | _, _ => false
/-- own error classes that keep a value -/
def attB (F : Str) (K : PySem.W.Frag) (p : Str × Option Str) : Bool := excB K (He.ga K p.1) && (match p.2 with
  | some f => xfB K (He.ga K p.1) && (decide (PySem.W.findIn K (.ref (He.ga K p.1)) f = some none) && iniK F K p.1 f)
  | none => true)
def tabB0 (T : Tab) (K : PySem.W.Frag) : Bool := T.cons.all (conB K) && (bltNames.all (fun p => (He.Fa.free p.1).ok K) && (T.cls.all (clsB K) && (subB T K && T.fns.all fun g => (He.Fa.glo g.name).ok K)))
def tabB (F : Str) (T : Tab) (K : PySem.W.Frag) : Bool := (kitB T K && T.cls.all (attB F K)) && tabB0 T K
theorem tab_ok {T : Tab} {K : PySem.W.Frag} {h : Heap} {mg : Str → Option Value} {F : Str} (X : K.In h) (G : h.Ns mainGlobals mg) (hb : tabB F T K = true) : TabOk T K mg ∧ ∀ g ∈ T.fns, mg g.name = some (.ref (He.ga K g.name)) := by
  obtain ⟨h0, hb⟩ := and2 hb
  obtain ⟨hk, ha⟩ := and2 h0
  obtain ⟨h1, hb⟩ := and2 hb
  obtain ⟨h2, hb⟩ := and2 hb
  obtain ⟨h3, hb⟩ := and2 hb
  obtain ⟨h4, h5⟩ := and2 hb
  have att : ∀ (c : Nat) n o, T.cls[c]? = some (n, o) → excB K (He.ga K n) = true ∧ (match o with
    | some f => xfB K (He.ga K n) && (decide (PySem.W.findIn K (.ref (He.ga K n)) f = some none) && iniK F K n f)
    | none => true) = true := fun c n o e => and2 (show attB F K (n, o) = true from List.all_eq_true.mp ha _ (List.mem_of_getElem? e))
  refine ⟨⟨fun c n d e => ?_, fun p hp => He.free_ok X G (List.all_eq_true.mp h2 p hp), fun c n o e => ?_, fun c j n m o p e1 e2 => ?_, fun c n f e => ?_, fun c n o e => excB_ok (att c n o e).1, fun c j n m o p e1 e2 => ?_⟩, fun g hg => He.glo_ok X G (List.all_eq_true.mp h5 g hg)⟩
  · have := List.all_eq_true.mp h1 _ (List.mem_of_getElem? e)
    unfold conB at this
    simp only at this
    split at this
    · rename_i u hu
      obtain ⟨v, r, p⟩ := depB_ok d this
      exact ⟨u, v, PySem.W.mg_of X G hu, r, p⟩
    · cases this
  · have := List.all_eq_true.mp h3 _ (List.mem_of_getElem? e)
    obtain ⟨c1, this⟩ := and2 (show ((He.Fa.glo n).ok K && (PySem.W.keepIn K (.ref (He.ga K n)) && (decide (PySem.W.subIn K (.ref (He.ga K n)) (.type "BaseException") = some true) && (decide (PySem.W.typeIn K (.ref (He.ga K n)) = some (.type "type")) &&
      (o.isSome || PySem.W.excIn K (He.ga K n) He.veBase "ValueError.__new__"))))) = true from this)
    obtain ⟨c2, this⟩ := and2 this
    obtain ⟨c3, this⟩ := and2 this
    obtain ⟨c4, c5⟩ := and2 this
    refine ⟨He.glo_ok X G c1, c2, of_decide_eq_true c3, of_decide_eq_true c4, fun ho => ?_⟩
    subst ho
    have c6 : PySem.W.excIn K (He.ga K n) He.veBase "ValueError.__new__" = true := by simpa using c5
    exact c6
  · have q1 := List.all_eq_true.mp h4 c (List.mem_range.mpr (List.getElem?_eq_some_iff.mp e1).1)
    have q2 := List.all_eq_true.mp q1 j (List.mem_range.mpr (List.getElem?_eq_some_iff.mp e2).1)
    rw [e1, e2] at q2
    exact of_decide_eq_true q2
  · obtain ⟨a1, a2⟩ := and2 (att c n _ e).2
    exact ⟨xfB_ok a1, of_decide_eq_true (and2 a2).1⟩
  · have q1 := List.all_eq_true.mp hk c (List.mem_range.mpr (List.getElem?_eq_some_iff.mp e1).1)
    have q2 := List.all_eq_true.mp q1 j (List.mem_range.mpr (List.getElem?_eq_some_iff.mp e2).1)
    rw [e1, e2] at q2
    exact of_decide_eq_true q2
theorem ini_all {T : Tab} {P : Program} {w : World} {K : PySem.W.Frag} {mg : Str → Option Value} {base : Heap} {F : Str} (hF : P.main.file = F) (top : (P.main.scope.names.lookup ("super" : Str)).isSome = false) (kin : K.In base) (hm : mg "str" = none) (hb : tabB F T K = true) :
    ∀ (c : Nat) n f, T.cls[c]? = some (n, some f) → IniP P w K mg base n f := fun c n f e => by
  obtain ⟨h0, _⟩ := and2 hb
  obtain ⟨_, ha⟩ := and2 h0
  obtain ⟨_, a2⟩ := and2 (show attB F K (n, some f) = true from List.all_eq_true.mp ha _ (List.mem_of_getElem? e))
  obtain ⟨_, a2⟩ := and2 (show (xfB K (He.ga K n) && (decide (PySem.W.findIn K (.ref (He.ga K n)) f = some none) && iniK F K n f)) = true from a2)
  obtain ⟨_, a2⟩ := and2 a2
  subst hF
  exact ini_of kin hm top a2
/-- each def of the table against its text -/
def tblB (T : Tab) : List Fn → List He.DefD → Bool
  | [], [] => true
  | g :: gs, d :: ds => fnOkB T g d && tblB T gs ds
  | _, _ => false
theorem tbl_at {T : Tab} : ∀ {gs : List Fn} {ds : List He.DefD} {f : Nat} {g : Fn}, tblB T gs ds = true → gs[f]? = some g → ∃ d, ds[f]? = some d ∧ fnOkB T g d = true
  | [], _, f, g, _, e => by simp at e
  | _ :: _, [], _, _, h, _ => by simp [tblB] at h
  | g0 :: gs, d0 :: ds, 0, g, h, e => by
    obtain ⟨h1, _⟩ := and2 (show (fnOkB T g0 d0 && tblB T gs ds) = true from h)
    simp only [List.getElem?_cons_zero, Option.some.injEq] at e
    subst e
    exact ⟨d0, rfl, h1⟩
  | g0 :: gs, d0 :: ds, f + 1, g, h, e => by
    obtain ⟨_, h2⟩ := and2 (show (fnOkB T g0 d0 && tblB T gs ds) = true from h)
    obtain ⟨d, q1, q2⟩ := tbl_at (f := f) h2 (by simpa using e)
    exact ⟨d, by simpa using q1, q2⟩
/-! ### the look at the heap: what the names reach, and the statics -/
def asY (g : Addr → Option Obj) (n : Nat) : List Addr := He.asD g n ++ [cStatics]
def obsY (n : Nat) (fn : List He.DefD) (ex : PySem.W.Frag → Bool) (g : Addr → Option Obj) : He.AlD × Bool := (He.obsD [] fn (He.frT g (asY g n)), ex (He.frT g (asY g n)))
def hookY (n : Nat) (fn : List He.DefD) (ex : PySem.W.Frag → Bool) : PySem.W.Hook where
  α := He.AlD × Bool
  obs := fun s => obsY n fn ex s.heap.get?
  val := fun _ => (He.valD fn, true)
  says := fun _ h => ∃ K : PySem.W.Frag, K.In h ∧ (He.SaysD [] fn K ∧ ex K = true)
  of := fun _ _ e => ⟨_, He.frT_in, congrArg (fun z : He.AlD × Bool => z.1) e, congrArg (fun z : He.AlD × Bool => z.2) e⟩
  keeps := fun _ _ _ ⟨K, hK, c⟩ k => ⟨K, PySem.W.Frag.In.keeps hK k, c⟩
theorem obsY_eq {n : Nat} {fn : List He.DefD} {ex : PySem.W.Frag → Bool} {g : Addr → Option Obj} {s : Shared} (h : ∀ a, g a = s.heap.get? a) : obsY n fn ex g = (hookY n fn ex).obs s := by
  rw [show g = s.heap.get? from funext h]
  rfl
/-- a def that lets nothing out -/
theorem to0 {P : Program} {w : World} {K : PySem.W.Frag} {mg : Str → Option Value} {base : Heap} {k : Nat} {f : Addr} {fd : FuncData} {ps : List Str} {sp : Sp} (F : FnOk P w K mg base (L2.CX P w) k f fd ps sp) :
    FnOk P w K mg base CX0 k f fd ps (fun vs H Q E => sp vs H Q E0) :=
  ⟨fun vs H Q E h => F.len vs H Q E0 h, fun A outer s H args us vs Q E hr e0 hb hv h => codeAny_mono (F.run A outer s H args us vs Q E0 hr e0 hb hv h) fun r s' hh => by
    cases r with
    | ok fl => cases fl <;> exact hh
    | error e =>
      obtain ⟨_, _, _, _, _, _, _, _, _, _, _, _, z⟩ := (show L2.CX P w outer H s E0 e s' from hh)
      exact z.elim⟩
/-- a law: its def answers True for every script -/
theorem law_F {F : Str} {T : Tab} {fn : List He.DefD} {k f n : Nat} {g : Fn} {x : Str} {P : Program} {w : World} {mg : Str → Option Value} {fa : Addr} {h : Heap} (hg : T.fns[f]? = some g) (hps : g.ps = [x]) (hF : P.main.file = F) (top : (P.main.scope.names.lookup ("super" : Str)).isSome = false) (htb : tblB T T.fns fn = true)
    (hrun : ∀ ns : List Int, ns.length ≤ n → ∃ outs, callF T k f [.scr ns] = .ok (.bool true, outs)) (Y : ∃ K : PySem.W.Frag, K.In h ∧ (He.SaysD [] fn K ∧ tabB F T K = true)) (G : h.Ns mainGlobals mg) (hfa : mg g.name = some (.ref fa)) :
    ∃ (K : PySem.W.Frag) (fd : FuncData) (sp : Sp), K.In h ∧ (∀ (s : Shared) (u : Value), BindsTo s fd ⟨[u], []⟩ [(x, u)]) ∧
      (∀ (H : Hp) (a : Addr) (ns : List Int), ns.length ≤ n → Only H → SqL K H a (ns.map V.int) → sp [.ref a] H (fun v _ => v = .bl true) fun _ _ _ => False) ∧
      ∀ base : Heap, K.In base → base.Ns mainGlobals mg → FnOk P w K mg base CX0 (k + 3) fa fd [x] sp := by
  obtain ⟨K, KX, D, cm⟩ := Y
  obtain ⟨tab, glo⟩ := tab_ok KX G cm
  have H : ∀ (f : Nat) g, T.fns[f]? = some g → ∃ d fd, fnOkB T g d = true ∧ FunD K d.name d.qual d.params d.body d.scope [] [] (He.ga K g.name) fd ∧ mg g.name = some (.ref (He.ga K g.name)) := fun f g hg => by
    obtain ⟨d, hd, hc⟩ := tbl_at htb hg
    obtain ⟨fd, F⟩ := D.def_ f hd
    obtain ⟨a1, hc'⟩ := and2 hc
    obtain ⟨_, hc'⟩ := and2 hc'
    obtain ⟨_, hc'⟩ := and2 hc'
    obtain ⟨_, hc'⟩ := and2 hc'
    obtain ⟨a2, a3⟩ := and2 hc'
    have a1 : d.at_ = (g.name, none) := of_decide_eq_true a1
    have e1 : d.dvs K = [] := by unfold He.DefD.dvs; rw [List.isEmpty_iff.mp a2]; rfl
    have e2 : d.kws K = [] := by unfold He.DefD.kws; rw [List.isEmpty_iff.mp a3]; rfl
    have e3 : He.fAd K d.at_ = He.ga K g.name := by rw [a1]; rfl
    rw [e1, e2, e3] at F
    exact ⟨d, fd, hc, F, glo g (List.mem_of_getElem? hg)⟩
  obtain ⟨d, fd, hc, F, hm⟩ := H f g hg
  have hfa' : fa = He.ga K g.name := by
    have := hfa.symm.trans hm
    cases this
    rfl
  subst hfa'
  have hb : ∀ (s : Shared) (u : Value), BindsTo s fd ⟨[u], []⟩ [(x, u)] := fun s u => by
    obtain ⟨_, hc⟩ := and2 hc
    obtain ⟨h2, hc⟩ := and2 hc
    obtain ⟨as, e1, e2⟩ := args_ok h2
    refine FunD.bindsA (ps := [x]) F (fun kV doc pm an cdv ct us hl => ?_) s [u] rfl
    rw [e1, ← hps, ← e2]
    refine bind_plain ?_ ?_
    · rw [e2, hps]; simp
    · rw [e2, hps]; exact hl
  refine ⟨K, fd, fun vs H Q E => spF T k f g K vs H Q E0, KX, hb, fun H a ns hl _ hS => ?_, fun base kb gb => ?_⟩
  · obtain ⟨outs, ho⟩ := hrun ns hl
    refine ⟨[.scr ns], H, fun _ => none, by rw [hps]; rfl, ⟨Same.refl _, (fun b o e => by cases e), (fun b hb => absurd rfl hb), rfl, fun i d e => ?_, fun i m d e => ?_, fun i ns' e => ?_, fun i j m n d e a' q1 q2 => ?_⟩, fun s hs m d e => ?_, ?_⟩
    · cases i with
      | zero => simp at e
      | succ i => simp at e
    · cases i with
      | zero => simp at e
      | succ i => simp at e
    · cases i with
      | zero =>
        simp only [List.getElem?_cons_zero, Option.some.injEq, Sl.scr.injEq] at e
        subst e
        exact ⟨a, rfl, hS⟩
      | succ i => simp at e
    · cases i with
      | zero => simp at q1
      | succ i => simp at q1
    · rcases List.mem_singleton.mp hs with rfl
      cases e
    · rw [ho]
      intro v H' G' _ _ hv
      have hv : Rep K G' (.bool true) v := by
        split at hv <;> exact hv
      simpa only [Rep] using hv
  · cases k with
    | zero =>
      obtain ⟨outs, ho⟩ := hrun [] (Nat.zero_le _)
      cases ho
    | succ k =>
      rw [← hps]
      have hini := ini_all (T := T) (P := P) (w := w) (K := K) (mg := mg) (base := base) hF top kb (tab.blt ("str", .type "str") (by decide +kernel)) cm
      exact to0 (fn_body hg hc tab hini F (fns_ok tab hini H k))
end PI
end
section
set_option Elab.async false
set_option linter.all false
set_option maxRecDepth 100000
set_option maxHeartbeats 0
namespace K20
open PySem PI
abbrev n_is_whole : Nat := 0
abbrev n_node_count : Nat := 1
abbrev n_is_key : Nat := 2
abbrev n_is_tree : Nat := 3
abbrev n_check_tree : Nat := 4
abbrev n_size_of : Nat := 5
abbrev n_kid : Nat := 6
abbrev n_tree_at : Nat := 7
abbrev n_is_way : Nat := 8
abbrev n_is_node : Nat := 9
abbrev n_ways_of : Nat := 10
abbrev n_level_ways : Nat := 11
abbrev n_with_part : Nat := 12
abbrev n_is_turn : Nat := 13
abbrev n_turned_part : Nat := 14
abbrev n_turned : Nat := 15
abbrev n_check_turn : Nat := 16
abbrev n_turn : Nat := 17
abbrev n_way_back : Nat := 18
abbrev n_undoing : Nat := 19
abbrev n_turns_of : Nat := 20
abbrev n_turns : Nat := 21
abbrev n_follow : Nat := 22
abbrev n_stations : Nat := 23
abbrev n_takes_row : Nat := 24
abbrev n_right_row : Nat := 25
abbrev n_row_to_right : Nat := 26
abbrev n_spine_of : Nat := 27
abbrev n_turns_to_right : Nat := 28
abbrev n__law_draw : Nat := 29
abbrev n__law_take : Nat := 30
abbrev n__law_shape : Nat := 31
abbrev n__law_keyed : Nat := 32
abbrev n__law_tree : Nat := 33
abbrev n__law_keys : Nat := 34
abbrev n__law_ways : Nat := 35
abbrev n__law_at : Nat := 36
abbrev n__law_put : Nat := 37
abbrev n__law_turn : Nat := 38
abbrev n__law_size : Nat := 39
abbrev n__law_not_tree : Nat := 40
abbrev n__law_call : Nat := 41
abbrev n__law_word : Nat := 42
abbrev n__law_spine : Nat := 43
abbrev n__law_follow : Nat := 44
abbrev n_law : Nat := 45
abbrev c_MOST_NODES : Nat := 0
abbrev c_MOST_KEY : Nat := 1
abbrev c_SIDES : Nat := 2
abbrev c_MOST_TURNS : Nat := 3
abbrev s_is_whole_0 : S := .ret (.and (.isi (.var 0) .int) (.nt (.isi (.var 0) .bool)))
def F_is_whole : Fn := ⟨"is_whole", ["value"], ["value"], .seq s_is_whole_0 .skip, false⟩
abbrev s_node_count_0 : S := .par [(1, false), (2, true)] (.cons (.kc (.int 0)) (.cons (.lst (.cons (.var 0) .nil)) .nil))
abbrev s_node_count_2 : S := .asg 3 (.mm .pop 2 .nil)
abbrev s_node_count_5 : S := .ret (.neg (.kc (.int 1)))
abbrev s_node_count_4 : S := .ite (.or (.nt (.isi (.var 3) .tuple)) (.or (.cmp .ne (.b1 .len (.var 3)) (.kc (.int 3))) (.or (.nt (.call n_is_key (.cons (.idx (.var 3) (.kc (.int 1))) .nil))) (.cmp .eq (.var 1) (.gl c_MOST_NODES))))) (.seq s_node_count_5 .skip) .skip
abbrev s_node_count_6 : S := .aug 1 .add (.kc (.int 1))
abbrev s_node_count_7 : S := .expr (.mm .extend 2 (.lst (.cons (.idx (.var 3) (.kc (.int 0))) (.cons (.idx (.var 3) (.kc (.int 2))) .nil))))
abbrev s_node_count_3 : S := .ite (.isC true (.var 3) (.none)) (.seq s_node_count_4 (.seq s_node_count_6 (.seq s_node_count_7 .skip))) .skip
abbrev b_node_count_0 : S := .seq s_node_count_2 (.seq s_node_count_3 .skip)
abbrev s_node_count_1 : S := .whl (.cmp .gt (.b1 .len (.bor 2)) (.kc (.int 0))) b_node_count_0
abbrev s_node_count_8 : S := .ret (.var 1)
def F_node_count : Fn := ⟨"node_count", ["value"], ["value", "count", "waiting", "node"], .seq s_node_count_0 (.seq s_node_count_1 (.seq s_node_count_8 .skip)), false⟩
abbrev s_is_key_0 : S := .ret (.and (.call n_is_whole (.cons (.var 0) .nil)) (.chain .le .le (.kc (.int 0)) (.var 0) (.gl c_MOST_KEY)))
def F_is_key : Fn := ⟨"is_key", ["value"], ["value"], .seq s_is_key_0 .skip, false⟩
abbrev s_is_tree_0 : S := .ret (.cmp .ge (.call n_node_count (.cons (.var 0) .nil)) (.kc (.int 0)))
def F_is_tree : Fn := ⟨"is_tree", ["value"], ["value"], .seq s_is_tree_0 .skip, true⟩
abbrev s_check_tree_1 : S := .raise 1 (.kc (.none))
abbrev s_check_tree_0 : S := .ite (.nt (.call n_is_tree (.cons (.var 0) .nil))) (.seq s_check_tree_1 .skip) .skip
def F_check_tree : Fn := ⟨"check_tree", ["value"], ["value"], .seq s_check_tree_0 .skip, true⟩
abbrev s_size_of_0 : S := .ret (.ite (.isC false (.var 0) (.none)) (.kc (.int 0)) (.bin .add (.bin .add (.call n_size_of (.cons (.idx (.var 0) (.kc (.int 0))) .nil)) (.kc (.int 1))) (.call n_size_of (.cons (.idx (.var 0) (.kc (.int 2))) .nil))))
def F_size_of : Fn := ⟨"size_of", ["tree"], ["tree"], .seq s_size_of_0 .skip, true⟩
abbrev s_kid_0 : S := .ret (.ite (.cmp .eq (.var 1) (.kc (.str "l"))) (.idx (.var 0) (.kc (.int 0))) (.idx (.var 0) (.kc (.int 2))))
def F_kid : Fn := ⟨"kid", ["tree", "side"], ["tree", "side"], .seq s_kid_0 .skip, false⟩
abbrev s_tree_at_2 : S := .ret (.kc (.none))
abbrev s_tree_at_1 : S := .ite (.isC false (.var 0) (.none)) (.seq s_tree_at_2 .skip) .skip
abbrev s_tree_at_3 : S := .asg 0 (.call n_kid (.cons (.var 0) (.cons (.var 2) .nil)))
abbrev b_tree_at_0 : S := .seq s_tree_at_1 (.seq s_tree_at_3 .skip)
abbrev s_tree_at_0 : S := .for (.nm 2) (.var 1) b_tree_at_0
abbrev s_tree_at_4 : S := .ret (.var 0)
def F_tree_at : Fn := ⟨"tree_at", ["tree", "way"], ["tree", "way", "side"], .seq s_tree_at_0 (.seq s_tree_at_4 .skip), false⟩
abbrev le_is_way_0 : E := .cmp .isin (.var 1) (.gl c_SIDES)
abbrev l_is_way_0 : E := .lc [1] (.nm 1) (.var 0) .nil le_is_way_0
abbrev s_is_way_0 : S := .ret (.and (.isi (.var 0) .str) (.b1 .all l_is_way_0))
def F_is_way : Fn := ⟨"is_way", ["value"], ["value", "sign"], .seq s_is_way_0 .skip, false⟩
abbrev s_is_node_0 : S := .ret (.and (.call n_is_way (.cons (.var 1) .nil)) (.isC true (.call n_tree_at (.cons (.var 0) (.cons (.var 1) .nil))) (.none)))
def F_is_node : Fn := ⟨"is_node", ["tree", "value"], ["tree", "value"], .seq s_is_node_0 .skip, false⟩
abbrev s_ways_of_1 : S := .ret (.lst .nil)
abbrev s_ways_of_0 : S := .ite (.isC false (.var 0) (.none)) (.seq s_ways_of_1 .skip) .skip
abbrev le_ways_of_0 : E := .bin .add (.kc (.str "l")) (.var 2)
abbrev l_ways_of_0 : E := .lc [2] (.nm 2) (.call n_ways_of (.cons (.idx (.var 0) (.kc (.int 0))) .nil)) .nil le_ways_of_0
abbrev s_ways_of_2 : S := .asg 1 l_ways_of_0
abbrev le_ways_of_1 : E := .bin .add (.kc (.str "r")) (.var 2)
abbrev l_ways_of_1 : E := .lc [2] (.nm 2) (.call n_ways_of (.cons (.idx (.var 0) (.kc (.int 2))) .nil)) .nil le_ways_of_1
abbrev s_ways_of_3 : S := .ret (.bin .add (.bin .add (.var 1) (.lst (.cons (.kc (.str "")) .nil))) l_ways_of_1)
def F_ways_of : Fn := ⟨"ways_of", ["tree"], ["tree", "left", "way"], .seq s_ways_of_0 (.seq s_ways_of_2 (.seq s_ways_of_3 .skip)), true⟩
abbrev le_level_ways_0 : E := .tup (.cons (.b1 .len (.var 2)) (.cons (.var 2) .nil))
abbrev l_level_ways_0 : E := .lc [2] (.nm 2) (.call n_ways_of (.cons (.var 0) .nil)) .nil le_level_ways_0
abbrev s_level_ways_0 : S := .asg 1 l_level_ways_0
abbrev le_level_ways_1 : E := .var 2
abbrev l_level_ways_1 : E := .lc [3, 2] (.tup (.cons (.nm 3) (.cons (.nm 2) .nil))) (.b1 .sorted (.var 1)) .nil le_level_ways_1
abbrev s_level_ways_1 : S := .ret l_level_ways_1
def F_level_ways : Fn := ⟨"level_ways", ["tree"], ["tree", "rows", "way", "depth"], .seq s_level_ways_0 (.seq s_level_ways_1 .skip), true⟩
abbrev s_with_part_1 : S := .ret (.var 2)
abbrev s_with_part_0 : S := .ite (.cmp .eq (.var 1) (.kc (.str ""))) (.seq s_with_part_1 .skip) .skip
abbrev s_with_part_3 : S := .ret (.tup (.cons (.call n_with_part (.cons (.idx (.var 0) (.kc (.int 0))) (.cons (.sl (.var 1) (.kc (.int 1)) .nil) (.cons (.var 2) .nil)))) (.cons (.idx (.var 0) (.kc (.int 1))) (.cons (.idx (.var 0) (.kc (.int 2))) .nil))))
abbrev s_with_part_2 : S := .ite (.cmp .eq (.idx (.var 1) (.kc (.int 0))) (.kc (.str "l"))) (.seq s_with_part_3 .skip) .skip
abbrev s_with_part_4 : S := .ret (.tup (.cons (.idx (.var 0) (.kc (.int 0))) (.cons (.idx (.var 0) (.kc (.int 1))) (.cons (.call n_with_part (.cons (.idx (.var 0) (.kc (.int 2))) (.cons (.sl (.var 1) (.kc (.int 1)) .nil) (.cons (.var 2) .nil)))) .nil))))
def F_with_part : Fn := ⟨"with_part", ["tree", "way", "other"], ["tree", "way", "other"], .seq s_with_part_0 (.seq s_with_part_2 (.seq s_with_part_4 .skip)), false⟩
abbrev s_is_turn_0 : S := .ret (.and (.call n_is_node (.cons (.var 0) (.cons (.var 1) .nil))) (.cmp .ne (.var 1) (.kc (.str ""))))
def F_is_turn : Fn := ⟨"is_turn", ["tree", "value"], ["tree", "value"], .seq s_is_turn_0 .skip, false⟩
abbrev s_turned_part_0 : S := .unp (.tup (.cons (.nm 2) (.cons (.nm 3) (.cons (.nm 4) .nil)))) (.var 0)
abbrev s_turned_part_2 : S := .ret (.tup (.cons (.idx (.var 2) (.kc (.int 0))) (.cons (.idx (.var 2) (.kc (.int 1))) (.cons (.tup (.cons (.idx (.var 2) (.kc (.int 2))) (.cons (.var 3) (.cons (.var 4) .nil)))) .nil))))
abbrev s_turned_part_1 : S := .ite (.cmp .eq (.var 1) (.kc (.str "l"))) (.seq s_turned_part_2 .skip) .skip
abbrev s_turned_part_3 : S := .ret (.tup (.cons (.tup (.cons (.var 2) (.cons (.var 3) (.cons (.idx (.var 4) (.kc (.int 0))) .nil)))) (.cons (.idx (.var 4) (.kc (.int 1))) (.cons (.idx (.var 4) (.kc (.int 2))) .nil))))
def F_turned_part : Fn := ⟨"turned_part", ["node", "side"], ["node", "side", "left", "key", "right"], .seq s_turned_part_0 (.seq s_turned_part_1 (.seq s_turned_part_3 .skip)), true⟩
abbrev s_turned_0 : S := .ret (.call n_with_part (.cons (.var 0) (.cons (.sl (.var 1) .nil (.neg (.kc (.int 1)))) (.cons (.call n_turned_part (.cons (.call n_tree_at (.cons (.var 0) (.cons (.sl (.var 1) .nil (.neg (.kc (.int 1)))) .nil))) (.cons (.idx (.var 1) (.neg (.kc (.int 1)))) .nil))) .nil))))
def F_turned : Fn := ⟨"turned", ["tree", "way"], ["tree", "way"], .seq s_turned_0 .skip, false⟩
abbrev s_check_turn_0 : S := .expr (.call n_check_tree (.cons (.var 0) .nil))
abbrev s_check_turn_2 : S := .raise 1 (.kc (.none))
abbrev s_check_turn_1 : S := .ite (.nt (.call n_is_turn (.cons (.var 0) (.cons (.var 1) .nil)))) (.seq s_check_turn_2 .skip) .skip
def F_check_turn : Fn := ⟨"check_turn", ["tree", "way"], ["tree", "way"], .seq s_check_turn_0 (.seq s_check_turn_1 .skip), true⟩
abbrev s_turn_0 : S := .expr (.call n_check_turn (.cons (.var 0) (.cons (.var 1) .nil)))
abbrev s_turn_1 : S := .ret (.call n_turned (.cons (.var 0) (.cons (.var 1) .nil)))
def F_turn : Fn := ⟨"turn", ["tree", "way"], ["tree", "way"], .seq s_turn_0 (.seq s_turn_1 .skip), false⟩
abbrev s_way_back_0 : S := .ret (.bin .add (.sl (.var 0) .nil (.neg (.kc (.int 1)))) (.ite (.cmp .eq (.idx (.var 0) (.neg (.kc (.int 1)))) (.kc (.str "l"))) (.kc (.str "r")) (.kc (.str "l"))))
def F_way_back : Fn := ⟨"way_back", ["way"], ["way"], .seq s_way_back_0 .skip, true⟩
abbrev s_undoing_0 : S := .expr (.call n_check_turn (.cons (.var 0) (.cons (.var 1) .nil)))
abbrev s_undoing_1 : S := .ret (.call n_way_back (.cons (.var 1) .nil))
def F_undoing : Fn := ⟨"undoing", ["tree", "way"], ["tree", "way"], .seq s_undoing_0 (.seq s_undoing_1 .skip), true⟩
abbrev lc_turns_of_0 : E := .cmp .ne (.var 1) (.kc (.str ""))
abbrev le_turns_of_0 : E := .var 1
abbrev l_turns_of_0 : E := .lc [1] (.nm 1) (.call n_level_ways (.cons (.var 0) .nil)) lc_turns_of_0 le_turns_of_0
abbrev s_turns_of_0 : S := .ret l_turns_of_0
def F_turns_of : Fn := ⟨"turns_of", ["tree"], ["tree", "way"], .seq s_turns_of_0 .skip, true⟩
abbrev s_turns_0 : S := .expr (.call n_check_tree (.cons (.var 0) .nil))
abbrev s_turns_1 : S := .ret (.b1 .tuple (.call n_turns_of (.cons (.var 0) .nil)))
def F_turns : Fn := ⟨"turns", ["tree"], ["tree"], .seq s_turns_0 (.seq s_turns_1 .skip), true⟩
abbrev s_follow_0 : S := .asgO 2 (.lst (.cons (.var 0) .nil))
abbrev s_follow_3 : S := .ret (.kc (.none))
abbrev s_follow_2 : S := .ite (.nt (.call n_is_turn (.cons (.idx (.bor 2) (.neg (.kc (.int 1)))) (.cons (.var 3) .nil)))) (.seq s_follow_3 .skip) .skip
abbrev s_follow_4 : S := .expr (.mm .append 2 (.call n_turned (.cons (.idx (.bor 2) (.neg (.kc (.int 1)))) (.cons (.var 3) .nil))))
abbrev b_follow_0 : S := .seq s_follow_2 (.seq s_follow_4 .skip)
abbrev s_follow_1 : S := .for (.nm 3) (.var 1) b_follow_0
abbrev s_follow_5 : S := .ret (.mv 2)
def F_follow : Fn := ⟨"follow", ["tree", "row"], ["tree", "row", "found", "way"], .seq s_follow_0 (.seq s_follow_1 (.seq s_follow_5 .skip)), true⟩
abbrev s_stations_0 : S := .expr (.call n_check_tree (.cons (.var 0) .nil))
abbrev s_stations_2 : S := .raise 1 (.kc (.none))
abbrev s_stations_1 : S := .ite (.or (.nt (.isi (.var 1) .tuple)) (.cmp .gt (.b1 .len (.var 1)) (.gl c_MOST_TURNS))) (.seq s_stations_2 .skip) .skip
abbrev s_stations_3 : S := .asg 2 (.call n_follow (.cons (.var 0) (.cons (.var 1) .nil)))
abbrev s_stations_5 : S := .raise 1 (.kc (.none))
abbrev s_stations_4 : S := .ite (.isC false (.var 2) (.none)) (.seq s_stations_5 .skip) .skip
abbrev s_stations_6 : S := .ret (.b1 .tuple (.var 2))
def F_stations : Fn := ⟨"stations", ["tree", "row"], ["tree", "row", "found"], .seq s_stations_0 (.seq s_stations_1 (.seq s_stations_3 (.seq s_stations_4 (.seq s_stations_6 .skip)))), true⟩
abbrev s_takes_row_0 : S := .expr (.call n_check_tree (.cons (.var 0) .nil))
abbrev s_takes_row_1 : S := .expr (.call n_check_tree (.cons (.var 1) .nil))
abbrev le_takes_row_0 : E := .call n_is_way (.cons (.var 3) .nil)
abbrev l_takes_row_0 : E := .lc [3] (.nm 3) (.var 2) .nil le_takes_row_0
abbrev s_takes_row_3 : S := .ret (.kc (.bool false))
abbrev s_takes_row_2 : S := .ite (.or (.nt (.isi (.var 2) .tuple)) (.or (.cmp .gt (.b1 .len (.var 2)) (.gl c_MOST_TURNS)) (.nt (.b1 .all l_takes_row_0)))) (.seq s_takes_row_3 .skip) .skip
abbrev s_takes_row_4 : S := .asg 4 (.call n_follow (.cons (.var 0) (.cons (.var 2) .nil)))
abbrev s_takes_row_5 : S := .ret (.and (.isC true (.var 4) (.none)) (.cmp .eq (.idx (.var 4) (.neg (.kc (.int 1)))) (.var 1)))
def F_takes_row : Fn := ⟨"takes_row", ["one", "two", "value"], ["one", "two", "value", "way", "found"], .seq s_takes_row_0 (.seq s_takes_row_1 (.seq s_takes_row_2 (.seq s_takes_row_4 (.seq s_takes_row_5 .skip)))), false⟩
abbrev s_right_row_0 : S := .par [(1, true), (2, false)] (.cons (.lst .nil) (.cons (.kc (.str "")) .nil))
abbrev s_right_row_3 : S := .expr (.mm .append 1 (.bin .add (.var 2) (.kc (.str "l"))))
abbrev s_right_row_4 : S := .asg 0 (.call n_turned (.cons (.var 0) (.cons (.bin .add (.var 2) (.kc (.str "l"))) .nil)))
abbrev s_right_row_5 : S := .asg 2 (.bin .add (.var 2) (.kc (.str "r")))
abbrev s_right_row_2 : S := .ite (.isC true (.idx (.call n_tree_at (.cons (.var 0) (.cons (.var 2) .nil))) (.kc (.int 0))) (.none)) (.seq s_right_row_3 (.seq s_right_row_4 .skip)) (.seq s_right_row_5 .skip)
abbrev b_right_row_0 : S := .seq s_right_row_2 .skip
abbrev s_right_row_1 : S := .whl (.isC true (.call n_tree_at (.cons (.var 0) (.cons (.var 2) .nil))) (.none)) b_right_row_0
abbrev s_right_row_6 : S := .ret (.mv 1)
def F_right_row : Fn := ⟨"right_row", ["tree"], ["tree", "found", "way"], .seq s_right_row_0 (.seq s_right_row_1 (.seq s_right_row_6 .skip)), true⟩
abbrev s_row_to_right_0 : S := .expr (.call n_check_tree (.cons (.var 0) .nil))
abbrev s_row_to_right_1 : S := .ret (.b1 .tuple (.call n_right_row (.cons (.var 0) .nil)))
def F_row_to_right : Fn := ⟨"row_to_right", ["tree"], ["tree"], .seq s_row_to_right_0 (.seq s_row_to_right_1 .skip), true⟩
abbrev s_spine_of_0 : S := .ret (.ite (.isC false (.var 0) (.none)) (.kc (.int 0)) (.bin .add (.kc (.int 1)) (.call n_spine_of (.cons (.idx (.var 0) (.kc (.int 2))) .nil))))
def F_spine_of : Fn := ⟨"spine_of", ["tree"], ["tree"], .seq s_spine_of_0 .skip, true⟩
abbrev s_turns_to_right_0 : S := .expr (.call n_check_tree (.cons (.var 0) .nil))
abbrev s_turns_to_right_1 : S := .ret (.bin .sub (.call n_size_of (.cons (.var 0) .nil)) (.call n_spine_of (.cons (.var 0) .nil)))
def F_turns_to_right : Fn := ⟨"turns_to_right", ["tree"], ["tree"], .seq s_turns_to_right_0 (.seq s_turns_to_right_1 .skip), true⟩
abbrev s__law_draw_0 : S := .asg 1 (.kc (.int 7))
abbrev s__law_draw_2 : S := .asg 1 (.bin .mod (.b1 .int (.bin .add (.bin .add (.bin .mul (.var 1) (.kc (.int 48271))) (.bin .mod (.b1 .abs (.b1 .int (.var 2))) (.kc (.int 65521)))) (.kc (.int 1)))) (.kc (.int 2147483647)))
abbrev b__law_draw_0 : S := .seq s__law_draw_2 .skip
abbrev s__law_draw_1 : S := .for (.nm 2) (.io 0) b__law_draw_0
abbrev le__law_draw_0 : E := .b1 .abs (.b1 .int (.var 2))
abbrev l__law_draw_0 : E := .lc [2] (.nm 2) (.io 0) .nil le__law_draw_0
abbrev s__law_draw_3 : S := .ret (.lst (.cons l__law_draw_0 (.cons (.neg (.kc (.int 1))) (.cons (.kc (.int 0)) (.cons (.var 1) .nil)))))
def F__law_draw : Fn := ⟨"_law_draw", ["script"], ["script", "seed", "cell"], .seq s__law_draw_0 (.seq s__law_draw_1 (.seq s__law_draw_3 .skip)), true⟩
abbrev s__law_take_1 : S := .setI 0 (.kc (.int 1)) (.bin .add (.idx (.bor 0) (.kc (.int 1))) (.kc (.int 1)))
abbrev s__law_take_3 : S := .setI 0 (.kc (.int 2)) (.idx (.idx (.bor 0) (.kc (.int 0))) (.idx (.bor 0) (.kc (.int 1))))
abbrev s__law_take_2 : S := .ite (.cmp .lt (.idx (.bor 0) (.kc (.int 1))) (.b1 .len (.idx (.bor 0) (.kc (.int 0))))) (.seq s__law_take_3 .skip) .skip
abbrev s__law_take_5 : S := .setI 0 (.kc (.int 3)) (.bin .mod (.b1 .int (.bin .add (.bin .mul (.idx (.bor 0) (.kc (.int 3))) (.kc (.int 48271))) (.kc (.int 11)))) (.kc (.int 2147483647)))
abbrev s__law_take_6 : S := .setI 0 (.kc (.int 2)) (.idx (.bor 0) (.kc (.int 3)))
abbrev s__law_take_4 : S := .ite (.cmp .eq (.idx (.bor 0) (.kc (.int 2))) (.kc (.int 0))) (.seq s__law_take_5 (.seq s__law_take_6 .skip)) .skip
abbrev s__law_take_0 : S := .ite (.cmp .eq (.idx (.bor 0) (.kc (.int 2))) (.kc (.int 0))) (.seq s__law_take_1 (.seq s__law_take_2 (.seq s__law_take_4 .skip))) .skip
abbrev s__law_take_7 : S := .asg 2 (.bin .mod (.b1 .int (.idx (.bor 0) (.kc (.int 2)))) (.var 1))
abbrev s__law_take_8 : S := .setI 0 (.kc (.int 2)) (.bin .fdiv (.idx (.bor 0) (.kc (.int 2))) (.var 1))
abbrev s__law_take_9 : S := .ret (.var 2)
def F__law_take : Fn := ⟨"_law_take", ["draw", "many"], ["draw", "many", "found"], .seq s__law_take_0 (.seq s__law_take_7 (.seq s__law_take_8 (.seq s__law_take_9 .skip))), false⟩
abbrev s__law_shape_1 : S := .ret (.kc (.none))
abbrev s__law_shape_0 : S := .ite (.cmp .eq (.var 1) (.kc (.int 0))) (.seq s__law_shape_1 .skip) .skip
abbrev s__law_shape_2 : S := .asg 3 (.idx (.lst (.cons (.call n__law_take (.cons (.io 0) (.cons (.var 1) .nil))) (.cons (.bin .fdiv (.bin .sub (.var 1) (.call n__law_take (.cons (.io 0) (.cons (.kc (.int 2)) .nil)))) (.kc (.int 2))) (.cons (.ite (.cmp .gt (.call n__law_take (.cons (.io 0) (.cons (.kc (.int 3)) .nil))) (.kc (.int 0))) (.bin .sub (.var 1) (.kc (.int 1))) (.kc (.int 0))) .nil)))) (.var 2))
abbrev s__law_shape_3 : S := .ret (.tup (.cons (.call n__law_shape (.cons (.io 0) (.cons (.var 3) (.cons (.var 2) .nil)))) (.cons (.kc (.int 0)) (.cons (.call n__law_shape (.cons (.io 0) (.cons (.bin .sub (.bin .sub (.var 1) (.kc (.int 1))) (.var 3)) (.cons (.var 2) .nil)))) .nil))))
def F__law_shape : Fn := ⟨"_law_shape", ["draw", "many", "kind"], ["draw", "many", "kind", "left"], .seq s__law_shape_0 (.seq s__law_shape_2 (.seq s__law_shape_3 .skip)), true⟩
abbrev s__law_keyed_1 : S := .ret (.lst (.cons (.kc (.none)) (.cons (.kc (.int 0)) .nil)))
abbrev s__law_keyed_0 : S := .ite (.isC false (.var 0) (.none)) (.seq s__law_keyed_1 .skip) .skip
abbrev s__law_keyed_2 : S := .unp (.tup (.cons (.nm 2) (.cons (.nm 3) .nil))) (.call n__law_keyed (.cons (.idx (.var 0) (.kc (.int 0))) (.cons (.var 1) .nil)))
abbrev s__law_keyed_3 : S := .unp (.tup (.cons (.nm 4) (.cons (.nm 5) .nil))) (.call n__law_keyed (.cons (.idx (.var 0) (.kc (.int 2))) (.cons (.sl (.var 1) (.bin .add (.var 3) (.kc (.int 1))) .nil) .nil)))
abbrev s__law_keyed_4 : S := .ret (.lst (.cons (.tup (.cons (.var 2) (.cons (.idx (.var 1) (.var 3)) (.cons (.var 4) .nil)))) (.cons (.bin .add (.bin .add (.var 3) (.kc (.int 1))) (.var 5)) .nil)))
def F__law_keyed : Fn := ⟨"_law_keyed", ["tree", "row"], ["tree", "row", "left", "one", "right", "two"], .seq s__law_keyed_0 (.seq s__law_keyed_2 (.seq s__law_keyed_3 (.seq s__law_keyed_4 .skip))), true⟩
abbrev s__law_tree_0 : S := .asg 2 (.call n__law_take (.cons (.io 0) (.cons (.bin .add (.var 1) (.kc (.int 1))) .nil)))
abbrev s__law_tree_1 : S := .asg 3 (.call n__law_shape (.cons (.io 0) (.cons (.var 2) (.cons (.call n__law_take (.cons (.io 0) (.cons (.kc (.int 3)) .nil))) .nil))))
abbrev s__law_tree_2 : S := .asg 4 (.call n__law_take (.cons (.io 0) (.cons (.kc (.int 3)) .nil)))
abbrev le__law_tree_0 : E := .bin .mul (.kc (.int 3)) (.var 6)
abbrev l__law_tree_0 : E := .lc [6] (.nm 6) (.rg1 (.var 2)) .nil le__law_tree_0
abbrev le__law_tree_1 : E := .call n__law_take (.cons (.io 0) (.cons (.kc (.int 12)) .nil))
abbrev l__law_tree_1 : E := .lc [6] (.nm 6) (.rg1 (.var 2)) .nil le__law_tree_1
abbrev s__law_tree_3 : S := .asg 5 (.ite (.cmp .eq (.var 4) (.kc (.int 0))) l__law_tree_0 (.ite (.cmp .eq (.var 4) (.kc (.int 1))) (.bin .mul (.lst (.cons (.kc (.int 7)) .nil)) (.var 2)) l__law_tree_1))
abbrev s__law_tree_4 : S := .ret (.idx (.call n__law_keyed (.cons (.var 3) (.cons (.var 5) .nil))) (.kc (.int 0)))
def F__law_tree : Fn := ⟨"_law_tree", ["draw", "most"], ["draw", "most", "many", "shape", "word", "row", "k"], .seq s__law_tree_0 (.seq s__law_tree_1 (.seq s__law_tree_2 (.seq s__law_tree_3 (.seq s__law_tree_4 .skip)))), false⟩
abbrev s__law_keys_0 : S := .ret (.ite (.isC false (.var 0) (.none)) (.lst .nil) (.bin .add (.bin .add (.call n__law_keys (.cons (.idx (.var 0) (.kc (.int 0))) .nil)) (.lst (.cons (.idx (.var 0) (.kc (.int 1))) .nil))) (.call n__law_keys (.cons (.idx (.var 0) (.kc (.int 2))) .nil))))
def F__law_keys : Fn := ⟨"_law_keys", ["tree"], ["tree"], .seq s__law_keys_0 .skip, true⟩
abbrev s__law_ways_1 : S := .ret (.lst .nil)
abbrev s__law_ways_0 : S := .ite (.isC false (.var 0) (.none)) (.seq s__law_ways_1 .skip) .skip
abbrev le__law_ways_0 : E := .bin .add (.kc (.str "l")) (.var 1)
abbrev l__law_ways_0 : E := .lc [1] (.nm 1) (.call n__law_ways (.cons (.idx (.var 0) (.kc (.int 0))) .nil)) .nil le__law_ways_0
abbrev le__law_ways_1 : E := .bin .add (.kc (.str "r")) (.var 1)
abbrev l__law_ways_1 : E := .lc [1] (.nm 1) (.call n__law_ways (.cons (.idx (.var 0) (.kc (.int 2))) .nil)) .nil le__law_ways_1
abbrev s__law_ways_2 : S := .ret (.bin .add (.bin .add l__law_ways_0 (.lst (.cons (.kc (.str "")) .nil))) l__law_ways_1)
def F__law_ways : Fn := ⟨"_law_ways", ["tree"], ["tree", "way"], .seq s__law_ways_0 (.seq s__law_ways_2 .skip), true⟩
abbrev s__law_at_1 : S := .asg 0 (.ite (.cmp .eq (.var 2) (.kc (.str "l"))) (.idx (.var 0) (.kc (.int 0))) (.idx (.var 0) (.kc (.int 2))))
abbrev b__law_at_0 : S := .seq s__law_at_1 .skip
abbrev s__law_at_0 : S := .for (.nm 2) (.var 1) b__law_at_0
abbrev s__law_at_2 : S := .ret (.var 0)
def F__law_at : Fn := ⟨"_law_at", ["tree", "way"], ["tree", "way", "side"], .seq s__law_at_0 (.seq s__law_at_2 .skip), false⟩
abbrev s__law_put_1 : S := .ret (.var 2)
abbrev s__law_put_0 : S := .ite (.cmp .eq (.var 1) (.kc (.str ""))) (.seq s__law_put_1 .skip) .skip
abbrev s__law_put_3 : S := .ret (.tup (.cons (.call n__law_put (.cons (.idx (.var 0) (.kc (.int 0))) (.cons (.sl (.var 1) (.kc (.int 1)) .nil) (.cons (.var 2) .nil)))) (.cons (.idx (.var 0) (.kc (.int 1))) (.cons (.idx (.var 0) (.kc (.int 2))) .nil))))
abbrev s__law_put_2 : S := .ite (.cmp .eq (.idx (.var 1) (.kc (.int 0))) (.kc (.str "l"))) (.seq s__law_put_3 .skip) .skip
abbrev s__law_put_4 : S := .ret (.tup (.cons (.idx (.var 0) (.kc (.int 0))) (.cons (.idx (.var 0) (.kc (.int 1))) (.cons (.call n__law_put (.cons (.idx (.var 0) (.kc (.int 2))) (.cons (.sl (.var 1) (.kc (.int 1)) .nil) (.cons (.var 2) .nil)))) .nil))))
def F__law_put : Fn := ⟨"_law_put", ["tree", "way", "other"], ["tree", "way", "other"], .seq s__law_put_0 (.seq s__law_put_2 (.seq s__law_put_4 .skip)), false⟩
abbrev s__law_turn_0 : S := .unp (.tup (.cons (.nm 2) (.cons (.nm 3) (.cons (.nm 4) .nil)))) (.call n__law_at (.cons (.var 0) (.cons (.sl (.var 1) .nil (.neg (.kc (.int 1)))) .nil)))
abbrev s__law_turn_2 : S := .ret (.call n__law_put (.cons (.var 0) (.cons (.sl (.var 1) .nil (.neg (.kc (.int 1)))) (.cons (.tup (.cons (.idx (.var 2) (.kc (.int 0))) (.cons (.idx (.var 2) (.kc (.int 1))) (.cons (.tup (.cons (.idx (.var 2) (.kc (.int 2))) (.cons (.var 3) (.cons (.var 4) .nil)))) .nil)))) .nil))))
abbrev s__law_turn_1 : S := .ite (.cmp .eq (.idx (.var 1) (.neg (.kc (.int 1)))) (.kc (.str "l"))) (.seq s__law_turn_2 .skip) .skip
abbrev s__law_turn_3 : S := .ret (.call n__law_put (.cons (.var 0) (.cons (.sl (.var 1) .nil (.neg (.kc (.int 1)))) (.cons (.tup (.cons (.tup (.cons (.var 2) (.cons (.var 3) (.cons (.idx (.var 4) (.kc (.int 0))) .nil)))) (.cons (.idx (.var 4) (.kc (.int 1))) (.cons (.idx (.var 4) (.kc (.int 2))) .nil)))) .nil))))
def F__law_turn : Fn := ⟨"_law_turn", ["tree", "way"], ["tree", "way", "left", "key", "right"], .seq s__law_turn_0 (.seq s__law_turn_1 (.seq s__law_turn_3 .skip)), false⟩
abbrev s__law_size_0 : S := .ret (.ite (.isC false (.var 0) (.none)) (.kc (.int 0)) (.bin .add (.bin .add (.call n__law_size (.cons (.idx (.var 0) (.kc (.int 0))) .nil)) (.kc (.int 1))) (.call n__law_size (.cons (.idx (.var 0) (.kc (.int 2))) .nil))))
def F__law_size : Fn := ⟨"_law_size", ["tree"], ["tree"], .seq s__law_size_0 .skip, true⟩
abbrev s__law_not_tree_0 : S := .asg 2 (.lst (.cons (.kc (.int 5)) (.cons (.tup .nil) (.cons (.tup (.cons (.kc (.none)) (.cons (.kc (.int 0)) .nil))) (.cons (.tup (.cons (.kc (.none)) (.cons (.kc (.int 100)) (.cons (.kc (.none)) .nil)))) (.cons (.tup (.cons (.kc (.none)) (.cons (.neg (.kc (.int 1))) (.cons (.kc (.none)) .nil)))) (.cons (.tup (.cons (.kc (.none)) (.cons (.kc (.bool true)) (.cons (.kc (.none)) .nil)))) (.cons (.tup (.cons (.kc (.int 0)) (.cons (.kc (.int 0)) (.cons (.kc (.none)) .nil)))) (.cons (.lst (.cons (.kc (.none)) (.cons (.kc (.int 0)) (.cons (.kc (.none)) .nil)))) (.cons (.tup (.cons (.var 1) (.cons (.kc (.int 0)) (.cons (.tup .nil) .nil)))) (.cons (.tup (.cons (.kc (.none)) (.cons (.kc (.str "0")) (.cons (.kc (.none)) .nil)))) (.cons (.kc (.str "x")) .nil))))))))))))
abbrev s__law_not_tree_1 : S := .asg 3 (.kc (.none))
abbrev s__law_not_tree_3 : S := .asg 3 (.tup (.cons (.var 3) (.cons (.kc (.int 0)) (.cons (.kc (.none)) .nil))))
abbrev b__law_not_tree_0 : S := .seq s__law_not_tree_3 .skip
abbrev s__law_not_tree_2 : S := .for (.nm 4) (.rg1 (.kc (.int 21))) b__law_not_tree_0
abbrev s__law_not_tree_4 : S := .ret (.idx (.bin .add (.var 2) (.lst (.cons (.var 3) .nil))) (.call n__law_take (.cons (.io 0) (.cons (.kc (.int 12)) .nil))))
def F__law_not_tree : Fn := ⟨"_law_not_tree", ["draw", "tree"], ["draw", "tree", "found", "wide", "again"], .seq s__law_not_tree_0 (.seq s__law_not_tree_1 (.seq s__law_not_tree_2 (.seq s__law_not_tree_4 .skip))), false⟩
abbrev s__law_call_0 : S := .unp (.tup (.cons (.nm 1) (.cons (.nm 2) (.cons (.nm 3) .nil)))) (.var 0)
abbrev s__law_call_2 : S := .expr (.call n_turns (.cons (.var 2) .nil))
abbrev s__law_call_4 : S := .expr (.call n_row_to_right (.cons (.var 2) .nil))
abbrev s__law_call_6 : S := .expr (.call n_turns_to_right (.cons (.var 2) .nil))
abbrev s__law_call_8 : S := .expr (.call n_turn (.cons (.var 2) (.cons (.var 3) .nil)))
abbrev s__law_call_10 : S := .expr (.call n_undoing (.cons (.var 2) (.cons (.var 3) .nil)))
abbrev s__law_call_11 : S := .expr (.call n_stations (.cons (.var 2) (.cons (.var 3) .nil)))
abbrev s__law_call_9 : S := .ite (.cmp .eq (.var 1) (.kc (.int 4))) (.seq s__law_call_10 .skip) (.seq s__law_call_11 .skip)
abbrev s__law_call_7 : S := .ite (.cmp .eq (.var 1) (.kc (.int 3))) (.seq s__law_call_8 .skip) (.seq s__law_call_9 .skip)
abbrev s__law_call_5 : S := .ite (.cmp .eq (.var 1) (.kc (.int 2))) (.seq s__law_call_6 .skip) (.seq s__law_call_7 .skip)
abbrev s__law_call_3 : S := .ite (.cmp .eq (.var 1) (.kc (.int 1))) (.seq s__law_call_4 .skip) (.seq s__law_call_5 .skip)
abbrev s__law_call_1 : S := .ite (.cmp .eq (.var 1) (.kc (.int 0))) (.seq s__law_call_2 .skip) (.seq s__law_call_3 .skip)
def F__law_call : Fn := ⟨"_law_call", ["call"], ["call", "which", "tree", "value"], .seq s__law_call_0 (.seq s__law_call_1 .skip), true⟩
abbrev s__law_word_1 : S := .expr (.call n__law_call (.cons (.var 0) .nil))
abbrev s__law_word_0 : S := .tryx (.seq s__law_word_1 .skip) (.hndx 1 1 (.ite 0 (.str "malformed") (.str "other")) (.hndx 2 1 (.ite 0 (.fld "reason") (.str "other")) .skip))
abbrev s__law_word_2 : S := .ret (.kc (.str "none"))
def F__law_word : Fn := ⟨"_law_word", ["call"], ["call", "e"], .seq s__law_word_0 (.seq s__law_word_2 .skip), true⟩
abbrev s__law_spine_0 : S := .ret (.ite (.isC false (.var 0) (.none)) (.kc (.int 0)) (.bin .add (.kc (.int 1)) (.call n__law_spine (.cons (.idx (.var 0) (.kc (.int 2))) .nil))))
def F__law_spine : Fn := ⟨"_law_spine", ["tree"], ["tree"], .seq s__law_spine_0 .skip, true⟩
abbrev s__law_follow_0 : S := .asgO 2 (.lst (.cons (.var 0) .nil))
abbrev s__law_follow_3 : S := .ret (.kc (.none))
abbrev s__law_follow_2 : S := .ite (.or (.cmp .eq (.var 3) (.kc (.str ""))) (.cmp .notin (.var 3) (.call n__law_ways (.cons (.idx (.bor 2) (.neg (.kc (.int 1)))) .nil)))) (.seq s__law_follow_3 .skip) .skip
abbrev s__law_follow_4 : S := .expr (.mm .append 2 (.call n__law_turn (.cons (.idx (.bor 2) (.neg (.kc (.int 1)))) (.cons (.var 3) .nil))))
abbrev b__law_follow_0 : S := .seq s__law_follow_2 (.seq s__law_follow_4 .skip)
abbrev s__law_follow_1 : S := .for (.nm 3) (.var 1) b__law_follow_0
abbrev s__law_follow_5 : S := .ret (.mv 2)
def F__law_follow : Fn := ⟨"_law_follow", ["tree", "row"], ["tree", "row", "found", "way"], .seq s__law_follow_0 (.seq s__law_follow_1 (.seq s__law_follow_5 .skip)), true⟩
abbrev s_law_0 : S := .asgO 1 (.call n__law_draw (.cons (.io 0) .nil))
abbrev s_law_1 : S := .asg 2 (.call n__law_tree (.cons (.io 1) (.cons (.kc (.int 10)) .nil)))
abbrev le_law_1 : E := .tup (.cons (.b1 .len (.var 5)) (.cons (.var 5) .nil))
abbrev l_law_1 : E := .lc [5] (.nm 5) (.call n__law_ways (.cons (.var 2) .nil)) .nil le_law_1
abbrev le_law_0 : E := .var 5
abbrev l_law_0 : E := .lc [4, 5] (.tup (.cons (.nm 4) (.cons (.nm 5) .nil))) (.b1 .sorted l_law_1) .nil le_law_0
abbrev s_law_2 : S := .asg 3 l_law_0
abbrev lc_law_2 : E := .cmp .ne (.var 5) (.kc (.str ""))
abbrev le_law_2 : E := .var 5
abbrev l_law_2 : E := .lc [5] (.nm 5) (.var 3) lc_law_2 le_law_2
abbrev s_law_4 : S := .ret (.kc (.bool false))
abbrev s_law_3 : S := .ite (.cmp .ne (.call n_turns (.cons (.var 2) .nil)) (.b1 .tuple l_law_2)) (.seq s_law_4 .skip) .skip
abbrev s_law_5 : S := .par [(6, true), (7, false), (8, true)] (.cons (.lst .nil) (.cons (.var 2) (.cons (.lst (.cons (.var 2) .nil)) .nil)))
abbrev lc_law_3 : E := .cmp .ne (.var 5) (.kc (.str ""))
abbrev le_law_3 : E := .var 5
abbrev l_law_3 : E := .lc [5] (.nm 5) (.call n__law_ways (.cons (.var 7) .nil)) lc_law_3 le_law_3
abbrev s_law_7 : S := .asg 10 l_law_3
abbrev s_law_9 : S := .asg 5 (.idx (.var 10) (.call n__law_take (.cons (.io 1) (.cons (.b1 .len (.var 10)) .nil))))
abbrev s_law_10 : S := .asg 11 (.call n__law_turn (.cons (.var 7) (.cons (.var 5) .nil)))
abbrev s_law_12 : S := .ret (.kc (.bool false))
abbrev s_law_11 : S := .ite (.or (.cmp .ne (.call n_turn (.cons (.var 7) (.cons (.var 5) .nil))) (.var 11)) (.or (.cmp .ne (.call n__law_keys (.cons (.var 11) .nil)) (.call n__law_keys (.cons (.var 7) .nil))) (.cmp .ne (.call n_turn (.cons (.var 11) (.cons (.call n_undoing (.cons (.var 7) (.cons (.var 5) .nil))) .nil))) (.var 7)))) (.seq s_law_12 .skip) .skip
abbrev s_law_14 : S := .ret (.kc (.bool false))
abbrev s_law_13 : S := .ite (.cmp .gt (.call n__law_spine (.cons (.var 11) .nil)) (.bin .add (.call n__law_spine (.cons (.var 7) .nil)) (.kc (.int 1)))) (.seq s_law_14 .skip) .skip
abbrev s_law_15 : S := .expr (.mm .append 6 (.var 5))
abbrev s_law_16 : S := .expr (.mm .append 8 (.var 11))
abbrev s_law_17 : S := .asg 7 (.var 11)
abbrev s_law_8 : S := .ite (.cmp .ne (.var 10) (.lst .nil)) (.seq s_law_9 (.seq s_law_10 (.seq s_law_11 (.seq s_law_13 (.seq s_law_15 (.seq s_law_16 (.seq s_law_17 .skip))))))) .skip
abbrev b_law_0 : S := .seq s_law_7 (.seq s_law_8 .skip)
abbrev s_law_6 : S := .for (.nm 9) (.rg1 (.call n__law_take (.cons (.io 1) (.cons (.kc (.int 8)) .nil)))) b_law_0
abbrev s_law_19 : S := .ret (.kc (.bool false))
abbrev s_law_18 : S := .ite (.cmp .ne (.call n_stations (.cons (.var 2) (.cons (.b1 .tuple (.bor 6)) .nil))) (.b1 .tuple (.bor 8))) (.seq s_law_19 .skip) .skip
abbrev s_law_20 : S := .par [(12, false), (13, false)] (.cons (.call n_row_to_right (.cons (.var 2) .nil)) (.cons (.call n_turns_to_right (.cons (.var 2) .nil)) .nil))
abbrev s_law_21 : S := .asg 14 (.ite (.isi (.var 12) .tuple) (.call n__law_follow (.cons (.var 2) (.cons (.var 12) .nil))) (.kc (.none)))
abbrev lc_law_4 : E := .cmp .isin (.kc (.str "l")) (.var 5)
abbrev le_law_4 : E := .var 5
abbrev l_law_4 : E := .lc [5] (.nm 5) (.call n__law_ways (.cons (.idx (.var 14) (.neg (.kc (.int 1)))) .nil)) lc_law_4 le_law_4
abbrev s_law_23 : S := .ret (.kc (.bool false))
abbrev s_law_22 : S := .ite (.or (.isC false (.var 14) (.none)) (.or (.cmp .ne (.b1 .len (.var 12)) (.var 13)) (.or (.cmp .ne (.var 13) (.bin .sub (.call n__law_size (.cons (.var 2) .nil)) (.call n__law_spine (.cons (.var 2) .nil)))) (.cmp .ne l_law_4 (.lst .nil))))) (.seq s_law_23 .skip) .skip
abbrev s_law_25 : S := .ret (.kc (.bool false))
abbrev s_law_24 : S := .ite (.isC true (.call n_takes_row (.cons (.var 2) (.cons (.idx (.var 14) (.neg (.kc (.int 1)))) (.cons (.var 12) .nil)))) (.bool true)) (.seq s_law_25 .skip) .skip
abbrev s_law_26 : S := .asg 15 (.call n__law_not_tree (.cons (.io 1) (.cons (.var 2) .nil)))
abbrev s_law_27 : S := .asg 16 (.lst (.cons (.kc (.str "")) (.cons (.kc (.none)) (.cons (.kc (.int 0)) (.cons (.kc (.str "x")) (.cons (.bin .mul (.kc (.str "l")) (.kc (.int 20))) (.cons (.bin .mul (.kc (.str "r")) (.kc (.int 20))) (.cons (.lst (.cons (.kc (.str "l")) .nil)) (.cons (.tup (.cons (.kc (.str "l")) .nil)) (.cons (.kc (.str "L")) .nil))))))))))
abbrev le_law_5 : E := .tup (.cons (.var 18) (.cons (.var 15) (.cons (.kc (.str "l")) .nil)))
abbrev l_law_5 : E := .lc [18] (.nm 18) (.rg1 (.kc (.int 5))) .nil le_law_5
abbrev le_law_6 : E := .tup (.cons (.kc (.int 3)) (.cons (.var 2) (.cons (.var 5) .nil)))
abbrev l_law_6 : E := .lc [5] (.nm 5) (.var 16) .nil le_law_6
abbrev le_law_7 : E := .tup (.cons (.kc (.int 4)) (.cons (.var 2) (.cons (.var 5) .nil)))
abbrev l_law_7 : E := .lc [5] (.nm 5) (.var 16) .nil le_law_7
abbrev s_law_28 : S := .asg 17 (.bin .add (.bin .add (.bin .add l_law_5 (.lst (.cons (.tup (.cons (.kc (.int 5)) (.cons (.var 15) (.cons (.tup .nil) .nil)))) .nil))) l_law_6) l_law_7)
abbrev le_law_8 : E := .tup (.cons (.kc (.int 5)) (.cons (.var 2) (.cons (.var 19) .nil)))
abbrev l_law_8 : E := .lc [19] (.nm 19) (.lst (.cons (.kc (.none)) (.cons (.lst .nil) (.cons (.tup (.cons (.kc (.str "")) .nil)) (.cons (.tup (.cons (.kc (.str "x")) .nil)) (.cons (.tup (.cons (.kc (.none)) .nil)) (.cons (.tup (.cons (.bin .mul (.kc (.str "l")) (.kc (.int 20))) .nil)) (.cons (.bin .mul (.tup (.cons (.kc (.str "l")) .nil)) (.kc (.int 61))) (.cons (.kc (.str "l")) .nil))))))))) .nil le_law_8
abbrev s_law_29 : S := .asg 17 (.bin .add (.var 17) l_law_8)
abbrev lc_law_9 : E := .cmp .ne (.call n__law_word (.cons (.var 20) .nil)) (.kc (.str "malformed"))
abbrev le_law_9 : E := .var 20
abbrev l_law_9 : E := .lc [20] (.nm 20) (.var 17) lc_law_9 le_law_9
abbrev s_law_30 : S := .ret (.cmp .eq l_law_9 (.lst .nil))
def F_law : Fn := ⟨"law", ["script"], ["script", "draw", "tree", "ways", "size", "way", "row", "now", "made", "count", "free", "other", "there", "many", "stops", "bad", "wrong", "calls", "which", "odd", "call"], .seq s_law_0 (.seq s_law_1 (.seq s_law_2 (.seq s_law_3 (.seq s_law_5 (.seq s_law_6 (.seq s_law_18 (.seq s_law_20 (.seq s_law_21 (.seq s_law_22 (.seq s_law_24 (.seq s_law_26 (.seq s_law_27 (.seq s_law_28 (.seq s_law_29 (.seq s_law_30 .skip))))))))))))))), true⟩
def T : Tab := ⟨[F_is_whole, F_node_count, F_is_key, F_is_tree, F_check_tree, F_size_of, F_kid, F_tree_at, F_is_way, F_is_node, F_ways_of, F_level_ways, F_with_part, F_is_turn, F_turned_part, F_turned, F_check_turn, F_turn, F_way_back, F_undoing, F_turns_of, F_turns, F_follow, F_stations, F_takes_row, F_right_row, F_row_to_right, F_spine_of, F_turns_to_right, F__law_draw, F__law_take, F__law_shape, F__law_keyed, F__law_tree, F__law_keys, F__law_ways, F__law_at, F__law_put, F__law_turn, F__law_size, F__law_not_tree, F__law_call, F__law_word, F__law_spine, F__law_follow, F_law], [("MOST_NODES", .int 20), ("MOST_KEY", .int 99), ("SIDES", .str "lr"), ("MOST_TURNS", .int 60)], [("Fault", none), ("Malformed", none), ("Refused", some "reason")], [[true, false, false], [true, true, false], [true, false, true]]⟩
end K20
end
section
set_option Elab.async false
set_option linter.all false
set_option maxRecDepth 100000
set_option maxHeartbeats 0
namespace K20
open PySem PySem.Spec PyProof.Rows L2 PI
def top (i : Nat) : Stmt := PySem.Challenge.pw_shelfkinds_k20_whole_turns.main.body.getD i (.Pass ⟨0, 0, 0, 0⟩)
def fn : List He.DefD := [dOf (top 5), dOf (top 10), dOf (top 11), dOf (top 12), dOf (top 13), dOf (top 14), dOf (top 15), dOf (top 16), dOf (top 17), dOf (top 18), dOf (top 19), dOf (top 20), dOf (top 21), dOf (top 24), dOf (top 25), dOf (top 26), dOf (top 27), dOf (top 28), dOf (top 29), dOf (top 30), dOf (top 31), dOf (top 32), dOf (top 33), dOf (top 34), dOf (top 35), dOf (top 36), dOf (top 37), dOf (top 38), dOf (top 39), dOf (top 41), dOf (top 42), dOf (top 44), dOf (top 45), dOf (top 46), dOf (top 47), dOf (top 48), dOf (top 49), dOf (top 50), dOf (top 51), dOf (top 52), dOf (top 55), dOf (top 56), dOf (top 57), dOf (top 58), dOf (top 59), dOf (top 60)]
theorem tbl : tblB T T.fns fn = true := by decide +kernel
end K20
end
section
set_option Elab.async false
set_option linter.all false
set_option maxRecDepth 100000
set_option maxHeartbeats 0
namespace K20
open PySem PySem.Spec PyProof.Rows L2 PI
def names0 : List Str := ["Fault", "Malformed", "Refused", "is_whole", "MOST_NODES", "MOST_KEY", "SIDES", "node_count", "is_key", "is_tree", "check_tree", "size_of", "kid", "tree_at", "is_way", "is_node", "ways_of", "level_ways", "with_part", "MOST_TURNS", "is_turn", "turned_part", "turned", "check_turn", "turn"]
def names1 : List Str := ["way_back", "undoing", "turns_of", "turns", "follow", "stations", "takes_row", "right_row", "row_to_right", "spine_of", "turns_to_right", "_law_draw", "_law_take", "_law_whole", "_law_shape", "_law_keyed", "_law_tree", "_law_keys", "_law_ways", "_law_at", "_law_put", "_law_turn", "_law_size", "_law_shapes", "_law_named"]
def names2 : List Str := ["_law_not_tree", "_law_call", "_law_word", "_law_spine", "_law_follow"]
def names : List Str := names0 ++ names1 ++ names2
abbrev Rr : PySem.W.OpenRow := PySem.W.OpenLaw.row PySem.Challenge.rw_shelfkinds_k20_whole_turns
def mf : Str := Rr.prog.main.file
abbrev hk : PySem.W.Hook := hookY 5 fn (tabB mf T)
def ob (s : PySem.W.SharedT) : He.AlD × Bool := obsY 5 fn (tabB mf T) (HandSHeadRun.getT s)
theorem ob_eq (s : PySem.W.SharedT) : ob s = hk.obs s.abs := obsY_eq (HandSHeadRun.getT_eq s)
theorem run (w : World) : HandSHeadRun.RunEq Rr (PySem.W.view Rr.prog [60]) hk ob 3000 names w := by
  intro os
  kernel_rfl
end K20
end
section
set_option Elab.async false
set_option linter.all false
set_option maxRecDepth 100000
/-! PIev: the interpreter's equations, in bundles for simp. -/
namespace PI
open PySem
section
variable (T : Tab) (call : Calls)
/-- results -/
theorem rs : (∀ (α β : Type) (a : α) (e : Env) (f : α → Env → R Env β), R.bnd (.ok (a, e)) f = f a e) ∧ (∀ (α β : Type) x (e : Env) (f : α → Env → R Env β), R.bnd (.exc x e) f = .exc x e) ∧
    (∀ (α β : Type) (a : α) (e : Env) (f : α → Env → R Env β), R.bndX (.ok (a, e)) f = f a e) ∧ (∀ (ε α β : Type) (a : α) (f : α → R ε β), optB (some a) f = f a) ∧ (∀ (β : Type) i (f : Int → R Env β), intB (.int i) f = f i) ∧ (∀ (β : Type) i (f : List Da → R Env β), lstB (.list i) f = f i) ∧
    (∀ (ε β : Type) (r : R ε β), iteB true r = r) := ⟨fun _ _ _ _ _ => rfl, fun _ _ _ _ _ => rfl, fun _ _ _ _ _ => rfl, fun _ _ _ _ _ => rfl, fun _ _ _ => rfl, fun _ _ _ => rfl, fun _ _ _ => rfl⟩
/-- values of expressions -/
theorem ee : (∀ i env, (ev T call (.var i)).e env = evVar i env) ∧ (∀ i env, (ev T call (.bor i)).e env = evBor i env) ∧ (∀ i env, (ev T call (.mv i)).e env = evMv i env) ∧ (∀ d env, (ev T call (.kc d)).e env = .ok (d, env)) ∧
    (∀ c env, (ev T call (.gl c)).e env = optB T.cons[c]? fun p => .ok (p.2, env)) ∧
    (∀ es env, (ev T call (.tup es)).e env = ((ev T call es).l env).bnd fun ds env1 => iteB (decide (ds.length ≤ sizeLine)) (.ok (.tuple ds, env1))) ∧
    (∀ es env, (ev T call (.lst es)).e env = ((ev T call es).l env).bnd fun ds env1 => iteB (decide (ds.length ≤ sizeLine)) (.ok (.list ds, env1))) ∧
    (∀ f es env, (ev T call (.call f es)).e env = ((ev T call es).a env).bnd fun avs env1 => callV call f avs env1) ∧
    (∀ fs ix es env, (ev T call (.callx fs ix es)).e env = ((ev T call ix).e env).bnd fun x env1 => intB x fun i => optB (L2.ixN fs.length i) fun k => optB fs[k]? fun f => ((ev T call es).a env1).bnd fun avs env2 => callV call f avs env2) ∧
    (∀ b a env, (ev T call (.b1 b a)).e env = ((ev T call a).e env).bnd fun x env1 => optB (b1D b x) fun d => .ok (d, env1)) ∧
    (∀ b a c env, (ev T call (.b2 b a c)).e env = two a (ev T call a).e (ev T call c).e env fun x y env2 => optB (b2D b x y) fun d => .ok (d, env2)) ∧
    (∀ m o a env, (ev T call (.m1 m o a)).e env = ((ev T call o).e env).bnd fun x env1 => iteB (recv m x) (((ev T call a).e env1).bnd fun y env2 => optB (rr o env2 x) fun x' => optB (m1D m x' y) fun d => .ok (d, env2))) ∧
    (∀ m i a env, (ev T call (.mm m i a)).e env = iteB (ownL env i) (((ev T call a).m env).bnd fun y env1 => ownB env1 i fun k xs => optB (mmD m xs y) fun p => .ok (p.1, env1.set i (.own k (.list p.2))))) ∧
    (∀ o a b env, (ev T call (.bin o a b)).e env = two a (ev T call a).e (ev T call b).e env fun x y env2 => optB (binD o x y) fun d => .ok (d, env2)) ∧
    (∀ a env, (ev T call (.neg a)).e env = ((ev T call a).e env).bnd fun x env1 => intB x fun i => .ok (.int (-i), env1)) ∧
    (∀ o a b env, (ev T call (.cmp o a b)).e env = two a (ev T call a).e (ev T call b).e env fun x y env2 => optB (cmpD o x y) fun d => .ok (.bool d, env2)) := by
  refine ⟨?_, ?_, ?_, ?_, ?_, ?_, ?_, ?_, ?_, ?_, ?_, ?_, ?_, ?_, ?_, ?_⟩ <;> intros <;> rfl
theorem ee2 : (∀ o o' a b c env, (ev T call (.chain o o' a b c)).e env = (((ev T call a).e env).bnd fun x env1 => ((ev T call b).e env1).bnd fun y env2 => optB (rr a env2 x) fun x' => optB (cmpD o x' y) fun k => match k with
      | true => ((ev T call c).e env2).bnd fun z env3 => optB (rr b env3 y) fun y' => optB (cmpD o' y' z) fun d => .ok (.bool d, env3)
      | false => .ok (.bool false, env2))) ∧
    (∀ n a d env, (ev T call (.isC n a d)).e env = ((ev T call a).e env).bnd fun x env1 => isC n d x env1) ∧
    (∀ a t env, (ev T call (.isi a t)).e env = ((ev T call a).e env).bnd fun x env1 => iteB (isTyOk x) (.ok (.bool (isTy t x), env1))) ∧
    (∀ a env, (ev T call (.nt a)).e env = ((ev T call a).e env).bnd fun x env1 => optB (truD x) fun b => .ok (.bool (!b), env1)) ∧
    (∀ a b env, (ev T call (.and a b)).e env = ((ev T call a).v env).bnd fun x env1 => optB (truD x) fun k => match k with
      | true => (ev T call b).v env1
      | false => .ok (x, env1)) ∧
    (∀ a b env, (ev T call (.or a b)).e env = ((ev T call a).v env).bnd fun x env1 => optB (truD x) fun k => match k with
      | true => .ok (x, env1)
      | false => (ev T call b).v env1) ∧
    (∀ c a b env, (ev T call (.ite c a b)).e env = ((ev T call c).t env).bnd fun k env1 => match k with
      | true => (ev T call a).v env1
      | false => (ev T call b).v env1) ∧
    (∀ a b env, (ev T call (.idx a b)).e env = two a (ev T call a).e (ev T call b).e env fun x y env2 => optB (idxD x y) fun d => .ok (d, env2)) ∧
    (∀ a lo hi env, (ev T call (.sl a lo hi)).e env = ((ev T call a).e env).bnd fun x env1 => ((ev T call lo).p env1).bnd fun l env2 => ((ev T call hi).p env2).bnd fun h env3 => optB (rr a env3 x) fun x' => optB (slD x' l h) fun d => .ok (d, env3)) ∧
    (∀ a env, (ev T call (.rev a)).e env = ((ev T call a).e env).bnd fun x env1 => optB (revD x) fun d => .ok (d, env1)) ∧
    (∀ vs tg it cond elt env, (ev T call (.lc vs tg it cond elt)).e env = ((ev T call it).i env).bnd fun xs env1 => evLc vs (lockOf it) (lcStep vs tg (ev T call cond).c (ev T call elt).v) xs env1) := by
  refine ⟨?_, ?_, ?_, ?_, ?_, ?_, ?_, ?_, ?_, ?_, ?_⟩ <;> intros <;> rfl
/-! the places -/
theorem vv : (∀ a, (ev T call (.var a)).v = (ev T call (.var a)).e) ∧
    (∀ a, (ev T call (.mv a)).v = (ev T call (.mv a)).e) ∧
    (∀ a, (ev T call (.kc a)).v = (ev T call (.kc a)).e) ∧
    (∀ a, (ev T call (.gl a)).v = (ev T call (.gl a)).e) ∧
    (∀ a, (ev T call (.tup a)).v = (ev T call (.tup a)).e) ∧
    (∀ a, (ev T call (.lst a)).v = (ev T call (.lst a)).e) ∧
    (∀ a b, (ev T call (.call a b)).v = (ev T call (.call a b)).e) ∧
    (∀ a, (ev T call (.call0 a)).v = (ev T call (.call0 a)).e) ∧
    (∀ a b c, (ev T call (.callx a b c)).v = (ev T call (.callx a b c)).e) ∧
    (∀ a b, (ev T call (.b1 a b)).v = (ev T call (.b1 a b)).e) ∧
    (∀ a b c, (ev T call (.b2 a b c)).v = (ev T call (.b2 a b c)).e) ∧
    (∀ a b c, (ev T call (.m1 a b c)).v = (ev T call (.m1 a b c)).e) ∧
    (∀ a b c, (ev T call (.mm a b c)).v = (ev T call (.mm a b c)).e) ∧
    (∀ a b c, (ev T call (.bin a b c)).v = (ev T call (.bin a b c)).e) ∧
    (∀ a, (ev T call (.neg a)).v = (ev T call (.neg a)).e) ∧
    (∀ a b c, (ev T call (.cmp a b c)).v = (ev T call (.cmp a b c)).e) ∧
    (∀ a b c d e, (ev T call (.chain a b c d e)).v = (ev T call (.chain a b c d e)).e) ∧
    (∀ a b c, (ev T call (.isC a b c)).v = (ev T call (.isC a b c)).e) ∧
    (∀ a b, (ev T call (.isi a b)).v = (ev T call (.isi a b)).e) ∧
    (∀ a, (ev T call (.nt a)).v = (ev T call (.nt a)).e) ∧
    (∀ a b, (ev T call (.and a b)).v = (ev T call (.and a b)).e) ∧
    (∀ a b, (ev T call (.or a b)).v = (ev T call (.or a b)).e) ∧
    (∀ a b c, (ev T call (.ite a b c)).v = (ev T call (.ite a b c)).e) ∧
    (∀ a b, (ev T call (.idx a b)).v = (ev T call (.idx a b)).e) ∧
    (∀ a b c, (ev T call (.sl a b c)).v = (ev T call (.sl a b c)).e) ∧
    (∀ a, (ev T call (.rev a)).v = (ev T call (.rev a)).e) ∧
    (∀ a b c d e, (ev T call (.lc a b c d e)).v = (ev T call (.lc a b c d e)).e) := by
  refine ⟨?_, ?_, ?_, ?_, ?_, ?_, ?_, ?_, ?_, ?_, ?_, ?_, ?_, ?_, ?_, ?_, ?_, ?_, ?_, ?_, ?_, ?_, ?_, ?_, ?_, ?_, ?_⟩ <;> intros <;> rfl
theorem vm : (∀ a, (ev T call (.var a)).m = (ev T call (.var a)).e) ∧
    (∀ a, (ev T call (.mv a)).m = (ev T call (.mv a)).e) ∧
    (∀ a, (ev T call (.kc a)).m = (ev T call (.kc a)).e) ∧
    (∀ a, (ev T call (.gl a)).m = (ev T call (.gl a)).e) ∧
    (∀ a, (ev T call (.tup a)).m = (ev T call (.tup a)).e) ∧
    (∀ a, (ev T call (.lst a)).m = (ev T call (.lst a)).e) ∧
    (∀ a b, (ev T call (.call a b)).m = (ev T call (.call a b)).e) ∧
    (∀ a, (ev T call (.call0 a)).m = (ev T call (.call0 a)).e) ∧
    (∀ a b c, (ev T call (.callx a b c)).m = (ev T call (.callx a b c)).e) ∧
    (∀ a b, (ev T call (.b1 a b)).m = (ev T call (.b1 a b)).e) ∧
    (∀ a b c, (ev T call (.b2 a b c)).m = (ev T call (.b2 a b c)).e) ∧
    (∀ a b c, (ev T call (.m1 a b c)).m = (ev T call (.m1 a b c)).e) ∧
    (∀ a b c, (ev T call (.mm a b c)).m = (ev T call (.mm a b c)).e) ∧
    (∀ a b c, (ev T call (.bin a b c)).m = (ev T call (.bin a b c)).e) ∧
    (∀ a, (ev T call (.neg a)).m = (ev T call (.neg a)).e) ∧
    (∀ a b c, (ev T call (.cmp a b c)).m = (ev T call (.cmp a b c)).e) ∧
    (∀ a b c d e, (ev T call (.chain a b c d e)).m = (ev T call (.chain a b c d e)).e) ∧
    (∀ a b c, (ev T call (.isC a b c)).m = (ev T call (.isC a b c)).e) ∧
    (∀ a b, (ev T call (.isi a b)).m = (ev T call (.isi a b)).e) ∧
    (∀ a, (ev T call (.nt a)).m = (ev T call (.nt a)).e) ∧
    (∀ a b, (ev T call (.and a b)).m = (ev T call (.and a b)).e) ∧
    (∀ a b, (ev T call (.or a b)).m = (ev T call (.or a b)).e) ∧
    (∀ a b c, (ev T call (.ite a b c)).m = (ev T call (.ite a b c)).e) ∧
    (∀ a b, (ev T call (.idx a b)).m = (ev T call (.idx a b)).e) ∧
    (∀ a b c, (ev T call (.sl a b c)).m = (ev T call (.sl a b c)).e) ∧
    (∀ a, (ev T call (.rev a)).m = (ev T call (.rev a)).e) ∧
    (∀ a b c d e, (ev T call (.lc a b c d e)).m = (ev T call (.lc a b c d e)).e) := by
  refine ⟨?_, ?_, ?_, ?_, ?_, ?_, ?_, ?_, ?_, ?_, ?_, ?_, ?_, ?_, ?_, ?_, ?_, ?_, ?_, ?_, ?_, ?_, ?_, ?_, ?_, ?_, ?_⟩ <;> intros <;> rfl
theorem vt : (∀ a env, (ev T call (.var a)).t env = ((ev T call (.var a)).e env).bnd truB) ∧
    (∀ a env, (ev T call (.mv a)).t env = ((ev T call (.mv a)).e env).bnd truB) ∧
    (∀ a env, (ev T call (.kc a)).t env = ((ev T call (.kc a)).e env).bnd truB) ∧
    (∀ a env, (ev T call (.gl a)).t env = ((ev T call (.gl a)).e env).bnd truB) ∧
    (∀ a env, (ev T call (.tup a)).t env = ((ev T call (.tup a)).e env).bnd truB) ∧
    (∀ a env, (ev T call (.lst a)).t env = ((ev T call (.lst a)).e env).bnd truB) ∧
    (∀ a b env, (ev T call (.call a b)).t env = ((ev T call (.call a b)).e env).bnd truB) ∧
    (∀ a env, (ev T call (.call0 a)).t env = ((ev T call (.call0 a)).e env).bnd truB) ∧
    (∀ a b c env, (ev T call (.callx a b c)).t env = ((ev T call (.callx a b c)).e env).bnd truB) ∧
    (∀ a b env, (ev T call (.b1 a b)).t env = ((ev T call (.b1 a b)).e env).bnd truB) ∧
    (∀ a b c env, (ev T call (.b2 a b c)).t env = ((ev T call (.b2 a b c)).e env).bnd truB) ∧
    (∀ a b c env, (ev T call (.m1 a b c)).t env = ((ev T call (.m1 a b c)).e env).bnd truB) ∧
    (∀ a b c env, (ev T call (.mm a b c)).t env = ((ev T call (.mm a b c)).e env).bnd truB) ∧
    (∀ a b c env, (ev T call (.bin a b c)).t env = ((ev T call (.bin a b c)).e env).bnd truB) ∧
    (∀ a env, (ev T call (.neg a)).t env = ((ev T call (.neg a)).e env).bnd truB) ∧
    (∀ a b c env, (ev T call (.cmp a b c)).t env = ((ev T call (.cmp a b c)).e env).bnd truB) ∧
    (∀ a b c d e env, (ev T call (.chain a b c d e)).t env = ((ev T call (.chain a b c d e)).e env).bnd truB) ∧
    (∀ a b c env, (ev T call (.isC a b c)).t env = ((ev T call (.isC a b c)).e env).bnd truB) ∧
    (∀ a b env, (ev T call (.isi a b)).t env = ((ev T call (.isi a b)).e env).bnd truB) ∧
    (∀ a b c env, (ev T call (.ite a b c)).t env = ((ev T call (.ite a b c)).e env).bnd truB) ∧
    (∀ a b env, (ev T call (.idx a b)).t env = ((ev T call (.idx a b)).e env).bnd truB) ∧
    (∀ a b c env, (ev T call (.sl a b c)).t env = ((ev T call (.sl a b c)).e env).bnd truB) ∧
    (∀ a env, (ev T call (.rev a)).t env = ((ev T call (.rev a)).e env).bnd truB) ∧
    (∀ a b c d e env, (ev T call (.lc a b c d e)).t env = ((ev T call (.lc a b c d e)).e env).bnd truB) ∧
    (∀ a env, (ev T call (.bor a)).t env = ((ev T call (.bor a)).e env).bnd truB) := by
  refine ⟨?_, ?_, ?_, ?_, ?_, ?_, ?_, ?_, ?_, ?_, ?_, ?_, ?_, ?_, ?_, ?_, ?_, ?_, ?_, ?_, ?_, ?_, ?_, ?_, ?_⟩ <;> intros <;> rfl
theorem vc : (∀ a env, (ev T call (.var a)).c env = ((ev T call (.var a)).e env).bnd truB) ∧
    (∀ a env, (ev T call (.mv a)).c env = ((ev T call (.mv a)).e env).bnd truB) ∧
    (∀ a env, (ev T call (.kc a)).c env = ((ev T call (.kc a)).e env).bnd truB) ∧
    (∀ a env, (ev T call (.gl a)).c env = ((ev T call (.gl a)).e env).bnd truB) ∧
    (∀ a env, (ev T call (.tup a)).c env = ((ev T call (.tup a)).e env).bnd truB) ∧
    (∀ a env, (ev T call (.lst a)).c env = ((ev T call (.lst a)).e env).bnd truB) ∧
    (∀ a b env, (ev T call (.call a b)).c env = ((ev T call (.call a b)).e env).bnd truB) ∧
    (∀ a env, (ev T call (.call0 a)).c env = ((ev T call (.call0 a)).e env).bnd truB) ∧
    (∀ a b c env, (ev T call (.callx a b c)).c env = ((ev T call (.callx a b c)).e env).bnd truB) ∧
    (∀ a b env, (ev T call (.b1 a b)).c env = ((ev T call (.b1 a b)).e env).bnd truB) ∧
    (∀ a b c env, (ev T call (.b2 a b c)).c env = ((ev T call (.b2 a b c)).e env).bnd truB) ∧
    (∀ a b c env, (ev T call (.m1 a b c)).c env = ((ev T call (.m1 a b c)).e env).bnd truB) ∧
    (∀ a b c env, (ev T call (.mm a b c)).c env = ((ev T call (.mm a b c)).e env).bnd truB) ∧
    (∀ a b c env, (ev T call (.bin a b c)).c env = ((ev T call (.bin a b c)).e env).bnd truB) ∧
    (∀ a env, (ev T call (.neg a)).c env = ((ev T call (.neg a)).e env).bnd truB) ∧
    (∀ a b c env, (ev T call (.cmp a b c)).c env = ((ev T call (.cmp a b c)).e env).bnd truB) ∧
    (∀ a b c d e env, (ev T call (.chain a b c d e)).c env = ((ev T call (.chain a b c d e)).e env).bnd truB) ∧
    (∀ a b c env, (ev T call (.isC a b c)).c env = ((ev T call (.isC a b c)).e env).bnd truB) ∧
    (∀ a b env, (ev T call (.isi a b)).c env = ((ev T call (.isi a b)).e env).bnd truB) ∧
    (∀ a b c env, (ev T call (.ite a b c)).c env = ((ev T call (.ite a b c)).e env).bnd truB) ∧
    (∀ a b env, (ev T call (.idx a b)).c env = ((ev T call (.idx a b)).e env).bnd truB) ∧
    (∀ a b c env, (ev T call (.sl a b c)).c env = ((ev T call (.sl a b c)).e env).bnd truB) ∧
    (∀ a env, (ev T call (.rev a)).c env = ((ev T call (.rev a)).e env).bnd truB) ∧
    (∀ a b c d e env, (ev T call (.lc a b c d e)).c env = ((ev T call (.lc a b c d e)).e env).bnd truB) ∧
    (∀ a env, (ev T call (.bor a)).c env = ((ev T call (.bor a)).e env).bnd truB) := by
  refine ⟨?_, ?_, ?_, ?_, ?_, ?_, ?_, ?_, ?_, ?_, ?_, ?_, ?_, ?_, ?_, ?_, ?_, ?_, ?_, ?_, ?_, ?_, ?_, ?_, ?_⟩ <;> intros <;> rfl
theorem vi : (∀ a env, (ev T call (.var a)).i env = ((ev T call (.var a)).e env).bnd fun x env1 => optB (itemsD x) fun xs => .ok (xs, env1)) ∧
    (∀ a env, (ev T call (.bor a)).i env = ((ev T call (.bor a)).e env).bnd fun x env1 => optB (itemsD x) fun xs => .ok (xs, env1)) ∧
    (∀ a env, (ev T call (.mv a)).i env = ((ev T call (.mv a)).e env).bnd fun x env1 => optB (itemsD x) fun xs => .ok (xs, env1)) ∧
    (∀ a env, (ev T call (.kc a)).i env = ((ev T call (.kc a)).e env).bnd fun x env1 => optB (itemsD x) fun xs => .ok (xs, env1)) ∧
    (∀ a env, (ev T call (.gl a)).i env = ((ev T call (.gl a)).e env).bnd fun x env1 => optB (itemsD x) fun xs => .ok (xs, env1)) ∧
    (∀ a env, (ev T call (.tup a)).i env = ((ev T call (.tup a)).e env).bnd fun x env1 => optB (itemsD x) fun xs => .ok (xs, env1)) ∧
    (∀ a env, (ev T call (.lst a)).i env = ((ev T call (.lst a)).e env).bnd fun x env1 => optB (itemsD x) fun xs => .ok (xs, env1)) ∧
    (∀ a b env, (ev T call (.call a b)).i env = ((ev T call (.call a b)).e env).bnd fun x env1 => optB (itemsD x) fun xs => .ok (xs, env1)) ∧
    (∀ a env, (ev T call (.call0 a)).i env = ((ev T call (.call0 a)).e env).bnd fun x env1 => optB (itemsD x) fun xs => .ok (xs, env1)) ∧
    (∀ a b c env, (ev T call (.callx a b c)).i env = ((ev T call (.callx a b c)).e env).bnd fun x env1 => optB (itemsD x) fun xs => .ok (xs, env1)) ∧
    (∀ a b env, (ev T call (.b1 a b)).i env = ((ev T call (.b1 a b)).e env).bnd fun x env1 => optB (itemsD x) fun xs => .ok (xs, env1)) ∧
    (∀ a b c env, (ev T call (.m1 a b c)).i env = ((ev T call (.m1 a b c)).e env).bnd fun x env1 => optB (itemsD x) fun xs => .ok (xs, env1)) ∧
    (∀ a b c env, (ev T call (.mm a b c)).i env = ((ev T call (.mm a b c)).e env).bnd fun x env1 => optB (itemsD x) fun xs => .ok (xs, env1)) ∧
    (∀ a b c env, (ev T call (.bin a b c)).i env = ((ev T call (.bin a b c)).e env).bnd fun x env1 => optB (itemsD x) fun xs => .ok (xs, env1)) ∧
    (∀ a b c env, (ev T call (.ite a b c)).i env = ((ev T call (.ite a b c)).e env).bnd fun x env1 => optB (itemsD x) fun xs => .ok (xs, env1)) ∧
    (∀ a b env, (ev T call (.idx a b)).i env = ((ev T call (.idx a b)).e env).bnd fun x env1 => optB (itemsD x) fun xs => .ok (xs, env1)) ∧
    (∀ a b c env, (ev T call (.sl a b c)).i env = ((ev T call (.sl a b c)).e env).bnd fun x env1 => optB (itemsD x) fun xs => .ok (xs, env1)) ∧
    (∀ a env, (ev T call (.rev a)).i env = ((ev T call (.rev a)).e env).bnd fun x env1 => optB (itemsD x) fun xs => .ok (xs, env1)) ∧
    (∀ a b c d e env, (ev T call (.lc a b c d e)).i env = ((ev T call (.lc a b c d e)).e env).bnd fun x env1 => optB (itemsD x) fun xs => .ok (xs, env1)) := by
  refine ⟨?_, ?_, ?_, ?_, ?_, ?_, ?_, ?_, ?_, ?_, ?_, ?_, ?_, ?_, ?_, ?_, ?_, ?_, ?_⟩ <;> intros <;> rfl
theorem vp : (∀ a env, (ev T call (.var a)).p env = ((ev T call (.var a)).e env).bnd fun x env1 => intB x fun i => .ok (some i, env1)) ∧
    (∀ a env, (ev T call (.bor a)).p env = ((ev T call (.bor a)).e env).bnd fun x env1 => intB x fun i => .ok (some i, env1)) ∧
    (∀ a env, (ev T call (.kc a)).p env = ((ev T call (.kc a)).e env).bnd fun x env1 => intB x fun i => .ok (some i, env1)) ∧
    (∀ a env, (ev T call (.gl a)).p env = ((ev T call (.gl a)).e env).bnd fun x env1 => intB x fun i => .ok (some i, env1)) ∧
    (∀ a b env, (ev T call (.call a b)).p env = ((ev T call (.call a b)).e env).bnd fun x env1 => intB x fun i => .ok (some i, env1)) ∧
    (∀ a b env, (ev T call (.b1 a b)).p env = ((ev T call (.b1 a b)).e env).bnd fun x env1 => intB x fun i => .ok (some i, env1)) ∧
    (∀ a b c env, (ev T call (.b2 a b c)).p env = ((ev T call (.b2 a b c)).e env).bnd fun x env1 => intB x fun i => .ok (some i, env1)) ∧
    (∀ a b c env, (ev T call (.m1 a b c)).p env = ((ev T call (.m1 a b c)).e env).bnd fun x env1 => intB x fun i => .ok (some i, env1)) ∧
    (∀ a b c env, (ev T call (.bin a b c)).p env = ((ev T call (.bin a b c)).e env).bnd fun x env1 => intB x fun i => .ok (some i, env1)) ∧
    (∀ a env, (ev T call (.neg a)).p env = ((ev T call (.neg a)).e env).bnd fun x env1 => intB x fun i => .ok (some i, env1)) ∧
    (∀ a b c env, (ev T call (.ite a b c)).p env = ((ev T call (.ite a b c)).e env).bnd fun x env1 => intB x fun i => .ok (some i, env1)) ∧
    (∀ a b env, (ev T call (.idx a b)).p env = ((ev T call (.idx a b)).e env).bnd fun x env1 => intB x fun i => .ok (some i, env1)) := by
  refine ⟨?_, ?_, ?_, ?_, ?_, ?_, ?_, ?_, ?_, ?_, ?_, ?_⟩ <;> intros <;> rfl
theorem va : (∀ a r env, (ev T call (.cons (.var a) r)).a env = ((ev T call (.var a)).v env).bnd fun d env1 => ((ev T call r).a env1).bnd fun ds env2 => .ok (.v d :: ds, env2)) ∧
    (∀ a r env, (ev T call (.cons (.mv a) r)).a env = ((ev T call (.mv a)).v env).bnd fun d env1 => ((ev T call r).a env1).bnd fun ds env2 => .ok (.v d :: ds, env2)) ∧
    (∀ a r env, (ev T call (.cons (.kc a) r)).a env = ((ev T call (.kc a)).v env).bnd fun d env1 => ((ev T call r).a env1).bnd fun ds env2 => .ok (.v d :: ds, env2)) ∧
    (∀ a r env, (ev T call (.cons (.gl a) r)).a env = ((ev T call (.gl a)).v env).bnd fun d env1 => ((ev T call r).a env1).bnd fun ds env2 => .ok (.v d :: ds, env2)) ∧
    (∀ a r env, (ev T call (.cons (.tup a) r)).a env = ((ev T call (.tup a)).v env).bnd fun d env1 => ((ev T call r).a env1).bnd fun ds env2 => .ok (.v d :: ds, env2)) ∧
    (∀ a r env, (ev T call (.cons (.lst a) r)).a env = ((ev T call (.lst a)).v env).bnd fun d env1 => ((ev T call r).a env1).bnd fun ds env2 => .ok (.v d :: ds, env2)) ∧
    (∀ a b r env, (ev T call (.cons (.call a b) r)).a env = ((ev T call (.call a b)).v env).bnd fun d env1 => ((ev T call r).a env1).bnd fun ds env2 => .ok (.v d :: ds, env2)) ∧
    (∀ a r env, (ev T call (.cons (.call0 a) r)).a env = ((ev T call (.call0 a)).v env).bnd fun d env1 => ((ev T call r).a env1).bnd fun ds env2 => .ok (.v d :: ds, env2)) ∧
    (∀ a b c r env, (ev T call (.cons (.callx a b c) r)).a env = ((ev T call (.callx a b c)).v env).bnd fun d env1 => ((ev T call r).a env1).bnd fun ds env2 => .ok (.v d :: ds, env2)) ∧
    (∀ a b r env, (ev T call (.cons (.b1 a b) r)).a env = ((ev T call (.b1 a b)).v env).bnd fun d env1 => ((ev T call r).a env1).bnd fun ds env2 => .ok (.v d :: ds, env2)) ∧
    (∀ a b c r env, (ev T call (.cons (.b2 a b c) r)).a env = ((ev T call (.b2 a b c)).v env).bnd fun d env1 => ((ev T call r).a env1).bnd fun ds env2 => .ok (.v d :: ds, env2)) ∧
    (∀ a b c r env, (ev T call (.cons (.m1 a b c) r)).a env = ((ev T call (.m1 a b c)).v env).bnd fun d env1 => ((ev T call r).a env1).bnd fun ds env2 => .ok (.v d :: ds, env2)) ∧
    (∀ a b c r env, (ev T call (.cons (.mm a b c) r)).a env = ((ev T call (.mm a b c)).v env).bnd fun d env1 => ((ev T call r).a env1).bnd fun ds env2 => .ok (.v d :: ds, env2)) ∧
    (∀ a b c r env, (ev T call (.cons (.bin a b c) r)).a env = ((ev T call (.bin a b c)).v env).bnd fun d env1 => ((ev T call r).a env1).bnd fun ds env2 => .ok (.v d :: ds, env2)) ∧
    (∀ a r env, (ev T call (.cons (.neg a) r)).a env = ((ev T call (.neg a)).v env).bnd fun d env1 => ((ev T call r).a env1).bnd fun ds env2 => .ok (.v d :: ds, env2)) ∧
    (∀ a b c r env, (ev T call (.cons (.cmp a b c) r)).a env = ((ev T call (.cmp a b c)).v env).bnd fun d env1 => ((ev T call r).a env1).bnd fun ds env2 => .ok (.v d :: ds, env2)) ∧
    (∀ a b c d e r env, (ev T call (.cons (.chain a b c d e) r)).a env = ((ev T call (.chain a b c d e)).v env).bnd fun d env1 => ((ev T call r).a env1).bnd fun ds env2 => .ok (.v d :: ds, env2)) ∧
    (∀ a b c r env, (ev T call (.cons (.isC a b c) r)).a env = ((ev T call (.isC a b c)).v env).bnd fun d env1 => ((ev T call r).a env1).bnd fun ds env2 => .ok (.v d :: ds, env2)) ∧
    (∀ a b r env, (ev T call (.cons (.isi a b) r)).a env = ((ev T call (.isi a b)).v env).bnd fun d env1 => ((ev T call r).a env1).bnd fun ds env2 => .ok (.v d :: ds, env2)) ∧
    (∀ a r env, (ev T call (.cons (.nt a) r)).a env = ((ev T call (.nt a)).v env).bnd fun d env1 => ((ev T call r).a env1).bnd fun ds env2 => .ok (.v d :: ds, env2)) ∧
    (∀ a b r env, (ev T call (.cons (.and a b) r)).a env = ((ev T call (.and a b)).v env).bnd fun d env1 => ((ev T call r).a env1).bnd fun ds env2 => .ok (.v d :: ds, env2)) ∧
    (∀ a b r env, (ev T call (.cons (.or a b) r)).a env = ((ev T call (.or a b)).v env).bnd fun d env1 => ((ev T call r).a env1).bnd fun ds env2 => .ok (.v d :: ds, env2)) ∧
    (∀ a b c r env, (ev T call (.cons (.ite a b c) r)).a env = ((ev T call (.ite a b c)).v env).bnd fun d env1 => ((ev T call r).a env1).bnd fun ds env2 => .ok (.v d :: ds, env2)) ∧
    (∀ a b r env, (ev T call (.cons (.idx a b) r)).a env = ((ev T call (.idx a b)).v env).bnd fun d env1 => ((ev T call r).a env1).bnd fun ds env2 => .ok (.v d :: ds, env2)) ∧
    (∀ a b c r env, (ev T call (.cons (.sl a b c) r)).a env = ((ev T call (.sl a b c)).v env).bnd fun d env1 => ((ev T call r).a env1).bnd fun ds env2 => .ok (.v d :: ds, env2)) ∧
    (∀ a r env, (ev T call (.cons (.rev a) r)).a env = ((ev T call (.rev a)).v env).bnd fun d env1 => ((ev T call r).a env1).bnd fun ds env2 => .ok (.v d :: ds, env2)) ∧
    (∀ a b c d e r env, (ev T call (.cons (.lc a b c d e) r)).a env = ((ev T call (.lc a b c d e)).v env).bnd fun d env1 => ((ev T call r).a env1).bnd fun ds env2 => .ok (.v d :: ds, env2)) := by
  refine ⟨?_, ?_, ?_, ?_, ?_, ?_, ?_, ?_, ?_, ?_, ?_, ?_, ?_, ?_, ?_, ?_, ?_, ?_, ?_, ?_, ?_, ?_, ?_, ?_, ?_, ?_, ?_⟩ <;> intros <;> rfl
theorem et : (∀ a env, (ev T call (.nt a)).t env = ((ev T call a).t env).bnd fun b env1 => .ok (!b, env1)) ∧
    (∀ a b env, (ev T call (.and a b)).t env = ((ev T call a).t env).bnd fun k env1 => match k with
      | true => (ev T call b).t env1
      | false => .ok (false, env1)) ∧
    (∀ a b env, (ev T call (.or a b)).t env = ((ev T call a).t env).bnd fun k env1 => match k with
      | true => .ok (true, env1)
      | false => (ev T call b).t env1) ∧
    (∀ a env, (ev T call (.nt a)).c env = ((ev T call a).t env).bnd fun b env1 => .ok (!b, env1)) ∧
    (∀ a b env, (ev T call (.and a b)).c env = (ev T call (.and a b)).t env) ∧ (∀ a b env, (ev T call (.or a b)).c env = (ev T call (.or a b)).t env) ∧ (∀ env, (ev T call .nil).c env = .ok (true, env)) := by
  refine ⟨?_, ?_, ?_, ?_, ?_, ?_, ?_⟩ <;> intros <;> rfl
theorem el : (∀ env, (ev T call .nil).l env = .ok ([], env)) ∧ (∀ x r env, (ev T call (.cons x r)).l env = ((ev T call x).v env).bnd fun d env1 => ((ev T call r).l env1).bnd fun ds env2 => .ok (d :: ds, env2)) ∧
    (∀ env, (ev T call .nil).a env = .ok ([], env)) ∧ (∀ env, (ev T call .nil).p env = .ok (Option.none, env)) ∧ (∀ env, (ev T call .nil).m env = .ok (.none, env)) ∧
    (∀ i r env, (ev T call (.cons (.io i) r)).a env = iteB (hasV env i) (((ev T call r).a env).bnd fun ds env2 => .ok (.s i :: ds, env2))) ∧
    (∀ a env, (ev T call (.rg1 a)).i env = ((ev T call a).e env).bnd fun x env1 => intB x fun n => optB (rangeD 0 n) fun xs => .ok (xs, env1)) ∧
    (∀ a b env, (ev T call (.rg2 a b)).i env = ((ev T call a).e env).bnd fun x env1 => ((ev T call b).e env1).bnd fun y env2 => intB x fun m => intB y fun n => optB (rangeD m n) fun xs => .ok (xs, env2)) ∧
    (∀ i env, (ev T call (.io i)).i env = evIo i env) := by
  refine ⟨?_, ?_, ?_, ?_, ?_, ?_, ?_, ?_, ?_⟩ <;> intros <;> rfl
/-- statements -/
theorem ss : (∀ env, (sv T call .skip).s env = .ok (.nx, env)) ∧ (∀ a b env, (sv T call (.seq a b)).s env = seqB ((sv T call a).s env) (sv T call b).s) ∧
    (∀ e env, (sv T call (.expr e)).s env = ((ev T call e).v env).bnd fun _ env1 => .ok (.nx, env1)) ∧ (∀ i e env, (sv T call (.asg i e)).s env = ((ev T call e).v env).bnd fun d env1 => setB (setv env1 i d)) ∧
    (∀ i e env, (sv T call (.asgO i e)).s env = iteB (fresh T e) (((ev T call e).v env).bnd fun d env1 => setB (setO env1 i d))) ∧ (∀ t e env, (sv T call (.unp t e)).s env = ((ev T call e).v env).bnd fun d env1 => setB (asgT t d env1)) ∧
    (∀ ts es env, (sv T call (.par ts es)).s env = iteB (parOk T ts es) (((ev T call es).l env).bnd fun ds env1 => setB (parSet env1 ts ds))) ∧
    (∀ i ix e env, (sv T call (.setI i ix e)).s env = ((ev T call e).v env).bnd fun d env1 => iteB (ownL env1 i) (((ev T call ix).v env1).bnd fun k env2 => intB k fun k => match putI env2 i k d with
      | .ok env3 => .ok (.nx, env3)
      | _ => .bad)) ∧
    (∀ i o e env, (sv T call (.aug i o e)).s env = match env[i]? with
      | some (.val x) => augB o i x env (ev T call e).v
      | _ => .bad) ∧
    (∀ e env, (sv T call (.ret e)).s env = ((ev T call e).v env).bnd fun d env1 => .ok (.ret d, env1)) ∧ (∀ env, (sv T call .retN).s env = .ok (.ret .none, env)) ∧
    (∀ c a b env, (sv T call (.ite c a b)).s env = ((ev T call c).t env).bnd fun k env1 => match k with
      | true => (sv T call a).s env1
      | false => (sv T call b).s env1) ∧
    (∀ t it b env, (sv T call (.for t it b)).s env = ((ev T call it).i env).bnd fun xs env1 => unlk env1 (lockOf it) (forLoop (eachB (sv T call b).s t) xs (lock env1 (lockOf it)))) ∧
    (∀ b h env, (sv T call (.tryx b h)).s env = tryB ((sv T call b).s env) (sv T call h).h) ∧ (∀ env, (sv T call .brk).s env = .ok (.brk, env)) ∧ (∀ env, (sv T call .cont).s env = .ok (.cont, env)) := by
  refine ⟨?_, ?_, ?_, ?_, ?_, ?_, ?_, ?_, ?_, ?_, ?_, ?_, ?_, ?_, ?_, ?_⟩ <;> intros <;> rfl
end
/-- a call's end -/
def finR (args : List Sl) (r : R Env (Fl × Env)) : Rc := match r with
  | .ok (.nx, env) => match finSl args env with
    | some outs => .ok (.none, outs)
    | none => .bad
  | .ok (.ret d, env) => match finSl args env with
    | some outs => .ok (d, outs)
    | none => .bad
  | .ok _ => .bad
  | .exc x env => match finSl args env with
    | some outs => .exc x outs
    | none => .bad
  | .bad => .bad
theorem call_fn {T : Tab} {k f : Nat} {g : Fn} {args : List Sl} (hg : T.fns[f]? = some g) (hl : args.length = g.ps.length) :
    callF T (k + 1) f args = finR args ((sv T (callF T k) g.body).s (args ++ List.replicate (g.N.length - args.length) .un)) := by
  show runFn T (callF T k) f args = _
  unfold runFn
  rw [hg]
  simp only
  rw [if_pos hl]
  rfl
theorem fr : (∀ args e outs, finSl args e = some outs → finR args (.ok (.nx, e)) = .ok (.none, outs)) ∧ (∀ args d e outs, finSl args e = some outs → finR args (.ok (.ret d, e)) = .ok (d, outs)) ∧ (∀ args x e outs, finSl args e = some outs → finR args (.exc x e) = .exc x outs) :=
  ⟨fun _ _ _ h => by simp only [finR, h], fun _ _ _ _ h => by simp only [finR, h], fun _ _ _ _ h => by simp only [finR, h]⟩
theorem sq : (∀ env f, seqB (.ok (.nx, env)) f = f env) ∧ (∀ d env f, seqB (.ok (.ret d, env)) f = .ok (.ret d, env)) ∧ (∀ env f, seqB (.ok (.brk, env)) f = .ok (.brk, env)) ∧ (∀ env f, seqB (.ok (.cont, env)) f = .ok (.cont, env)) ∧ (∀ x env f, seqB (.exc x env) f = .exc x env) :=
  ⟨fun _ _ => rfl, fun _ _ _ => rfl, fun _ _ => rfl, fun _ _ => rfl, fun _ _ _ => rfl⟩
/-! ### loops -/
theorem forLoop_inv {step : Da → Env → R Env (Fl × Env)} (I : Env → Prop) : ∀ {xs : List Da} {env : Env}, I env → (∀ x ∈ xs, ∀ env, I env → ∃ env', I env' ∧ (step x env = .ok (.nx, env') ∨ step x env = .ok (.cont, env'))) → ∃ env', I env' ∧ forLoop step xs env = .ok (.nx, env')
  | [], env, h0, _ => ⟨env, h0, rfl⟩
  | x :: xs, env, h0, h => by
    obtain ⟨env1, h1, e⟩ := h x List.mem_cons_self env h0
    obtain ⟨env2, h2, e2⟩ := forLoop_inv I (xs := xs) h1 fun y hy => h y (List.mem_cons_of_mem _ hy)
    refine ⟨env2, h2, ?_⟩
    unfold forLoop
    rcases e with e | e <;> rw [e] <;> exact e2
/-- .. turn by turn -/
theorem forLoop_fold {step : Da → Env → R Env (Fl × Env)} {α : Type} (st : α → Env) (f : Da → α → α) : ∀ {xs : List Da} {a : α}, (∀ x ∈ xs, ∀ a, step x (st a) = .ok (.nx, st (f x a)) ∨ step x (st a) = .ok (.cont, st (f x a))) → forLoop step xs (st a) = .ok (.nx, st (xs.foldl (fun a x => f x a) a))
  | [], a, _ => rfl
  | x :: xs, a, h => by
    have ih := forLoop_fold st f (xs := xs) (a := f x a) fun y hy => h y (List.mem_cons_of_mem _ hy)
    unfold forLoop
    rcases h x List.mem_cons_self a with e | e <;> rw [e] <;> exact ih
theorem lcLoop_map {step : Da → Env → R Env (Option Da × Env)} (g : Da → Option Da) : ∀ {xs : List Da} {env : Env}, (∀ x ∈ xs, step x env = .ok (g x, env)) → lcLoop step xs env = .ok (xs.filterMap g, env)
  | [], env, _ => rfl
  | x :: xs, env, h => by
    have ih := lcLoop_map g (xs := xs) (env := env) fun y hy => h y (List.mem_cons_of_mem _ hy)
    unfold lcLoop
    rw [h x List.mem_cons_self]
    show (lcLoop step xs env).bndX _ = _
    rw [ih, List.filterMap_cons]
    cases g x <;> rfl
/-- .. with a state -/
theorem lcLoop_inv {step : Da → Env → R Env (Option Da × Env)} (I : Env → Prop) (P : Da → Da → Prop) : ∀ {xs : List Da} {env : Env}, I env → (∀ x ∈ xs, ∀ env, I env → ∃ d env', I env' ∧ P x d ∧ step x env = .ok (some d, env')) →
    ∃ ds env', I env' ∧ ds.length = xs.length ∧ (∀ (i : Nat) x d, xs[i]? = some x → ds[i]? = some d → P x d) ∧ lcLoop step xs env = .ok (ds, env')
  | [], env, h0, _ => ⟨[], env, h0, rfl, (fun i x d e => by simp at e), rfl⟩
  | x :: xs, env, h0, h => by
    obtain ⟨d, env1, h1, p, e⟩ := h x List.mem_cons_self env h0
    obtain ⟨ds, env2, h2, l, q, e2⟩ := lcLoop_inv I P (xs := xs) h1 fun y hy => h y (List.mem_cons_of_mem _ hy)
    refine ⟨d :: ds, env2, h2, by rw [List.length_cons, List.length_cons, l], fun i y c e3 e4 => ?_, ?_⟩
    · cases i with
      | zero => simp at e3 e4; subst e3 e4; exact p
      | succ i => exact q i y c (by simpa using e3) (by simpa using e4)
    · unfold lcLoop
      rw [e]
      show (lcLoop step xs env1).bndX _ = _
      rw [e2]
      rfl
theorem filterMap_some {α β : Type} {f : α → β} (xs : List α) : xs.filterMap (fun x => some (f x)) = xs.map f := by
  induction xs with
  | nil => rfl
  | cons x xs ih => rw [List.filterMap_cons, ih]; rfl
end PI
end
section
set_option Elab.async false
set_option linter.all false
set_option maxRecDepth 100000
/-! PIpl: plain facts about values. -/
namespace PI
open PySem
def okS (x : Str) : Prop := PyData.strOk x = true
theorem fine_str {x : Str} : fine (.str x) = true ↔ okS x := by
  unfold fine SeqAt.shaped okS
  simp [PyData.canLay0, PyData.depth]
theorem lay_strs {xs : List Str} (h : ∀ x ∈ xs, okS x) : PyData.canLayAll0 (xs.map .str) = true := by
  induction xs with
  | nil => rfl
  | cons x xs ih =>
    simp only [List.map_cons, PyData.canLayAll0, PyData.canLay0, Bool.and_eq_true]
    exact ⟨h x List.mem_cons_self, ih fun y hy => h y (List.mem_cons_of_mem _ hy)⟩
theorem fine_strs {xs : List Str} (h : ∀ x ∈ xs, okS x) : fine (.list (xs.map .str)) = true := by
  unfold fine SeqAt.shaped
  simp only [PyData.canLay0, lay_strs h, Bool.true_and, decide_eq_true_eq]
  have : PyData.depthAll (xs.map PyData.str) = 0 := by
    clear h
    induction xs with
    | nil => rfl
    | cons x xs ih => simp only [List.map_cons, PyData.depthAll, PyData.depth, ih]; rfl
  simp only [PyData.depth, this]; omega
theorem any_strs {x : Str} {xs : List Str} : ((xs.map PyData.str).any fun z => PyData.eqv z (.str x)) = decide (x ∈ xs) := by
  induction xs with
  | nil => simp
  | cons y ys ih =>
    rw [List.map_cons, List.any_cons, ih]
    simp only [PyData.eqv, List.mem_cons]
    by_cases h : y = x
    · subst h; simp
    · have h2 : ¬ x = y := fun e => h e.symm
      simp [h, h2]
theorem in_list {x : Str} {xs : List Str} (hx : okS x) (h : ∀ x ∈ xs, okS x) : inD (.str x) (.list (xs.map .str)) = some (decide (x ∈ xs)) := by
  show (if (fine (.str x) && fine (.list (xs.map .str))) = true then some ((xs.map PyData.str).any fun z => PyData.eqv z (.str x)) else none) = _
  rw [fine_str.mpr hx, fine_strs h, any_strs]
  rfl
theorem in_tuple {x : Str} {xs : List Str} : inD (.str x) (.tuple (xs.map .str)) = some (decide (x ∈ xs)) := by
  show (if ((isScal (.str x) && (xs.map PyData.str).all isScal) || (fine (.str x) && fine (.tuple (xs.map PyData.str)))) = true then some ((xs.map PyData.str).any fun z => PyData.eqv z (.str x)) else none) = _
  have : (xs.map PyData.str).all isScal = true := by
    rw [List.all_map]; simp [isScal]
  rw [this, any_strs]
  rfl
end PI
end
section
set_option Elab.async false
set_option linter.all false
set_option maxRecDepth 100000
/-! PIew: more equations. -/
namespace PI
open PySem
variable (T : Tab)
theorem e0 (c : Calls) : (∀ f env, (ev T c (.call0 f)).e env = match c f [] with
      | .ok (d, _) => .ok (d, env)
      | .exc _ _ => .bad
      | .bad => .bad) := fun _ _ => rfl
theorem whl_eq (c : Calls) (e : E) (b : S) (env : PI.Env) : (sv T c (.whl e b)).s env = whLoop (ev T c e).t (sv T c b).s whMost env := by rw [sv]; rfl
theorem seq_nx {T : Tab} {c : Calls} {a b : S} {env env1 : PI.Env} (h : (sv T c a).s env = .ok (.nx, env1)) : (sv T c (.seq a b)).s env = (sv T c b).s env1 := by rw [(ss T c).2.1, h]; rfl
theorem seq_ret {T : Tab} {c : Calls} {a b : S} {env env1 : PI.Env} {d : Da} (h : (sv T c a).s env = .ok (.ret d, env1)) : (sv T c (.seq a b)).s env = .ok (.ret d, env1) := by rw [(ss T c).2.1, h]; rfl
theorem seq2_nx {T : Tab} {c : Calls} {a b r : S} {env env1 : PI.Env} (h : (sv T c (.seq a (.seq b .skip))).s env = .ok (.nx, env1)) : (sv T c (.seq a (.seq b r))).s env = (sv T c r).s env1 := by
  rw [(ss T c).2.1] at h ⊢
  cases h0 : (sv T c a).s env with
  | ok p =>
    obtain ⟨fl, e⟩ := p
    rw [h0] at h
    cases fl with
    | nx =>
      simp only [sq] at h ⊢
      rw [(ss T c).2.1] at h ⊢
      cases h1 : (sv T c b).s e with
      | ok p =>
        obtain ⟨fl, e'⟩ := p
        rw [h1] at h
        cases fl with
        | nx =>
          simp only [sq] at h ⊢
          have h4 : (sv T c .skip).s e' = .ok (.nx, e') := rfl
          rw [h4] at h
          cases h
          rfl
        | _ => cases h
      | _ => rw [h1] at h; cases h
    | _ => cases h
  | _ => rw [h0] at h; cases h
theorem range_small {n : Int} (h0 : 0 ≤ n) (h1 : n < 1000000) : rangeD 0 n = some ((List.range n.toNat).map fun k => .int (0 + (k : Nat))) := by
  unfold rangeD
  rw [if_pos (by omega), Int.sub_zero]
end PI
end
section
set_option Elab.async false
set_option linter.all false
set_option maxRecDepth 100000
/-! PIcl: closed calls, evaluated by the kernel. -/
namespace PI
open PySem
mutual
def eqB : Da → Da → Bool
  | .none, .none => true
  | .bool a, .bool b => decide (a = b)
  | .int a, .int b => decide (a = b)
  | .str a, .str b => decide (a = b)
  | .list a, .list b => eqBs a b
  | .tuple a, .tuple b => eqBs a b
  | _, _ => false
def eqBs : List Da → List Da → Bool
  | [], [] => true
  | x :: xs, y :: ys => eqB x y && eqBs xs ys
  | _, _ => false
end
mutual
theorem eqB_eq : ∀ (a b : Da), eqB a b = true → a = b
  | .none, b, h => by cases b <;> first | rfl | (simp [eqB] at h)
  | .bool a, b, h => by cases b <;> first | (simp [eqB] at h; done) | (rw [eqB] at h; rw [of_decide_eq_true h])
  | .int a, b, h => by cases b <;> first | (simp [eqB] at h; done) | (rw [eqB] at h; rw [of_decide_eq_true h])
  | .str a, b, h => by cases b <;> first | (simp [eqB] at h; done) | (rw [eqB] at h; rw [of_decide_eq_true h])
  | .list a, b, h => by
    cases b with
    | list b => rw [eqB] at h; rw [eqBs_eq a b h]
    | _ => simp [eqB] at h
  | .tuple a, b, h => by
    cases b with
    | tuple b => rw [eqB] at h; rw [eqBs_eq a b h]
    | _ => simp [eqB] at h
  | .dict a, b, h => by simp [eqB] at h
theorem eqBs_eq : ∀ (a b : List Da), eqBs a b = true → a = b
  | [], [], _ => rfl
  | [], _ :: _, h => by simp [eqBs] at h
  | _ :: _, [], h => by simp [eqBs] at h
  | x :: xs, y :: ys, h => by
    rw [eqBs, Bool.and_eq_true] at h
    rw [eqB_eq x y h.1, eqBs_eq xs ys h.2]
end
def unB : List Sl → Nat → Bool
  | [], 0 => true
  | .un :: r, n + 1 => unB r n
  | _, _ => false
theorem unB_eq : ∀ (o : List Sl) (n : Nat), unB o n = true → o = List.replicate n .un
  | [], 0, _ => rfl
  | [], _ + 1, h => by simp [unB] at h
  | .un :: r, 0, h => by simp [unB] at h
  | .un :: r, n + 1, h => by rw [unB] at h; rw [unB_eq r n h]; rfl
  | .val _ :: _, n, h => by cases n <;> simp [unB] at h
  | .own _ _ :: _, n, h => by cases n <;> simp [unB] at h
  | .scr _ :: _, n, h => by cases n <;> simp [unB] at h
  | .exc _ :: _, n, h => by cases n <;> simp [unB] at h
/-- the call gives d -/
def okIs (r : Rc) (n : Nat) (d : Da) : Bool := match r with
  | .ok (x, outs) => eqB x d && unB outs n
  | _ => false
theorem okIs_eq {r : Rc} {n : Nat} {d : Da} (h : okIs r n d = true) : r = .ok (d, List.replicate n .un) := by
  unfold okIs at h
  split at h
  · rw [Bool.and_eq_true] at h
    rw [eqB_eq _ _ h.1, unB_eq _ _ h.2]
  · cases h
/-- the call raises -/
def excIs (r : Rc) (n c : Nat) : Bool := match r with
  | .exc ⟨e, none⟩ outs => decide (e = c) && unB outs n
  | _ => false
theorem excIs_eq {r : Rc} {n c : Nat} (h : excIs r n c = true) : r = .exc ⟨c, none⟩ (List.replicate n .un) := by
  unfold excIs at h
  split at h
  · rw [Bool.and_eq_true] at h
    rw [of_decide_eq_true h.1, unB_eq _ _ h.2]
  · cases h
end PI
end
section
set_option Elab.async false
set_option linter.all false
set_option maxRecDepth 100000
/-! PItr: trees as plain data. -/
namespace PI
open PySem
inductive Tr where
  | nil
  | node (l : Tr) (k : Int) (r : Tr)
namespace Tr
def da : Tr → Da
  | nil => .none
  | node l k r => .tuple [l.da, .int k, r.da]
def size : Tr → Nat
  | nil => 0
  | node l _ r => l.size + 1 + r.size
def height : Tr → Nat
  | nil => 0
  | node l _ r => 1 + max l.height r.height
def rank : Tr → Nat
  | nil => 0
  | node l _ r => 1 + min l.rank r.rank
def mirror : Tr → Tr
  | nil => nil
  | node l k r => node r.mirror k l.mirror
def keys : Tr → List Int
  | nil => []
  | node l k r => l.keys ++ [k] ++ r.keys
/-- all keys are keys -/
def okK (t : Tr) : Prop := ∀ k ∈ t.keys, 0 ≤ k ∧ k ≤ 99
theorem height_le : ∀ t : Tr, t.height ≤ t.size
  | nil => Nat.le_refl _
  | node l k r => by
    have h1 := height_le l
    have h2 := height_le r
    simp only [height, size]
    omega
theorem okK_node {l r : Tr} {k : Int} (h : (node l k r).okK) : l.okK ∧ (0 ≤ k ∧ k ≤ 99) ∧ r.okK := by
  unfold okK keys at h
  exact ⟨fun x hx => h x (by simp [hx]), h k (by simp), fun x hx => h x (by simp [hx])⟩
theorem okK_mk {l r : Tr} {k : Int} (hl : l.okK) (hk : 0 ≤ k ∧ k ≤ 99) (hr : r.okK) : (node l k r).okK := by
  intro x hx
  simp only [keys, List.mem_append, List.mem_singleton] at hx
  rcases hx with (hx | hx) | hx
  · exact hl x hx
  · rw [hx]; exact hk
  · exact hr x hx
theorem lay_da : ∀ t : Tr, t.da.canLay0 = true
  | nil => rfl
  | node l k r => by
    have h1 := lay_da l
    have h2 := lay_da r
    simp only [da, PyData.canLay0, PyData.canLayAll0, h1, h2, Bool.and_self]
theorem depth_da : ∀ t : Tr, t.da.depth ≤ t.height
  | nil => Nat.le_refl _
  | node l k r => by
    have h1 := depth_da l
    have h2 := depth_da r
    simp only [da, height, PyData.depth, PyData.depthAll]
    omega
theorem fine_da {t : Tr} (h : t.height ≤ 64) : fine t.da = true := by
  unfold fine SeqAt.shaped
  rw [lay_da, Bool.true_and]
  exact decide_eq_true (Nat.le_trans (depth_da t) h)
theorem eqD_da {t : Tr} (h : t.height ≤ 64) : eqD t.da t.da = some true := by
  cases t with
  | nil => rfl
  | node l k r =>
    show (if (fine (node l k r).da && fine (node l k r).da) = true then some (PyData.eqv (node l k r).da (node l k r).da) else none) = _
    rw [fine_da h, SeqAt.eqv_refl _ (lay_da _)]
    rfl
end Tr
/-! what is a tree, for every value -/
mutual
def noD : Da → Bool
  | .dict _ => false
  | .list xs => noDs xs
  | .tuple xs => noDs xs
  | _ => true
def noDs : List Da → Bool
  | [] => true
  | x :: xs => noD x && noDs xs
end
theorem noDs_iff : ∀ {xs : List Da}, noDs xs = true ↔ ∀ x ∈ xs, noD x = true
  | [] => by simp [noDs]
  | x :: xs => by rw [noDs, Bool.and_eq_true, noDs_iff]; simp
theorem isTyOk_of {d : Da} (h : noD d = true) : isTyOk d = true := by cases d <;> first | rfl | (simp [noD] at h)
theorem noD_da : ∀ t : Tr, noD t.da = true
  | .nil => rfl
  | .node l k r => by simp only [Tr.da, noD, noDs, noD_da l, noD_da r, Bool.and_self]
def isIntD : Da → Bool
  | .int _ => true
  | _ => false
def keyB : Da → Bool
  | .int k => decide (0 ≤ k) && decide (k ≤ 99)
  | _ => false
def nodeOk : Da → Option (Da × Da)
  | .tuple [a, k, b] => if keyB k then some (a, b) else none
  | _ => none
/-- how many nodes; -1 if it is no tree; what waits lies on a stack -/
def walk : Nat → Nat → List Da → Int
  | 0, _, _ => -1
  | _ + 1, c, [] => c
  | n + 1, c, d :: st => match d with
    | .none => walk n c st
    | d => match nodeOk d with
      | some (a, b) => if c = 20 then -1 else walk n (c + 1) (b :: a :: st)
      | none => -1
def cntD (d : Da) : Int := walk 43 0 [d]
def isTreeB (d : Da) : Bool := decide (0 ≤ cntD d)
theorem walk_tree : ∀ (t : Tr) (n c : Nat) (st : List Da), t.okK → c + t.size ≤ 20 → walk (n + 2 * t.size + 1) c (t.da :: st) = walk n (c + t.size) st
  | .nil, n, c, st, _, _ => rfl
  | .node l k r, n, c, st, h, hc => by
    obtain ⟨hl, hk, hr⟩ := Tr.okK_node h
    simp only [Tr.size] at hc ⊢
    have e : walk (n + 2 * (l.size + 1 + r.size) + 1) c ((Tr.node l k r).da :: st) = walk (n + 2 * (l.size + 1 + r.size)) (c + 1) (r.da :: l.da :: st) := by
      have hk2 : keyB (.int k) = true := by unfold keyB; simp [hk.1, hk.2]
      show (match nodeOk (.tuple [l.da, .int k, r.da]) with
        | some (a, b) => if c = 20 then -1 else walk (n + 2 * (l.size + 1 + r.size)) (c + 1) (b :: a :: st)
        | none => -1) = _
      have e2 : nodeOk (.tuple [l.da, .int k, r.da]) = some (l.da, r.da) := by
        show (if keyB (.int k) = true then some (l.da, r.da) else none) = _
        rw [if_pos hk2]
      rw [e2]
      simp only
      rw [if_neg (by omega)]
    rw [e, show n + 2 * (l.size + 1 + r.size) = (n + 2 * l.size + 1) + 2 * r.size + 1 by omega, walk_tree r _ _ _ hr (by omega), walk_tree l _ _ _ hl (by omega)]
    congr 1
    omega
theorem walk_more : ∀ (n m c : Nat) (st : List Da), c ≤ 20 → 2 * (20 - c) + st.length < n → n ≤ m → walk n c st = walk m c st
  | 0, m, c, st, _, h, _ => by omega
  | n + 1, 0, c, st, _, _, h => by omega
  | n + 1, m + 1, c, [], _, _, _ => rfl
  | n + 1, m + 1, c, d :: st, hc, h, hm => by
    rw [List.length_cons] at h
    unfold walk
    split
    · exact walk_more n m c st hc (by omega) (by omega)
    · split
      · split
        · rfl
        · refine walk_more n m (c + 1) _ (by omega) ?_ (by omega)
          simp only [List.length_cons]
          omega
      · rfl
theorem cnt_tree {t : Tr} (h : t.okK) (hs : t.size ≤ 20) : cntD t.da = t.size := by
  have h1 := walk_tree t (42 - 2 * t.size) 0 [] h (by omega)
  unfold cntD
  rw [show 42 - 2 * t.size + 2 * t.size + 1 = 43 by omega] at h1
  rw [h1, Nat.zero_add]
  have : ∃ n, 42 - 2 * t.size = n + 1 := ⟨41 - 2 * t.size, by omega⟩
  obtain ⟨n, e⟩ := this
  rw [e]
  rfl
theorem isTree_da {t : Tr} (h : t.okK) (hs : t.size ≤ 20) : isTreeB t.da = true := by
  unfold isTreeB
  rw [cnt_tree h hs]
  simp
end PI
end
section
set_option Elab.async false
set_option linter.all false
set_option maxRecDepth 100000
/-! PItw: ways, rows of nodes, sorting: plain. -/
namespace PI
open PySem
theorem lcLoop_tmap {α : Type} {step : Da → PI.Env → R PI.Env (Option Da × PI.Env)} {env : PI.Env} (f g : α → Da) : ∀ (xs : List α), (∀ x ∈ xs, step (f x) env = .ok (some (g x), env)) → lcLoop step (xs.map f) env = .ok (xs.map g, env)
  | [], _ => rfl
  | x :: xs, h => by
    have ih := lcLoop_tmap f g xs fun y hy => h y (List.mem_cons_of_mem _ hy)
    rw [List.map_cons, List.map_cons]
    unfold lcLoop
    rw [h x List.mem_cons_self]
    show (lcLoop step (xs.map f) env).bndX _ = _
    rw [ih]
    rfl
theorem lcLoop_tfil {α : Type} {step : Da → PI.Env → R PI.Env (Option Da × PI.Env)} {env : PI.Env} (f g : α → Da) (p : α → Bool) : ∀ (xs : List α), (∀ x ∈ xs, step (f x) env = .ok (if p x then some (g x) else none, env)) → lcLoop step (xs.map f) env = .ok ((xs.filter p).map g, env)
  | [], _ => rfl
  | x :: xs, h => by
    have ih := lcLoop_tfil f g p xs fun y hy => h y (List.mem_cons_of_mem _ hy)
    rw [List.map_cons, List.filter_cons]
    unfold lcLoop
    rw [h x List.mem_cons_self]
    show (lcLoop step (xs.map f) env).bndX _ = _
    rw [ih]
    cases p x <;> rfl
/-! comparisons, tests, put together -/
section
variable {T : Tab} {c : Calls} {env env1 env2 : PI.Env}
theorem cmp_of {o : COp} {a b : E} {x y : Da} {r : Bool} (h1 : (ev T c a).e env = .ok (x, env1)) (h2 : (ev T c b).e env1 = .ok (y, env2)) (hr : rr a env2 x = some x) (hc : cmpD o x y = some r) : (ev T c (.cmp o a b)).e env = .ok (.bool r, env2) := by
  rw [(ee T c).2.2.2.2.2.2.2.2.2.2.2.2.2.2.2]
  unfold two
  rw [h1]
  show R.bnd ((ev T c b).e env1) _ = _
  rw [h2]
  show optB (rr a env2 x) _ = _
  rw [hr]
  show optB (cmpD o x y) _ = _
  rw [hc]
  rfl
theorem cmp_t {o : COp} {a b : E} {x y : Da} {r : Bool} (h1 : (ev T c a).e env = .ok (x, env1)) (h2 : (ev T c b).e env1 = .ok (y, env2)) (hr : rr a env2 x = some x) (hc : cmpD o x y = some r) : (ev T c (.cmp o a b)).t env = .ok (r, env2) := by
  have h := cmp_of h1 h2 hr hc
  show R.bnd ((ev T c (.cmp o a b)).e env) truB = _
  rw [h]
  rfl
theorem or_f {a b : E} {r : Bool} (h1 : (ev T c a).t env = .ok (false, env1)) (h2 : (ev T c b).t env1 = .ok (r, env2)) : (ev T c (.or a b)).t env = .ok (r, env2) := by
  show R.bnd ((ev T c a).t env) _ = _
  rw [h1]
  exact h2
theorem or_t {a b : E} (h1 : (ev T c a).t env = .ok (true, env1)) : (ev T c (.or a b)).t env = .ok (true, env1) := by
  show R.bnd ((ev T c a).t env) _ = _
  rw [h1]
  rfl
theorem and_t {a b : E} {r : Bool} (h1 : (ev T c a).t env = .ok (true, env1)) (h2 : (ev T c b).t env1 = .ok (r, env2)) : (ev T c (.and a b)).t env = .ok (r, env2) := by
  show R.bnd ((ev T c a).t env) _ = _
  rw [h1]
  exact h2
theorem and_f {a b : E} (h1 : (ev T c a).t env = .ok (false, env1)) : (ev T c (.and a b)).t env = .ok (false, env1) := by
  show R.bnd ((ev T c a).t env) _ = _
  rw [h1]
  rfl
theorem nt_of {a : E} {r : Bool} (h1 : (ev T c a).t env = .ok (r, env1)) : (ev T c (.nt a)).t env = .ok (!r, env1) := by
  show R.bnd ((ev T c a).t env) _ = _
  rw [h1]
  rfl
theorem if_f {e : E} {a b : S} (h : (ev T c e).t env = .ok (false, env1)) : (sv T c (.ite e a b)).s env = (sv T c b).s env1 := by
  show R.bnd ((ev T c e).t env) _ = _
  rw [h]
  rfl
theorem if_t {e : E} {a b : S} (h : (ev T c e).t env = .ok (true, env1)) : (sv T c (.ite e a b)).s env = (sv T c a).s env1 := by
  show R.bnd ((ev T c e).t env) _ = _
  rw [h]
  rfl
theorem lc_of {vs : List Nat} {tg : Tg} {it cond elt : E} {xs ds : List Da} (h1 : (ev T c it).i env = .ok (xs, env1)) (h2 : evLc vs (lockOf it) (lcStep vs tg (ev T c cond).c (ev T c elt).v) xs env1 = .ok (.list ds, env2)) : (ev T c (.lc vs tg it cond elt)).e env = .ok (.list ds, env2) := by
  show R.bnd ((ev T c it).i env) _ = _
  rw [h1]
  exact h2
theorem for_of {t : Tg} {it : E} {b : S} {xs : List Da} {r : R PI.Env (Fl × PI.Env)} (h1 : (ev T c it).i env = .ok (xs, env1)) (h2 : lockOf it = none) (h3 : forLoop (eachB (sv T c b).s t) xs env1 = r) : (sv T c (.for t it b)).s env = r := by
  show R.bnd ((ev T c it).i env) _ = _
  rw [h1]
  show unlk env1 (lockOf it) (forLoop (eachB (sv T c b).s t) xs (PI.lock env1 (lockOf it))) = _
  rw [h2]
  show unlk env1 none (forLoop (eachB (sv T c b).s t) xs env1) = _
  rw [h3]
  rcases r with ⟨⟨fl, e⟩⟩ | ⟨x, e⟩ | _ <;> rfl
end
/-! fine values -/
theorem lay_all {xs : List Da} (h : ∀ x ∈ xs, x.canLay0 = true) : PyData.canLayAll0 xs = true := by
  induction xs with
  | nil => rfl
  | cons x xs ih =>
    simp only [PyData.canLayAll0, Bool.and_eq_true]
    exact ⟨h x List.mem_cons_self, ih fun y hy => h y (List.mem_cons_of_mem _ hy)⟩
theorem depth_all {xs : List Da} {n : Nat} (h : ∀ x ∈ xs, x.depth ≤ n) : PyData.depthAll xs ≤ n := by
  induction xs with
  | nil => exact Nat.zero_le _
  | cons x xs ih =>
    simp only [PyData.depthAll]
    have := h x List.mem_cons_self
    have := ih fun y hy => h y (List.mem_cons_of_mem _ hy)
    omega
theorem fine_mk {d : Da} (h : d.canLay0 = true) (h2 : d.depth ≤ 64) : fine d = true := by
  unfold fine SeqAt.shaped
  rw [h, Bool.true_and]
  exact decide_eq_true h2
theorem fine_tup {xs : List Da} (h : ∀ x ∈ xs, x.canLay0 = true) (h2 : ∀ x ∈ xs, x.depth ≤ 60) : fine (.tuple xs) = true :=
  fine_mk (by simp only [PyData.canLay0]; exact lay_all h) (by simp only [PyData.depth]; have := depth_all h2; omega)
theorem fine_lst {xs : List Da} (h : ∀ x ∈ xs, x.canLay0 = true) (h2 : ∀ x ∈ xs, x.depth ≤ 60) : fine (.list xs) = true :=
  fine_mk (by simp only [PyData.canLay0]; exact lay_all h) (by simp only [PyData.depth]; have := depth_all h2; omega)
theorem eqD_self {d : Da} (h : fine d = true) : eqD d d = some true := by
  have hl : d.canLay0 = true := SeqAt.canLay_of_shaped h
  have hg : ∀ (e : scalEq d d = none), eqD d d = some true := by
    intro e
    unfold eqD
    rw [e]
    simp only
    rw [h, SeqAt.eqv_refl _ hl]
    rfl
  cases d with
  | none => rfl
  | bool b => unfold eqD scalEq; simp
  | int b => unfold eqD scalEq; simp
  | str b => unfold eqD scalEq; simp
  | list b => exact hg rfl
  | tuple b => exact hg rfl
  | dict b => exact hg rfl
theorem itl (xs : List Da) : itemsD (.list xs) = some xs := rfl
theorem itt (xs : List Da) : itemsD (.tuple xs) = some xs := rfl
theorem ix3_0 (a b c : Da) : idxD (.tuple [a, b, c]) (.int 0) = some a := rfl
theorem ix3_1 (a b c : Da) : idxD (.tuple [a, b, c]) (.int 1) = some b := rfl
theorem ix3_2 (a b c : Da) : idxD (.tuple [a, b, c]) (.int 2) = some c := rfl
theorem ix2_0 (a b : Da) : idxD (.tuple [a, b]) (.int 0) = some a := rfl
theorem ix2_1 (a b : Da) : idxD (.tuple [a, b]) (.int 1) = some b := rfl
theorem il2_0 (a b : Da) : idxD (.list [a, b]) (.int 0) = some a := rfl
theorem il2_1 (a b : Da) : idxD (.list [a, b]) (.int 1) = some b := rfl
theorem addI (a b : Int) : addD (.int a) (.int b) = some (.int (a + b)) := rfl
theorem tgn (i : Nat) (d : Da) (env : PI.Env) : asgT (.nm i) d env = setv env i d := rfl
theorem tgt (ts : Tg) (ds : List Da) (env : PI.Env) : asgT (.tup ts) (.tuple ds) env = asgTs ts ds env := rfl
theorem tgl (ts : Tg) (ds : List Da) (env : PI.Env) : asgT (.tup ts) (.list ds) env = asgTs ts ds env := rfl
theorem tsn (env : PI.Env) : asgTs .nil [] env = some env := rfl
theorem tsc (t ts : Tg) (d : Da) (ds : List Da) (env : PI.Env) : asgTs (.cons t ts) (d :: ds) env = match asgT t d env with
    | some env' => asgTs ts ds env'
    | none => none := rfl
theorem bnA (x y : Da) : binD .add x y = addD x y := rfl
theorem bnS (i j : Int) : binD .sub (.int i) (.int j) = some (.int (i - j)) := rfl
theorem bnM (i j : Int) : binD .mul (.int i) (.int j) = if mulOk i j then some (.int (i * j)) else none := rfl
theorem bnQ {i j : Int} (h : 0 < j) : binD .mod (.int i) (.int j) = some (.int (i % j)) := if_pos h
theorem bnF {i j : Int} (h : 0 < j) (h2 : j < 1000000) : binD .fdiv (.int i) (.int j) = some (.int (i / j)) := if_pos ⟨h, Int.lt_trans h2 (by decide)⟩
theorem bnR {a : List Da} {k : Int} (h0 : 0 ≤ k) (h : k < 1000000) (h2 : a.length ≤ 10) : binD .mul (.list a) (.int k) = some (.list (List.replicate k.toNat a).flatten) := if_pos ⟨by omega, by omega, by
  rw [sizeLine_eq]
  have : a.length * k.toNat ≤ 10 * 1000000 := Nat.mul_le_mul h2 (by omega)
  omega⟩
theorem mulOk_l {i j : Int} (h : -1000000 < i) (h2 : i < 1000000) : mulOk i j = true := by
  have : i.natAbs < 2 ^ 64 := by omega
  unfold mulOk
  rw [decide_eq_true this]
  rfl
theorem mulOk_r {i j : Int} (h : -1000000 < j) (h2 : j < 1000000) : mulOk i j = true := by
  have : j.natAbs < 2 ^ 64 := by omega
  unfold mulOk
  rw [decide_eq_true this, Bool.or_true]
  rfl
theorem il3_0 (a b c : Da) : idxD (.list [a, b, c]) (.int 0) = some a := rfl
theorem il3_1 (a b c : Da) : idxD (.list [a, b, c]) (.int 1) = some b := rfl
theorem il3_2 (a b c : Da) : idxD (.list [a, b, c]) (.int 2) = some c := rfl
theorem il4_0 (a b c d : Da) : idxD (.list [a, b, c, d]) (.int 0) = some a := rfl
theorem il4_1 (a b c d : Da) : idxD (.list [a, b, c, d]) (.int 1) = some b := rfl
theorem il4_2 (a b c d : Da) : idxD (.list [a, b, c, d]) (.int 2) = some c := rfl
theorem il4_3 (a b c d : Da) : idxD (.list [a, b, c, d]) (.int 3) = some d := rfl
theorem il5_0 (x0 x1 x2 x3 x4 : Da) : idxD (.list [x0, x1, x2, x3, x4]) (.int 0) = some x0 := rfl
theorem il5_1 (x0 x1 x2 x3 x4 : Da) : idxD (.list [x0, x1, x2, x3, x4]) (.int 1) = some x1 := rfl
theorem il5_2 (x0 x1 x2 x3 x4 : Da) : idxD (.list [x0, x1, x2, x3, x4]) (.int 2) = some x2 := rfl
theorem il5_3 (x0 x1 x2 x3 x4 : Da) : idxD (.list [x0, x1, x2, x3, x4]) (.int 3) = some x3 := rfl
theorem il5_4 (x0 x1 x2 x3 x4 : Da) : idxD (.list [x0, x1, x2, x3, x4]) (.int 4) = some x4 := rfl
theorem il6_0 (x0 x1 x2 x3 x4 x5 : Da) : idxD (.list [x0, x1, x2, x3, x4, x5]) (.int 0) = some x0 := rfl
theorem il6_1 (x0 x1 x2 x3 x4 x5 : Da) : idxD (.list [x0, x1, x2, x3, x4, x5]) (.int 1) = some x1 := rfl
theorem il6_2 (x0 x1 x2 x3 x4 x5 : Da) : idxD (.list [x0, x1, x2, x3, x4, x5]) (.int 2) = some x2 := rfl
theorem il6_3 (x0 x1 x2 x3 x4 x5 : Da) : idxD (.list [x0, x1, x2, x3, x4, x5]) (.int 3) = some x3 := rfl
theorem il6_4 (x0 x1 x2 x3 x4 x5 : Da) : idxD (.list [x0, x1, x2, x3, x4, x5]) (.int 4) = some x4 := rfl
theorem il6_5 (x0 x1 x2 x3 x4 x5 : Da) : idxD (.list [x0, x1, x2, x3, x4, x5]) (.int 5) = some x5 := rfl
theorem il7_0 (x0 x1 x2 x3 x4 x5 x6 : Da) : idxD (.list [x0, x1, x2, x3, x4, x5, x6]) (.int 0) = some x0 := rfl
theorem il7_1 (x0 x1 x2 x3 x4 x5 x6 : Da) : idxD (.list [x0, x1, x2, x3, x4, x5, x6]) (.int 1) = some x1 := rfl
theorem il7_2 (x0 x1 x2 x3 x4 x5 x6 : Da) : idxD (.list [x0, x1, x2, x3, x4, x5, x6]) (.int 2) = some x2 := rfl
theorem il7_3 (x0 x1 x2 x3 x4 x5 x6 : Da) : idxD (.list [x0, x1, x2, x3, x4, x5, x6]) (.int 3) = some x3 := rfl
theorem il7_4 (x0 x1 x2 x3 x4 x5 x6 : Da) : idxD (.list [x0, x1, x2, x3, x4, x5, x6]) (.int 4) = some x4 := rfl
theorem il7_5 (x0 x1 x2 x3 x4 x5 x6 : Da) : idxD (.list [x0, x1, x2, x3, x4, x5, x6]) (.int 5) = some x5 := rfl
theorem il7_6 (x0 x1 x2 x3 x4 x5 x6 : Da) : idxD (.list [x0, x1, x2, x3, x4, x5, x6]) (.int 6) = some x6 := rfl
theorem il8_0 (x0 x1 x2 x3 x4 x5 x6 x7 : Da) : idxD (.list [x0, x1, x2, x3, x4, x5, x6, x7]) (.int 0) = some x0 := rfl
theorem il8_1 (x0 x1 x2 x3 x4 x5 x6 x7 : Da) : idxD (.list [x0, x1, x2, x3, x4, x5, x6, x7]) (.int 1) = some x1 := rfl
theorem il8_2 (x0 x1 x2 x3 x4 x5 x6 x7 : Da) : idxD (.list [x0, x1, x2, x3, x4, x5, x6, x7]) (.int 2) = some x2 := rfl
theorem il8_3 (x0 x1 x2 x3 x4 x5 x6 x7 : Da) : idxD (.list [x0, x1, x2, x3, x4, x5, x6, x7]) (.int 3) = some x3 := rfl
theorem il8_4 (x0 x1 x2 x3 x4 x5 x6 x7 : Da) : idxD (.list [x0, x1, x2, x3, x4, x5, x6, x7]) (.int 4) = some x4 := rfl
theorem il8_5 (x0 x1 x2 x3 x4 x5 x6 x7 : Da) : idxD (.list [x0, x1, x2, x3, x4, x5, x6, x7]) (.int 5) = some x5 := rfl
theorem il8_6 (x0 x1 x2 x3 x4 x5 x6 x7 : Da) : idxD (.list [x0, x1, x2, x3, x4, x5, x6, x7]) (.int 6) = some x6 := rfl
theorem il8_7 (x0 x1 x2 x3 x4 x5 x6 x7 : Da) : idxD (.list [x0, x1, x2, x3, x4, x5, x6, x7]) (.int 7) = some x7 := rfl
theorem il9_0 (x0 x1 x2 x3 x4 x5 x6 x7 x8 : Da) : idxD (.list [x0, x1, x2, x3, x4, x5, x6, x7, x8]) (.int 0) = some x0 := rfl
theorem il9_1 (x0 x1 x2 x3 x4 x5 x6 x7 x8 : Da) : idxD (.list [x0, x1, x2, x3, x4, x5, x6, x7, x8]) (.int 1) = some x1 := rfl
theorem il9_2 (x0 x1 x2 x3 x4 x5 x6 x7 x8 : Da) : idxD (.list [x0, x1, x2, x3, x4, x5, x6, x7, x8]) (.int 2) = some x2 := rfl
theorem il9_3 (x0 x1 x2 x3 x4 x5 x6 x7 x8 : Da) : idxD (.list [x0, x1, x2, x3, x4, x5, x6, x7, x8]) (.int 3) = some x3 := rfl
theorem il9_4 (x0 x1 x2 x3 x4 x5 x6 x7 x8 : Da) : idxD (.list [x0, x1, x2, x3, x4, x5, x6, x7, x8]) (.int 4) = some x4 := rfl
theorem il9_5 (x0 x1 x2 x3 x4 x5 x6 x7 x8 : Da) : idxD (.list [x0, x1, x2, x3, x4, x5, x6, x7, x8]) (.int 5) = some x5 := rfl
theorem il9_6 (x0 x1 x2 x3 x4 x5 x6 x7 x8 : Da) : idxD (.list [x0, x1, x2, x3, x4, x5, x6, x7, x8]) (.int 6) = some x6 := rfl
theorem il9_7 (x0 x1 x2 x3 x4 x5 x6 x7 x8 : Da) : idxD (.list [x0, x1, x2, x3, x4, x5, x6, x7, x8]) (.int 7) = some x7 := rfl
theorem il9_8 (x0 x1 x2 x3 x4 x5 x6 x7 x8 : Da) : idxD (.list [x0, x1, x2, x3, x4, x5, x6, x7, x8]) (.int 8) = some x8 := rfl
theorem add_tups {xs ys : List Da} (h : xs.length + ys.length ≤ 16777216) : addD (.tuple xs) (.tuple ys) = some (.tuple (xs ++ ys)) := by
  show (if xs.length + ys.length ≤ sizeLine then some (PyData.tuple (xs ++ ys)) else none) = _
  rw [if_pos (by rw [sizeLine_eq]; exact h)]
theorem sl3_to0 (a b c : Da) : slD (.tuple [a, b, c]) none (some 0) = some (.tuple []) := rfl
theorem sl3_to1 (a b c : Da) : slD (.tuple [a, b, c]) none (some 1) = some (.tuple [a]) := rfl
theorem sl3_to2 (a b c : Da) : slD (.tuple [a, b, c]) none (some 2) = some (.tuple [a, b]) := rfl
theorem sl3_to_1 (a b c : Da) : slD (.tuple [a, b, c]) none (some (-1)) = some (.tuple [a, b]) := rfl
theorem sl3_from1 (a b c : Da) : slD (.tuple [a, b, c]) (some 1) none = some (.tuple [b, c]) := rfl
theorem sl3_from2 (a b c : Da) : slD (.tuple [a, b, c]) (some 2) none = some (.tuple [c]) := rfl
theorem sl3_from3 (a b c : Da) : slD (.tuple [a, b, c]) (some 3) none = some (.tuple []) := rfl
/-- a value that can be compared, to some depth -/
def goodV (n : Nat) (d : Da) : Prop := noD d = true ∧ d.canLay0 = true ∧ d.depth ≤ n
theorem goodV.mono {n m : Nat} {d : Da} (h : goodV n d) (hm : n ≤ m) : goodV m d := ⟨h.1, h.2.1, Nat.le_trans h.2.2 hm⟩
theorem goodV_tup {n : Nat} {xs : List Da} (h : ∀ x ∈ xs, goodV n x) : goodV (n + 1) (.tuple xs) :=
  ⟨by rw [noD]; exact noDs_iff.mpr fun x hx => (h x hx).1, by rw [PyData.canLay0]; exact lay_all fun x hx => (h x hx).2.1, by
    have := depth_all (n := n) fun x hx => (h x hx).2.2
    rw [PyData.depth]; omega⟩
theorem goodV_lst {n : Nat} {xs : List Da} (h : ∀ x ∈ xs, goodV n x) : goodV (n + 1) (.list xs) :=
  ⟨by rw [noD]; exact noDs_iff.mpr fun x hx => (h x hx).1, by rw [PyData.canLay0]; exact lay_all fun x hx => (h x hx).2.1, by
    have := depth_all (n := n) fun x hx => (h x hx).2.2
    rw [PyData.depth]; omega⟩
theorem lay_sub {xs : List Da} (h : PyData.canLayAll0 xs = true) : ∀ x ∈ xs, x.canLay0 = true := by
  induction xs with
  | nil => intro x hx; cases hx
  | cons y ys ih =>
    simp only [PyData.canLayAll0, Bool.and_eq_true] at h
    intro x hx
    rcases List.mem_cons.mp hx with rfl | hx
    · exact h.1
    · exact ih h.2 x hx
theorem depth_sub {xs : List Da} : ∀ x ∈ xs, x.depth ≤ PyData.depthAll xs := by
  induction xs with
  | nil => intro x hx; cases hx
  | cons y ys ih =>
    simp only [PyData.depthAll]
    intro x hx
    rcases List.mem_cons.mp hx with rfl | hx
    · omega
    · have := ih x hx
      omega
theorem goodV_sub {n : Nat} {xs : List Da} (h : goodV (n + 1) (.tuple xs)) : ∀ x ∈ xs, goodV n x := by
  intro x hx
  obtain ⟨h1, h2, h3⟩ := h
  rw [noD] at h1
  rw [PyData.canLay0] at h2
  rw [PyData.depth] at h3
  exact ⟨noDs_iff.mp h1 x hx, lay_sub h2 x hx, by have := depth_sub x hx; omega⟩
theorem goodV_int (n : Nat) (i : Int) : goodV n (.int i) := ⟨rfl, rfl, Nat.zero_le _⟩
theorem goodV_none (n : Nat) : goodV n .none := ⟨rfl, rfl, Nat.zero_le _⟩
theorem goodV_bool (n : Nat) (b : Bool) : goodV n (.bool b) := ⟨rfl, rfl, Nat.zero_le _⟩
theorem goodV_da (t : Tr) : goodV t.height t.da := ⟨noD_da t, t.lay_da, t.depth_da⟩
theorem eqD_nil {xs : List Da} (h : fine (.list xs) = true) : eqD (.list xs) (.list []) = some xs.isEmpty := by
  have h2 : fine (.list []) = true := by decide +kernel
  show (if (fine (.list xs) && fine (.list [])) = true then some (PyData.eqv (.list xs) (.list [])) else none) = _
  rw [h, h2]
  cases xs <;> rfl
theorem bls_map {α : Type} (f : α → Bool) : ∀ xs : List α, blsD (xs.map fun x => .bool (f x)) = some (xs.map f)
  | [] => rfl
  | x :: xs => by simp only [List.map_cons, blsD, bls_map f xs]; rfl
theorem ints_map {α : Type} (f : α → Int) : ∀ xs : List α, intsD (xs.map fun x => .int (f x)) = some (xs.map f)
  | [] => rfl
  | x :: xs => by simp only [List.map_cons, intsD, ints_map f xs]; rfl
theorem add_lists {xs ys : List Da} (h : xs.length + ys.length ≤ 16777216) : addD (.list xs) (.list ys) = some (.list (xs ++ ys)) := by
  show (if xs.length + ys.length ≤ sizeLine then some (PyData.list (xs ++ ys)) else none) = _
  rw [if_pos (by rw [sizeLine_eq]; exact h)]
/-- the draw of a law -/
def isDraw (d : Da) : Prop := ∃ (cs : List Int) (a l s : Int), d = .list [.list (cs.map .int), .int a, .int l, .int s] ∧ -1 ≤ a
def plainSl (c : Sl) : Prop := c = .un ∨ ∃ d, c = .val d
/-! ways -/
def sd (b : Bool) : Nat := if b then 114 else 108
def wstr (w : List Bool) : Str := ⟨(w.map sd).toArray⟩
abbrev wd (w : List Bool) : Da := .str (wstr w)
theorem wstr_l (w : List Bool) : ("l" : Str) ++ wstr w = wstr (false :: w) := by
  show Str.mk _ = Str.mk _
  congr 1
  show (("l" : Str).cps ++ _ : Array Nat) = _
  rw [show ("l" : Str).cps = #[108] from by decide +kernel]
  unfold wstr
  apply Array.ext'
  simp [sd]
theorem wstr_r (w : List Bool) : ("r" : Str) ++ wstr w = wstr (true :: w) := by
  show Str.mk _ = Str.mk _
  congr 1
  show (("r" : Str).cps ++ _ : Array Nat) = _
  rw [show ("r" : Str).cps = #[114] from by decide +kernel]
  unfold wstr
  apply Array.ext'
  simp [sd]
theorem wstr_nil : ("" : Str) = wstr [] := by decide +kernel
theorem wstr_len (w : List Bool) : (wstr w).length = w.length := by
  unfold wstr Str.length
  simp
theorem sd_inj {a b : Bool} (h : sd a = sd b) : a = b := by cases a <;> cases b <;> simp_all [sd]
theorem wstr_inj {u v : List Bool} (h : wstr u = wstr v) : u = v := by
  unfold wstr at h
  have h1 : (u.map sd).toArray = (v.map sd).toArray := congrArg Str.cps h
  have h2 : u.map sd = v.map sd := by simpa using h1
  clear h h1
  induction u generalizing v with
  | nil => cases v with
    | nil => rfl
    | cons y v => simp at h2
  | cons x u ih => cases v with
    | nil => simp at h2
    | cons y v =>
      simp only [List.map_cons, List.cons.injEq] at h2
      rw [sd_inj h2.1, ih h2.2]
theorem wstr_ok (w : List Bool) : okS (wstr w) := by
  unfold okS PyData.strOk wstr
  simp [sd]
  try (intro b _; split <;> decide)
theorem add_l {w : List Bool} (h : w.length < 10000) : addD (.str "l") (wd w) = some (wd (false :: w)) := by
  show (if ("l" : Str).length + (wstr w).length ≤ sizeLine then some (PyData.str (("l" : Str) ++ wstr w)) else none) = _
  rw [if_pos (by rw [wstr_len, sizeLine_eq, show ("l" : Str).length = 1 from by decide +kernel]; omega), wstr_l]
  try rfl
theorem add_r {w : List Bool} (h : w.length < 10000) : addD (.str "r") (wd w) = some (wd (true :: w)) := by
  show (if ("r" : Str).length + (wstr w).length ≤ sizeLine then some (PyData.str (("r" : Str) ++ wstr w)) else none) = _
  rw [if_pos (by rw [wstr_len, sizeLine_eq, show ("r" : Str).length = 1 from by decide +kernel]; omega), wstr_r]
  try rfl
theorem items_wd (w : List Bool) : itemsD (wd w) = some (w.map fun b => sing (sd b)) := by
  unfold itemsD wd wstr
  simp
theorem lay_wd (w : List Bool) : (wd w).canLay0 = true := wstr_ok w
theorem depth_wd (w : List Bool) : (wd w).depth = 0 := rfl
namespace Tr
def rows : Tr → List (List Bool × Tr)
  | nil => []
  | node l k r => (l.rows.map fun p => (false :: p.1, p.2)) ++ [([], node l k r)] ++ r.rows.map fun p => (true :: p.1, p.2)
def ways : Tr → List (List Bool)
  | nil => []
  | node l k r => l.ways.map (false :: ·) ++ [[]] ++ r.ways.map (true :: ·)
def places : Tr → List (List Bool)
  | nil => [[]]
  | node l k r => l.places.map (false :: ·) ++ r.places.map (true :: ·)
def at_ : Tr → List Bool → Tr
  | t, [] => t
  | nil, _ :: _ => nil
  | node l _ r, b :: w => at_ (if b then r else l) w
def key : Tr → Int
  | nil => 0
  | node _ k _ => k
theorem ways_rows : ∀ t : Tr, t.rows.map (·.1) = t.ways
  | nil => rfl
  | node l k r => by
    simp only [rows, ways, List.map_append, List.map_map, List.map_cons, List.map_nil, ← ways_rows l, ← ways_rows r]
    rfl
theorem ways_len : ∀ t : Tr, t.ways.length = t.size
  | nil => rfl
  | node l k r => by simp only [ways, size, List.length_append, List.length_map, ways_len l, ways_len r, List.length_singleton]
theorem rows_len (t : Tr) : t.rows.length = t.size := by rw [← ways_len, ← ways_rows, List.length_map]
theorem way_short : ∀ (t : Tr), ∀ w ∈ t.ways, w.length < t.height
  | nil, w, h => by cases h
  | node l k r, w, h => by
    simp only [ways, List.mem_append, List.mem_map, List.mem_singleton] at h
    simp only [height]
    rcases h with (⟨u, hu, rfl⟩ | rfl) | ⟨u, hu, rfl⟩
    · have := way_short l u hu
      rw [List.length_cons]; omega
    · rw [List.length_nil]; omega
    · have := way_short r u hu
      rw [List.length_cons]; omega
theorem place_short : ∀ (t : Tr), ∀ w ∈ t.places, w.length ≤ t.height
  | nil, w, h => by rw [List.mem_singleton.mp h]; exact Nat.le_refl _
  | node l k r, w, h => by
    simp only [places, List.mem_append, List.mem_map] at h
    simp only [height]
    rcases h with ⟨u, hu, rfl⟩ | ⟨u, hu, rfl⟩
    · have := place_short l u hu
      rw [List.length_cons]; omega
    · have := place_short r u hu
      rw [List.length_cons]; omega
theorem places_len : ∀ t : Tr, t.places.length = t.size + 1
  | nil => rfl
  | node l k r => by simp only [places, size, List.length_append, List.length_map, places_len l, places_len r]; omega
theorem rows_at : ∀ (t : Tr), ∀ p ∈ t.rows, t.at_ p.1 = p.2 ∧ p.2 ≠ nil ∧ p.2.height ≤ t.height
  | nil, p, h => by cases h
  | node l k r, p, h => by
    simp only [rows, List.mem_append, List.mem_map, List.mem_singleton] at h
    simp only [height]
    rcases h with (⟨u, hu, rfl⟩ | rfl) | ⟨u, hu, rfl⟩
    · obtain ⟨h1, h2, h3⟩ := rows_at l u hu
      exact ⟨h1, h2, by show u.2.height ≤ _; omega⟩
    · exact ⟨rfl, (fun h => by cases h), Nat.le_refl _⟩
    · obtain ⟨h1, h2, h3⟩ := rows_at r u hu
      exact ⟨h1, h2, by show u.2.height ≤ _; omega⟩
theorem places_at : ∀ (t : Tr), ∀ w ∈ t.places, t.at_ w = nil
  | nil, w, h => by rw [List.mem_singleton.mp h]; rfl
  | node l k r, w, h => by
    simp only [places, List.mem_append, List.mem_map] at h
    rcases h with ⟨u, hu, rfl⟩ | ⟨u, hu, rfl⟩
    · exact places_at l u hu
    · exact places_at r u hu
theorem keys_rows : ∀ t : Tr, t.rows.map (fun p => p.2.key) = t.keys
  | nil => rfl
  | node l k r => by
    simp only [rows, keys, List.map_append, List.map_map, List.map_cons, List.map_nil, ← keys_rows l, ← keys_rows r]
    rfl
theorem ways_nodup : ∀ t : Tr, t.rows.Pairwise fun p q => p.1 ≠ q.1
  | nil => List.Pairwise.nil
  | node l k r => by
    have h1 := ways_nodup l
    have h2 := ways_nodup r
    simp only [rows, List.append_assoc]
    rw [List.pairwise_append]
    refine ⟨?_, ?_, ?_⟩
    · rw [List.pairwise_map]
      exact h1.imp fun h e => h (by simpa using e)
    · rw [List.singleton_append, List.pairwise_cons]
      refine ⟨?_, ?_⟩
      · intro q hq
        obtain ⟨u, _, rfl⟩ := List.mem_map.mp hq
        simp
      · rw [List.pairwise_map]
        exact h2.imp fun h e => h (by simpa using e)
    · intro p hp q hq
      obtain ⟨u, _, rfl⟩ := List.mem_map.mp hp
      rcases List.mem_cons.mp hq with rfl | hq
      · simp
      · obtain ⟨v, _, rfl⟩ := List.mem_map.mp hq
        simp
end Tr
/-! sorting -/
def insBy {α : Type} (lt : α → α → Bool) (x : α) : List α → List α
  | [] => [x]
  | y :: r => if lt x y then x :: y :: r else y :: insBy lt x r
def sortBy {α : Type} (lt : α → α → Bool) (xs : List α) : List α := xs.foldl (fun acc x => insBy lt x acc) []
theorem insD_by (x : Da) : ∀ l : List Da, insD x l = insBy ltV x l
  | [] => rfl
  | y :: r => by rw [insD, insBy, insD_by x r]
theorem sortD_by (xs : List Da) : sortD xs = sortBy ltV xs := by
  unfold sortD sortBy
  have : (fun (acc : List Da) (x : Da) => insD x acc) = fun acc x => insBy ltV x acc := by
    funext acc x; exact insD_by x acc
  rw [this]
theorem insBy_map {α β : Type} (f : α → β) (lt : α → α → Bool) (ltb : β → β → Bool) (x : α) : ∀ (l : List α), (∀ y ∈ l, ltb (f x) (f y) = lt x y) → insBy ltb (f x) (l.map f) = (insBy lt x l).map f
  | [], _ => rfl
  | y :: r, h => by
    rw [List.map_cons, insBy, insBy, h y List.mem_cons_self]
    cases lt x y with
    | true => rfl
    | false =>
      simp only [Bool.false_eq_true, if_false, List.map_cons]
      rw [insBy_map f lt ltb x r fun z hz => h z (List.mem_cons_of_mem _ hz)]
theorem mem_insBy {α : Type} {lt : α → α → Bool} {x z : α} : ∀ {l : List α}, z ∈ insBy lt x l ↔ z = x ∨ z ∈ l
  | [] => by simp [insBy]
  | y :: r => by
    rw [insBy]
    cases lt x y with
    | true => simp
    | false =>
      simp only [Bool.false_eq_true, if_false, List.mem_cons, mem_insBy (l := r)]
      constructor
      · rintro (h | h | h)
        · exact .inr (.inl h)
        · exact .inl h
        · exact .inr (.inr h)
      · rintro (h | h | h)
        · exact .inr (.inl h)
        · exact .inl h
        · exact .inr (.inr h)
theorem sortFold_map {α β : Type} (f : α → β) (lt : α → α → Bool) (ltb : β → β → Bool) : ∀ (xs acc : List α), (∀ x ∈ xs, ∀ y ∈ acc, ltb (f x) (f y) = lt x y) → xs.Pairwise (fun y x => ltb (f x) (f y) = lt x y) →
    (xs.map f).foldl (fun acc x => insBy ltb x acc) (acc.map f) = (xs.foldl (fun acc x => insBy lt x acc) acc).map f
  | [], _, _, _ => rfl
  | x :: xs, acc, h, hp => by
    rw [List.pairwise_cons] at hp
    rw [List.map_cons, List.foldl_cons, List.foldl_cons, insBy_map f lt ltb x acc (h x List.mem_cons_self)]
    refine sortFold_map f lt ltb xs _ (fun z hz y hy => ?_) hp.2
    rcases mem_insBy.mp hy with rfl | hy
    · exact hp.1 z hz
    · exact h z (List.mem_cons_of_mem _ hz) y hy
theorem sortBy_map {α β : Type} (f : α → β) (lt : α → α → Bool) (ltb : β → β → Bool) {xs : List α} (h : xs.Pairwise fun y x => ltb (f x) (f y) = lt x y) : sortBy ltb (xs.map f) = (sortBy lt xs).map f :=
  sortFold_map f lt ltb xs [] (fun _ _ _ h => by cases h) h
theorem mem_sortFold {α : Type} {lt : α → α → Bool} {z : α} : ∀ (xs acc : List α), z ∈ xs.foldl (fun acc x => insBy lt x acc) acc ↔ z ∈ xs ∨ z ∈ acc
  | [], acc => by simp
  | x :: xs, acc => by
    rw [List.foldl_cons, mem_sortFold xs, mem_insBy, List.mem_cons]
    constructor
    · rintro (h | h | h)
      · exact .inl (.inr h)
      · exact .inl (.inl h)
      · exact .inr h
    · rintro ((h | h) | h)
      · exact .inr (.inl h)
      · exact .inl h
      · exact .inr (.inr h)
theorem mem_sortBy {α : Type} {lt : α → α → Bool} {z : α} {xs : List α} : z ∈ sortBy lt xs ↔ z ∈ xs := by
  unfold sortBy
  rw [mem_sortFold]
  simp
theorem len_insBy {α : Type} {lt : α → α → Bool} {x : α} : ∀ {l : List α}, (insBy lt x l).length = l.length + 1
  | [] => rfl
  | y :: r => by
    rw [insBy]
    cases lt x y with
    | true => rfl
    | false => simp only [Bool.false_eq_true, if_false, List.length_cons, len_insBy (l := r)]
theorem len_sortFold {α : Type} {lt : α → α → Bool} : ∀ (xs acc : List α), (xs.foldl (fun acc x => insBy lt x acc) acc).length = xs.length + acc.length
  | [], acc => by simp
  | x :: xs, acc => by rw [List.foldl_cons, len_sortFold xs, len_insBy, List.length_cons]; omega
theorem len_sortBy {α : Type} {lt : α → α → Bool} {xs : List α} : (sortBy lt xs).length = xs.length := by
  unfold sortBy
  rw [len_sortFold]
  rfl
theorem sortable_of {xs : List Da} {s : Bool × List Bool} (h : ∀ x ∈ xs, skOf x = some s) : sortable xs = true := by
  cases xs with
  | nil => rfl
  | cons x r =>
    show (match skOf x with
      | some s => (x :: r).all fun e => decide (skOf e = some s)
      | none => false) = true
    rw [h x List.mem_cons_self]
    exact List.all_eq_true.mpr fun e he => decide_eq_true (h e he)
end PI
end
section
set_option Elab.async false
set_option linter.all false
set_option maxRecDepth 100000
set_option maxHeartbeats 400000
namespace K20
open PySem PI
theorem raise_mal (c : Calls) (a : E) (env : PI.Env) : (sv T c (.raise 1 a)).s env = .exc ⟨1, none⟩ env := rfl
theorem is_whole_ok (k : Nat) (d : Da) (h : noD d = true) : callF T (k + 1) n_is_whole [.val d] = .ok (.bool (isIntD d), [.un]) := by
  cases d <;> first | (simp [noD] at h; done) | kernel_rfl
theorem is_key_ok (k : Nat) (d : Da) (h : noD d = true) : callF T (k + 2) n_is_key [.val d] = .ok (.bool (keyB d), [.un]) := by
  have hw := is_whole_ok k d h
  rw [call_fn (g := F_is_key) rfl rfl]
  have hg : T.cons[c_MOST_KEY]? = some (("MOST_KEY" : Str), PyData.int 99) := rfl
  cases d with
  | int i =>
    by_cases h0 : 0 ≤ i <;> by_cases h1 : i ≤ 99 <;> simp [F_is_key, ss, sq, ee, ee2, el, et, rs, vv, vm, vt, vc, vi, vp, va, e0, evVar, evBor, evMv, two, rr, L2.ixN, bnA, bnS, bnM, bnQ, bnF, bnR, mulOk_l, mulOk_r, addI, ix3_0, ix3_1, ix3_2, ix2_0, ix2_1, il2_0, il2_1, il3_0, il3_1, il3_2, il4_0, il4_1, il4_2, il4_3, il5_0, il5_1, il5_2, il5_3, il5_4, il6_0, il6_1, il6_2, il6_3, il6_4, il6_5, il7_0, il7_1, il7_2, il7_3, il7_4, il7_5, il7_6, il8_0, il8_1, il8_2, il8_3, il8_4, il8_5, il8_6, il8_7, il9_0, il9_1, il9_2, il9_3, il9_4, il9_5, il9_6, il9_7, il9_8, sl3_to0, sl3_to1, sl3_to2, sl3_to_1, sl3_from1, sl3_from2, sl3_from3, b1D, b2D, setB, setv, putI, ownB, ownL, cmpD, eqD, scalEq, truB, truD, itl, itt, finR, finSl, callV, resolve, ownArgs, nodupN, putBack, hasV, eachB, tgn, tgt, tgl, tsn, tsc, isTyOk, isTy, lcStep, wipeE, evLc, plainAt, lockOf, lock, unlk, unlock, restE, isC, isNoneD, sizeLine_eq, hw, hg, isIntD, keyB, h0, h1]
  | dict _ => simp [noD] at h
  | _ => simp [F_is_key, ss, sq, ee, ee2, el, et, rs, vv, vm, vt, vc, vi, vp, va, e0, evVar, evBor, evMv, two, rr, L2.ixN, bnA, bnS, bnM, bnQ, bnF, bnR, mulOk_l, mulOk_r, addI, ix3_0, ix3_1, ix3_2, ix2_0, ix2_1, il2_0, il2_1, il3_0, il3_1, il3_2, il4_0, il4_1, il4_2, il4_3, il5_0, il5_1, il5_2, il5_3, il5_4, il6_0, il6_1, il6_2, il6_3, il6_4, il6_5, il7_0, il7_1, il7_2, il7_3, il7_4, il7_5, il7_6, il8_0, il8_1, il8_2, il8_3, il8_4, il8_5, il8_6, il8_7, il9_0, il9_1, il9_2, il9_3, il9_4, il9_5, il9_6, il9_7, il9_8, sl3_to0, sl3_to1, sl3_to2, sl3_to_1, sl3_from1, sl3_from2, sl3_from3, b1D, b2D, setB, setv, putI, ownB, ownL, cmpD, eqD, scalEq, truB, truD, itl, itt, finR, finSl, callV, resolve, ownArgs, nodupN, putBack, hasV, eachB, tgn, tgt, tgl, tsn, tsc, isTyOk, isTy, lcStep, wipeE, evLc, plainAt, lockOf, lock, unlk, unlock, restE, isC, isNoneD, sizeLine_eq, hw, isIntD, keyB]
def nres (c : Nat) (d : Da) (st : List Da) : Option (Nat × List Da) := match d with
  | .none => some (c, st)
  | d => match nodeOk d with
    | some (a, b) => if c = 20 then none else some (c + 1, b :: a :: st)
    | none => none
theorem walk_res (n c : Nat) (d : Da) (st : List Da) : walk (n + 1) c (d :: st) = match nres c d st with
    | some p => walk n p.1 p.2
    | none => -1 := by
  cases d with
  | none => rfl
  | tuple ts =>
    simp only [walk, nres]
    cases nodeOk (.tuple ts) with
    | none => rfl
    | some p =>
      obtain ⟨a, b⟩ := p
      by_cases h : c = 20 <;> simp [h]
  | _ => simp [walk, nres, nodeOk]
theorem tup3 (xs : List Da) : (∃ a b c, xs = [a, b, c]) ∨ ((xs.length : Int) ≠ 3 ∧ nodeOk (.tuple xs) = none) := by
  match xs with
  | [] => exact .inr ⟨by simp, rfl⟩
  | [a] => exact .inr ⟨by simp, rfl⟩
  | [a, b] => exact .inr ⟨by simp, rfl⟩
  | [a, b, c] => exact .inl ⟨a, b, c, rfl⟩
  | a :: b :: c :: d :: r => exact .inr ⟨by simp only [List.length_cons]; omega, rfl⟩
theorem nc_step (k : Nat) (V : Sl) (c : Nat) (d : Da) (st : List Da) (u : Sl) (hc : c ≤ 20) (hd : noD d = true) (hz : st.length < 1000) (hu : plainSl u) :
    (sv T (callF T (k + 2)) b_node_count_0).s [V, .val (.int c), .own 0 (.list (d :: st).reverse), u] = match nres c d st with
      | some p => .ok (.nx, [V, .val (.int p.1), .own 0 (.list p.2.reverse), .val d])
      | none => .ok (.ret (.int (-1)), [V, .val (.int c), .own 0 (.list st.reverse), .val d]) := by
  have hpop : mmD .pop (d :: st).reverse .none = some (d, st.reverse) := by
    unfold mmD
    simp
  have hext : ∀ a b, mmD .extend st.reverse (.list [a, b]) = some (.none, (b :: a :: st).reverse) := by
    intro a b
    unfold mmD
    simp [sizeLine_eq]
    omega
  have hg : T.cons[c_MOST_NODES]? = some (("MOST_NODES" : Str), PyData.int 20) := rfl
  generalize (d :: st).reverse = xs at *
  generalize hys : st.reverse = ys at *
  have hc20 : ((c : Int) = 20) ↔ c = 20 := by omega
  cases d with
  | dict _ => simp [noD] at hd
  | tuple ts =>
    rcases tup3 ts with ⟨a, b, e, rfl⟩ | ⟨h3, hno⟩
    · have hb : noD b = true := (noDs_iff.mp hd) b (by simp)
      have hk := is_key_ok k b hb
      by_cases hkb : keyB b = true
      · rw [hkb] at hk
        by_cases h20 : c = 20
        · subst h20
          rcases hu with rfl | ⟨j, rfl⟩ <;> simp [ss, sq, ee, ee2, el, et, rs, vv, vm, vt, vc, vi, vp, va, e0, evVar, evBor, evMv, two, rr, L2.ixN, bnA, bnS, bnM, bnQ, bnF, bnR, mulOk_l, mulOk_r, addI, ix3_0, ix3_1, ix3_2, ix2_0, ix2_1, il2_0, il2_1, il3_0, il3_1, il3_2, il4_0, il4_1, il4_2, il4_3, il5_0, il5_1, il5_2, il5_3, il5_4, il6_0, il6_1, il6_2, il6_3, il6_4, il6_5, il7_0, il7_1, il7_2, il7_3, il7_4, il7_5, il7_6, il8_0, il8_1, il8_2, il8_3, il8_4, il8_5, il8_6, il8_7, il9_0, il9_1, il9_2, il9_3, il9_4, il9_5, il9_6, il9_7, il9_8, sl3_to0, sl3_to1, sl3_to2, sl3_to_1, sl3_from1, sl3_from2, sl3_from3, b1D, b2D, setB, setv, putI, ownB, ownL, cmpD, eqD, scalEq, truB, truD, itl, itt, finR, finSl, callV, resolve, ownArgs, nodupN, putBack, hasV, eachB, tgn, tgt, tgl, tsn, tsc, isTyOk, isTy, lcStep, wipeE, evLc, plainAt, lockOf, lock, unlk, unlock, restE, isC, isNoneD, sizeLine_eq, hpop, hk, hg, nres, nodeOk, hkb, idxD, atD, L2.atI]
        · have h20' : ¬ (c : Int) = 20 := fun h => h20 (hc20.mp h)
          rcases hu with rfl | ⟨j, rfl⟩ <;> simp [ss, sq, ee, ee2, el, et, rs, vv, vm, vt, vc, vi, vp, va, e0, evVar, evBor, evMv, two, rr, L2.ixN, bnA, bnS, bnM, bnQ, bnF, bnR, mulOk_l, mulOk_r, addI, ix3_0, ix3_1, ix3_2, ix2_0, ix2_1, il2_0, il2_1, il3_0, il3_1, il3_2, il4_0, il4_1, il4_2, il4_3, il5_0, il5_1, il5_2, il5_3, il5_4, il6_0, il6_1, il6_2, il6_3, il6_4, il6_5, il7_0, il7_1, il7_2, il7_3, il7_4, il7_5, il7_6, il8_0, il8_1, il8_2, il8_3, il8_4, il8_5, il8_6, il8_7, il9_0, il9_1, il9_2, il9_3, il9_4, il9_5, il9_6, il9_7, il9_8, sl3_to0, sl3_to1, sl3_to2, sl3_to_1, sl3_from1, sl3_from2, sl3_from3, b1D, b2D, setB, setv, putI, ownB, ownL, cmpD, eqD, scalEq, truB, truD, itl, itt, finR, finSl, callV, resolve, ownArgs, nodupN, putBack, hasV, eachB, tgn, tgt, tgl, tsn, tsc, isTyOk, isTy, lcStep, wipeE, evLc, plainAt, lockOf, lock, unlk, unlock, restE, isC, isNoneD, sizeLine_eq, hpop, hk, hg, nres, nodeOk, hkb, idxD, atD, L2.atI, h20, h20', hext, augB, addD]
      · have hkb' : keyB b = false := by simpa using hkb
        rw [hkb'] at hk
        rcases hu with rfl | ⟨j, rfl⟩ <;> simp [ss, sq, ee, ee2, el, et, rs, vv, vm, vt, vc, vi, vp, va, e0, evVar, evBor, evMv, two, rr, L2.ixN, bnA, bnS, bnM, bnQ, bnF, bnR, mulOk_l, mulOk_r, addI, ix3_0, ix3_1, ix3_2, ix2_0, ix2_1, il2_0, il2_1, il3_0, il3_1, il3_2, il4_0, il4_1, il4_2, il4_3, il5_0, il5_1, il5_2, il5_3, il5_4, il6_0, il6_1, il6_2, il6_3, il6_4, il6_5, il7_0, il7_1, il7_2, il7_3, il7_4, il7_5, il7_6, il8_0, il8_1, il8_2, il8_3, il8_4, il8_5, il8_6, il8_7, il9_0, il9_1, il9_2, il9_3, il9_4, il9_5, il9_6, il9_7, il9_8, sl3_to0, sl3_to1, sl3_to2, sl3_to_1, sl3_from1, sl3_from2, sl3_from3, b1D, b2D, setB, setv, putI, ownB, ownL, cmpD, eqD, scalEq, truB, truD, itl, itt, finR, finSl, callV, resolve, ownArgs, nodupN, putBack, hasV, eachB, tgn, tgt, tgl, tsn, tsc, isTyOk, isTy, lcStep, wipeE, evLc, plainAt, lockOf, lock, unlk, unlock, restE, isC, isNoneD, sizeLine_eq, hpop, hk, hg, nres, nodeOk, hkb', idxD, atD, L2.atI]
    · rcases hu with rfl | ⟨j, rfl⟩ <;> simp [ss, sq, ee, ee2, el, et, rs, vv, vm, vt, vc, vi, vp, va, e0, evVar, evBor, evMv, two, rr, L2.ixN, bnA, bnS, bnM, bnQ, bnF, bnR, mulOk_l, mulOk_r, addI, ix3_0, ix3_1, ix3_2, ix2_0, ix2_1, il2_0, il2_1, il3_0, il3_1, il3_2, il4_0, il4_1, il4_2, il4_3, il5_0, il5_1, il5_2, il5_3, il5_4, il6_0, il6_1, il6_2, il6_3, il6_4, il6_5, il7_0, il7_1, il7_2, il7_3, il7_4, il7_5, il7_6, il8_0, il8_1, il8_2, il8_3, il8_4, il8_5, il8_6, il8_7, il9_0, il9_1, il9_2, il9_3, il9_4, il9_5, il9_6, il9_7, il9_8, sl3_to0, sl3_to1, sl3_to2, sl3_to_1, sl3_from1, sl3_from2, sl3_from3, b1D, b2D, setB, setv, putI, ownB, ownL, cmpD, eqD, scalEq, truB, truD, itl, itt, finR, finSl, callV, resolve, ownArgs, nodupN, putBack, hasV, eachB, tgn, tgt, tgl, tsn, tsc, isTyOk, isTy, lcStep, wipeE, evLc, plainAt, lockOf, lock, unlk, unlock, restE, isC, isNoneD, sizeLine_eq, hpop, nres, hno, h3]
  | _ => rcases hu with rfl | ⟨j, rfl⟩ <;> simp [ss, sq, ee, ee2, el, et, rs, vv, vm, vt, vc, vi, vp, va, e0, evVar, evBor, evMv, two, rr, L2.ixN, bnA, bnS, bnM, bnQ, bnF, bnR, mulOk_l, mulOk_r, addI, ix3_0, ix3_1, ix3_2, ix2_0, ix2_1, il2_0, il2_1, il3_0, il3_1, il3_2, il4_0, il4_1, il4_2, il4_3, il5_0, il5_1, il5_2, il5_3, il5_4, il6_0, il6_1, il6_2, il6_3, il6_4, il6_5, il7_0, il7_1, il7_2, il7_3, il7_4, il7_5, il7_6, il8_0, il8_1, il8_2, il8_3, il8_4, il8_5, il8_6, il8_7, il9_0, il9_1, il9_2, il9_3, il9_4, il9_5, il9_6, il9_7, il9_8, sl3_to0, sl3_to1, sl3_to2, sl3_to_1, sl3_from1, sl3_from2, sl3_from3, b1D, b2D, setB, setv, putI, ownB, ownL, cmpD, eqD, scalEq, truB, truD, itl, itt, finR, finSl, callV, resolve, ownArgs, nodupN, putBack, hasV, eachB, tgn, tgt, tgl, tsn, tsc, isTyOk, isTy, lcStep, wipeE, evLc, plainAt, lockOf, lock, unlk, unlock, restE, isC, isNoneD, sizeLine_eq, hpop, hys, nres, nodeOk]
theorem nres_ok {c : Nat} {d : Da} {st : List Da} {p : Nat × List Da} (h : nres c d st = some p) (hc : c ≤ 20) (hd : noD d = true) (hst : ∀ x ∈ st, noD x = true) :
    p.1 ≤ 20 ∧ (∀ x ∈ p.2, noD x = true) ∧ 2 * (20 - p.1) + p.2.length < 2 * (20 - c) + st.length + 1 := by
  unfold nres at h
  split at h
  · cases h
    refine ⟨hc, hst, ?_⟩
    show 2 * (20 - c) + st.length < _
    omega
  · split at h
    · rename_i a b hn
      split at h
      · cases h
      · cases h
        refine ⟨by omega, ?_, by simp only [List.length_cons]; omega⟩
        have hab : noD a = true ∧ noD b = true := by
          unfold nodeOk at hn
          split at hn
          · split at hn
            · cases hn
              have := noDs_iff.mp hd
              exact ⟨this _ (by simp), this _ (by simp)⟩
            · cases hn
          · cases hn
        intro x hx
        rcases List.mem_cons.mp hx with rfl | hx
        · exact hab.2
        · rcases List.mem_cons.mp hx with rfl | hx
          · exact hab.1
          · exact hst x hx
    · cases h
abbrev e_nc : E := .cmp .gt (.b1 .len (.bor 2)) (.kc (.int 0))
theorem nc_loop (k : Nat) (V : Sl) : ∀ (n N c : Nat) (st : List Da) (u : Sl), n ≤ N → c ≤ 20 → 2 * (20 - c) + st.length < n → n < 1000 → (∀ x ∈ st, noD x = true) → plainSl u →
    ∃ s2 s3, (walk n c st = -1 → ∃ s1, whLoop (ev T (callF T (k + 2)) e_nc).t (sv T (callF T (k + 2)) b_node_count_0).s N [V, .val (.int c), .own 0 (.list st.reverse), u] = .ok (.ret (.int (-1)), [V, s1, s2, s3])) ∧
      (walk n c st ≠ -1 → 0 ≤ walk n c st ∧ whLoop (ev T (callF T (k + 2)) e_nc).t (sv T (callF T (k + 2)) b_node_count_0).s N [V, .val (.int c), .own 0 (.list st.reverse), u] = .ok (.nx, [V, .val (.int (walk n c st)), s2, s3])) := by
  intro n
  induction n with
  | zero => intro N c st u _ _ h; omega
  | succ n ih =>
    intro N c st u hN hc hm hk hst hu
    cases N with
    | zero => omega
    | succ N =>
      cases st with
      | nil =>
        refine ⟨.own 0 (.list []), u, fun h => ?_, fun _ => ⟨?_, ?_⟩⟩
        · exfalso
          have : walk (n + 1) c [] = (c : Int) := rfl
          omega
        · show (0 : Int) ≤ (c : Int); omega
        · have hcond : (ev T (callF T (k + 2)) e_nc).t [V, .val (.int c), .own 0 (.list []), u] = .ok (false, [V, .val (.int c), .own 0 (.list []), u]) := by
            simp [ss, sq, ee, ee2, el, et, rs, vv, vm, vt, vc, vi, vp, va, e0, evVar, evBor, evMv, two, rr, L2.ixN, bnA, bnS, bnM, bnQ, bnF, bnR, mulOk_l, mulOk_r, addI, ix3_0, ix3_1, ix3_2, ix2_0, ix2_1, il2_0, il2_1, il3_0, il3_1, il3_2, il4_0, il4_1, il4_2, il4_3, il5_0, il5_1, il5_2, il5_3, il5_4, il6_0, il6_1, il6_2, il6_3, il6_4, il6_5, il7_0, il7_1, il7_2, il7_3, il7_4, il7_5, il7_6, il8_0, il8_1, il8_2, il8_3, il8_4, il8_5, il8_6, il8_7, il9_0, il9_1, il9_2, il9_3, il9_4, il9_5, il9_6, il9_7, il9_8, sl3_to0, sl3_to1, sl3_to2, sl3_to_1, sl3_from1, sl3_from2, sl3_from3, b1D, b2D, setB, setv, putI, ownB, ownL, cmpD, eqD, scalEq, truB, truD, itl, itt, finR, finSl, callV, resolve, ownArgs, nodupN, putBack, hasV, eachB, tgn, tgt, tgl, tsn, tsc, isTyOk, isTy, lcStep, wipeE, evLc, plainAt, lockOf, lock, unlk, unlock, restE, isC, isNoneD, sizeLine_eq]
          unfold whLoop
          rw [List.reverse_nil, hcond]
          rfl
      | cons d st =>
        rw [List.length_cons] at hm
        have hcond : (ev T (callF T (k + 2)) e_nc).t [V, .val (.int c), .own 0 (.list (d :: st).reverse), u] = .ok (true, [V, .val (.int c), .own 0 (.list (d :: st).reverse), u]) := by
          have : 0 < ((d :: st).reverse).length := by rw [List.length_reverse, List.length_cons]; omega
          generalize (d :: st).reverse = xs at *
          simp [ss, sq, ee, ee2, el, et, rs, vv, vm, vt, vc, vi, vp, va, e0, evVar, evBor, evMv, two, rr, L2.ixN, bnA, bnS, bnM, bnQ, bnF, bnR, mulOk_l, mulOk_r, addI, ix3_0, ix3_1, ix3_2, ix2_0, ix2_1, il2_0, il2_1, il3_0, il3_1, il3_2, il4_0, il4_1, il4_2, il4_3, il5_0, il5_1, il5_2, il5_3, il5_4, il6_0, il6_1, il6_2, il6_3, il6_4, il6_5, il7_0, il7_1, il7_2, il7_3, il7_4, il7_5, il7_6, il8_0, il8_1, il8_2, il8_3, il8_4, il8_5, il8_6, il8_7, il9_0, il9_1, il9_2, il9_3, il9_4, il9_5, il9_6, il9_7, il9_8, sl3_to0, sl3_to1, sl3_to2, sl3_to_1, sl3_from1, sl3_from2, sl3_from3, b1D, b2D, setB, setv, putI, ownB, ownL, cmpD, eqD, scalEq, truB, truD, itl, itt, finR, finSl, callV, resolve, ownArgs, nodupN, putBack, hasV, eachB, tgn, tgt, tgl, tsn, tsc, isTyOk, isTy, lcStep, wipeE, evLc, plainAt, lockOf, lock, unlk, unlock, restE, isC, isNoneD, sizeLine_eq, this]
        have hstep := nc_step k V c d st u hc (hst d List.mem_cons_self) (by omega) hu
        rw [walk_res]
        unfold whLoop
        rw [hcond]
        simp only
        rw [hstep]
        cases hr : nres c d st with
        | none => exact ⟨_, _, fun _ => ⟨_, rfl⟩, fun h => absurd rfl h⟩
        | some p =>
          obtain ⟨p1, p2, p3⟩ := nres_ok hr hc (hst d List.mem_cons_self) fun x hx => hst x (List.mem_cons_of_mem _ hx)
          simp only
          exact ih N p.1 p.2 (.val d) (by omega) p1 (by omega) (by omega) p2 (.inr ⟨_, rfl⟩)
theorem walk_ge : ∀ (n c : Nat) (st : List Da), -1 ≤ walk n c st
  | 0, _, _ => Int.le_refl _
  | _ + 1, c, [] => by show -1 ≤ (c : Int); omega
  | n + 1, c, d :: st => by
    rw [walk_res]
    split
    · exact walk_ge n _ _
    · exact Int.le_refl _
theorem node_count_ok (k : Nat) (d : Da) (h : noD d = true) : callF T (k + 3) n_node_count [.val d] = .ok (.int (cntD d), [.un]) := by
  obtain ⟨s2, s3, h1, h2⟩ := nc_loop k (.val d) 43 whMost 0 [d] .un (by show 43 ≤ 1000000; omega) (by omega) (by simp) (by omega) (fun x hx => by rw [List.mem_singleton.mp hx]; exact h) (.inl rfl)
  rw [call_fn (g := F_node_count) rfl rfl]
  rw [List.reverse_singleton] at h1 h2
  have e0' : (sv T (callF T (k + 2)) s_node_count_0).s [.val d, .un, .un, .un] = .ok (.nx, [.val d, .val (.int 0), .own 0 (.list [d]), .un]) := by
    have hp : parOk T [(1, false), (2, true)] (.cons (.kc (.int 0)) (.cons (.lst (.cons (.var 0) .nil)) .nil)) = true := rfl
    simp [ss, sq, ee, ee2, el, et, rs, vv, vm, vt, vc, vi, vp, va, e0, evVar, evBor, evMv, two, rr, L2.ixN, bnA, bnS, bnM, bnQ, bnF, bnR, mulOk_l, mulOk_r, addI, ix3_0, ix3_1, ix3_2, ix2_0, ix2_1, il2_0, il2_1, il3_0, il3_1, il3_2, il4_0, il4_1, il4_2, il4_3, il5_0, il5_1, il5_2, il5_3, il5_4, il6_0, il6_1, il6_2, il6_3, il6_4, il6_5, il7_0, il7_1, il7_2, il7_3, il7_4, il7_5, il7_6, il8_0, il8_1, il8_2, il8_3, il8_4, il8_5, il8_6, il8_7, il9_0, il9_1, il9_2, il9_3, il9_4, il9_5, il9_6, il9_7, il9_8, sl3_to0, sl3_to1, sl3_to2, sl3_to_1, sl3_from1, sl3_from2, sl3_from3, b1D, b2D, setB, setv, putI, ownB, ownL, cmpD, eqD, scalEq, truB, truD, itl, itt, finR, finSl, callV, resolve, ownArgs, nodupN, putBack, hasV, eachB, tgn, tgt, tgl, tsn, tsc, isTyOk, isTy, lcStep, wipeE, evLc, plainAt, lockOf, lock, unlk, unlock, restE, isC, isNoneD, sizeLine_eq, hp, parSet, setO, isLst]
  show finR _ ((sv T (callF T (k + 2)) (.seq s_node_count_0 (.seq s_node_count_1 (.seq s_node_count_8 .skip)))).s [.val d, .un, .un, .un]) = _
  rw [seq_nx e0']
  unfold cntD
  by_cases hw : walk 43 0 [d] = -1
  · obtain ⟨s1, hl⟩ := h1 hw
    have e1 : (sv T (callF T (k + 2)) s_node_count_1).s [.val d, .val (.int 0), .own 0 (.list [d]), .un] = _ := (whl_eq T (callF T (k + 2)) e_nc b_node_count_0 _).trans hl
    rw [seq_ret e1, hw]
    rfl
  · obtain ⟨_, hl⟩ := h2 hw
    have e1 : (sv T (callF T (k + 2)) s_node_count_1).s [.val d, .val (.int 0), .own 0 (.list [d]), .un] = _ := (whl_eq T (callF T (k + 2)) e_nc b_node_count_0 _).trans hl
    rw [seq_nx e1]
    rfl
theorem is_tree_ok (k : Nat) (d : Da) (h : noD d = true) : callF T (k + 4) n_is_tree [.val d] = .ok (.bool (isTreeB d), [.un]) := by
  have hn := node_count_ok k d h
  rw [call_fn (g := F_is_tree) rfl rfl]
  unfold isTreeB
  simp [F_is_tree, ss, sq, ee, ee2, el, et, rs, vv, vm, vt, vc, vi, vp, va, e0, evVar, evBor, evMv, two, rr, L2.ixN, bnA, bnS, bnM, bnQ, bnF, bnR, mulOk_l, mulOk_r, addI, ix3_0, ix3_1, ix3_2, ix2_0, ix2_1, il2_0, il2_1, il3_0, il3_1, il3_2, il4_0, il4_1, il4_2, il4_3, il5_0, il5_1, il5_2, il5_3, il5_4, il6_0, il6_1, il6_2, il6_3, il6_4, il6_5, il7_0, il7_1, il7_2, il7_3, il7_4, il7_5, il7_6, il8_0, il8_1, il8_2, il8_3, il8_4, il8_5, il8_6, il8_7, il9_0, il9_1, il9_2, il9_3, il9_4, il9_5, il9_6, il9_7, il9_8, sl3_to0, sl3_to1, sl3_to2, sl3_to_1, sl3_from1, sl3_from2, sl3_from3, b1D, b2D, setB, setv, putI, ownB, ownL, cmpD, eqD, scalEq, truB, truD, itl, itt, finR, finSl, callV, resolve, ownArgs, nodupN, putBack, hasV, eachB, tgn, tgt, tgl, tsn, tsc, isTyOk, isTy, lcStep, wipeE, evLc, plainAt, lockOf, lock, unlk, unlock, restE, isC, isNoneD, sizeLine_eq, hn]
theorem check_tree_ok (k : Nat) (d : Da) (h : noD d = true) (ht : isTreeB d = true) : callF T (k + 5) n_check_tree [.val d] = .ok (.none, [.un]) := by
  have hn := is_tree_ok k d h
  rw [ht] at hn
  rw [call_fn (g := F_check_tree) rfl rfl]
  simp [F_check_tree, ss, sq, ee, ee2, el, et, rs, vv, vm, vt, vc, vi, vp, va, e0, evVar, evBor, evMv, two, rr, L2.ixN, bnA, bnS, bnM, bnQ, bnF, bnR, mulOk_l, mulOk_r, addI, ix3_0, ix3_1, ix3_2, ix2_0, ix2_1, il2_0, il2_1, il3_0, il3_1, il3_2, il4_0, il4_1, il4_2, il4_3, il5_0, il5_1, il5_2, il5_3, il5_4, il6_0, il6_1, il6_2, il6_3, il6_4, il6_5, il7_0, il7_1, il7_2, il7_3, il7_4, il7_5, il7_6, il8_0, il8_1, il8_2, il8_3, il8_4, il8_5, il8_6, il8_7, il9_0, il9_1, il9_2, il9_3, il9_4, il9_5, il9_6, il9_7, il9_8, sl3_to0, sl3_to1, sl3_to2, sl3_to_1, sl3_from1, sl3_from2, sl3_from3, b1D, b2D, setB, setv, putI, ownB, ownL, cmpD, eqD, scalEq, truB, truD, itl, itt, finR, finSl, callV, resolve, ownArgs, nodupN, putBack, hasV, eachB, tgn, tgt, tgl, tsn, tsc, isTyOk, isTy, lcStep, wipeE, evLc, plainAt, lockOf, lock, unlk, unlock, restE, isC, isNoneD, sizeLine_eq, hn]
theorem check_tree_bad (k : Nat) (d : Da) (h : noD d = true) (ht : isTreeB d = false) : callF T (k + 5) n_check_tree [.val d] = .exc ⟨1, none⟩ [.un] := by
  have hn := is_tree_ok k d h
  rw [ht] at hn
  rw [call_fn (g := F_check_tree) rfl rfl]
  simp [F_check_tree, ss, sq, ee, ee2, el, et, rs, vv, vm, vt, vc, vi, vp, va, e0, evVar, evBor, evMv, two, rr, L2.ixN, bnA, bnS, bnM, bnQ, bnF, bnR, mulOk_l, mulOk_r, addI, ix3_0, ix3_1, ix3_2, ix2_0, ix2_1, il2_0, il2_1, il3_0, il3_1, il3_2, il4_0, il4_1, il4_2, il4_3, il5_0, il5_1, il5_2, il5_3, il5_4, il6_0, il6_1, il6_2, il6_3, il6_4, il6_5, il7_0, il7_1, il7_2, il7_3, il7_4, il7_5, il7_6, il8_0, il8_1, il8_2, il8_3, il8_4, il8_5, il8_6, il8_7, il9_0, il9_1, il9_2, il9_3, il9_4, il9_5, il9_6, il9_7, il9_8, sl3_to0, sl3_to1, sl3_to2, sl3_to_1, sl3_from1, sl3_from2, sl3_from3, b1D, b2D, setB, setv, putI, ownB, ownL, cmpD, eqD, scalEq, truB, truD, itl, itt, finR, finSl, callV, resolve, ownArgs, nodupN, putBack, hasV, eachB, tgn, tgt, tgl, tsn, tsc, isTyOk, isTy, lcStep, wipeE, evLc, plainAt, lockOf, lock, unlk, unlock, restE, isC, isNoneD, sizeLine_eq, hn, raise_mal]

end K20
end
section
set_option Elab.async false
set_option linter.all false
set_option maxRecDepth 100000
set_option maxHeartbeats 400000
namespace K20
open PySem PI
theorem at3_0 (a b c : Da) : atD [a, b, c] 0 = some a := rfl
theorem at3_1 (a b c : Da) : atD [a, b, c] 1 = some b := rfl
theorem at3_2 (a b c : Da) : atD [a, b, c] 2 = some c := rfl
theorem size_of_ok : ∀ (t : Tr) (k : Nat), t.height ≤ k → callF T (k + 1) n_size_of [.val t.da] = .ok (.int t.size, [.un])
  | .nil, k, _ => by rw [call_fn (g := F_size_of) rfl rfl]; simp [F_size_of, ss, sq, ee, ee2, el, et, rs, vv, vm, vt, vc, vi, vp, va, e0, evVar, evBor, evMv, two, rr, L2.ixN, bnA, bnS, bnM, bnQ, bnF, bnR, mulOk_l, mulOk_r, addI, ix3_0, ix3_1, ix3_2, ix2_0, ix2_1, il2_0, il2_1, il3_0, il3_1, il3_2, il4_0, il4_1, il4_2, il4_3, il5_0, il5_1, il5_2, il5_3, il5_4, il6_0, il6_1, il6_2, il6_3, il6_4, il6_5, il7_0, il7_1, il7_2, il7_3, il7_4, il7_5, il7_6, il8_0, il8_1, il8_2, il8_3, il8_4, il8_5, il8_6, il8_7, il9_0, il9_1, il9_2, il9_3, il9_4, il9_5, il9_6, il9_7, il9_8, sl3_to0, sl3_to1, sl3_to2, sl3_to_1, sl3_from1, sl3_from2, sl3_from3, b1D, b2D, setB, setv, putI, ownB, ownL, cmpD, eqD, scalEq, truB, truD, itl, itt, finR, finSl, callV, resolve, ownArgs, nodupN, putBack, hasV, eachB, tgn, tgt, tgl, tsn, tsc, isTyOk, isTy, lcStep, wipeE, evLc, plainAt, lockOf, lock, unlk, unlock, restE, isC, isNoneD, sizeLine_eq, Tr.da, Tr.size]
  | .node l x r, 0, h => by simp [Tr.height] at h
  | .node l x r, k + 1, h => by
    simp only [Tr.height] at h
    have h1 := size_of_ok l k (by omega)
    have h2 := size_of_ok r k (by omega)
    rw [call_fn (g := F_size_of) rfl rfl]; simp [F_size_of, ss, sq, ee, ee2, el, et, rs, vv, vm, vt, vc, vi, vp, va, e0, evVar, evBor, evMv, two, rr, L2.ixN, bnA, bnS, bnM, bnQ, bnF, bnR, mulOk_l, mulOk_r, addI, ix3_0, ix3_1, ix3_2, ix2_0, ix2_1, il2_0, il2_1, il3_0, il3_1, il3_2, il4_0, il4_1, il4_2, il4_3, il5_0, il5_1, il5_2, il5_3, il5_4, il6_0, il6_1, il6_2, il6_3, il6_4, il6_5, il7_0, il7_1, il7_2, il7_3, il7_4, il7_5, il7_6, il8_0, il8_1, il8_2, il8_3, il8_4, il8_5, il8_6, il8_7, il9_0, il9_1, il9_2, il9_3, il9_4, il9_5, il9_6, il9_7, il9_8, sl3_to0, sl3_to1, sl3_to2, sl3_to_1, sl3_from1, sl3_from2, sl3_from3, b1D, b2D, setB, setv, putI, ownB, ownL, cmpD, eqD, scalEq, truB, truD, itl, itt, finR, finSl, callV, resolve, ownArgs, nodupN, putBack, hasV, eachB, tgn, tgt, tgl, tsn, tsc, isTyOk, isTy, lcStep, wipeE, evLc, plainAt, lockOf, lock, unlk, unlock, restE, isC, isNoneD, sizeLine_eq, Tr.da, Tr.size, h1, h2, idxD, at3_0, at3_1, at3_2, addD]
theorem keys_len : ∀ t : Tr, t.keys.length = t.size
  | .nil => rfl
  | .node l k r => by simp only [Tr.keys, Tr.size, List.length_append, keys_len l, keys_len r, List.length_singleton]
end K20
end
section
set_option Elab.async false
set_option linter.all false
set_option maxRecDepth 100000
/-! PIcm: more on comparisons. -/
namespace PI
open PySem
theorem ne_f {x : Da} (h : eqD x x = some true) : cmpD .ne x x = some false := by
  show (eqD x x).map (!·) = _
  rw [h]
  rfl
abbrev prW (w : List Bool) : Da := .tuple [.int (w.length : Nat), wd w]
abbrev ltW (a b : List Bool) : Bool := ltV (prW a) (prW b)
theorem sort_prW (ws : List (List Bool)) : sortable (ws.map prW) = true ∧ sortD (ws.map prW) = (sortBy ltW ws).map prW := by
  refine ⟨sortable_of (s := (true, [false, true])) fun x hx => ?_, ?_⟩
  · obtain ⟨w, _, rfl⟩ := List.mem_map.mp hx
    rfl
  · rw [sortD_by]
    refine sortBy_map prW ltW ltV ?_
    exact List.pairwise_of_forall fun _ _ => rfl
theorem mirror_height : ∀ t : Tr, t.mirror.height = t.height
  | .nil => rfl
  | .node l x r => by simp only [Tr.mirror, Tr.height, mirror_height l, mirror_height r]; omega
end PI
end
section
set_option Elab.async false
set_option linter.all false
set_option maxRecDepth 100000
set_option maxHeartbeats 400000
namespace K20
open PySem PI
theorem lc_pre (c : Calls) (A B : Sl) (ws : List (List Bool)) (h : ∀ w ∈ ws, w.length < 10000) :
    lcLoop (lcStep [2] (.nm 2) (ev T c .nil).c (ev T c le_ways_of_0).e) (ws.map wd) [A, B, .un] = .ok (ws.map fun w => wd (false :: w), [A, B, .un]) ∧
    lcLoop (lcStep [2] (.nm 2) (ev T c .nil).c (ev T c le_ways_of_1).e) (ws.map wd) [A, B, .un] = .ok (ws.map fun w => wd (true :: w), [A, B, .un]) := by
  refine ⟨lcLoop_tmap wd _ ws fun w hw => ?_, lcLoop_tmap wd _ ws fun w hw => ?_⟩
  · have ha := add_l (h w hw)
    simp [ss, sq, ee, ee2, el, et, rs, vv, vm, vt, vc, vi, vp, va, e0, evVar, evBor, evMv, two, rr, L2.ixN, bnA, bnS, bnM, bnQ, bnF, bnR, mulOk_l, mulOk_r, addI, ix3_0, ix3_1, ix3_2, ix2_0, ix2_1, il2_0, il2_1, il3_0, il3_1, il3_2, il4_0, il4_1, il4_2, il4_3, il5_0, il5_1, il5_2, il5_3, il5_4, il6_0, il6_1, il6_2, il6_3, il6_4, il6_5, il7_0, il7_1, il7_2, il7_3, il7_4, il7_5, il7_6, il8_0, il8_1, il8_2, il8_3, il8_4, il8_5, il8_6, il8_7, il9_0, il9_1, il9_2, il9_3, il9_4, il9_5, il9_6, il9_7, il9_8, sl3_to0, sl3_to1, sl3_to2, sl3_to_1, sl3_from1, sl3_from2, sl3_from3, b1D, b2D, setB, setv, putI, ownB, ownL, cmpD, eqD, scalEq, truB, truD, itl, itt, finR, finSl, callV, resolve, ownArgs, nodupN, putBack, hasV, eachB, tgn, tgt, tgl, tsn, tsc, isTyOk, isTy, lcStep, wipeE, evLc, plainAt, lockOf, lock, unlk, unlock, restE, isC, isNoneD, sizeLine_eq, ha]
  · have ha := add_r (h w hw)
    simp [ss, sq, ee, ee2, el, et, rs, vv, vm, vt, vc, vi, vp, va, e0, evVar, evBor, evMv, two, rr, L2.ixN, bnA, bnS, bnM, bnQ, bnF, bnR, mulOk_l, mulOk_r, addI, ix3_0, ix3_1, ix3_2, ix2_0, ix2_1, il2_0, il2_1, il3_0, il3_1, il3_2, il4_0, il4_1, il4_2, il4_3, il5_0, il5_1, il5_2, il5_3, il5_4, il6_0, il6_1, il6_2, il6_3, il6_4, il6_5, il7_0, il7_1, il7_2, il7_3, il7_4, il7_5, il7_6, il8_0, il8_1, il8_2, il8_3, il8_4, il8_5, il8_6, il8_7, il9_0, il9_1, il9_2, il9_3, il9_4, il9_5, il9_6, il9_7, il9_8, sl3_to0, sl3_to1, sl3_to2, sl3_to_1, sl3_from1, sl3_from2, sl3_from3, b1D, b2D, setB, setv, putI, ownB, ownL, cmpD, eqD, scalEq, truB, truD, itl, itt, finR, finSl, callV, resolve, ownArgs, nodupN, putBack, hasV, eachB, tgn, tgt, tgl, tsn, tsc, isTyOk, isTy, lcStep, wipeE, evLc, plainAt, lockOf, lock, unlk, unlock, restE, isC, isNoneD, sizeLine_eq, ha]
theorem ways_of_ok : ∀ (t : Tr) (k : Nat), t.size ≤ k → k < 1000 → callF T (k + 1) n_ways_of [.val t.da] = .ok (.list (t.ways.map wd), [.un])
  | .nil, k, _, _ => by rw [call_fn (g := F_ways_of) rfl rfl]; simp [F_ways_of, ss, sq, ee, ee2, el, et, rs, vv, vm, vt, vc, vi, vp, va, e0, evVar, evBor, evMv, two, rr, L2.ixN, bnA, bnS, bnM, bnQ, bnF, bnR, mulOk_l, mulOk_r, addI, ix3_0, ix3_1, ix3_2, ix2_0, ix2_1, il2_0, il2_1, il3_0, il3_1, il3_2, il4_0, il4_1, il4_2, il4_3, il5_0, il5_1, il5_2, il5_3, il5_4, il6_0, il6_1, il6_2, il6_3, il6_4, il6_5, il7_0, il7_1, il7_2, il7_3, il7_4, il7_5, il7_6, il8_0, il8_1, il8_2, il8_3, il8_4, il8_5, il8_6, il8_7, il9_0, il9_1, il9_2, il9_3, il9_4, il9_5, il9_6, il9_7, il9_8, sl3_to0, sl3_to1, sl3_to2, sl3_to_1, sl3_from1, sl3_from2, sl3_from3, b1D, b2D, setB, setv, putI, ownB, ownL, cmpD, eqD, scalEq, truB, truD, itl, itt, finR, finSl, callV, resolve, ownArgs, nodupN, putBack, hasV, eachB, tgn, tgt, tgl, tsn, tsc, isTyOk, isTy, lcStep, wipeE, evLc, plainAt, lockOf, lock, unlk, unlock, restE, isC, isNoneD, sizeLine_eq, Tr.da, Tr.ways]
  | .node l x r, 0, h, _ => by simp [Tr.size] at h
  | .node l x r, k + 1, h, hk => by
    simp only [Tr.size] at h
    have h1 := ways_of_ok l k (by omega) (by omega)
    have h2 := ways_of_ok r k (by omega) (by omega)
    have hl1 := l.height_le
    have hr1 := r.height_le
    have e1 := l.ways_len
    have e2 := r.ways_len
    have p1 := (lc_pre (callF T (k + 1)) (.val (Tr.node l x r).da) .un l.ways fun w hw => by have := l.way_short w hw; omega).1
    have p2 := (lc_pre (callF T (k + 1)) (.val (Tr.node l x r).da) (.val (.list (l.ways.map fun w => wd (false :: w)))) r.ways fun w hw => by have := r.way_short w hw; omega).2
    have n1 : (l.ways.map wd).length ≤ 16777216 := by rw [List.length_map]; omega
    have n2 : (r.ways.map wd).length ≤ 16777216 := by rw [List.length_map]; omega
    have a1 : addD (.list (l.ways.map fun w => wd (false :: w))) (.list [.str ""]) = some (.list ((l.ways.map fun w => wd (false :: w)) ++ [.str ""])) := add_lists (by rw [List.length_map, List.length_singleton]; omega)
    have a2 : addD (.list ((l.ways.map fun w => wd (false :: w)) ++ [.str ""])) (.list (r.ways.map fun w => wd (true :: w))) = some (.list ((l.ways.map fun w => wd (false :: w)) ++ [.str ""] ++ (r.ways.map fun w => wd (true :: w)))) := add_lists (by rw [List.length_append, List.length_map, List.length_map, List.length_singleton]; omega)
    have ew : (Tr.node l x r).ways.map wd = (l.ways.map fun w => wd (false :: w)) ++ [.str ""] ++ (r.ways.map fun w => wd (true :: w)) := by
      simp only [Tr.ways, List.map_append, List.map_map, List.map_cons, List.map_nil, wstr_nil]
      rfl
    rw [ew]
    generalize (l.ways.map fun w => wd (false :: w)) = lw at *
    generalize (r.ways.map fun w => wd (true :: w)) = rw at *
    generalize l.ways.map wd = ld at *
    generalize r.ways.map wd = rd at *
    simp only [Tr.da] at p1 p2 ⊢
    rw [call_fn (g := F_ways_of) rfl rfl]; simp [F_ways_of, ss, sq, ee, ee2, el, et, rs, vv, vm, vt, vc, vi, vp, va, e0, evVar, evBor, evMv, two, rr, L2.ixN, bnA, bnS, bnM, bnQ, bnF, bnR, mulOk_l, mulOk_r, addI, ix3_0, ix3_1, ix3_2, ix2_0, ix2_1, il2_0, il2_1, il3_0, il3_1, il3_2, il4_0, il4_1, il4_2, il4_3, il5_0, il5_1, il5_2, il5_3, il5_4, il6_0, il6_1, il6_2, il6_3, il6_4, il6_5, il7_0, il7_1, il7_2, il7_3, il7_4, il7_5, il7_6, il8_0, il8_1, il8_2, il8_3, il8_4, il8_5, il8_6, il8_7, il9_0, il9_1, il9_2, il9_3, il9_4, il9_5, il9_6, il9_7, il9_8, sl3_to0, sl3_to1, sl3_to2, sl3_to_1, sl3_from1, sl3_from2, sl3_from3, b1D, b2D, setB, setv, putI, ownB, ownL, cmpD, eqD, scalEq, truB, truD, itl, itt, finR, finSl, callV, resolve, ownArgs, nodupN, putBack, hasV, eachB, tgn, tgt, tgl, tsn, tsc, isTyOk, isTy, lcStep, wipeE, evLc, plainAt, lockOf, lock, unlk, unlock, restE, isC, isNoneD, sizeLine_eq, h1, h2, ix3_0, ix3_1, ix3_2, p1, p2, n1, n2, a1, a2]
/-! going down -/
theorem kid_ok (k : Nat) (l x r : Da) (b : Bool) : callF T (k + 1) n_kid [.val (.tuple [l, x, r]), .val (sing (sd b))] = .ok (if b then r else l, [.un, .un]) := by
  cases b <;> kernel_rfl
theorem ta_step (k : Nat) (W u : Sl) (b : Bool) (l r : Tr) (x : Int) (hu : plainSl u) : eachB (sv T (callF T (k + 1)) b_tree_at_0).s (.nm 2) (sing (sd b)) [.val (Tr.node l x r).da, W, u] = .ok (.nx, [.val (if b then r else l).da, W, .val (sing (sd b))]) := by
  have hk := kid_ok k l.da (.int x) r.da b
  have e : (if b = true then r.da else l.da) = (if b = true then r else l).da := by cases b <;> rfl
  rw [e] at hk
  simp only [Tr.da] at *
  generalize (if b = true then r else l).da = z at *
  generalize sing (sd b) = s at *
  rcases hu with rfl | ⟨j, rfl⟩ <;> simp [ss, sq, ee, ee2, el, et, rs, vv, vm, vt, vc, vi, vp, va, e0, evVar, evBor, evMv, two, rr, L2.ixN, bnA, bnS, bnM, bnQ, bnF, bnR, mulOk_l, mulOk_r, addI, ix3_0, ix3_1, ix3_2, ix2_0, ix2_1, il2_0, il2_1, il3_0, il3_1, il3_2, il4_0, il4_1, il4_2, il4_3, il5_0, il5_1, il5_2, il5_3, il5_4, il6_0, il6_1, il6_2, il6_3, il6_4, il6_5, il7_0, il7_1, il7_2, il7_3, il7_4, il7_5, il7_6, il8_0, il8_1, il8_2, il8_3, il8_4, il8_5, il8_6, il8_7, il9_0, il9_1, il9_2, il9_3, il9_4, il9_5, il9_6, il9_7, il9_8, sl3_to0, sl3_to1, sl3_to2, sl3_to_1, sl3_from1, sl3_from2, sl3_from3, b1D, b2D, setB, setv, putI, ownB, ownL, cmpD, eqD, scalEq, truB, truD, itl, itt, finR, finSl, callV, resolve, ownArgs, nodupN, putBack, hasV, eachB, tgn, tgt, tgl, tsn, tsc, isTyOk, isTy, lcStep, wipeE, evLc, plainAt, lockOf, lock, unlk, unlock, restE, isC, isNoneD, sizeLine_eq, hk]
theorem ta_loop (k : Nat) (W : Sl) : ∀ (w : List Bool) (t : Tr) (u : Sl), plainSl u →
    ∃ u' v', (t.at_ w = .nil ∧ forLoop (eachB (sv T (callF T (k + 1)) b_tree_at_0).s (.nm 2)) (w.map fun b => sing (sd b)) [.val t.da, W, u] = .ok (.ret .none, [v', W, u'])) ∨
      forLoop (eachB (sv T (callF T (k + 1)) b_tree_at_0).s (.nm 2)) (w.map fun b => sing (sd b)) [.val t.da, W, u] = .ok (.nx, [.val (t.at_ w).da, W, u'])
  | [], t, u, hu => ⟨u, u, .inr rfl⟩
  | b :: w, .nil, u, hu => by
    refine ⟨.val (sing (sd b)), .val .none, .inl ⟨rfl, ?_⟩⟩
    have hstep : eachB (sv T (callF T (k + 1)) b_tree_at_0).s (.nm 2) (sing (sd b)) [.val Tr.nil.da, W, u] = .ok (.ret .none, [.val .none, W, .val (sing (sd b))]) := by
      generalize sing (sd b) = s
      rcases hu with rfl | ⟨j, rfl⟩ <;> simp [ss, sq, ee, ee2, el, et, rs, vv, vm, vt, vc, vi, vp, va, e0, evVar, evBor, evMv, two, rr, L2.ixN, bnA, bnS, bnM, bnQ, bnF, bnR, mulOk_l, mulOk_r, addI, ix3_0, ix3_1, ix3_2, ix2_0, ix2_1, il2_0, il2_1, il3_0, il3_1, il3_2, il4_0, il4_1, il4_2, il4_3, il5_0, il5_1, il5_2, il5_3, il5_4, il6_0, il6_1, il6_2, il6_3, il6_4, il6_5, il7_0, il7_1, il7_2, il7_3, il7_4, il7_5, il7_6, il8_0, il8_1, il8_2, il8_3, il8_4, il8_5, il8_6, il8_7, il9_0, il9_1, il9_2, il9_3, il9_4, il9_5, il9_6, il9_7, il9_8, sl3_to0, sl3_to1, sl3_to2, sl3_to_1, sl3_from1, sl3_from2, sl3_from3, b1D, b2D, setB, setv, putI, ownB, ownL, cmpD, eqD, scalEq, truB, truD, itl, itt, finR, finSl, callV, resolve, ownArgs, nodupN, putBack, hasV, eachB, tgn, tgt, tgl, tsn, tsc, isTyOk, isTy, lcStep, wipeE, evLc, plainAt, lockOf, lock, unlk, unlock, restE, isC, isNoneD, sizeLine_eq, Tr.da]
    rw [List.map_cons]
    unfold forLoop
    rw [hstep]
  | b :: w, .node l x r, u, hu => by
    obtain ⟨u', v', ih⟩ := ta_loop k W w (if b then r else l) (.val (sing (sd b))) (.inr ⟨_, rfl⟩)
    refine ⟨u', v', ?_⟩
    have hstep := ta_step k W u b l r x hu
    rw [List.map_cons]
    unfold forLoop
    rw [hstep]
    exact ih
theorem tree_at_ok (k : Nat) (t : Tr) (w : List Bool) : callF T (k + 2) n_tree_at [.val t.da, .val (wd w)] = .ok ((t.at_ w).da, [.un, .un]) := by
  obtain ⟨u', v', h⟩ := ta_loop k (.val (wd w)) w t .un (.inl rfl)
  have hi := items_wd w
  generalize (w.map fun b => sing (sd b)) = xs at *
  generalize t.da = d at *
  rcases h with ⟨hn, h⟩ | h
  · rw [hn]
    rw [call_fn (g := F_tree_at) rfl rfl]; simp [F_tree_at, ss, sq, ee, ee2, el, et, rs, vv, vm, vt, vc, vi, vp, va, e0, evVar, evBor, evMv, two, rr, L2.ixN, bnA, bnS, bnM, bnQ, bnF, bnR, mulOk_l, mulOk_r, addI, ix3_0, ix3_1, ix3_2, ix2_0, ix2_1, il2_0, il2_1, il3_0, il3_1, il3_2, il4_0, il4_1, il4_2, il4_3, il5_0, il5_1, il5_2, il5_3, il5_4, il6_0, il6_1, il6_2, il6_3, il6_4, il6_5, il7_0, il7_1, il7_2, il7_3, il7_4, il7_5, il7_6, il8_0, il8_1, il8_2, il8_3, il8_4, il8_5, il8_6, il8_7, il9_0, il9_1, il9_2, il9_3, il9_4, il9_5, il9_6, il9_7, il9_8, sl3_to0, sl3_to1, sl3_to2, sl3_to_1, sl3_from1, sl3_from2, sl3_from3, b1D, b2D, setB, setv, putI, ownB, ownL, cmpD, eqD, scalEq, truB, truD, itl, itt, finR, finSl, callV, resolve, ownArgs, nodupN, putBack, hasV, eachB, tgn, tgt, tgl, tsn, tsc, isTyOk, isTy, lcStep, wipeE, evLc, plainAt, lockOf, lock, unlk, unlock, restE, isC, isNoneD, sizeLine_eq, hi, h, Tr.da]
  · generalize (t.at_ w).da = z at *
    rw [call_fn (g := F_tree_at) rfl rfl]; simp [F_tree_at, ss, sq, ee, ee2, el, et, rs, vv, vm, vt, vc, vi, vp, va, e0, evVar, evBor, evMv, two, rr, L2.ixN, bnA, bnS, bnM, bnQ, bnF, bnR, mulOk_l, mulOk_r, addI, ix3_0, ix3_1, ix3_2, ix2_0, ix2_1, il2_0, il2_1, il3_0, il3_1, il3_2, il4_0, il4_1, il4_2, il4_3, il5_0, il5_1, il5_2, il5_3, il5_4, il6_0, il6_1, il6_2, il6_3, il6_4, il6_5, il7_0, il7_1, il7_2, il7_3, il7_4, il7_5, il7_6, il8_0, il8_1, il8_2, il8_3, il8_4, il8_5, il8_6, il8_7, il9_0, il9_1, il9_2, il9_3, il9_4, il9_5, il9_6, il9_7, il9_8, sl3_to0, sl3_to1, sl3_to2, sl3_to_1, sl3_from1, sl3_from2, sl3_from3, b1D, b2D, setB, setv, putI, ownB, ownL, cmpD, eqD, scalEq, truB, truD, itl, itt, finR, finSl, callV, resolve, ownArgs, nodupN, putBack, hasV, eachB, tgn, tgt, tgl, tsn, tsc, isTyOk, isTy, lcStep, wipeE, evLc, plainAt, lockOf, lock, unlk, unlock, restE, isC, isNoneD, sizeLine_eq, hi, h]
theorem side_in (b : Bool) : inD (sing (sd b)) (.str "lr") = some true := by cases b <;> kernel_rfl
theorem is_way_ok (k : Nat) (w : List Bool) (hw : w.length < 10000) : callF T (k + 1) n_is_way [.val (wd w)] = .ok (.bool true, [.un]) := by
  have hi := items_wd w
  have hg : T.cons[c_SIDES]? = some (("SIDES" : Str), PyData.str "lr") := rfl
  have hl := lcLoop_tmap (step := lcStep [1] (.nm 1) (ev T (callF T k) .nil).c (ev T (callF T k) le_is_way_0).e) (env := [.val (wd w), .un]) (fun b => sing (sd b)) (fun b => .bool true) w (fun b _ => by
    have hs := side_in b
    generalize sing (sd b) = s at *
    simp [ss, sq, ee, ee2, el, et, rs, vv, vm, vt, vc, vi, vp, va, e0, evVar, evBor, evMv, two, rr, L2.ixN, bnA, bnS, bnM, bnQ, bnF, bnR, mulOk_l, mulOk_r, addI, ix3_0, ix3_1, ix3_2, ix2_0, ix2_1, il2_0, il2_1, il3_0, il3_1, il3_2, il4_0, il4_1, il4_2, il4_3, il5_0, il5_1, il5_2, il5_3, il5_4, il6_0, il6_1, il6_2, il6_3, il6_4, il6_5, il7_0, il7_1, il7_2, il7_3, il7_4, il7_5, il7_6, il8_0, il8_1, il8_2, il8_3, il8_4, il8_5, il8_6, il8_7, il9_0, il9_1, il9_2, il9_3, il9_4, il9_5, il9_6, il9_7, il9_8, sl3_to0, sl3_to1, sl3_to2, sl3_to_1, sl3_from1, sl3_from2, sl3_from3, b1D, b2D, setB, setv, putI, ownB, ownL, cmpD, eqD, scalEq, truB, truD, itl, itt, finR, finSl, callV, resolve, ownArgs, nodupN, putBack, hasV, eachB, tgn, tgt, tgl, tsn, tsc, isTyOk, isTy, lcStep, wipeE, evLc, plainAt, lockOf, lock, unlk, unlock, restE, isC, isNoneD, sizeLine_eq, hs, hg])
  have hb := bls_map (fun _ : Bool => true) w
  have ha : (w.map fun _ => true).all id = true := by simp
  have hz : (w.map fun b => sing (sd b)).length ≤ 16777216 := by rw [List.length_map]; omega
  generalize (w.map fun b => sing (sd b)) = xs at *
  generalize (w.map fun b => PyData.bool true) = ys at *
  generalize (w.map fun b => true) = bs at *
  rw [call_fn (g := F_is_way) rfl rfl]; simp [F_is_way, ss, sq, ee, ee2, el, et, rs, vv, vm, vt, vc, vi, vp, va, e0, evVar, evBor, evMv, two, rr, L2.ixN, bnA, bnS, bnM, bnQ, bnF, bnR, mulOk_l, mulOk_r, addI, ix3_0, ix3_1, ix3_2, ix2_0, ix2_1, il2_0, il2_1, il3_0, il3_1, il3_2, il4_0, il4_1, il4_2, il4_3, il5_0, il5_1, il5_2, il5_3, il5_4, il6_0, il6_1, il6_2, il6_3, il6_4, il6_5, il7_0, il7_1, il7_2, il7_3, il7_4, il7_5, il7_6, il8_0, il8_1, il8_2, il8_3, il8_4, il8_5, il8_6, il8_7, il9_0, il9_1, il9_2, il9_3, il9_4, il9_5, il9_6, il9_7, il9_8, sl3_to0, sl3_to1, sl3_to2, sl3_to_1, sl3_from1, sl3_from2, sl3_from3, b1D, b2D, setB, setv, putI, ownB, ownL, cmpD, eqD, scalEq, truB, truD, itl, itt, finR, finSl, callV, resolve, ownArgs, nodupN, putBack, hasV, eachB, tgn, tgt, tgl, tsn, tsc, isTyOk, isTy, lcStep, wipeE, evLc, plainAt, lockOf, lock, unlk, unlock, restE, isC, isNoneD, sizeLine_eq, hi, hl, hb, ha, hz]
theorem is_node_ok (k : Nat) (t : Tr) (w : List Bool) (hw : w.length < 10000) : callF T (k + 3) n_is_node [.val t.da, .val (wd w)] = .ok (.bool (!isNoneD (t.at_ w).da), [.un, .un]) := by
  have h1 := is_way_ok (k + 1) w hw
  have h2 := tree_at_ok k t w
  generalize t.da = d at *
  generalize (t.at_ w).da = z at *
  rw [call_fn (g := F_is_node) rfl rfl]
  cases z <;> simp [F_is_node, ss, sq, ee, ee2, el, et, rs, vv, vm, vt, vc, vi, vp, va, e0, evVar, evBor, evMv, two, rr, L2.ixN, bnA, bnS, bnM, bnQ, bnF, bnR, mulOk_l, mulOk_r, addI, ix3_0, ix3_1, ix3_2, ix2_0, ix2_1, il2_0, il2_1, il3_0, il3_1, il3_2, il4_0, il4_1, il4_2, il4_3, il5_0, il5_1, il5_2, il5_3, il5_4, il6_0, il6_1, il6_2, il6_3, il6_4, il6_5, il7_0, il7_1, il7_2, il7_3, il7_4, il7_5, il7_6, il8_0, il8_1, il8_2, il8_3, il8_4, il8_5, il8_6, il8_7, il9_0, il9_1, il9_2, il9_3, il9_4, il9_5, il9_6, il9_7, il9_8, sl3_to0, sl3_to1, sl3_to2, sl3_to_1, sl3_from1, sl3_from2, sl3_from3, b1D, b2D, setB, setv, putI, ownB, ownL, cmpD, eqD, scalEq, truB, truD, itl, itt, finR, finSl, callV, resolve, ownArgs, nodupN, putBack, hasV, eachB, tgn, tgt, tgl, tsn, tsc, isTyOk, isTy, lcStep, wipeE, evLc, plainAt, lockOf, lock, unlk, unlock, restE, isC, isNoneD, sizeLine_eq, h1, h2]
/-! level by level -/
theorem level_ways_ok (k : Nat) (t : Tr) (hs : t.size ≤ 20) (hk : 30 ≤ k) (hk2 : k < 900) : callF T (k + 1) n_level_ways [.val t.da] = .ok (.list ((sortBy ltW t.ways).map wd), [.un]) := by
  obtain ⟨j, rfl⟩ : ∃ j, k = j + 1 := ⟨k - 1, by omega⟩
  have h1 := ways_of_ok t j (by omega) (by omega)
  have hh := t.height_le
  have p1 := lcLoop_tmap (step := lcStep [2] (.nm 2) (ev T (callF T (j + 1)) .nil).c (ev T (callF T (j + 1)) le_level_ways_0).e) (env := [.val t.da, .un, .un, .un]) wd prW t.ways (fun w hw => by
    have hl := wstr_len w
    have hz : w.length ≤ 16777216 := by have := t.way_short w hw; omega
    simp [ss, sq, ee, ee2, el, et, rs, vv, vm, vt, vc, vi, vp, va, e0, evVar, evBor, evMv, two, rr, L2.ixN, bnA, bnS, bnM, bnQ, bnF, bnR, mulOk_l, mulOk_r, addI, ix3_0, ix3_1, ix3_2, ix2_0, ix2_1, il2_0, il2_1, il3_0, il3_1, il3_2, il4_0, il4_1, il4_2, il4_3, il5_0, il5_1, il5_2, il5_3, il5_4, il6_0, il6_1, il6_2, il6_3, il6_4, il6_5, il7_0, il7_1, il7_2, il7_3, il7_4, il7_5, il7_6, il8_0, il8_1, il8_2, il8_3, il8_4, il8_5, il8_6, il8_7, il9_0, il9_1, il9_2, il9_3, il9_4, il9_5, il9_6, il9_7, il9_8, sl3_to0, sl3_to1, sl3_to2, sl3_to_1, sl3_from1, sl3_from2, sl3_from3, b1D, b2D, setB, setv, putI, ownB, ownL, cmpD, eqD, scalEq, truB, truD, itl, itt, finR, finSl, callV, resolve, ownArgs, nodupN, putBack, hasV, eachB, tgn, tgt, tgl, tsn, tsc, isTyOk, isTy, lcStep, wipeE, evLc, plainAt, lockOf, lock, unlk, unlock, restE, isC, isNoneD, sizeLine_eq, hl, hz])
  obtain ⟨s1, s2⟩ := sort_prW t.ways
  have p2 := lcLoop_tmap (step := lcStep [3, 2] (.tup (.cons (.nm 3) (.cons (.nm 2) .nil))) (ev T (callF T (j + 1)) .nil).c (ev T (callF T (j + 1)) le_level_ways_1).e) (env := [.val t.da, .val (.list (t.ways.map prW)), .un, .un]) prW wd (sortBy ltW t.ways) (fun w hw => by
    generalize PyData.list (t.ways.map prW) = rl
    simp [ss, sq, ee, ee2, el, et, rs, vv, vm, vt, vc, vi, vp, va, e0, evVar, evBor, evMv, two, rr, L2.ixN, bnA, bnS, bnM, bnQ, bnF, bnR, mulOk_l, mulOk_r, addI, ix3_0, ix3_1, ix3_2, ix2_0, ix2_1, il2_0, il2_1, il3_0, il3_1, il3_2, il4_0, il4_1, il4_2, il4_3, il5_0, il5_1, il5_2, il5_3, il5_4, il6_0, il6_1, il6_2, il6_3, il6_4, il6_5, il7_0, il7_1, il7_2, il7_3, il7_4, il7_5, il7_6, il8_0, il8_1, il8_2, il8_3, il8_4, il8_5, il8_6, il8_7, il9_0, il9_1, il9_2, il9_3, il9_4, il9_5, il9_6, il9_7, il9_8, sl3_to0, sl3_to1, sl3_to2, sl3_to_1, sl3_from1, sl3_from2, sl3_from3, b1D, b2D, setB, setv, putI, ownB, ownL, cmpD, eqD, scalEq, truB, truD, itl, itt, finR, finSl, callV, resolve, ownArgs, nodupN, putBack, hasV, eachB, tgn, tgt, tgl, tsn, tsc, isTyOk, isTy, lcStep, wipeE, evLc, plainAt, lockOf, lock, unlk, unlock, restE, isC, isNoneD, sizeLine_eq])
  have n1 : (t.ways.map wd).length ≤ 16777216 := by rw [List.length_map, t.ways_len]; omega
  have n2 : ((sortBy ltW t.ways).map prW).length ≤ 16777216 := by rw [List.length_map, len_sortBy, t.ways_len]; omega
  rw [← s2] at p2 n2
  generalize t.ways.map wd = a1 at *
  generalize (sortBy ltW t.ways).map wd = a2 at *
  generalize t.ways.map prW = a3 at *
  generalize t.da = d at *
  rw [call_fn (g := F_level_ways) rfl rfl]; simp [F_level_ways, ss, sq, ee, ee2, el, et, rs, vv, vm, vt, vc, vi, vp, va, e0, evVar, evBor, evMv, two, rr, L2.ixN, bnA, bnS, bnM, bnQ, bnF, bnR, mulOk_l, mulOk_r, addI, ix3_0, ix3_1, ix3_2, ix2_0, ix2_1, il2_0, il2_1, il3_0, il3_1, il3_2, il4_0, il4_1, il4_2, il4_3, il5_0, il5_1, il5_2, il5_3, il5_4, il6_0, il6_1, il6_2, il6_3, il6_4, il6_5, il7_0, il7_1, il7_2, il7_3, il7_4, il7_5, il7_6, il8_0, il8_1, il8_2, il8_3, il8_4, il8_5, il8_6, il8_7, il9_0, il9_1, il9_2, il9_3, il9_4, il9_5, il9_6, il9_7, il9_8, sl3_to0, sl3_to1, sl3_to2, sl3_to_1, sl3_from1, sl3_from2, sl3_from3, b1D, b2D, setB, setv, putI, ownB, ownL, cmpD, eqD, scalEq, truB, truD, itl, itt, finR, finSl, callV, resolve, ownArgs, nodupN, putBack, hasV, eachB, tgn, tgt, tgl, tsn, tsc, isTyOk, isTy, lcStep, wipeE, evLc, plainAt, lockOf, lock, unlk, unlock, restE, isC, isNoneD, sizeLine_eq, h1, p1, p2, n1, n2, s1]
theorem key_at {t : Tr} (h : t ≠ .nil) : idxD t.da (.int 1) = some (.int t.key) := by
  cases t with
  | nil => exact absurd rfl h
  | node l x r => rfl
end K20
end
section
set_option Elab.async false
set_option linter.all false
set_option maxRecDepth 100000
/-! PItn: turns of trees, plainly; ways as texts. -/
namespace PI
open PySem
/-! ways as texts: the end, the rest -/
theorem sl_init (w : List Bool) (h : w.length < 10000) : slD (wd w) none (some (-1)) = some (wd w.dropLast) := by
  show (if (wstr w).length ≤ sizeLine then some (PyData.str (L2.cutS (wstr w) none (some (-1)))) else none) = _
  rw [if_pos (by rw [wstr_len, sizeLine_eq]; omega)]
  congr 2
  show Str.mk _ = Str.mk _
  congr 1
  congr 1
  rw [HT.sIx_none]
  have e : HT.sIx (wstr w).length (wstr w).length (some (-1)) = w.length - 1 := by
    show (if (-1 : Int) < 0 then ((-1 : Int) + ((wstr w).length : Nat)).toNat else min (-1 : Int).toNat (wstr w).length) = _
    rw [if_pos (by decide), wstr_len]
    omega
  rw [e]
  simp only [wstr, List.drop_zero, Nat.sub_zero]
  rw [List.dropLast_eq_take, List.map_take]
theorem sl_tail (b : Bool) (w : List Bool) (h : w.length < 10000) : slD (wd (b :: w)) (some 1) none = some (wd w) := by
  show (if (wstr (b :: w)).length ≤ sizeLine then some (PyData.str (L2.cutS (wstr (b :: w)) (some 1) none)) else none) = _
  rw [if_pos (by rw [wstr_len, sizeLine_eq, List.length_cons]; omega)]
  congr 2
  show Str.mk _ = Str.mk _
  congr 1
  congr 1
  rw [HT.sIx_none]
  have e : HT.sIx (wstr (b :: w)).length 0 (some 1) = 1 := by
    show (if (1 : Int) < 0 then ((1 : Int) + ((wstr (b :: w)).length : Nat)).toNat else min (1 : Int).toNat (wstr (b :: w)).length) = 1
    rw [if_neg (by decide), wstr_len, List.length_cons]
    have : (1 : Int).toNat = 1 := rfl
    omega
  rw [e]
  have e2 : (wstr (b :: w)).length = w.length + 1 := by rw [wstr_len, List.length_cons]
  rw [e2]
  simp [wstr, List.take_of_length_le]
theorem ix_first (b : Bool) (w : List Bool) (h : w.length < 10000) : idxD (wd (b :: w)) (.int 0) = some (sing (sd b)) := by
  show (if (wstr (b :: w)).length ≤ sizeLine then (L2.atI (wstr (b :: w)).cps.toList 0).map sing else none) = _
  rw [if_pos (by rw [wstr_len, sizeLine_eq, List.length_cons]; omega)]
  have e : (wstr (b :: w)).cps.toList = sd b :: w.map sd := by simp [wstr]
  rw [e]
  unfold L2.atI L2.ixN
  rw [if_pos (by decide), if_pos (by simp)]
  rfl
theorem ix_last (w : List Bool) (b : Bool) (h : w.length < 10000) : idxD (wd (w ++ [b])) (.int (-1)) = some (sing (sd b)) := by
  show (if (wstr (w ++ [b])).length ≤ sizeLine then (L2.atI (wstr (w ++ [b])).cps.toList (-1)).map sing else none) = _
  rw [if_pos (by rw [wstr_len, sizeLine_eq, List.length_append]; simp; omega)]
  have e : (wstr (w ++ [b])).cps.toList = w.map sd ++ [sd b] := by simp [wstr]
  rw [e]
  unfold L2.atI L2.ixN
  rw [if_neg (by decide), if_pos (by simp; omega)]
  have e2 : ((-1 : Int) + ((w.map sd ++ [sd b]).length : Nat)).toNat = (w.map sd).length := by simp; omega
  simp only [Option.bind_some, e2]
  rw [List.getElem?_append_right (Nat.le_refl _)]
  simp
theorem eq_sd_l (b : Bool) : eqD (sing (sd b)) (.str "l") = some (!b) := by cases b <;> kernel_rfl
theorem eq_nil_wd (w : List Bool) : eqD (wd w) (.str "") = some w.isEmpty := by
  rw [wstr_nil]
  show some (decide (wstr w = wstr [])) = _
  cases w with
  | nil => simp
  | cons b w => simp; intro z; have := wstr_inj z; cases this
theorem eq_wd (u w : List Bool) : eqD (wd u) (wd w) = some (decide (u = w)) := by
  show some (decide (wstr u = wstr w)) = _
  congr 1
  by_cases h : u = w
  · subst h; simp
  · have : wstr u ≠ wstr w := fun z => h (wstr_inj z)
    simp [h, this]
theorem wstr_snoc_l (w : List Bool) : wstr w ++ ("l" : Str) = wstr (w ++ [false]) := by
  show Str.mk _ = Str.mk _
  congr 1
  show (_ ++ ("l" : Str).cps : Array Nat) = _
  rw [show ("l" : Str).cps = #[108] from by decide +kernel]
  unfold wstr
  apply Array.ext'
  simp [sd]
theorem wstr_snoc_r (w : List Bool) : wstr w ++ ("r" : Str) = wstr (w ++ [true]) := by
  show Str.mk _ = Str.mk _
  congr 1
  show (_ ++ ("r" : Str).cps : Array Nat) = _
  rw [show ("r" : Str).cps = #[114] from by decide +kernel]
  unfold wstr
  apply Array.ext'
  simp [sd]
theorem add_snoc_l {w : List Bool} (h : w.length < 10000) : addD (wd w) (.str "l") = some (wd (w ++ [false])) := by
  show (if (wstr w).length + ("l" : Str).length ≤ sizeLine then some (PyData.str (wstr w ++ ("l" : Str))) else none) = _
  rw [if_pos (by rw [wstr_len, sizeLine_eq, show ("l" : Str).length = 1 from by decide +kernel]; omega), wstr_snoc_l]
theorem add_snoc_r {w : List Bool} (h : w.length < 10000) : addD (wd w) (.str "r") = some (wd (w ++ [true])) := by
  show (if (wstr w).length + ("r" : Str).length ≤ sizeLine then some (PyData.str (wstr w ++ ("r" : Str))) else none) = _
  rw [if_pos (by rw [wstr_len, sizeLine_eq, show ("r" : Str).length = 1 from by decide +kernel]; omega), wstr_snoc_r]
namespace Tr
def put : Tr → List Bool → Tr → Tr
  | _, [], s => s
  | nil, _ :: _, _ => nil
  | node l k r, b :: w, s => if b then node l k (r.put w s) else node (l.put w s) k r
/-- a kid turned above the top -/
def rotp : Tr → Bool → Tr
  | nil, _ => nil
  | node l y c, false => match l with
    | nil => node nil y c
    | node a x b => node a x (node b y c)
  | node a x r, true => match r with
    | nil => node a x nil
    | node b y c => node (node a x b) y c
def lastB (w : List Bool) : Bool := w.getLastD false
def rot (t : Tr) (w : List Bool) : Tr := t.put w.dropLast (rotp (t.at_ w.dropLast) (lastB w))
def back (w : List Bool) : List Bool := w.dropLast ++ [!lastB w]
def spine : Tr → Nat
  | nil => 0
  | node _ _ r => 1 + r.spine
theorem spine_le : ∀ t : Tr, t.spine ≤ t.size
  | nil => Nat.le_refl _
  | node l k r => by have := spine_le r; simp only [spine, size]; omega
theorem at_put : ∀ (t : Tr) (w : List Bool) (s : Tr), t.at_ w ≠ nil → (t.put w s).at_ w = s
  | t, [], s, _ => by cases t <;> rfl
  | nil, b :: w, s, h => absurd rfl h
  | node l k r, b :: w, s, h => by
    cases b with
    | true => simp only [put, at_, if_true] at h ⊢; exact at_put r w s h
    | false => simp only [put, at_, Bool.false_eq_true, if_false] at h ⊢; exact at_put l w s h
theorem put_put : ∀ (t : Tr) (w : List Bool) (s s2 : Tr), (t.put w s).put w s2 = t.put w s2
  | t, [], s, s2 => by cases s <;> cases t <;> rfl
  | nil, b :: w, s, s2 => rfl
  | node l k r, b :: w, s, s2 => by
    cases b with
    | true => simp only [put, if_true, put_put r w s s2]
    | false => simp only [put, Bool.false_eq_true, if_false, put_put l w s s2]
theorem put_at : ∀ (t : Tr) (w : List Bool), t.put w (t.at_ w) = t
  | t, [] => by cases t <;> rfl
  | nil, b :: w => rfl
  | node l k r, b :: w => by
    cases b with
    | true => simp only [put, at_, if_true, put_at r w]
    | false => simp only [put, at_, Bool.false_eq_true, if_false, put_at l w]
theorem keys_put : ∀ (t : Tr) (w : List Bool) (s : Tr), s.keys = (t.at_ w).keys → (t.put w s).keys = t.keys
  | t, [], s, h => by cases t <;> exact h
  | nil, b :: w, s, h => rfl
  | node l k r, b :: w, s, h => by
    cases b with
    | true => simp only [at_, if_true] at h; simp only [put, if_true, keys, keys_put r w s h]
    | false => simp only [at_, Bool.false_eq_true, if_false] at h; simp only [put, Bool.false_eq_true, if_false, keys, keys_put l w s h]
theorem size_keys (t : Tr) : t.keys.length = t.size := by
  induction t with
  | nil => rfl
  | node l k r h1 h2 => simp only [keys, size, List.length_append, h1, h2, List.length_singleton]
theorem keys_rotp : ∀ (t : Tr) (b : Bool), (rotp t b).keys = t.keys
  | nil, b => by cases b <;> rfl
  | node nil y c, false => rfl
  | node (node a x b) y c, false => by simp [rotp, keys]
  | node a x nil, true => rfl
  | node a x (node b y c), true => by simp [rotp, keys]
theorem keys_rot (t : Tr) (w : List Bool) : (t.rot w).keys = t.keys := keys_put t _ _ (keys_rotp _ _)
theorem size_rot (t : Tr) (w : List Bool) : (t.rot w).size = t.size := by rw [← size_keys, keys_rot, size_keys]
theorem okK_rot {t : Tr} (h : t.okK) (w : List Bool) : (t.rot w).okK := by unfold okK; rw [keys_rot]; exact h
theorem rotp_rotp : ∀ (t : Tr) (b : Bool), t.at_ [b] ≠ nil → rotp (rotp t b) (!b) = t ∧ (rotp t b).at_ [!b] ≠ nil ∧ rotp t b ≠ nil
  | nil, b, h => absurd rfl h
  | node nil y c, false, h => absurd rfl h
  | node (node a x b) y c, false, _ => ⟨rfl, fun z => (by cases z), fun z => by cases z⟩
  | node a x nil, true, h => absurd rfl h
  | node a x (node b y c), true, _ => ⟨rfl, fun z => (by cases z), fun z => by cases z⟩
theorem at_nil (w : List Bool) : nil.at_ w = nil := by cases w <;> rfl
theorem at_app : ∀ (t : Tr) (u v : List Bool), t.at_ (u ++ v) = (t.at_ u).at_ v
  | t, [], v => by cases t <;> rfl
  | nil, b :: u, v => by show nil = nil.at_ v; rw [at_nil]
  | node l k r, b :: u, v => by
    cases b with
    | true => exact at_app r u v
    | false => exact at_app l u v
theorem snoc_of {w : List Bool} (h : w ≠ []) : w = w.dropLast ++ [lastB w] := by
  have := (List.dropLast_concat_getLast h).symm
  have e : lastB w = w.getLast h := by unfold lastB; rw [List.getLastD_eq_getLast?, List.getLast?_eq_getLast h]; rfl
  rw [e]; exact this
theorem back_snoc (w : List Bool) (b : Bool) : (w ++ [b]).dropLast = w ∧ lastB (w ++ [b]) = b := by
  refine ⟨List.dropLast_concat, ?_⟩
  unfold lastB
  simp
theorem rot_back {t : Tr} {w : List Bool} (hw : w ≠ []) (h : t.at_ w ≠ nil) : (t.rot w).rot (back w) = t ∧ (t.rot w).at_ (back w) ≠ nil := by
  have e := snoc_of hw
  obtain ⟨b1, b2⟩ := back_snoc w.dropLast (!lastB w)
  have h2 : (t.at_ w.dropLast).at_ [lastB w] ≠ nil := by rw [← at_app, ← e]; exact h
  have h3 : t.at_ w.dropLast ≠ nil := fun z => h2 (by rw [z]; rfl)
  obtain ⟨r1, r2, r3⟩ := rotp_rotp _ _ h2
  have hp : (t.rot w).at_ w.dropLast = rotp (t.at_ w.dropLast) (lastB w) := at_put t _ _ h3
  refine ⟨?_, ?_⟩
  · unfold back
    show (t.rot w).put (w.dropLast ++ [!lastB w]).dropLast (rotp ((t.rot w).at_ (w.dropLast ++ [!lastB w]).dropLast) (lastB (w.dropLast ++ [!lastB w]))) = t
    rw [b1, b2, hp, r1]
    unfold rot
    rw [put_put, put_at]
  · unfold back
    rw [at_app, hp]
    exact r2
theorem spine_put : ∀ (t : Tr) (w : List Bool) (s : Tr), (t.put w s).spine ≤ t.spine + (s.spine - (t.at_ w).spine)
  | t, [], s => by
    have e : t.put [] s = s := by cases t <;> rfl
    have e2 : t.at_ [] = t := by cases t <;> rfl
    rw [e, e2]; omega
  | nil, b :: w, s => by show 0 ≤ _; omega
  | node l k r, b :: w, s => by
    cases b with
    | true =>
      have := spine_put r w s
      simp only [put, at_, if_true, spine] at this ⊢
      omega
    | false => simp only [put, at_, Bool.false_eq_true, if_false, spine]; omega
theorem spine_rotp : ∀ (t : Tr) (b : Bool), (rotp t b).spine ≤ t.spine + 1
  | nil, b => by cases b <;> simp [rotp, spine]
  | node nil y c, false => by simp [rotp, spine]
  | node (node a x b) y c, false => by simp only [rotp, spine]; omega
  | node a x nil, true => by simp [rotp, spine]
  | node a x (node b y c), true => by simp only [rotp, spine]; omega
theorem spine_rot (t : Tr) (w : List Bool) : (t.rot w).spine ≤ t.spine + 1 := by
  have h1 := spine_put t w.dropLast (rotp (t.at_ w.dropLast) (lastB w))
  have h2 := spine_rotp (t.at_ w.dropLast) (lastB w)
  unfold rot
  omega
theorem way_iff : ∀ (t : Tr) (w : List Bool), w ∈ t.ways ↔ t.at_ w ≠ nil
  | nil, w => by rw [at_nil]; simp [ways]
  | node l k r, [] => by simp [ways, at_]
  | node l k r, b :: w => by
    have h1 := way_iff l w
    have h2 := way_iff r w
    cases b with
    | true => simp only [ways, at_, if_true]; rw [← h2]; simp
    | false => simp only [ways, at_, Bool.false_eq_true, if_false]; rw [← h1]; simp
/-! to the right -/
/-- a way down to the right of nodes without left kids, then a tree -/
def chain : List Int → Tr → Tr
  | [], s => s
  | x :: p, s => node nil x (chain p s)
def rw_ (n : Nat) : List Bool := List.replicate n true
theorem chain_at : ∀ (p : List Int) (s : Tr) (v : List Bool), (chain p s).at_ (rw_ p.length ++ v) = s.at_ v
  | [], s, v => rfl
  | x :: p, s, v => by
    show (node nil x (chain p s)).at_ (true :: (rw_ p.length ++ v)) = _
    exact chain_at p s v
theorem chain_put : ∀ (p : List Int) (s : Tr) (u : Tr), (chain p s).put (rw_ p.length) u = chain p u
  | [], s, u => by cases s <;> rfl
  | x :: p, s, u => by
    show (node nil x (chain p s)).put (true :: rw_ p.length) u = _
    simp only [put, if_true, chain, chain_put p s u]
theorem chain_snoc : ∀ (p : List Int) (x : Int) (s : Tr), chain (p ++ [x]) s = chain p (node nil x s)
  | [], x, s => rfl
  | y :: p, x, s => by
    show node nil y (chain (p ++ [x]) s) = node nil y (chain p (node nil x s))
    rw [chain_snoc p x s]
theorem chain_size : ∀ (p : List Int) (s : Tr), (chain p s).size = p.length + s.size
  | [], s => by simp [chain]
  | x :: p, s => by simp only [chain, size, List.length_cons, chain_size p s]; omega
theorem chain_spine : ∀ (p : List Int) (s : Tr), (chain p s).spine = p.length + s.spine
  | [], s => by simp [chain]
  | x :: p, s => by simp only [chain, spine, List.length_cons, chain_spine p s]; omega
theorem chain_ways : ∀ (p : List Int), ∀ w ∈ (chain p nil).ways, false ∉ w
  | [], w, h => by simp [chain, ways] at h
  | x :: p, w, h => by
    simp only [chain, ways, List.map_nil, List.nil_append, List.mem_append, List.mem_singleton, List.mem_map] at h
    rcases h with rfl | ⟨u, hu, rfl⟩
    · simp
    · have := chain_ways p u hu
      simp [this]
/-- how many turns of the loop there are -/
def toGo (s : Tr) : Nat := 2 * s.size - s.spine
/-- the turns that lead to the right, n already done to the right -/
def rights : Nat → Nat → Tr → List (List Bool)
  | 0, _, _ => []
  | _ + 1, _, nil => []
  | f + 1, n, node nil _ c => rights f (n + 1) c
  | f + 1, n, node (node a x b) y c => (rw_ n ++ [false]) :: rights f n (node a x (node b y c))
def keysC : Nat → Tr → List Int
  | 0, _ => []
  | _ + 1, nil => []
  | f + 1, node nil k c => k :: keysC f c
  | f + 1, node (node a x b) y c => keysC f (node a x (node b y c))
/-- the trees behind each turn -/
def follow : Tr → List (List Bool) → List Tr
  | t, [] => [t]
  | t, w :: ws => t :: follow (t.rot w) ws
theorem toGo_step {a b c : Tr} {x y : Int} : toGo (node a x (node b y c)) + 1 = toGo (node (node a x b) y c) := by
  have h := spine_le c
  simp only [toGo, size, spine]
  omega
theorem toGo_down {k : Int} {c : Tr} : toGo c + 1 = toGo (node nil k c) := by
  have h := spine_le c
  simp only [toGo, size, spine]
  omega
theorem rot_chain (p : List Int) (a b c : Tr) (x y : Int) : (chain p (node (node a x b) y c)).rot (rw_ p.length ++ [false]) = chain p (node a x (node b y c)) := by
  obtain ⟨b1, b2⟩ := back_snoc (rw_ p.length) false
  unfold rot
  rw [b1, b2, show rw_ p.length = rw_ p.length ++ [] by simp, chain_at]
  simp only [List.append_nil]
  rw [chain_put]
  rfl
theorem rights_len : ∀ (f n : Nat) (s : Tr), toGo s ≤ f → (rights f n s).length = s.size - s.spine
  | 0, n, s, h => by
    have := spine_le s
    have hz : s.size = 0 := by unfold toGo at h; omega
    simp [rights, hz]
  | f + 1, n, nil, h => by simp [rights, size]
  | f + 1, n, node nil k c, h => by
    have e := toGo_down (k := k) (c := c)
    rw [rights, rights_len f (n + 1) c (by omega)]
    simp only [size, spine]; omega
  | f + 1, n, node (node a x b) y c, h => by
    have e := toGo_step (a := a) (b := b) (c := c) (x := x) (y := y)
    have s := spine_le c
    rw [rights, List.length_cons, rights_len f n _ (by omega)]
    simp only [size, spine]; omega
theorem follow_ne (t : Tr) (ws : List (List Bool)) : follow t ws ≠ [] := by cases ws <;> simp [follow]
/-- all turns are turns, and where they lead -/
theorem rights_ok : ∀ (f : Nat) (p : List Int) (s : Tr), toGo s ≤ f → ∃ q, (follow (chain p s) (rights f p.length s)).getLast (follow_ne _ _) = chain q nil
  | 0, p, s, h => by
    have := spine_le s
    have hz : s.size = 0 := by unfold toGo at h; omega
    cases s with
    | nil => exact ⟨p, rfl⟩
    | node l k r => simp [size] at hz
  | f + 1, p, nil, h => ⟨p, rfl⟩
  | f + 1, p, node nil k c, h => by
    have e := toGo_down (k := k) (c := c)
    have ih := rights_ok f (p ++ [k]) c (by omega)
    rw [chain_snoc] at ih
    have hl : (p ++ [k]).length = p.length + 1 := by simp
    simp only [hl] at ih
    exact ih
  | f + 1, p, node (node a x b) y c, h => by
    have e := toGo_step (a := a) (b := b) (c := c) (x := x) (y := y)
    obtain ⟨q, hq⟩ := rights_ok f p (node a x (node b y c)) (by omega)
    refine ⟨q, ?_⟩
    rw [← hq]
    simp only [rights, follow, rot_chain]
    rw [List.getLast_cons (follow_ne _ _)]
/-- each turn is one of the tree that it is asked of -/
def goesB : Tr → List (List Bool) → Bool
  | _, [] => true
  | t, w :: ws => !w.isEmpty && (!isNoneD (t.at_ w).da && goesB (t.rot w) ws)
theorem rights_go : ∀ (f : Nat) (p : List Int) (s : Tr), goesB (chain p s) (rights f p.length s) = true
  | 0, p, s => rfl
  | f + 1, p, nil => rfl
  | f + 1, p, node nil k c => by
    have ih := rights_go f (p ++ [k]) c
    rw [chain_snoc] at ih
    have hl : (p ++ [k]).length = p.length + 1 := by simp
    rw [hl] at ih
    exact ih
  | f + 1, p, node (node a x b) y c => by
    have ih := rights_go f p (node a x (node b y c))
    simp only [rights, goesB, rot_chain, ih, chain_at, Bool.and_true, Bool.and_eq_true, Bool.not_eq_true']
    refine ⟨?_, rfl⟩
    simp
theorem rights_short : ∀ (f n : Nat) (s : Tr), ∀ w ∈ rights f n s, w.length ≤ n + f
  | 0, n, s, w, h => by simp [rights] at h
  | f + 1, n, nil, w, h => by simp [rights] at h
  | f + 1, n, node nil k c, w, h => by
    have := rights_short f (n + 1) c w h
    omega
  | f + 1, n, node (node a x b) y c, w, h => by
    simp only [rights, List.mem_cons] at h
    rcases h with rfl | h
    · simp [rw_]
    · have := rights_short f n _ w h
      omega
end Tr
end PI
end
section
set_option Elab.async false
set_option linter.all false
set_option maxRecDepth 100000
set_option maxHeartbeats 800000
namespace K20
open PySem PI
/-! the program's turns -/
theorem sz_wd {w : List Bool} (h : w.length ≤ 50) : w.length < 10000 := by omega
theorem with_part_ok (k : Nat) : ∀ (w : List Bool) (t s : Tr), t.at_ w ≠ .nil → w.length ≤ 50 → w.length ≤ k → callF T (k + 1) n_with_part [.val t.da, .val (wd w), .val s.da] = .ok ((t.put w s).da, [.un, .un, .un]) := by
  induction k with
  | zero =>
    intro w t s h _ hk
    obtain rfl : w = [] := List.length_eq_zero_iff.mp (by omega)
    have e : t.put [] s = s := by cases t <;> rfl
    have h0 : eqD (wd []) (.str "") = some true := eq_nil_wd []
    rw [e]
    generalize t.da = d at *
    generalize s.da = z at *
    generalize wd [] = W at *
    rw [call_fn (g := F_with_part) rfl rfl]; simp [F_with_part, ss, sq, ee, ee2, el, et, rs, vv, vm, vt, vc, vi, vp, va, e0, evVar, evBor, evMv, two, rr, L2.ixN, bnA, bnS, bnM, bnQ, bnF, bnR, mulOk_l, mulOk_r, addI, ix3_0, ix3_1, ix3_2, ix2_0, ix2_1, il2_0, il2_1, il3_0, il3_1, il3_2, il4_0, il4_1, il4_2, il4_3, il5_0, il5_1, il5_2, il5_3, il5_4, il6_0, il6_1, il6_2, il6_3, il6_4, il6_5, il7_0, il7_1, il7_2, il7_3, il7_4, il7_5, il7_6, il8_0, il8_1, il8_2, il8_3, il8_4, il8_5, il8_6, il8_7, il9_0, il9_1, il9_2, il9_3, il9_4, il9_5, il9_6, il9_7, il9_8, sl3_to0, sl3_to1, sl3_to2, sl3_to_1, sl3_from1, sl3_from2, sl3_from3, b1D, b2D, setB, setv, putI, ownB, ownL, cmpD, truB, truD, itl, itt, finR, finSl, callV, resolve, ownArgs, nodupN, putBack, hasV, eachB, tgn, tgt, tgl, tsn, tsc, isTyOk, isTy, lcStep, wipeE, evLc, plainAt, lockOf, lock, unlk, unlock, restE, isC, isNoneD, sizeLine_eq, h0]
  | succ k ih =>
    intro w t s h hw hk
    cases w with
    | nil =>
      have e : t.put [] s = s := by cases t <;> rfl
      have h0 : eqD (wd []) (.str "") = some true := eq_nil_wd []
      rw [e]
      generalize t.da = d at *
      generalize s.da = z at *
      generalize wd [] = W at *
      rw [call_fn (g := F_with_part) rfl rfl]; simp [F_with_part, ss, sq, ee, ee2, el, et, rs, vv, vm, vt, vc, vi, vp, va, e0, evVar, evBor, evMv, two, rr, L2.ixN, bnA, bnS, bnM, bnQ, bnF, bnR, mulOk_l, mulOk_r, addI, ix3_0, ix3_1, ix3_2, ix2_0, ix2_1, il2_0, il2_1, il3_0, il3_1, il3_2, il4_0, il4_1, il4_2, il4_3, il5_0, il5_1, il5_2, il5_3, il5_4, il6_0, il6_1, il6_2, il6_3, il6_4, il6_5, il7_0, il7_1, il7_2, il7_3, il7_4, il7_5, il7_6, il8_0, il8_1, il8_2, il8_3, il8_4, il8_5, il8_6, il8_7, il9_0, il9_1, il9_2, il9_3, il9_4, il9_5, il9_6, il9_7, il9_8, sl3_to0, sl3_to1, sl3_to2, sl3_to_1, sl3_from1, sl3_from2, sl3_from3, b1D, b2D, setB, setv, putI, ownB, ownL, cmpD, truB, truD, itl, itt, finR, finSl, callV, resolve, ownArgs, nodupN, putBack, hasV, eachB, tgn, tgt, tgl, tsn, tsc, isTyOk, isTy, lcStep, wipeE, evLc, plainAt, lockOf, lock, unlk, unlock, restE, isC, isNoneD, sizeLine_eq, h0]
    | cons b w =>
      cases t with
      | nil => exact absurd rfl h
      | node l x r =>
        rw [List.length_cons] at hw hk
        have h0 : eqD (wd (b :: w)) (.str "") = some false := eq_nil_wd (b :: w)
        have h1 := ix_first b w (by omega)
        have h2 := eq_sd_l b
        have h3 := sl_tail b w (by omega)
        cases b with
        | true =>
          have h' : r.at_ w ≠ .nil := h
          have h4 := ih w r s h' (by omega) (by omega)
          have e : ((Tr.node l x r).put (true :: w) s).da = .tuple [l.da, .int x, (r.put w s).da] := rfl
          rw [e]
          simp only [Tr.da]
          generalize (r.put w s).da = y at *
          generalize r.da = rd at *
          generalize l.da = ld at *
          generalize s.da = z at *
          generalize wd (true :: w) = W at *
          generalize wd w = W' at *
          generalize sing (sd true) = S at *
          rw [call_fn (g := F_with_part) rfl rfl]; simp [F_with_part, ss, sq, ee, ee2, el, et, rs, vv, vm, vt, vc, vi, vp, va, e0, evVar, evBor, evMv, two, rr, L2.ixN, bnA, bnS, bnM, bnQ, bnF, bnR, mulOk_l, mulOk_r, addI, ix3_0, ix3_1, ix3_2, ix2_0, ix2_1, il2_0, il2_1, il3_0, il3_1, il3_2, il4_0, il4_1, il4_2, il4_3, il5_0, il5_1, il5_2, il5_3, il5_4, il6_0, il6_1, il6_2, il6_3, il6_4, il6_5, il7_0, il7_1, il7_2, il7_3, il7_4, il7_5, il7_6, il8_0, il8_1, il8_2, il8_3, il8_4, il8_5, il8_6, il8_7, il9_0, il9_1, il9_2, il9_3, il9_4, il9_5, il9_6, il9_7, il9_8, sl3_to0, sl3_to1, sl3_to2, sl3_to_1, sl3_from1, sl3_from2, sl3_from3, b1D, b2D, setB, setv, putI, ownB, ownL, cmpD, truB, truD, itl, itt, finR, finSl, callV, resolve, ownArgs, nodupN, putBack, hasV, eachB, tgn, tgt, tgl, tsn, tsc, isTyOk, isTy, lcStep, wipeE, evLc, plainAt, lockOf, lock, unlk, unlock, restE, isC, isNoneD, sizeLine_eq, h0, h1, h2, h3, h4]
        | false =>
          have h' : l.at_ w ≠ .nil := h
          have h4 := ih w l s h' (by omega) (by omega)
          have e : ((Tr.node l x r).put (false :: w) s).da = .tuple [(l.put w s).da, .int x, r.da] := rfl
          rw [e]
          simp only [Tr.da]
          generalize (l.put w s).da = y at *
          generalize r.da = rd at *
          generalize l.da = ld at *
          generalize s.da = z at *
          generalize wd (false :: w) = W at *
          generalize wd w = W' at *
          generalize sing (sd false) = S at *
          rw [call_fn (g := F_with_part) rfl rfl]; simp [F_with_part, ss, sq, ee, ee2, el, et, rs, vv, vm, vt, vc, vi, vp, va, e0, evVar, evBor, evMv, two, rr, L2.ixN, bnA, bnS, bnM, bnQ, bnF, bnR, mulOk_l, mulOk_r, addI, ix3_0, ix3_1, ix3_2, ix2_0, ix2_1, il2_0, il2_1, il3_0, il3_1, il3_2, il4_0, il4_1, il4_2, il4_3, il5_0, il5_1, il5_2, il5_3, il5_4, il6_0, il6_1, il6_2, il6_3, il6_4, il6_5, il7_0, il7_1, il7_2, il7_3, il7_4, il7_5, il7_6, il8_0, il8_1, il8_2, il8_3, il8_4, il8_5, il8_6, il8_7, il9_0, il9_1, il9_2, il9_3, il9_4, il9_5, il9_6, il9_7, il9_8, sl3_to0, sl3_to1, sl3_to2, sl3_to_1, sl3_from1, sl3_from2, sl3_from3, b1D, b2D, setB, setv, putI, ownB, ownL, cmpD, truB, truD, itl, itt, finR, finSl, callV, resolve, ownArgs, nodupN, putBack, hasV, eachB, tgn, tgt, tgl, tsn, tsc, isTyOk, isTy, lcStep, wipeE, evLc, plainAt, lockOf, lock, unlk, unlock, restE, isC, isNoneD, sizeLine_eq, h0, h1, h2, h3, h4]
theorem turned_part_ok (k : Nat) (t : Tr) (b : Bool) (h : t.at_ [b] ≠ .nil) : callF T (k + 1) n_turned_part [.val t.da, .val (sing (sd b))] = .ok ((Tr.rotp t b).da, [.un, .un]) := by
  have h2 := eq_sd_l b
  cases t with
  | nil => exact absurd rfl h
  | node l x r =>
    cases b with
    | false =>
      cases l with
      | nil => exact absurd rfl h
      | node a y c =>
        simp only [Tr.rotp, Tr.da]
        generalize a.da = d1 at *
        generalize c.da = d2 at *
        generalize r.da = d3 at *
        generalize sing (sd false) = S at *
        rw [call_fn (g := F_turned_part) rfl rfl]; simp [F_turned_part, ss, sq, ee, ee2, el, et, rs, vv, vm, vt, vc, vi, vp, va, e0, evVar, evBor, evMv, two, rr, L2.ixN, bnA, bnS, bnM, bnQ, bnF, bnR, mulOk_l, mulOk_r, addI, ix3_0, ix3_1, ix3_2, ix2_0, ix2_1, il2_0, il2_1, il3_0, il3_1, il3_2, il4_0, il4_1, il4_2, il4_3, il5_0, il5_1, il5_2, il5_3, il5_4, il6_0, il6_1, il6_2, il6_3, il6_4, il6_5, il7_0, il7_1, il7_2, il7_3, il7_4, il7_5, il7_6, il8_0, il8_1, il8_2, il8_3, il8_4, il8_5, il8_6, il8_7, il9_0, il9_1, il9_2, il9_3, il9_4, il9_5, il9_6, il9_7, il9_8, sl3_to0, sl3_to1, sl3_to2, sl3_to_1, sl3_from1, sl3_from2, sl3_from3, b1D, b2D, setB, setv, putI, ownB, ownL, cmpD, truB, truD, itl, itt, finR, finSl, callV, resolve, ownArgs, nodupN, putBack, hasV, eachB, tgn, tgt, tgl, tsn, tsc, isTyOk, isTy, lcStep, wipeE, evLc, plainAt, lockOf, lock, unlk, unlock, restE, isC, isNoneD, sizeLine_eq, h2]
    | true =>
      cases r with
      | nil => exact absurd rfl h
      | node a y c =>
        simp only [Tr.rotp, Tr.da]
        generalize a.da = d1 at *
        generalize c.da = d2 at *
        generalize l.da = d3 at *
        generalize sing (sd true) = S at *
        rw [call_fn (g := F_turned_part) rfl rfl]; simp [F_turned_part, ss, sq, ee, ee2, el, et, rs, vv, vm, vt, vc, vi, vp, va, e0, evVar, evBor, evMv, two, rr, L2.ixN, bnA, bnS, bnM, bnQ, bnF, bnR, mulOk_l, mulOk_r, addI, ix3_0, ix3_1, ix3_2, ix2_0, ix2_1, il2_0, il2_1, il3_0, il3_1, il3_2, il4_0, il4_1, il4_2, il4_3, il5_0, il5_1, il5_2, il5_3, il5_4, il6_0, il6_1, il6_2, il6_3, il6_4, il6_5, il7_0, il7_1, il7_2, il7_3, il7_4, il7_5, il7_6, il8_0, il8_1, il8_2, il8_3, il8_4, il8_5, il8_6, il8_7, il9_0, il9_1, il9_2, il9_3, il9_4, il9_5, il9_6, il9_7, il9_8, sl3_to0, sl3_to1, sl3_to2, sl3_to_1, sl3_from1, sl3_from2, sl3_from3, b1D, b2D, setB, setv, putI, ownB, ownL, cmpD, truB, truD, itl, itt, finR, finSl, callV, resolve, ownArgs, nodupN, putBack, hasV, eachB, tgn, tgt, tgl, tsn, tsc, isTyOk, isTy, lcStep, wipeE, evLc, plainAt, lockOf, lock, unlk, unlock, restE, isC, isNoneD, sizeLine_eq, h2]
theorem turned_ok (k : Nat) (t : Tr) (w : List Bool) (hw : w ≠ []) (hl : w.length ≤ 50) (hk : 50 ≤ k) (h : t.at_ w ≠ .nil) : callF T (k + 2) n_turned [.val t.da, .val (wd w)] = .ok ((t.rot w).da, [.un, .un]) := by
  have e := Tr.snoc_of hw
  have hl2 : w.dropLast.length ≤ 50 := by rw [List.length_dropLast]; omega
  have h2 : (t.at_ w.dropLast).at_ [Tr.lastB w] ≠ .nil := by rw [← Tr.at_app, ← e]; exact h
  have h3 : t.at_ w.dropLast ≠ .nil := fun z => h2 (by rw [z]; rfl)
  have s1 := sl_init w (by omega)
  have s2 : idxD (wd w) (.int (-1)) = some (sing (sd (Tr.lastB w))) := by
    have := ix_last w.dropLast (Tr.lastB w) (by omega)
    rw [← e] at this
    exact this
  obtain ⟨j, rfl⟩ : ∃ j, k = j + 1 := ⟨k - 1, by omega⟩
  have a1 := tree_at_ok j t w.dropLast
  have a2 := turned_part_ok (j + 1) (t.at_ w.dropLast) (Tr.lastB w) h2
  have a3 := with_part_ok (j + 1) w.dropLast t (Tr.rotp (t.at_ w.dropLast) (Tr.lastB w)) h3 hl2 (by omega)
  unfold Tr.rot
  generalize (t.put w.dropLast (Tr.rotp (t.at_ w.dropLast) (Tr.lastB w))).da = y1 at *
  generalize (Tr.rotp (t.at_ w.dropLast) (Tr.lastB w)).da = y2 at *
  generalize (t.at_ w.dropLast).da = y3 at *
  generalize t.da = y4 at *
  generalize sing (sd (Tr.lastB w)) = S at *
  generalize wd w.dropLast = W' at *
  generalize wd w = W at *
  rw [call_fn (g := F_turned) rfl rfl]; simp [F_turned, ss, sq, ee, ee2, el, et, rs, vv, vm, vt, vc, vi, vp, va, e0, evVar, evBor, evMv, two, rr, L2.ixN, bnA, bnS, bnM, bnQ, bnF, bnR, mulOk_l, mulOk_r, addI, ix3_0, ix3_1, ix3_2, ix2_0, ix2_1, il2_0, il2_1, il3_0, il3_1, il3_2, il4_0, il4_1, il4_2, il4_3, il5_0, il5_1, il5_2, il5_3, il5_4, il6_0, il6_1, il6_2, il6_3, il6_4, il6_5, il7_0, il7_1, il7_2, il7_3, il7_4, il7_5, il7_6, il8_0, il8_1, il8_2, il8_3, il8_4, il8_5, il8_6, il8_7, il9_0, il9_1, il9_2, il9_3, il9_4, il9_5, il9_6, il9_7, il9_8, sl3_to0, sl3_to1, sl3_to2, sl3_to_1, sl3_from1, sl3_from2, sl3_from3, b1D, b2D, setB, setv, putI, ownB, ownL, cmpD, truB, truD, itl, itt, finR, finSl, callV, resolve, ownArgs, nodupN, putBack, hasV, eachB, tgn, tgt, tgl, tsn, tsc, isTyOk, isTy, lcStep, wipeE, evLc, plainAt, lockOf, lock, unlk, unlock, restE, isC, isNoneD, sizeLine_eq, s1, s2, a1, a2, a3]
def turnB (t : Tr) (w : List Bool) : Bool := !isNoneD (t.at_ w).da && !w.isEmpty
theorem turnB_iff {t : Tr} {w : List Bool} : turnB t w = true ↔ t.at_ w ≠ .nil ∧ w ≠ [] := by
  unfold turnB
  cases h : t.at_ w with
  | nil => simp [Tr.da, isNoneD]
  | node l x r => cases w <;> simp [Tr.da, isNoneD]
theorem is_turn_ok (k : Nat) (t : Tr) (w : List Bool) (hw : w.length ≤ 50) : callF T (k + 4) n_is_turn [.val t.da, .val (wd w)] = .ok (.bool (turnB t w), [.un, .un]) := by
  have h1 := is_node_ok k t w (by omega)
  have h2 := eq_nil_wd w
  unfold turnB
  generalize (!isNoneD (t.at_ w).da) = b1 at *
  generalize w.isEmpty = b2 at *
  generalize t.da = d at *
  generalize wd w = W at *
  rw [call_fn (g := F_is_turn) rfl rfl]
  cases b1 <;> cases b2 <;> simp [F_is_turn, ss, sq, ee, ee2, el, et, rs, vv, vm, vt, vc, vi, vp, va, e0, evVar, evBor, evMv, two, rr, L2.ixN, bnA, bnS, bnM, bnQ, bnF, bnR, mulOk_l, mulOk_r, addI, ix3_0, ix3_1, ix3_2, ix2_0, ix2_1, il2_0, il2_1, il3_0, il3_1, il3_2, il4_0, il4_1, il4_2, il4_3, il5_0, il5_1, il5_2, il5_3, il5_4, il6_0, il6_1, il6_2, il6_3, il6_4, il6_5, il7_0, il7_1, il7_2, il7_3, il7_4, il7_5, il7_6, il8_0, il8_1, il8_2, il8_3, il8_4, il8_5, il8_6, il8_7, il9_0, il9_1, il9_2, il9_3, il9_4, il9_5, il9_6, il9_7, il9_8, sl3_to0, sl3_to1, sl3_to2, sl3_to_1, sl3_from1, sl3_from2, sl3_from3, b1D, b2D, setB, setv, putI, ownB, ownL, cmpD, truB, truD, itl, itt, finR, finSl, callV, resolve, ownArgs, nodupN, putBack, hasV, eachB, tgn, tgt, tgl, tsn, tsc, isTyOk, isTy, lcStep, wipeE, evLc, plainAt, lockOf, lock, unlk, unlock, restE, isC, isNoneD, sizeLine_eq, h1, h2]
/-- what is no way at all -/
theorem is_turn_no (k : Nat) (t v : Da) (h : callF T (k + 3) n_is_node [.val t, .val v] = .ok (.bool false, [.un, .un])) : callF T (k + 4) n_is_turn [.val t, .val v] = .ok (.bool false, [.un, .un]) := by
  rw [call_fn (g := F_is_turn) rfl rfl]; simp [F_is_turn, ss, sq, ee, ee2, el, et, rs, vv, vm, vt, vc, vi, vp, va, e0, evVar, evBor, evMv, two, rr, L2.ixN, bnA, bnS, bnM, bnQ, bnF, bnR, mulOk_l, mulOk_r, addI, ix3_0, ix3_1, ix3_2, ix2_0, ix2_1, il2_0, il2_1, il3_0, il3_1, il3_2, il4_0, il4_1, il4_2, il4_3, il5_0, il5_1, il5_2, il5_3, il5_4, il6_0, il6_1, il6_2, il6_3, il6_4, il6_5, il7_0, il7_1, il7_2, il7_3, il7_4, il7_5, il7_6, il8_0, il8_1, il8_2, il8_3, il8_4, il8_5, il8_6, il8_7, il9_0, il9_1, il9_2, il9_3, il9_4, il9_5, il9_6, il9_7, il9_8, sl3_to0, sl3_to1, sl3_to2, sl3_to_1, sl3_from1, sl3_from2, sl3_from3, b1D, b2D, setB, setv, putI, ownB, ownL, cmpD, truB, truD, itl, itt, finR, finSl, callV, resolve, ownArgs, nodupN, putBack, hasV, eachB, tgn, tgt, tgl, tsn, tsc, isTyOk, isTy, lcStep, wipeE, evLc, plainAt, lockOf, lock, unlk, unlock, restE, isC, isNoneD, sizeLine_eq, h]
theorem check_turn_ok (k : Nat) (t : Tr) (h : t.okK) (hs : t.size ≤ 20) (w : List Bool) (hw : w.length ≤ 50) (hb : turnB t w = true) : callF T (k + 6) n_check_turn [.val t.da, .val (wd w)] = .ok (.none, [.un, .un]) := by
  have h1 := check_tree_ok k t.da (noD_da t) (isTree_da h hs)
  have h2 := is_turn_ok (k + 1) t w hw
  rw [hb] at h2
  generalize t.da = d at *
  generalize wd w = W at *
  rw [call_fn (g := F_check_turn) rfl rfl]; simp [F_check_turn, ss, sq, ee, ee2, el, et, rs, vv, vm, vt, vc, vi, vp, va, e0, evVar, evBor, evMv, two, rr, L2.ixN, bnA, bnS, bnM, bnQ, bnF, bnR, mulOk_l, mulOk_r, addI, ix3_0, ix3_1, ix3_2, ix2_0, ix2_1, il2_0, il2_1, il3_0, il3_1, il3_2, il4_0, il4_1, il4_2, il4_3, il5_0, il5_1, il5_2, il5_3, il5_4, il6_0, il6_1, il6_2, il6_3, il6_4, il6_5, il7_0, il7_1, il7_2, il7_3, il7_4, il7_5, il7_6, il8_0, il8_1, il8_2, il8_3, il8_4, il8_5, il8_6, il8_7, il9_0, il9_1, il9_2, il9_3, il9_4, il9_5, il9_6, il9_7, il9_8, sl3_to0, sl3_to1, sl3_to2, sl3_to_1, sl3_from1, sl3_from2, sl3_from3, b1D, b2D, setB, setv, putI, ownB, ownL, cmpD, truB, truD, itl, itt, finR, finSl, callV, resolve, ownArgs, nodupN, putBack, hasV, eachB, tgn, tgt, tgl, tsn, tsc, isTyOk, isTy, lcStep, wipeE, evLc, plainAt, lockOf, lock, unlk, unlock, restE, isC, isNoneD, sizeLine_eq, h1, h2]
theorem check_turn_no (k : Nat) (t : Tr) (h : t.okK) (hs : t.size ≤ 20) (v : Da) (hb : callF T (k + 5) n_is_turn [.val t.da, .val v] = .ok (.bool false, [.un, .un])) : callF T (k + 6) n_check_turn [.val t.da, .val v] = .exc ⟨1, none⟩ [.un, .un] := by
  have h1 := check_tree_ok k t.da (noD_da t) (isTree_da h hs)
  generalize t.da = d at *
  rw [call_fn (g := F_check_turn) rfl rfl]; simp [F_check_turn, ss, sq, ee, ee2, el, et, rs, vv, vm, vt, vc, vi, vp, va, e0, evVar, evBor, evMv, two, rr, L2.ixN, bnA, bnS, bnM, bnQ, bnF, bnR, mulOk_l, mulOk_r, addI, ix3_0, ix3_1, ix3_2, ix2_0, ix2_1, il2_0, il2_1, il3_0, il3_1, il3_2, il4_0, il4_1, il4_2, il4_3, il5_0, il5_1, il5_2, il5_3, il5_4, il6_0, il6_1, il6_2, il6_3, il6_4, il6_5, il7_0, il7_1, il7_2, il7_3, il7_4, il7_5, il7_6, il8_0, il8_1, il8_2, il8_3, il8_4, il8_5, il8_6, il8_7, il9_0, il9_1, il9_2, il9_3, il9_4, il9_5, il9_6, il9_7, il9_8, sl3_to0, sl3_to1, sl3_to2, sl3_to_1, sl3_from1, sl3_from2, sl3_from3, b1D, b2D, setB, setv, putI, ownB, ownL, cmpD, truB, truD, itl, itt, finR, finSl, callV, resolve, ownArgs, nodupN, putBack, hasV, eachB, tgn, tgt, tgl, tsn, tsc, isTyOk, isTy, lcStep, wipeE, evLc, plainAt, lockOf, lock, unlk, unlock, restE, isC, isNoneD, sizeLine_eq, h1, hb, raise_mal]
theorem check_turn_bad (k : Nat) (d v : Da) (h : noD d = true) (ht : isTreeB d = false) : callF T (k + 6) n_check_turn [.val d, .val v] = .exc ⟨1, none⟩ [.un, .un] := by
  have h1 := check_tree_bad k d h ht
  rw [call_fn (g := F_check_turn) rfl rfl]; simp [F_check_turn, ss, sq, ee, ee2, el, et, rs, vv, vm, vt, vc, vi, vp, va, e0, evVar, evBor, evMv, two, rr, L2.ixN, bnA, bnS, bnM, bnQ, bnF, bnR, mulOk_l, mulOk_r, addI, ix3_0, ix3_1, ix3_2, ix2_0, ix2_1, il2_0, il2_1, il3_0, il3_1, il3_2, il4_0, il4_1, il4_2, il4_3, il5_0, il5_1, il5_2, il5_3, il5_4, il6_0, il6_1, il6_2, il6_3, il6_4, il6_5, il7_0, il7_1, il7_2, il7_3, il7_4, il7_5, il7_6, il8_0, il8_1, il8_2, il8_3, il8_4, il8_5, il8_6, il8_7, il9_0, il9_1, il9_2, il9_3, il9_4, il9_5, il9_6, il9_7, il9_8, sl3_to0, sl3_to1, sl3_to2, sl3_to_1, sl3_from1, sl3_from2, sl3_from3, b1D, b2D, setB, setv, putI, ownB, ownL, cmpD, truB, truD, itl, itt, finR, finSl, callV, resolve, ownArgs, nodupN, putBack, hasV, eachB, tgn, tgt, tgl, tsn, tsc, isTyOk, isTy, lcStep, wipeE, evLc, plainAt, lockOf, lock, unlk, unlock, restE, isC, isNoneD, sizeLine_eq, h1]
theorem turn_ok (k : Nat) (t : Tr) (h : t.okK) (hs : t.size ≤ 20) (w : List Bool) (hw : w.length ≤ 50) (hk : 60 ≤ k) (hb : turnB t w = true) : callF T (k + 1) n_turn [.val t.da, .val (wd w)] = .ok ((t.rot w).da, [.un, .un]) := by
  obtain ⟨j, rfl⟩ : ∃ j, k = j + 6 := ⟨k - 6, by omega⟩
  have h1 := check_turn_ok j t h hs w hw hb
  obtain ⟨b1, b2⟩ := turnB_iff.mp hb
  have h2 := turned_ok (j + 4) t w b2 hw (by omega) b1
  generalize (t.rot w).da = y at *
  generalize t.da = d at *
  generalize wd w = W at *
  rw [call_fn (g := F_turn) rfl rfl]; simp [F_turn, ss, sq, ee, ee2, el, et, rs, vv, vm, vt, vc, vi, vp, va, e0, evVar, evBor, evMv, two, rr, L2.ixN, bnA, bnS, bnM, bnQ, bnF, bnR, mulOk_l, mulOk_r, addI, ix3_0, ix3_1, ix3_2, ix2_0, ix2_1, il2_0, il2_1, il3_0, il3_1, il3_2, il4_0, il4_1, il4_2, il4_3, il5_0, il5_1, il5_2, il5_3, il5_4, il6_0, il6_1, il6_2, il6_3, il6_4, il6_5, il7_0, il7_1, il7_2, il7_3, il7_4, il7_5, il7_6, il8_0, il8_1, il8_2, il8_3, il8_4, il8_5, il8_6, il8_7, il9_0, il9_1, il9_2, il9_3, il9_4, il9_5, il9_6, il9_7, il9_8, sl3_to0, sl3_to1, sl3_to2, sl3_to_1, sl3_from1, sl3_from2, sl3_from3, b1D, b2D, setB, setv, putI, ownB, ownL, cmpD, truB, truD, itl, itt, finR, finSl, callV, resolve, ownArgs, nodupN, putBack, hasV, eachB, tgn, tgt, tgl, tsn, tsc, isTyOk, isTy, lcStep, wipeE, evLc, plainAt, lockOf, lock, unlk, unlock, restE, isC, isNoneD, sizeLine_eq, h1, h2]
theorem turn_no (k : Nat) (d v : Da) (h : callF T k n_check_turn [.val d, .val v] = .exc ⟨1, none⟩ [.un, .un]) : callF T (k + 1) n_turn [.val d, .val v] = .exc ⟨1, none⟩ [.un, .un] := by
  rw [call_fn (g := F_turn) rfl rfl]; simp [F_turn, ss, sq, ee, ee2, el, et, rs, vv, vm, vt, vc, vi, vp, va, e0, evVar, evBor, evMv, two, rr, L2.ixN, bnA, bnS, bnM, bnQ, bnF, bnR, mulOk_l, mulOk_r, addI, ix3_0, ix3_1, ix3_2, ix2_0, ix2_1, il2_0, il2_1, il3_0, il3_1, il3_2, il4_0, il4_1, il4_2, il4_3, il5_0, il5_1, il5_2, il5_3, il5_4, il6_0, il6_1, il6_2, il6_3, il6_4, il6_5, il7_0, il7_1, il7_2, il7_3, il7_4, il7_5, il7_6, il8_0, il8_1, il8_2, il8_3, il8_4, il8_5, il8_6, il8_7, il9_0, il9_1, il9_2, il9_3, il9_4, il9_5, il9_6, il9_7, il9_8, sl3_to0, sl3_to1, sl3_to2, sl3_to_1, sl3_from1, sl3_from2, sl3_from3, b1D, b2D, setB, setv, putI, ownB, ownL, cmpD, truB, truD, itl, itt, finR, finSl, callV, resolve, ownArgs, nodupN, putBack, hasV, eachB, tgn, tgt, tgl, tsn, tsc, isTyOk, isTy, lcStep, wipeE, evLc, plainAt, lockOf, lock, unlk, unlock, restE, isC, isNoneD, sizeLine_eq, h]
theorem way_back_ok (k : Nat) (w : List Bool) (hw : w ≠ []) (hl : w.length ≤ 50) : callF T (k + 1) n_way_back [.val (wd w)] = .ok (wd (Tr.back w), [.un]) := by
  have e := Tr.snoc_of hw
  have s1 := sl_init w (by omega)
  have hl2 : w.dropLast.length ≤ 50 := by rw [List.length_dropLast]; omega
  have s2 : idxD (wd w) (.int (-1)) = some (sing (sd (Tr.lastB w))) := by
    have := ix_last w.dropLast (Tr.lastB w) (by omega)
    rw [← e] at this
    exact this
  have s3 := eq_sd_l (Tr.lastB w)
  have s4 := add_snoc_l (w := w.dropLast) (by omega)
  have s5 := add_snoc_r (w := w.dropLast) (by omega)
  unfold Tr.back
  generalize Tr.lastB w = b at *
  generalize wd w = W at *
  cases b with
  | true =>
    show _ = R.ok (wd (w.dropLast ++ [false]), _)
    generalize wd (w.dropLast ++ [false]) = W1 at *
    generalize wd (w.dropLast ++ [true]) = W2 at *
    generalize wd w.dropLast = W' at *
    generalize sing (sd true) = S at *
    rw [call_fn (g := F_way_back) rfl rfl]; simp [F_way_back, ss, sq, ee, ee2, el, et, rs, vv, vm, vt, vc, vi, vp, va, e0, evVar, evBor, evMv, two, rr, L2.ixN, bnA, bnS, bnM, bnQ, bnF, bnR, mulOk_l, mulOk_r, addI, ix3_0, ix3_1, ix3_2, ix2_0, ix2_1, il2_0, il2_1, il3_0, il3_1, il3_2, il4_0, il4_1, il4_2, il4_3, il5_0, il5_1, il5_2, il5_3, il5_4, il6_0, il6_1, il6_2, il6_3, il6_4, il6_5, il7_0, il7_1, il7_2, il7_3, il7_4, il7_5, il7_6, il8_0, il8_1, il8_2, il8_3, il8_4, il8_5, il8_6, il8_7, il9_0, il9_1, il9_2, il9_3, il9_4, il9_5, il9_6, il9_7, il9_8, sl3_to0, sl3_to1, sl3_to2, sl3_to_1, sl3_from1, sl3_from2, sl3_from3, b1D, b2D, setB, setv, putI, ownB, ownL, cmpD, truB, truD, itl, itt, finR, finSl, callV, resolve, ownArgs, nodupN, putBack, hasV, eachB, tgn, tgt, tgl, tsn, tsc, isTyOk, isTy, lcStep, wipeE, evLc, plainAt, lockOf, lock, unlk, unlock, restE, isC, isNoneD, sizeLine_eq, s1, s2, s3, s4, s5]
  | false =>
    show _ = R.ok (wd (w.dropLast ++ [true]), _)
    generalize wd (w.dropLast ++ [false]) = W1 at *
    generalize wd (w.dropLast ++ [true]) = W2 at *
    generalize wd w.dropLast = W' at *
    generalize sing (sd false) = S at *
    rw [call_fn (g := F_way_back) rfl rfl]; simp [F_way_back, ss, sq, ee, ee2, el, et, rs, vv, vm, vt, vc, vi, vp, va, e0, evVar, evBor, evMv, two, rr, L2.ixN, bnA, bnS, bnM, bnQ, bnF, bnR, mulOk_l, mulOk_r, addI, ix3_0, ix3_1, ix3_2, ix2_0, ix2_1, il2_0, il2_1, il3_0, il3_1, il3_2, il4_0, il4_1, il4_2, il4_3, il5_0, il5_1, il5_2, il5_3, il5_4, il6_0, il6_1, il6_2, il6_3, il6_4, il6_5, il7_0, il7_1, il7_2, il7_3, il7_4, il7_5, il7_6, il8_0, il8_1, il8_2, il8_3, il8_4, il8_5, il8_6, il8_7, il9_0, il9_1, il9_2, il9_3, il9_4, il9_5, il9_6, il9_7, il9_8, sl3_to0, sl3_to1, sl3_to2, sl3_to_1, sl3_from1, sl3_from2, sl3_from3, b1D, b2D, setB, setv, putI, ownB, ownL, cmpD, truB, truD, itl, itt, finR, finSl, callV, resolve, ownArgs, nodupN, putBack, hasV, eachB, tgn, tgt, tgl, tsn, tsc, isTyOk, isTy, lcStep, wipeE, evLc, plainAt, lockOf, lock, unlk, unlock, restE, isC, isNoneD, sizeLine_eq, s1, s2, s3, s4, s5]
theorem undoing_ok (k : Nat) (t : Tr) (h : t.okK) (hs : t.size ≤ 20) (w : List Bool) (hw : w.length ≤ 50) (hb : turnB t w = true) : callF T (k + 7) n_undoing [.val t.da, .val (wd w)] = .ok (wd (Tr.back w), [.un, .un]) := by
  have h1 := check_turn_ok k t h hs w hw hb
  obtain ⟨b1, b2⟩ := turnB_iff.mp hb
  have h2 := way_back_ok (k + 5) w b2 hw
  generalize t.da = d at *
  generalize wd w = W at *
  generalize wd (Tr.back w) = W2 at *
  rw [call_fn (g := F_undoing) rfl rfl]; simp [F_undoing, ss, sq, ee, ee2, el, et, rs, vv, vm, vt, vc, vi, vp, va, e0, evVar, evBor, evMv, two, rr, L2.ixN, bnA, bnS, bnM, bnQ, bnF, bnR, mulOk_l, mulOk_r, addI, ix3_0, ix3_1, ix3_2, ix2_0, ix2_1, il2_0, il2_1, il3_0, il3_1, il3_2, il4_0, il4_1, il4_2, il4_3, il5_0, il5_1, il5_2, il5_3, il5_4, il6_0, il6_1, il6_2, il6_3, il6_4, il6_5, il7_0, il7_1, il7_2, il7_3, il7_4, il7_5, il7_6, il8_0, il8_1, il8_2, il8_3, il8_4, il8_5, il8_6, il8_7, il9_0, il9_1, il9_2, il9_3, il9_4, il9_5, il9_6, il9_7, il9_8, sl3_to0, sl3_to1, sl3_to2, sl3_to_1, sl3_from1, sl3_from2, sl3_from3, b1D, b2D, setB, setv, putI, ownB, ownL, cmpD, truB, truD, itl, itt, finR, finSl, callV, resolve, ownArgs, nodupN, putBack, hasV, eachB, tgn, tgt, tgl, tsn, tsc, isTyOk, isTy, lcStep, wipeE, evLc, plainAt, lockOf, lock, unlk, unlock, restE, isC, isNoneD, sizeLine_eq, h1, h2]
theorem undoing_no (k : Nat) (d v : Da) (h : callF T k n_check_turn [.val d, .val v] = .exc ⟨1, none⟩ [.un, .un]) : callF T (k + 1) n_undoing [.val d, .val v] = .exc ⟨1, none⟩ [.un, .un] := by
  rw [call_fn (g := F_undoing) rfl rfl]; simp [F_undoing, ss, sq, ee, ee2, el, et, rs, vv, vm, vt, vc, vi, vp, va, e0, evVar, evBor, evMv, two, rr, L2.ixN, bnA, bnS, bnM, bnQ, bnF, bnR, mulOk_l, mulOk_r, addI, ix3_0, ix3_1, ix3_2, ix2_0, ix2_1, il2_0, il2_1, il3_0, il3_1, il3_2, il4_0, il4_1, il4_2, il4_3, il5_0, il5_1, il5_2, il5_3, il5_4, il6_0, il6_1, il6_2, il6_3, il6_4, il6_5, il7_0, il7_1, il7_2, il7_3, il7_4, il7_5, il7_6, il8_0, il8_1, il8_2, il8_3, il8_4, il8_5, il8_6, il8_7, il9_0, il9_1, il9_2, il9_3, il9_4, il9_5, il9_6, il9_7, il9_8, sl3_to0, sl3_to1, sl3_to2, sl3_to_1, sl3_from1, sl3_from2, sl3_from3, b1D, b2D, setB, setv, putI, ownB, ownL, cmpD, truB, truD, itl, itt, finR, finSl, callV, resolve, ownArgs, nodupN, putBack, hasV, eachB, tgn, tgt, tgl, tsn, tsc, isTyOk, isTy, lcStep, wipeE, evLc, plainAt, lockOf, lock, unlk, unlock, restE, isC, isNoneD, sizeLine_eq, h]
/-- the ways but the top's, level by level -/
def downs (t : Tr) : List (List Bool) := (sortBy ltW t.ways).filter fun w => !w.isEmpty
theorem turns_of_ok (k : Nat) (t : Tr) (hs : t.size ≤ 20) (hk : 40 ≤ k) (hk2 : k < 900) : callF T (k + 1) n_turns_of [.val t.da] = .ok (.list ((downs t).map wd), [.un]) := by
  obtain ⟨j, rfl⟩ : ∃ j, k = j + 1 := ⟨k - 1, by omega⟩
  have h1 := level_ways_ok j t hs (by omega) (by omega)
  have p1 := lcLoop_tfil (step := lcStep [1] (.nm 1) (ev T (callF T (j + 1)) lc_turns_of_0).c (ev T (callF T (j + 1)) le_turns_of_0).e) (env := [.val t.da, .un]) wd wd (fun w => !w.isEmpty) (sortBy ltW t.ways) (fun w hw => by
    have h2 := eq_nil_wd w
    generalize w.isEmpty = b at *
    generalize wd w = W at *
    generalize t.da = d at *
    cases b <;> simp [ss, sq, ee, ee2, el, et, rs, vv, vm, vt, vc, vi, vp, va, e0, evVar, evBor, evMv, two, rr, L2.ixN, bnA, bnS, bnM, bnQ, bnF, bnR, mulOk_l, mulOk_r, addI, ix3_0, ix3_1, ix3_2, ix2_0, ix2_1, il2_0, il2_1, il3_0, il3_1, il3_2, il4_0, il4_1, il4_2, il4_3, il5_0, il5_1, il5_2, il5_3, il5_4, il6_0, il6_1, il6_2, il6_3, il6_4, il6_5, il7_0, il7_1, il7_2, il7_3, il7_4, il7_5, il7_6, il8_0, il8_1, il8_2, il8_3, il8_4, il8_5, il8_6, il8_7, il9_0, il9_1, il9_2, il9_3, il9_4, il9_5, il9_6, il9_7, il9_8, sl3_to0, sl3_to1, sl3_to2, sl3_to_1, sl3_from1, sl3_from2, sl3_from3, b1D, b2D, setB, setv, putI, ownB, ownL, cmpD, truB, truD, itl, itt, finR, finSl, callV, resolve, ownArgs, nodupN, putBack, hasV, eachB, tgn, tgt, tgl, tsn, tsc, isTyOk, isTy, lcStep, wipeE, evLc, plainAt, lockOf, lock, unlk, unlock, restE, isC, isNoneD, sizeLine_eq, h2])
  have n1 : ((sortBy ltW t.ways).map wd).length ≤ 16777216 := by rw [List.length_map, len_sortBy, t.ways_len]; omega
  unfold downs
  generalize ((sortBy ltW t.ways).filter fun w => !w.isEmpty).map wd = a1 at *
  generalize (sortBy ltW t.ways).map wd = a2 at *
  generalize t.da = d at *
  rw [call_fn (g := F_turns_of) rfl rfl]; simp [F_turns_of, ss, sq, ee, ee2, el, et, rs, vv, vm, vt, vc, vi, vp, va, e0, evVar, evBor, evMv, two, rr, L2.ixN, bnA, bnS, bnM, bnQ, bnF, bnR, mulOk_l, mulOk_r, addI, ix3_0, ix3_1, ix3_2, ix2_0, ix2_1, il2_0, il2_1, il3_0, il3_1, il3_2, il4_0, il4_1, il4_2, il4_3, il5_0, il5_1, il5_2, il5_3, il5_4, il6_0, il6_1, il6_2, il6_3, il6_4, il6_5, il7_0, il7_1, il7_2, il7_3, il7_4, il7_5, il7_6, il8_0, il8_1, il8_2, il8_3, il8_4, il8_5, il8_6, il8_7, il9_0, il9_1, il9_2, il9_3, il9_4, il9_5, il9_6, il9_7, il9_8, sl3_to0, sl3_to1, sl3_to2, sl3_to_1, sl3_from1, sl3_from2, sl3_from3, b1D, b2D, setB, setv, putI, ownB, ownL, cmpD, truB, truD, itl, itt, finR, finSl, callV, resolve, ownArgs, nodupN, putBack, hasV, eachB, tgn, tgt, tgl, tsn, tsc, isTyOk, isTy, lcStep, wipeE, evLc, plainAt, lockOf, lock, unlk, unlock, restE, isC, isNoneD, sizeLine_eq, h1, p1, n1]
theorem turns_ok (k : Nat) (t : Tr) (h : t.okK) (hs : t.size ≤ 20) (hk : 50 ≤ k) (hk2 : k < 900) : callF T (k + 1) n_turns [.val t.da] = .ok (.tuple ((downs t).map wd), [.un]) := by
  obtain ⟨j, rfl⟩ : ∃ j, k = j + 5 := ⟨k - 5, by omega⟩
  have h1 := check_tree_ok j t.da (noD_da t) (isTree_da h hs)
  have h2 := turns_of_ok (j + 4) t hs (by omega) (by omega)
  generalize (downs t).map wd = a1 at *
  generalize t.da = d at *
  rw [call_fn (g := F_turns) rfl rfl]; simp [F_turns, ss, sq, ee, ee2, el, et, rs, vv, vm, vt, vc, vi, vp, va, e0, evVar, evBor, evMv, two, rr, L2.ixN, bnA, bnS, bnM, bnQ, bnF, bnR, mulOk_l, mulOk_r, addI, ix3_0, ix3_1, ix3_2, ix2_0, ix2_1, il2_0, il2_1, il3_0, il3_1, il3_2, il4_0, il4_1, il4_2, il4_3, il5_0, il5_1, il5_2, il5_3, il5_4, il6_0, il6_1, il6_2, il6_3, il6_4, il6_5, il7_0, il7_1, il7_2, il7_3, il7_4, il7_5, il7_6, il8_0, il8_1, il8_2, il8_3, il8_4, il8_5, il8_6, il8_7, il9_0, il9_1, il9_2, il9_3, il9_4, il9_5, il9_6, il9_7, il9_8, sl3_to0, sl3_to1, sl3_to2, sl3_to_1, sl3_from1, sl3_from2, sl3_from3, b1D, b2D, setB, setv, putI, ownB, ownL, cmpD, truB, truD, itl, itt, finR, finSl, callV, resolve, ownArgs, nodupN, putBack, hasV, eachB, tgn, tgt, tgl, tsn, tsc, isTyOk, isTy, lcStep, wipeE, evLc, plainAt, lockOf, lock, unlk, unlock, restE, isC, isNoneD, sizeLine_eq, h1, h2]
theorem turns_bad (k : Nat) (d : Da) (h : noD d = true) (ht : isTreeB d = false) : callF T (k + 6) n_turns [.val d] = .exc ⟨1, none⟩ [.un] := by
  have h1 := check_tree_bad k d h ht
  rw [call_fn (g := F_turns) rfl rfl]; simp [F_turns, ss, sq, ee, ee2, el, et, rs, vv, vm, vt, vc, vi, vp, va, e0, evVar, evBor, evMv, two, rr, L2.ixN, bnA, bnS, bnM, bnQ, bnF, bnR, mulOk_l, mulOk_r, addI, ix3_0, ix3_1, ix3_2, ix2_0, ix2_1, il2_0, il2_1, il3_0, il3_1, il3_2, il4_0, il4_1, il4_2, il4_3, il5_0, il5_1, il5_2, il5_3, il5_4, il6_0, il6_1, il6_2, il6_3, il6_4, il6_5, il7_0, il7_1, il7_2, il7_3, il7_4, il7_5, il7_6, il8_0, il8_1, il8_2, il8_3, il8_4, il8_5, il8_6, il8_7, il9_0, il9_1, il9_2, il9_3, il9_4, il9_5, il9_6, il9_7, il9_8, sl3_to0, sl3_to1, sl3_to2, sl3_to_1, sl3_from1, sl3_from2, sl3_from3, b1D, b2D, setB, setv, putI, ownB, ownL, cmpD, truB, truD, itl, itt, finR, finSl, callV, resolve, ownArgs, nodupN, putBack, hasV, eachB, tgn, tgt, tgl, tsn, tsc, isTyOk, isTy, lcStep, wipeE, evLc, plainAt, lockOf, lock, unlk, unlock, restE, isC, isNoneD, sizeLine_eq, h1]

end K20
end
section
set_option Elab.async false
set_option linter.all false
set_option maxRecDepth 100000
set_option maxHeartbeats 800000
namespace K20
open PySem PI
theorem snoc_last (ps : List Da) (x : Da) : idxD (.list (ps ++ [x])) (.int (-1)) = some x := by
  show atD (ps ++ [x]) (-1) = some x
  unfold atD L2.atI L2.ixN
  rw [if_neg (by decide), if_pos (by simp; omega)]
  have e : ((-1 : Int) + ((ps ++ [x]).length : Nat)).toNat = ps.length := by simp; omega
  simp only [Option.bind_some, e]
  rw [List.getElem?_append_right (Nat.le_refl _)]
  simp
theorem app_one (ps : List Da) (x : Da) (h : ps.length < 10000) : mmD .append ps x = some (.none, ps ++ [x]) := by
  unfold mmD
  simp [sizeLine_eq]
  omega
/-- one turn of the program's follow -/
theorem fo_yes (k : Nat) (T0 R0 u : Sl) (hu : plainSl u) (ps : List Da) (hp : ps.length < 1000) (t : Tr) (w : List Bool) (hw : w.length ≤ 50) (hk : 60 ≤ k) (hb : turnB t w = true) :
    eachB (sv T (callF T k) b_follow_0).s (.nm 3) (wd w) [T0, R0, .own 0 (.list (ps ++ [t.da])), u] = .ok (.nx, [T0, R0, .own 0 (.list ((ps ++ [t.da]) ++ [(t.rot w).da])), .val (wd w)]) := by
  obtain ⟨j, rfl⟩ : ∃ j, k = j + 4 := ⟨k - 4, by omega⟩
  obtain ⟨b1, b2⟩ := turnB_iff.mp hb
  have h1 := is_turn_ok j t w hw
  rw [hb] at h1
  have h2 := turned_ok (j + 2) t w b2 hw (by omega) b1
  have h3 := snoc_last ps t.da
  have h4 := app_one (ps ++ [t.da]) (t.rot w).da (by simp; omega)
  generalize (t.rot w).da = y at *
  generalize t.da = d at *
  generalize ps ++ [d] = qs at *
  generalize qs ++ [y] = zs at *
  generalize wd w = W at *
  rcases hu with rfl | ⟨z, rfl⟩ <;> simp [ss, sq, ee, ee2, el, et, rs, vv, vm, vt, vc, vi, vp, va, e0, evVar, evBor, evMv, two, rr, L2.ixN, bnA, bnS, bnM, bnQ, bnF, bnR, mulOk_l, mulOk_r, addI, ix3_0, ix3_1, ix3_2, ix2_0, ix2_1, il2_0, il2_1, il3_0, il3_1, il3_2, il4_0, il4_1, il4_2, il4_3, il5_0, il5_1, il5_2, il5_3, il5_4, il6_0, il6_1, il6_2, il6_3, il6_4, il6_5, il7_0, il7_1, il7_2, il7_3, il7_4, il7_5, il7_6, il8_0, il8_1, il8_2, il8_3, il8_4, il8_5, il8_6, il8_7, il9_0, il9_1, il9_2, il9_3, il9_4, il9_5, il9_6, il9_7, il9_8, sl3_to0, sl3_to1, sl3_to2, sl3_to_1, sl3_from1, sl3_from2, sl3_from3, b1D, b2D, setB, setv, putI, ownB, ownL, cmpD, truB, truD, itl, itt, finR, finSl, callV, resolve, ownArgs, nodupN, putBack, hasV, eachB, tgn, tgt, tgl, tsn, tsc, isTyOk, isTy, lcStep, wipeE, evLc, plainAt, lockOf, lock, unlk, unlock, restE, isC, isNoneD, sizeLine_eq, h1, h2, h3, h4]
theorem fo_no (k : Nat) (T0 R0 u : Sl) (hu : plainSl u) (ps : List Da) (d v : Da) (h1 : callF T k n_is_turn [.val d, .val v] = .ok (.bool false, [.un, .un])) :
    eachB (sv T (callF T k) b_follow_0).s (.nm 3) v [T0, R0, .own 0 (.list (ps ++ [d])), u] = .ok (.ret .none, [T0, R0, .own 0 (.list (ps ++ [d])), .val v]) := by
  have h3 := snoc_last ps d
  generalize ps ++ [d] = qs at *
  rcases hu with rfl | ⟨z, rfl⟩ <;> simp [ss, sq, ee, ee2, el, et, rs, vv, vm, vt, vc, vi, vp, va, e0, evVar, evBor, evMv, two, rr, L2.ixN, bnA, bnS, bnM, bnQ, bnF, bnR, mulOk_l, mulOk_r, addI, ix3_0, ix3_1, ix3_2, ix2_0, ix2_1, il2_0, il2_1, il3_0, il3_1, il3_2, il4_0, il4_1, il4_2, il4_3, il5_0, il5_1, il5_2, il5_3, il5_4, il6_0, il6_1, il6_2, il6_3, il6_4, il6_5, il7_0, il7_1, il7_2, il7_3, il7_4, il7_5, il7_6, il8_0, il8_1, il8_2, il8_3, il8_4, il8_5, il8_6, il8_7, il9_0, il9_1, il9_2, il9_3, il9_4, il9_5, il9_6, il9_7, il9_8, sl3_to0, sl3_to1, sl3_to2, sl3_to_1, sl3_from1, sl3_from2, sl3_from3, b1D, b2D, setB, setv, putI, ownB, ownL, cmpD, truB, truD, itl, itt, finR, finSl, callV, resolve, ownArgs, nodupN, putBack, hasV, eachB, tgn, tgt, tgl, tsn, tsc, isTyOk, isTy, lcStep, wipeE, evLc, plainAt, lockOf, lock, unlk, unlock, restE, isC, isNoneD, sizeLine_eq, h1, h3]
theorem fo_loop (k : Nat) (T0 R0 : Sl) (hk : 60 ≤ k) : ∀ (ws : List (List Bool)) (t : Tr) (ps : List Da) (u : Sl), plainSl u → ps.length + ws.length < 900 → (∀ w ∈ ws, w.length ≤ 50) → Tr.goesB t ws = true →
    ∃ u', forLoop (eachB (sv T (callF T k) b_follow_0).s (.nm 3)) (ws.map wd) [T0, R0, .own 0 (.list (ps ++ [t.da])), u] = .ok (.nx, [T0, R0, .own 0 (.list (ps ++ (Tr.follow t ws).map Tr.da)), u'])
  | [], t, ps, u, hu, _, _, _ => ⟨u, rfl⟩
  | w :: ws, t, ps, u, hu, hl, hs, hg => by
    rw [Tr.goesB, Bool.and_eq_true, Bool.and_eq_true] at hg
    obtain ⟨g1, g2, g3⟩ := hg
    rw [List.length_cons] at hl
    have hb : turnB t w = true := by unfold turnB; rw [g1, g2]; rfl
    have st := fo_yes k T0 R0 u hu ps (by omega) t w (hs w List.mem_cons_self) hk hb
    obtain ⟨u', ih⟩ := fo_loop k T0 R0 hk ws (t.rot w) (ps ++ [t.da]) (.val (wd w)) (.inr ⟨_, rfl⟩) (by simp; omega) (fun v hv => hs v (List.mem_cons_of_mem _ hv)) g3
    refine ⟨u', ?_⟩
    rw [List.map_cons]
    unfold forLoop
    rw [st]
    simp only
    rw [ih]
    simp [Tr.follow]
theorem follow_ok (k : Nat) (t : Tr) (ws : List (List Bool)) (hk : 60 ≤ k) (hl : ws.length < 800) (hs : ∀ w ∈ ws, w.length ≤ 50) (hg : Tr.goesB t ws = true) :
    callF T (k + 1) n_follow [.val t.da, .val (.tuple (ws.map wd))] = .ok (.list ((Tr.follow t ws).map Tr.da), [.un, .un]) := by
  obtain ⟨u', h⟩ := fo_loop k (.val t.da) (.val (.tuple (ws.map wd))) hk ws t [] .un (.inl rfl) (by simp; omega) hs hg
  have hf : PI.fresh T (.lst (.cons (.var 0) .nil)) = true := rfl
  rw [List.nil_append, List.nil_append] at h
  generalize (Tr.follow t ws).map Tr.da = z at *
  generalize t.da = d at *
  generalize ws.map wd = W at *
  rw [call_fn (g := F_follow) rfl rfl]; simp [F_follow, ss, sq, ee, ee2, el, et, rs, vv, vm, vt, vc, vi, vp, va, e0, evVar, evBor, evMv, two, rr, L2.ixN, bnA, bnS, bnM, bnQ, bnF, bnR, mulOk_l, mulOk_r, addI, ix3_0, ix3_1, ix3_2, ix2_0, ix2_1, il2_0, il2_1, il3_0, il3_1, il3_2, il4_0, il4_1, il4_2, il4_3, il5_0, il5_1, il5_2, il5_3, il5_4, il6_0, il6_1, il6_2, il6_3, il6_4, il6_5, il7_0, il7_1, il7_2, il7_3, il7_4, il7_5, il7_6, il8_0, il8_1, il8_2, il8_3, il8_4, il8_5, il8_6, il8_7, il9_0, il9_1, il9_2, il9_3, il9_4, il9_5, il9_6, il9_7, il9_8, sl3_to0, sl3_to1, sl3_to2, sl3_to_1, sl3_from1, sl3_from2, sl3_from3, b1D, b2D, setB, setv, putI, ownB, ownL, cmpD, truB, truD, itl, itt, finR, finSl, callV, resolve, ownArgs, nodupN, putBack, hasV, eachB, tgn, tgt, tgl, tsn, tsc, isTyOk, isTy, lcStep, wipeE, evLc, plainAt, lockOf, lock, unlk, unlock, restE, isC, isNoneD, sizeLine_eq, setO, isLst, hf, h]
theorem follow_no (k : Nat) (d v : Da) (vs : List Da) (h1 : callF T k n_is_turn [.val d, .val v] = .ok (.bool false, [.un, .un])) : callF T (k + 1) n_follow [.val d, .val (.tuple (v :: vs))] = .ok (.none, [.un, .un]) := by
  have st := fo_no k (.val d) (.val (.tuple (v :: vs))) .un (.inl rfl) [] d v h1
  have h : forLoop (eachB (sv T (callF T k) b_follow_0).s (.nm 3)) (v :: vs) [.val d, .val (.tuple (v :: vs)), .own 0 (.list [d]), .un] = .ok (.ret .none, [.val d, .val (.tuple (v :: vs)), .own 0 (.list [d]), .val v]) := by
    unfold forLoop
    rw [List.nil_append] at st
    rw [st]
  have hf : PI.fresh T (.lst (.cons (.var 0) .nil)) = true := rfl
  generalize v :: vs = W at *
  rw [call_fn (g := F_follow) rfl rfl]; simp [F_follow, ss, sq, ee, ee2, el, et, rs, vv, vm, vt, vc, vi, vp, va, e0, evVar, evBor, evMv, two, rr, L2.ixN, bnA, bnS, bnM, bnQ, bnF, bnR, mulOk_l, mulOk_r, addI, ix3_0, ix3_1, ix3_2, ix2_0, ix2_1, il2_0, il2_1, il3_0, il3_1, il3_2, il4_0, il4_1, il4_2, il4_3, il5_0, il5_1, il5_2, il5_3, il5_4, il6_0, il6_1, il6_2, il6_3, il6_4, il6_5, il7_0, il7_1, il7_2, il7_3, il7_4, il7_5, il7_6, il8_0, il8_1, il8_2, il8_3, il8_4, il8_5, il8_6, il8_7, il9_0, il9_1, il9_2, il9_3, il9_4, il9_5, il9_6, il9_7, il9_8, sl3_to0, sl3_to1, sl3_to2, sl3_to_1, sl3_from1, sl3_from2, sl3_from3, b1D, b2D, setB, setv, putI, ownB, ownL, cmpD, truB, truD, itl, itt, finR, finSl, callV, resolve, ownArgs, nodupN, putBack, hasV, eachB, tgn, tgt, tgl, tsn, tsc, isTyOk, isTy, lcStep, wipeE, evLc, plainAt, lockOf, lock, unlk, unlock, restE, isC, isNoneD, sizeLine_eq, setO, isLst, hf, h]
theorem stations_ok (k : Nat) (t : Tr) (h : t.okK) (hs : t.size ≤ 20) (ws : List (List Bool)) (hk : 70 ≤ k) (hl : ws.length ≤ 60) (hw : ∀ w ∈ ws, w.length ≤ 50) (hg : Tr.goesB t ws = true) :
    callF T (k + 1) n_stations [.val t.da, .val (.tuple (ws.map wd))] = .ok (.tuple ((Tr.follow t ws).map Tr.da), [.un, .un]) := by
  obtain ⟨j, rfl⟩ : ∃ j, k = j + 5 := ⟨k - 5, by omega⟩
  have h1 := check_tree_ok j t.da (noD_da t) (isTree_da h hs)
  have h2 := follow_ok (j + 4) t ws (by omega) (by omega) hw hg
  have n1 : ¬ (60 : Int) < ((ws.map wd).length : Nat) := by rw [List.length_map]; omega
  have mt : T.cons[c_MOST_TURNS]? = some (("MOST_TURNS" : Str), PyData.int 60) := rfl
  generalize (Tr.follow t ws).map Tr.da = z at *
  generalize t.da = d at *
  generalize ws.map wd = W at *
  rw [call_fn (g := F_stations) rfl rfl]; simp [F_stations, ss, sq, ee, ee2, el, et, rs, vv, vm, vt, vc, vi, vp, va, e0, evVar, evBor, evMv, two, rr, L2.ixN, bnA, bnS, bnM, bnQ, bnF, bnR, mulOk_l, mulOk_r, addI, ix3_0, ix3_1, ix3_2, ix2_0, ix2_1, il2_0, il2_1, il3_0, il3_1, il3_2, il4_0, il4_1, il4_2, il4_3, il5_0, il5_1, il5_2, il5_3, il5_4, il6_0, il6_1, il6_2, il6_3, il6_4, il6_5, il7_0, il7_1, il7_2, il7_3, il7_4, il7_5, il7_6, il8_0, il8_1, il8_2, il8_3, il8_4, il8_5, il8_6, il8_7, il9_0, il9_1, il9_2, il9_3, il9_4, il9_5, il9_6, il9_7, il9_8, sl3_to0, sl3_to1, sl3_to2, sl3_to_1, sl3_from1, sl3_from2, sl3_from3, b1D, b2D, setB, setv, putI, ownB, ownL, cmpD, truB, truD, itl, itt, finR, finSl, callV, resolve, ownArgs, nodupN, putBack, hasV, eachB, tgn, tgt, tgl, tsn, tsc, isTyOk, isTy, lcStep, wipeE, evLc, plainAt, lockOf, lock, unlk, unlock, restE, isC, isNoneD, sizeLine_eq, h1, h2, n1, mt]
theorem stations_no (k : Nat) (t : Tr) (h : t.okK) (hs : t.size ≤ 20) (v : Da) (hv : noD v = true) (hq : (∀ xs, v ≠ .tuple xs) ∨ (∃ xs, v = .tuple xs ∧ 60 < xs.length) ∨ ∃ x, v = .tuple [x] ∧ callF T (k + 4) n_is_turn [.val t.da, .val x] = .ok (.bool false, [.un, .un])) :
    callF T (k + 6) n_stations [.val t.da, .val v] = .exc ⟨1, none⟩ [.un, .un] := by
  have h1 := check_tree_ok k t.da (noD_da t) (isTree_da h hs)
  have mt : T.cons[c_MOST_TURNS]? = some (("MOST_TURNS" : Str), PyData.int 60) := rfl
  rcases hq with hq | ⟨xs, rfl, hq⟩ | ⟨x, rfl, hq⟩
  · generalize t.da = d at *
    cases v with
    | tuple xs => exact absurd rfl (hq xs)
    | dict _ => simp [noD] at hv
    | _ => rw [call_fn (g := F_stations) rfl rfl]; simp [F_stations, ss, sq, ee, ee2, el, et, rs, vv, vm, vt, vc, vi, vp, va, e0, evVar, evBor, evMv, two, rr, L2.ixN, bnA, bnS, bnM, bnQ, bnF, bnR, mulOk_l, mulOk_r, addI, ix3_0, ix3_1, ix3_2, ix2_0, ix2_1, il2_0, il2_1, il3_0, il3_1, il3_2, il4_0, il4_1, il4_2, il4_3, il5_0, il5_1, il5_2, il5_3, il5_4, il6_0, il6_1, il6_2, il6_3, il6_4, il6_5, il7_0, il7_1, il7_2, il7_3, il7_4, il7_5, il7_6, il8_0, il8_1, il8_2, il8_3, il8_4, il8_5, il8_6, il8_7, il9_0, il9_1, il9_2, il9_3, il9_4, il9_5, il9_6, il9_7, il9_8, sl3_to0, sl3_to1, sl3_to2, sl3_to_1, sl3_from1, sl3_from2, sl3_from3, b1D, b2D, setB, setv, putI, ownB, ownL, cmpD, truB, truD, itl, itt, finR, finSl, callV, resolve, ownArgs, nodupN, putBack, hasV, eachB, tgn, tgt, tgl, tsn, tsc, isTyOk, isTy, lcStep, wipeE, evLc, plainAt, lockOf, lock, unlk, unlock, restE, isC, isNoneD, sizeLine_eq, h1, raise_mal]
  · have n1 : (60 : Int) < ((xs.length : Nat) : Int) := by omega
    generalize t.da = d at *
    rw [call_fn (g := F_stations) rfl rfl]; simp [F_stations, ss, sq, ee, ee2, el, et, rs, vv, vm, vt, vc, vi, vp, va, e0, evVar, evBor, evMv, two, rr, L2.ixN, bnA, bnS, bnM, bnQ, bnF, bnR, mulOk_l, mulOk_r, addI, ix3_0, ix3_1, ix3_2, ix2_0, ix2_1, il2_0, il2_1, il3_0, il3_1, il3_2, il4_0, il4_1, il4_2, il4_3, il5_0, il5_1, il5_2, il5_3, il5_4, il6_0, il6_1, il6_2, il6_3, il6_4, il6_5, il7_0, il7_1, il7_2, il7_3, il7_4, il7_5, il7_6, il8_0, il8_1, il8_2, il8_3, il8_4, il8_5, il8_6, il8_7, il9_0, il9_1, il9_2, il9_3, il9_4, il9_5, il9_6, il9_7, il9_8, sl3_to0, sl3_to1, sl3_to2, sl3_to_1, sl3_from1, sl3_from2, sl3_from3, b1D, b2D, setB, setv, putI, ownB, ownL, cmpD, truB, truD, itl, itt, finR, finSl, callV, resolve, ownArgs, nodupN, putBack, hasV, eachB, tgn, tgt, tgl, tsn, tsc, isTyOk, isTy, lcStep, wipeE, evLc, plainAt, lockOf, lock, unlk, unlock, restE, isC, isNoneD, sizeLine_eq, h1, raise_mal, n1, mt]
  · have h2 := follow_no (k + 4) t.da x [] hq
    generalize t.da = d at *
    rw [call_fn (g := F_stations) rfl rfl]; simp [F_stations, ss, sq, ee, ee2, el, et, rs, vv, vm, vt, vc, vi, vp, va, e0, evVar, evBor, evMv, two, rr, L2.ixN, bnA, bnS, bnM, bnQ, bnF, bnR, mulOk_l, mulOk_r, addI, ix3_0, ix3_1, ix3_2, ix2_0, ix2_1, il2_0, il2_1, il3_0, il3_1, il3_2, il4_0, il4_1, il4_2, il4_3, il5_0, il5_1, il5_2, il5_3, il5_4, il6_0, il6_1, il6_2, il6_3, il6_4, il6_5, il7_0, il7_1, il7_2, il7_3, il7_4, il7_5, il7_6, il8_0, il8_1, il8_2, il8_3, il8_4, il8_5, il8_6, il8_7, il9_0, il9_1, il9_2, il9_3, il9_4, il9_5, il9_6, il9_7, il9_8, sl3_to0, sl3_to1, sl3_to2, sl3_to_1, sl3_from1, sl3_from2, sl3_from3, b1D, b2D, setB, setv, putI, ownB, ownL, cmpD, truB, truD, itl, itt, finR, finSl, callV, resolve, ownArgs, nodupN, putBack, hasV, eachB, tgn, tgt, tgl, tsn, tsc, isTyOk, isTy, lcStep, wipeE, evLc, plainAt, lockOf, lock, unlk, unlock, restE, isC, isNoneD, sizeLine_eq, h1, raise_mal, h2, mt]
theorem stations_bad (k : Nat) (d v : Da) (h : noD d = true) (ht : isTreeB d = false) : callF T (k + 6) n_stations [.val d, .val v] = .exc ⟨1, none⟩ [.un, .un] := by
  have h1 := check_tree_bad k d h ht
  rw [call_fn (g := F_stations) rfl rfl]; simp [F_stations, ss, sq, ee, ee2, el, et, rs, vv, vm, vt, vc, vi, vp, va, e0, evVar, evBor, evMv, two, rr, L2.ixN, bnA, bnS, bnM, bnQ, bnF, bnR, mulOk_l, mulOk_r, addI, ix3_0, ix3_1, ix3_2, ix2_0, ix2_1, il2_0, il2_1, il3_0, il3_1, il3_2, il4_0, il4_1, il4_2, il4_3, il5_0, il5_1, il5_2, il5_3, il5_4, il6_0, il6_1, il6_2, il6_3, il6_4, il6_5, il7_0, il7_1, il7_2, il7_3, il7_4, il7_5, il7_6, il8_0, il8_1, il8_2, il8_3, il8_4, il8_5, il8_6, il8_7, il9_0, il9_1, il9_2, il9_3, il9_4, il9_5, il9_6, il9_7, il9_8, sl3_to0, sl3_to1, sl3_to2, sl3_to_1, sl3_from1, sl3_from2, sl3_from3, b1D, b2D, setB, setv, putI, ownB, ownL, cmpD, truB, truD, itl, itt, finR, finSl, callV, resolve, ownArgs, nodupN, putBack, hasV, eachB, tgn, tgt, tgl, tsn, tsc, isTyOk, isTy, lcStep, wipeE, evLc, plainAt, lockOf, lock, unlk, unlock, restE, isC, isNoneD, sizeLine_eq, h1]
theorem all_ways (k : Nat) (ws : List (List Bool)) (hw : ∀ w ∈ ws, w.length ≤ 50) (A B C u : Sl) (hu : u = .un) :
    lcLoop (lcStep [3] (.nm 3) (ev T (callF T (k + 1)) .nil).c (ev T (callF T (k + 1)) le_takes_row_0).e) (ws.map wd) [A, B, C, .un, u] = .ok (ws.map (fun _ => .bool true), [A, B, C, .un, u]) := by
  refine lcLoop_tmap wd (fun _ => .bool true) ws fun w h => ?_
  have h1 := is_way_ok k w (by have := hw w h; omega)
  generalize wd w = W at *
  simp [ss, sq, ee, ee2, el, et, rs, vv, vm, vt, vc, vi, vp, va, e0, evVar, evBor, evMv, two, rr, L2.ixN, bnA, bnS, bnM, bnQ, bnF, bnR, mulOk_l, mulOk_r, addI, ix3_0, ix3_1, ix3_2, ix2_0, ix2_1, il2_0, il2_1, il3_0, il3_1, il3_2, il4_0, il4_1, il4_2, il4_3, il5_0, il5_1, il5_2, il5_3, il5_4, il6_0, il6_1, il6_2, il6_3, il6_4, il6_5, il7_0, il7_1, il7_2, il7_3, il7_4, il7_5, il7_6, il8_0, il8_1, il8_2, il8_3, il8_4, il8_5, il8_6, il8_7, il9_0, il9_1, il9_2, il9_3, il9_4, il9_5, il9_6, il9_7, il9_8, sl3_to0, sl3_to1, sl3_to2, sl3_to_1, sl3_from1, sl3_from2, sl3_from3, b1D, b2D, setB, setv, putI, ownB, ownL, cmpD, truB, truD, itl, itt, finR, finSl, callV, resolve, ownArgs, nodupN, putBack, hasV, eachB, tgn, tgt, tgl, tsn, tsc, isTyOk, isTy, lcStep, wipeE, evLc, plainAt, lockOf, lock, unlk, unlock, restE, isC, isNoneD, sizeLine_eq, h1]
/-- the trees' last is what is asked -/
theorem takes_ok (k : Nat) (t : Tr) (h : t.okK) (hs : t.size ≤ 20) (ws : List (List Bool)) (hk : 70 ≤ k) (hl : ws.length ≤ 60) (hw : ∀ w ∈ ws, w.length ≤ 50) (hg : Tr.goesB t ws = true)
    (z : Tr) (hz : z.okK) (hzs : z.size ≤ 20) (he : (Tr.follow t ws).getLast (Tr.follow_ne _ _) = z) :
    callF T (k + 1) n_takes_row [.val t.da, .val z.da, .val (.tuple (ws.map wd))] = .ok (.bool true, [.un, .un, .un]) := by
  obtain ⟨j, rfl⟩ : ∃ j, k = j + 5 := ⟨k - 5, by omega⟩
  have h1 := check_tree_ok j t.da (noD_da t) (isTree_da h hs)
  have h1' := check_tree_ok j z.da (noD_da z) (isTree_da hz hzs)
  have h2 := follow_ok (j + 4) t ws (by omega) (by omega) hw hg
  have n1 : ¬ (60 : Int) < ((ws.map wd).length : Nat) := by rw [List.length_map]; omega
  have n2 : (ws.map wd).length ≤ 16777216 := by rw [List.length_map]; omega
  have mt : T.cons[c_MOST_TURNS]? = some (("MOST_TURNS" : Str), PyData.int 60) := rfl
  have hl1 := all_ways (j + 4) ws hw (.val t.da) (.val z.da) (.val (.tuple (ws.map wd))) .un rfl
  have hb := bls_map (fun _ : List Bool => true) ws
  have ha : (ws.map fun _ => true).all id = true := by simp
  have e5 : (Tr.follow t ws).map Tr.da = ((Tr.follow t ws).dropLast.map Tr.da) ++ [z.da] := by
    conv => lhs; rw [← List.dropLast_concat_getLast (Tr.follow_ne t ws), he]
    rw [List.map_append]; rfl
  have h5 := snoc_last ((Tr.follow t ws).dropLast.map Tr.da) z.da
  rw [← e5] at h5
  have h6 : eqD z.da z.da = some true := Tr.eqD_da (by have := z.height_le; omega)
  generalize (Tr.follow t ws).map Tr.da = fl at *
  generalize z.da = zd at *
  generalize t.da = d at *
  generalize (ws.map fun _ => PyData.bool true) = bs at *
  generalize (ws.map fun _ => true) = bb at *
  generalize ws.map wd = W at *
  rw [call_fn (g := F_takes_row) rfl rfl]; simp [F_takes_row, ss, sq, ee, ee2, el, et, rs, vv, vm, vt, vc, vi, vp, va, e0, evVar, evBor, evMv, two, rr, L2.ixN, bnA, bnS, bnM, bnQ, bnF, bnR, mulOk_l, mulOk_r, addI, ix3_0, ix3_1, ix3_2, ix2_0, ix2_1, il2_0, il2_1, il3_0, il3_1, il3_2, il4_0, il4_1, il4_2, il4_3, il5_0, il5_1, il5_2, il5_3, il5_4, il6_0, il6_1, il6_2, il6_3, il6_4, il6_5, il7_0, il7_1, il7_2, il7_3, il7_4, il7_5, il7_6, il8_0, il8_1, il8_2, il8_3, il8_4, il8_5, il8_6, il8_7, il9_0, il9_1, il9_2, il9_3, il9_4, il9_5, il9_6, il9_7, il9_8, sl3_to0, sl3_to1, sl3_to2, sl3_to_1, sl3_from1, sl3_from2, sl3_from3, b1D, b2D, setB, setv, putI, ownB, ownL, cmpD, truB, truD, itl, itt, finR, finSl, callV, resolve, ownArgs, nodupN, putBack, hasV, eachB, tgn, tgt, tgl, tsn, tsc, isTyOk, isTy, lcStep, wipeE, evLc, plainAt, lockOf, lock, unlk, unlock, restE, isC, isNoneD, sizeLine_eq, h1, h1', h2, n1, n2, mt, hl1, hb, ha, h5, h6]
/-! to the right -/
abbrev e_rr : E := .isC true (.call n_tree_at (.cons (.var 0) (.cons (.var 2) .nil))) (.none)
theorem rr_loop (k : Nat) (hk : 60 ≤ k) : ∀ (f N : Nat) (p : List Int) (s : Tr) (acc : List (List Bool)), Tr.toGo s < f → f ≤ N → p.length + f ≤ 45 → acc.length + f < 900 →
    ∃ s1 s2, whLoop (ev T (callF T k) e_rr).t (sv T (callF T k) b_right_row_0).s N [.val (Tr.chain p s).da, .own 0 (.list (acc.map wd)), .val (wd (Tr.rw_ p.length))] =
      .ok (.nx, [s1, .own 0 (.list ((acc ++ Tr.rights f p.length s).map wd)), s2]) := by
  intro f
  induction f with
  | zero => intro N p s acc h; omega
  | succ f ih =>
    intro N p s acc h hN hp ha
    obtain ⟨N, rfl⟩ : ∃ M, N = M + 1 := ⟨N - 1, by omega⟩
    obtain ⟨j, rfl⟩ : ∃ j, k = j + 2 := ⟨k - 2, by omega⟩
    have hat : (Tr.chain p s).at_ (Tr.rw_ p.length) = s := by
      have := Tr.chain_at p s []
      rw [List.append_nil] at this
      rw [this]
      cases s <;> rfl
    have h1 := tree_at_ok j (Tr.chain p s) (Tr.rw_ p.length)
    rw [hat] at h1
    have hlen : (Tr.rw_ p.length).length = p.length := by unfold Tr.rw_; rw [List.length_replicate]
    unfold whLoop
    cases s with
    | nil =>
      refine ⟨.val (Tr.chain p Tr.nil).da, .val (wd (Tr.rw_ p.length)), ?_⟩
      have hc : (ev T (callF T (j + 2)) e_rr).t [.val (Tr.chain p Tr.nil).da, .own 0 (.list (acc.map wd)), .val (wd (Tr.rw_ p.length))] = .ok (false, [.val (Tr.chain p Tr.nil).da, .own 0 (.list (acc.map wd)), .val (wd (Tr.rw_ p.length))]) := by
        generalize wd (Tr.rw_ p.length) = W at *
        generalize (Tr.chain p Tr.nil).da = d at *
        generalize acc.map wd = A at *
        simp only [Tr.da] at h1
        simp [ss, sq, ee, ee2, el, et, rs, vv, vm, vt, vc, vi, vp, va, e0, evVar, evBor, evMv, two, rr, L2.ixN, bnA, bnS, bnM, bnQ, bnF, bnR, mulOk_l, mulOk_r, addI, ix3_0, ix3_1, ix3_2, ix2_0, ix2_1, il2_0, il2_1, il3_0, il3_1, il3_2, il4_0, il4_1, il4_2, il4_3, il5_0, il5_1, il5_2, il5_3, il5_4, il6_0, il6_1, il6_2, il6_3, il6_4, il6_5, il7_0, il7_1, il7_2, il7_3, il7_4, il7_5, il7_6, il8_0, il8_1, il8_2, il8_3, il8_4, il8_5, il8_6, il8_7, il9_0, il9_1, il9_2, il9_3, il9_4, il9_5, il9_6, il9_7, il9_8, sl3_to0, sl3_to1, sl3_to2, sl3_to_1, sl3_from1, sl3_from2, sl3_from3, b1D, b2D, setB, setv, putI, ownB, ownL, cmpD, truB, truD, itl, itt, finR, finSl, callV, resolve, ownArgs, nodupN, putBack, hasV, eachB, tgn, tgt, tgl, tsn, tsc, isTyOk, isTy, lcStep, wipeE, evLc, plainAt, lockOf, lock, unlk, unlock, restE, isC, isNoneD, sizeLine_eq, h1]
      rw [hc]
      simp only [Tr.rights, List.append_nil]
    | node l y c =>
      have hc : (ev T (callF T (j + 2)) e_rr).t [.val (Tr.chain p (Tr.node l y c)).da, .own 0 (.list (acc.map wd)), .val (wd (Tr.rw_ p.length))] = .ok (true, [.val (Tr.chain p (Tr.node l y c)).da, .own 0 (.list (acc.map wd)), .val (wd (Tr.rw_ p.length))]) := by
        generalize wd (Tr.rw_ p.length) = W at *
        generalize (Tr.chain p (Tr.node l y c)).da = d at *
        generalize acc.map wd = A at *
        simp only [Tr.da] at h1
        simp [ss, sq, ee, ee2, el, et, rs, vv, vm, vt, vc, vi, vp, va, e0, evVar, evBor, evMv, two, rr, L2.ixN, bnA, bnS, bnM, bnQ, bnF, bnR, mulOk_l, mulOk_r, addI, ix3_0, ix3_1, ix3_2, ix2_0, ix2_1, il2_0, il2_1, il3_0, il3_1, il3_2, il4_0, il4_1, il4_2, il4_3, il5_0, il5_1, il5_2, il5_3, il5_4, il6_0, il6_1, il6_2, il6_3, il6_4, il6_5, il7_0, il7_1, il7_2, il7_3, il7_4, il7_5, il7_6, il8_0, il8_1, il8_2, il8_3, il8_4, il8_5, il8_6, il8_7, il9_0, il9_1, il9_2, il9_3, il9_4, il9_5, il9_6, il9_7, il9_8, sl3_to0, sl3_to1, sl3_to2, sl3_to_1, sl3_from1, sl3_from2, sl3_from3, b1D, b2D, setB, setv, putI, ownB, ownL, cmpD, truB, truD, itl, itt, finR, finSl, callV, resolve, ownArgs, nodupN, putBack, hasV, eachB, tgn, tgt, tgl, tsn, tsc, isTyOk, isTy, lcStep, wipeE, evLc, plainAt, lockOf, lock, unlk, unlock, restE, isC, isNoneD, sizeLine_eq, h1]
      rw [hc]
      simp only
      cases l with
      | nil =>
        have e0 := Tr.toGo_down (k := y) (c := c)
        obtain ⟨s1, s2, hr⟩ := ih N (p ++ [y]) c acc (by omega) (by omega) (by simp; omega) (by omega)
        refine ⟨s1, s2, ?_⟩
        have a1 := add_snoc_r (w := Tr.rw_ p.length) (by omega)
        have er : Tr.rw_ p.length ++ [true] = Tr.rw_ (p.length + 1) := by
          unfold Tr.rw_
          rw [List.replicate_succ']
        have hl : (p ++ [y]).length = p.length + 1 := by simp
        rw [Tr.chain_snoc, hl] at hr
        rw [er] at a1
        have st : (sv T (callF T (j + 2)) b_right_row_0).s [.val (Tr.chain p (Tr.node Tr.nil y c)).da, .own 0 (.list (acc.map wd)), .val (wd (Tr.rw_ p.length))] = .ok (.nx, [.val (Tr.chain p (Tr.node Tr.nil y c)).da, .own 0 (.list (acc.map wd)), .val (wd (Tr.rw_ (p.length + 1)))]) := by
          clear hr hc ih
          generalize (Tr.chain p (Tr.node Tr.nil y c)).da = d at *
          generalize acc.map wd = A at *
          generalize wd (Tr.rw_ p.length) = W at *
          generalize wd (Tr.rw_ (p.length + 1)) = W2 at *
          simp only [Tr.da] at h1
          simp [ss, sq, ee, ee2, el, et, rs, vv, vm, vt, vc, vi, vp, va, e0, evVar, evBor, evMv, two, rr, L2.ixN, bnA, bnS, bnM, bnQ, bnF, bnR, mulOk_l, mulOk_r, addI, ix3_0, ix3_1, ix3_2, ix2_0, ix2_1, il2_0, il2_1, il3_0, il3_1, il3_2, il4_0, il4_1, il4_2, il4_3, il5_0, il5_1, il5_2, il5_3, il5_4, il6_0, il6_1, il6_2, il6_3, il6_4, il6_5, il7_0, il7_1, il7_2, il7_3, il7_4, il7_5, il7_6, il8_0, il8_1, il8_2, il8_3, il8_4, il8_5, il8_6, il8_7, il9_0, il9_1, il9_2, il9_3, il9_4, il9_5, il9_6, il9_7, il9_8, sl3_to0, sl3_to1, sl3_to2, sl3_to_1, sl3_from1, sl3_from2, sl3_from3, b1D, b2D, setB, setv, putI, ownB, ownL, cmpD, truB, truD, itl, itt, finR, finSl, callV, resolve, ownArgs, nodupN, putBack, hasV, eachB, tgn, tgt, tgl, tsn, tsc, isTyOk, isTy, lcStep, wipeE, evLc, plainAt, lockOf, lock, unlk, unlock, restE, isC, isNoneD, sizeLine_eq, h1, a1]
        rw [st]
        exact hr
      | node a x b =>
        have e0 := Tr.toGo_step (a := a) (b := b) (c := c) (x := x) (y := y)
        obtain ⟨s1, s2, hr⟩ := ih N p (Tr.node a x (Tr.node b y c)) (acc ++ [Tr.rw_ p.length ++ [false]]) (by omega) (by omega) (by omega) (by simp; omega)
        refine ⟨s1, s2, ?_⟩
        have a1 := add_snoc_l (w := Tr.rw_ p.length) (by omega)
        have hne : (Tr.chain p (Tr.node (Tr.node a x b) y c)).at_ (Tr.rw_ p.length ++ [false]) ≠ .nil := by
          rw [Tr.chain_at]
          intro z
          cases z
        have h2 := turned_ok j (Tr.chain p (Tr.node (Tr.node a x b) y c)) (Tr.rw_ p.length ++ [false]) (by simp) (by rw [List.length_append, hlen]; simp; omega) (by omega) hne
        rw [Tr.rot_chain] at h2
        have h4 := app_one (acc.map wd) (wd (Tr.rw_ p.length ++ [false])) (by rw [List.length_map]; omega)
        have st : (sv T (callF T (j + 2)) b_right_row_0).s [.val (Tr.chain p (Tr.node (Tr.node a x b) y c)).da, .own 0 (.list (acc.map wd)), .val (wd (Tr.rw_ p.length))] =
            .ok (.nx, [.val (Tr.chain p (Tr.node a x (Tr.node b y c))).da, .own 0 (.list ((acc ++ [Tr.rw_ p.length ++ [false]]).map wd)), .val (wd (Tr.rw_ p.length))]) := by
          have em : (acc ++ [Tr.rw_ p.length ++ [false]]).map wd = acc.map wd ++ [wd (Tr.rw_ p.length ++ [false])] := by rw [List.map_append]; rfl
          rw [em]
          clear hr hc ih em
          generalize (Tr.chain p (Tr.node (Tr.node a x b) y c)).da = d at *
          generalize (Tr.chain p (Tr.node a x (Tr.node b y c))).da = d2 at *
          generalize acc.map wd = A at *
          generalize wd (Tr.rw_ p.length ++ [false]) = W2 at *
          generalize A ++ [W2] = A2 at *
          generalize wd (Tr.rw_ p.length) = W at *
          simp only [Tr.da] at h1
          simp [ss, sq, ee, ee2, el, et, rs, vv, vm, vt, vc, vi, vp, va, e0, evVar, evBor, evMv, two, rr, L2.ixN, bnA, bnS, bnM, bnQ, bnF, bnR, mulOk_l, mulOk_r, addI, ix3_0, ix3_1, ix3_2, ix2_0, ix2_1, il2_0, il2_1, il3_0, il3_1, il3_2, il4_0, il4_1, il4_2, il4_3, il5_0, il5_1, il5_2, il5_3, il5_4, il6_0, il6_1, il6_2, il6_3, il6_4, il6_5, il7_0, il7_1, il7_2, il7_3, il7_4, il7_5, il7_6, il8_0, il8_1, il8_2, il8_3, il8_4, il8_5, il8_6, il8_7, il9_0, il9_1, il9_2, il9_3, il9_4, il9_5, il9_6, il9_7, il9_8, sl3_to0, sl3_to1, sl3_to2, sl3_to_1, sl3_from1, sl3_from2, sl3_from3, b1D, b2D, setB, setv, putI, ownB, ownL, cmpD, truB, truD, itl, itt, finR, finSl, callV, resolve, ownArgs, nodupN, putBack, hasV, eachB, tgn, tgt, tgl, tsn, tsc, isTyOk, isTy, lcStep, wipeE, evLc, plainAt, lockOf, lock, unlk, unlock, restE, isC, isNoneD, sizeLine_eq, h1, a1, h2, h4]
        rw [st]
        simp only
        rw [hr]
        simp [Tr.rights]
theorem right_row_ok (k : Nat) (t : Tr) (hs : t.size ≤ 20) (hk : 60 ≤ k) : callF T (k + 1) n_right_row [.val t.da] = .ok (.list ((Tr.rights 45 0 t).map wd), [.un]) := by
  have hg : Tr.toGo t < 45 := by unfold Tr.toGo; omega
  obtain ⟨s1, s2, h⟩ := rr_loop k hk 45 whMost [] t [] hg (by show 45 ≤ 1000000; omega) (by simp) (by simp)
  have e1 := (whl_eq T (callF T k) e_rr b_right_row_0 [.val t.da, .own 0 (.list []), .val (wd [])]).trans h
  have hp : parOk T [(1, true), (2, false)] (.cons (.lst .nil) (.cons (.kc (.str "")) .nil)) = true := rfl
  have e0' : (sv T (callF T k) s_right_row_0).s [.val t.da, .un, .un] = .ok (.nx, [.val t.da, .own 0 (.list []), .val (wd [])]) := by
    have ew : wd [] = .str "" := by show PyData.str (wstr []) = _; rw [← wstr_nil]
    rw [ew]
    generalize t.da = d at *
    simp [ss, sq, ee, ee2, el, et, rs, vv, vm, vt, vc, vi, vp, va, e0, evVar, evBor, evMv, two, rr, L2.ixN, bnA, bnS, bnM, bnQ, bnF, bnR, mulOk_l, mulOk_r, addI, ix3_0, ix3_1, ix3_2, ix2_0, ix2_1, il2_0, il2_1, il3_0, il3_1, il3_2, il4_0, il4_1, il4_2, il4_3, il5_0, il5_1, il5_2, il5_3, il5_4, il6_0, il6_1, il6_2, il6_3, il6_4, il6_5, il7_0, il7_1, il7_2, il7_3, il7_4, il7_5, il7_6, il8_0, il8_1, il8_2, il8_3, il8_4, il8_5, il8_6, il8_7, il9_0, il9_1, il9_2, il9_3, il9_4, il9_5, il9_6, il9_7, il9_8, sl3_to0, sl3_to1, sl3_to2, sl3_to_1, sl3_from1, sl3_from2, sl3_from3, b1D, b2D, setB, setv, putI, ownB, ownL, cmpD, truB, truD, itl, itt, finR, finSl, callV, resolve, ownArgs, nodupN, putBack, hasV, eachB, tgn, tgt, tgl, tsn, tsc, isTyOk, isTy, lcStep, wipeE, evLc, plainAt, lockOf, lock, unlk, unlock, restE, isC, isNoneD, sizeLine_eq, hp, parSet, setO, isLst]
  rw [call_fn (g := F_right_row) rfl rfl]
  show finR _ ((sv T (callF T k) (.seq s_right_row_0 (.seq s_right_row_1 (.seq s_right_row_6 .skip)))).s [.val t.da, .un, .un]) = _
  rw [seq_nx e0', seq_nx e1]
  simp only [List.nil_append, List.length_nil]
  generalize (Tr.rights 45 0 t).map wd = z
  simp [ss, sq, ee, ee2, el, et, rs, vv, vm, vt, vc, vi, vp, va, e0, evVar, evBor, evMv, two, rr, L2.ixN, bnA, bnS, bnM, bnQ, bnF, bnR, mulOk_l, mulOk_r, addI, ix3_0, ix3_1, ix3_2, ix2_0, ix2_1, il2_0, il2_1, il3_0, il3_1, il3_2, il4_0, il4_1, il4_2, il4_3, il5_0, il5_1, il5_2, il5_3, il5_4, il6_0, il6_1, il6_2, il6_3, il6_4, il6_5, il7_0, il7_1, il7_2, il7_3, il7_4, il7_5, il7_6, il8_0, il8_1, il8_2, il8_3, il8_4, il8_5, il8_6, il8_7, il9_0, il9_1, il9_2, il9_3, il9_4, il9_5, il9_6, il9_7, il9_8, sl3_to0, sl3_to1, sl3_to2, sl3_to_1, sl3_from1, sl3_from2, sl3_from3, b1D, b2D, setB, setv, putI, ownB, ownL, cmpD, truB, truD, itl, itt, finR, finSl, callV, resolve, ownArgs, nodupN, putBack, hasV, eachB, tgn, tgt, tgl, tsn, tsc, isTyOk, isTy, lcStep, wipeE, evLc, plainAt, lockOf, lock, unlk, unlock, restE, isC, isNoneD, sizeLine_eq]
theorem row_to_right_ok (k : Nat) (t : Tr) (h : t.okK) (hs : t.size ≤ 20) (hk : 70 ≤ k) : callF T (k + 1) n_row_to_right [.val t.da] = .ok (.tuple ((Tr.rights 45 0 t).map wd), [.un]) := by
  obtain ⟨j, rfl⟩ : ∃ j, k = j + 5 := ⟨k - 5, by omega⟩
  have h1 := check_tree_ok j t.da (noD_da t) (isTree_da h hs)
  have h2 := right_row_ok (j + 4) t hs (by omega)
  generalize (Tr.rights 45 0 t).map wd = z at *
  generalize t.da = d at *
  rw [call_fn (g := F_row_to_right) rfl rfl]; simp [F_row_to_right, ss, sq, ee, ee2, el, et, rs, vv, vm, vt, vc, vi, vp, va, e0, evVar, evBor, evMv, two, rr, L2.ixN, bnA, bnS, bnM, bnQ, bnF, bnR, mulOk_l, mulOk_r, addI, ix3_0, ix3_1, ix3_2, ix2_0, ix2_1, il2_0, il2_1, il3_0, il3_1, il3_2, il4_0, il4_1, il4_2, il4_3, il5_0, il5_1, il5_2, il5_3, il5_4, il6_0, il6_1, il6_2, il6_3, il6_4, il6_5, il7_0, il7_1, il7_2, il7_3, il7_4, il7_5, il7_6, il8_0, il8_1, il8_2, il8_3, il8_4, il8_5, il8_6, il8_7, il9_0, il9_1, il9_2, il9_3, il9_4, il9_5, il9_6, il9_7, il9_8, sl3_to0, sl3_to1, sl3_to2, sl3_to_1, sl3_from1, sl3_from2, sl3_from3, b1D, b2D, setB, setv, putI, ownB, ownL, cmpD, truB, truD, itl, itt, finR, finSl, callV, resolve, ownArgs, nodupN, putBack, hasV, eachB, tgn, tgt, tgl, tsn, tsc, isTyOk, isTy, lcStep, wipeE, evLc, plainAt, lockOf, lock, unlk, unlock, restE, isC, isNoneD, sizeLine_eq, h1, h2]
theorem row_to_right_bad (k : Nat) (d : Da) (h : noD d = true) (ht : isTreeB d = false) : callF T (k + 6) n_row_to_right [.val d] = .exc ⟨1, none⟩ [.un] := by
  have h1 := check_tree_bad k d h ht
  rw [call_fn (g := F_row_to_right) rfl rfl]; simp [F_row_to_right, ss, sq, ee, ee2, el, et, rs, vv, vm, vt, vc, vi, vp, va, e0, evVar, evBor, evMv, two, rr, L2.ixN, bnA, bnS, bnM, bnQ, bnF, bnR, mulOk_l, mulOk_r, addI, ix3_0, ix3_1, ix3_2, ix2_0, ix2_1, il2_0, il2_1, il3_0, il3_1, il3_2, il4_0, il4_1, il4_2, il4_3, il5_0, il5_1, il5_2, il5_3, il5_4, il6_0, il6_1, il6_2, il6_3, il6_4, il6_5, il7_0, il7_1, il7_2, il7_3, il7_4, il7_5, il7_6, il8_0, il8_1, il8_2, il8_3, il8_4, il8_5, il8_6, il8_7, il9_0, il9_1, il9_2, il9_3, il9_4, il9_5, il9_6, il9_7, il9_8, sl3_to0, sl3_to1, sl3_to2, sl3_to_1, sl3_from1, sl3_from2, sl3_from3, b1D, b2D, setB, setv, putI, ownB, ownL, cmpD, truB, truD, itl, itt, finR, finSl, callV, resolve, ownArgs, nodupN, putBack, hasV, eachB, tgn, tgt, tgl, tsn, tsc, isTyOk, isTy, lcStep, wipeE, evLc, plainAt, lockOf, lock, unlk, unlock, restE, isC, isNoneD, sizeLine_eq, h1]
theorem spine_of_ok : ∀ (t : Tr) (k : Nat), t.height ≤ k → callF T (k + 1) n_spine_of [.val t.da] = .ok (.int t.spine, [.un])
  | .nil, k, _ => by rw [call_fn (g := F_spine_of) rfl rfl]; simp [F_spine_of, ss, sq, ee, ee2, el, et, rs, vv, vm, vt, vc, vi, vp, va, e0, evVar, evBor, evMv, two, rr, L2.ixN, bnA, bnS, bnM, bnQ, bnF, bnR, mulOk_l, mulOk_r, addI, ix3_0, ix3_1, ix3_2, ix2_0, ix2_1, il2_0, il2_1, il3_0, il3_1, il3_2, il4_0, il4_1, il4_2, il4_3, il5_0, il5_1, il5_2, il5_3, il5_4, il6_0, il6_1, il6_2, il6_3, il6_4, il6_5, il7_0, il7_1, il7_2, il7_3, il7_4, il7_5, il7_6, il8_0, il8_1, il8_2, il8_3, il8_4, il8_5, il8_6, il8_7, il9_0, il9_1, il9_2, il9_3, il9_4, il9_5, il9_6, il9_7, il9_8, sl3_to0, sl3_to1, sl3_to2, sl3_to_1, sl3_from1, sl3_from2, sl3_from3, b1D, b2D, setB, setv, putI, ownB, ownL, cmpD, eqD, scalEq, truB, truD, itl, itt, finR, finSl, callV, resolve, ownArgs, nodupN, putBack, hasV, eachB, tgn, tgt, tgl, tsn, tsc, isTyOk, isTy, lcStep, wipeE, evLc, plainAt, lockOf, lock, unlk, unlock, restE, isC, isNoneD, sizeLine_eq, Tr.da, Tr.spine]
  | .node l x r, 0, h => by simp [Tr.height] at h
  | .node l x r, k + 1, h => by
    simp only [Tr.height] at h
    have h2 := spine_of_ok r k (by omega)
    rw [call_fn (g := F_spine_of) rfl rfl]; simp [F_spine_of, ss, sq, ee, ee2, el, et, rs, vv, vm, vt, vc, vi, vp, va, e0, evVar, evBor, evMv, two, rr, L2.ixN, bnA, bnS, bnM, bnQ, bnF, bnR, mulOk_l, mulOk_r, addI, ix3_0, ix3_1, ix3_2, ix2_0, ix2_1, il2_0, il2_1, il3_0, il3_1, il3_2, il4_0, il4_1, il4_2, il4_3, il5_0, il5_1, il5_2, il5_3, il5_4, il6_0, il6_1, il6_2, il6_3, il6_4, il6_5, il7_0, il7_1, il7_2, il7_3, il7_4, il7_5, il7_6, il8_0, il8_1, il8_2, il8_3, il8_4, il8_5, il8_6, il8_7, il9_0, il9_1, il9_2, il9_3, il9_4, il9_5, il9_6, il9_7, il9_8, sl3_to0, sl3_to1, sl3_to2, sl3_to_1, sl3_from1, sl3_from2, sl3_from3, b1D, b2D, setB, setv, putI, ownB, ownL, cmpD, eqD, scalEq, truB, truD, itl, itt, finR, finSl, callV, resolve, ownArgs, nodupN, putBack, hasV, eachB, tgn, tgt, tgl, tsn, tsc, isTyOk, isTy, lcStep, wipeE, evLc, plainAt, lockOf, lock, unlk, unlock, restE, isC, isNoneD, sizeLine_eq, Tr.da, Tr.spine, h2]
theorem turns_to_right_ok (k : Nat) (t : Tr) (h : t.okK) (hs : t.size ≤ 20) (hk : 70 ≤ k) : callF T (k + 1) n_turns_to_right [.val t.da] = .ok (.int ((t.size : Nat) - (t.spine : Nat) : Int), [.un]) := by
  obtain ⟨j, rfl⟩ : ∃ j, k = j + 5 := ⟨k - 5, by omega⟩
  have hh := t.height_le
  have h1 := check_tree_ok j t.da (noD_da t) (isTree_da h hs)
  have h2 := size_of_ok t (j + 4) (by omega)
  have h3 := spine_of_ok t (j + 4) (by omega)
  generalize t.da = d at *
  rw [call_fn (g := F_turns_to_right) rfl rfl]; simp [F_turns_to_right, ss, sq, ee, ee2, el, et, rs, vv, vm, vt, vc, vi, vp, va, e0, evVar, evBor, evMv, two, rr, L2.ixN, bnA, bnS, bnM, bnQ, bnF, bnR, mulOk_l, mulOk_r, addI, ix3_0, ix3_1, ix3_2, ix2_0, ix2_1, il2_0, il2_1, il3_0, il3_1, il3_2, il4_0, il4_1, il4_2, il4_3, il5_0, il5_1, il5_2, il5_3, il5_4, il6_0, il6_1, il6_2, il6_3, il6_4, il6_5, il7_0, il7_1, il7_2, il7_3, il7_4, il7_5, il7_6, il8_0, il8_1, il8_2, il8_3, il8_4, il8_5, il8_6, il8_7, il9_0, il9_1, il9_2, il9_3, il9_4, il9_5, il9_6, il9_7, il9_8, sl3_to0, sl3_to1, sl3_to2, sl3_to_1, sl3_from1, sl3_from2, sl3_from3, b1D, b2D, setB, setv, putI, ownB, ownL, cmpD, truB, truD, itl, itt, finR, finSl, callV, resolve, ownArgs, nodupN, putBack, hasV, eachB, tgn, tgt, tgl, tsn, tsc, isTyOk, isTy, lcStep, wipeE, evLc, plainAt, lockOf, lock, unlk, unlock, restE, isC, isNoneD, sizeLine_eq, h1, h2, h3]
theorem turns_to_right_bad (k : Nat) (d : Da) (h : noD d = true) (ht : isTreeB d = false) : callF T (k + 6) n_turns_to_right [.val d] = .exc ⟨1, none⟩ [.un] := by
  have h1 := check_tree_bad k d h ht
  rw [call_fn (g := F_turns_to_right) rfl rfl]; simp [F_turns_to_right, ss, sq, ee, ee2, el, et, rs, vv, vm, vt, vc, vi, vp, va, e0, evVar, evBor, evMv, two, rr, L2.ixN, bnA, bnS, bnM, bnQ, bnF, bnR, mulOk_l, mulOk_r, addI, ix3_0, ix3_1, ix3_2, ix2_0, ix2_1, il2_0, il2_1, il3_0, il3_1, il3_2, il4_0, il4_1, il4_2, il4_3, il5_0, il5_1, il5_2, il5_3, il5_4, il6_0, il6_1, il6_2, il6_3, il6_4, il6_5, il7_0, il7_1, il7_2, il7_3, il7_4, il7_5, il7_6, il8_0, il8_1, il8_2, il8_3, il8_4, il8_5, il8_6, il8_7, il9_0, il9_1, il9_2, il9_3, il9_4, il9_5, il9_6, il9_7, il9_8, sl3_to0, sl3_to1, sl3_to2, sl3_to_1, sl3_from1, sl3_from2, sl3_from3, b1D, b2D, setB, setv, putI, ownB, ownL, cmpD, truB, truD, itl, itt, finR, finSl, callV, resolve, ownArgs, nodupN, putBack, hasV, eachB, tgn, tgt, tgl, tsn, tsc, isTyOk, isTy, lcStep, wipeE, evLc, plainAt, lockOf, lock, unlk, unlock, restE, isC, isNoneD, sizeLine_eq, h1]

end K20
end
section
set_option Elab.async false
set_option linter.all false
set_option maxRecDepth 100000
set_option maxHeartbeats 0
namespace K20
open PySem PI
/-! ### the draw: any numbers -/
theorem at4_0 (p q r t : Da) : atD [p, q, r, t] 0 = some p := rfl
theorem at4_1 (p q r t : Da) : atD [p, q, r, t] 1 = some q := rfl
theorem at4_2 (p q r t : Da) : atD [p, q, r, t] 2 = some r := rfl
theorem at4_3 (p q r t : Da) : atD [p, q, r, t] 3 = some t := rfl
theorem mulOk48 (s : Int) : mulOk s 48271 = true := by unfold mulOk; simp
/-- a read of the draw -/
theorem at_int {cs : List Int} {a : Int} (h0 : 0 ≤ a) (h1 : a < (cs.length : Int)) : ∃ x, atD (cs.map PyData.int) a = some (.int x) := by
  have h2 : a.toNat < cs.length := by omega
  refine ⟨cs[a.toNat], ?_⟩
  unfold atD L2.atI L2.ixN
  rw [if_pos h0, if_pos (by rw [List.length_map]; exact h1)]
  simp [List.getElem?_map, List.getElem?_eq_getElem h2]
theorem take_ok (k : Nat) {d : Da} (hd : isDraw d) {n : Int} (hn : 0 < n) (h1m : n < 1000000) : ∃ d' r, isDraw d' ∧ 0 ≤ r ∧ r < n ∧ callF T (k + 1) n__law_take [.own 1 d, .val (.int n)] = .ok (.int r, [.own 1 d', .un]) := by
  have h2 : n < 2 ^ 4000 := Int.lt_trans h1m (by decide)
  obtain ⟨cs, a, l, s, rfl, ha⟩ := hd
  have main : ∃ a' l' s', -1 ≤ a' ∧ callF T (k + 1) n__law_take [.own 1 (.list [.list (cs.map .int), .int a, .int l, .int s]), .val (.int n)] =
      .ok (.int (l' % n), [.own 1 (.list [.list (cs.map .int), .int a', .int (l' / n), .int s']), .un]) := by
    rw [call_fn (g := F__law_take) rfl rfl]
    by_cases h0 : l = 0
    · subst h0
      by_cases h1 : a + 1 < (cs.length : Int)
      · obtain ⟨x, hx⟩ := at_int (cs := cs) (a := a + 1) (by omega) h1
        by_cases hx0 : x = 0
        · subst hx0
          refine ⟨a + 1, (s * 48271 + 11) % 2147483647, (s * 48271 + 11) % 2147483647, by omega, ?_⟩
          simp [F__law_take, ss, sq, ee, ee2, el, et, rs, vv, vm, vt, vc, vi, vp, va, evVar, evBor, evMv, two, rr, idxD, L2.ixN, binD, addD, b1D, setB, setv, putI, ownB, ownL, cmpD, eqD, scalEq, truB, truD, itemsD, finR, finSl, mulOk48, hn, h2, h1, hx, at4_0, at4_1, at4_2, at4_3]
        · refine ⟨a + 1, x, s, by omega, ?_⟩
          simp [F__law_take, ss, sq, ee, ee2, el, et, rs, vv, vm, vt, vc, vi, vp, va, evVar, evBor, evMv, two, rr, idxD, L2.ixN, binD, addD, b1D, setB, setv, putI, ownB, ownL, cmpD, eqD, scalEq, truB, truD, itemsD, finR, finSl, mulOk48, hn, h2, h1, hx, hx0, at4_0, at4_1, at4_2, at4_3]
      · refine ⟨a + 1, (s * 48271 + 11) % 2147483647, (s * 48271 + 11) % 2147483647, by omega, ?_⟩
        simp [F__law_take, ss, sq, ee, ee2, el, et, rs, vv, vm, vt, vc, vi, vp, va, evVar, evBor, evMv, two, rr, idxD, L2.ixN, binD, addD, b1D, setB, setv, putI, ownB, ownL, cmpD, eqD, scalEq, truB, truD, itemsD, finR, finSl, mulOk48, hn, h2, h1, at4_0, at4_1, at4_2, at4_3]
    · refine ⟨a, l, s, ha, ?_⟩
      simp [F__law_take, ss, sq, ee, ee2, el, et, rs, vv, vm, vt, vc, vi, vp, va, evVar, evBor, evMv, two, rr, idxD, L2.ixN, binD, addD, b1D, setB, setv, putI, ownB, ownL, cmpD, eqD, scalEq, truB, truD, itemsD, finR, finSl, mulOk48, hn, h2, h0, at4_0, at4_1, at4_2, at4_3]
  obtain ⟨a', l', s', h1, h3⟩ := main
  exact ⟨_, l' % n, ⟨cs, a', l' / n, s', rfl, h1⟩, Int.emod_nonneg _ (by omega), Int.emod_lt_of_pos _ hn, h3⟩
theorem draw_ok (k : Nat) (ns : List Int) (hns : ns.length ≤ 63) : ∃ d, isDraw d ∧ callF T (k + 1) n__law_draw [.scr ns] = .ok (d, [.un]) := by
  rw [call_fn (g := F__law_draw) rfl rfl]
  -- the seed's loop
  obtain ⟨env', ⟨s, c, rfl, hc⟩, hl⟩ := forLoop_inv (step := eachB (sv T (callF T k) b__law_draw_0).s (.nm 2))
    (fun env => ∃ (s : Int) (c : Sl), env = [.scr ns, .val (.int s), c] ∧ (c = .un ∨ ∃ i, c = .val i)) (xs := ns.map PyData.int) (env := [.scr ns, .val (.int 7), .un]) ⟨7, .un, rfl, .inl rfl⟩ (by
      rintro x hx env ⟨s, c, rfl, hc⟩
      obtain ⟨i, hi, rfl⟩ := List.mem_map.mp hx
      refine ⟨_, ⟨((s * 48271 + (if i < 0 then -i else i) % 65521 + 1) % 2147483647), .val (.int i), rfl, .inr ⟨_, rfl⟩⟩, .inl ?_⟩
      rcases hc with rfl | ⟨j, rfl⟩ <;> simp [eachB, asgT, ss, sq, ee, ee2, el, et, rs, vv, vm, vt, vc, vi, vp, va, evVar, evBor, evMv, two, rr, idxD, L2.ixN, binD, addD, b1D, setB, setv, putI, ownB, ownL, cmpD, eqD, scalEq, truB, truD, itemsD, finR, finSl, mulOk48])
  -- the cells
  have hm : lcLoop (lcStep [2] (.nm 2) (ev T (callF T k) .nil).c (ev T (callF T k) le__law_draw_0).e) (ns.map PyData.int) [.scr ns, .val (.int s), .un] = .ok ((ns.map PyData.int).filterMap (fun x => match x with
      | PyData.int i => some (PyData.int (if i < 0 then -i else i))
      | _ => none), [.scr ns, .val (.int s), .un]) := by
    refine lcLoop_map _ fun x hx => ?_
    obtain ⟨i, hi, rfl⟩ := List.mem_map.mp hx
    simp [lcStep, asgT, wipeE, ss, sq, ee, ee2, el, et, rs, vv, vm, vt, vc, vi, vp, va, evVar, evBor, evMv, two, rr, idxD, L2.ixN, binD, addD, b1D, setB, setv, putI, ownB, ownL, cmpD, eqD, scalEq, truB, truD, itemsD, finR, finSl]
  have he : (ns.map PyData.int).filterMap (fun x => match x with
      | .int i => some (PyData.int (if i < 0 then -i else i))
      | _ => none) = (ns.map fun i => if i < 0 then -i else i).map PyData.int := by
    clear hm hl hns
    induction ns with
    | nil => rfl
    | cons n ns ih => simp only [List.map_cons, List.filterMap_cons, ih]
  rw [he] at hm
  refine ⟨_, ⟨ns.map fun i => if i < 0 then -i else i, -1, 0, s, rfl, by omega⟩, ?_⟩
  have hbig : ns.length ≤ 16777216 := by omega
  rcases hc with rfl | ⟨j, rfl⟩ <;> simp [F__law_draw, ss, sq, ee, ee2, el, et, rs, vv, vm, vt, vc, vi, vp, va, evVar, evBor, evMv, two, rr, idxD, L2.ixN, binD, addD, b1D, setB, setv, putI, ownB, ownL, cmpD, eqD, scalEq, truB, truD, itemsD, finR, finSl, evIo, lockOf, lock, unlk, unlock, hl, evLc, plainAt, wipeE, restE, hm, hbig, sizeLine_eq]

end K20
end
section
set_option Elab.async false
set_option linter.all false
set_option maxRecDepth 100000
set_option maxHeartbeats 800000
namespace K20
open PySem PI
/-! the law's own trees -/
theorem law_size_ok : ∀ (t : Tr) (k : Nat), t.height ≤ k → callF T (k + 1) n__law_size [.val t.da] = .ok (.int t.size, [.un])
  | .nil, k, _ => by rw [call_fn (g := F__law_size) rfl rfl]; simp [F__law_size, ss, sq, ee, ee2, el, et, rs, vv, vm, vt, vc, vi, vp, va, e0, evVar, evBor, evMv, two, rr, L2.ixN, bnA, bnS, bnM, bnQ, bnF, bnR, mulOk_l, mulOk_r, addI, ix3_0, ix3_1, ix3_2, ix2_0, ix2_1, il2_0, il2_1, il3_0, il3_1, il3_2, il4_0, il4_1, il4_2, il4_3, il5_0, il5_1, il5_2, il5_3, il5_4, il6_0, il6_1, il6_2, il6_3, il6_4, il6_5, il7_0, il7_1, il7_2, il7_3, il7_4, il7_5, il7_6, il8_0, il8_1, il8_2, il8_3, il8_4, il8_5, il8_6, il8_7, il9_0, il9_1, il9_2, il9_3, il9_4, il9_5, il9_6, il9_7, il9_8, sl3_to0, sl3_to1, sl3_to2, sl3_to_1, sl3_from1, sl3_from2, sl3_from3, b1D, b2D, setB, setv, putI, ownB, ownL, cmpD, eqD, scalEq, truB, truD, itl, itt, finR, finSl, callV, resolve, ownArgs, nodupN, putBack, hasV, eachB, tgn, tgt, tgl, tsn, tsc, isTyOk, isTy, lcStep, wipeE, evLc, plainAt, lockOf, lock, unlk, unlock, restE, isC, isNoneD, sizeLine_eq, Tr.da, Tr.size]
  | .node l x r, 0, h => by simp [Tr.height] at h
  | .node l x r, k + 1, h => by
    simp only [Tr.height] at h
    have h1 := law_size_ok l k (by omega)
    have h2 := law_size_ok r k (by omega)
    rw [call_fn (g := F__law_size) rfl rfl]; simp [F__law_size, ss, sq, ee, ee2, el, et, rs, vv, vm, vt, vc, vi, vp, va, e0, evVar, evBor, evMv, two, rr, L2.ixN, bnA, bnS, bnM, bnQ, bnF, bnR, mulOk_l, mulOk_r, addI, ix3_0, ix3_1, ix3_2, ix2_0, ix2_1, il2_0, il2_1, il3_0, il3_1, il3_2, il4_0, il4_1, il4_2, il4_3, il5_0, il5_1, il5_2, il5_3, il5_4, il6_0, il6_1, il6_2, il6_3, il6_4, il6_5, il7_0, il7_1, il7_2, il7_3, il7_4, il7_5, il7_6, il8_0, il8_1, il8_2, il8_3, il8_4, il8_5, il8_6, il8_7, il9_0, il9_1, il9_2, il9_3, il9_4, il9_5, il9_6, il9_7, il9_8, sl3_to0, sl3_to1, sl3_to2, sl3_to_1, sl3_from1, sl3_from2, sl3_from3, b1D, b2D, setB, setv, putI, ownB, ownL, cmpD, eqD, scalEq, truB, truD, itl, itt, finR, finSl, callV, resolve, ownArgs, nodupN, putBack, hasV, eachB, tgn, tgt, tgl, tsn, tsc, isTyOk, isTy, lcStep, wipeE, evLc, plainAt, lockOf, lock, unlk, unlock, restE, isC, isNoneD, sizeLine_eq, Tr.da, Tr.size, h1, h2]
theorem law_spine_ok : ∀ (t : Tr) (k : Nat), t.height ≤ k → callF T (k + 1) n__law_spine [.val t.da] = .ok (.int t.spine, [.un])
  | .nil, k, _ => by rw [call_fn (g := F__law_spine) rfl rfl]; simp [F__law_spine, ss, sq, ee, ee2, el, et, rs, vv, vm, vt, vc, vi, vp, va, e0, evVar, evBor, evMv, two, rr, L2.ixN, bnA, bnS, bnM, bnQ, bnF, bnR, mulOk_l, mulOk_r, addI, ix3_0, ix3_1, ix3_2, ix2_0, ix2_1, il2_0, il2_1, il3_0, il3_1, il3_2, il4_0, il4_1, il4_2, il4_3, il5_0, il5_1, il5_2, il5_3, il5_4, il6_0, il6_1, il6_2, il6_3, il6_4, il6_5, il7_0, il7_1, il7_2, il7_3, il7_4, il7_5, il7_6, il8_0, il8_1, il8_2, il8_3, il8_4, il8_5, il8_6, il8_7, il9_0, il9_1, il9_2, il9_3, il9_4, il9_5, il9_6, il9_7, il9_8, sl3_to0, sl3_to1, sl3_to2, sl3_to_1, sl3_from1, sl3_from2, sl3_from3, b1D, b2D, setB, setv, putI, ownB, ownL, cmpD, eqD, scalEq, truB, truD, itl, itt, finR, finSl, callV, resolve, ownArgs, nodupN, putBack, hasV, eachB, tgn, tgt, tgl, tsn, tsc, isTyOk, isTy, lcStep, wipeE, evLc, plainAt, lockOf, lock, unlk, unlock, restE, isC, isNoneD, sizeLine_eq, Tr.da, Tr.spine]
  | .node l x r, 0, h => by simp [Tr.height] at h
  | .node l x r, k + 1, h => by
    simp only [Tr.height] at h
    have h2 := law_spine_ok r k (by omega)
    rw [call_fn (g := F__law_spine) rfl rfl]; simp [F__law_spine, ss, sq, ee, ee2, el, et, rs, vv, vm, vt, vc, vi, vp, va, e0, evVar, evBor, evMv, two, rr, L2.ixN, bnA, bnS, bnM, bnQ, bnF, bnR, mulOk_l, mulOk_r, addI, ix3_0, ix3_1, ix3_2, ix2_0, ix2_1, il2_0, il2_1, il3_0, il3_1, il3_2, il4_0, il4_1, il4_2, il4_3, il5_0, il5_1, il5_2, il5_3, il5_4, il6_0, il6_1, il6_2, il6_3, il6_4, il6_5, il7_0, il7_1, il7_2, il7_3, il7_4, il7_5, il7_6, il8_0, il8_1, il8_2, il8_3, il8_4, il8_5, il8_6, il8_7, il9_0, il9_1, il9_2, il9_3, il9_4, il9_5, il9_6, il9_7, il9_8, sl3_to0, sl3_to1, sl3_to2, sl3_to_1, sl3_from1, sl3_from2, sl3_from3, b1D, b2D, setB, setv, putI, ownB, ownL, cmpD, eqD, scalEq, truB, truD, itl, itt, finR, finSl, callV, resolve, ownArgs, nodupN, putBack, hasV, eachB, tgn, tgt, tgl, tsn, tsc, isTyOk, isTy, lcStep, wipeE, evLc, plainAt, lockOf, lock, unlk, unlock, restE, isC, isNoneD, sizeLine_eq, Tr.da, Tr.spine, h2]
theorem law_keys_ok : ∀ (t : Tr) (k : Nat), t.height ≤ k → t.size < 1000 → callF T (k + 1) n__law_keys [.val t.da] = .ok (.list (t.keys.map .int), [.un])
  | .nil, k, _, _ => by rw [call_fn (g := F__law_keys) rfl rfl]; simp [F__law_keys, ss, sq, ee, ee2, el, et, rs, vv, vm, vt, vc, vi, vp, va, e0, evVar, evBor, evMv, two, rr, L2.ixN, bnA, bnS, bnM, bnQ, bnF, bnR, mulOk_l, mulOk_r, addI, ix3_0, ix3_1, ix3_2, ix2_0, ix2_1, il2_0, il2_1, il3_0, il3_1, il3_2, il4_0, il4_1, il4_2, il4_3, il5_0, il5_1, il5_2, il5_3, il5_4, il6_0, il6_1, il6_2, il6_3, il6_4, il6_5, il7_0, il7_1, il7_2, il7_3, il7_4, il7_5, il7_6, il8_0, il8_1, il8_2, il8_3, il8_4, il8_5, il8_6, il8_7, il9_0, il9_1, il9_2, il9_3, il9_4, il9_5, il9_6, il9_7, il9_8, sl3_to0, sl3_to1, sl3_to2, sl3_to_1, sl3_from1, sl3_from2, sl3_from3, b1D, b2D, setB, setv, putI, ownB, ownL, cmpD, eqD, scalEq, truB, truD, itl, itt, finR, finSl, callV, resolve, ownArgs, nodupN, putBack, hasV, eachB, tgn, tgt, tgl, tsn, tsc, isTyOk, isTy, lcStep, wipeE, evLc, plainAt, lockOf, lock, unlk, unlock, restE, isC, isNoneD, sizeLine_eq, Tr.da, Tr.keys]
  | .node l x r, 0, h, _ => by simp [Tr.height] at h
  | .node l x r, k + 1, h, hz => by
    simp only [Tr.height, Tr.size] at h hz
    have h1 := law_keys_ok l k (by omega) (by omega)
    have h2 := law_keys_ok r k (by omega) (by omega)
    have e1 := Tr.size_keys l
    have e2 := Tr.size_keys r
    have a1 : addD (.list (l.keys.map PyData.int)) (.list [.int x]) = some (.list (l.keys.map PyData.int ++ [.int x])) := add_lists (by simp; omega)
    have a2 : addD (.list (l.keys.map PyData.int ++ [.int x])) (.list (r.keys.map PyData.int)) = some (.list (l.keys.map PyData.int ++ [.int x] ++ r.keys.map PyData.int)) := add_lists (by simp; omega)
    simp only [Tr.keys, List.map_append, List.map_cons, List.map_nil]
    generalize l.keys.map PyData.int = lk at *
    generalize r.keys.map PyData.int = rk at *
    generalize lk ++ [PyData.int x] = lx at *
    generalize lx ++ rk = lr at *
    rw [call_fn (g := F__law_keys) rfl rfl]; simp [F__law_keys, ss, sq, ee, ee2, el, et, rs, vv, vm, vt, vc, vi, vp, va, e0, evVar, evBor, evMv, two, rr, L2.ixN, bnA, bnS, bnM, bnQ, bnF, bnR, mulOk_l, mulOk_r, addI, ix3_0, ix3_1, ix3_2, ix2_0, ix2_1, il2_0, il2_1, il3_0, il3_1, il3_2, il4_0, il4_1, il4_2, il4_3, il5_0, il5_1, il5_2, il5_3, il5_4, il6_0, il6_1, il6_2, il6_3, il6_4, il6_5, il7_0, il7_1, il7_2, il7_3, il7_4, il7_5, il7_6, il8_0, il8_1, il8_2, il8_3, il8_4, il8_5, il8_6, il8_7, il9_0, il9_1, il9_2, il9_3, il9_4, il9_5, il9_6, il9_7, il9_8, sl3_to0, sl3_to1, sl3_to2, sl3_to_1, sl3_from1, sl3_from2, sl3_from3, b1D, b2D, setB, setv, putI, ownB, ownL, cmpD, eqD, scalEq, truB, truD, itl, itt, finR, finSl, callV, resolve, ownArgs, nodupN, putBack, hasV, eachB, tgn, tgt, tgl, tsn, tsc, isTyOk, isTy, lcStep, wipeE, evLc, plainAt, lockOf, lock, unlk, unlock, restE, isC, isNoneD, sizeLine_eq, Tr.da, h1, h2, a1, a2]
theorem lc_pre2 (c : Calls) (A : Sl) (ws : List (List Bool)) (h : ∀ w ∈ ws, w.length < 10000) :
    lcLoop (lcStep [1] (.nm 1) (ev T c .nil).c (ev T c le__law_ways_0).e) (ws.map wd) [A, .un] = .ok ((ws.map (false :: ·)).map wd, [A, .un]) ∧
    lcLoop (lcStep [1] (.nm 1) (ev T c .nil).c (ev T c le__law_ways_1).e) (ws.map wd) [A, .un] = .ok ((ws.map (true :: ·)).map wd, [A, .un]) := by
  rw [List.map_map, List.map_map]
  constructor
  · refine lcLoop_tmap wd (fun w => wd (false :: w)) ws fun w hw => ?_
    have a := add_l (h w hw)
    generalize wd w = W at *
    generalize wd (false :: w) = W2 at *
    simp [ss, sq, ee, ee2, el, et, rs, vv, vm, vt, vc, vi, vp, va, e0, evVar, evBor, evMv, two, rr, L2.ixN, bnA, bnS, bnM, bnQ, bnF, bnR, mulOk_l, mulOk_r, addI, ix3_0, ix3_1, ix3_2, ix2_0, ix2_1, il2_0, il2_1, il3_0, il3_1, il3_2, il4_0, il4_1, il4_2, il4_3, il5_0, il5_1, il5_2, il5_3, il5_4, il6_0, il6_1, il6_2, il6_3, il6_4, il6_5, il7_0, il7_1, il7_2, il7_3, il7_4, il7_5, il7_6, il8_0, il8_1, il8_2, il8_3, il8_4, il8_5, il8_6, il8_7, il9_0, il9_1, il9_2, il9_3, il9_4, il9_5, il9_6, il9_7, il9_8, sl3_to0, sl3_to1, sl3_to2, sl3_to_1, sl3_from1, sl3_from2, sl3_from3, b1D, b2D, setB, setv, putI, ownB, ownL, cmpD, truB, truD, itl, itt, finR, finSl, callV, resolve, ownArgs, nodupN, putBack, hasV, eachB, tgn, tgt, tgl, tsn, tsc, isTyOk, isTy, lcStep, wipeE, evLc, plainAt, lockOf, lock, unlk, unlock, restE, isC, isNoneD, sizeLine_eq, a]
  · refine lcLoop_tmap wd (fun w => wd (true :: w)) ws fun w hw => ?_
    have a := add_r (h w hw)
    generalize wd w = W at *
    generalize wd (true :: w) = W2 at *
    simp [ss, sq, ee, ee2, el, et, rs, vv, vm, vt, vc, vi, vp, va, e0, evVar, evBor, evMv, two, rr, L2.ixN, bnA, bnS, bnM, bnQ, bnF, bnR, mulOk_l, mulOk_r, addI, ix3_0, ix3_1, ix3_2, ix2_0, ix2_1, il2_0, il2_1, il3_0, il3_1, il3_2, il4_0, il4_1, il4_2, il4_3, il5_0, il5_1, il5_2, il5_3, il5_4, il6_0, il6_1, il6_2, il6_3, il6_4, il6_5, il7_0, il7_1, il7_2, il7_3, il7_4, il7_5, il7_6, il8_0, il8_1, il8_2, il8_3, il8_4, il8_5, il8_6, il8_7, il9_0, il9_1, il9_2, il9_3, il9_4, il9_5, il9_6, il9_7, il9_8, sl3_to0, sl3_to1, sl3_to2, sl3_to_1, sl3_from1, sl3_from2, sl3_from3, b1D, b2D, setB, setv, putI, ownB, ownL, cmpD, truB, truD, itl, itt, finR, finSl, callV, resolve, ownArgs, nodupN, putBack, hasV, eachB, tgn, tgt, tgl, tsn, tsc, isTyOk, isTy, lcStep, wipeE, evLc, plainAt, lockOf, lock, unlk, unlock, restE, isC, isNoneD, sizeLine_eq, a]
theorem law_ways_ok : ∀ (t : Tr) (k : Nat), t.height ≤ k → t.size < 1000 → callF T (k + 1) n__law_ways [.val t.da] = .ok (.list (t.ways.map wd), [.un])
  | .nil, k, _, _ => by rw [call_fn (g := F__law_ways) rfl rfl]; simp [F__law_ways, ss, sq, ee, ee2, el, et, rs, vv, vm, vt, vc, vi, vp, va, e0, evVar, evBor, evMv, two, rr, L2.ixN, bnA, bnS, bnM, bnQ, bnF, bnR, mulOk_l, mulOk_r, addI, ix3_0, ix3_1, ix3_2, ix2_0, ix2_1, il2_0, il2_1, il3_0, il3_1, il3_2, il4_0, il4_1, il4_2, il4_3, il5_0, il5_1, il5_2, il5_3, il5_4, il6_0, il6_1, il6_2, il6_3, il6_4, il6_5, il7_0, il7_1, il7_2, il7_3, il7_4, il7_5, il7_6, il8_0, il8_1, il8_2, il8_3, il8_4, il8_5, il8_6, il8_7, il9_0, il9_1, il9_2, il9_3, il9_4, il9_5, il9_6, il9_7, il9_8, sl3_to0, sl3_to1, sl3_to2, sl3_to_1, sl3_from1, sl3_from2, sl3_from3, b1D, b2D, setB, setv, putI, ownB, ownL, cmpD, eqD, scalEq, truB, truD, itl, itt, finR, finSl, callV, resolve, ownArgs, nodupN, putBack, hasV, eachB, tgn, tgt, tgl, tsn, tsc, isTyOk, isTy, lcStep, wipeE, evLc, plainAt, lockOf, lock, unlk, unlock, restE, isC, isNoneD, sizeLine_eq, Tr.da, Tr.ways]
  | .node l x r, 0, h, _ => by simp [Tr.height] at h
  | .node l x r, k + 1, h, hz => by
    simp only [Tr.height, Tr.size] at h hz
    have h1 := law_ways_ok l k (by omega) (by omega)
    have h2 := law_ways_ok r k (by omega) (by omega)
    have e1 := l.ways_len
    have e2 := r.ways_len
    have p1 := (lc_pre2 (callF T (k + 1)) (.val (Tr.node l x r).da) l.ways (fun w hw => by have := l.way_short w hw; have := l.height_le; omega)).1
    have p2 := (lc_pre2 (callF T (k + 1)) (.val (Tr.node l x r).da) r.ways (fun w hw => by have := r.way_short w hw; have := r.height_le; omega)).2
    have n1 : (l.ways.map wd).length ≤ 16777216 := by rw [List.length_map]; omega
    have n2 : (r.ways.map wd).length ≤ 16777216 := by rw [List.length_map]; omega
    have ew : wd [] = .str "" := by show PyData.str (wstr []) = _; rw [← wstr_nil]
    have a1 : addD (.list ((l.ways.map (false :: ·)).map wd)) (.list [.str ""]) = some (.list ((l.ways.map (false :: ·)).map wd ++ [wd []])) := by
      rw [← ew]; exact add_lists (by simp; omega)
    have a2 : addD (.list ((l.ways.map (false :: ·)).map wd ++ [wd []])) (.list ((r.ways.map (true :: ·)).map wd)) = some (.list ((l.ways.map (false :: ·)).map wd ++ [wd []] ++ (r.ways.map (true :: ·)).map wd)) := add_lists (by simp; omega)
    have e : (Tr.node l x r).ways.map wd = (l.ways.map (false :: ·)).map wd ++ [wd []] ++ (r.ways.map (true :: ·)).map wd := by simp [Tr.ways]
    rw [e]
    clear e ew e1 e2
    simp only [Tr.da] at *
    generalize (l.ways.map (false :: ·)).map wd = q1 at *
    generalize (r.ways.map (true :: ·)).map wd = q2 at *
    generalize q1 ++ [wd []] = q3 at *
    generalize q3 ++ q2 = q4 at *
    generalize l.ways.map wd = w1 at *
    generalize r.ways.map wd = w2 at *
    generalize l.da = ld at *
    generalize r.da = rd at *
    rw [call_fn (g := F__law_ways) rfl rfl]; simp [F__law_ways, ss, sq, ee, ee2, el, et, rs, vv, vm, vt, vc, vi, vp, va, e0, evVar, evBor, evMv, two, rr, L2.ixN, bnA, bnS, bnM, bnQ, bnF, bnR, mulOk_l, mulOk_r, addI, ix3_0, ix3_1, ix3_2, ix2_0, ix2_1, il2_0, il2_1, il3_0, il3_1, il3_2, il4_0, il4_1, il4_2, il4_3, il5_0, il5_1, il5_2, il5_3, il5_4, il6_0, il6_1, il6_2, il6_3, il6_4, il6_5, il7_0, il7_1, il7_2, il7_3, il7_4, il7_5, il7_6, il8_0, il8_1, il8_2, il8_3, il8_4, il8_5, il8_6, il8_7, il9_0, il9_1, il9_2, il9_3, il9_4, il9_5, il9_6, il9_7, il9_8, sl3_to0, sl3_to1, sl3_to2, sl3_to_1, sl3_from1, sl3_from2, sl3_from3, b1D, b2D, setB, setv, putI, ownB, ownL, cmpD, truB, truD, itl, itt, finR, finSl, callV, resolve, ownArgs, nodupN, putBack, hasV, eachB, tgn, tgt, tgl, tsn, tsc, isTyOk, isTy, lcStep, wipeE, evLc, plainAt, lockOf, lock, unlk, unlock, restE, isC, isNoneD, sizeLine_eq, h1, h2, p1, p2, n1, n2, a1, a2]
theorem la_loop (k : Nat) (W : Sl) : ∀ (w : List Bool) (t : Tr) (u : Sl), plainSl u → t.at_ w ≠ .nil → ∃ u', forLoop (eachB (sv T (callF T k) b__law_at_0).s (.nm 2)) (w.map fun b => sing (sd b)) [.val t.da, W, u] = .ok (.nx, [.val (t.at_ w).da, W, u'])
  | [], t, u, hu, _ => ⟨u, by cases t <;> rfl⟩
  | b :: w, .nil, u, hu, h => absurd rfl h
  | b :: w, .node l x r, u, hu, h => by
    have h' : (if b then r else l).at_ w ≠ .nil := h
    obtain ⟨u', ih⟩ := la_loop k W w (if b then r else l) (.val (sing (sd b))) (.inr ⟨_, rfl⟩) h'
    refine ⟨u', ?_⟩
    have s3 := eq_sd_l b
    have st : eachB (sv T (callF T k) b__law_at_0).s (.nm 2) (sing (sd b)) [.val (Tr.node l x r).da, W, u] = .ok (.nx, [.val (if b then r else l).da, W, .val (sing (sd b))]) := by
      clear ih h h'
      simp only [Tr.da]
      cases b with
      | true =>
        simp only [if_true]
        generalize r.da = rd at *
        generalize l.da = ld at *
        generalize sing (sd true) = S at *
        rcases hu with rfl | ⟨z, rfl⟩ <;> simp [ss, sq, ee, ee2, el, et, rs, vv, vm, vt, vc, vi, vp, va, e0, evVar, evBor, evMv, two, rr, L2.ixN, bnA, bnS, bnM, bnQ, bnF, bnR, mulOk_l, mulOk_r, addI, ix3_0, ix3_1, ix3_2, ix2_0, ix2_1, il2_0, il2_1, il3_0, il3_1, il3_2, il4_0, il4_1, il4_2, il4_3, il5_0, il5_1, il5_2, il5_3, il5_4, il6_0, il6_1, il6_2, il6_3, il6_4, il6_5, il7_0, il7_1, il7_2, il7_3, il7_4, il7_5, il7_6, il8_0, il8_1, il8_2, il8_3, il8_4, il8_5, il8_6, il8_7, il9_0, il9_1, il9_2, il9_3, il9_4, il9_5, il9_6, il9_7, il9_8, sl3_to0, sl3_to1, sl3_to2, sl3_to_1, sl3_from1, sl3_from2, sl3_from3, b1D, b2D, setB, setv, putI, ownB, ownL, cmpD, truB, truD, itl, itt, finR, finSl, callV, resolve, ownArgs, nodupN, putBack, hasV, eachB, tgn, tgt, tgl, tsn, tsc, isTyOk, isTy, lcStep, wipeE, evLc, plainAt, lockOf, lock, unlk, unlock, restE, isC, isNoneD, sizeLine_eq, s3]
      | false =>
        simp only [Bool.false_eq_true, if_false]
        generalize r.da = rd at *
        generalize l.da = ld at *
        generalize sing (sd false) = S at *
        rcases hu with rfl | ⟨z, rfl⟩ <;> simp [ss, sq, ee, ee2, el, et, rs, vv, vm, vt, vc, vi, vp, va, e0, evVar, evBor, evMv, two, rr, L2.ixN, bnA, bnS, bnM, bnQ, bnF, bnR, mulOk_l, mulOk_r, addI, ix3_0, ix3_1, ix3_2, ix2_0, ix2_1, il2_0, il2_1, il3_0, il3_1, il3_2, il4_0, il4_1, il4_2, il4_3, il5_0, il5_1, il5_2, il5_3, il5_4, il6_0, il6_1, il6_2, il6_3, il6_4, il6_5, il7_0, il7_1, il7_2, il7_3, il7_4, il7_5, il7_6, il8_0, il8_1, il8_2, il8_3, il8_4, il8_5, il8_6, il8_7, il9_0, il9_1, il9_2, il9_3, il9_4, il9_5, il9_6, il9_7, il9_8, sl3_to0, sl3_to1, sl3_to2, sl3_to_1, sl3_from1, sl3_from2, sl3_from3, b1D, b2D, setB, setv, putI, ownB, ownL, cmpD, truB, truD, itl, itt, finR, finSl, callV, resolve, ownArgs, nodupN, putBack, hasV, eachB, tgn, tgt, tgl, tsn, tsc, isTyOk, isTy, lcStep, wipeE, evLc, plainAt, lockOf, lock, unlk, unlock, restE, isC, isNoneD, sizeLine_eq, s3]
    rw [List.map_cons]
    unfold forLoop
    rw [st]
    exact ih
theorem law_at_ok (k : Nat) (t : Tr) (w : List Bool) (h : t.at_ w ≠ .nil) : callF T (k + 1) n__law_at [.val t.da, .val (wd w)] = .ok ((t.at_ w).da, [.un, .un]) := by
  obtain ⟨u', hl⟩ := la_loop k (.val (wd w)) w t .un (.inl rfl) h
  have hi := items_wd w
  generalize (w.map fun b => sing (sd b)) = xs at *
  generalize (t.at_ w).da = y at *
  generalize t.da = d at *
  generalize wd w = W at *
  rw [call_fn (g := F__law_at) rfl rfl]; simp [F__law_at, ss, sq, ee, ee2, el, et, rs, vv, vm, vt, vc, vi, vp, va, e0, evVar, evBor, evMv, two, rr, L2.ixN, bnA, bnS, bnM, bnQ, bnF, bnR, mulOk_l, mulOk_r, addI, ix3_0, ix3_1, ix3_2, ix2_0, ix2_1, il2_0, il2_1, il3_0, il3_1, il3_2, il4_0, il4_1, il4_2, il4_3, il5_0, il5_1, il5_2, il5_3, il5_4, il6_0, il6_1, il6_2, il6_3, il6_4, il6_5, il7_0, il7_1, il7_2, il7_3, il7_4, il7_5, il7_6, il8_0, il8_1, il8_2, il8_3, il8_4, il8_5, il8_6, il8_7, il9_0, il9_1, il9_2, il9_3, il9_4, il9_5, il9_6, il9_7, il9_8, sl3_to0, sl3_to1, sl3_to2, sl3_to_1, sl3_from1, sl3_from2, sl3_from3, b1D, b2D, setB, setv, putI, ownB, ownL, cmpD, truB, truD, itl, itt, finR, finSl, callV, resolve, ownArgs, nodupN, putBack, hasV, eachB, tgn, tgt, tgl, tsn, tsc, isTyOk, isTy, lcStep, wipeE, evLc, plainAt, lockOf, lock, unlk, unlock, restE, isC, isNoneD, sizeLine_eq, hi, hl]
theorem law_put_ok (k : Nat) : ∀ (w : List Bool) (t : Tr) (s : Da) (s' : Tr), s = s'.da → t.at_ w ≠ .nil → w.length ≤ 50 → w.length ≤ k → callF T (k + 1) n__law_put [.val t.da, .val (wd w), .val s] = .ok ((t.put w s').da, [.un, .un, .un]) := by
  induction k with
  | zero =>
    intro w t s s' hs h _ hk
    obtain rfl : w = [] := List.length_eq_zero_iff.mp (by omega)
    have e : t.put [] s' = s' := by cases t <;> rfl
    have h0 : eqD (wd []) (.str "") = some true := eq_nil_wd []
    rw [e, ← hs]
    generalize t.da = d at *
    generalize wd [] = W at *
    rw [call_fn (g := F__law_put) rfl rfl]; simp [F__law_put, ss, sq, ee, ee2, el, et, rs, vv, vm, vt, vc, vi, vp, va, e0, evVar, evBor, evMv, two, rr, L2.ixN, bnA, bnS, bnM, bnQ, bnF, bnR, mulOk_l, mulOk_r, addI, ix3_0, ix3_1, ix3_2, ix2_0, ix2_1, il2_0, il2_1, il3_0, il3_1, il3_2, il4_0, il4_1, il4_2, il4_3, il5_0, il5_1, il5_2, il5_3, il5_4, il6_0, il6_1, il6_2, il6_3, il6_4, il6_5, il7_0, il7_1, il7_2, il7_3, il7_4, il7_5, il7_6, il8_0, il8_1, il8_2, il8_3, il8_4, il8_5, il8_6, il8_7, il9_0, il9_1, il9_2, il9_3, il9_4, il9_5, il9_6, il9_7, il9_8, sl3_to0, sl3_to1, sl3_to2, sl3_to_1, sl3_from1, sl3_from2, sl3_from3, b1D, b2D, setB, setv, putI, ownB, ownL, cmpD, truB, truD, itl, itt, finR, finSl, callV, resolve, ownArgs, nodupN, putBack, hasV, eachB, tgn, tgt, tgl, tsn, tsc, isTyOk, isTy, lcStep, wipeE, evLc, plainAt, lockOf, lock, unlk, unlock, restE, isC, isNoneD, sizeLine_eq, h0]
  | succ k ih =>
    intro w t s s' hs h hw hk
    cases w with
    | nil =>
      have e : t.put [] s' = s' := by cases t <;> rfl
      have h0 : eqD (wd []) (.str "") = some true := eq_nil_wd []
      rw [e, ← hs]
      generalize t.da = d at *
      generalize wd [] = W at *
      rw [call_fn (g := F__law_put) rfl rfl]; simp [F__law_put, ss, sq, ee, ee2, el, et, rs, vv, vm, vt, vc, vi, vp, va, e0, evVar, evBor, evMv, two, rr, L2.ixN, bnA, bnS, bnM, bnQ, bnF, bnR, mulOk_l, mulOk_r, addI, ix3_0, ix3_1, ix3_2, ix2_0, ix2_1, il2_0, il2_1, il3_0, il3_1, il3_2, il4_0, il4_1, il4_2, il4_3, il5_0, il5_1, il5_2, il5_3, il5_4, il6_0, il6_1, il6_2, il6_3, il6_4, il6_5, il7_0, il7_1, il7_2, il7_3, il7_4, il7_5, il7_6, il8_0, il8_1, il8_2, il8_3, il8_4, il8_5, il8_6, il8_7, il9_0, il9_1, il9_2, il9_3, il9_4, il9_5, il9_6, il9_7, il9_8, sl3_to0, sl3_to1, sl3_to2, sl3_to_1, sl3_from1, sl3_from2, sl3_from3, b1D, b2D, setB, setv, putI, ownB, ownL, cmpD, truB, truD, itl, itt, finR, finSl, callV, resolve, ownArgs, nodupN, putBack, hasV, eachB, tgn, tgt, tgl, tsn, tsc, isTyOk, isTy, lcStep, wipeE, evLc, plainAt, lockOf, lock, unlk, unlock, restE, isC, isNoneD, sizeLine_eq, h0]
    | cons b w =>
      cases t with
      | nil => exact absurd rfl h
      | node l x r =>
        rw [List.length_cons] at hw hk
        have h0 : eqD (wd (b :: w)) (.str "") = some false := eq_nil_wd (b :: w)
        have h1 := ix_first b w (by omega)
        have h2 := eq_sd_l b
        have h3 := sl_tail b w (by omega)
        cases b with
        | true =>
          have h' : r.at_ w ≠ .nil := h
          have h4 := ih w r s s' hs h' (by omega) (by omega)
          have e : ((Tr.node l x r).put (true :: w) s').da = .tuple [l.da, .int x, (r.put w s').da] := rfl
          rw [e]
          clear hs
          simp only [Tr.da]
          generalize (r.put w s').da = y at *
          generalize r.da = rd at *
          generalize l.da = ld at *
          generalize wd (true :: w) = W at *
          generalize wd w = W' at *
          generalize sing (sd true) = S at *
          rw [call_fn (g := F__law_put) rfl rfl]; simp [F__law_put, ss, sq, ee, ee2, el, et, rs, vv, vm, vt, vc, vi, vp, va, e0, evVar, evBor, evMv, two, rr, L2.ixN, bnA, bnS, bnM, bnQ, bnF, bnR, mulOk_l, mulOk_r, addI, ix3_0, ix3_1, ix3_2, ix2_0, ix2_1, il2_0, il2_1, il3_0, il3_1, il3_2, il4_0, il4_1, il4_2, il4_3, il5_0, il5_1, il5_2, il5_3, il5_4, il6_0, il6_1, il6_2, il6_3, il6_4, il6_5, il7_0, il7_1, il7_2, il7_3, il7_4, il7_5, il7_6, il8_0, il8_1, il8_2, il8_3, il8_4, il8_5, il8_6, il8_7, il9_0, il9_1, il9_2, il9_3, il9_4, il9_5, il9_6, il9_7, il9_8, sl3_to0, sl3_to1, sl3_to2, sl3_to_1, sl3_from1, sl3_from2, sl3_from3, b1D, b2D, setB, setv, putI, ownB, ownL, cmpD, truB, truD, itl, itt, finR, finSl, callV, resolve, ownArgs, nodupN, putBack, hasV, eachB, tgn, tgt, tgl, tsn, tsc, isTyOk, isTy, lcStep, wipeE, evLc, plainAt, lockOf, lock, unlk, unlock, restE, isC, isNoneD, sizeLine_eq, h0, h1, h2, h3, h4]
        | false =>
          have h' : l.at_ w ≠ .nil := h
          have h4 := ih w l s s' hs h' (by omega) (by omega)
          have e : ((Tr.node l x r).put (false :: w) s').da = .tuple [(l.put w s').da, .int x, r.da] := rfl
          rw [e]
          clear hs
          simp only [Tr.da]
          generalize (l.put w s').da = y at *
          generalize r.da = rd at *
          generalize l.da = ld at *
          generalize wd (false :: w) = W at *
          generalize wd w = W' at *
          generalize sing (sd false) = S at *
          rw [call_fn (g := F__law_put) rfl rfl]; simp [F__law_put, ss, sq, ee, ee2, el, et, rs, vv, vm, vt, vc, vi, vp, va, e0, evVar, evBor, evMv, two, rr, L2.ixN, bnA, bnS, bnM, bnQ, bnF, bnR, mulOk_l, mulOk_r, addI, ix3_0, ix3_1, ix3_2, ix2_0, ix2_1, il2_0, il2_1, il3_0, il3_1, il3_2, il4_0, il4_1, il4_2, il4_3, il5_0, il5_1, il5_2, il5_3, il5_4, il6_0, il6_1, il6_2, il6_3, il6_4, il6_5, il7_0, il7_1, il7_2, il7_3, il7_4, il7_5, il7_6, il8_0, il8_1, il8_2, il8_3, il8_4, il8_5, il8_6, il8_7, il9_0, il9_1, il9_2, il9_3, il9_4, il9_5, il9_6, il9_7, il9_8, sl3_to0, sl3_to1, sl3_to2, sl3_to_1, sl3_from1, sl3_from2, sl3_from3, b1D, b2D, setB, setv, putI, ownB, ownL, cmpD, truB, truD, itl, itt, finR, finSl, callV, resolve, ownArgs, nodupN, putBack, hasV, eachB, tgn, tgt, tgl, tsn, tsc, isTyOk, isTy, lcStep, wipeE, evLc, plainAt, lockOf, lock, unlk, unlock, restE, isC, isNoneD, sizeLine_eq, h0, h1, h2, h3, h4]
theorem law_turn_ok (k : Nat) (t : Tr) (w : List Bool) (hw : w ≠ []) (hl : w.length ≤ 50) (hk : 50 ≤ k) (h : t.at_ w ≠ .nil) : callF T (k + 1) n__law_turn [.val t.da, .val (wd w)] = .ok ((t.rot w).da, [.un, .un]) := by
  have e := Tr.snoc_of hw
  have hl2 : w.dropLast.length ≤ 49 := by rw [List.length_dropLast]; omega
  have h2 : (t.at_ w.dropLast).at_ [Tr.lastB w] ≠ .nil := by rw [← Tr.at_app, ← e]; exact h
  have h3 : t.at_ w.dropLast ≠ .nil := fun z => h2 (by rw [z]; rfl)
  have s1 := sl_init w (by omega)
  have s2 : idxD (wd w) (.int (-1)) = some (sing (sd (Tr.lastB w))) := by
    have := ix_last w.dropLast (Tr.lastB w) (by omega)
    rw [← e] at this
    exact this
  have s3 := eq_sd_l (Tr.lastB w)
  obtain ⟨j, rfl⟩ : ∃ j, k = j + 1 := ⟨k - 1, by omega⟩
  have a1 := law_at_ok j t w.dropLast h3
  have a3 : ∀ (s : Da), s = (Tr.rotp (t.at_ w.dropLast) (Tr.lastB w)).da → callF T (j + 1) n__law_put [.val t.da, .val (wd w.dropLast), .val s] = .ok ((t.rot w).da, [.un, .un, .un]) := fun s hs => law_put_ok j w.dropLast t s _ hs h3 (by omega) (by omega)
  generalize (t.rot w).da = y1 at *
  generalize t.da = y4 at *
  generalize Tr.lastB w = b at *
  generalize wd w.dropLast = W' at *
  generalize wd w = W at *
  generalize t.at_ w.dropLast = q at *
  cases q with
  | nil => exact absurd rfl h2
  | node l x r =>
    cases b with
    | false =>
      cases l with
      | nil => exact absurd rfl h2
      | node a y c =>
        simp only [Tr.rotp, Tr.da] at *
        have a3 := a3 _ rfl
        generalize a.da = d1 at *
        generalize c.da = d2 at *
        generalize r.da = d3 at *
        generalize sing (sd false) = S at *
        rw [call_fn (g := F__law_turn) rfl rfl]; simp [F__law_turn, ss, sq, ee, ee2, el, et, rs, vv, vm, vt, vc, vi, vp, va, e0, evVar, evBor, evMv, two, rr, L2.ixN, bnA, bnS, bnM, bnQ, bnF, bnR, mulOk_l, mulOk_r, addI, ix3_0, ix3_1, ix3_2, ix2_0, ix2_1, il2_0, il2_1, il3_0, il3_1, il3_2, il4_0, il4_1, il4_2, il4_3, il5_0, il5_1, il5_2, il5_3, il5_4, il6_0, il6_1, il6_2, il6_3, il6_4, il6_5, il7_0, il7_1, il7_2, il7_3, il7_4, il7_5, il7_6, il8_0, il8_1, il8_2, il8_3, il8_4, il8_5, il8_6, il8_7, il9_0, il9_1, il9_2, il9_3, il9_4, il9_5, il9_6, il9_7, il9_8, sl3_to0, sl3_to1, sl3_to2, sl3_to_1, sl3_from1, sl3_from2, sl3_from3, b1D, b2D, setB, setv, putI, ownB, ownL, cmpD, truB, truD, itl, itt, finR, finSl, callV, resolve, ownArgs, nodupN, putBack, hasV, eachB, tgn, tgt, tgl, tsn, tsc, isTyOk, isTy, lcStep, wipeE, evLc, plainAt, lockOf, lock, unlk, unlock, restE, isC, isNoneD, sizeLine_eq, s1, s2, s3, a1, a3]
    | true =>
      cases r with
      | nil => exact absurd rfl h2
      | node a y c =>
        simp only [Tr.rotp, Tr.da] at *
        have a3 := a3 _ rfl
        generalize a.da = d1 at *
        generalize c.da = d2 at *
        generalize l.da = d3 at *
        generalize sing (sd true) = S at *
        rw [call_fn (g := F__law_turn) rfl rfl]; simp [F__law_turn, ss, sq, ee, ee2, el, et, rs, vv, vm, vt, vc, vi, vp, va, e0, evVar, evBor, evMv, two, rr, L2.ixN, bnA, bnS, bnM, bnQ, bnF, bnR, mulOk_l, mulOk_r, addI, ix3_0, ix3_1, ix3_2, ix2_0, ix2_1, il2_0, il2_1, il3_0, il3_1, il3_2, il4_0, il4_1, il4_2, il4_3, il5_0, il5_1, il5_2, il5_3, il5_4, il6_0, il6_1, il6_2, il6_3, il6_4, il6_5, il7_0, il7_1, il7_2, il7_3, il7_4, il7_5, il7_6, il8_0, il8_1, il8_2, il8_3, il8_4, il8_5, il8_6, il8_7, il9_0, il9_1, il9_2, il9_3, il9_4, il9_5, il9_6, il9_7, il9_8, sl3_to0, sl3_to1, sl3_to2, sl3_to_1, sl3_from1, sl3_from2, sl3_from3, b1D, b2D, setB, setv, putI, ownB, ownL, cmpD, truB, truD, itl, itt, finR, finSl, callV, resolve, ownArgs, nodupN, putBack, hasV, eachB, tgn, tgt, tgl, tsn, tsc, isTyOk, isTy, lcStep, wipeE, evLc, plainAt, lockOf, lock, unlk, unlock, restE, isC, isNoneD, sizeLine_eq, s1, s2, s3, a1, a3]
/-! drawn ones -/
theorem law_shape_ok : ∀ (n m : Nat), m ≤ n → ∀ (k : Nat), n ≤ k → ∀ {d : Da} (hd : isDraw d) {s : Int} (hs0 : 0 ≤ s) (hs : s ≤ 2) (hm : m ≤ 20),
    ∃ d' t, isDraw d' ∧ Tr.size t = m ∧ callF T (k + 2) n__law_shape [.own 1 d, .val (.int m), .val (.int s)] = .ok (Tr.da t, [.own 1 d', .un, .un]) := by
  intro n
  induction n with
  | zero =>
    intro m hm k hk d hd s hs0 hs hm2
    obtain rfl : m = 0 := by omega
    refine ⟨d, .nil, hd, rfl, ?_⟩
    rw [call_fn (g := F__law_shape) rfl rfl]; simp [F__law_shape, ss, sq, ee, ee2, el, et, rs, vv, vm, vt, vc, vi, vp, va, e0, evVar, evBor, evMv, two, rr, L2.ixN, bnA, bnS, bnM, bnQ, bnF, bnR, mulOk_l, mulOk_r, addI, ix3_0, ix3_1, ix3_2, ix2_0, ix2_1, il2_0, il2_1, il3_0, il3_1, il3_2, il4_0, il4_1, il4_2, il4_3, il5_0, il5_1, il5_2, il5_3, il5_4, il6_0, il6_1, il6_2, il6_3, il6_4, il6_5, il7_0, il7_1, il7_2, il7_3, il7_4, il7_5, il7_6, il8_0, il8_1, il8_2, il8_3, il8_4, il8_5, il8_6, il8_7, il9_0, il9_1, il9_2, il9_3, il9_4, il9_5, il9_6, il9_7, il9_8, sl3_to0, sl3_to1, sl3_to2, sl3_to_1, sl3_from1, sl3_from2, sl3_from3, b1D, b2D, setB, setv, putI, ownB, ownL, cmpD, eqD, scalEq, truB, truD, itl, itt, finR, finSl, callV, resolve, ownArgs, nodupN, putBack, hasV, eachB, tgn, tgt, tgl, tsn, tsc, isTyOk, isTy, lcStep, wipeE, evLc, plainAt, lockOf, lock, unlk, unlock, restE, isC, isNoneD, sizeLine_eq, Tr.da]
  | succ n ih =>
    intro m hm k hk d hd s hs0 hs hm2
    by_cases h0 : m = 0
    · subst h0
      refine ⟨d, .nil, hd, rfl, ?_⟩
      rw [call_fn (g := F__law_shape) rfl rfl]; simp [F__law_shape, ss, sq, ee, ee2, el, et, rs, vv, vm, vt, vc, vi, vp, va, e0, evVar, evBor, evMv, two, rr, L2.ixN, bnA, bnS, bnM, bnQ, bnF, bnR, mulOk_l, mulOk_r, addI, ix3_0, ix3_1, ix3_2, ix2_0, ix2_1, il2_0, il2_1, il3_0, il3_1, il3_2, il4_0, il4_1, il4_2, il4_3, il5_0, il5_1, il5_2, il5_3, il5_4, il6_0, il6_1, il6_2, il6_3, il6_4, il6_5, il7_0, il7_1, il7_2, il7_3, il7_4, il7_5, il7_6, il8_0, il8_1, il8_2, il8_3, il8_4, il8_5, il8_6, il8_7, il9_0, il9_1, il9_2, il9_3, il9_4, il9_5, il9_6, il9_7, il9_8, sl3_to0, sl3_to1, sl3_to2, sl3_to_1, sl3_from1, sl3_from2, sl3_from3, b1D, b2D, setB, setv, putI, ownB, ownL, cmpD, eqD, scalEq, truB, truD, itl, itt, finR, finSl, callV, resolve, ownArgs, nodupN, putBack, hasV, eachB, tgn, tgt, tgl, tsn, tsc, isTyOk, isTy, lcStep, wipeE, evLc, plainAt, lockOf, lock, unlk, unlock, restE, isC, isNoneD, sizeLine_eq, Tr.da]
    · obtain ⟨j, rfl⟩ : ∃ j, k = j + 1 := ⟨k - 1, by omega⟩
      obtain ⟨d1, r1, hd1, r10, r11, t1⟩ := take_ok (j + 1) hd (n := (m : Int)) (by omega) (by omega)
      obtain ⟨d2, r2, hd2, r20, r21, t2⟩ := take_ok (j + 1) hd1 (n := 2) (by omega) (by omega)
      obtain ⟨d3, r3, hd3, r30, r31, t3⟩ := take_ok (j + 1) hd2 (n := 3) (by omega) (by omega)
      have hdv : 0 ≤ ((m : Int) - r2) / 2 ∧ ((m : Int) - r2) / 2 < m := by omega
      obtain ⟨x3, hx30, hx31, hx3⟩ : ∃ x3 : Int, 0 ≤ x3 ∧ x3 < m ∧ ((0 < r3 → x3 = (m : Int) - 1) ∧ (¬ 0 < r3 → x3 = 0)) := by
        by_cases hr : 0 < r3
        · exact ⟨(m : Int) - 1, by omega, by omega, fun _ => rfl, fun z => absurd hr z⟩
        · exact ⟨0, by omega, by omega, fun z => absurd z hr, fun _ => rfl⟩
      obtain ⟨a, ha, hidx⟩ : ∃ a : Nat, a < m ∧ idxD (.list [.int r1, .int (((m : Int) - r2) / 2), .int x3]) (.int s) = some (.int a) := by
        have hc : s = 0 ∨ s = 1 ∨ s = 2 := by omega
        rcases hc with rfl | rfl | rfl
        · exact ⟨r1.toNat, by omega, by rw [il3_0]; congr 2; omega⟩
        · exact ⟨(((m : Int) - r2) / 2).toNat, by omega, by rw [il3_1]; congr 2; omega⟩
        · exact ⟨x3.toNat, by omega, by rw [il3_2]; congr 2; omega⟩
      obtain ⟨d4, t1', hd4, z1, e1⟩ := ih a (by omega) j (by omega) hd3 hs0 hs (by omega)
      obtain ⟨d5, t2', hd5, z2, e2⟩ := ih (m - 1 - a) (by omega) j (by omega) hd4 hs0 hs (by omega)
      have hc : ((m - 1 - a : Nat) : Int) = (m : Int) - 1 - (a : Int) := by omega
      rw [hc] at e2
      refine ⟨d5, .node t1' 0 t2', hd5, by simp only [Tr.size]; omega, ?_⟩
      have h0' : ¬ (m : Int) = 0 := by omega
      simp only [Tr.da]
      generalize t1'.da = y1 at *
      generalize t2'.da = y2 at *
      by_cases hr : 0 < r3
      · obtain rfl := hx3.1 hr
        rw [call_fn (g := F__law_shape) rfl rfl]; simp [F__law_shape, ss, sq, ee, ee2, el, et, rs, vv, vm, vt, vc, vi, vp, va, e0, evVar, evBor, evMv, two, rr, L2.ixN, bnA, bnS, bnM, bnQ, bnF, bnR, mulOk_l, mulOk_r, addI, ix3_0, ix3_1, ix3_2, ix2_0, ix2_1, il2_0, il2_1, il3_0, il3_1, il3_2, il4_0, il4_1, il4_2, il4_3, il5_0, il5_1, il5_2, il5_3, il5_4, il6_0, il6_1, il6_2, il6_3, il6_4, il6_5, il7_0, il7_1, il7_2, il7_3, il7_4, il7_5, il7_6, il8_0, il8_1, il8_2, il8_3, il8_4, il8_5, il8_6, il8_7, il9_0, il9_1, il9_2, il9_3, il9_4, il9_5, il9_6, il9_7, il9_8, sl3_to0, sl3_to1, sl3_to2, sl3_to_1, sl3_from1, sl3_from2, sl3_from3, b1D, b2D, setB, setv, putI, ownB, ownL, cmpD, eqD, scalEq, truB, truD, itl, itt, finR, finSl, callV, resolve, ownArgs, nodupN, putBack, hasV, eachB, tgn, tgt, tgl, tsn, tsc, isTyOk, isTy, lcStep, wipeE, evLc, plainAt, lockOf, lock, unlk, unlock, restE, isC, isNoneD, sizeLine_eq, t1, t2, t3, hidx, e1, e2, h0', h0, hr]
      · obtain rfl := hx3.2 hr
        rw [call_fn (g := F__law_shape) rfl rfl]; simp [F__law_shape, ss, sq, ee, ee2, el, et, rs, vv, vm, vt, vc, vi, vp, va, e0, evVar, evBor, evMv, two, rr, L2.ixN, bnA, bnS, bnM, bnQ, bnF, bnR, mulOk_l, mulOk_r, addI, ix3_0, ix3_1, ix3_2, ix2_0, ix2_1, il2_0, il2_1, il3_0, il3_1, il3_2, il4_0, il4_1, il4_2, il4_3, il5_0, il5_1, il5_2, il5_3, il5_4, il6_0, il6_1, il6_2, il6_3, il6_4, il6_5, il7_0, il7_1, il7_2, il7_3, il7_4, il7_5, il7_6, il8_0, il8_1, il8_2, il8_3, il8_4, il8_5, il8_6, il8_7, il9_0, il9_1, il9_2, il9_3, il9_4, il9_5, il9_6, il9_7, il9_8, sl3_to0, sl3_to1, sl3_to2, sl3_to_1, sl3_from1, sl3_from2, sl3_from3, b1D, b2D, setB, setv, putI, ownB, ownL, cmpD, eqD, scalEq, truB, truD, itl, itt, finR, finSl, callV, resolve, ownArgs, nodupN, putBack, hasV, eachB, tgn, tgt, tgl, tsn, tsc, isTyOk, isTy, lcStep, wipeE, evLc, plainAt, lockOf, lock, unlk, unlock, restE, isC, isNoneD, sizeLine_eq, t1, t2, t3, hidx, e1, e2, h0', h0, hr]
theorem drop_row (row : List Int) (n : Nat) (h : n + 1 ≤ row.length) : slD (.list (row.map PyData.int)) (some ((n : Int) + 1)) none = some (.list ((row.drop (n + 1)).map PyData.int)) := by
  show some (PyData.list (cutD (row.map PyData.int) (some ((n : Int) + 1)) none)) = _
  unfold cutD
  have e1 : HT.sIx (row.map PyData.int).length 0 (some ((n : Int) + 1)) = n + 1 := by
    show (if ((n : Int) + 1) < 0 then (((n : Int) + 1) + ((row.map PyData.int).length : Nat)).toNat else min ((n : Int) + 1).toNat (row.map PyData.int).length) = n + 1
    rw [if_neg (by omega), List.length_map]
    omega
  rw [e1, HT.sIx_none]
  congr 2
  rw [List.map_drop, List.take_of_length_le (by rw [List.length_drop, List.length_map]; omega)]
theorem row_at (row : List Int) (n : Nat) (h : n < row.length) : idxD (.list (row.map PyData.int)) (.int n) = some (.int row[n]) := by
  show atD (row.map PyData.int) n = _
  unfold atD L2.atI L2.ixN
  rw [if_pos (by omega), if_pos (by rw [List.length_map]; omega)]
  simp [h]
theorem law_keyed_ok : ∀ (t : Tr) (k : Nat) (row : List Int), t.height ≤ k → t.size ≤ row.length → row.length < 1000 →
    ∃ t', Tr.size t' = t.size ∧ t'.keys = row.take t.size ∧ callF T (k + 1) n__law_keyed [.val t.da, .val (.list (row.map .int))] = .ok (.list [t'.da, .int t.size], [.un, .un])
  | .nil, k, row, _, _, _ => ⟨.nil, rfl, rfl, by
    generalize row.map PyData.int = R
    rw [call_fn (g := F__law_keyed) rfl rfl]; simp [F__law_keyed, ss, sq, ee, ee2, el, et, rs, vv, vm, vt, vc, vi, vp, va, e0, evVar, evBor, evMv, two, rr, L2.ixN, bnA, bnS, bnM, bnQ, bnF, bnR, mulOk_l, mulOk_r, addI, ix3_0, ix3_1, ix3_2, ix2_0, ix2_1, il2_0, il2_1, il3_0, il3_1, il3_2, il4_0, il4_1, il4_2, il4_3, il5_0, il5_1, il5_2, il5_3, il5_4, il6_0, il6_1, il6_2, il6_3, il6_4, il6_5, il7_0, il7_1, il7_2, il7_3, il7_4, il7_5, il7_6, il8_0, il8_1, il8_2, il8_3, il8_4, il8_5, il8_6, il8_7, il9_0, il9_1, il9_2, il9_3, il9_4, il9_5, il9_6, il9_7, il9_8, sl3_to0, sl3_to1, sl3_to2, sl3_to_1, sl3_from1, sl3_from2, sl3_from3, b1D, b2D, setB, setv, putI, ownB, ownL, cmpD, eqD, scalEq, truB, truD, itl, itt, finR, finSl, callV, resolve, ownArgs, nodupN, putBack, hasV, eachB, tgn, tgt, tgl, tsn, tsc, isTyOk, isTy, lcStep, wipeE, evLc, plainAt, lockOf, lock, unlk, unlock, restE, isC, isNoneD, sizeLine_eq, Tr.da, Tr.size]⟩
  | .node l x r, 0, row, h, _, _ => by simp [Tr.height] at h
  | .node l x r, k + 1, row, h, hz, hr => by
    simp only [Tr.height, Tr.size] at h hz
    obtain ⟨l', l1, l2, e1⟩ := law_keyed_ok l k row (by omega) (by omega) hr
    obtain ⟨r', r1, r2, e2⟩ := law_keyed_ok r k (row.drop (l.size + 1)) (by omega) (by rw [List.length_drop]; omega) (by rw [List.length_drop]; omega)
    have hd := drop_row row l.size (by omega)
    have hx := row_at row l.size (by omega)
    refine ⟨.node l' row[l.size] r', by simp only [Tr.size]; omega, ?_, ?_⟩
    · simp only [Tr.keys, l2, r2, Tr.size]
      have q : row.take (l.size + 1 + r.size) = row.take (l.size + 1) ++ (row.drop (l.size + 1)).take r.size := List.take_add
      rw [q, List.take_succ, List.getElem?_eq_getElem (by omega)]
      rfl
    · have es : ((l.size + 1 + r.size : Nat) : Int) = (l.size : Int) + 1 + (r.size : Int) := by omega
      simp only [Tr.da, Tr.size, es]
      generalize row[l.size] = z at *
      generalize (row.drop (l.size + 1)).map PyData.int = R2 at *
      generalize row.map PyData.int = R at *
      generalize l'.da = y1 at *
      generalize r'.da = y2 at *
      generalize l.da = y3 at *
      generalize r.da = y4 at *
      rw [call_fn (g := F__law_keyed) rfl rfl]; simp [F__law_keyed, ss, sq, ee, ee2, el, et, rs, vv, vm, vt, vc, vi, vp, va, e0, evVar, evBor, evMv, two, rr, L2.ixN, bnA, bnS, bnM, bnQ, bnF, bnR, mulOk_l, mulOk_r, addI, ix3_0, ix3_1, ix3_2, ix2_0, ix2_1, il2_0, il2_1, il3_0, il3_1, il3_2, il4_0, il4_1, il4_2, il4_3, il5_0, il5_1, il5_2, il5_3, il5_4, il6_0, il6_1, il6_2, il6_3, il6_4, il6_5, il7_0, il7_1, il7_2, il7_3, il7_4, il7_5, il7_6, il8_0, il8_1, il8_2, il8_3, il8_4, il8_5, il8_6, il8_7, il9_0, il9_1, il9_2, il9_3, il9_4, il9_5, il9_6, il9_7, il9_8, sl3_to0, sl3_to1, sl3_to2, sl3_to_1, sl3_from1, sl3_from2, sl3_from3, b1D, b2D, setB, setv, putI, ownB, ownL, cmpD, eqD, scalEq, truB, truD, itl, itt, finR, finSl, callV, resolve, ownArgs, nodupN, putBack, hasV, eachB, tgn, tgt, tgl, tsn, tsc, isTyOk, isTy, lcStep, wipeE, evLc, plainAt, lockOf, lock, unlk, unlock, restE, isC, isNoneD, sizeLine_eq, e1, e2, hd, hx]

end K20
end
section
set_option Elab.async false
set_option linter.all false
set_option maxRecDepth 100000
set_option maxHeartbeats 800000
namespace K20
open PySem PI
/-! the law's drawn trees -/
theorem small_rg {n : Nat} (h : n < 1000000) : rangeD 0 (n : Int) = some ((List.range n).map fun k => .int (0 + (k : Nat))) := by
  rw [range_small (by omega) (by omega)]; rfl
theorem ints_of {p : Int → Prop} : ∀ (ds : List Da), (∀ x ∈ ds, ∃ r, x = .int r ∧ p r) → ∃ row : List Int, ds = row.map .int ∧ ∀ x ∈ row, p x
  | [], _ => ⟨[], rfl, fun x hx => by cases hx⟩
  | d :: ds, h => by
    obtain ⟨r, rfl, hr⟩ := h d List.mem_cons_self
    obtain ⟨row, rfl, hrow⟩ := ints_of ds fun x hx => h x (List.mem_cons_of_mem _ hx)
    refine ⟨r :: row, rfl, fun x hx => ?_⟩
    rcases List.mem_cons.mp hx with rfl | hx
    · exact hr
    · exact hrow x hx
theorem law_row (k : Nat) {d : Da} (hd : isDraw d) (A B C E : Sl) (xs : List Da) :
    ∃ (d' : Da) (row : List Int), isDraw d' ∧ row.length = xs.length ∧ (∀ x ∈ row, 0 ≤ x ∧ x < 12) ∧ lcLoop (lcStep [6] (.nm 6) (ev T (callF T (k + 1)) .nil).c (ev T (callF T (k + 1)) le__law_tree_1).e) xs [.own 1 d, A, B, C, E, .un, .un] = .ok (row.map PyData.int, [.own 1 d', A, B, C, E, .un, .un]) := by
  obtain ⟨ds, env', ⟨d', hd', rfl⟩, hl, hp, e⟩ := lcLoop_inv (step := lcStep [6] (.nm 6) (ev T (callF T (k + 1)) .nil).c (ev T (callF T (k + 1)) le__law_tree_1).e)
    (fun env => ∃ d, isDraw d ∧ env = [.own 1 d, A, B, C, E, .un, .un]) (fun _ y => ∃ r, y = .int r ∧ (0 ≤ r ∧ r < 12)) (xs := xs) ⟨d, hd, rfl⟩ (by
      rintro x hxx env ⟨d, hd, rfl⟩
      obtain ⟨d', r, hd', h0, h1, ht⟩ := take_ok k hd (n := 12) (by omega) (by omega)
      refine ⟨.int r, _, ⟨d', hd', rfl⟩, ⟨r, rfl, h0, h1⟩, ?_⟩
      simp [ss, sq, ee, ee2, el, et, rs, vv, vm, vt, vc, vi, vp, va, e0, evVar, evBor, evMv, two, rr, L2.ixN, bnA, bnS, bnM, bnQ, bnF, bnR, mulOk_l, mulOk_r, addI, ix3_0, ix3_1, ix3_2, ix2_0, ix2_1, il2_0, il2_1, il3_0, il3_1, il3_2, il4_0, il4_1, il4_2, il4_3, il5_0, il5_1, il5_2, il5_3, il5_4, il6_0, il6_1, il6_2, il6_3, il6_4, il6_5, il7_0, il7_1, il7_2, il7_3, il7_4, il7_5, il7_6, il8_0, il8_1, il8_2, il8_3, il8_4, il8_5, il8_6, il8_7, il9_0, il9_1, il9_2, il9_3, il9_4, il9_5, il9_6, il9_7, il9_8, sl3_to0, sl3_to1, sl3_to2, sl3_to_1, sl3_from1, sl3_from2, sl3_from3, b1D, b2D, setB, setv, putI, ownB, ownL, cmpD, eqD, scalEq, truB, truD, itl, itt, finR, finSl, callV, resolve, ownArgs, nodupN, putBack, hasV, eachB, tgn, tgt, tgl, tsn, tsc, isTyOk, isTy, lcStep, wipeE, evLc, plainAt, lockOf, lock, unlk, unlock, restE, isC, isNoneD, sizeLine_eq, ht])
  obtain ⟨row, rfl, hr⟩ := ints_of ds (fun x hx => by
    obtain ⟨i, hi, he⟩ := List.mem_iff_getElem.mp hx
    have h2 : i < xs.length := by rw [← hl]; exact hi
    exact hp i xs[i] x (List.getElem?_eq_getElem h2) (by rw [List.getElem?_eq_getElem hi, he]))
  exact ⟨d', row, hd', by rw [← hl, List.length_map], hr, e⟩
theorem law_tree_ok (k : Nat) {d : Da} (hd : isDraw d) {n : Nat} (hn : n ≤ 20) (hk : 40 ≤ k) :
    ∃ d' t, isDraw d' ∧ Tr.size t ≤ n ∧ t.okK ∧ callF T (k + 1) n__law_tree [.own 1 d, .val (.int n)] = .ok (t.da, [.own 1 d', .un]) := by
  obtain ⟨j, rfl⟩ : ∃ j, k = j + 2 := ⟨k - 2, by omega⟩
  obtain ⟨d1, m, hd1, m0, m1, t1⟩ := take_ok (j + 1) hd (n := (n : Int) + 1) (by omega) (by omega)
  obtain ⟨m, rfl⟩ : ∃ a : Nat, m = a := ⟨m.toNat, by omega⟩
  obtain ⟨d2, s, hd2, s0, s1, t2⟩ := take_ok (j + 1) hd1 (n := 3) (by omega) (by omega)
  obtain ⟨d3, t, hd3, hz, t3⟩ := law_shape_ok 20 m (by omega) j (by omega) hd2 s0 (by omega) (by omega)
  obtain ⟨d4, w, hd4, w0, w1, t4⟩ := take_ok (j + 1) hd3 (n := 3) (by omega) (by omega)
  have hh := t.height_le
  have rest : ∃ (d5 : Da) (row : List Int), isDraw d5 ∧ row.length = m ∧ (∀ x ∈ row, 0 ≤ x ∧ x ≤ 99) ∧ (sv T (callF T (j + 2)) s__law_tree_3).s [.own 1 d4, .val (.int n), .val (.int m), .val t.da, .val (.int w), .un, .un] = .ok (.nx, [.own 1 d5, .val (.int n), .val (.int m), .val t.da, .val (.int w), .val (.list (row.map .int)), .un]) := by
    have hrg := small_rg (n := m) (by omega)
    have n1 : ((List.range m).map fun k => PyData.int (0 + (k : Nat))).length ≤ 16777216 := by rw [List.length_map, List.length_range]; omega
    generalize t.da = td
    have hcw : w = 0 ∨ w = 1 ∨ w = 2 := by omega
    rcases hcw with rfl | rfl | rfl
    · refine ⟨d4, (List.range m).map fun k => 3 * (0 + (k : Nat) : Int), hd4, by simp, fun x hx => ?_, ?_⟩
      · obtain ⟨i, hi, rfl⟩ := List.mem_map.mp hx
        have := List.mem_range.mp hi
        omega
      · have p1 := lcLoop_tmap (step := lcStep [6] (.nm 6) (ev T (callF T (j + 2)) .nil).c (ev T (callF T (j + 2)) le__law_tree_0).e) (env := [.own 1 d4, .val (.int n), .val (.int m), .val td, .val (.int 0), .un, .un]) (fun k : Nat => .int (0 + (k : Nat))) (fun k : Nat => .int (3 * (0 + (k : Nat)))) (List.range m) (fun i hi => by
          simp [ss, sq, ee, ee2, el, et, rs, vv, vm, vt, vc, vi, vp, va, e0, evVar, evBor, evMv, two, rr, L2.ixN, bnA, bnS, bnM, bnQ, bnF, bnR, mulOk_l, mulOk_r, addI, ix3_0, ix3_1, ix3_2, ix2_0, ix2_1, il2_0, il2_1, il3_0, il3_1, il3_2, il4_0, il4_1, il4_2, il4_3, il5_0, il5_1, il5_2, il5_3, il5_4, il6_0, il6_1, il6_2, il6_3, il6_4, il6_5, il7_0, il7_1, il7_2, il7_3, il7_4, il7_5, il7_6, il8_0, il8_1, il8_2, il8_3, il8_4, il8_5, il8_6, il8_7, il9_0, il9_1, il9_2, il9_3, il9_4, il9_5, il9_6, il9_7, il9_8, sl3_to0, sl3_to1, sl3_to2, sl3_to_1, sl3_from1, sl3_from2, sl3_from3, b1D, b2D, setB, setv, putI, ownB, ownL, cmpD, eqD, scalEq, truB, truD, itl, itt, finR, finSl, callV, resolve, ownArgs, nodupN, putBack, hasV, eachB, tgn, tgt, tgl, tsn, tsc, isTyOk, isTy, lcStep, wipeE, evLc, plainAt, lockOf, lock, unlk, unlock, restE, isC, isNoneD, sizeLine_eq])
        rw [List.map_map]
        have e : (List.range m).map (PyData.int ∘ fun k => 3 * (0 + (k : Nat) : Int)) = (List.range m).map (fun k : Nat => PyData.int (3 * (0 + (k : Nat)))) := rfl
        rw [e]
        generalize ((List.range m).map fun k : Nat => PyData.int (3 * (0 + (k : Nat)))) = ys at *
        generalize ((List.range m).map fun k : Nat => PyData.int (0 + (k : Nat))) = xs at *
        simp [ss, sq, ee, ee2, el, et, rs, vv, vm, vt, vc, vi, vp, va, e0, evVar, evBor, evMv, two, rr, L2.ixN, bnA, bnS, bnM, bnQ, bnF, bnR, mulOk_l, mulOk_r, addI, ix3_0, ix3_1, ix3_2, ix2_0, ix2_1, il2_0, il2_1, il3_0, il3_1, il3_2, il4_0, il4_1, il4_2, il4_3, il5_0, il5_1, il5_2, il5_3, il5_4, il6_0, il6_1, il6_2, il6_3, il6_4, il6_5, il7_0, il7_1, il7_2, il7_3, il7_4, il7_5, il7_6, il8_0, il8_1, il8_2, il8_3, il8_4, il8_5, il8_6, il8_7, il9_0, il9_1, il9_2, il9_3, il9_4, il9_5, il9_6, il9_7, il9_8, sl3_to0, sl3_to1, sl3_to2, sl3_to_1, sl3_from1, sl3_from2, sl3_from3, b1D, b2D, setB, setv, putI, ownB, ownL, cmpD, eqD, scalEq, truB, truD, itl, itt, finR, finSl, callV, resolve, ownArgs, nodupN, putBack, hasV, eachB, tgn, tgt, tgl, tsn, tsc, isTyOk, isTy, lcStep, wipeE, evLc, plainAt, lockOf, lock, unlk, unlock, restE, isC, isNoneD, sizeLine_eq, hrg, n1, p1]
    · refine ⟨d4, List.replicate m 7, hd4, by simp, fun x hx => ?_, ?_⟩
      · have := List.eq_of_mem_replicate hx; omega
      · have e : (List.replicate m (7 : Int)).map PyData.int = (List.replicate m [PyData.int 7]).flatten := by
          rw [List.map_replicate]
          clear hrg n1 t1 t2 t3 hz m0 m1
          induction m with
          | zero => rfl
          | succ m ih => rw [List.replicate_succ, List.replicate_succ, List.flatten_cons, ← ih]; rfl
        have hb := bnR (a := [PyData.int 7]) (k := (m : Int)) (by omega) (by omega) (by simp)
        rw [e]
        rw [Int.toNat_natCast] at hb
        generalize (List.replicate m [PyData.int 7]).flatten = ys at *
        simp [ss, sq, ee, ee2, el, et, rs, vv, vm, vt, vc, vi, vp, va, e0, evVar, evBor, evMv, two, rr, L2.ixN, bnA, bnS, bnM, bnQ, bnF, bnR, mulOk_l, mulOk_r, addI, ix3_0, ix3_1, ix3_2, ix2_0, ix2_1, il2_0, il2_1, il3_0, il3_1, il3_2, il4_0, il4_1, il4_2, il4_3, il5_0, il5_1, il5_2, il5_3, il5_4, il6_0, il6_1, il6_2, il6_3, il6_4, il6_5, il7_0, il7_1, il7_2, il7_3, il7_4, il7_5, il7_6, il8_0, il8_1, il8_2, il8_3, il8_4, il8_5, il8_6, il8_7, il9_0, il9_1, il9_2, il9_3, il9_4, il9_5, il9_6, il9_7, il9_8, sl3_to0, sl3_to1, sl3_to2, sl3_to_1, sl3_from1, sl3_from2, sl3_from3, b1D, b2D, setB, setv, putI, ownB, ownL, cmpD, eqD, scalEq, truB, truD, itl, itt, finR, finSl, callV, resolve, ownArgs, nodupN, putBack, hasV, eachB, tgn, tgt, tgl, tsn, tsc, isTyOk, isTy, lcStep, wipeE, evLc, plainAt, lockOf, lock, unlk, unlock, restE, isC, isNoneD, sizeLine_eq, hb]
    · obtain ⟨d5, row, hd5, hl, hr, p1⟩ := law_row (j + 1) hd4 (.val (.int n)) (.val (.int m)) (.val td) (.val (.int 2)) ((List.range m).map fun k => .int (0 + (k : Nat)))
      refine ⟨d5, row, hd5, by rw [hl]; simp, fun x hx => by have := hr x hx; omega, ?_⟩
      generalize ((List.range m).map fun k : Nat => PyData.int (0 + (k : Nat))) = xs at *
      generalize row.map PyData.int = ys at *
      simp [ss, sq, ee, ee2, el, et, rs, vv, vm, vt, vc, vi, vp, va, e0, evVar, evBor, evMv, two, rr, L2.ixN, bnA, bnS, bnM, bnQ, bnF, bnR, mulOk_l, mulOk_r, addI, ix3_0, ix3_1, ix3_2, ix2_0, ix2_1, il2_0, il2_1, il3_0, il3_1, il3_2, il4_0, il4_1, il4_2, il4_3, il5_0, il5_1, il5_2, il5_3, il5_4, il6_0, il6_1, il6_2, il6_3, il6_4, il6_5, il7_0, il7_1, il7_2, il7_3, il7_4, il7_5, il7_6, il8_0, il8_1, il8_2, il8_3, il8_4, il8_5, il8_6, il8_7, il9_0, il9_1, il9_2, il9_3, il9_4, il9_5, il9_6, il9_7, il9_8, sl3_to0, sl3_to1, sl3_to2, sl3_to_1, sl3_from1, sl3_from2, sl3_from3, b1D, b2D, setB, setv, putI, ownB, ownL, cmpD, eqD, scalEq, truB, truD, itl, itt, finR, finSl, callV, resolve, ownArgs, nodupN, putBack, hasV, eachB, tgn, tgt, tgl, tsn, tsc, isTyOk, isTy, lcStep, wipeE, evLc, plainAt, lockOf, lock, unlk, unlock, restE, isC, isNoneD, sizeLine_eq, hrg, n1, p1]
  obtain ⟨d5, row, hd5, hl, hr, t5⟩ := rest
  obtain ⟨t', z1, z2, t6⟩ := law_keyed_ok t (j + 1) row (by omega) (by omega) (by omega)
  refine ⟨d5, t', hd5, by omega, fun x hx => ?_, ?_⟩
  · rw [z2] at hx
    exact hr x (List.mem_of_mem_take hx)
  · generalize t'.da = y at *
    generalize t.da = td at *
    generalize row.map PyData.int = R at *
    rw [call_fn (g := F__law_tree) rfl rfl]
    have e0 : (sv T (callF T (j + 2)) s__law_tree_0).s [.own 1 d, .val (.int n), .un, .un, .un, .un, .un] = .ok (.nx, [.own 1 d1, .val (.int n), .val (.int m), .un, .un, .un, .un]) := by simp [ss, sq, ee, ee2, el, et, rs, vv, vm, vt, vc, vi, vp, va, e0, evVar, evBor, evMv, two, rr, L2.ixN, bnA, bnS, bnM, bnQ, bnF, bnR, mulOk_l, mulOk_r, addI, ix3_0, ix3_1, ix3_2, ix2_0, ix2_1, il2_0, il2_1, il3_0, il3_1, il3_2, il4_0, il4_1, il4_2, il4_3, il5_0, il5_1, il5_2, il5_3, il5_4, il6_0, il6_1, il6_2, il6_3, il6_4, il6_5, il7_0, il7_1, il7_2, il7_3, il7_4, il7_5, il7_6, il8_0, il8_1, il8_2, il8_3, il8_4, il8_5, il8_6, il8_7, il9_0, il9_1, il9_2, il9_3, il9_4, il9_5, il9_6, il9_7, il9_8, sl3_to0, sl3_to1, sl3_to2, sl3_to_1, sl3_from1, sl3_from2, sl3_from3, b1D, b2D, setB, setv, putI, ownB, ownL, cmpD, eqD, scalEq, truB, truD, itl, itt, finR, finSl, callV, resolve, ownArgs, nodupN, putBack, hasV, eachB, tgn, tgt, tgl, tsn, tsc, isTyOk, isTy, lcStep, wipeE, evLc, plainAt, lockOf, lock, unlk, unlock, restE, isC, isNoneD, sizeLine_eq, t1]
    have e1 : (sv T (callF T (j + 2)) s__law_tree_1).s [.own 1 d1, .val (.int n), .val (.int m), .un, .un, .un, .un] = .ok (.nx, [.own 1 d3, .val (.int n), .val (.int m), .val td, .un, .un, .un]) := by simp [ss, sq, ee, ee2, el, et, rs, vv, vm, vt, vc, vi, vp, va, e0, evVar, evBor, evMv, two, rr, L2.ixN, bnA, bnS, bnM, bnQ, bnF, bnR, mulOk_l, mulOk_r, addI, ix3_0, ix3_1, ix3_2, ix2_0, ix2_1, il2_0, il2_1, il3_0, il3_1, il3_2, il4_0, il4_1, il4_2, il4_3, il5_0, il5_1, il5_2, il5_3, il5_4, il6_0, il6_1, il6_2, il6_3, il6_4, il6_5, il7_0, il7_1, il7_2, il7_3, il7_4, il7_5, il7_6, il8_0, il8_1, il8_2, il8_3, il8_4, il8_5, il8_6, il8_7, il9_0, il9_1, il9_2, il9_3, il9_4, il9_5, il9_6, il9_7, il9_8, sl3_to0, sl3_to1, sl3_to2, sl3_to_1, sl3_from1, sl3_from2, sl3_from3, b1D, b2D, setB, setv, putI, ownB, ownL, cmpD, eqD, scalEq, truB, truD, itl, itt, finR, finSl, callV, resolve, ownArgs, nodupN, putBack, hasV, eachB, tgn, tgt, tgl, tsn, tsc, isTyOk, isTy, lcStep, wipeE, evLc, plainAt, lockOf, lock, unlk, unlock, restE, isC, isNoneD, sizeLine_eq, t2, t3]
    have e2 : (sv T (callF T (j + 2)) s__law_tree_2).s [.own 1 d3, .val (.int n), .val (.int m), .val td, .un, .un, .un] = .ok (.nx, [.own 1 d4, .val (.int n), .val (.int m), .val td, .val (.int w), .un, .un]) := by simp [ss, sq, ee, ee2, el, et, rs, vv, vm, vt, vc, vi, vp, va, e0, evVar, evBor, evMv, two, rr, L2.ixN, bnA, bnS, bnM, bnQ, bnF, bnR, mulOk_l, mulOk_r, addI, ix3_0, ix3_1, ix3_2, ix2_0, ix2_1, il2_0, il2_1, il3_0, il3_1, il3_2, il4_0, il4_1, il4_2, il4_3, il5_0, il5_1, il5_2, il5_3, il5_4, il6_0, il6_1, il6_2, il6_3, il6_4, il6_5, il7_0, il7_1, il7_2, il7_3, il7_4, il7_5, il7_6, il8_0, il8_1, il8_2, il8_3, il8_4, il8_5, il8_6, il8_7, il9_0, il9_1, il9_2, il9_3, il9_4, il9_5, il9_6, il9_7, il9_8, sl3_to0, sl3_to1, sl3_to2, sl3_to_1, sl3_from1, sl3_from2, sl3_from3, b1D, b2D, setB, setv, putI, ownB, ownL, cmpD, eqD, scalEq, truB, truD, itl, itt, finR, finSl, callV, resolve, ownArgs, nodupN, putBack, hasV, eachB, tgn, tgt, tgl, tsn, tsc, isTyOk, isTy, lcStep, wipeE, evLc, plainAt, lockOf, lock, unlk, unlock, restE, isC, isNoneD, sizeLine_eq, t4]
    show finR _ ((sv T (callF T (j + 2)) (.seq s__law_tree_0 (.seq s__law_tree_1 (.seq s__law_tree_2 (.seq s__law_tree_3 (.seq s__law_tree_4 .skip)))))).s [.own 1 d, .val (.int n), .un, .un, .un, .un, .un]) = _
    rw [seq_nx e0, seq_nx e1, seq_nx e2, seq_nx t5]
    simp [ss, sq, ee, ee2, el, et, rs, vv, vm, vt, vc, vi, vp, va, e0, evVar, evBor, evMv, two, rr, L2.ixN, bnA, bnS, bnM, bnQ, bnF, bnR, mulOk_l, mulOk_r, addI, ix3_0, ix3_1, ix3_2, ix2_0, ix2_1, il2_0, il2_1, il3_0, il3_1, il3_2, il4_0, il4_1, il4_2, il4_3, il5_0, il5_1, il5_2, il5_3, il5_4, il6_0, il6_1, il6_2, il6_3, il6_4, il6_5, il7_0, il7_1, il7_2, il7_3, il7_4, il7_5, il7_6, il8_0, il8_1, il8_2, il8_3, il8_4, il8_5, il8_6, il8_7, il9_0, il9_1, il9_2, il9_3, il9_4, il9_5, il9_6, il9_7, il9_8, sl3_to0, sl3_to1, sl3_to2, sl3_to_1, sl3_from1, sl3_from2, sl3_from3, b1D, b2D, setB, setv, putI, ownB, ownL, cmpD, eqD, scalEq, truB, truD, itl, itt, finR, finSl, callV, resolve, ownArgs, nodupN, putBack, hasV, eachB, tgn, tgt, tgl, tsn, tsc, isTyOk, isTy, lcStep, wipeE, evLc, plainAt, lockOf, lock, unlk, unlock, restE, isC, isNoneD, sizeLine_eq, t6]
/-! what is no tree -/
def wideD : Nat → Da
  | 0 => .none
  | n + 1 => .tuple [wideD n, .int 0, .none]
def badsD (z : Da) : List Da := [.int 5, .tuple [], .tuple [.none, .int 0], .tuple [.none, .int 100, .none], .tuple [.none, .int (-1), .none], .tuple [.none, .bool true, .none], .tuple [.int 0, .int 0, .none], .list [.none, .int 0, .none], .tuple [z, .int 0, .tuple []], .tuple [.none, .str "0", .none], .str "x"]
theorem not_tree_ok (k : Nat) {d : Da} (hd : isDraw d) (t : Tr) : ∃ d' v, isDraw d' ∧ noD v = true ∧ isTreeB v = false ∧ callF T (k + 2) n__law_not_tree [.own 1 d, .val t.da] = .ok (v, [.own 1 d', .un]) := by
  obtain ⟨d', r, hd', r0, r1, t1⟩ := take_ok k hd (n := 12) (by omega) (by omega)
  have hz := noD_da t
  generalize t.da = z at *
  have hv : ∃ v, noD v = true ∧ isTreeB v = false ∧ idxD (.list (badsD z ++ [wideD 21])) (.int r) = some v := by
    have hc : r = 0 ∨ r = 1 ∨ r = 2 ∨ r = 3 ∨ r = 4 ∨ r = 5 ∨ r = 6 ∨ r = 7 ∨ r = 8 ∨ r = 9 ∨ r = 10 ∨ r = 11 := by omega
    rcases hc with rfl | rfl | rfl | rfl | rfl | rfl | rfl | rfl | rfl | rfl | rfl | rfl
    · exact ⟨_, rfl, rfl, rfl⟩
    · exact ⟨_, rfl, rfl, rfl⟩
    · exact ⟨_, rfl, rfl, rfl⟩
    · exact ⟨_, rfl, rfl, rfl⟩
    · exact ⟨_, rfl, rfl, rfl⟩
    · exact ⟨_, rfl, rfl, rfl⟩
    · exact ⟨.tuple [.int 0, .int 0, .none], rfl, by decide +kernel, rfl⟩
    · exact ⟨_, rfl, rfl, rfl⟩
    · exact ⟨.tuple [z, .int 0, .tuple []], by simp [noD, noDs, hz], by kernel_rfl, rfl⟩
    · exact ⟨_, rfl, rfl, rfl⟩
    · exact ⟨_, rfl, rfl, rfl⟩
    · exact ⟨wideD 21, by decide +kernel, by decide +kernel, rfl⟩
  obtain ⟨v, v1, v2, v3⟩ := hv
  refine ⟨d', v, hd', v1, v2, ?_⟩
  rw [call_fn (g := F__law_not_tree) rfl rfl]
  have e0 : (sv T (callF T (k + 1)) (.seq s__law_not_tree_0 (.seq s__law_not_tree_1 (.seq s__law_not_tree_2 .skip)))).s [.own 1 d, .val z, .un, .un, .un] = .ok (.nx, [.own 1 d, .val z, .val (.list (badsD z)), .val (wideD 21), .val (.int 20)]) := by
    generalize callF T (k + 1) = c
    kernel_rfl
  have ha : addD (.list (badsD z)) (.list [wideD 21]) = some (.list (badsD z ++ [wideD 21])) := by kernel_rfl
  have e1 : (sv T (callF T (k + 1)) s__law_not_tree_4).s [.own 1 d, .val z, .val (.list (badsD z)), .val (wideD 21), .val (.int 20)] = .ok (.ret v, [.own 1 d', .val z, .val (.list (badsD z)), .val (wideD 21), .val (.int 20)]) := by
    generalize badsD z ++ [wideD 21] = bl at *
    generalize badsD z = b at *
    generalize wideD 21 = w at *
    simp [ss, sq, ee, ee2, el, et, rs, vv, vm, vt, vc, vi, vp, va, e0, evVar, evBor, evMv, two, rr, L2.ixN, bnA, bnS, bnM, bnQ, bnF, bnR, mulOk_l, mulOk_r, addI, ix3_0, ix3_1, ix3_2, ix2_0, ix2_1, il2_0, il2_1, il3_0, il3_1, il3_2, il4_0, il4_1, il4_2, il4_3, il5_0, il5_1, il5_2, il5_3, il5_4, il6_0, il6_1, il6_2, il6_3, il6_4, il6_5, il7_0, il7_1, il7_2, il7_3, il7_4, il7_5, il7_6, il8_0, il8_1, il8_2, il8_3, il8_4, il8_5, il8_6, il8_7, il9_0, il9_1, il9_2, il9_3, il9_4, il9_5, il9_6, il9_7, il9_8, sl3_to0, sl3_to1, sl3_to2, sl3_to_1, sl3_from1, sl3_from2, sl3_from3, b1D, b2D, setB, setv, putI, ownB, ownL, cmpD, eqD, scalEq, truB, truD, itl, itt, finR, finSl, callV, resolve, ownArgs, nodupN, putBack, hasV, eachB, tgn, tgt, tgl, tsn, tsc, isTyOk, isTy, lcStep, wipeE, evLc, plainAt, lockOf, lock, unlk, unlock, restE, isC, isNoneD, sizeLine_eq, t1, ha, v3]
  have e2 : (sv T (callF T (k + 1)) (.seq s__law_not_tree_0 (.seq s__law_not_tree_1 (.seq s__law_not_tree_2 (.seq s__law_not_tree_4 .skip))))).s [.own 1 d, .val z, .un, .un, .un] = .ok (.ret v, [.own 1 d', .val z, .val (.list (badsD z)), .val (wideD 21), .val (.int 20)]) := by
    rw [(ss T (callF T (k + 1))).2.1] at e0 ⊢
    revert e0
    cases h0 : (sv T (callF T (k + 1)) s__law_not_tree_0).s [.own 1 d, .val z, .un, .un, .un] with
    | ok p =>
      obtain ⟨fl, env⟩ := p
      cases fl with
      | nx =>
        simp only [sq]
        rw [(ss T (callF T (k + 1))).2.1, (ss T (callF T (k + 1))).2.1]
        cases h1 : (sv T (callF T (k + 1)) s__law_not_tree_1).s env with
        | ok p =>
          obtain ⟨fl, env⟩ := p
          cases fl with
          | nx =>
            simp only [sq]
            rw [(ss T (callF T (k + 1))).2.1, (ss T (callF T (k + 1))).2.1]
            cases h2 : (sv T (callF T (k + 1)) s__law_not_tree_2).s env with
            | ok p =>
              obtain ⟨fl, env⟩ := p
              cases fl with
              | nx =>
                simp only [sq]
                intro e0
                have e3 : env = [.own 1 d, .val z, .val (.list (badsD z)), .val (wideD 21), .val (.int 20)] := by
                  have e4 : (sv T (callF T (k + 1)) .skip).s env = .ok (.nx, env) := rfl
                  rw [e4] at e0
                  cases e0
                  rfl
                rw [e3, seq_ret e1]
              | _ => intro e0; cases e0
            | _ => intro e0; cases e0
          | _ => intro e0; cases e0
        | _ => intro e0; cases e0
      | _ => intro e0; cases e0
    | _ => intro e0; cases e0
  show finR _ ((sv T (callF T (k + 1)) (.seq s__law_not_tree_0 (.seq s__law_not_tree_1 (.seq s__law_not_tree_2 (.seq s__law_not_tree_4 .skip))))).s [.own 1 d, .val z, .un, .un, .un]) = _
  rw [e2]
  rfl
/-! the law's follow -/
theorem nd_in_ways (w : List Bool) (ws : List (List Bool)) : inD (wd w) (.list (ws.map wd)) = some (decide (w ∈ ws)) := by
  have h := in_list (x := wstr w) (xs := ws.map wstr) (wstr_ok w) (fun x hx => by obtain ⟨u, _, rfl⟩ := List.mem_map.mp hx; exact wstr_ok u)
  rw [List.map_map] at h
  show inD (.str (wstr w)) (.list (ws.map (PyData.str ∘ wstr))) = _
  rw [h]
  congr 1
  apply decide_eq_decide.mpr
  rw [List.mem_map]
  constructor
  · rintro ⟨u, hu, e⟩; rw [← wstr_inj e]; exact hu
  · intro hw; exact ⟨w, hw, rfl⟩
theorem lf_loop (k : Nat) (T0 R0 : Sl) (hk : 60 ≤ k) : ∀ (ws : List (List Bool)) (t : Tr) (ps : List Da) (u : Sl), plainSl u → t.size ≤ 20 → ps.length + ws.length < 900 → (∀ w ∈ ws, w.length ≤ 50) → Tr.goesB t ws = true →
    ∃ u', forLoop (eachB (sv T (callF T k) b__law_follow_0).s (.nm 3)) (ws.map wd) [T0, R0, .own 0 (.list (ps ++ [t.da])), u] = .ok (.nx, [T0, R0, .own 0 (.list (ps ++ (Tr.follow t ws).map Tr.da)), u'])
  | [], t, ps, u, hu, _, _, _, _ => ⟨u, rfl⟩
  | w :: ws, t, ps, u, hu, hz, hl, hs, hg => by
    rw [Tr.goesB, Bool.and_eq_true, Bool.and_eq_true] at hg
    obtain ⟨g1, g2, g3⟩ := hg
    rw [List.length_cons] at hl
    have hw : w ≠ [] := by intro z; rw [z] at g1; simp at g1
    have hat : t.at_ w ≠ .nil := by intro z; rw [z] at g2; simp [Tr.da, isNoneD] at g2
    obtain ⟨u', ih⟩ := lf_loop k T0 R0 hk ws (t.rot w) (ps ++ [t.da]) (.val (wd w)) (.inr ⟨_, rfl⟩) (by rw [Tr.size_rot]; exact hz) (by simp; omega) (fun v hv => hs v (List.mem_cons_of_mem _ hv)) g3
    refine ⟨u', ?_⟩
    obtain ⟨j, rfl⟩ : ∃ j, k = j + 1 := ⟨k - 1, by omega⟩
    have hh := t.height_le
    have a1 := law_ways_ok t j (by omega) (by omega)
    have a2 := law_turn_ok j t w hw (hs w List.mem_cons_self) (by omega) hat
    have a3 := nd_in_ways w t.ways
    have hm : w ∈ t.ways := (Tr.way_iff t w).mpr hat
    rw [decide_eq_true hm] at a3
    have a4 := eq_nil_wd w
    have a5 : w.isEmpty = false := by simpa using g1
    rw [a5] at a4
    have h3 := snoc_last ps t.da
    have h4 := app_one (ps ++ [t.da]) (t.rot w).da (by simp; omega)
    have st : eachB (sv T (callF T (j + 1)) b__law_follow_0).s (.nm 3) (wd w) [T0, R0, .own 0 (.list (ps ++ [t.da])), u] = .ok (.nx, [T0, R0, .own 0 (.list ((ps ++ [t.da]) ++ [(t.rot w).da])), .val (wd w)]) := by
      clear ih
      generalize (t.rot w).da = y at *
      generalize t.da = d at *
      generalize ps ++ [d] = qs at *
      generalize qs ++ [y] = zs at *
      generalize t.ways.map wd = W2 at *
      generalize wd w = W at *
      rcases hu with rfl | ⟨z, rfl⟩ <;> simp [ss, sq, ee, ee2, el, et, rs, vv, vm, vt, vc, vi, vp, va, e0, evVar, evBor, evMv, two, rr, L2.ixN, bnA, bnS, bnM, bnQ, bnF, bnR, mulOk_l, mulOk_r, addI, ix3_0, ix3_1, ix3_2, ix2_0, ix2_1, il2_0, il2_1, il3_0, il3_1, il3_2, il4_0, il4_1, il4_2, il4_3, il5_0, il5_1, il5_2, il5_3, il5_4, il6_0, il6_1, il6_2, il6_3, il6_4, il6_5, il7_0, il7_1, il7_2, il7_3, il7_4, il7_5, il7_6, il8_0, il8_1, il8_2, il8_3, il8_4, il8_5, il8_6, il8_7, il9_0, il9_1, il9_2, il9_3, il9_4, il9_5, il9_6, il9_7, il9_8, sl3_to0, sl3_to1, sl3_to2, sl3_to_1, sl3_from1, sl3_from2, sl3_from3, b1D, b2D, setB, setv, putI, ownB, ownL, cmpD, truB, truD, itl, itt, finR, finSl, callV, resolve, ownArgs, nodupN, putBack, hasV, eachB, tgn, tgt, tgl, tsn, tsc, isTyOk, isTy, lcStep, wipeE, evLc, plainAt, lockOf, lock, unlk, unlock, restE, isC, isNoneD, sizeLine_eq, a1, a2, a3, a4, h3, h4]
    rw [List.map_cons]
    unfold forLoop
    rw [st]
    simp only
    rw [ih]
    simp [Tr.follow]
theorem law_follow_ok (k : Nat) (t : Tr) (hz : t.size ≤ 20) (ws : List (List Bool)) (hk : 60 ≤ k) (hl : ws.length < 800) (hs : ∀ w ∈ ws, w.length ≤ 50) (hg : Tr.goesB t ws = true) :
    callF T (k + 1) n__law_follow [.val t.da, .val (.tuple (ws.map wd))] = .ok (.list ((Tr.follow t ws).map Tr.da), [.un, .un]) := by
  obtain ⟨u', h⟩ := lf_loop k (.val t.da) (.val (.tuple (ws.map wd))) hk ws t [] .un (.inl rfl) hz (by simp; omega) hs hg
  have hf : PI.fresh T (.lst (.cons (.var 0) .nil)) = true := rfl
  rw [List.nil_append, List.nil_append] at h
  generalize (Tr.follow t ws).map Tr.da = z at *
  generalize t.da = d at *
  generalize ws.map wd = W at *
  rw [call_fn (g := F__law_follow) rfl rfl]; simp [F__law_follow, ss, sq, ee, ee2, el, et, rs, vv, vm, vt, vc, vi, vp, va, e0, evVar, evBor, evMv, two, rr, L2.ixN, bnA, bnS, bnM, bnQ, bnF, bnR, mulOk_l, mulOk_r, addI, ix3_0, ix3_1, ix3_2, ix2_0, ix2_1, il2_0, il2_1, il3_0, il3_1, il3_2, il4_0, il4_1, il4_2, il4_3, il5_0, il5_1, il5_2, il5_3, il5_4, il6_0, il6_1, il6_2, il6_3, il6_4, il6_5, il7_0, il7_1, il7_2, il7_3, il7_4, il7_5, il7_6, il8_0, il8_1, il8_2, il8_3, il8_4, il8_5, il8_6, il8_7, il9_0, il9_1, il9_2, il9_3, il9_4, il9_5, il9_6, il9_7, il9_8, sl3_to0, sl3_to1, sl3_to2, sl3_to_1, sl3_from1, sl3_from2, sl3_from3, b1D, b2D, setB, setv, putI, ownB, ownL, cmpD, truB, truD, itl, itt, finR, finSl, callV, resolve, ownArgs, nodupN, putBack, hasV, eachB, tgn, tgt, tgl, tsn, tsc, isTyOk, isTy, lcStep, wipeE, evLc, plainAt, lockOf, lock, unlk, unlock, restE, isC, isNoneD, sizeLine_eq, setO, isLst, hf, h]

end K20
end
section
set_option Elab.async false
set_option linter.all false
set_option maxRecDepth 100000
set_option maxHeartbeats 800000
namespace K20
open PySem PI
/-! plainly -/
def endT : Tr → List (List Bool) → Tr
  | t, [] => t
  | t, w :: ws => endT (t.rot w) ws
theorem follow_last : ∀ (ws : List (List Bool)) (t : Tr), (Tr.follow t ws).getLast (Tr.follow_ne t ws) = endT t ws
  | [], t => rfl
  | w :: ws, t => by
    simp only [Tr.follow, endT]
    rw [List.getLast_cons (Tr.follow_ne _ _)]
    exact follow_last ws (t.rot w)
theorem follow_snoc : ∀ (ws : List (List Bool)) (t : Tr) (w : List Bool), Tr.follow t (ws ++ [w]) = Tr.follow t ws ++ [(endT t ws).rot w] ∧ endT t (ws ++ [w]) = (endT t ws).rot w
  | [], t, w => ⟨rfl, rfl⟩
  | u :: ws, t, w => by
    obtain ⟨h1, h2⟩ := follow_snoc ws (t.rot u) w
    exact ⟨by simp only [List.cons_append, Tr.follow, endT, h1], by simp only [List.cons_append, endT, h2]⟩
theorem goes_snoc : ∀ (ws : List (List Bool)) (t : Tr) (w : List Bool), Tr.goesB t ws = true → w ≠ [] → (endT t ws).at_ w ≠ .nil → Tr.goesB t (ws ++ [w]) = true
  | [], t, w, _, hw, ha => by
    have h1 : w.isEmpty = false := by cases w with | nil => exact absurd rfl hw | cons _ _ => rfl
    have h2 : isNoneD (t.at_ w).da = false := by
      have ha' : t.at_ w ≠ .nil := ha
      cases h : t.at_ w with
      | nil => exact absurd h ha'
      | node l x r => rfl
    simp [Tr.goesB, h1, h2]
  | u :: ws, t, w, hg, hw, ha => by
    rw [Tr.goesB, Bool.and_eq_true, Bool.and_eq_true] at hg
    rw [List.cons_append, Tr.goesB, hg.1, hg.2.1, goes_snoc ws (t.rot u) w hg.2.2 hw ha]
    rfl
theorem endT_size : ∀ (ws : List (List Bool)) (t : Tr), (endT t ws).size = t.size
  | [], t => rfl
  | w :: ws, t => by simp only [endT]; rw [endT_size ws, Tr.size_rot]
theorem endT_ok : ∀ (ws : List (List Bool)) (t : Tr), t.okK → (endT t ws).okK
  | [], t, h => h
  | w :: ws, t, h => endT_ok ws _ (Tr.okK_rot h w)
theorem at_deep : ∀ (t : Tr) (w : List Bool), t.height ≤ w.length → t.at_ w = .nil
  | .nil, w, _ => Tr.at_nil w
  | .node l x r, [], h => by simp [Tr.height] at h
  | .node l x r, b :: w, h => by
    simp only [Tr.height, List.length_cons] at h
    show (if b then r else l).at_ w = .nil
    cases b with
    | true => exact at_deep r w (by omega)
    | false => exact at_deep l w (by omega)
theorem fine_das (ts : List Tr) (h : ∀ t ∈ ts, t.height ≤ 60) : fine (.tuple (ts.map Tr.da)) = true := fine_tup (fun x hx => by
    obtain ⟨t, _, rfl⟩ := List.mem_map.mp hx
    exact t.lay_da) fun x hx => by
    obtain ⟨t, ht, rfl⟩ := List.mem_map.mp hx
    have := t.depth_da
    have := h t ht
    omega
theorem follow_sizes : ∀ (ws : List (List Bool)) (t : Tr), ∀ s ∈ Tr.follow t ws, s.size = t.size
  | [], t, s, h => by rw [List.mem_singleton.mp h]
  | w :: ws, t, s, h => by
    simp only [Tr.follow, List.mem_cons] at h
    rcases h with rfl | h
    · rfl
    · rw [follow_sizes ws _ s h, Tr.size_rot]
theorem fine_ways' (ws : List (List Bool)) : fine (.tuple (ws.map wd)) = true := fine_tup (fun x hx => by
    obtain ⟨w, _, rfl⟩ := List.mem_map.mp hx
    exact lay_wd w) fun x hx => by
    obtain ⟨w, _, rfl⟩ := List.mem_map.mp hx
    exact Nat.zero_le _
theorem fine_waysL (ws : List (List Bool)) : fine (.list (ws.map wd)) = true := fine_lst (fun x hx => by
    obtain ⟨w, _, rfl⟩ := List.mem_map.mp hx
    exact lay_wd w) fun x hx => by
    obtain ⟨w, _, rfl⟩ := List.mem_map.mp hx
    exact Nat.zero_le _
theorem fine_intsL (xs : List Int) : fine (.list (xs.map .int)) = true := fine_lst (fun x hx => by
    obtain ⟨w, _, rfl⟩ := List.mem_map.mp hx
    rfl) fun x hx => by
    obtain ⟨w, _, rfl⟩ := List.mem_map.mp hx
    exact Nat.zero_le _
theorem ne_self {d : Da} (h : eqD d d = some true) : cmpD .ne d d = some false := by
  show (eqD d d).map (!·) = _
  rw [h]; rfl
/-! the law's body -/
abbrev C0 : Calls := callF T 199
abbrev en (ns : List Int) (d : Da) (t : Da) (c3 c5 c6 c7 c8 c9 c10 c11 c12 c13 c14 c15 c16 c17 : Sl) : PI.Env := [.scr ns, .own 0 d, .val t, c3, .un, c5, c6, c7, c8, c9, c10, c11, c12, c13, c14, c15, c16, c17, .un, .un, .un]
theorem l0 (ns : List Int) (h : ns.length ≤ 63) : ∃ d, isDraw d ∧ (sv T C0 s_law_0).s (.scr ns :: List.replicate 20 .un) = .ok (.nx, .scr ns :: .own 0 d :: List.replicate 19 .un) := by
  obtain ⟨d, hd, e⟩ := draw_ok 198 ns h
  refine ⟨d, hd, ?_⟩
  obtain ⟨cs, a, l, s, rfl, ha⟩ := hd
  have hfr : PI.fresh T (.call n__law_draw (.cons (.io 0) .nil)) = true := rfl
  have e' : C0 n__law_draw [.scr ns] = _ := e
  generalize C0 = c at *
  generalize cs.map PyData.int = xs at *
  simp [ss, sq, ee, ee2, el, et, rs, vv, vm, vt, vc, vi, vp, va, e0, evVar, evBor, evMv, two, rr, L2.ixN, bnA, bnS, bnM, bnQ, bnF, bnR, mulOk_l, mulOk_r, addI, ix3_0, ix3_1, ix3_2, ix2_0, ix2_1, il2_0, il2_1, il3_0, il3_1, il3_2, il4_0, il4_1, il4_2, il4_3, il5_0, il5_1, il5_2, il5_3, il5_4, il6_0, il6_1, il6_2, il6_3, il6_4, il6_5, il7_0, il7_1, il7_2, il7_3, il7_4, il7_5, il7_6, il8_0, il8_1, il8_2, il8_3, il8_4, il8_5, il8_6, il8_7, il9_0, il9_1, il9_2, il9_3, il9_4, il9_5, il9_6, il9_7, il9_8, sl3_to0, sl3_to1, sl3_to2, sl3_to_1, sl3_from1, sl3_from2, sl3_from3, b1D, b2D, setB, setv, putI, ownB, ownL, cmpD, eqD, scalEq, truB, truD, itl, itt, finR, finSl, callV, resolve, ownArgs, nodupN, putBack, hasV, eachB, tgn, tgt, tgl, tsn, tsc, isTyOk, isTy, lcStep, wipeE, evLc, plainAt, lockOf, lock, unlk, unlock, restE, isC, isNoneD, sizeLine_eq, setO, isLst, hfr, e']
theorem l1 (ns : List Int) (d : Da) (hd : isDraw d) : ∃ d' t, isDraw d' ∧ Tr.size t ≤ 10 ∧ t.okK ∧ (sv T C0 s_law_1).s (.scr ns :: .own 0 d :: List.replicate 19 .un) = .ok (.nx, en ns d' t.da .un .un .un .un .un .un .un .un .un .un .un .un .un .un) := by
  obtain ⟨d', t, hd', hs, hk, e⟩ := law_tree_ok 198 hd (n := 10) (by omega) (by omega)
  refine ⟨d', t, hd', hs, hk, ?_⟩
  have e' : C0 n__law_tree [.own 1 d, .val (.int 10)] = _ := e
  generalize t.da = z at *
  generalize C0 = c at *
  simp [ss, sq, ee, ee2, el, et, rs, vv, vm, vt, vc, vi, vp, va, e0, evVar, evBor, evMv, two, rr, L2.ixN, bnA, bnS, bnM, bnQ, bnF, bnR, mulOk_l, mulOk_r, addI, ix3_0, ix3_1, ix3_2, ix2_0, ix2_1, il2_0, il2_1, il3_0, il3_1, il3_2, il4_0, il4_1, il4_2, il4_3, il5_0, il5_1, il5_2, il5_3, il5_4, il6_0, il6_1, il6_2, il6_3, il6_4, il6_5, il7_0, il7_1, il7_2, il7_3, il7_4, il7_5, il7_6, il8_0, il8_1, il8_2, il8_3, il8_4, il8_5, il8_6, il8_7, il9_0, il9_1, il9_2, il9_3, il9_4, il9_5, il9_6, il9_7, il9_8, sl3_to0, sl3_to1, sl3_to2, sl3_to_1, sl3_from1, sl3_from2, sl3_from3, b1D, b2D, setB, setv, putI, ownB, ownL, cmpD, eqD, scalEq, truB, truD, itl, itt, finR, finSl, callV, resolve, ownArgs, nodupN, putBack, hasV, eachB, tgn, tgt, tgl, tsn, tsc, isTyOk, isTy, lcStep, wipeE, evLc, plainAt, lockOf, lock, unlk, unlock, restE, isC, isNoneD, sizeLine_eq, e']
section
variable (ns : List Int) (t : Tr) (h : t.okK) (hs : t.size ≤ 10)
include h hs
abbrev wsL (t : Tr) : Sl := .val (.list ((sortBy ltW t.ways).map wd))
theorem l2 (d : Da) : (sv T C0 s_law_2).s (en ns d t.da .un .un .un .un .un .un .un .un .un .un .un .un .un .un) = .ok (.nx, en ns d t.da (wsL t) .un .un .un .un .un .un .un .un .un .un .un .un .un) := by
  have h1 : C0 n__law_ways [.val t.da] = _ := law_ways_ok t 198 (by have := t.height_le; omega) (by omega)
  have hh := t.height_le
  have p1 := lcLoop_tmap (step := lcStep [5] (.nm 5) (ev T C0 .nil).c (ev T C0 le_law_1).e) (env := en ns d t.da .un .un .un .un .un .un .un .un .un .un .un .un .un .un) wd prW t.ways (fun w hw => by
    have hl := wstr_len w
    have hz : w.length ≤ 16777216 := by have := t.way_short w hw; omega
    simp [ss, sq, ee, ee2, el, et, rs, vv, vm, vt, vc, vi, vp, va, e0, evVar, evBor, evMv, two, rr, L2.ixN, bnA, bnS, bnM, bnQ, bnF, bnR, mulOk_l, mulOk_r, addI, ix3_0, ix3_1, ix3_2, ix2_0, ix2_1, il2_0, il2_1, il3_0, il3_1, il3_2, il4_0, il4_1, il4_2, il4_3, il5_0, il5_1, il5_2, il5_3, il5_4, il6_0, il6_1, il6_2, il6_3, il6_4, il6_5, il7_0, il7_1, il7_2, il7_3, il7_4, il7_5, il7_6, il8_0, il8_1, il8_2, il8_3, il8_4, il8_5, il8_6, il8_7, il9_0, il9_1, il9_2, il9_3, il9_4, il9_5, il9_6, il9_7, il9_8, sl3_to0, sl3_to1, sl3_to2, sl3_to_1, sl3_from1, sl3_from2, sl3_from3, b1D, b2D, setB, setv, putI, ownB, ownL, cmpD, eqD, scalEq, truB, truD, itl, itt, finR, finSl, callV, resolve, ownArgs, nodupN, putBack, hasV, eachB, tgn, tgt, tgl, tsn, tsc, isTyOk, isTy, lcStep, wipeE, evLc, plainAt, lockOf, lock, unlk, unlock, restE, isC, isNoneD, sizeLine_eq, hl, hz])
  obtain ⟨s1, s2⟩ := sort_prW t.ways
  have p2 := lcLoop_tmap (step := lcStep [4, 5] (.tup (.cons (.nm 4) (.cons (.nm 5) .nil))) (ev T C0 .nil).c (ev T C0 le_law_0).e) (env := en ns d t.da .un .un .un .un .un .un .un .un .un .un .un .un .un .un) prW wd (sortBy ltW t.ways) (fun w hw => by
    simp [ss, sq, ee, ee2, el, et, rs, vv, vm, vt, vc, vi, vp, va, e0, evVar, evBor, evMv, two, rr, L2.ixN, bnA, bnS, bnM, bnQ, bnF, bnR, mulOk_l, mulOk_r, addI, ix3_0, ix3_1, ix3_2, ix2_0, ix2_1, il2_0, il2_1, il3_0, il3_1, il3_2, il4_0, il4_1, il4_2, il4_3, il5_0, il5_1, il5_2, il5_3, il5_4, il6_0, il6_1, il6_2, il6_3, il6_4, il6_5, il7_0, il7_1, il7_2, il7_3, il7_4, il7_5, il7_6, il8_0, il8_1, il8_2, il8_3, il8_4, il8_5, il8_6, il8_7, il9_0, il9_1, il9_2, il9_3, il9_4, il9_5, il9_6, il9_7, il9_8, sl3_to0, sl3_to1, sl3_to2, sl3_to_1, sl3_from1, sl3_from2, sl3_from3, b1D, b2D, setB, setv, putI, ownB, ownL, cmpD, eqD, scalEq, truB, truD, itl, itt, finR, finSl, callV, resolve, ownArgs, nodupN, putBack, hasV, eachB, tgn, tgt, tgl, tsn, tsc, isTyOk, isTy, lcStep, wipeE, evLc, plainAt, lockOf, lock, unlk, unlock, restE, isC, isNoneD, sizeLine_eq])
  have n1 : (t.ways.map wd).length ≤ 16777216 := by rw [List.length_map, t.ways_len]; omega
  have n2 : ((sortBy ltW t.ways).map prW).length ≤ 16777216 := by rw [List.length_map, len_sortBy, t.ways_len]; omega
  rw [← s2] at p2 n2
  unfold wsL
  generalize t.ways.map wd = a1 at *
  generalize (sortBy ltW t.ways).map wd = a2 at *
  generalize t.ways.map prW = a3 at *
  generalize t.da = z at *
  generalize C0 = c at *
  simp [ss, sq, ee, ee2, el, et, rs, vv, vm, vt, vc, vi, vp, va, e0, evVar, evBor, evMv, two, rr, L2.ixN, bnA, bnS, bnM, bnQ, bnF, bnR, mulOk_l, mulOk_r, addI, ix3_0, ix3_1, ix3_2, ix2_0, ix2_1, il2_0, il2_1, il3_0, il3_1, il3_2, il4_0, il4_1, il4_2, il4_3, il5_0, il5_1, il5_2, il5_3, il5_4, il6_0, il6_1, il6_2, il6_3, il6_4, il6_5, il7_0, il7_1, il7_2, il7_3, il7_4, il7_5, il7_6, il8_0, il8_1, il8_2, il8_3, il8_4, il8_5, il8_6, il8_7, il9_0, il9_1, il9_2, il9_3, il9_4, il9_5, il9_6, il9_7, il9_8, sl3_to0, sl3_to1, sl3_to2, sl3_to_1, sl3_from1, sl3_from2, sl3_from3, b1D, b2D, setB, setv, putI, ownB, ownL, cmpD, eqD, scalEq, truB, truD, itl, itt, finR, finSl, callV, resolve, ownArgs, nodupN, putBack, hasV, eachB, tgn, tgt, tgl, tsn, tsc, isTyOk, isTy, lcStep, wipeE, evLc, plainAt, lockOf, lock, unlk, unlock, restE, isC, isNoneD, sizeLine_eq, h1, p1, p2, n1, n2, s1]
theorem l3 (d : Da) : (sv T C0 s_law_3).s (en ns d t.da (wsL t) .un .un .un .un .un .un .un .un .un .un .un .un .un) = .ok (.nx, en ns d t.da (wsL t) .un .un .un .un .un .un .un .un .un .un .un .un .un) := by
  have h1 : C0 n_turns [.val t.da] = _ := turns_ok 198 t h (by omega) (by omega) (by omega)
  have p1 := lcLoop_tfil (step := lcStep [5] (.nm 5) (ev T C0 lc_law_2).c (ev T C0 le_law_2).e) (env := en ns d t.da (wsL t) .un .un .un .un .un .un .un .un .un .un .un .un .un) wd wd (fun w => !w.isEmpty) (sortBy ltW t.ways) (fun w hw => by
    have h2 := eq_nil_wd w
    generalize w.isEmpty = b at *
    generalize wd w = W at *
    generalize wsL t = q at *
    generalize t.da = z at *
    generalize C0 = c at *
    cases b <;> simp [ss, sq, ee, ee2, el, et, rs, vv, vm, vt, vc, vi, vp, va, e0, evVar, evBor, evMv, two, rr, L2.ixN, bnA, bnS, bnM, bnQ, bnF, bnR, mulOk_l, mulOk_r, addI, ix3_0, ix3_1, ix3_2, ix2_0, ix2_1, il2_0, il2_1, il3_0, il3_1, il3_2, il4_0, il4_1, il4_2, il4_3, il5_0, il5_1, il5_2, il5_3, il5_4, il6_0, il6_1, il6_2, il6_3, il6_4, il6_5, il7_0, il7_1, il7_2, il7_3, il7_4, il7_5, il7_6, il8_0, il8_1, il8_2, il8_3, il8_4, il8_5, il8_6, il8_7, il9_0, il9_1, il9_2, il9_3, il9_4, il9_5, il9_6, il9_7, il9_8, sl3_to0, sl3_to1, sl3_to2, sl3_to_1, sl3_from1, sl3_from2, sl3_from3, b1D, b2D, setB, setv, putI, ownB, ownL, cmpD, truB, truD, itl, itt, finR, finSl, callV, resolve, ownArgs, nodupN, putBack, hasV, eachB, tgn, tgt, tgl, tsn, tsc, isTyOk, isTy, lcStep, wipeE, evLc, plainAt, lockOf, lock, unlk, unlock, restE, isC, isNoneD, sizeLine_eq, h2])
  have n1 : ((sortBy ltW t.ways).map wd).length ≤ 16777216 := by rw [List.length_map, len_sortBy, t.ways_len]; omega
  have hq := eqD_self (fine_ways' (downs t))
  have e : ((sortBy ltW t.ways).filter fun w => !w.isEmpty) = downs t := rfl
  rw [e] at p1
  unfold wsL at *
  generalize (downs t).map wd = a1 at *
  generalize (sortBy ltW t.ways).map wd = a2 at *
  generalize t.da = z at *
  generalize C0 = c at *
  have x1 : (ev T c (.call n_turns (.cons (.var 2) .nil))).e (en ns d z (.val (.list a2)) .un .un .un .un .un .un .un .un .un .un .un .un .un) = .ok (.tuple a1, en ns d z (.val (.list a2)) .un .un .un .un .un .un .un .un .un .un .un .un .un) := by simp [ss, sq, ee, ee2, el, et, rs, vv, vm, vt, vc, vi, vp, va, e0, evVar, evBor, evMv, two, rr, L2.ixN, bnA, bnS, bnM, bnQ, bnF, bnR, mulOk_l, mulOk_r, addI, ix3_0, ix3_1, ix3_2, ix2_0, ix2_1, il2_0, il2_1, il3_0, il3_1, il3_2, il4_0, il4_1, il4_2, il4_3, il5_0, il5_1, il5_2, il5_3, il5_4, il6_0, il6_1, il6_2, il6_3, il6_4, il6_5, il7_0, il7_1, il7_2, il7_3, il7_4, il7_5, il7_6, il8_0, il8_1, il8_2, il8_3, il8_4, il8_5, il8_6, il8_7, il9_0, il9_1, il9_2, il9_3, il9_4, il9_5, il9_6, il9_7, il9_8, sl3_to0, sl3_to1, sl3_to2, sl3_to_1, sl3_from1, sl3_from2, sl3_from3, b1D, b2D, setB, setv, putI, ownB, ownL, cmpD, eqD, scalEq, truB, truD, itl, itt, finR, finSl, callV, resolve, ownArgs, nodupN, putBack, hasV, eachB, tgn, tgt, tgl, tsn, tsc, isTyOk, isTy, lcStep, wipeE, evLc, plainAt, lockOf, lock, unlk, unlock, restE, isC, isNoneD, sizeLine_eq, h1]
  have x2 : (ev T c (.b1 .tuple l_law_2)).e (en ns d z (.val (.list a2)) .un .un .un .un .un .un .un .un .un .un .un .un .un) = .ok (.tuple a1, en ns d z (.val (.list a2)) .un .un .un .un .un .un .un .un .un .un .un .un .un) := by simp [ss, sq, ee, ee2, el, et, rs, vv, vm, vt, vc, vi, vp, va, e0, evVar, evBor, evMv, two, rr, L2.ixN, bnA, bnS, bnM, bnQ, bnF, bnR, mulOk_l, mulOk_r, addI, ix3_0, ix3_1, ix3_2, ix2_0, ix2_1, il2_0, il2_1, il3_0, il3_1, il3_2, il4_0, il4_1, il4_2, il4_3, il5_0, il5_1, il5_2, il5_3, il5_4, il6_0, il6_1, il6_2, il6_3, il6_4, il6_5, il7_0, il7_1, il7_2, il7_3, il7_4, il7_5, il7_6, il8_0, il8_1, il8_2, il8_3, il8_4, il8_5, il8_6, il8_7, il9_0, il9_1, il9_2, il9_3, il9_4, il9_5, il9_6, il9_7, il9_8, sl3_to0, sl3_to1, sl3_to2, sl3_to_1, sl3_from1, sl3_from2, sl3_from3, b1D, b2D, setB, setv, putI, ownB, ownL, cmpD, eqD, scalEq, truB, truD, itl, itt, finR, finSl, callV, resolve, ownArgs, nodupN, putBack, hasV, eachB, tgn, tgt, tgl, tsn, tsc, isTyOk, isTy, lcStep, wipeE, evLc, plainAt, lockOf, lock, unlk, unlock, restE, isC, isNoneD, sizeLine_eq, n1, p1]
  exact if_f (cmp_t x1 x2 rfl (r := false) (ne_self hq))
omit h hs in
theorem l5 (d z : Da) (q : Sl) : (sv T C0 s_law_5).s (en ns d z q .un .un .un .un .un .un .un .un .un .un .un .un .un) = .ok (.nx, en ns d z q .un (.own 0 (.list [])) (.val z) (.own 0 (.list [z])) .un .un .un .un .un .un .un .un .un) := by
  generalize C0 = c at *
  have hp : parOk T [(6, true), (7, false), (8, true)] (.cons (.lst .nil) (.cons (.var 2) (.cons (.lst (.cons (.var 2) .nil)) .nil))) = true := rfl
  simp [ss, sq, ee, ee2, el, et, rs, vv, vm, vt, vc, vi, vp, va, e0, evVar, evBor, evMv, two, rr, L2.ixN, bnA, bnS, bnM, bnQ, bnF, bnR, mulOk_l, mulOk_r, addI, ix3_0, ix3_1, ix3_2, ix2_0, ix2_1, il2_0, il2_1, il3_0, il3_1, il3_2, il4_0, il4_1, il4_2, il4_3, il5_0, il5_1, il5_2, il5_3, il5_4, il6_0, il6_1, il6_2, il6_3, il6_4, il6_5, il7_0, il7_1, il7_2, il7_3, il7_4, il7_5, il7_6, il8_0, il8_1, il8_2, il8_3, il8_4, il8_5, il8_6, il8_7, il9_0, il9_1, il9_2, il9_3, il9_4, il9_5, il9_6, il9_7, il9_8, sl3_to0, sl3_to1, sl3_to2, sl3_to_1, sl3_from1, sl3_from2, sl3_from3, b1D, b2D, setB, setv, putI, ownB, ownL, cmpD, eqD, scalEq, truB, truD, itl, itt, finR, finSl, callV, resolve, ownArgs, nodupN, putBack, hasV, eachB, tgn, tgt, tgl, tsn, tsc, isTyOk, isTy, lcStep, wipeE, evLc, plainAt, lockOf, lock, unlk, unlock, restE, isC, isNoneD, sizeLine_eq, hp, parSet, setO, isLst]
/-- one round of turns -/
abbrev eb (ns : List Int) (t : Tr) (d : Da) (ws : List (List Bool)) (c5 c9 c10 c11 : Sl) : PI.Env := en ns d t.da (wsL t) c5 (.own 0 (.list (ws.map wd))) (.val (endT t ws).da) (.own 0 (.list ((Tr.follow t ws).map Tr.da))) c9 c10 c11 .un .un .un .un .un .un
omit h hs in
theorem at_nth (xs : List (List Bool)) {r : Int} (h0 : 0 ≤ r) (h1 : r < (xs.length : Int)) : ∃ w, w ∈ xs ∧ idxD (.list (xs.map wd)) (.int r) = some (wd w) := by
  have h2 : r.toNat < xs.length := by omega
  refine ⟨xs[r.toNat], List.getElem_mem _, ?_⟩
  show atD (xs.map wd) r = _
  unfold atD L2.atI L2.ixN
  rw [if_pos h0, if_pos (by rw [List.length_map]; exact h1)]
  simp [List.getElem?_map, List.getElem?_eq_getElem h2]
theorem l6b {d : Da} (hd : isDraw d) (ws : List (List Bool)) (hl : ws.length ≤ 50) (hw : ∀ w ∈ ws, w.length ≤ 50) (hg : Tr.goesB t ws = true) (c5 c9 c10 c11 : Sl) (h5 : plainSl c5) (h9 : plainSl c9) (h10 : plainSl c10) (h11 : plainSl c11) (i : Int) :
    ∃ d' ws' c5' c10' c11', isDraw d' ∧ ws'.length ≤ ws.length + 1 ∧ (∀ w ∈ ws', w.length ≤ 50) ∧ Tr.goesB t ws' = true ∧ plainSl c5' ∧ plainSl c10' ∧ plainSl c11' ∧
      eachB (sv T C0 b_law_0).s (.nm 9) (.int i) (eb ns t d ws c5 c9 c10 c11) = .ok (.nx, eb ns t d' ws' c5' (.val (.int i)) c10' c11') := by
  have hz : (endT t ws).size ≤ 10 := by rw [endT_size]; exact hs
  have hok := endT_ok ws t h
  have hfo := follow_snoc ws t
  have hgo := goes_snoc ws t
  have hfl : (Tr.follow t ws).length < 900 := by
    have : ∀ (ws : List (List Bool)) (t : Tr), (Tr.follow t ws).length = ws.length + 1 := fun ws => by
      induction ws with
      | nil => intro t; rfl
      | cons w ws ih => intro t; simp only [Tr.follow, List.length_cons, ih]
    rw [this]; omega
  unfold eb
  generalize hzz : endT t ws = z at *
  have hh := z.height_le
  have a1 : C0 n__law_ways [.val z.da] = _ := law_ways_ok z 198 (by omega) (by omega)
  have e0 : eachB (sv T C0 b_law_0).s (.nm 9) (.int i) (en ns d t.da (wsL t) c5 (.own 0 (.list (ws.map wd))) (.val z.da) (.own 0 (.list ((Tr.follow t ws).map Tr.da))) c9 c10 c11 .un .un .un .un .un .un) = (sv T C0 b_law_0).s (en ns d t.da (wsL t) c5 (.own 0 (.list (ws.map wd))) (.val z.da) (.own 0 (.list ((Tr.follow t ws).map Tr.da))) (.val (.int i)) c10 c11 .un .un .un .un .un .un) := by
    rcases h9 with rfl | ⟨q, rfl⟩ <;> rfl
  rw [e0]
  clear e0
  obtain ⟨fr, hfr⟩ : ∃ fr, fr = z.ways.filter fun w => !w.isEmpty := ⟨_, rfl⟩
  have e1 : ∀ (A B : Sl), (sv T C0 s_law_7).s (en ns d t.da (wsL t) c5 A (.val z.da) B (.val (.int i)) c10 c11 .un .un .un .un .un .un) = .ok (.nx, en ns d t.da (wsL t) c5 A (.val z.da) B (.val (.int i)) (.val (.list (fr.map wd))) c11 .un .un .un .un .un .un) := by
    intro A B
    have p1 := lcLoop_tfil (step := lcStep [5] (.nm 5) (ev T C0 lc_law_3).c (ev T C0 le_law_3).e) (env := en ns d t.da (wsL t) .un A (.val z.da) B (.val (.int i)) c10 c11 .un .un .un .un .un .un) wd wd (fun w => !w.isEmpty) z.ways (fun w hw => by
      have h2 := eq_nil_wd w
      generalize w.isEmpty = b at *
      generalize wd w = W at *
      generalize wsL t = q at *
      generalize z.da = zd at *
      generalize t.da = td at *
      generalize C0 = c at *
      cases b <;> simp [ss, sq, ee, ee2, el, et, rs, vv, vm, vt, vc, vi, vp, va, e0, evVar, evBor, evMv, two, rr, L2.ixN, bnA, bnS, bnM, bnQ, bnF, bnR, mulOk_l, mulOk_r, addI, ix3_0, ix3_1, ix3_2, ix2_0, ix2_1, il2_0, il2_1, il3_0, il3_1, il3_2, il4_0, il4_1, il4_2, il4_3, il5_0, il5_1, il5_2, il5_3, il5_4, il6_0, il6_1, il6_2, il6_3, il6_4, il6_5, il7_0, il7_1, il7_2, il7_3, il7_4, il7_5, il7_6, il8_0, il8_1, il8_2, il8_3, il8_4, il8_5, il8_6, il8_7, il9_0, il9_1, il9_2, il9_3, il9_4, il9_5, il9_6, il9_7, il9_8, sl3_to0, sl3_to1, sl3_to2, sl3_to_1, sl3_from1, sl3_from2, sl3_from3, b1D, b2D, setB, setv, putI, ownB, ownL, cmpD, truB, truD, itl, itt, finR, finSl, callV, resolve, ownArgs, nodupN, putBack, hasV, eachB, tgn, tgt, tgl, tsn, tsc, isTyOk, isTy, lcStep, wipeE, evLc, plainAt, lockOf, lock, unlk, unlock, restE, isC, isNoneD, sizeLine_eq, h2])
    have n1 : (z.ways.map wd).length ≤ 16777216 := by rw [List.length_map, z.ways_len]; omega
    rw [← hfr] at p1
    generalize fr.map wd = fw at *
    generalize z.ways.map wd = zw at *
    generalize wsL t = q at *
    generalize z.da = zd at *
    generalize t.da = td at *
    generalize C0 = c at *
    rcases h10 with rfl | ⟨q10, rfl⟩ <;> rcases h5 with rfl | ⟨q5, rfl⟩ <;> simp [ss, sq, ee, ee2, el, et, rs, vv, vm, vt, vc, vi, vp, va, e0, evVar, evBor, evMv, two, rr, L2.ixN, bnA, bnS, bnM, bnQ, bnF, bnR, mulOk_l, mulOk_r, addI, ix3_0, ix3_1, ix3_2, ix2_0, ix2_1, il2_0, il2_1, il3_0, il3_1, il3_2, il4_0, il4_1, il4_2, il4_3, il5_0, il5_1, il5_2, il5_3, il5_4, il6_0, il6_1, il6_2, il6_3, il6_4, il6_5, il7_0, il7_1, il7_2, il7_3, il7_4, il7_5, il7_6, il8_0, il8_1, il8_2, il8_3, il8_4, il8_5, il8_6, il8_7, il9_0, il9_1, il9_2, il9_3, il9_4, il9_5, il9_6, il9_7, il9_8, sl3_to0, sl3_to1, sl3_to2, sl3_to_1, sl3_from1, sl3_from2, sl3_from3, b1D, b2D, setB, setv, putI, ownB, ownL, cmpD, eqD, scalEq, truB, truD, itl, itt, finR, finSl, callV, resolve, ownArgs, nodupN, putBack, hasV, eachB, tgn, tgt, tgl, tsn, tsc, isTyOk, isTy, lcStep, wipeE, evLc, plainAt, lockOf, lock, unlk, unlock, restE, isC, isNoneD, sizeLine_eq, a1, n1, p1]
  have e2 : ∀ (A B : Sl), (ev T C0 (.cmp .ne (.var 10) (.lst .nil))).t (en ns d t.da (wsL t) c5 A (.val z.da) B (.val (.int i)) (.val (.list (fr.map wd))) c11 .un .un .un .un .un .un) = .ok (!fr.isEmpty, en ns d t.da (wsL t) c5 A (.val z.da) B (.val (.int i)) (.val (.list (fr.map wd))) c11 .un .un .un .un .un .un) := by
    intro A B
    refine cmp_t rfl rfl rfl ?_
    show (eqD (.list (fr.map wd)) (.list [])).map (!·) = _
    rw [eqD_nil (fine_waysL fr)]
    cases fr <;> rfl
  show ∃ d' ws' c5' c10' c11', _ ∧ _ ∧ _ ∧ _ ∧ _ ∧ _ ∧ _ ∧ (sv T C0 (.seq s_law_7 (.seq s_law_8 .skip))).s _ = _
  by_cases hfe : fr = []
  · refine ⟨d, ws, c5, .val (.list []), c11, hd, by omega, hw, hg, h5, .inr ⟨_, rfl⟩, h11, ?_⟩
    rw [seq_nx (e1 _ _)]
    have e3 := e2 (.own 0 (.list (ws.map wd))) (.own 0 (.list ((Tr.follow t ws).map Tr.da)))
    rw [hfe] at e3 ⊢
    have e4 : (sv T C0 s_law_8).s _ = _ := if_f e3
    rw [seq_nx (e4.trans rfl), hzz]
    rfl
  · have hpos : 0 < fr.length := List.length_pos_iff.mpr hfe
    have hlen : fr.length ≤ 10 := by
      rw [hfr]
      have := List.length_filter_le (fun w : List Bool => !w.isEmpty) z.ways
      rw [z.ways_len] at this
      omega
    obtain ⟨d', r, hd', r0, r1, ht⟩ := take_ok 198 hd (n := (fr.length : Int)) (by omega) (by omega)
    obtain ⟨w, hwm, hix⟩ := at_nth fr r0 r1
    have hw2 : w ∈ z.ways ∧ w ≠ [] := by
      rw [hfr, List.mem_filter] at hwm
      refine ⟨hwm.1, fun q => ?_⟩
      rw [q] at hwm; simp at hwm
    have hat : z.at_ w ≠ .nil := (Tr.way_iff z w).mp hw2.1
    have hwl : w.length ≤ 50 := by have := z.way_short w hw2.1; omega
    obtain ⟨f1, f2⟩ := hfo w
    have hb : turnB z w = true := turnB_iff.mpr ⟨hat, hw2.2⟩
    obtain ⟨k1, k2⟩ := Tr.rot_back hw2.2 hat
    have hzr : (z.rot w).size ≤ 10 := by rw [Tr.size_rot]; exact hz
    have hokr := Tr.okK_rot hok w
    have hbl : (Tr.back w).length ≤ 50 := by unfold Tr.back; simp; omega
    have hbne : Tr.back w ≠ [] := by unfold Tr.back; simp
    have hb2 : turnB (z.rot w) (Tr.back w) = true := turnB_iff.mpr ⟨k2, hbne⟩
    have ht' : C0 n__law_take [.own 1 d, .val (.int fr.length)] = _ := ht
    have t1 : C0 n__law_turn [.val z.da, .val (wd w)] = _ := law_turn_ok 198 z w hw2.2 hwl (by omega) hat
    have t2 : C0 n_turn [.val z.da, .val (wd w)] = _ := turn_ok 198 z hok (by omega) w hwl (by omega) hb
    have t3 : C0 n_undoing [.val z.da, .val (wd w)] = _ := undoing_ok 192 z hok (by omega) w hwl hb
    have t4 : C0 n_turn [.val (z.rot w).da, .val (wd (Tr.back w))] = _ := turn_ok 198 (z.rot w) hokr (by omega) (Tr.back w) hbl (by omega) hb2
    rw [k1] at t4
    have hhr := (z.rot w).height_le
    have t5 : C0 n__law_keys [.val z.da] = _ := law_keys_ok z 198 (by omega) (by omega)
    have t6 : C0 n__law_keys [.val (z.rot w).da] = _ := law_keys_ok (z.rot w) 198 (by omega) (by omega)
    rw [Tr.keys_rot] at t6
    have t7 : C0 n__law_spine [.val z.da] = _ := law_spine_ok z 198 (by omega)
    have t8 : C0 n__law_spine [.val (z.rot w).da] = _ := law_spine_ok (z.rot w) 198 (by omega)
    have hsp := Tr.spine_rot z w
    have q1 : eqD (z.rot w).da (z.rot w).da = some true := Tr.eqD_da (by omega)
    have q2 : eqD z.da z.da = some true := Tr.eqD_da (by omega)
    have q3 := eqD_self (fine_intsL z.keys)
    refine ⟨d', ws ++ [w], .val (wd w), .val (.list (fr.map wd)), .val (z.rot w).da, hd', by simp, fun v hv => ?_, hgo w hg hw2.2 hat, .inr ⟨_, rfl⟩, .inr ⟨_, rfl⟩, .inr ⟨_, rfl⟩, ?_⟩
    · rcases List.mem_append.mp hv with hv | hv
      · exact hw v hv
      · rw [List.mem_singleton.mp hv]; exact hwl
    rw [seq_nx (e1 _ _)]
    have e3 := e2 (.own 0 (.list (ws.map wd))) (.own 0 (.list ((Tr.follow t ws).map Tr.da)))
    have hfe2 : fr.isEmpty = false := by cases fr with | nil => exact absurd rfl hfe | cons _ _ => rfl
    rw [hfe2] at e3
    have m1 := app_one (ws.map wd) (wd w) (by rw [List.length_map]; omega)
    have m2 := app_one ((Tr.follow t ws).map Tr.da) (z.rot w).da (by rw [List.length_map]; omega)
    have g1 : (ws ++ [w]).map wd = ws.map wd ++ [wd w] := by rw [List.map_append]; rfl
    have g2 : (Tr.follow t (ws ++ [w])).map Tr.da = (Tr.follow t ws).map Tr.da ++ [(z.rot w).da] := by rw [f1, List.map_append]; rfl
    rw [g1, g2, f2]
    have n2 : (fr.map wd).length = fr.length := List.length_map ..
    have hpl : ∀ (A : Sl), plainSl A → True := fun _ _ => trivial
    clear e1 e2 hgo hfo f1 f2 g1 g2 hfr a1 hw hg hwm
    generalize (z.rot w).spine = sp1 at *
    generalize z.spine = sp2 at *
    generalize z.keys.map PyData.int = ks at *
    generalize (z.rot w).da = y at *
    generalize z.da = zd at *
    generalize ws.map wd = W1 at *
    generalize (Tr.follow t ws).map Tr.da = W2 at *
    generalize fr.map wd = fw at *
    generalize wd w = W at *
    generalize wd (Tr.back w) = WB at *
    generalize wsL t = qq at *
    generalize t.da = td at *
    generalize C0 = c at *
    have s9 : (sv T c s_law_9).s (en ns d td qq c5 (.own 0 (.list W1)) (.val zd) (.own 0 (.list W2)) (.val (.int i)) (.val (.list fw)) c11 .un .un .un .un .un .un) = .ok (.nx, en ns d' td qq (.val W) (.own 0 (.list W1)) (.val zd) (.own 0 (.list W2)) (.val (.int i)) (.val (.list fw)) c11 .un .un .un .un .un .un) := by
      rcases h5 with rfl | ⟨q5, rfl⟩ <;> simp [ss, sq, ee, ee2, el, et, rs, vv, vm, vt, vc, vi, vp, va, e0, evVar, evBor, evMv, two, rr, L2.ixN, bnA, bnS, bnM, bnQ, bnF, bnR, mulOk_l, mulOk_r, addI, ix3_0, ix3_1, ix3_2, ix2_0, ix2_1, il2_0, il2_1, il3_0, il3_1, il3_2, il4_0, il4_1, il4_2, il4_3, il5_0, il5_1, il5_2, il5_3, il5_4, il6_0, il6_1, il6_2, il6_3, il6_4, il6_5, il7_0, il7_1, il7_2, il7_3, il7_4, il7_5, il7_6, il8_0, il8_1, il8_2, il8_3, il8_4, il8_5, il8_6, il8_7, il9_0, il9_1, il9_2, il9_3, il9_4, il9_5, il9_6, il9_7, il9_8, sl3_to0, sl3_to1, sl3_to2, sl3_to_1, sl3_from1, sl3_from2, sl3_from3, b1D, b2D, setB, setv, putI, ownB, ownL, cmpD, eqD, scalEq, truB, truD, itl, itt, finR, finSl, callV, resolve, ownArgs, nodupN, putBack, hasV, eachB, tgn, tgt, tgl, tsn, tsc, isTyOk, isTy, lcStep, wipeE, evLc, plainAt, lockOf, lock, unlk, unlock, restE, isC, isNoneD, sizeLine_eq, ht', hix, n2]
    have s10 : (sv T c s_law_10).s (en ns d' td qq (.val W) (.own 0 (.list W1)) (.val zd) (.own 0 (.list W2)) (.val (.int i)) (.val (.list fw)) c11 .un .un .un .un .un .un) = .ok (.nx, en ns d' td qq (.val W) (.own 0 (.list W1)) (.val zd) (.own 0 (.list W2)) (.val (.int i)) (.val (.list fw)) (.val y) .un .un .un .un .un .un) := by
      rcases h11 with rfl | ⟨q5, rfl⟩ <;> simp [ss, sq, ee, ee2, el, et, rs, vv, vm, vt, vc, vi, vp, va, e0, evVar, evBor, evMv, two, rr, L2.ixN, bnA, bnS, bnM, bnQ, bnF, bnR, mulOk_l, mulOk_r, addI, ix3_0, ix3_1, ix3_2, ix2_0, ix2_1, il2_0, il2_1, il3_0, il3_1, il3_2, il4_0, il4_1, il4_2, il4_3, il5_0, il5_1, il5_2, il5_3, il5_4, il6_0, il6_1, il6_2, il6_3, il6_4, il6_5, il7_0, il7_1, il7_2, il7_3, il7_4, il7_5, il7_6, il8_0, il8_1, il8_2, il8_3, il8_4, il8_5, il8_6, il8_7, il9_0, il9_1, il9_2, il9_3, il9_4, il9_5, il9_6, il9_7, il9_8, sl3_to0, sl3_to1, sl3_to2, sl3_to_1, sl3_from1, sl3_from2, sl3_from3, b1D, b2D, setB, setv, putI, ownB, ownL, cmpD, eqD, scalEq, truB, truD, itl, itt, finR, finSl, callV, resolve, ownArgs, nodupN, putBack, hasV, eachB, tgn, tgt, tgl, tsn, tsc, isTyOk, isTy, lcStep, wipeE, evLc, plainAt, lockOf, lock, unlk, unlock, restE, isC, isNoneD, sizeLine_eq, t1]
    have s11 : (sv T c s_law_11).s (en ns d' td qq (.val W) (.own 0 (.list W1)) (.val zd) (.own 0 (.list W2)) (.val (.int i)) (.val (.list fw)) (.val y) .un .un .un .un .un .un) = .ok (.nx, en ns d' td qq (.val W) (.own 0 (.list W1)) (.val zd) (.own 0 (.list W2)) (.val (.int i)) (.val (.list fw)) (.val y) .un .un .un .un .un .un) := by
      simp [ss, sq, ee, ee2, el, et, rs, vv, vm, vt, vc, vi, vp, va, e0, evVar, evBor, evMv, two, rr, L2.ixN, bnA, bnS, bnM, bnQ, bnF, bnR, mulOk_l, mulOk_r, addI, ix3_0, ix3_1, ix3_2, ix2_0, ix2_1, il2_0, il2_1, il3_0, il3_1, il3_2, il4_0, il4_1, il4_2, il4_3, il5_0, il5_1, il5_2, il5_3, il5_4, il6_0, il6_1, il6_2, il6_3, il6_4, il6_5, il7_0, il7_1, il7_2, il7_3, il7_4, il7_5, il7_6, il8_0, il8_1, il8_2, il8_3, il8_4, il8_5, il8_6, il8_7, il9_0, il9_1, il9_2, il9_3, il9_4, il9_5, il9_6, il9_7, il9_8, sl3_to0, sl3_to1, sl3_to2, sl3_to_1, sl3_from1, sl3_from2, sl3_from3, b1D, b2D, setB, setv, putI, ownB, ownL, cmpD, truB, truD, itl, itt, finR, finSl, callV, resolve, ownArgs, nodupN, putBack, hasV, eachB, tgn, tgt, tgl, tsn, tsc, isTyOk, isTy, lcStep, wipeE, evLc, plainAt, lockOf, lock, unlk, unlock, restE, isC, isNoneD, sizeLine_eq, t2, t3, t4, t5, t6, q1, q2, q3]
    have s13 : (sv T c s_law_13).s (en ns d' td qq (.val W) (.own 0 (.list W1)) (.val zd) (.own 0 (.list W2)) (.val (.int i)) (.val (.list fw)) (.val y) .un .un .un .un .un .un) = .ok (.nx, en ns d' td qq (.val W) (.own 0 (.list W1)) (.val zd) (.own 0 (.list W2)) (.val (.int i)) (.val (.list fw)) (.val y) .un .un .un .un .un .un) := by
      have hn : ¬ ((sp2 : Int) + 1 < (sp1 : Int)) := by omega
      simp [ss, sq, ee, ee2, el, et, rs, vv, vm, vt, vc, vi, vp, va, e0, evVar, evBor, evMv, two, rr, L2.ixN, bnA, bnS, bnM, bnQ, bnF, bnR, mulOk_l, mulOk_r, addI, ix3_0, ix3_1, ix3_2, ix2_0, ix2_1, il2_0, il2_1, il3_0, il3_1, il3_2, il4_0, il4_1, il4_2, il4_3, il5_0, il5_1, il5_2, il5_3, il5_4, il6_0, il6_1, il6_2, il6_3, il6_4, il6_5, il7_0, il7_1, il7_2, il7_3, il7_4, il7_5, il7_6, il8_0, il8_1, il8_2, il8_3, il8_4, il8_5, il8_6, il8_7, il9_0, il9_1, il9_2, il9_3, il9_4, il9_5, il9_6, il9_7, il9_8, sl3_to0, sl3_to1, sl3_to2, sl3_to_1, sl3_from1, sl3_from2, sl3_from3, b1D, b2D, setB, setv, putI, ownB, ownL, cmpD, eqD, scalEq, truB, truD, itl, itt, finR, finSl, callV, resolve, ownArgs, nodupN, putBack, hasV, eachB, tgn, tgt, tgl, tsn, tsc, isTyOk, isTy, lcStep, wipeE, evLc, plainAt, lockOf, lock, unlk, unlock, restE, isC, isNoneD, sizeLine_eq, t7, t8, hn]
    have s15 : (sv T c (.seq s_law_15 (.seq s_law_16 (.seq s_law_17 .skip)))).s (en ns d' td qq (.val W) (.own 0 (.list W1)) (.val zd) (.own 0 (.list W2)) (.val (.int i)) (.val (.list fw)) (.val y) .un .un .un .un .un .un) = .ok (.nx, en ns d' td qq (.val W) (.own 0 (.list (W1 ++ [W]))) (.val y) (.own 0 (.list (W2 ++ [y]))) (.val (.int i)) (.val (.list fw)) (.val y) .un .un .un .un .un .un) := by
      generalize W1 ++ [W] = W3 at *
      generalize W2 ++ [y] = W4 at *
      simp [ss, sq, ee, ee2, el, et, rs, vv, vm, vt, vc, vi, vp, va, e0, evVar, evBor, evMv, two, rr, L2.ixN, bnA, bnS, bnM, bnQ, bnF, bnR, mulOk_l, mulOk_r, addI, ix3_0, ix3_1, ix3_2, ix2_0, ix2_1, il2_0, il2_1, il3_0, il3_1, il3_2, il4_0, il4_1, il4_2, il4_3, il5_0, il5_1, il5_2, il5_3, il5_4, il6_0, il6_1, il6_2, il6_3, il6_4, il6_5, il7_0, il7_1, il7_2, il7_3, il7_4, il7_5, il7_6, il8_0, il8_1, il8_2, il8_3, il8_4, il8_5, il8_6, il8_7, il9_0, il9_1, il9_2, il9_3, il9_4, il9_5, il9_6, il9_7, il9_8, sl3_to0, sl3_to1, sl3_to2, sl3_to_1, sl3_from1, sl3_from2, sl3_from3, b1D, b2D, setB, setv, putI, ownB, ownL, cmpD, eqD, scalEq, truB, truD, itl, itt, finR, finSl, callV, resolve, ownArgs, nodupN, putBack, hasV, eachB, tgn, tgt, tgl, tsn, tsc, isTyOk, isTy, lcStep, wipeE, evLc, plainAt, lockOf, lock, unlk, unlock, restE, isC, isNoneD, sizeLine_eq, m1, m2]
    have s8 : (sv T c s_law_8).s (en ns d td qq c5 (.own 0 (.list W1)) (.val zd) (.own 0 (.list W2)) (.val (.int i)) (.val (.list fw)) c11 .un .un .un .un .un .un) = .ok (.nx, en ns d' td qq (.val W) (.own 0 (.list (W1 ++ [W]))) (.val y) (.own 0 (.list (W2 ++ [y]))) (.val (.int i)) (.val (.list fw)) (.val y) .un .un .un .un .un .un) := by
      refine (if_t e3).trans ?_
      rw [seq_nx s9, seq_nx s10, seq_nx s11, seq_nx s13, s15]
    exact (seq_nx s8).trans rfl
theorem l6l : ∀ (xs : List Da), (∀ x ∈ xs, ∃ i, x = .int i) → ∀ {d : Da} (hd : isDraw d) (ws : List (List Bool)) (hl : ws.length + xs.length ≤ 50) (hw : ∀ w ∈ ws, w.length ≤ 50) (hg : Tr.goesB t ws = true) (c5 c9 c10 c11 : Sl) (h5 : plainSl c5) (h9 : plainSl c9) (h10 : plainSl c10) (h11 : plainSl c11),
    ∃ d' ws' c5' c9' c10' c11', isDraw d' ∧ ws'.length ≤ 50 ∧ (∀ w ∈ ws', w.length ≤ 50) ∧ Tr.goesB t ws' = true ∧ plainSl c5' ∧ plainSl c9' ∧ plainSl c10' ∧ plainSl c11' ∧
      forLoop (eachB (sv T C0 b_law_0).s (.nm 9)) xs (eb ns t d ws c5 c9 c10 c11) = .ok (.nx, eb ns t d' ws' c5' c9' c10' c11')
  | [], _, d, hd, ws, hl, hw, hg, c5, c9, c10, c11, h5, h9, h10, h11 => ⟨d, ws, c5, c9, c10, c11, hd, by omega, hw, hg, h5, h9, h10, h11, rfl⟩
  | x :: xs, hx, d, hd, ws, hl, hw, hg, c5, c9, c10, c11, h5, h9, h10, h11 => by
    obtain ⟨i, rfl⟩ := hx x List.mem_cons_self
    rw [List.length_cons] at hl
    obtain ⟨d1, ws1, b5, b10, b11, hd1, l1, w1, g1, p5, p10, p11, e1⟩ := l6b ns t h hs hd ws (by omega) hw hg c5 c9 c10 c11 h5 h9 h10 h11 i
    obtain ⟨d2, ws2, q5, q9, q10, q11, hd2, l2, w2, g2, r5, r9, r10, r11, e2⟩ := l6l xs (fun y hy => hx y (List.mem_cons_of_mem _ hy)) hd1 ws1 (by omega) w1 g1 b5 (.val (.int i)) b10 b11 p5 (.inr ⟨_, rfl⟩) p10 p11
    refine ⟨d2, ws2, q5, q9, q10, q11, hd2, l2, w2, g2, r5, r9, r10, r11, ?_⟩
    unfold forLoop
    rw [e1]
    exact e2
theorem l6 {d : Da} (hd : isDraw d) : ∃ d' ws c5 c9 c10 c11, isDraw d' ∧ ws.length ≤ 50 ∧ (∀ w ∈ ws, w.length ≤ 50) ∧ Tr.goesB t ws = true ∧ plainSl c5 ∧ plainSl c9 ∧ plainSl c10 ∧ plainSl c11 ∧
    (sv T C0 s_law_6).s (en ns d t.da (wsL t) .un (.own 0 (.list [])) (.val t.da) (.own 0 (.list [t.da])) .un .un .un .un .un .un .un .un .un) = .ok (.nx, eb ns t d' ws c5 c9 c10 c11) := by
  obtain ⟨d1, r, hd1, r0, r1, ht⟩ := take_ok 198 hd (n := 8) (by omega) (by omega)
  have hr := range_small r0 (by omega)
  obtain ⟨d2, ws2, q5, q9, q10, q11, hd2, l2, w2, g2, r5, r9, r10, r11, e2⟩ := l6l ns t h hs ((List.range r.toNat).map fun k => .int (0 + (k : Nat))) (by
    intro x hx
    obtain ⟨j, _, rfl⟩ := List.mem_map.mp hx
    exact ⟨_, rfl⟩) hd1 [] (by simp; omega) (fun w hw => by cases hw) rfl .un .un .un .un (.inl rfl) (.inl rfl) (.inl rfl) (.inl rfl)
  refine ⟨d2, ws2, q5, q9, q10, q11, hd2, l2, w2, g2, r5, r9, r10, r11, for_of ?_ rfl e2⟩
  have ht' : C0 n__law_take [.own 1 d, .val (.int 8)] = _ := ht
  show (ev T C0 (.rg1 (.call n__law_take (.cons (.io 1) (.cons (.kc (.int 8)) .nil))))).i (en ns d t.da (wsL t) .un (.own 0 (.list [])) (.val t.da) (.own 0 (.list [t.da])) .un .un .un .un .un .un .un .un .un) = .ok (_, en ns d1 t.da (wsL t) .un (.own 0 (.list [])) (.val t.da) (.own 0 (.list [t.da])) .un .un .un .un .un .un .un .un .un)
  generalize (List.range r.toNat).map (fun k => PyData.int (0 + (k : Nat))) = xs at *
  generalize wsL t = q at *
  generalize t.da = td at *
  generalize C0 = c at *
  simp [ss, sq, ee, ee2, el, et, rs, vv, vm, vt, vc, vi, vp, va, e0, evVar, evBor, evMv, two, rr, L2.ixN, bnA, bnS, bnM, bnQ, bnF, bnR, mulOk_l, mulOk_r, addI, ix3_0, ix3_1, ix3_2, ix2_0, ix2_1, il2_0, il2_1, il3_0, il3_1, il3_2, il4_0, il4_1, il4_2, il4_3, il5_0, il5_1, il5_2, il5_3, il5_4, il6_0, il6_1, il6_2, il6_3, il6_4, il6_5, il7_0, il7_1, il7_2, il7_3, il7_4, il7_5, il7_6, il8_0, il8_1, il8_2, il8_3, il8_4, il8_5, il8_6, il8_7, il9_0, il9_1, il9_2, il9_3, il9_4, il9_5, il9_6, il9_7, il9_8, sl3_to0, sl3_to1, sl3_to2, sl3_to_1, sl3_from1, sl3_from2, sl3_from3, b1D, b2D, setB, setv, putI, ownB, ownL, cmpD, eqD, scalEq, truB, truD, itl, itt, finR, finSl, callV, resolve, ownArgs, nodupN, putBack, hasV, eachB, tgn, tgt, tgl, tsn, tsc, isTyOk, isTy, lcStep, wipeE, evLc, plainAt, lockOf, lock, unlk, unlock, restE, isC, isNoneD, sizeLine_eq, ht', hr]
end

end K20
end
section
set_option Elab.async false
set_option linter.all false
set_option maxRecDepth 100000
set_option maxHeartbeats 800000
namespace K20
open PySem PI
theorem follow_len : ∀ (ws : List (List Bool)) (t : Tr), (Tr.follow t ws).length = ws.length + 1
  | [], t => rfl
  | w :: ws, t => by simp only [Tr.follow, List.length_cons, follow_len ws]
section
variable (ns : List Int) (t : Tr) (h : t.okK) (hs : t.size ≤ 10)
include h hs
theorem l18 (d : Da) (ws : List (List Bool)) (hl : ws.length ≤ 50) (hw : ∀ w ∈ ws, w.length ≤ 50) (hg : Tr.goesB t ws = true) (c5 c9 c10 c11 : Sl) :
    (sv T C0 s_law_18).s (eb ns t d ws c5 c9 c10 c11) = .ok (.nx, eb ns t d ws c5 c9 c10 c11) := by
  have h1 : C0 n_stations [.val t.da, .val (.tuple (ws.map wd))] = _ := stations_ok 198 t h (by omega) ws (by omega) (by omega) hw hg
  have hq : eqD (.tuple ((Tr.follow t ws).map Tr.da)) (.tuple ((Tr.follow t ws).map Tr.da)) = some true := eqD_self (fine_das _ fun s hss => by
    have := follow_sizes ws t s hss
    have := s.height_le
    omega)
  unfold eb
  generalize (Tr.follow t ws).map Tr.da = f1 at *
  generalize ws.map wd = w1 at *
  generalize (endT t ws).da = e1 at *
  generalize wsL t = q at *
  generalize t.da = z at *
  generalize C0 = c at *
  simp [ss, sq, ee, ee2, el, et, rs, vv, vm, vt, vc, vi, vp, va, e0, evVar, evBor, evMv, two, rr, L2.ixN, bnA, bnS, bnM, bnQ, bnF, bnR, mulOk_l, mulOk_r, addI, ix3_0, ix3_1, ix3_2, ix2_0, ix2_1, il2_0, il2_1, il3_0, il3_1, il3_2, il4_0, il4_1, il4_2, il4_3, il5_0, il5_1, il5_2, il5_3, il5_4, il6_0, il6_1, il6_2, il6_3, il6_4, il6_5, il7_0, il7_1, il7_2, il7_3, il7_4, il7_5, il7_6, il8_0, il8_1, il8_2, il8_3, il8_4, il8_5, il8_6, il8_7, il9_0, il9_1, il9_2, il9_3, il9_4, il9_5, il9_6, il9_7, il9_8, sl3_to0, sl3_to1, sl3_to2, sl3_to_1, sl3_from1, sl3_from2, sl3_from3, b1D, b2D, setB, setv, putI, ownB, ownL, cmpD, truB, truD, itl, itt, finR, finSl, callV, resolve, ownArgs, nodupN, putBack, hasV, eachB, tgn, tgt, tgl, tsn, tsc, isTyOk, isTy, lcStep, wipeE, evLc, plainAt, lockOf, lock, unlk, unlock, restE, isC, isNoneD, sizeLine_eq, h1, hq]
/-- to the right -/
abbrev rts (t : Tr) : List (List Bool) := Tr.rights 45 0 t
theorem rts_go : Tr.goesB t (rts t) = true ∧ (rts t).length = t.size - t.spine ∧ (∀ w ∈ rts t, w.length ≤ 50) ∧ ∃ q, endT t (rts t) = Tr.chain q .nil := by
  have hg : Tr.toGo t ≤ 45 := by unfold Tr.toGo; omega
  refine ⟨Tr.rights_go 45 [] t, Tr.rights_len 45 0 t hg, fun w hw => by have := Tr.rights_short 45 0 t w hw; omega, ?_⟩
  obtain ⟨q, hq⟩ := Tr.rights_ok 45 [] t hg
  exact ⟨q, by rw [← follow_last]; exact hq⟩
abbrev e2 (ns : List Int) (d z : Da) (q c5 c6 c7 c8 c9 c10 c11 : Sl) (w m s : Da) : PI.Env := en ns d z q c5 c6 c7 c8 c9 c10 c11 (.val w) (.val m) (.val s) .un .un .un
theorem l20 (d : Da) (q c5 c6 c7 c8 c9 c10 c11 : Sl) : (sv T C0 (.seq s_law_20 (.seq s_law_21 .skip))).s (en ns d t.da q c5 c6 c7 c8 c9 c10 c11 .un .un .un .un .un .un) =
    .ok (.nx, e2 ns d t.da q c5 c6 c7 c8 c9 c10 c11 (.tuple ((rts t).map wd)) (.int ((t.size : Nat) - (t.spine : Nat) : Int)) (.list ((Tr.follow t (rts t)).map Tr.da))) := by
  obtain ⟨g1, g2, g3, _⟩ := rts_go t h hs
  have h1 : C0 n_row_to_right [.val t.da] = _ := row_to_right_ok 198 t h (by omega) (by omega)
  have h2 : C0 n_turns_to_right [.val t.da] = _ := turns_to_right_ok 198 t h (by omega) (by omega)
  have h3 : C0 n__law_follow [.val t.da, .val (.tuple ((rts t).map wd))] = _ := law_follow_ok 198 t (by omega) (rts t) (by omega) (by omega) g3 g1
  have hp : parOk T [(12, false), (13, false)] (.cons (.call n_row_to_right (.cons (.var 2) .nil)) (.cons (.call n_turns_to_right (.cons (.var 2) .nil)) .nil)) = true := rfl
  unfold e2
  unfold rts at *
  generalize (Tr.follow t (Tr.rights 45 0 t)).map Tr.da = f1 at *
  generalize (Tr.rights 45 0 t).map wd = w1 at *
  generalize ((t.size : Nat) - (t.spine : Nat) : Int) = m at *
  generalize t.da = z at *
  generalize C0 = c at *
  simp [ss, sq, ee, ee2, el, et, rs, vv, vm, vt, vc, vi, vp, va, e0, evVar, evBor, evMv, two, rr, L2.ixN, bnA, bnS, bnM, bnQ, bnF, bnR, mulOk_l, mulOk_r, addI, ix3_0, ix3_1, ix3_2, ix2_0, ix2_1, il2_0, il2_1, il3_0, il3_1, il3_2, il4_0, il4_1, il4_2, il4_3, il5_0, il5_1, il5_2, il5_3, il5_4, il6_0, il6_1, il6_2, il6_3, il6_4, il6_5, il7_0, il7_1, il7_2, il7_3, il7_4, il7_5, il7_6, il8_0, il8_1, il8_2, il8_3, il8_4, il8_5, il8_6, il8_7, il9_0, il9_1, il9_2, il9_3, il9_4, il9_5, il9_6, il9_7, il9_8, sl3_to0, sl3_to1, sl3_to2, sl3_to_1, sl3_from1, sl3_from2, sl3_from3, b1D, b2D, setB, setv, putI, ownB, ownL, cmpD, eqD, scalEq, truB, truD, itl, itt, finR, finSl, callV, resolve, ownArgs, nodupN, putBack, hasV, eachB, tgn, tgt, tgl, tsn, tsc, isTyOk, isTy, lcStep, wipeE, evLc, plainAt, lockOf, lock, unlk, unlock, restE, isC, isNoneD, sizeLine_eq, hp, parSet, h1, h2, h3]
omit h hs in
theorem all_r : ∀ (w : List Bool), false ∉ w → w = List.replicate w.length true
  | [], _ => rfl
  | b :: w, hw => by
    have hb : b = true := by cases b with | true => rfl | false => exact absurd List.mem_cons_self hw
    have := all_r w fun z => hw (List.mem_cons_of_mem _ z)
    rw [hb, List.length_cons, List.replicate_succ, ← this]
omit h hs in
theorem l_in_l {w : List Bool} (hl : w.length ≤ 12) (hw : false ∉ w) : inD (.str "l") (wd w) = some false := by
  rw [all_r w hw]
  generalize w.length = n at *
  have hc : n = 0 ∨ n = 1 ∨ n = 2 ∨ n = 3 ∨ n = 4 ∨ n = 5 ∨ n = 6 ∨ n = 7 ∨ n = 8 ∨ n = 9 ∨ n = 10 ∨ n = 11 ∨ n = 12 := by omega
  rcases hc with rfl | rfl | rfl | rfl | rfl | rfl | rfl | rfl | rfl | rfl | rfl | rfl | rfl <;> kernel_rfl
theorem l22 (d : Da) (q c5 c6 c7 c8 c9 c10 c11 : Sl) (h5 : plainSl c5) : 
    (sv T C0 s_law_22).s (e2 ns d t.da q c5 c6 c7 c8 c9 c10 c11 (.tuple ((rts t).map wd)) (.int ((t.size : Nat) - (t.spine : Nat) : Int)) (.list ((Tr.follow t (rts t)).map Tr.da))) = .ok (.nx, e2 ns d t.da q c5 c6 c7 c8 c9 c10 c11 (.tuple ((rts t).map wd)) (.int ((t.size : Nat) - (t.spine : Nat) : Int)) (.list ((Tr.follow t (rts t)).map Tr.da))) := by
  obtain ⟨g1, g2, g3, p, g4⟩ := rts_go t h hs
  have hh := t.height_le
  have hsz : (Tr.chain p .nil).size = t.size := by rw [← g4, endT_size]
  have hch := (Tr.chain p .nil).height_le
  have h1 : C0 n__law_size [.val t.da] = _ := law_size_ok t 198 (by omega)
  have h2 : C0 n__law_spine [.val t.da] = _ := law_spine_ok t 198 (by omega)
  have h3 : C0 n__law_ways [.val (Tr.chain p .nil).da] = _ := law_ways_ok (Tr.chain p .nil) 198 (by omega) (by omega)
  have hla : idxD (.list ((Tr.follow t (rts t)).map Tr.da)) (.int (-1)) = some (Tr.chain p .nil).da := by
    have e5 : (Tr.follow t (rts t)).map Tr.da = ((Tr.follow t (rts t)).dropLast.map Tr.da) ++ [(Tr.chain p .nil).da] := by
      conv => lhs; rw [← List.dropLast_concat_getLast (Tr.follow_ne t (rts t)), follow_last, g4]
      rw [List.map_append]; rfl
    rw [e5]
    exact snoc_last _ _
  have hn : (((rts t).map wd).length : Int) = (t.size : Int) - (t.spine : Int) := by
    rw [List.length_map, g2]
    have := t.spine_le
    omega
  have n1 : ((Tr.chain p .nil).ways.map wd).length ≤ 16777216 := by rw [List.length_map, Tr.ways_len]; omega
  have p1 := lcLoop_tfil (step := lcStep [5] (.nm 5) (ev T C0 lc_law_4).c (ev T C0 le_law_4).e) (env := e2 ns d t.da q .un c6 c7 c8 c9 c10 c11 (.tuple ((rts t).map wd)) (.int ((t.size : Nat) - (t.spine : Nat) : Int)) (.list ((Tr.follow t (rts t)).map Tr.da))) wd wd (fun _ => false) (Tr.chain p .nil).ways (fun w hw => by
    have hi := l_in_l (by have := Tr.way_short _ w hw; omega) (Tr.chain_ways p w hw)
    unfold e2
    generalize (Tr.follow t (rts t)).map Tr.da = f1 at *
    generalize (rts t).map wd = w1 at *
    generalize ((t.size : Nat) - (t.spine : Nat) : Int) = m at *
    generalize wd w = W at *
    generalize t.da = z at *
    generalize C0 = c at *
    simp [ss, sq, ee, ee2, el, et, rs, vv, vm, vt, vc, vi, vp, va, e0, evVar, evBor, evMv, two, rr, L2.ixN, bnA, bnS, bnM, bnQ, bnF, bnR, mulOk_l, mulOk_r, addI, ix3_0, ix3_1, ix3_2, ix2_0, ix2_1, il2_0, il2_1, il3_0, il3_1, il3_2, il4_0, il4_1, il4_2, il4_3, il5_0, il5_1, il5_2, il5_3, il5_4, il6_0, il6_1, il6_2, il6_3, il6_4, il6_5, il7_0, il7_1, il7_2, il7_3, il7_4, il7_5, il7_6, il8_0, il8_1, il8_2, il8_3, il8_4, il8_5, il8_6, il8_7, il9_0, il9_1, il9_2, il9_3, il9_4, il9_5, il9_6, il9_7, il9_8, sl3_to0, sl3_to1, sl3_to2, sl3_to_1, sl3_from1, sl3_from2, sl3_from3, b1D, b2D, setB, setv, putI, ownB, ownL, cmpD, eqD, scalEq, truB, truD, itl, itt, finR, finSl, callV, resolve, ownArgs, nodupN, putBack, hasV, eachB, tgn, tgt, tgl, tsn, tsc, isTyOk, isTy, lcStep, wipeE, evLc, plainAt, lockOf, lock, unlk, unlock, restE, isC, isNoneD, sizeLine_eq, hi])
  have hff : (Tr.chain p .nil).ways.filter (fun _ => false) = [] := by simp
  rw [hff, List.map_nil] at p1
  have hq : eqD (.list []) (.list []) = some true := by kernel_rfl
  unfold e2 at *
  generalize (Tr.follow t (rts t)).map Tr.da = f1 at *
  generalize (rts t).map wd = w1 at *
  generalize (Tr.chain p .nil).ways.map wd = w2 at *
  generalize (t.size : Int) = m1 at *
  generalize (t.spine : Int) = m2 at *
  generalize (Tr.chain p .nil).da = cd at *
  generalize t.da = z at *
  generalize C0 = c at *
  have x4 : (ev T c l_law_4).e (en ns d z q c5 c6 c7 c8 c9 c10 c11 (.val (.tuple w1)) (.val (.int (m1 - m2))) (.val (.list f1)) .un .un .un) = .ok (.list [], en ns d z q c5 c6 c7 c8 c9 c10 c11 (.val (.tuple w1)) (.val (.int (m1 - m2))) (.val (.list f1)) .un .un .un) := by
    rcases h5 with rfl | ⟨q5, rfl⟩ <;> simp [ss, sq, ee, ee2, el, et, rs, vv, vm, vt, vc, vi, vp, va, e0, evVar, evBor, evMv, two, rr, L2.ixN, bnA, bnS, bnM, bnQ, bnF, bnR, mulOk_l, mulOk_r, addI, ix3_0, ix3_1, ix3_2, ix2_0, ix2_1, il2_0, il2_1, il3_0, il3_1, il3_2, il4_0, il4_1, il4_2, il4_3, il5_0, il5_1, il5_2, il5_3, il5_4, il6_0, il6_1, il6_2, il6_3, il6_4, il6_5, il7_0, il7_1, il7_2, il7_3, il7_4, il7_5, il7_6, il8_0, il8_1, il8_2, il8_3, il8_4, il8_5, il8_6, il8_7, il9_0, il9_1, il9_2, il9_3, il9_4, il9_5, il9_6, il9_7, il9_8, sl3_to0, sl3_to1, sl3_to2, sl3_to_1, sl3_from1, sl3_from2, sl3_from3, b1D, b2D, setB, setv, putI, ownB, ownL, cmpD, eqD, scalEq, truB, truD, itl, itt, finR, finSl, callV, resolve, ownArgs, nodupN, putBack, hasV, eachB, tgn, tgt, tgl, tsn, tsc, isTyOk, isTy, lcStep, wipeE, evLc, plainAt, lockOf, lock, unlk, unlock, restE, isC, isNoneD, sizeLine_eq, hla, h3, n1, p1]
  refine if_f (or_f (env1 := en ns d z q c5 c6 c7 c8 c9 c10 c11 (.val (.tuple w1)) (.val (.int (m1 - m2))) (.val (.list f1)) .un .un .un) ?_ (or_f (env1 := en ns d z q c5 c6 c7 c8 c9 c10 c11 (.val (.tuple w1)) (.val (.int (m1 - m2))) (.val (.list f1)) .un .un .un) ?_ (or_f (env1 := en ns d z q c5 c6 c7 c8 c9 c10 c11 (.val (.tuple w1)) (.val (.int (m1 - m2))) (.val (.list f1)) .un .un .un) ?_ (cmp_t x4 rfl rfl (r := false) (ne_self hq)))))
  · rfl
  · simp [ss, sq, ee, ee2, el, et, rs, vv, vm, vt, vc, vi, vp, va, e0, evVar, evBor, evMv, two, rr, L2.ixN, bnA, bnS, bnM, bnQ, bnF, bnR, mulOk_l, mulOk_r, addI, ix3_0, ix3_1, ix3_2, ix2_0, ix2_1, il2_0, il2_1, il3_0, il3_1, il3_2, il4_0, il4_1, il4_2, il4_3, il5_0, il5_1, il5_2, il5_3, il5_4, il6_0, il6_1, il6_2, il6_3, il6_4, il6_5, il7_0, il7_1, il7_2, il7_3, il7_4, il7_5, il7_6, il8_0, il8_1, il8_2, il8_3, il8_4, il8_5, il8_6, il8_7, il9_0, il9_1, il9_2, il9_3, il9_4, il9_5, il9_6, il9_7, il9_8, sl3_to0, sl3_to1, sl3_to2, sl3_to_1, sl3_from1, sl3_from2, sl3_from3, b1D, b2D, setB, setv, putI, ownB, ownL, cmpD, eqD, scalEq, truB, truD, itl, itt, finR, finSl, callV, resolve, ownArgs, nodupN, putBack, hasV, eachB, tgn, tgt, tgl, tsn, tsc, isTyOk, isTy, lcStep, wipeE, evLc, plainAt, lockOf, lock, unlk, unlock, restE, isC, isNoneD, sizeLine_eq, hn]
  · simp [ss, sq, ee, ee2, el, et, rs, vv, vm, vt, vc, vi, vp, va, e0, evVar, evBor, evMv, two, rr, L2.ixN, bnA, bnS, bnM, bnQ, bnF, bnR, mulOk_l, mulOk_r, addI, ix3_0, ix3_1, ix3_2, ix2_0, ix2_1, il2_0, il2_1, il3_0, il3_1, il3_2, il4_0, il4_1, il4_2, il4_3, il5_0, il5_1, il5_2, il5_3, il5_4, il6_0, il6_1, il6_2, il6_3, il6_4, il6_5, il7_0, il7_1, il7_2, il7_3, il7_4, il7_5, il7_6, il8_0, il8_1, il8_2, il8_3, il8_4, il8_5, il8_6, il8_7, il9_0, il9_1, il9_2, il9_3, il9_4, il9_5, il9_6, il9_7, il9_8, sl3_to0, sl3_to1, sl3_to2, sl3_to_1, sl3_from1, sl3_from2, sl3_from3, b1D, b2D, setB, setv, putI, ownB, ownL, cmpD, eqD, scalEq, truB, truD, itl, itt, finR, finSl, callV, resolve, ownArgs, nodupN, putBack, hasV, eachB, tgn, tgt, tgl, tsn, tsc, isTyOk, isTy, lcStep, wipeE, evLc, plainAt, lockOf, lock, unlk, unlock, restE, isC, isNoneD, sizeLine_eq, h1, h2]
theorem l24 (d : Da) (q c5 c6 c7 c8 c9 c10 c11 : Sl) : 
    (sv T C0 s_law_24).s (e2 ns d t.da q c5 c6 c7 c8 c9 c10 c11 (.tuple ((rts t).map wd)) (.int ((t.size : Nat) - (t.spine : Nat) : Int)) (.list ((Tr.follow t (rts t)).map Tr.da))) = .ok (.nx, e2 ns d t.da q c5 c6 c7 c8 c9 c10 c11 (.tuple ((rts t).map wd)) (.int ((t.size : Nat) - (t.spine : Nat) : Int)) (.list ((Tr.follow t (rts t)).map Tr.da))) := by
  obtain ⟨g1, g2, g3, p, g4⟩ := rts_go t h hs
  have hsz : (endT t (rts t)).size = t.size := endT_size _ _
  have h1 : C0 n_takes_row [.val t.da, .val (endT t (rts t)).da, .val (.tuple ((rts t).map wd))] = _ := takes_ok 198 t h (by omega) (rts t) (by omega) (by omega) g3 g1 (endT t (rts t)) (endT_ok _ _ h) (by omega) (follow_last _ _)
  have hla : idxD (.list ((Tr.follow t (rts t)).map Tr.da)) (.int (-1)) = some (endT t (rts t)).da := by
    have e5 : (Tr.follow t (rts t)).map Tr.da = ((Tr.follow t (rts t)).dropLast.map Tr.da) ++ [(endT t (rts t)).da] := by
      conv => lhs; rw [← List.dropLast_concat_getLast (Tr.follow_ne t (rts t)), follow_last]
      rw [List.map_append]; rfl
    rw [e5]
    exact snoc_last _ _
  unfold e2
  generalize (endT t (rts t)).da = ed at *
  generalize (Tr.follow t (rts t)).map Tr.da = f1 at *
  generalize (rts t).map wd = w1 at *
  generalize ((t.size : Nat) - (t.spine : Nat) : Int) = m at *
  generalize t.da = z at *
  generalize C0 = c at *
  simp [ss, sq, ee, ee2, el, et, rs, vv, vm, vt, vc, vi, vp, va, e0, evVar, evBor, evMv, two, rr, L2.ixN, bnA, bnS, bnM, bnQ, bnF, bnR, mulOk_l, mulOk_r, addI, ix3_0, ix3_1, ix3_2, ix2_0, ix2_1, il2_0, il2_1, il3_0, il3_1, il3_2, il4_0, il4_1, il4_2, il4_3, il5_0, il5_1, il5_2, il5_3, il5_4, il6_0, il6_1, il6_2, il6_3, il6_4, il6_5, il7_0, il7_1, il7_2, il7_3, il7_4, il7_5, il7_6, il8_0, il8_1, il8_2, il8_3, il8_4, il8_5, il8_6, il8_7, il9_0, il9_1, il9_2, il9_3, il9_4, il9_5, il9_6, il9_7, il9_8, sl3_to0, sl3_to1, sl3_to2, sl3_to_1, sl3_from1, sl3_from2, sl3_from3, b1D, b2D, setB, setv, putI, ownB, ownL, cmpD, eqD, scalEq, truB, truD, itl, itt, finR, finSl, callV, resolve, ownArgs, nodupN, putBack, hasV, eachB, tgn, tgt, tgl, tsn, tsc, isTyOk, isTy, lcStep, wipeE, evLc, plainAt, lockOf, lock, unlk, unlock, restE, isC, isNoneD, sizeLine_eq, h1, hla]
/-! the calls that are refused -/
omit h hs in
theorem hx_mal (c : Calls) (j : Nat) (e : XE) (more : S) (env : PI.Env) : (sv T c (.hndx 1 j e more)).h ⟨1, none⟩ env = optB (xev T ⟨1, none⟩ e) fun d => optB (clrN env j) fun env1 => .ok (.ret d, env1) := by
  show (if matches_ T 1 1 = true then optB (xev T ⟨1, none⟩ e) (fun d => optB (clrN env j) fun env1 => .ok (.ret d, env1)) else (sv T c more).h ⟨1, none⟩ env) = _
  rw [if_pos (by decide +kernel)]
omit h hs in
theorem x_mal : xev T ⟨1, none⟩ (.ite 0 (.str "malformed") (.str "other")) = some (.str "malformed") := by kernel_rfl
omit h hs in
theorem word_mal (k : Nat) (v : Da) (hc : callF T k n__law_call [.val v] = .exc ⟨1, none⟩ [.un]) : callF T (k + 1) n__law_word [.val v] = .ok (.str "malformed", [.un]) := by
  have hx := x_mal
  rw [call_fn (g := F__law_word) rfl rfl]; simp [F__law_word, ss, sq, ee, ee2, el, et, rs, vv, vm, vt, vc, vi, vp, va, e0, evVar, evBor, evMv, two, rr, L2.ixN, bnA, bnS, bnM, bnQ, bnF, bnR, mulOk_l, mulOk_r, addI, ix3_0, ix3_1, ix3_2, ix2_0, ix2_1, il2_0, il2_1, il3_0, il3_1, il3_2, il4_0, il4_1, il4_2, il4_3, il5_0, il5_1, il5_2, il5_3, il5_4, il6_0, il6_1, il6_2, il6_3, il6_4, il6_5, il7_0, il7_1, il7_2, il7_3, il7_4, il7_5, il7_6, il8_0, il8_1, il8_2, il8_3, il8_4, il8_5, il8_6, il8_7, il9_0, il9_1, il9_2, il9_3, il9_4, il9_5, il9_6, il9_7, il9_8, sl3_to0, sl3_to1, sl3_to2, sl3_to_1, sl3_from1, sl3_from2, sl3_from3, b1D, b2D, setB, setv, putI, ownB, ownL, cmpD, eqD, scalEq, truB, truD, itl, itt, finR, finSl, callV, resolve, ownArgs, nodupN, putBack, hasV, eachB, tgn, tgt, tgl, tsn, tsc, isTyOk, isTy, lcStep, wipeE, evLc, plainAt, lockOf, lock, unlk, unlock, restE, isC, isNoneD, sizeLine_eq, hc, tryB, hx_mal, hx, clrN]
omit h hs in
theorem call0_bad (k : Nat) (d v : Da) (h1 : callF T k n_turns [.val d] = .exc ⟨1, none⟩ [.un]) : callF T (k + 1) n__law_call [.val (.tuple [.int 0, d, v])] = .exc ⟨1, none⟩ [.un] := by
  rw [call_fn (g := F__law_call) rfl rfl]; simp [F__law_call, ss, sq, ee, ee2, el, et, rs, vv, vm, vt, vc, vi, vp, va, e0, evVar, evBor, evMv, two, rr, L2.ixN, bnA, bnS, bnM, bnQ, bnF, bnR, mulOk_l, mulOk_r, addI, ix3_0, ix3_1, ix3_2, ix2_0, ix2_1, il2_0, il2_1, il3_0, il3_1, il3_2, il4_0, il4_1, il4_2, il4_3, il5_0, il5_1, il5_2, il5_3, il5_4, il6_0, il6_1, il6_2, il6_3, il6_4, il6_5, il7_0, il7_1, il7_2, il7_3, il7_4, il7_5, il7_6, il8_0, il8_1, il8_2, il8_3, il8_4, il8_5, il8_6, il8_7, il9_0, il9_1, il9_2, il9_3, il9_4, il9_5, il9_6, il9_7, il9_8, sl3_to0, sl3_to1, sl3_to2, sl3_to_1, sl3_from1, sl3_from2, sl3_from3, b1D, b2D, setB, setv, putI, ownB, ownL, cmpD, eqD, scalEq, truB, truD, itl, itt, finR, finSl, callV, resolve, ownArgs, nodupN, putBack, hasV, eachB, tgn, tgt, tgl, tsn, tsc, isTyOk, isTy, lcStep, wipeE, evLc, plainAt, lockOf, lock, unlk, unlock, restE, isC, isNoneD, sizeLine_eq, h1]
omit h hs in
theorem call1_bad (k : Nat) (d v : Da) (h1 : callF T k n_row_to_right [.val d] = .exc ⟨1, none⟩ [.un]) : callF T (k + 1) n__law_call [.val (.tuple [.int 1, d, v])] = .exc ⟨1, none⟩ [.un] := by
  rw [call_fn (g := F__law_call) rfl rfl]; simp [F__law_call, ss, sq, ee, ee2, el, et, rs, vv, vm, vt, vc, vi, vp, va, e0, evVar, evBor, evMv, two, rr, L2.ixN, bnA, bnS, bnM, bnQ, bnF, bnR, mulOk_l, mulOk_r, addI, ix3_0, ix3_1, ix3_2, ix2_0, ix2_1, il2_0, il2_1, il3_0, il3_1, il3_2, il4_0, il4_1, il4_2, il4_3, il5_0, il5_1, il5_2, il5_3, il5_4, il6_0, il6_1, il6_2, il6_3, il6_4, il6_5, il7_0, il7_1, il7_2, il7_3, il7_4, il7_5, il7_6, il8_0, il8_1, il8_2, il8_3, il8_4, il8_5, il8_6, il8_7, il9_0, il9_1, il9_2, il9_3, il9_4, il9_5, il9_6, il9_7, il9_8, sl3_to0, sl3_to1, sl3_to2, sl3_to_1, sl3_from1, sl3_from2, sl3_from3, b1D, b2D, setB, setv, putI, ownB, ownL, cmpD, eqD, scalEq, truB, truD, itl, itt, finR, finSl, callV, resolve, ownArgs, nodupN, putBack, hasV, eachB, tgn, tgt, tgl, tsn, tsc, isTyOk, isTy, lcStep, wipeE, evLc, plainAt, lockOf, lock, unlk, unlock, restE, isC, isNoneD, sizeLine_eq, h1]
omit h hs in
theorem call2_bad (k : Nat) (d v : Da) (h1 : callF T k n_turns_to_right [.val d] = .exc ⟨1, none⟩ [.un]) : callF T (k + 1) n__law_call [.val (.tuple [.int 2, d, v])] = .exc ⟨1, none⟩ [.un] := by
  rw [call_fn (g := F__law_call) rfl rfl]; simp [F__law_call, ss, sq, ee, ee2, el, et, rs, vv, vm, vt, vc, vi, vp, va, e0, evVar, evBor, evMv, two, rr, L2.ixN, bnA, bnS, bnM, bnQ, bnF, bnR, mulOk_l, mulOk_r, addI, ix3_0, ix3_1, ix3_2, ix2_0, ix2_1, il2_0, il2_1, il3_0, il3_1, il3_2, il4_0, il4_1, il4_2, il4_3, il5_0, il5_1, il5_2, il5_3, il5_4, il6_0, il6_1, il6_2, il6_3, il6_4, il6_5, il7_0, il7_1, il7_2, il7_3, il7_4, il7_5, il7_6, il8_0, il8_1, il8_2, il8_3, il8_4, il8_5, il8_6, il8_7, il9_0, il9_1, il9_2, il9_3, il9_4, il9_5, il9_6, il9_7, il9_8, sl3_to0, sl3_to1, sl3_to2, sl3_to_1, sl3_from1, sl3_from2, sl3_from3, b1D, b2D, setB, setv, putI, ownB, ownL, cmpD, eqD, scalEq, truB, truD, itl, itt, finR, finSl, callV, resolve, ownArgs, nodupN, putBack, hasV, eachB, tgn, tgt, tgl, tsn, tsc, isTyOk, isTy, lcStep, wipeE, evLc, plainAt, lockOf, lock, unlk, unlock, restE, isC, isNoneD, sizeLine_eq, h1]
omit h hs in
theorem call3_bad (k : Nat) (d v : Da) (h1 : callF T k n_turn [.val d, .val v] = .exc ⟨1, none⟩ [.un, .un]) : callF T (k + 1) n__law_call [.val (.tuple [.int 3, d, v])] = .exc ⟨1, none⟩ [.un] := by
  rw [call_fn (g := F__law_call) rfl rfl]; simp [F__law_call, ss, sq, ee, ee2, el, et, rs, vv, vm, vt, vc, vi, vp, va, e0, evVar, evBor, evMv, two, rr, L2.ixN, bnA, bnS, bnM, bnQ, bnF, bnR, mulOk_l, mulOk_r, addI, ix3_0, ix3_1, ix3_2, ix2_0, ix2_1, il2_0, il2_1, il3_0, il3_1, il3_2, il4_0, il4_1, il4_2, il4_3, il5_0, il5_1, il5_2, il5_3, il5_4, il6_0, il6_1, il6_2, il6_3, il6_4, il6_5, il7_0, il7_1, il7_2, il7_3, il7_4, il7_5, il7_6, il8_0, il8_1, il8_2, il8_3, il8_4, il8_5, il8_6, il8_7, il9_0, il9_1, il9_2, il9_3, il9_4, il9_5, il9_6, il9_7, il9_8, sl3_to0, sl3_to1, sl3_to2, sl3_to_1, sl3_from1, sl3_from2, sl3_from3, b1D, b2D, setB, setv, putI, ownB, ownL, cmpD, eqD, scalEq, truB, truD, itl, itt, finR, finSl, callV, resolve, ownArgs, nodupN, putBack, hasV, eachB, tgn, tgt, tgl, tsn, tsc, isTyOk, isTy, lcStep, wipeE, evLc, plainAt, lockOf, lock, unlk, unlock, restE, isC, isNoneD, sizeLine_eq, h1]
omit h hs in
theorem call4_bad (k : Nat) (d v : Da) (h1 : callF T k n_undoing [.val d, .val v] = .exc ⟨1, none⟩ [.un, .un]) : callF T (k + 1) n__law_call [.val (.tuple [.int 4, d, v])] = .exc ⟨1, none⟩ [.un] := by
  rw [call_fn (g := F__law_call) rfl rfl]; simp [F__law_call, ss, sq, ee, ee2, el, et, rs, vv, vm, vt, vc, vi, vp, va, e0, evVar, evBor, evMv, two, rr, L2.ixN, bnA, bnS, bnM, bnQ, bnF, bnR, mulOk_l, mulOk_r, addI, ix3_0, ix3_1, ix3_2, ix2_0, ix2_1, il2_0, il2_1, il3_0, il3_1, il3_2, il4_0, il4_1, il4_2, il4_3, il5_0, il5_1, il5_2, il5_3, il5_4, il6_0, il6_1, il6_2, il6_3, il6_4, il6_5, il7_0, il7_1, il7_2, il7_3, il7_4, il7_5, il7_6, il8_0, il8_1, il8_2, il8_3, il8_4, il8_5, il8_6, il8_7, il9_0, il9_1, il9_2, il9_3, il9_4, il9_5, il9_6, il9_7, il9_8, sl3_to0, sl3_to1, sl3_to2, sl3_to_1, sl3_from1, sl3_from2, sl3_from3, b1D, b2D, setB, setv, putI, ownB, ownL, cmpD, eqD, scalEq, truB, truD, itl, itt, finR, finSl, callV, resolve, ownArgs, nodupN, putBack, hasV, eachB, tgn, tgt, tgl, tsn, tsc, isTyOk, isTy, lcStep, wipeE, evLc, plainAt, lockOf, lock, unlk, unlock, restE, isC, isNoneD, sizeLine_eq, h1]
omit h hs in
theorem call5_bad (k : Nat) (d v : Da) (h1 : callF T k n_stations [.val d, .val v] = .exc ⟨1, none⟩ [.un, .un]) : callF T (k + 1) n__law_call [.val (.tuple [.int 5, d, v])] = .exc ⟨1, none⟩ [.un] := by
  rw [call_fn (g := F__law_call) rfl rfl]; simp [F__law_call, ss, sq, ee, ee2, el, et, rs, vv, vm, vt, vc, vi, vp, va, e0, evVar, evBor, evMv, two, rr, L2.ixN, bnA, bnS, bnM, bnQ, bnF, bnR, mulOk_l, mulOk_r, addI, ix3_0, ix3_1, ix3_2, ix2_0, ix2_1, il2_0, il2_1, il3_0, il3_1, il3_2, il4_0, il4_1, il4_2, il4_3, il5_0, il5_1, il5_2, il5_3, il5_4, il6_0, il6_1, il6_2, il6_3, il6_4, il6_5, il7_0, il7_1, il7_2, il7_3, il7_4, il7_5, il7_6, il8_0, il8_1, il8_2, il8_3, il8_4, il8_5, il8_6, il8_7, il9_0, il9_1, il9_2, il9_3, il9_4, il9_5, il9_6, il9_7, il9_8, sl3_to0, sl3_to1, sl3_to2, sl3_to_1, sl3_from1, sl3_from2, sl3_from3, b1D, b2D, setB, setv, putI, ownB, ownL, cmpD, eqD, scalEq, truB, truD, itl, itt, finR, finSl, callV, resolve, ownArgs, nodupN, putBack, hasV, eachB, tgn, tgt, tgl, tsn, tsc, isTyOk, isTy, lcStep, wipeE, evLc, plainAt, lockOf, lock, unlk, unlock, restE, isC, isNoneD, sizeLine_eq, h1]
/-- what is no turn -/
def wrongs : List Da := [.str "", .none, .int 0, .str "x", wd (List.replicate 20 false), wd (List.replicate 20 true), .list [.str "l"], .tuple [.str "l"], .str "L"]
theorem not_turn (k : Nat) : ∀ v ∈ wrongs, callF T (k + 5) n_is_turn [.val t.da, .val v] = .ok (.bool false, [.un, .un]) := by
  intro v hv
  have hh := t.height_le
  have deep : ∀ b, callF T (k + 5) n_is_turn [.val t.da, .val (wd (List.replicate 20 b))] = .ok (.bool false, [.un, .un]) := by
    intro b
    have := is_turn_ok (k + 1) t (List.replicate 20 b) (by simp)
    rw [this]
    have e : turnB t (List.replicate 20 b) = false := by
      unfold turnB
      rw [at_deep t (List.replicate 20 b) (by simp; omega)]
      rfl
    rw [e]
  have hn : ∀ w : Da, callF T (k + 4) n_is_node [.val t.da, .val w] = .ok (.bool false, [.un, .un]) → callF T (k + 5) n_is_turn [.val t.da, .val w] = .ok (.bool false, [.un, .un]) := fun w q => is_turn_no (k + 1) t.da w q
  unfold wrongs at hv
  simp only [List.mem_cons, List.not_mem_nil, or_false] at hv
  rcases hv with rfl | rfl | rfl | rfl | rfl | rfl | rfl | rfl | rfl
  · have := is_turn_ok (k + 1) t [] (by simp)
    have ew : wd [] = .str "" := by show PyData.str (wstr []) = _; rw [← wstr_nil]
    rw [ew] at this
    rw [this]
    have e : turnB t [] = false := by unfold turnB; simp
    rw [e]
  · refine hn _ ?_; generalize t.da = z; kernel_rfl
  · refine hn _ ?_; generalize t.da = z; kernel_rfl
  · refine hn _ ?_; generalize t.da = z; kernel_rfl
  · exact deep false
  · exact deep true
  · refine hn _ ?_; generalize t.da = z; kernel_rfl
  · refine hn _ ?_; generalize t.da = z; kernel_rfl
  · refine hn _ ?_; generalize t.da = z; kernel_rfl
end

end K20
end
section
set_option Elab.async false
set_option linter.all false
set_option maxRecDepth 100000
set_option maxHeartbeats 800000
namespace K20
open PySem PI
def odds : List Da := [.none, .list [], .tuple [.str ""], .tuple [.str "x"], .tuple [.none], .tuple [wd (List.replicate 20 false)], .tuple (List.replicate 61 (.str "l")), .str "l"]
def callsD (z b : Da) : List Da := [.tuple [.int 0, b, .str "l"], .tuple [.int 1, b, .str "l"], .tuple [.int 2, b, .str "l"], .tuple [.int 3, b, .str "l"], .tuple [.int 4, b, .str "l"], .tuple [.int 5, b, .tuple []]] ++ wrongs.map (fun w => .tuple [.int 3, z, w]) ++ wrongs.map (fun w => .tuple [.int 4, z, w]) ++ odds.map (fun w => .tuple [.int 5, z, w])
theorem noD_wrongs : ∀ v ∈ wrongs, noD v = true := by decide +kernel
theorem all_mal (t : Tr) (h : t.okK) (hs : t.size ≤ 10) (b : Da) (hb : noD b = true) (hbt : isTreeB b = false) : ∀ v ∈ callsD t.da b, C0 n__law_word [.val v] = .ok (.str "malformed", [.un]) := by
  have nt := not_turn t h hs 190
  have nw : ∀ v ∈ wrongs, callF T 196 n_check_turn [.val t.da, .val v] = .exc ⟨1, none⟩ [.un, .un] := fun v hv => check_turn_no 190 t h (by omega) v (nt v hv)
  intro v hv
  refine word_mal 198 v ?_
  unfold callsD at hv
  simp only [List.mem_append, List.mem_map, List.mem_cons, List.not_mem_nil, or_false] at hv
  rcases hv with (((rfl | rfl | rfl | rfl | rfl | rfl) | ⟨w, hw, rfl⟩) | ⟨w, hw, rfl⟩) | ⟨w, hw, rfl⟩
  · exact call0_bad 197 b _ (turns_bad 191 b hb hbt)
  · exact call1_bad 197 b _ (row_to_right_bad 191 b hb hbt)
  · exact call2_bad 197 b _ (turns_to_right_bad 191 b hb hbt)
  · exact call3_bad 197 b _ (turn_no 196 b _ (check_turn_bad 190 b _ hb hbt))
  · exact call4_bad 197 b _ (undoing_no 196 b _ (check_turn_bad 190 b _ hb hbt))
  · exact call5_bad 197 b _ (stations_bad 191 b _ hb hbt)
  · exact call3_bad 197 t.da w (turn_no 196 t.da w (nw w hw))
  · exact call4_bad 197 t.da w (undoing_no 196 t.da w (nw w hw))
  · refine call5_bad 197 t.da w ?_
    unfold odds at hw
    simp only [List.mem_cons, List.not_mem_nil, or_false] at hw
    rcases hw with rfl | rfl | rfl | rfl | rfl | rfl | rfl | rfl
    · exact stations_no 191 t h (by omega) _ rfl (.inl fun xs z => by cases z)
    · exact stations_no 191 t h (by omega) _ rfl (.inl fun xs z => by cases z)
    · exact stations_no 191 t h (by omega) _ rfl (.inr (.inr ⟨_, rfl, nt _ (by simp [wrongs])⟩))
    · exact stations_no 191 t h (by omega) _ rfl (.inr (.inr ⟨_, rfl, nt _ (by simp [wrongs])⟩))
    · exact stations_no 191 t h (by omega) _ rfl (.inr (.inr ⟨_, rfl, nt _ (by simp [wrongs])⟩))
    · exact stations_no 191 t h (by omega) _ rfl (.inr (.inr ⟨_, rfl, nt _ (by simp [wrongs])⟩))
    · exact stations_no 191 t h (by omega) _ (by decide +kernel) (.inr (.inl ⟨_, rfl, by simp⟩))
    · exact stations_no 191 t h (by omega) _ rfl (.inl fun xs z => by cases z)
theorem l26 (ns : List Int) (t : Tr) (h : t.okK) (hs : t.size ≤ 10) {d : Da} (hd : isDraw d) (q c5 c6 c7 c8 c9 c10 c11 : Sl) (w m s : Da) : ∃ d' b, isDraw d' ∧ noD b = true ∧ isTreeB b = false ∧
    (sv T C0 s_law_26).s (e2 ns d t.da q c5 c6 c7 c8 c9 c10 c11 w m s) = .ok (.nx, en ns d' t.da q c5 c6 c7 c8 c9 c10 c11 (.val w) (.val m) (.val s) (.val b) .un .un) := by
  obtain ⟨d', b, hd', hb, hbt, e⟩ := not_tree_ok 197 hd t
  refine ⟨d', b, hd', hb, hbt, ?_⟩
  have e' : C0 n__law_not_tree [.own 1 d, .val t.da] = _ := e
  unfold e2
  generalize t.da = z at *
  generalize C0 = c at *
  simp [ss, sq, ee, ee2, el, et, rs, vv, vm, vt, vc, vi, vp, va, e0, evVar, evBor, evMv, two, rr, L2.ixN, bnA, bnS, bnM, bnQ, bnF, bnR, mulOk_l, mulOk_r, addI, ix3_0, ix3_1, ix3_2, ix2_0, ix2_1, il2_0, il2_1, il3_0, il3_1, il3_2, il4_0, il4_1, il4_2, il4_3, il5_0, il5_1, il5_2, il5_3, il5_4, il6_0, il6_1, il6_2, il6_3, il6_4, il6_5, il7_0, il7_1, il7_2, il7_3, il7_4, il7_5, il7_6, il8_0, il8_1, il8_2, il8_3, il8_4, il8_5, il8_6, il8_7, il9_0, il9_1, il9_2, il9_3, il9_4, il9_5, il9_6, il9_7, il9_8, sl3_to0, sl3_to1, sl3_to2, sl3_to_1, sl3_from1, sl3_from2, sl3_from3, b1D, b2D, setB, setv, putI, ownB, ownL, cmpD, eqD, scalEq, truB, truD, itl, itt, finR, finSl, callV, resolve, ownArgs, nodupN, putBack, hasV, eachB, tgn, tgt, tgl, tsn, tsc, isTyOk, isTy, lcStep, wipeE, evLc, plainAt, lockOf, lock, unlk, unlock, restE, isC, isNoneD, sizeLine_eq, e']
theorem l27 (ns : List Int) (d z b : Da) (q c5 c6 c7 c8 c9 c10 c11 : Sl) (w m s : Da) : 
    (sv T C0 s_law_27).s (en ns d z q c5 c6 c7 c8 c9 c10 c11 (.val w) (.val m) (.val s) (.val b) .un .un) = .ok (.nx, en ns d z q c5 c6 c7 c8 c9 c10 c11 (.val w) (.val m) (.val s) (.val b) (.val (.list wrongs)) .un) := by
  generalize C0 = c
  kernel_rfl
theorem l28 (ns : List Int) (d z b : Da) (q c5 c6 c7 c8 c9 c10 c11 : Sl) (h5 : plainSl c5) (w m s : Da) : 
    (sv T C0 (.seq s_law_28 (.seq s_law_29 .skip))).s (en ns d z q c5 c6 c7 c8 c9 c10 c11 (.val w) (.val m) (.val s) (.val b) (.val (.list wrongs)) .un) = .ok (.nx, en ns d z q c5 c6 c7 c8 c9 c10 c11 (.val w) (.val m) (.val s) (.val b) (.val (.list wrongs)) (.val (.list (callsD z b)))) := by
  generalize C0 = c
  rcases h5 with rfl | ⟨q5, rfl⟩ <;> kernel_rfl
theorem l30 (ns : List Int) (t : Tr) (h : t.okK) (hs : t.size ≤ 10) (d b : Da) (hb : noD b = true) (hbt : isTreeB b = false) (q c5 c6 c7 c8 c9 c10 c11 : Sl) (w m s : Da) : 
    (sv T C0 (.seq s_law_30 .skip)).s (en ns d t.da q c5 c6 c7 c8 c9 c10 c11 (.val w) (.val m) (.val s) (.val b) (.val (.list wrongs)) (.val (.list (callsD t.da b)))) = .ok (.ret (.bool true), en ns d t.da q c5 c6 c7 c8 c9 c10 c11 (.val w) (.val m) (.val s) (.val b) (.val (.list wrongs)) (.val (.list (callsD t.da b)))) := by
  have hm := all_mal t h hs b hb hbt
  have n1 : (callsD t.da b).length ≤ 16777216 := by
    have : (callsD t.da b).length = 32 := rfl
    omega
  have p1 := lcLoop_tfil (step := lcStep [20] (.nm 20) (ev T C0 lc_law_9).c (ev T C0 le_law_9).e) (env := en ns d t.da q c5 c6 c7 c8 c9 c10 c11 (.val w) (.val m) (.val s) (.val b) (.val (.list wrongs)) (.val (.list (callsD t.da b)))) id id (fun _ => false) (callsD t.da b) (fun v hv => by
    have hw := hm v hv
    generalize callsD t.da b = cd at *
    generalize wrongs = wr at *
    generalize t.da = z at *
    generalize C0 = c at *
    simp [ss, sq, ee, ee2, el, et, rs, vv, vm, vt, vc, vi, vp, va, e0, evVar, evBor, evMv, two, rr, L2.ixN, bnA, bnS, bnM, bnQ, bnF, bnR, mulOk_l, mulOk_r, addI, ix3_0, ix3_1, ix3_2, ix2_0, ix2_1, il2_0, il2_1, il3_0, il3_1, il3_2, il4_0, il4_1, il4_2, il4_3, il5_0, il5_1, il5_2, il5_3, il5_4, il6_0, il6_1, il6_2, il6_3, il6_4, il6_5, il7_0, il7_1, il7_2, il7_3, il7_4, il7_5, il7_6, il8_0, il8_1, il8_2, il8_3, il8_4, il8_5, il8_6, il8_7, il9_0, il9_1, il9_2, il9_3, il9_4, il9_5, il9_6, il9_7, il9_8, sl3_to0, sl3_to1, sl3_to2, sl3_to_1, sl3_from1, sl3_from2, sl3_from3, b1D, b2D, setB, setv, putI, ownB, ownL, cmpD, eqD, scalEq, truB, truD, itl, itt, finR, finSl, callV, resolve, ownArgs, nodupN, putBack, hasV, eachB, tgn, tgt, tgl, tsn, tsc, isTyOk, isTy, lcStep, wipeE, evLc, plainAt, lockOf, lock, unlk, unlock, restE, isC, isNoneD, sizeLine_eq, hw])
  have hff : (callsD t.da b).filter (fun _ => false) = [] := by simp
  rw [hff, List.map_nil, List.map_id] at p1
  have hq : eqD (.list []) (.list []) = some true := by kernel_rfl
  generalize callsD t.da b = cd at *
  generalize wrongs = wr at *
  generalize t.da = z at *
  generalize C0 = c at *
  simp [ss, sq, ee, ee2, el, et, rs, vv, vm, vt, vc, vi, vp, va, e0, evVar, evBor, evMv, two, rr, L2.ixN, bnA, bnS, bnM, bnQ, bnF, bnR, mulOk_l, mulOk_r, addI, ix3_0, ix3_1, ix3_2, ix2_0, ix2_1, il2_0, il2_1, il3_0, il3_1, il3_2, il4_0, il4_1, il4_2, il4_3, il5_0, il5_1, il5_2, il5_3, il5_4, il6_0, il6_1, il6_2, il6_3, il6_4, il6_5, il7_0, il7_1, il7_2, il7_3, il7_4, il7_5, il7_6, il8_0, il8_1, il8_2, il8_3, il8_4, il8_5, il8_6, il8_7, il9_0, il9_1, il9_2, il9_3, il9_4, il9_5, il9_6, il9_7, il9_8, sl3_to0, sl3_to1, sl3_to2, sl3_to_1, sl3_from1, sl3_from2, sl3_from3, b1D, b2D, setB, setv, putI, ownB, ownL, cmpD, truB, truD, itl, itt, finR, finSl, callV, resolve, ownArgs, nodupN, putBack, hasV, eachB, tgn, tgt, tgl, tsn, tsc, isTyOk, isTy, lcStep, wipeE, evLc, plainAt, lockOf, lock, unlk, unlock, restE, isC, isNoneD, sizeLine_eq, n1, p1, hq]
theorem runs (ns : List Int) (h : ns.length ≤ 63) : ∃ outs, callF T 200 n_law [.scr ns] = .ok (.bool true, outs) := by
  obtain ⟨d0, hd0, e0⟩ := l0 ns h
  obtain ⟨d1, t, hd1, hs, hk, e1⟩ := l1 ns d0 hd0
  have e2 := l2 ns t hk hs d1
  have e3 := l3 ns t hk hs d1
  have e5 := l5 ns d1 t.da (wsL t)
  obtain ⟨d6, ws, c5, c9, c10, c11, hd6, w1, w2, w3, h5, h9, h10, h11, e6⟩ := l6 ns t hk hs hd1
  have e18 := l18 ns t hk hs d6 ws w1 w2 w3 c5 c9 c10 c11
  have e20 := l20 ns t hk hs d6 (wsL t) c5 (.own 0 (.list (ws.map wd))) (.val (endT t ws).da) (.own 0 (.list ((Tr.follow t ws).map Tr.da))) c9 c10 c11
  have e22 := l22 ns t hk hs d6 (wsL t) c5 (.own 0 (.list (ws.map wd))) (.val (endT t ws).da) (.own 0 (.list ((Tr.follow t ws).map Tr.da))) c9 c10 c11 h5
  have e24 := l24 ns t hk hs d6 (wsL t) c5 (.own 0 (.list (ws.map wd))) (.val (endT t ws).da) (.own 0 (.list ((Tr.follow t ws).map Tr.da))) c9 c10 c11
  obtain ⟨d7, b, hd7, hb, hbt, e26⟩ := l26 ns t hk hs hd6 (wsL t) c5 (.own 0 (.list (ws.map wd))) (.val (endT t ws).da) (.own 0 (.list ((Tr.follow t ws).map Tr.da))) c9 c10 c11 (.tuple ((rts t).map wd)) (.int ((t.size : Nat) - (t.spine : Nat) : Int)) (.list ((Tr.follow t (rts t)).map Tr.da))
  have e27 := l27 ns d7 t.da b (wsL t) c5 (.own 0 (.list (ws.map wd))) (.val (endT t ws).da) (.own 0 (.list ((Tr.follow t ws).map Tr.da))) c9 c10 c11 (.tuple ((rts t).map wd)) (.int ((t.size : Nat) - (t.spine : Nat) : Int)) (.list ((Tr.follow t (rts t)).map Tr.da))
  have e28 := l28 ns d7 t.da b (wsL t) c5 (.own 0 (.list (ws.map wd))) (.val (endT t ws).da) (.own 0 (.list ((Tr.follow t ws).map Tr.da))) c9 c10 c11 h5 (.tuple ((rts t).map wd)) (.int ((t.size : Nat) - (t.spine : Nat) : Int)) (.list ((Tr.follow t (rts t)).map Tr.da))
  have e30 := l30 ns t hk hs d7 b hb hbt (wsL t) c5 (.own 0 (.list (ws.map wd))) (.val (endT t ws).da) (.own 0 (.list ((Tr.follow t ws).map Tr.da))) c9 c10 c11 (.tuple ((rts t).map wd)) (.int ((t.size : Nat) - (t.spine : Nat) : Int)) (.list ((Tr.follow t (rts t)).map Tr.da))
  refine ⟨[.un], ?_⟩
  rw [call_fn (g := F_law) rfl rfl]
  show finR _ ((sv T C0 (.seq s_law_0 (.seq s_law_1 (.seq s_law_2 (.seq s_law_3 (.seq s_law_5 (.seq s_law_6 (.seq s_law_18 (.seq s_law_20 (.seq s_law_21 (.seq s_law_22 (.seq s_law_24 (.seq s_law_26 (.seq s_law_27 (.seq s_law_28 (.seq s_law_29 (.seq s_law_30 .skip))))))))))))))))).s (.scr ns :: List.replicate 20 .un)) = _
  rw [seq_nx e0, seq_nx e1, seq_nx e2, seq_nx e3, seq_nx e5, seq_nx e6, seq_nx e18, seq2_nx e20, seq_nx e22, seq_nx e24, seq_nx e26, seq_nx e27, seq2_nx e28, e30]
  rfl

end K20
end
section
set_option Elab.async false
set_option linter.all false
set_option maxRecDepth 100000
set_option maxHeartbeats 0
open PySem PySem.W PySem.Calls PyProof.Rows
theorem PySem.Challenge.cw_shelfkinds_k20_whole_turns_holds : PySem.Challenge.rw_shelfkinds_k20_whole_turns.Holds := by
  w_on; o_law
  refine HandSHeadRun.head_any (r := OpenLaw.row PySem.Challenge.rw_shelfkinds_k20_whole_turns) (q := view (OpenLaw.row PySem.Challenge.rw_shelfkinds_k20_whole_turns).prog [60]) (H := K20.hk) (ob := K20.ob) (M := 3000) (loose := K20.names) (d := HandSHeadRun.topDef (OpenLaw.row PySem.Challenge.rw_shelfkinds_k20_whole_turns).prog 60) (kwd := []) K20.ob_eq
    (by kernel_rfl) (fun s => by kernel_rfl) K20.run (by kernel_rfl) (by kernel_rfl) (by kernel_rfl) (by rfl) (by first | assumption | decide +kernel) (by decide +kernel) ⟨rfl, rfl, rfl, rfl, rfl, by decide +kernel⟩ ?hw ?hc
  case hw => w_witness2
  case hc =>
    refine L2.walk_ofE (l := PySem.Challenge.rw_shelfkinds_k20_whole_turns) (n := 63) (k := 203) (x := "script") (CX := L2.CX0) rfl (by decide) (by kernel_rfl) ⟨rfl, by decide, by decide⟩ ?F (fun _ _ _ _ z => z)
    intro w mg fa h Y G hmg0
    exact PI.law_F (T := K20.T) (fn := K20.fn) (f := K20.n_law) (g := K20.F_law) (F := K20.mf) rfl rfl (by kernel_rfl) (by kernel_rfl) K20.tbl K20.runs Y G hmg0
end
