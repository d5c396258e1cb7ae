import PyProof.Rows.All
import HandS.Call
import HandS.List
import HandS.ExcInit
import HandS.ExcValue
import KE.KExcSuper
import HandS.ForMost
import HandS.Walk
import HandS.Zip
import HandS.IsInst
import HandS.Wide
import HandS.Style
import HandS.Conv
import HandS.SetKeys
import HandS.Deep
import HandS.Lambda
import HandS.TupAny
import HandS.TupMul
import HandS.TupLe
import HandS.WideBits
import HandS.WordsExc
import HandS.Exc
import HandS.TupLen
import HandS.ExcIs
import KE.GoesZip
import KE.GoesMore
import HandS.Zip0
import HandS.Flow
import HandS.ExcField
import HandS.SortKw
import PyProof.WalkInts
import PyProof.WalksMore
import KE.KDictLaws
import HandS.SortRule
import HandS.TupSets
import PyProof.TupleOfSeq
import HandS.SetFor
import KE.KDictZip
import HandS.Star
import HandS.EndBits
import HandS.Words
import HandS.Defaults
import HandS.MakeKw
import KE.KDflt
import PySem.Challenge.RW_anytower_k02_partings_refused
set_option Elab.async false
set_option linter.all false
set_option maxRecDepth 100000
set_option maxHeartbeats 4000000
/-! an own exception class whose __init__ begins with super().__init__(..) and whose bases are own classes over ValueError -/
namespace De
open PySem PySem.Spec PyProof.Rows L2

/-- the context of a def that closes over cells of the written part -/
def cxX (CX : CXT) (P : Program) (w : World) (K : PySem.W.Frag) (mg : Str → Option Value) (base : Heap) (N : List Str) (qual : Str) (scope : Scope) (f : Addr) (cd : Value) (cl : List (Str × Addr)) (A : Around) (outer : List Env) (s : Shared) (H : Hp) (E : XK) : Cx where
  prog := P
  w := w
  K := K
  mg := mg
  base := base
  A := A.deeper (PySem.W.envX qual scope s.heap.objs.size f cd cl)
  N := N
  s_0 := s
  H_0 := H
  env := PySem.W.envX qual scope s.heap.objs.size f cd cl
  outer := outer
  stack := PySem.W.envX qual scope s.heap.objs.size f cd cl :: outer
  ex := []
  fn := fun _ => false
  calm := true
  pn := []
  xe := fun e s' => wpAny (model P w) (A.deeper (PySem.W.envX qual scope s.heap.objs.size f cd cl)) (leaving (PySem.W.envX qual scope s.heap.objs.size f cd cl) e) (fun _ s'' => CX outer H s E e s'') (fun e' s'' => CX outer H s E e' s'') s'

theorem look_none {y : Str} : ∀ {ps : List Str} {us : List Value}, y ∉ ps → (ps.zip us).reverse.lookup y = none
  | [], _, _ => by simp
  | _ :: _, [], _ => by simp
  | p :: ps, u :: us, h => by
    simp only [List.mem_cons, not_or] at h
    rw [List.zip_cons_cons, List.reverse_cons, List.lookup_append, look_none h.2]
    have e : (y == p) = false := beq_eq_false_iff_ne.mpr h.1
    simp [List.lookup, e]
theorem look_zip : ∀ {ps : List Str} {us : List Value} {i : Nat} {y : Str} {u : Value}, ps.Nodup → ps[i]? = some y → us[i]? = some u → (ps.zip us).reverse.lookup y = some u
  | [], _, _, _, _, _, h, _ => by simp at h
  | _ :: _, [], _, _, _, _, _, h => by simp at h
  | p :: ps, u0 :: us, 0, y, u, nd, h1, h2 => by
    have e1 : p = y := by simpa using h1
    have e2 : u0 = u := by simpa using h2
    subst e1 e2
    rw [List.zip_cons_cons, List.reverse_cons, List.lookup_append, look_none (List.nodup_cons.mp nd).1]
    simp [List.lookup]
  | p :: ps, u0 :: us, i + 1, y, u, nd, h1, h2 => by
    rw [List.zip_cons_cons, List.reverse_cons, List.lookup_append, look_zip (List.nodup_cons.mp nd).2 (by simpa using h1) (by simpa using h2)]
    rfl

theorem inv_startX {CX : CXT} {P : Program} {w : World} {K : PySem.W.Frag} {mg : Str → Option Value} {base : Heap} {ps : List Str} {qual : Str} {scope : Scope} {f cc : Addr} {cd : Value} {A : Around} {outer : List Env} {s : Shared} {H : Hp} {E : XK} {us : List Value} {vs : List V} {h₁ : Heap} {tk : Nat}
    (hk : scope.kind = .function) (hfr : ∀ y, scope.names.lookup y = some .cell ∨ scope.names.lookup y = some .free → y = "__class__") (hloc : ∀ y ∈ ps, scope.names.lookup y = some .local) (nd : ps.Nodup)
    (hcc : ∃ o v, K.lookup cc = some o ∧ o.data = .cell v) (hd : A.handled = none) (e0 : Env0 P w K mg base A outer s H) (hl : vs.length = ps.length) (r : Vals vs us)
    (hns : h₁.Ns s.heap.objs.size fun y => (ps.zip us).reverse.lookup y) (kp : ∀ b o, s.heap.get? b = some o → h₁.get? b = some o) :
    Inv (cxX CX P w K mg base ps qual scope f cd [("__class__", cc)] A outer s H E) [] (vs.map some) H { s with heap := h₁, toks := tk } := by
  have noA : ∀ b : Addr, b ∉ (cxX CX P w K mg base ps qual scope f cd [("__class__", cc)] A outer s H E).ex := fun b z => absurd (show b ∈ ([] : List Addr) from z) (by simp)
  have cell1 : ∀ {y : Str} {c : Addr}, ([("__class__", cc)] : List (Str × Addr)).lookup y = some c → y = "__class__" ∧ c = cc := fun {y c} h => by
    by_cases e : y = "__class__"
    · subst e
      simp [List.lookup] at h
      exact ⟨rfl, h.symm⟩
    · have e2 : (y == ("__class__" : Str)) = false := beq_eq_false_iff_ne.mpr e
      simp [List.lookup, e2] at h
  obtain ⟨o, v, hK, hdata⟩ := hcc
  have hb : base.get? cc = some o := e0.mod.kin _ _ hK
  obtain ⟨hs, hH⟩ := e0.bs _ _ hb
  refine ⟨⟨e0.mod, hk, rfl, rfl, Nat.le_refl _, fun y z c h1 h2 => ?_, fun y hy => ?_, fun y c z _ => ?_, fun _ => hd, Around.frames_deeper e0.frames, .inr ⟨rfl, rfl⟩, fun b z => absurd z (noA b), e0.bs, e0.bsz, fun b _ _ => noA b, fun b z => absurd z (noA b), e0.funs, e0.frf⟩,
    rfl, e0.bare, Un.kept kp, ⟨_, hns, fun i y v h1 h2 h3 => ?_⟩, fun y c h => ?_, e0.hok.fresh (Nat.le_refl _), fun y c h => ?_, fun p hp => absurd (show p ∈ ([] : List (Addr × Obj)) from hp) (by simp), e0.hok.kept kp, by rw [List.length_map]; exact hl⟩
  · exact (cell1 h1).1.trans (cell1 h2).1.symm
  · have e := hfr y hy
    subst e
    exact ⟨cc, by show ([("__class__", cc)] : List (Str × Addr)).lookup (("__class__" : Str)) = some cc; simp [List.lookup]⟩
  · have z : false = true := z
    cases z
  · have h1 : ps[i]? = some y := h1
    have ha : vs[i]? = some v := by
      rw [List.getElem?_map] at h2
      cases e : vs[i]? with
      | none => rw [e] at h2; cases h2
      | some a => rw [e] at h2; cases h2; rfl
    obtain ⟨u, hu, rv⟩ := r.get ha
    exact ⟨u, rv, .inl ⟨hloc y (List.mem_of_getElem? h1), look_zip nd h1 hu⟩⟩
  · obtain ⟨_, e⟩ := cell1 h
    subst e
    exact ⟨v, o, kp _ _ hs, hdata⟩
  · obtain ⟨_, e⟩ := cell1 h
    subst e
    exact hH

/-- what the written part says of a class whose __init__ (at f, with the code at cda, the cell at cc) says super().__init__ -/
structure SupC (P : Program) (K : PySem.W.Frag) (C f cc cda : Addr) (fd : FuncData) (first : Str) : Prop where
  ox : OexC K C
  fn : ∃ oc od osl, K.lookup f = some ⟨oc, od, .func fd, osl⟩
  arg : ∃ ar : Arg, (fd.params.posonlyargs ++ fd.params.args).head? = some ar ∧ ar.arg = first
  code : ∃ c1 c2 vs c3 file tf, K.lookup cda = some ⟨c1, c2, .fields vs, c3⟩ ∧ vs[2]? = some (.str file tf) ∧ ((P.main.file : Str) == file) = true
  cell : ∃ c1 c2 c3, K.lookup cc = some ⟨c1, c2, .cell (some (.ref C)), c3⟩
  top : (P.main.scope.names.lookup ("super" : Str)).isSome = false
  own : PySem.W.mroIn K C (.ref C) = some true
  sup : PySem.W.ks_superIn K C C "__init__" = some (some (.builtin "ValueError.__init__"))
  isV : PySem.W.subIn K (.ref C) (.type "ValueError") = some true
  any : PySem.W.nsIn K PySem.cStatics "thirdparty.any" = some none

section
variable {X : Cx} {pins : List (Addr × Obj)} {σ : L2.St} {H : Hp} {s : Shared} {E : Value → Shared → Prop}
theorem cls_of {K : PySem.W.Frag} {C : Addr} (T : OexC K C) : ∃ cd, PySem.W.clsIn K C = some cd := by
  obtain ⟨nm, q, N, bs, bm, sn, sub, ab, col, dd, k0, k1, k2, k3, k5, hC, hbm⟩ := T.cls
  exact ⟨_, by unfold PySem.W.clsIn; rw [hC] <;> rfl⟩
theorem exo_inst {C x : Addr} (I : Inv X pins σ H s) (e : H x = some (exo x C none)) : ∃ ox, PySem.W.InstAt s.heap x ox C none ∧ ∃ vs, ox.data = .fields vs := by
  obtain ⟨t1, ho⟩ := exo_at I.hok e
  exact ⟨_, ⟨ho, rfl, rfl, trivial⟩, _, rfl⟩
/-- super().__init__(es) -/
theorem super_init {body : List Stmt} {p0 p1 apos pos : Pos} {first : Str} {f cc cda C x : Addr} {fd : FuncData} {es : List Expr} {e1 : Expr} {ta : TA} {pl : Sem Bool} {Q : Value → Shared → Prop}
    (T : SupC X.prog X.K C f cc cda fd first) (I : Inv X [] σ H s) (hpn : X.pn = []) (hfu : X.env.func = some f) (hco : X.env.code = .ref cda) (hcl : X.env.cells.lookup ("__class__" : Str) = some cc) (hks : X.env.scope.names.lookup ("super" : Str) = some .globalImplicit) (hkc : X.env.scope.names.lookup ("__class__" : Str) = some .free)
    (hka : X.env.scope.names.lookup first = some .local) (hm : X.mg "super" = none) (hN : X.N[0]? = some first) (hs0 : σ[0]? = some (some (.ref x))) (hx : H x = some (exo x C none)) (ha : PA X (e1 :: es) ta)
    (hq : ta σ H fun vs H1 => H1 x = some (exo x C none) ∧ vs.length ≤ 1000 ∧ ∀ s', Inv X [] σ H1 s' → Q .none s')
    (he : eval (.Call (.Attribute (.Call (.Name "super" p0) [] [] p1) "__init__" apos) (e1 :: es) [] pos) X.env = (do
      let ov ← attributeBase (.Call (.Name "super" p0) [] [] p1) "__init__" X.env (eval (.Call (.Name "super" p0) [] [] p1) X.env)
      standAt apos.atName
      let (f, first) ← holding [ov] (getMethod ov "__init__" pl)
      callWith pos f first (backTo pos (starEach (e1 :: es) X.env)) []))
    (hst : starEach (e1 :: es) X.env = (false, eval e1 X.env) :: starEach es X.env) (hpl : (backTo pos (starEach es X.env)).any (·.1) = false) :
    PySem.wpAt (model X.prog X.w) X.A (.func body X.env) (eval (.Call (.Attribute (.Call (.Name "super" p0) [] [] p1) "__init__" apos) (e1 :: es) [] pos) X.env) Q X.xe s := by
  obtain ⟨cd, hcd⟩ := cls_of T.ox
  obtain ⟨oc, od, osl, hf⟩ := T.fn
  obtain ⟨ar, har, hae⟩ := T.arg
  obtain ⟨c1, c2, vs2, c3, file, tf, hcode, hvs, hfile⟩ := T.code
  obtain ⟨d1, d2, d3, hcell⟩ := T.cell
  have X0 := I.kIn
  refine PySem.ks_wpAt_MethodCall (pl := pl) ?_ he
  refine PySem.ks_wpAt_super_base hks hkc (by decide) hfu (X0 _ _ hf) rfl har hco (X0 _ _ hcode) rfl hvs hfile T.top ?_
  obtain ⟨mb, hb1, hb2⟩ := I.mod.blt
  refine PySem.W.ks_loadName_global I.ok.kind hks (PySem.Calls.loadGlobal_builtin (by rw [I.ok.glob]; exact I.mod.glob.keeps I.bk) hm (by rw [I.ok.blt]; exact hb1.keeps I.bk) ((hb2 _ (by decide)).trans PyProof.Rows.Boot.«super») ⟨rfl, ?_⟩)
  refine wpAny_loadName_free I.ok.kind hkc hcl ⟨_, X0 _ _ hcell, rfl⟩ ?_
  obtain ⟨m, hns, hl⟩ := id I.loc
  obtain ⟨u, ru, lk⟩ := hl 0 first (.ref x) hN hs0 (.inl hka)
  obtain rfl : u = Value.ref x := ru
  have hmx : m first = some (.ref x) := by
    rcases lk with ⟨_, e⟩ | ⟨k, _⟩
    · exact e
    · have k : X.env.scope.names.lookup first = some .cell ∨ X.env.scope.names.lookup first = some .free := k
      rw [hka] at k
      rcases k with k | k <;> cases k
  rw [hae]
  refine wpAny_loadName_local I.ok.kind hka hns hmx ?_
  obtain ⟨oD, hD1, hD2⟩ : ∃ oD, s.heap.get? C = some oD ∧ oD.data = .cls cd := by
    unfold PySem.W.clsIn at hcd
    split at hcd
    · rename_i c d cd' sl ho
      cases hcd
      exact ⟨_, X0 _ _ ho, rfl⟩
    · cases hcd
  obtain ⟨ox, J, vs0, hox⟩ := exo_inst I hx
  obtain ⟨hp, g, d, t, os⟩ := s
  refine PySem.ks_wpAny_isType_cls hD1 hD2 ⟨rfl, ?_⟩
  refine PySem.ks_wpAny_call_super hD1 hD2 J.at_ J.cls (fun c e => by rw [hox] at e; cases e) (PySem.W.looks_mroIn X0 T.own) (fun h' hso kso => ?_)
  have I1 : Inv X [] σ H ⟨h', g, d, t, os⟩ := I.kept (t' := t) kso
  obtain ⟨ox1, J1, _⟩ := exo_inst I1 hx
  have hsup := T.sup
  unfold PySem.W.ks_superIn at hsup
  rw [hcd] at hsup
  refine PySem.W.kxs_getMethod PySem.W.kxs_ValueError hso (PySem.W.looks_opaque I1.kIn T.any) (l₀ := cd.mro) (fun A Q E s k q => wpAny_bind ((PySem.W.looks_clsIn I1.kIn hcd) A _ E s k (wpAny_pure q))) rfl I1.kIn hsup (J1.type.andThen (PySem.W.looks_subIn I1.kIn T.isV)) (PySem.W.ks_ne I1.kIn J1 hcd) (by decide) ?_
  have I2 : Inv X [(h'.objs.size, PySem.W.kxs_mw "ValueError.__init__" x)] σ H ⟨h'.push (PySem.W.kxs_mw "ValueError.__init__" x), g, d, t + 1, os⟩ := by
    have I2 : Inv X [] σ H ⟨h'.push (PySem.W.kxs_mw "ValueError.__init__" x), g, d, t + 1, os⟩ := I1.kept (t' := t + 1) fun b o e => Heap.get?_push_of_some _ e
    refine I2.pins_of fun p hp => ?_
    rw [List.mem_singleton.mp hp]
    exact ⟨Heap.get?_push_at rfl rfl, I1.hok.fresh (Nat.le_refl _), Nat.ne_of_gt I1.lt, I1.nofs (Nat.le_refl _), fun v z => by cases z⟩
  refine PySem.W.kxs_callWith (i := "ValueError.__init__") (x := x) (by rw [hst]; show (false || (backTo pos (starEach es X.env)).any (·.1)) = false; rw [hpl]; rfl) ?_
  have hsp := ha.run pos _ _ σ H _ I2 hq
  rw [hst] at hsp ⊢
  refine PySem.Calls.evalArgs_plain ?_
  refine thn hsp fun us s1 hu => ?_
  obtain ⟨vs, H1, I3, r3, hx3, hlen, hq3⟩ := hu
  obtain ⟨hu3, _⟩ := I3.pin (h'.objs.size, PySem.W.kxs_mw "ValueError.__init__" x) (List.mem_append_right _ (List.mem_singleton.mpr rfl))
  refine ⟨hu3, ?_⟩
  obtain ⟨nm, q, N, bs, bm, sn, sub, ab, col, dd, k0, k1, k2, k3, k5, hC, hbm⟩ := T.ox.cls
  obtain ⟨t1, ho⟩ := exo_at I3.hok hx3
  have hus : us.length ≤ sizeLine := by
    rw [← Paired.length r3, sizeLine_eq]
    omega
  obtain ⟨hh, g3, d3', tk3, os3⟩ := s1
  refine wpAny_call (codeAny_of_tree ?_)
  show wpAny _ X.A.in1 (callAny (.ref h'.objs.size) ⟨us, []⟩) _ _ _
  simp only [callAny]
  refine wpAny_bind (wpAny_load hu3 ?_)
  simp only [PySem.W.kxs_mw, show (Value.type "method-wrapper" == Value.type "method" || Value.type "method-wrapper" == Value.type "builtin_function_or_method" || Value.type "method-wrapper" == Value.type "method-wrapper") = true by decide, if_true]
  refine PySem.W.KFB.if_so (by decide) ?_
  refine wpAny_bind (PySem.W.check_bound_init PySem.F.excBase_ValueError.toExcCallFacts (I3.kIn _ _ hC) ho rfl ?_)
  refine wpAny_bind (wpAny_pure (wpAny_pure ?_))
  refine ⟨plainId_quiet PySem.F.excBase_ValueError.init.plain _, codeAny_builtin PySem.F.excBase_ValueError.initEntry ?_⟩
  refine PySem.W.exc_init_tree (cls := .ref C) (t0 := t1) (dv := none) (c2 := .none) (c3 := .none) (b4 := .bool false) ho hus fun h4 k4 hx4 _ => ?_
  have J4 := I3.write (t' := tk3) (x := x) (e := x) (o := exo x C none) (by rw [hx3]; exact True.intro) (.inl rfl) k4 ⟨_, hx4⟩ (exo_ok hx4)
  have e4 : upd H1 x (exo x C none) = H1 := by
    funext b
    by_cases hb : b = x
    · rw [hb, upd_same, hx3]
    · rw [upd_ne hb]
  rw [e4] at J4
  exact hq3 _ (J4.pins_of fun p hp => absurd hp (by simp))
end
section
variable {CX : CXT} {P : Program} {w : World} {K : PySem.W.Frag} {mg : Str → Option Value} {base : Heap}
/-- such a def whole: its first row is super().__init__(..) -/
theorem fn_super {k : Nat} {f cc cda C : Addr} {first name qual : Str} {ps : List Str} {sp : Sp} {params : Arguments} {scope : Scope} {dV kV doc pm ct : Value} {an : Option Addr} {pl : Env → Sem Bool} {p0 p1 apos pos epos : Pos} {e1 : Expr} {es : List Expr} {rest : List Stmt}
    (T : SupC P K C f cc cda (PySem.W.fnX name qual params (.Expr (.Call (.Attribute (.Call (.Name "super" p0) [] [] p1) "__init__" apos) (e1 :: es) [] pos) epos :: rest) scope [("__class__", cc)] dV kV doc pm an (.ref cda) ct) first)
    (hcd : PySem.W.codeIn K (.ref cda) qual = true) (sk : scope.kind = .function) (co : scope.isCoroutine = false) (gen : scope.isGenerator = false) (hnc : ∀ x ∈ scope.names, x.2 ≠ .cell)
    (hfr : ∀ y, scope.names.lookup y = some .cell ∨ scope.names.lookup y = some .free → y = "__class__") (hloc : ∀ y ∈ ps, scope.names.lookup y = some .local) (nd : ps.Nodup)
    (hks : scope.names.lookup ("super" : Str) = some .globalImplicit) (hkc : scope.names.lookup ("__class__" : Str) = some .free) (hm : mg "super" = none) (hN : ps[0]? = some first)
    (hsw : ∀ env, swapsWith (.Call (.Attribute (.Call (.Name "super" p0) [] [] p1) "__init__" apos) (e1 :: es) [] pos) none epos.line env = pure false)
    (he : ∀ env, eval (.Call (.Attribute (.Call (.Name "super" p0) [] [] p1) "__init__" apos) (e1 :: es) [] pos) env = (do
      let ov ← attributeBase (.Call (.Name "super" p0) [] [] p1) "__init__" env (eval (.Call (.Name "super" p0) [] [] p1) env)
      standAt apos.atName
      let (f, first) ← holding [ov] (getMethod ov "__init__" (pl env))
      callWith pos f first (backTo pos (starEach (e1 :: es) env)) []))
    (hst : ∀ env, starEach (e1 :: es) env = (false, eval e1 env) :: starEach es env) (hpl : ∀ env, (backTo pos (starEach es env)).any (·.1) = false)
    (len : ∀ vs H Q E, sp vs H Q E → vs.length = ps.length)
    (hbody : ∀ (A : Around) (outer : List Env) (s : Shared) (H : Hp) (vs : List V) (Q : VK) (E : XK), sp vs H Q E →
      ∃ x ta t, vs[0]? = some (.ref x) ∧ H x = some (exo x C none) ∧ PA (cxX CX P w K mg base ps qual scope f (.ref cda) [("__class__", cc)] A outer s H E) (e1 :: es) ta ∧ PSs (cxX CX P w K mg base ps qual scope f (.ref cda) [("__class__", cc)] A outer s H E) rest t ∧
        ∀ R : List V → Hp → Prop, (∀ ws H1, H1 x = some (exo x C none) → ws.length ≤ 1000 → t { nx := fun _ H' => Q .non H', rt := Q } (vs.map some) H1 → R ws H1) → ta (vs.map some) H R) :
    FnOk P w K mg base CX (k + 1) f (PySem.W.fnX name qual params (.Expr (.Call (.Attribute (.Call (.Name "super" p0) [] [] p1) "__init__" apos) (e1 :: es) [] pos) epos :: rest) scope [("__class__", cc)] dV kV doc pm an (.ref cda) ct) ps sp := by
  refine ⟨len, fun A outer s H args us vs Q E hr e0 hb r hsp => ?_⟩
  have hl := len _ _ _ _ hsp
  have KX : K.In s.heap := e0.mod.kin.keeps fun b o e => (e0.bs b o e).1
  have lim : s.heap.NoLimit := e0.mod.nolimit.keeps fun b o e => (e0.bs b o e).1
  obtain ⟨oc, od, osl, lk⟩ := T.fn
  refine PySem.ks_codeAny_call_defAt hr.depth (KX _ _ lk) rfl lim (PySem.W.codeRec_of KX hcd) rfl hb hnc (fun y hy => hloc _ (List.of_mem_zip hy).1) (fun h₁ hns kp => ?_) co gen sk
  obtain ⟨x, ta, t, hx0, hx, pa, pss, hta⟩ := hbody A outer s H vs Q E hsp
  obtain ⟨d1, d2, d3, hcell⟩ := T.cell
  have I : Inv (cxX CX P w K mg base ps qual scope f (.ref cda) [("__class__", cc)] A outer s H E) [] (vs.map some) H { s with heap := h₁, toks := s.toks + (ps.zip us).length } :=
    inv_startX sk hfr hloc nd ⟨_, _, hcell, rfl⟩ hr.hd e0 hl r hns kp
  have fin : ∀ {σ' : L2.St} {H' : Hp} {v : V} {u : Value} {s' : Shared}, Inv (cxX CX P w K mg base ps qual scope f (.ref cda) [("__class__", cc)] A outer s H E) [] σ' H' s' → RelV v u → Q v H' → CE outer P w H s Q u s' :=
    fun {σ' H' v u s'} J rv q => ⟨v, H', J.os, J.bare, J.base, J.hok, rv, q⟩
  refine PySem.ks_wpAt_mono (Q := SP (cxX CX P w K mg base ps qual scope f (.ref cda) [("__class__", cc)] A outer s H E) [] { nx := fun _ H' => Q .non H', rt := Q }) (E := (cxX CX P w K mg base ps qual scope f (.ref cda) [("__class__", cc)] A outer s H E).xe) ?_ (fun fl s' hs => ?_) (fun e s' h => h)
  · refine PySem.ks_wpAt_execs_cons (PySem.ks_wpAt_Expr_any ?_ I.quiet (hsw _))
    refine super_init (X := cxX CX P w K mg base ps qual scope f (.ref cda) [("__class__", cc)] A outer s H E) T I rfl rfl rfl (by show ([("__class__", cc)] : List (Str × Addr)).lookup ("__class__" : Str) = some cc; simp [List.lookup]) hks hkc (hloc _ (List.mem_of_getElem? hN)) hm hN (by rw [List.getElem?_map, hx0]; rfl) hx pa ?_ (he _) (hst _) (hpl _)
    exact hta _ fun ws H1 h1 h2 h3 => ⟨h1, h2, fun s' J => wpAt_of_wpAny (pss.run [] s' _ H1 _ J h3)⟩
  · cases fl with
    | ret u =>
      obtain ⟨v, σ', H', J, rv, q⟩ := hs
      exact fin J rv q
    | next =>
      obtain ⟨σ', H', J, q⟩ := hs
      exact fin (v := V.non) (u := Value.none) J rfl q
    | brk =>
      obtain ⟨_, _, _, q⟩ := hs
      exact False.elim q
    | cont =>
      obtain ⟨_, _, _, q⟩ := hs
      exact False.elim q
/-- def __init__(self, p): super().__init__(p); self.p = p -/
def spX1 (C : Addr) (fld : Str) : Sp := fun vs H Q _ => ∃ (x : Addr) (v : V), vs = [.ref x, v] ∧ H x = some (exo x C none) ∧ ∀ dx, H dx = none → dx ≠ x → Q .non (upd (upd H dx (exd dx [(fld, v)])) x (exo x C (some dx)))
/-- .. with two -/
def spX2 (C : Addr) (f1 f2 : Str) : Sp := fun vs H Q _ => ∃ (x : Addr) (v w : V), vs = [.ref x, v, w] ∧ H x = some (exo x C none) ∧ ∀ dx, H dx = none → dx ≠ x → Q .non (upd (upd H dx (exd dx [(f2, w), (f1, v)])) x (exo x C (some dx)))
/-- the body of such an __init__ with one field -/
abbrev body1 (p0 p1 apos pos epos q1 q2 q3 q4 q5 : Pos) (fld : Str) : List Stmt :=
  [.Expr (.Call (.Attribute (.Call (.Name "super" p0) [] [] p1) "__init__" apos) [.Name fld q1] [] pos) epos, .Assign [.Attribute (.Name "self" q2) fld q3] (.Name fld q4) q5]
abbrev body2 (p0 p1 apos pos epos q1 q2 q3 q4 q5 r1 r2 r3 r4 r5 : Pos) (f1 f2 : Str) : List Stmt :=
  [.Expr (.Call (.Attribute (.Call (.Name "super" p0) [] [] p1) "__init__" apos) [.Name f1 q1, .Name f2 r1] [] pos) epos, .Assign [.Attribute (.Name "self" q2) f1 q3] (.Name f1 q4) q5, .Assign [.Attribute (.Name "self" r2) f2 r3] (.Name f2 r4) r5]
/-- what the names of such a def are -/
structure ScX (ps : List Str) (scope : Scope) : Prop where
  sk : scope.kind = .function
  co : scope.isCoroutine = false
  gen : scope.isGenerator = false
  nc : ∀ x ∈ scope.names, x.2 ≠ .cell
  fr : ∀ y, scope.names.lookup y = some .cell ∨ scope.names.lookup y = some .free → y = "__class__"
  loc : ∀ y ∈ ps, scope.names.lookup y = some .local
  nd : ps.Nodup
  ks : scope.names.lookup ("super" : Str) = some .globalImplicit
  kc : scope.names.lookup ("__class__" : Str) = some .free
theorem exc_fn1 {k : Nat} {f cc cda C : Addr} {name qual fld : Str} {params : Arguments} {scope : Scope} {dV kV doc pm ct : Value} {an : Option Addr} {p0 p1 apos pos epos q1 q2 q3 q4 q5 : Pos} {pl : Env → Sem Bool}
    (T : SupC P K C f cc cda (PySem.W.fnX name qual params (body1 p0 p1 apos pos epos q1 q2 q3 q4 q5 fld) scope [("__class__", cc)] dV kV doc pm an (.ref cda) ct) "self")
    (hcd : PySem.W.codeIn K (.ref cda) qual = true) (S : ScX ["self", fld] scope) (hm : mg "super" = none) (hno : PySem.W.findIn K (.ref C) fld = some none) (hdb : (fld == ("__debug__" : Str)) = false) (hcd2 : (fld == ("__classdict__" : Str)) = false)
    (he : ∀ env, eval (.Call (.Attribute (.Call (.Name "super" p0) [] [] p1) "__init__" apos) [.Name fld q1] [] pos) env = (do
      let ov ← attributeBase (.Call (.Name "super" p0) [] [] p1) "__init__" env (eval (.Call (.Name "super" p0) [] [] p1) env)
      standAt apos.atName
      let (f, first) ← holding [ov] (getMethod ov "__init__" (pl env))
      callWith pos f first (backTo pos (starEach [.Name fld q1] env)) [])) :
    FnOk P w K mg base CX (k + 1) f (PySem.W.fnX name qual params (body1 p0 p1 apos pos epos q1 q2 q3 q4 q5 fld) scope [("__class__", cc)] dV kV doc pm an (.ref cda) ct) ["self", fld] (spX1 C fld) := by
  refine fn_super (pl := pl) T hcd S.sk S.co S.gen S.nc S.fr S.loc S.nd S.ks S.kc hm rfl (fun env => rfl) he (fun env => rfl) (fun env => rfl) (fun vs H Q E h => ?_) fun A outer s H vs Q E h => ?_
  · obtain ⟨x, v, rfl, _⟩ := h
    rfl
  · obtain ⟨x, v, rfl, hx, q⟩ := h
    have hs : Vis scope "self" := .inl (S.loc "self" (by simp))
    have hf : Vis scope fld := .inl (S.loc fld (by simp))
    refine ⟨x, _, _, rfl, hx, pa_cons (pe_var (i := 1) rfl hf hdb hcd2) pa_nil, pss_one (ps_ost (pe_var (i := 0) rfl hs) (pe_var (i := 1) rfl hf hdb hcd2)), fun R hR => ?_⟩
    refine ⟨v, rfl, ?_⟩
    refine hR [v] H hx (by simp) ?_
    refine ⟨v, rfl, .ref x, rfl, x, C, rfl, T.ox, hno, .inl ⟨hx, fun dx n ne => ?_⟩⟩
    exact q dx n ne
theorem exc_fn2 {k : Nat} {f cc cda C : Addr} {name qual f1 f2 : Str} {params : Arguments} {scope : Scope} {dV kV doc pm ct : Value} {an : Option Addr} {p0 p1 apos pos epos q1 q2 q3 q4 q5 r1 r2 r3 r4 r5 : Pos} {pl : Env → Sem Bool}
    (T : SupC P K C f cc cda (PySem.W.fnX name qual params (body2 p0 p1 apos pos epos q1 q2 q3 q4 q5 r1 r2 r3 r4 r5 f1 f2) scope [("__class__", cc)] dV kV doc pm an (.ref cda) ct) "self")
    (hcd : PySem.W.codeIn K (.ref cda) qual = true) (S : ScX ["self", f1, f2] scope) (hm : mg "super" = none) (hno1 : PySem.W.findIn K (.ref C) f1 = some none) (hno2 : PySem.W.findIn K (.ref C) f2 = some none)
    (hdb1 : (f1 == ("__debug__" : Str)) = false) (hcd1 : (f1 == ("__classdict__" : Str)) = false) (hdb2 : (f2 == ("__debug__" : Str)) = false) (hcd2 : (f2 == ("__classdict__" : Str)) = false)
    (he : ∀ env, eval (.Call (.Attribute (.Call (.Name "super" p0) [] [] p1) "__init__" apos) [.Name f1 q1, .Name f2 r1] [] pos) env = (do
      let ov ← attributeBase (.Call (.Name "super" p0) [] [] p1) "__init__" env (eval (.Call (.Name "super" p0) [] [] p1) env)
      standAt apos.atName
      let (f, first) ← holding [ov] (getMethod ov "__init__" (pl env))
      callWith pos f first (backTo pos (starEach [.Name f1 q1, .Name f2 r1] env)) [])) :
    FnOk P w K mg base CX (k + 1) f (PySem.W.fnX name qual params (body2 p0 p1 apos pos epos q1 q2 q3 q4 q5 r1 r2 r3 r4 r5 f1 f2) scope [("__class__", cc)] dV kV doc pm an (.ref cda) ct) ["self", f1, f2] (spX2 C f1 f2) := by
  refine fn_super (pl := pl) T hcd S.sk S.co S.gen S.nc S.fr S.loc S.nd S.ks S.kc hm rfl (fun env => rfl) he (fun env => rfl) (fun env => rfl) (fun vs H Q E h => ?_) fun A outer s H vs Q E h => ?_
  · obtain ⟨x, v, w, rfl, _⟩ := h
    rfl
  · obtain ⟨x, v, w', rfl, hx, q⟩ := h
    have hs : Vis scope "self" := .inl (S.loc "self" (by simp))
    have hf1 : Vis scope f1 := .inl (S.loc f1 (by simp))
    have hf2 : Vis scope f2 := .inl (S.loc f2 (by simp))
    refine ⟨x, _, _, rfl, hx, pa_cons (pe_var (i := 1) rfl hf1 hdb1 hcd1) (pa_cons (pe_var (i := 2) rfl hf2 hdb2 hcd2) pa_nil), pss_cons (ps_ost (pe_var (i := 0) rfl hs) (pe_var (i := 1) rfl hf1 hdb1 hcd1)) (pss_one (ps_ost (pe_var (i := 0) rfl hs) (pe_var (i := 2) rfl hf2 hdb2 hcd2))), fun R hR => ?_⟩
    refine ⟨v, rfl, w', rfl, ?_⟩
    refine hR [v, w'] H hx (by simp) ?_
    refine ⟨v, rfl, .ref x, rfl, x, C, rfl, T.ox, hno1, .inl ⟨hx, fun dx n ne => ?_⟩⟩
    refine ⟨w', rfl, .ref x, rfl, x, C, rfl, T.ox, hno2, .inr ⟨dx, [(f1, v)], upd_same, by rw [upd_ne ne, upd_same], by simp, ?_⟩⟩
    have e : upd (upd (upd H dx (exd dx [(f1, v)])) x (exo x C (some dx))) dx (exd dx [(f2, w'), (f1, v)]) = upd (upd H dx (exd dx [(f2, w'), (f1, v)])) x (exo x C (some dx)) := by
      funext b
      by_cases hb : b = dx
      · subst hb
        rw [upd_same, upd_ne ne, upd_same]
      · rw [upd_ne hb]
        by_cases hx' : b = x
        · subst hx'
          rw [upd_same, upd_same]
        · rw [upd_ne hx', upd_ne hx', upd_ne hb, upd_ne hb]
    show Q .non _
    rw [e]
    exact q dx n ne
end
end De
/-! The data layer: values as plain data, local lists and dicts owned by a slot; over the hand layer. -/
namespace Dl
open PySem PySem.Spec PyProof.Rows L2
/-- the tables of the code objects that make lambdas; what their code objects are called -/
class LawT where
  T : List (Addr × Str)
  C : String → Addr
/-- the program's classes: those of exceptions, the others, each with its fields; which is a subclass of which -/
class LawS where
  ex : List (String × List String)
  cs : List (String × List String)
  sub : String → String → Bool
variable [LawT]

/-- plain data -/
inductive D where
  | non | bl (b : Bool) | int (i : Int) | str (x : Str)
  | tup (xs : List D) | lst (xs : List D) | dic (kvs : List (D × D))
  | ins (C : String) (fs : List (Str × D)) | exc (C : String) (fs : List (Str × D)) | ty (n : String) | cls (C : String) | pen
/-- what a slot holds: nothing, data, a list, a dict or an instance of its own -/
inductive Sl where
  | un | im (d : D) | ol (xs : List D) | od (kvs : List (D × D)) | oi (C : String) (fs : List (Str × D))
/-- what is drawn from -/
structure Pn where
  ns : List Int
  turn : Int
  rest : Int
/-- an exception: its class, its fields -/
structure Xn where
  C : String
  fs : List (Str × D)
inductive Out (α : Type) where
  | ok (a : α) (E : List Sl) (ps : Pn)
  | err (x : Xn) (ps : Pn)
  | bad
abbrev M (α : Type) := List Sl → Pn → Out α
def M.ret {α : Type} (a : α) : M α := fun E ps => .ok a E ps
def M.bnd {α β : Type} (m : M α) (k : α → M β) : M β := fun E ps => match m E ps with
  | .ok a E' ps' => k a E' ps'
  | .err x ps' => .err x ps'
  | .bad => .bad
def M.bad {α : Type} : M α := fun _ _ => .bad
def M.opt {α : Type} : Option α → M α
  | some a => M.ret a
  | none => M.bad

/-- a dict's key: an int or a text; a tuple of such -/
def keyD : D → Option Key
  | .int i => some (.inl i)
  | .str x => some (.inr x)
  | _ => none
def keysD : List D → Option (List Key)
  | [] => some []
  | d :: ds => match keyD d, keysD ds with
    | some k, some ks => some (k :: ks)
    | _, _ => none
def tupKey : D → Option (List Key)
  | .tup ds => keysD ds
  | _ => none
/-- a tuple that is tracked -/
def SqU (K : PySem.W.Frag) (H : Hp) (a : Addr) (xs : List V) : Prop := H a = some (.tup xs)
theorem SqU.t {K : PySem.W.Frag} {H : Hp} {a : Addr} {xs : List V} (h : SqU K H a xs) : SqT K H a xs := .inl (.inl h)
theorem SqU.of {K : PySem.W.Frag} {H : Hp} {a : Addr} {xs : List V} (h : H a = some (.tup xs)) : SqU K H a xs := h
/-- an exception that stands as an object: its class, its dict -/
def ExT (C dx a : Addr) : HO := .ext fun h => ∃ (oe : Obj) (vs : Array Value), h.get? a = some oe ∧ Zc (.ref C) (some dx) oe ∧ oe.data = .fields vs
mutual
def Rep (K : PySem.W.Frag) (p : Addr) (S : Hp) : D → V → Prop
  | .non, v => v = .non
  | .bl b, v => v = .bl b
  | .int i, v => v = .int i
  | .str x, v => v = .str x
  | .ty n, v => v = .ty n
  | .cls C, v => v = .ref (LawT.C C)
  | .tup ds, v => ∃ a xs, v = .ref a ∧ SqU K S a xs ∧ Reps K p S ds xs
  | .lst ds, v => ∃ a xs, v = .ref a ∧ S a = some (.lst xs) ∧ Reps K p S ds xs
  | .dic ds, v => ∃ a u, v = .ref a ∧ S a = some u ∧ ((∃ xs, u = .dK xs ∧ RepKs K p S ds xs) ∨ ∃ xs, u = .dT xs ∧ RepTs K p S ds xs)
  | .ins C fs, v => ∃ a dx xs, v = .ref a ∧ S a = some (.ins (LawT.C C) dx xs) ∧ S dx = some (.own a) ∧ RepFs K p S fs xs
  | .exc C fs, v => ∃ a dx xs, v = .ref a ∧ S a = some (ExT (LawT.C C) dx a) ∧ S dx = some (.xd xs) ∧ RepFs K p S fs xs
  | .pen, v => v = .ref p
def Reps (K : PySem.W.Frag) (p : Addr) (S : Hp) : List D → List V → Prop
  | [], vs => vs = []
  | d :: ds, vs => ∃ v r, vs = v :: r ∧ Rep K p S d v ∧ Reps K p S ds r
def RepKs (K : PySem.W.Frag) (p : Addr) (S : Hp) : List (D × D) → List (Key × V) → Prop
  | [], vs => vs = []
  | (a, d) :: ds, vs => ∃ k v r, vs = (k, v) :: r ∧ Rep K p S a (kV k) ∧ Rep K p S d v ∧ RepKs K p S ds r
def RepTs (K : PySem.W.Frag) (p : Addr) (S : Hp) : List (D × D) → List (List Key × V) → Prop
  | [], vs => vs = []
  | (a, d) :: ds, vs => ∃ ks v r, vs = (ks, v) :: r ∧ tupKey a = some ks ∧ Rep K p S d v ∧ RepTs K p S ds r
def RepFs (K : PySem.W.Frag) (p : Addr) (S : Hp) : List (Str × D) → List (Str × V) → Prop
  | [], vs => vs = []
  | (x, d) :: ds, vs => ∃ v r, vs = (x, v) :: r ∧ Rep K p S d v ∧ RepFs K p S ds r
end

section
variable {K : PySem.W.Frag} {p : Addr} {S S' : Hp}
theorem SqTs {a : Addr} {xs : List V} (e : Same S S') (h : SqU K S a xs) : SqU K S' a xs := e _ _ h
mutual
theorem Rep.mono (e : Same S S') : ∀ (d : D) {v : V}, Rep K p S d v → Rep K p S' d v
  | .non, _, h => h
  | .bl _, _, h => h
  | .int _, _, h => h
  | .str _, _, h => h
  | .ty _, _, h => h
  | .cls _, _, h => h
  | .tup ds, _, ⟨a, xs, h1, h2, h3⟩ => ⟨a, xs, h1, SqTs e h2, Reps.mono e ds h3⟩
  | .lst ds, _, ⟨a, xs, h1, h2, h3⟩ => ⟨a, xs, h1, e _ _ h2, Reps.mono e ds h3⟩
  | .dic ds, _, ⟨a, u, h1, h2, h3⟩ => ⟨a, u, h1, e _ _ h2, h3.imp (fun ⟨xs, q1, q2⟩ => ⟨xs, q1, RepKs.mono e ds q2⟩) fun ⟨xs, q1, q2⟩ => ⟨xs, q1, RepTs.mono e ds q2⟩⟩
  | .ins C fs, _, ⟨a, dx, xs, h1, h2, h3, h4⟩ => ⟨a, dx, xs, h1, e _ _ h2, e _ _ h3, RepFs.mono e fs h4⟩
  | .exc C fs, _, ⟨a, dx, xs, h1, h2, h3, h4⟩ => ⟨a, dx, xs, h1, e _ _ h2, e _ _ h3, RepFs.mono e fs h4⟩
  | .pen, _, h => h
theorem Reps.mono (e : Same S S') : ∀ (ds : List D) {vs : List V}, Reps K p S ds vs → Reps K p S' ds vs
  | [], _, h => h
  | d :: ds, _, ⟨v, r, h1, h2, h3⟩ => ⟨v, r, h1, Rep.mono e d h2, Reps.mono e ds h3⟩
theorem RepKs.mono (e : Same S S') : ∀ (ds : List (D × D)) {vs : List (Key × V)}, RepKs K p S ds vs → RepKs K p S' ds vs
  | [], _, h => h
  | (a, d) :: ds, _, ⟨k, v, r, h1, h2, h3, h4⟩ => ⟨k, v, r, h1, Rep.mono e a h2, Rep.mono e d h3, RepKs.mono e ds h4⟩
theorem RepTs.mono (e : Same S S') : ∀ (ds : List (D × D)) {vs : List (List Key × V)}, RepTs K p S ds vs → RepTs K p S' ds vs
  | [], _, h => h
  | (a, d) :: ds, _, ⟨k, v, r, h1, h2, h3, h4⟩ => ⟨k, v, r, h1, h2, Rep.mono e d h3, RepTs.mono e ds h4⟩
theorem RepFs.mono (e : Same S S') : ∀ (ds : List (Str × D)) {vs : List (Str × V)}, RepFs K p S ds vs → RepFs K p S' ds vs
  | [], _, h => h
  | (x, d) :: ds, _, ⟨v, r, h1, h2, h3⟩ => ⟨v, r, h1, Rep.mono e d h2, RepFs.mono e ds h3⟩
end
/-- what a dict's object is, of data -/
def DicO (K : PySem.W.Frag) (p : Addr) (S : Hp) (ds : List (D × D)) (u : HO) : Prop := (∃ xs, u = .dK xs ∧ RepKs K p S ds xs) ∨ ∃ xs, u = .dT xs ∧ RepTs K p S ds xs
theorem DicO.mono (e : Same S S') {ds : List (D × D)} {u : HO} (h : DicO K p S ds u) : DicO K p S' ds u :=
  h.imp (fun ⟨xs, q1, q2⟩ => ⟨xs, q1, RepKs.mono e ds q2⟩) fun ⟨xs, q1, q2⟩ => ⟨xs, q1, RepTs.mono e ds q2⟩
theorem Reps.length : ∀ {ds : List D} {vs : List V}, Reps K p S ds vs → vs.length = ds.length
  | [], _, h => by rw [show _ = [] from h]; rfl
  | d :: ds, _, ⟨v, r, h1, h2, h3⟩ => by subst h1; rw [List.length_cons, List.length_cons, Reps.length h3]
theorem Reps.get : ∀ {ds : List D} {vs : List V} {i : Nat} {d : D}, Reps K p S ds vs → ds[i]? = some d → ∃ v, vs[i]? = some v ∧ Rep K p S d v
  | [], _, _, _, _, e => by simp at e
  | d :: ds, _, 0, _, ⟨v, r, h1, h2, h3⟩, e => by
    subst h1
    have e' : d = _ := Option.some.inj e
    subst e'
    exact ⟨v, rfl, h2⟩
  | d :: ds, _, i + 1, d', ⟨v, r, h1, h2, h3⟩, e => by
    subst h1
    have e2 : ds[i]? = some d' := by simpa using e
    obtain ⟨w, e3, h4⟩ := Reps.get h3 e2
    exact ⟨w, by simpa using e3, h4⟩
theorem Reps.get' {ds : List D} {vs : List V} {i : Nat} {v : V} (h : Reps K p S ds vs) (e : vs[i]? = some v) : ∃ d, ds[i]? = some d ∧ Rep K p S d v := by
  obtain ⟨hi, _⟩ := List.getElem?_eq_some_iff.mp e
  rw [h.length] at hi
  obtain ⟨w, e2, h2⟩ := h.get (List.getElem?_eq_getElem hi)
  rw [e] at e2
  cases e2
  exact ⟨_, List.getElem?_eq_getElem hi, h2⟩
theorem Reps.append : ∀ {ds es : List D} {vs ws : List V}, Reps K p S ds vs → Reps K p S es ws → Reps K p S (ds ++ es) (vs ++ ws)
  | [], _, _, _, h, h' => by rw [show _ = [] from h]; exact h'
  | d :: ds, _, _, _, ⟨v, r, h1, h2, h3⟩, h' => by subst h1; exact ⟨v, _, rfl, h2, Reps.append h3 h'⟩
theorem Reps.one {d : D} {v : V} (h : Rep K p S d v) : Reps K p S [d] [v] := ⟨v, [], rfl, h, rfl⟩
theorem Reps.cons {d : D} {v : V} {ds : List D} {vs : List V} (h : Rep K p S d v) (t : Reps K p S ds vs) : Reps K p S (d :: ds) (v :: vs) := ⟨v, vs, rfl, h, t⟩
theorem Reps.take : ∀ {ds : List D} {vs : List V} (n : Nat), Reps K p S ds vs → Reps K p S (ds.take n) (vs.take n)
  | [], _, n, h => by rw [show _ = [] from h]; simp [Reps]
  | d :: ds, _, 0, ⟨v, r, h1, h2, h3⟩ => by subst h1; simp [Reps]
  | d :: ds, _, n + 1, ⟨v, r, h1, h2, h3⟩ => by subst h1; exact ⟨v, _, rfl, h2, Reps.take n h3⟩
theorem Reps.drop : ∀ {ds : List D} {vs : List V} (n : Nat), Reps K p S ds vs → Reps K p S (ds.drop n) (vs.drop n)
  | [], _, n, h => by rw [show _ = [] from h]; simp [Reps]
  | d :: ds, _, 0, h => h
  | d :: ds, _, n + 1, ⟨v, r, h1, h2, h3⟩ => by subst h1; exact Reps.drop n h3
theorem Reps.set : ∀ {ds : List D} {vs : List V} (i : Nat) {d : D} {v : V}, Reps K p S ds vs → Rep K p S d v → Reps K p S (ds.set i d) (vs.set i v)
  | [], _, i, _, _, h, _ => by rw [show _ = [] from h]; simp [Reps]
  | d :: ds, _, 0, _, _, ⟨v, r, h1, h2, h3⟩, q => by subst h1; exact ⟨_, _, rfl, q, h3⟩
  | d :: ds, _, i + 1, _, _, ⟨v, r, h1, h2, h3⟩, q => by subst h1; exact ⟨_, _, rfl, h2, Reps.set i h3 q⟩
theorem Reps.reverse : ∀ {ds : List D} {vs : List V}, Reps K p S ds vs → Reps K p S ds.reverse vs.reverse
  | [], _, h => by rw [show _ = [] from h]; simp [Reps]
  | d :: ds, _, ⟨v, r, h1, h2, h3⟩ => by subst h1; simp only [List.reverse_cons]; exact Reps.append (Reps.reverse h3) (Reps.one h2)
theorem Reps.pick {ds : List D} {vs : List V} (h : Reps K p S ds vs) : ∀ (is : List Nat), (∀ i ∈ is, i < ds.length) → Reps K p S (is.filterMap (ds[·]?)) (is.filterMap (vs[·]?))
  | [], _ => by simp [Reps]
  | i :: is, q => by
    have hi : i < ds.length := q i (by simp)
    obtain ⟨v, e, r⟩ := h.get (List.getElem?_eq_getElem hi)
    simp only [List.filterMap_cons, List.getElem?_eq_getElem hi, e]
    exact .cons r (Reps.pick h is fun j hj => q j (by simp [hj]))
end

/-! ### states -/
/-- where a def's run began -/
structure Ctx where
  K : PySem.W.Frag
  p : Addr
  S0 : Hp
  H0 : Hp
  /-- the instance that is being made -/
  me : Option Addr
def PenSt (K : PySem.W.Frag) (p : Addr) (S H : Hp) (ps : Pn) : Prop :=
  S p = none ∧ ∃ a, H p = some (.lst [.ref a, .int ps.turn, .int ps.rest]) ∧ S a = some (.lst (ps.ns.map V.int))
/-- what holds of the heaps at each moment of a def's run -/
structure Bs (c : Ctx) (S H : Hp) (ps : Pn) : Prop where
  sub : Same S H
  s0 : Same c.S0 S
  keep : ∀ b o, b ≠ c.p → (∀ t, o ≠ .tbl t) → c.H0 b = some o → H b = some o
  dom : ∀ b, c.H0 b ≠ none → H b ≠ none
  tabs : LamX.Tabs LawT.T H
  tn : ∀ q ∈ LawT.T, S q.1 = none
  fresh : ∀ b, c.S0 b = none → c.H0 b ≠ none → S b = none
  hp : c.H0 c.p ≠ none
  pen : PenSt c.K c.p S H ps
def Sl.own : Sl → Bool
  | .ol _ => true
  | .od _ => true
  | .oi _ _ => true
  | _ => false
def SlOk (c : Ctx) (S H : Hp) (v : V) : Sl → Prop
  | .un => True
  | .im d => Rep c.K c.p S d v
  | .ol ds => ∃ a xs, v = .ref a ∧ S a = none ∧ c.H0 a = none ∧ H a = some (.lst xs) ∧ Reps c.K c.p S ds xs
  | .od ds => ∃ a xs, v = .ref a ∧ S a = none ∧ c.H0 a = none ∧ H a = some xs ∧ DicO c.K c.p S ds xs
  | .oi C fs => ∃ a dx xs, (v = .ref a ∧ c.me = some a) ∧ S a = none ∧ c.H0 a = none ∧ H a = some (.ins (LawT.C C) dx xs) ∧ S dx = none ∧ c.H0 dx = none ∧ H dx = some (.own a) ∧ RepFs c.K c.p S fs xs
structure Stt (c : Ctx) (S H : Hp) (σ : L2.St) (E : List Sl) (ps : Pn) : Prop where
  bs : Bs c S H ps
  len : E.length = σ.length
  slots : ∀ (i : Nat) (s : Sl), E[i]? = some s → s ≠ .un → ∃ v, σ[i]? = some (some v) ∧ SlOk c S H v s
  dist : ∀ (i j : Nat) (s t : Sl) (v : V), E[i]? = some s → E[j]? = some t → s.own = true → t.own = true → σ[i]? = some (some v) → σ[j]? = some (some v) → i = j
/-- an expression's result that may be an object of its own -/
def ResOk (c : Ctx) (S H : Hp) (σ : L2.St) (E : List Sl) (v : V) (r : Sl) : Prop :=
  r ≠ .un ∧ SlOk c S H v r ∧ (r.own = true → ∀ (j : Nat) (t : Sl), E[j]? = some t → t.own = true → σ[j]? ≠ some (some v))
def Sl.frz : Sl → D
  | .un => .non
  | .im d => d
  | .ol xs => .lst xs
  | .od kvs => .dic kvs
  | .oi C fs => .ins C fs
/-- a list, a dict, an instance: no table, no code object, no instance's dict -/
def Pln (u : HO) : Prop := (∀ t, u ≠ .tbl t) ∧ (∀ φ, u ≠ .ext φ) ∧ ∀ x, u ≠ .own x
theorem pln_lst {xs : List V} : Pln (.lst xs) := ⟨(fun _ z => by cases z), (fun _ z => by cases z), (fun _ z => by cases z)⟩
theorem pln_ins {C dx : Addr} {xs : List (Str × V)} : Pln (.ins C dx xs) := ⟨(fun _ z => by cases z), (fun _ z => by cases z), (fun _ z => by cases z)⟩
theorem pln_dic {K : PySem.W.Frag} {p : Addr} {S : Hp} {ds : List (D × D)} {u : HO} (h : DicO K p S ds u) : Pln u := by
  rcases h with ⟨xs, rfl, _⟩ | ⟨xs, rfl, _⟩ <;> exact ⟨(fun _ z => by cases z), (fun _ z => by cases z), (fun _ z => by cases z)⟩
theorem ne_pln {H : Hp} {a b : Addr} {u o : HO} (h : H a = some u) (h' : H b = some o) (n : u ≠ o) : b ≠ a := fun z => by
  subst z
  rw [h] at h'
  exact n (Option.some.inj h')
theorem Tabs.upd {T : List (Addr × Str)} {H : Hp} {a : Addr} {u o : HO} (t : LamX.Tabs T H) (h : H a = some u) (n : Pln u) : LamX.Tabs T (upd H a o) := fun q hq => by
  obtain ⟨ps, e1, e2, e3⟩ := t q hq
  refine ⟨ps, ?_, e2, fun pos cv hcv => ?_⟩
  · rw [upd_ne (ne_pln h e1 (n.1 ps))]; exact e1
  · obtain ⟨k, f1, f2⟩ := e3 pos cv hcv
    exact ⟨k, f1, by rw [upd_ne (ne_pln h f2 (n.2.1 _))]; exact f2⟩
theorem upd_dom {H : Hp} {a : Addr} {o : HO} (x : Addr) (h : H x ≠ none) : upd H a o x ≠ none := by
  by_cases z : x = a
  · subst z; rw [upd_same]; intro y; cases y
  · rw [upd_ne z]; exact h
section
variable {c : Ctx} {S H S' H' : Hp} {σ : L2.St} {E : List Sl} {ps ps' : Pn}
theorem upd_fresh {a : Addr} {o : HO} (h : H a = none) : Same H (upd H a o) := fun b x e => by
  rw [upd_ne (ne_of_none e h)]
  exact e
/-- the run began here: what comes of this state -/
def Ctx.at (c : Ctx) (S H : Hp) : Ctx := ⟨c.K, c.p, S, H, none⟩
theorem Bs.hasP (b : Bs c S H ps) : H c.p ≠ none := by
  obtain ⟨_, a, h, _⟩ := b.pen
  rw [h]; intro z; cases z
theorem Bs.start (b : Bs c S H ps) : Bs (c.at S H) S H ps :=
  ⟨b.sub, Same.refl _, fun _ _ _ _ e => e, fun _ z => z, b.tabs, b.tn, fun _ e _ => e, b.hasP, b.pen⟩
theorem Bs.trans (b : Bs c S H ps) (g : Bs (c.at S H) S' H' ps') : Bs c S' H' ps' where
  sub := g.sub
  s0 := b.s0.trans g.s0
  keep := fun x o n nt e => g.keep x o n nt (b.keep x o n nt e)
  dom := fun x n => g.dom x (b.dom x n)
  tabs := g.tabs
  tn := g.tn
  fresh := fun x e n => g.fresh x (b.fresh x e n) (b.dom x n)
  hp := b.hp
  pen := g.pen
theorem Bs.h0 (b : Bs c S H ps) {a : Addr} (h : H a = none) : c.H0 a = none := by
  cases e : c.H0 a with
  | none => rfl
  | some o => exact absurd h (b.dom a (by rw [e]; intro z; cases z))
theorem Bs.s_none (b : Bs c S H ps) {a : Addr} (h : H a = none) : S a = none := by
  cases e : S a with
  | none => rfl
  | some o => rw [b.sub a o e] at h; cases h
theorem SlOk.at {v : V} {r : Sl} (b : Bs c S H ps) (g : Bs (c.at S H) S' H' ps') (h : SlOk (c.at S H) S' H' v r) : SlOk c S' H' v r := by
  cases r with
  | un => trivial
  | im d => exact h
  | ol ds =>
    obtain ⟨a, xs, h1, h2, h3, h4, h5⟩ := h
    exact ⟨a, xs, h1, h2, b.h0 h3, h4, h5⟩
  | od ds =>
    obtain ⟨a, xs, h1, h2, h3, h4, h5⟩ := h
    exact ⟨a, xs, h1, h2, b.h0 h3, h4, h5⟩
  | oi C fs =>
    obtain ⟨a, dx, xs, h1, h2, h3, h4, h5, h6, h7, h8⟩ := h
    cases h1.2
theorem SlOk.grow {v : V} {r : Sl} (b : Bs c S H ps) (g : Bs (c.at S H) S' H' ps') (h : SlOk c S H v r) : SlOk c S' H' v r := by
  cases r with
  | un => trivial
  | im d => exact Rep.mono g.s0 d h
  | ol ds =>
    obtain ⟨a, xs, h1, h2, h3, h4, h5⟩ := h
    have n : a ≠ c.p := fun z => by rw [z] at h3; exact b.hp h3
    exact ⟨a, xs, h1, g.fresh a h2 (show H a ≠ none by rw [h4]; intro z; cases z), h3, g.keep a _ n pln_lst.1 h4, Reps.mono g.s0 ds h5⟩
  | od ds =>
    obtain ⟨a, xs, h1, h2, h3, h4, h5⟩ := h
    have n : a ≠ c.p := fun z => by rw [z] at h3; exact b.hp h3
    exact ⟨a, xs, h1, g.fresh a h2 (show H a ≠ none by rw [h4]; intro z; cases z), h3, g.keep a _ n (pln_dic h5).1 h4, DicO.mono g.s0 h5⟩
  | oi C fs =>
    obtain ⟨a, dx, xs, h1, h2, h3, h4, h5, h6, h7, h8⟩ := h
    have n : a ≠ c.p := fun z => by rw [z] at h3; exact b.hp h3
    have n2 : dx ≠ c.p := fun z => by rw [z] at h6; exact b.hp h6
    exact ⟨a, dx, xs, h1, g.fresh a h2 (show H a ≠ none by rw [h4]; intro z; cases z), h3, g.keep a _ n pln_ins.1 h4, g.fresh dx h5 (show H dx ≠ none by rw [h7]; intro z; cases z), h6, g.keep dx _ n2 (fun _ z => by cases z) h7, RepFs.mono g.s0 fs h8⟩
/-- behind a call, behind a new object -/
theorem Stt.grow (t : Stt c S H σ E ps) (g : Bs (c.at S H) S' H' ps') : Stt c S' H' σ E ps' where
  bs := t.bs.trans g
  len := t.len
  slots := fun i s e n => by
    obtain ⟨v, e1, h⟩ := t.slots i s e n
    exact ⟨v, e1, h.grow t.bs g⟩
  dist := t.dist
/-- an own object's address is tracked -/
theorem SlOk.own_at {v : V} {r : Sl} (h : SlOk c S H v r) (o : r.own = true) : ∃ a u, v = .ref a ∧ S a = none ∧ c.H0 a = none ∧ H a = some u ∧ Pln u := by
  cases r with
  | un => cases o
  | im d => cases o
  | ol ds =>
    obtain ⟨a, xs, h1, h2, h3, h4, h5⟩ := h
    exact ⟨a, _, h1, h2, h3, h4, pln_lst⟩
  | od ds =>
    obtain ⟨a, xs, h1, h2, h3, h4, h5⟩ := h
    exact ⟨a, _, h1, h2, h3, h4, pln_dic h5⟩
  | oi C fs =>
    obtain ⟨a, dx, xs, h1, h2, h3, h4, h5, h6, h7, h8⟩ := h
    exact ⟨a, _, h1.1, h2, h3, h4, pln_ins⟩
theorem ResOk.new {v : V} {r : Sl} (t : Stt c S H σ E ps) (g : Bs (c.at S H) S' H' ps') (n : r ≠ .un) (h : SlOk (c.at S H) S' H' v r) : ResOk c S' H' σ E v r := by
  refine ⟨n, h.at t.bs g, fun o j s e p q => ?_⟩
  obtain ⟨a, u, e1, _, h3, _⟩ := h.own_at o
  subst e1
  obtain ⟨w, e2, h2⟩ := t.slots j s e (fun z => by subst z; cases p)
  rw [q] at e2
  cases e2
  obtain ⟨b, u2, e3, _, _, h6, _⟩ := h2.own_at p
  cases e3
  rw [show H a = none from h3] at h6
  cases h6
/-- a new thing, frozen at once -/
theorem Bs.newF {a : Addr} {o : HO} (b : Bs c S H ps) (h : H a = none) : Bs (c.at S H) (upd S a o) (upd H a o) ps := by
  have hs : S a = none := b.s_none h
  have np : a ≠ c.p := fun z => by subst z; exact b.hasP h
  refine ⟨fun x u e => ?_, upd_fresh hs, fun x u _ _ e => upd_fresh h x u e, upd_dom, b.tabs.ext (upd_fresh h), fun q hq => ?_, fun x e n => ?_, b.hasP, ?_⟩
  · by_cases z : x = a
    · subst z; rw [upd_same] at e ⊢; exact e
    · rw [upd_ne z] at e ⊢; exact b.sub x u e
  · obtain ⟨t, e1, _⟩ := b.tabs q hq
    rw [upd_ne (ne_of_none e1 h)]; exact b.tn q hq
  · have z : x ≠ a := fun z => n (by rw [z]; exact h)
    rw [upd_ne z]; exact e
  · obtain ⟨h1, l, h2, h3⟩ := b.pen
    refine ⟨(upd_ne (H := S) (o := o) (Ne.symm np)).trans h1, l, (upd_ne (H := H) (o := o) (Ne.symm np)).trans h2, upd_fresh hs l _ h3⟩
/-- a new thing of one's own -/
theorem Bs.newO {a : Addr} {o : HO} (b : Bs c S H ps) (h : H a = none) : Bs (c.at S H) S (upd H a o) ps := by
  have np : a ≠ c.p := fun z => by subst z; exact b.hasP h
  refine ⟨fun x u e => upd_fresh h x u (b.sub x u e), Same.refl _, fun x u _ _ e => upd_fresh h x u e, upd_dom, b.tabs.ext (upd_fresh h), b.tn, fun x e n => e, b.hasP, ?_⟩
  obtain ⟨h1, l, h2, h3⟩ := b.pen
  exact ⟨h1, l, upd_fresh h _ _ h2, h3⟩
/-- freezing -/
theorem Bs.frz {a : Addr} {o : HO} (nt : ∀ t, o ≠ .tbl t) (b : Bs c S H ps) (h : H a = some o) (hs : S a = none) (h0 : c.H0 a = none) : Bs c (upd S a o) H ps := by
  have np : a ≠ c.p := fun z => b.hp (by rw [← z]; exact h0)
  refine ⟨fun x u e => ?_, b.s0.trans (upd_fresh hs), b.keep, b.dom, b.tabs, fun q hq => ?_, fun x e n => ?_, b.hp, ?_⟩
  · by_cases z : x = a
    · subst z; rw [upd_same] at e; cases e; exact h
    · rw [upd_ne z] at e; exact b.sub x u e
  · obtain ⟨t, e1, _⟩ := b.tabs q hq
    rw [upd_ne (ne_pln h e1 (nt t))]; exact b.tn q hq
  · have z : x ≠ a := fun z => n (by rw [z]; exact h0)
    rw [upd_ne z]; exact b.fresh x e n
  · obtain ⟨h1, l, h2, h3⟩ := b.pen
    exact ⟨by rw [upd_ne (Ne.symm np)]; exact h1, l, h2, upd_fresh hs l _ h3⟩
theorem SlOk.frzAt {a : Addr} {o u : HO} {v : V} {r : Sl} (hs : S a = none) (ha : H a = some u) (no : ∀ x, r.own = true → v = .ref x → u ≠ .own x) (n : r.own = true → v ≠ .ref a) (h : SlOk c S H v r) : SlOk c (upd S a o) H v r := by
  have sm : Same S (upd S a o) := upd_fresh hs
  cases r with
  | un => trivial
  | im d => exact Rep.mono sm d h
  | ol ds =>
    obtain ⟨b, xs, h1, h2, h3, h4, h5⟩ := h
    have nb : b ≠ a := fun z => n rfl (by rw [h1, z])
    exact ⟨b, xs, h1, by rw [upd_ne nb]; exact h2, h3, h4, Reps.mono sm ds h5⟩
  | od ds =>
    obtain ⟨b, xs, h1, h2, h3, h4, h5⟩ := h
    have nb : b ≠ a := fun z => n rfl (by rw [h1, z])
    exact ⟨b, xs, h1, by rw [upd_ne nb]; exact h2, h3, h4, DicO.mono sm h5⟩
  | oi C fs =>
    obtain ⟨b, dx, xs, h1, h2, h3, h4, h5, h6, h7, h8⟩ := h
    have nb : b ≠ a := fun z => n rfl (by rw [h1.1, z])
    have nd : dx ≠ a := ne_pln ha h7 (no b rfl h1.1)
    exact ⟨b, dx, xs, h1, by rw [upd_ne nb]; exact h2, h3, h4, by rw [upd_ne nd]; exact h5, h6, h7, RepFs.mono sm fs h8⟩
theorem SlOk.toIm {v : V} {r : Sl} (n : r ≠ .un) (b : Bs c S H ps) (h : SlOk c S H v r) : ∃ S', Same S S' ∧ Bs c S' H ps ∧ Rep c.K c.p S' r.frz v ∧ ∀ (w : V) (t : Sl), (r.own = true → t.own = true → w ≠ v) → SlOk c S H w t → SlOk c S' H w t := by
  cases r with
  | un => exact absurd rfl n
  | im d => exact ⟨S, Same.refl _, b, h, fun _ _ _ q => q⟩
  | ol ds =>
    obtain ⟨a, xs, h1, h2, h3, h4, h5⟩ := h
    have sm : Same S (upd S a (.lst xs)) := upd_fresh h2
    exact ⟨_, sm, b.frz pln_lst.1 h4 h2 h3, ⟨a, xs, h1, upd_same, Reps.mono sm ds h5⟩, fun w t z q => q.frzAt h2 h4 (fun x _ _ => pln_lst.2.2 x) fun o e => z rfl o (e.trans h1.symm)⟩
  | od ds =>
    obtain ⟨a, xs, h1, h2, h3, h4, h5⟩ := h
    have sm : Same S (upd S a xs) := upd_fresh h2
    exact ⟨_, sm, b.frz (pln_dic h5).1 h4 h2 h3, ⟨a, xs, h1, upd_same, DicO.mono sm h5⟩, fun w t z q => q.frzAt h2 h4 (fun x _ _ => (pln_dic h5).2.2 x) fun o e => z rfl o (e.trans h1.symm)⟩
  | oi C fs =>
    obtain ⟨a, dx, xs, h1, h2, h3, h4, h5, h6, h7, h8⟩ := h
    have nd : dx ≠ a := ne_pln h4 h7 (pln_ins.2.2 a)
    have b1 := b.frz pln_ins.1 h4 h2 h3
    have h5' : upd S a (.ins (LawT.C C) dx xs) dx = none := by rw [upd_ne nd]; exact h5
    have sm1 : Same S (upd S a (.ins (LawT.C C) dx xs)) := upd_fresh h2
    have sm2 : Same (upd S a (.ins (LawT.C C) dx xs)) (upd (upd S a (.ins (LawT.C C) dx xs)) dx (.own a)) := upd_fresh h5'
    refine ⟨_, sm1.trans sm2, b1.frz (fun _ z => by cases z) h7 h5' h6, ⟨a, dx, xs, h1.1, by rw [upd_ne (Ne.symm nd), upd_same], upd_same, RepFs.mono (sm1.trans sm2) fs h8⟩, fun w t z q => ?_⟩
    have q1 : SlOk c (upd S a (.ins (LawT.C C) dx xs)) H w t := q.frzAt h2 h4 (fun x _ _ => pln_ins.2.2 x) fun o e => z rfl o (e.trans h1.1.symm)
    refine q1.frzAt h5' h7 (fun x o e y => ?_) fun o e => ?_
    · cases y
      exact z rfl o (e.trans h1.1.symm)
    · obtain ⟨y, u, e1, _, _, hu, pu⟩ := q1.own_at o
      rw [e] at e1
      cases e1
      rw [h7] at hu
      exact pu.2.2 a (Option.some.inj hu).symm
theorem Stt.frzRes {v : V} {r : Sl} (t : Stt c S H σ E ps) (h : ResOk c S H σ E v r) : ∃ S', Same S S' ∧ Stt c S' H σ E ps ∧ Rep c.K c.p S' r.frz v := by
  obtain ⟨n, h1, h2⟩ := h
  obtain ⟨S', sm, b, rp, alt⟩ := h1.toIm n t.bs
  refine ⟨S', sm, ⟨b, t.len, fun i s e ns => ?_, t.dist⟩, rp⟩
  obtain ⟨w, e1, q⟩ := t.slots i s e ns
  exact ⟨w, e1, alt w s (fun o os z => h2 o i s e os (by rw [e1, z])) q⟩
theorem set_get {α : Type} {l : List α} {i j : Nat} {x y : α} (h : (l.set i x)[j]? = some y) : (j = i ∧ y = x ∧ i < l.length) ∨ (j ≠ i ∧ l[j]? = some y) := by
  by_cases z : i = j
  · subst z
    by_cases hl : i < l.length
    · rw [List.getElem?_set_self hl] at h
      exact .inl ⟨rfl, (Option.some.inj h).symm, hl⟩
    · rw [List.getElem?_eq_none (by rw [List.length_set]; omega)] at h; cases h
  · rw [List.getElem?_set_ne z] at h
    exact .inr ⟨Ne.symm z, h⟩
/-- a slot is stored -/
theorem Stt.put {v : V} {r : Sl} {i : Nat} (t : Stt c S H σ E ps) (h : ResOk c S H σ E v r) : Stt c S H (σ.set i (some v)) (E.set i r) ps := by
  obtain ⟨n, h1, h2⟩ := h
  refine ⟨t.bs, by rw [List.length_set, List.length_set]; exact t.len, fun j s e ns => ?_, fun j k s u w e1 e2 o1 o2 g1 g2 => ?_⟩
  · rcases set_get e with ⟨z, q, hl⟩ | ⟨z, e'⟩
    · subst z q
      exact ⟨v, List.getElem?_set_self (by rw [← t.len]; exact hl), h1⟩
    · obtain ⟨w, e1, q⟩ := t.slots j s e' ns
      exact ⟨w, by rw [List.getElem?_set_ne (Ne.symm z)]; exact e1, q⟩
  · rcases set_get e1 with ⟨z1, q1, l1⟩ | ⟨z1, e1'⟩ <;> rcases set_get e2 with ⟨z2, q2, l2⟩ | ⟨z2, e2'⟩
    · rw [z1, z2]
    · subst z1 q1
      rw [List.getElem?_set_self (by rw [← t.len]; exact l1)] at g1
      rw [List.getElem?_set_ne (Ne.symm z2)] at g2
      cases g1
      exact absurd g2 (h2 o1 k u e2' o2)
    · subst z2 q2
      rw [List.getElem?_set_self (by rw [← t.len]; exact l2)] at g2
      rw [List.getElem?_set_ne (Ne.symm z1)] at g1
      cases g2
      exact absurd g1 (h2 o2 j s e1' o1)
    · rw [List.getElem?_set_ne (Ne.symm z1)] at g1
      rw [List.getElem?_set_ne (Ne.symm z2)] at g2
      exact t.dist j k s u w e1' e2' o1 o2 g1 g2
theorem Stt.forget (i : Nat) (t : Stt c S H σ E ps) : Stt c S H σ (E.set i .un) ps := by
  refine ⟨t.bs, by rw [List.length_set]; exact t.len, fun j s e ns => ?_, fun j k s u w e1 e2 o1 o2 g1 g2 => ?_⟩
  · rcases set_get e with ⟨_, q, _⟩ | ⟨z, e'⟩
    · exact absurd q ns
    · exact t.slots j s e' ns
  · rcases set_get e1 with ⟨z1, q1, l1⟩ | ⟨z1, e1'⟩
    · subst q1; cases o1
    · rcases set_get e2 with ⟨z2, q2, l2⟩ | ⟨z2, e2'⟩
      · subst q2; cases o2
      · exact t.dist j k s u w e1' e2' o1 o2 g1 g2
/-- what a slot holds is moved out -/
theorem Stt.take {i : Nat} {s : Sl} (t : Stt c S H σ E ps) (e : E[i]? = some s) (n : s ≠ .un) : ∃ v, σ[i]? = some (some v) ∧ ResOk c S H σ (E.set i .un) v s := by
  obtain ⟨v, e1, h⟩ := t.slots i s e n
  refine ⟨v, e1, n, h, fun o j u e2 o2 q => ?_⟩
  rcases set_get e2 with ⟨z, q1, l1⟩ | ⟨z, e2'⟩
  · subst q1; cases o2
  · exact z (t.dist j i u s v e2' e o2 o q e1)
/-- .. frozen where it stands -/
theorem Stt.frzSlot {i : Nat} {s : Sl} (t : Stt c S H σ E ps) (e : E[i]? = some s) (n : s ≠ .un) : ∃ v S', σ[i]? = some (some v) ∧ Same S S' ∧ Stt c S' H σ (E.set i (.im s.frz)) ps ∧ Rep c.K c.p S' s.frz v := by
  obtain ⟨v, e1, h⟩ := t.take e n
  obtain ⟨S', sm, t', rp⟩ := (t.forget i).frzRes h
  refine ⟨v, S', e1, sm, ?_, rp⟩
  have q := t'.put (i := i) (v := v) (r := .im s.frz) ⟨(fun z => by cases z), rp, fun z => by cases z⟩
  rw [List.set_set] at q
  have e2 : σ.set i (some v) = σ := by
    apply List.ext_getElem?
    intro j
    by_cases z : i = j
    · subst z
      rw [List.getElem?_set_self (List.getElem?_eq_some_iff.mp e1).1, e1]
    · rw [List.getElem?_set_ne z]
  rw [e2] at q
  exact q
/-- an own object is written -/
theorem Stt.write {i : Nat} {s s' : Sl} {a : Addr} {o : HO} (t : Stt c S H σ E ps) (e : E[i]? = some s) (os : s.own = true) (ev : σ[i]? = some (some (.ref a))) (h' : SlOk c S (upd H a o) (.ref a) s') : Stt c S (upd H a o) σ (E.set i s') ps := by
  obtain ⟨v, e1, h⟩ := t.slots i s e (fun z => by subst z; cases os)
  rw [ev] at e1
  cases e1
  obtain ⟨b, u, e2, hs, h0, hh, pu⟩ := h.own_at os
  cases e2
  have np : a ≠ c.p := fun z => t.bs.hp (by rw [← z]; exact h0)
  refine ⟨⟨fun x w q => ?_, t.bs.s0, fun x w n nt q => ?_, fun x n => upd_dom x (t.bs.dom x n), Tabs.upd t.bs.tabs hh pu, t.bs.tn, t.bs.fresh, t.bs.hp, ?_⟩, by rw [List.length_set]; exact t.len, fun j r ej nj => ?_, fun j k r u2 w e1 e2 o1 o2 g1 g2 => ?_⟩
  · have n : x ≠ a := fun z => by rw [z, hs] at q; cases q
    rw [upd_ne n]; exact t.bs.sub x w q
  · have n2 : x ≠ a := fun z => by rw [z, h0] at q; cases q
    rw [upd_ne n2]; exact t.bs.keep x w n nt q
  · obtain ⟨h1, l, h2, h3⟩ := t.bs.pen
    exact ⟨h1, l, by rw [upd_ne (Ne.symm np)]; exact h2, h3⟩
  · rcases set_get ej with ⟨z, q, l⟩ | ⟨z, ej'⟩
    · subst z q
      exact ⟨.ref a, ev, h'⟩
    · obtain ⟨w, ew, q⟩ := t.slots j r ej' nj
      refine ⟨w, ew, ?_⟩
      cases r with
      | un => trivial
      | im d => exact q
      | ol ds =>
        obtain ⟨b, xs, h1, h2, h3, h4, h5⟩ := q
        have nb : b ≠ a := fun y => z (t.dist j i _ s w ej' e rfl os ew (by rw [ev, h1, y]))
        exact ⟨b, xs, h1, h2, h3, by rw [upd_ne nb]; exact h4, h5⟩
      | od ds =>
        obtain ⟨b, xs, h1, h2, h3, h4, h5⟩ := q
        have nb : b ≠ a := fun y => z (t.dist j i _ s w ej' e rfl os ew (by rw [ev, h1, y]))
        exact ⟨b, xs, h1, h2, h3, by rw [upd_ne nb]; exact h4, h5⟩
      | oi C fs =>
        obtain ⟨b, dx, xs, h1, h2, h3, h4, h5, h6, h7, h8⟩ := q
        have nb : b ≠ a := fun y => z (t.dist j i _ s w ej' e rfl os ew (by rw [ev, h1.1, y]))
        have nd : dx ≠ a := ne_pln hh h7 (pu.2.2 b)
        exact ⟨b, dx, xs, h1, h2, h3, by rw [upd_ne nb]; exact h4, h5, h6, by rw [upd_ne nd]; exact h7, h8⟩
  · rcases set_get e1 with ⟨z1, q1, l1⟩ | ⟨z1, e1'⟩ <;> rcases set_get e2 with ⟨z2, q2, l2⟩ | ⟨z2, e2'⟩
    · rw [z1, z2]
    · subst z1
      rw [ev] at g1; cases g1
      exact (t.dist _ _ s u2 _ e e2' os o2 ev g2)
    · subst z2
      rw [ev] at g2; cases g2
      exact (t.dist _ _ r s _ e1' e o1 os g1 ev)
    · exact t.dist j k r u2 w e1' e2' o1 o2 g1 g2
end
end Dl
namespace Dl
open PySem PySem.Spec PyProof.Rows L2
variable [LawT]

/-! ### readings by data -/
def RepX (K : PySem.W.Frag) (p : Addr) (S H : Hp) (cls : Value) (d : Option Addr) (x : Xn) : Prop :=
  cls = .ref (LawT.C x.C) ∧ ∃ a vs, d = some a ∧ S a = some (.xd vs) ∧ RepFs K p S x.fs vs
abbrev RelR (α : Type) := Ctx → Hp → Hp → L2.St → List Sl → V → α → Prop
def RD : RelR D := fun c S _ _ _ v d => Rep c.K c.p S d v
def RS : RelR Sl := ResOk
def ErrTo (W : XK) (c : Ctx) (x : Xn) (ps' : Pn) : Prop := ∀ cls d S' H', Bs c S' H' ps' → RepX c.K c.p S' H' cls d x → W cls d H'
def Post {α : Type} (W : XK) (R : RelR α) (c : Ctx) (S : Hp) (σ : L2.St) (Q : VK) : Out α → Prop
  | .ok a E' ps' => ∀ v S' H', Same S S' → Stt c S' H' σ E' ps' → R c S' H' σ E' v a → Q v H'
  | .err x ps' => ErrTo W c x ps'
  | .bad => False
def PostT (W : XK) (c : Ctx) (S : Hp) (σ : L2.St) (Q : Bool → Hp → Prop) : Out Bool → Prop
  | .ok b E' ps' => ∀ S' H', Same S S' → Stt c S' H' σ E' ps' → Q b H'
  | .err x ps' => ErrTo W c x ps'
  | .bad => False
def PostA (W : XK) (c : Ctx) (S : Hp) (σ : L2.St) (Q : List V → Hp → Prop) : Out (List D) → Prop
  | .ok ds E' ps' => ∀ vs S' H', Same S S' → Stt c S' H' σ E' ps' → Reps c.K c.p S' ds vs → Q vs H'
  | .err x ps' => ErrTo W c x ps'
  | .bad => False
def tM {α : Type} (K : PySem.W.Frag) (W : XK) (R : RelR α) (g : M α) : TE := fun σ H Q => ∃ c S E ps, c.K = K ∧ Stt c S H σ E ps ∧ Post W R c S σ Q (g E ps)
def tT (K : PySem.W.Frag) (W : XK) (g : M Bool) : TT := fun σ H Q => ∃ c S E ps, c.K = K ∧ Stt c S H σ E ps ∧ PostT W c S σ Q (g E ps)
def tA (K : PySem.W.Frag) (W : XK) (g : M (List D)) : TA := fun σ H Q => ∃ c S E ps, c.K = K ∧ Stt c S H σ E ps ∧ PostA W c S σ Q (g E ps)
/-- an expression as data; as what may be an own object; a test; arguments -/
def DV (X : Cx) (W : XK) (e : Expr) (g : M D) : Prop := PE X e (tM X.K W RD g)
def DE (X : Cx) (W : XK) (e : Expr) (g : M Sl) : Prop := PE X e (tM X.K W RS g)
def DT (X : Cx) (W : XK) (e : Expr) (g : M Bool) : Prop := PT X e (tT X.K W g)
def DW (X : Cx) (W : XK) (e : Expr) (g : M Bool) : Prop := PW X e (tT X.K W g)
def DA (X : Cx) (W : XK) (es : List Expr) (g : M (List D)) : Prop := PA X es (tA X.K W g)

theorem pe_imp {X : Cx} {e : Expr} {t u : TE} (h : PE X e t) (i : ∀ σ H Q, u σ H Q → t σ H Q) : PE X e u := ⟨fun pins s σ H Q I q => h.run pins s σ H Q I (i σ H Q q)⟩
theorem pt_imp {X : Cx} {e : Expr} {t u : TT} (h : PT X e t) (i : ∀ σ H Q, u σ H Q → t σ H Q) : PT X e u := ⟨fun pins s σ H Q I q => h.run pins s σ H Q I (i σ H Q q)⟩
theorem pw_imp {X : Cx} {e : Expr} {t u : TT} (h : PW X e t) (i : ∀ σ H Q, u σ H Q → t σ H Q) : PW X e u := ⟨fun wh pins s σ H Q I q => h.run wh pins s σ H Q I (i σ H Q q)⟩
theorem pa_imp {X : Cx} {es : List Expr} {t u : TA} (h : PA X es t) (i : ∀ σ H Q, u σ H Q → t σ H Q) : PA X es u := ⟨fun pos pins s σ H Q I q => h.run pos pins s σ H Q I (i σ H Q q)⟩

section
variable {W : XK} {c : Ctx} {S S' H H' : Hp} {σ : L2.St} {E : List Sl} {ps : Pn}
theorem Post.mono {α : Type} {R : RelR α} {Q : VK} (sm : Same S S') : ∀ {o : Out α}, Post W R c S σ Q o → Post W R c S' σ Q o
  | .ok _ _ _, h => fun v S2 H2 s2 t r => h v S2 H2 (sm.trans s2) t r
  | .err _ _, h => h
  | .bad, h => h
theorem PostT.mono {Q : Bool → Hp → Prop} (sm : Same S S') : ∀ {o : Out Bool}, PostT W c S σ Q o → PostT W c S' σ Q o
  | .ok _ _ _, h => fun S2 H2 s2 t => h S2 H2 (sm.trans s2) t
  | .err _ _, h => h
  | .bad, h => h
theorem PostA.mono {Q : List V → Hp → Prop} (sm : Same S S') : ∀ {o : Out (List D)}, PostA W c S σ Q o → PostA W c S' σ Q o
  | .ok _ _ _, h => fun v S2 H2 s2 t r => h v S2 H2 (sm.trans s2) t r
  | .err _ _, h => h
  | .bad, h => h
/-- one thing behind another: any goal that a result is to reach -/
def Bnd (α : Type) (W : XK) (c : Ctx) (m : Out α) (G : α → List Sl → Pn → Prop) : Prop := match m with
  | .ok a E' ps' => G a E' ps'
  | .err x ps' => ErrTo W c x ps'
  | .bad => False
theorem Post.bnd {α β : Type} {R : RelR α} {R' : RelR β} {g : M α} {k : α → M β} {Q Q' : VK} (h : Post W R' c S σ Q (M.bnd g k E ps))
    (f : ∀ a E' ps' v S' H', Same S S' → Stt c S' H' σ E' ps' → R c S' H' σ E' v a → Post W R' c S' σ Q (k a E' ps') → Q' v H') : Post W R c S σ Q' (g E ps) := by
  unfold M.bnd at h
  cases e : g E ps with
  | ok a E' ps' =>
    rw [e] at h
    exact fun v S' H' sm t r => f a E' ps' v S' H' sm t r (Post.mono sm h)
  | err x ps' => rw [e] at h; exact h
  | bad => rw [e] at h; exact h
theorem Post.bndT {β : Type} {R' : RelR β} {g : M Bool} {k : Bool → M β} {Q : VK} {Q' : Bool → Hp → Prop} (h : Post W R' c S σ Q (M.bnd g k E ps))
    (f : ∀ a E' ps' S' H', Same S S' → Stt c S' H' σ E' ps' → Post W R' c S' σ Q (k a E' ps') → Q' a H') : PostT W c S σ Q' (g E ps) := by
  unfold M.bnd at h
  cases e : g E ps with
  | ok a E' ps' =>
    rw [e] at h
    exact fun S' H' sm t => f a E' ps' S' H' sm t (Post.mono sm h)
  | err x ps' => rw [e] at h; exact h
  | bad => rw [e] at h; exact h
theorem Post.bndA {β : Type} {R' : RelR β} {g : M (List D)} {k : List D → M β} {Q : VK} {Q' : List V → Hp → Prop} (h : Post W R' c S σ Q (M.bnd g k E ps))
    (f : ∀ a E' ps' vs S' H', Same S S' → Stt c S' H' σ E' ps' → Reps c.K c.p S' a vs → Post W R' c S' σ Q (k a E' ps') → Q' vs H') : PostA W c S σ Q' (g E ps) := by
  unfold M.bnd at h
  cases e : g E ps with
  | ok a E' ps' =>
    rw [e] at h
    exact fun v S' H' sm t r => f a E' ps' v S' H' sm t r (Post.mono sm h)
  | err x ps' => rw [e] at h; exact h
  | bad => rw [e] at h; exact h
theorem PostT.bnd {α : Type} {R : RelR α} {g : M α} {k : α → M Bool} {Q : Bool → Hp → Prop} {Q' : VK} (h : PostT W c S σ Q (M.bnd g k E ps))
    (f : ∀ a E' ps' v S' H', Same S S' → Stt c S' H' σ E' ps' → R c S' H' σ E' v a → PostT W c S' σ Q (k a E' ps') → Q' v H') : Post W R c S σ Q' (g E ps) := by
  unfold M.bnd at h
  cases e : g E ps with
  | ok a E' ps' =>
    rw [e] at h
    exact fun v S' H' sm t r => f a E' ps' v S' H' sm t r (PostT.mono sm h)
  | err x ps' => rw [e] at h; exact h
  | bad => rw [e] at h; exact h
theorem PostT.bndT {g : M Bool} {k : Bool → M Bool} {Q Q' : Bool → Hp → Prop} (h : PostT W c S σ Q (M.bnd g k E ps))
    (f : ∀ a E' ps' S' H', Same S S' → Stt c S' H' σ E' ps' → PostT W c S' σ Q (k a E' ps') → Q' a H') : PostT W c S σ Q' (g E ps) := by
  unfold M.bnd at h
  cases e : g E ps with
  | ok a E' ps' =>
    rw [e] at h
    exact fun S' H' sm t => f a E' ps' S' H' sm t (PostT.mono sm h)
  | err x ps' => rw [e] at h; exact h
  | bad => rw [e] at h; exact h
theorem PostA.bnd {α : Type} {R : RelR α} {g : M α} {k : α → M (List D)} {Q : List V → Hp → Prop} {Q' : VK} (h : PostA W c S σ Q (M.bnd g k E ps))
    (f : ∀ a E' ps' v S' H', Same S S' → Stt c S' H' σ E' ps' → R c S' H' σ E' v a → PostA W c S' σ Q (k a E' ps') → Q' v H') : Post W R c S σ Q' (g E ps) := by
  unfold M.bnd at h
  cases e : g E ps with
  | ok a E' ps' =>
    rw [e] at h
    exact fun v S' H' sm t r => f a E' ps' v S' H' sm t r (PostA.mono sm h)
  | err x ps' => rw [e] at h; exact h
  | bad => rw [e] at h; exact h
theorem PostA.bndA {g : M (List D)} {k : List D → M (List D)} {Q Q' : List V → Hp → Prop} (h : PostA W c S σ Q (M.bnd g k E ps))
    (f : ∀ a E' ps' vs S' H', Same S S' → Stt c S' H' σ E' ps' → Reps c.K c.p S' a vs → PostA W c S' σ Q (k a E' ps') → Q' vs H') : PostA W c S σ Q' (g E ps) := by
  unfold M.bnd at h
  cases e : g E ps with
  | ok a E' ps' =>
    rw [e] at h
    exact fun v S' H' sm t r => f a E' ps' v S' H' sm t r (PostA.mono sm h)
  | err x ps' => rw [e] at h; exact h
  | bad => rw [e] at h; exact h
end

/-! ### an operand: a slot that is looked at when the others are there, or code -/
inductive Opn where
  | late (k : Nat) | code (g : M D)
def tO (K : PySem.W.Frag) (W : XK) : Opn → TE
  | .late k => tVar k
  | .code g => tM K W RD g
def DO (X : Cx) (W : XK) (e : Expr) (o : Opn) : Prop := PE X e (tO X.K W o)
/-- what may be read as d just now -/
def Pk (K : PySem.W.Frag) (p : Addr) (S H : Hp) (v : V) : D → Prop
  | .lst ds => ∃ a xs, v = .ref a ∧ H a = some (.lst xs) ∧ Reps K p S ds xs
  | .dic ds => ∃ a u, v = .ref a ∧ H a = some u ∧ DicO K p S ds u
  | .ins C fs => ∃ a dx xs, v = .ref a ∧ H a = some (.ins (LawT.C C) dx xs) ∧ H dx = some (.own a) ∧ RepFs K p S fs xs
  | d => Rep K p S d v
def Pks (K : PySem.W.Frag) (p : Addr) (S H : Hp) : List V → List D → Prop
  | [], [] => True
  | v :: vs, d :: ds => Pk K p S H v d ∧ Pks K p S H vs ds
  | _, _ => False
theorem Rep.pk {K : PySem.W.Frag} {p : Addr} {S H : Hp} {v : V} (sm : Same S H) : ∀ {d : D}, Rep K p S d v → Pk K p S H v d
  | .lst ds, ⟨a, xs, h1, h2, h3⟩ => ⟨a, xs, h1, sm _ _ h2, h3⟩
  | .dic ds, ⟨a, xs, h1, h2, h3⟩ => ⟨a, xs, h1, sm _ _ h2, h3⟩
  | .non, h => h
  | .bl _, h => h
  | .int _, h => h
  | .str _, h => h
  | .tup _, h => h
  | .ins C fs, ⟨a, dx, xs, h1, h2, h3, h4⟩ => ⟨a, dx, xs, h1, sm _ _ h2, sm _ _ h3, h4⟩
  | .exc _ _, h => h
  | .ty _, h => h
  | .cls _, h => h
  | .pen, h => h
theorem SlOk.pk {c : Ctx} {S H : Hp} {v : V} (sm : Same S H) : ∀ {s : Sl}, s ≠ .un → SlOk c S H v s → Pk c.K c.p S H v s.frz
  | .un, n, _ => absurd rfl n
  | .im d, _, h => Rep.pk sm h
  | .ol ds, _, ⟨a, xs, h1, h2, h3, h4, h5⟩ => ⟨a, xs, h1, h4, h5⟩
  | .od ds, _, ⟨a, xs, h1, h2, h3, h4, h5⟩ => ⟨a, xs, h1, h4, h5⟩
  | .oi C fs, _, ⟨a, dx, xs, h1, h2, h3, h4, h5, h6, h7, h8⟩ => ⟨a, dx, xs, h1.1, h4, h7, h8⟩
/-- the data of a slot, without changing anything -/
def peek (k : Nat) : M D := fun E ps => match E[k]? with
  | some .un => .bad
  | some s => .ok s.frz E ps
  | none => .bad
theorem peek_ok {k : Nat} {E E' : List Sl} {ps ps' : Pn} {d : D} (h : peek k E ps = .ok d E' ps') : ∃ s, E[k]? = some s ∧ s ≠ .un ∧ d = s.frz ∧ E' = E ∧ ps' = ps := by
  unfold peek at h
  cases e : E[k]? with
  | none => rw [e] at h; cases h
  | some s =>
    rw [e] at h
    cases s with
    | un => cases h
    | im d => cases h; exact ⟨_, rfl, (fun z => by cases z), rfl, rfl, rfl⟩
    | ol d => cases h; exact ⟨_, rfl, (fun z => by cases z), rfl, rfl, rfl⟩
    | od d => cases h; exact ⟨_, rfl, (fun z => by cases z), rfl, rfl, rfl⟩
    | oi C d => cases h; exact ⟨_, rfl, (fun z => by cases z), rfl, rfl, rfl⟩
theorem peek_cases (k : Nat) (E : List Sl) (ps : Pn) : (∃ s, E[k]? = some s ∧ s ≠ .un ∧ peek k E ps = .ok s.frz E ps) ∨ peek k E ps = .bad := by
  unfold peek
  cases e : E[k]? with
  | none => exact .inr rfl
  | some s =>
    cases s with
    | un => exact .inr rfl
    | im d => exact .inl ⟨_, rfl, (fun z => by cases z), rfl⟩
    | ol d => exact .inl ⟨_, rfl, (fun z => by cases z), rfl⟩
    | od d => exact .inl ⟨_, rfl, (fun z => by cases z), rfl⟩
    | oi C d => exact .inl ⟨_, rfl, (fun z => by cases z), rfl⟩
/-- first the codes from the left, then the slots -/
def looked : List (Sum Nat D) → M (List D)
  | [] => M.ret []
  | .inr d :: r => M.bnd (looked r) fun ds => M.ret (d :: ds)
  | .inl k :: r => M.bnd (peek k) fun d => M.bnd (looked r) fun ds => M.ret (d :: ds)
def opsGo {α : Type} (k : List D → M α) : List Opn → List (Sum Nat D) → M α
  | [], acc => M.bnd (looked acc.reverse) k
  | .late i :: r, acc => M.bnd (peek i) fun _ => opsGo k r (.inl i :: acc)
  | .code g :: r, acc => M.bnd g fun d => opsGo k r (.inr d :: acc)
def ops {α : Type} (os : List Opn) (k : List D → M α) : M α := opsGo k os []
def tOs (K : PySem.W.Frag) (W : XK) : List Opn → TA
  | [] => tNil
  | o :: os => tCons (tO K W o) (tOs K W os)
/-- what the operands' values are, while the others are reckoned -/
def AccOk (c : Ctx) (S : Hp) (σ : L2.St) : List (Sum Nat D) → List V → Prop
  | [], [] => True
  | .inl k :: r, v :: vs => σ[k]? = some (some v) ∧ AccOk c S σ r vs
  | .inr d :: r, v :: vs => Rep c.K c.p S d v ∧ AccOk c S σ r vs
  | _, _ => False
section
variable {W : XK} {c : Ctx} {S S' H H' : Hp} {σ : L2.St} {E : List Sl} {ps : Pn}
theorem AccOk.mono (sm : Same S S') : ∀ {l : List (Sum Nat D)} {vs : List V}, AccOk c S σ l vs → AccOk c S' σ l vs
  | [], [], _ => trivial
  | .inl k :: r, v :: vs, ⟨h1, h2⟩ => ⟨h1, AccOk.mono sm h2⟩
  | .inr d :: r, v :: vs, ⟨h1, h2⟩ => ⟨Rep.mono sm d h1, AccOk.mono sm h2⟩
  | [], _ :: _, h => h.elim
  | .inl _ :: _, [], h => h.elim
  | .inr _ :: _, [], h => h.elim
theorem AccOk.snoc : ∀ {l : List (Sum Nat D)} {vs : List V} {x : Sum Nat D} {v : V}, AccOk c S σ l vs → AccOk c S σ [x] [v] → AccOk c S σ (l ++ [x]) (vs ++ [v])
  | [], [], _, _, _, h => h
  | .inl k :: r, v :: vs, _, _, ⟨h1, h2⟩, h => ⟨h1, AccOk.snoc h2 h⟩
  | .inr d :: r, v :: vs, _, _, ⟨h1, h2⟩, h => ⟨h1, AccOk.snoc h2 h⟩
  | [], _ :: _, _, _, h, _ => h.elim
  | .inl _ :: _, [], _, _, h, _ => h.elim
  | .inr _ :: _, [], _, _, h, _ => h.elim
theorem looked_ok (t : Stt c S H σ E ps) : ∀ {l : List (Sum Nat D)} {vs : List V}, AccOk c S σ l vs → (∃ ds, looked l E ps = .ok ds E ps ∧ Pks c.K c.p S H vs ds) ∨ looked l E ps = .bad
  | [], [], _ => .inl ⟨[], rfl, trivial⟩
  | .inr d :: r, v :: vs, ⟨h1, h2⟩ => by
    rcases looked_ok t h2 with ⟨ds, e, q⟩ | e
    · refine .inl ⟨d :: ds, ?_, Rep.pk t.bs.sub h1, q⟩
      show M.bnd (looked r) _ E ps = _
      unfold M.bnd; rw [e]; rfl
    · refine .inr ?_
      show M.bnd (looked r) _ E ps = _
      unfold M.bnd; rw [e]
  | .inl k :: r, v :: vs, ⟨h1, h2⟩ => by
    rcases peek_cases k E ps with ⟨s, e1, n, e2⟩ | e2
    · rcases looked_ok t h2 with ⟨ds, e, q⟩ | e
      · refine .inl ⟨s.frz :: ds, ?_, ?_, q⟩
        · show M.bnd (peek k) _ E ps = _
          unfold M.bnd; rw [e2]
          show M.bnd (looked r) _ E ps = _
          unfold M.bnd; rw [e]; rfl
        · obtain ⟨w, ew, ok⟩ := t.slots k s e1 n
          rw [h1] at ew; cases ew
          exact ok.pk t.bs.sub n
      · refine .inr ?_
        show M.bnd (peek k) _ E ps = _
        unfold M.bnd; rw [e2]
        show M.bnd (looked r) _ E ps = _
        unfold M.bnd; rw [e]
    · refine .inr ?_
      show M.bnd (peek k) _ E ps = _
      unfold M.bnd; rw [e2]
  | [], _ :: _, h => h.elim
  | .inl _ :: _, [], h => h.elim
  | .inr _ :: _, [], h => h.elim
theorem revCons {α : Type} (x : α) (l : List α) : (x :: l).reverse = l.reverse ++ [x] := by simp
/-- the operands' reading: P is any wish of the run behind them -/
theorem opsGo_read {α : Type} {k : List D → M α} (P : Hp → Out α → Prop) (Pm : ∀ S S' o, Same S S' → P S o → P S' o) (Pb : ∀ S, P S .bad → False) (Pe : ∀ S x q, P S (.err x q) → ErrTo W c x q) (Q : List V → Hp → Prop) : ∀ (os : List Opn) (acc : List (Sum Nat D)) (ws : List V) (S H : Hp) (E : List Sl) (ps : Pn),
    Stt c S H σ E ps → AccOk c S σ acc.reverse ws → P S (opsGo k os acc E ps) →
    (∀ ds vs S' H' E' ps', Same S S' → Stt c S' H' σ E' ps' → Pks c.K c.p S' H' vs ds → P S' (k ds E' ps') → Q vs H') →
    tOs c.K W os σ H fun vs H' => Q (ws ++ vs) H'
  | [], acc, ws, S, H, E, ps, t, a, h, f => by
    show Q (ws ++ []) H
    rw [List.append_nil]
    rcases looked_ok t a with ⟨ds, e, q⟩ | e
    · have h' : P S (M.bnd (looked acc.reverse) k E ps) := h
      unfold M.bnd at h'
      rw [e] at h'
      exact f ds ws S H E ps (Same.refl _) t q h'
    · have h' : P S (M.bnd (looked acc.reverse) k E ps) := h
      unfold M.bnd at h'
      rw [e] at h'
      exact (Pb _ h').elim
  | .late i :: r, acc, ws, S, H, E, ps, t, a, h, f => by
    show ∃ v, σ[i]? = some (some v) ∧ tOs c.K W r σ H fun xs H2 => Q (ws ++ v :: xs) H2
    have h' : P S (M.bnd (peek i) (fun _ => opsGo k r (.inl i :: acc)) E ps) := h
    unfold M.bnd at h'
    rcases peek_cases i E ps with ⟨s, e1, n, e2⟩ | e2
    · rw [e2] at h'
      obtain ⟨v, e, _⟩ := t.slots i s e1 n
      refine ⟨v, e, ?_⟩
      have q := opsGo_read P Pm Pb Pe Q r (.inl i :: acc) (ws ++ [v]) S H E ps t (by rw [revCons]; exact a.snoc ⟨e, trivial⟩) h' f
      have e3 : (fun (vs : List V) (H' : Hp) => Q (ws ++ [v] ++ vs) H') = (fun xs H2 => Q (ws ++ v :: xs) H2) := by
        funext xs H2
        rw [List.append_assoc]; rfl
      rw [e3] at q
      exact q
    · rw [e2] at h'
      exact (Pb _ h').elim
  | .code g :: r, acc, ws, S, H, E, ps, t, a, h, f => by
    have h' : P S (M.bnd g (fun d => opsGo k r (.inr d :: acc)) E ps) := h
    show tM c.K W RD g σ H fun v H1 => tOs c.K W r σ H1 fun xs H2 => Q (ws ++ v :: xs) H2
    refine ⟨c, S, E, ps, rfl, t, ?_⟩
    unfold M.bnd at h'
    cases e : g E ps with
    | ok d E' ps' =>
      rw [e] at h'
      intro v S' H' sm t' rp
      have q := opsGo_read P Pm Pb Pe Q r (.inr d :: acc) (ws ++ [v]) S' H' E' ps' t' (by rw [revCons]; exact (a.mono sm).snoc ⟨rp, trivial⟩) (Pm _ _ _ sm h')
        (fun ds vs S2 H2 E2 ps2 s2 t2 pk h2 => f ds vs S2 H2 E2 ps2 (sm.trans s2) t2 pk h2)
      have e3 : (fun (vs : List V) (H' : Hp) => Q (ws ++ [v] ++ vs) H') = (fun xs H2 => Q (ws ++ v :: xs) H2) := by
        funext xs H2
        rw [List.append_assoc]; rfl
      rw [e3] at q
      exact q
    | err x ps' =>
      rw [e] at h'
      exact Pe _ _ _ h'
    | bad =>
      rw [e] at h'
      exact (Pb _ h').elim
end
end Dl
namespace Dl
open PySem PySem.Spec PyProof.Rows L2
variable [LawT]
section
variable {X : Cx} {W : XK} {c : Ctx} {S S' H H' : Hp} {σ : L2.St} {E : List Sl} {ps : Pn} {e : Expr} {Q : VK}
/-! ### from one form to another -/
def frzM (g : M Sl) : M D := M.bnd g fun r => M.ret r.frz
def imM (g : M D) : M Sl := M.bnd g fun d => M.ret (.im d)
theorem dv_frz {g : M Sl} (h : DE X W e g) : DV X W e (frzM g) := by
  refine pe_imp h fun σ H Q => ?_
  rintro ⟨c, S, E, ps, hk, t, q⟩
  refine ⟨c, S, E, ps, hk, t, Post.bnd q fun a E' ps' v S' H' sm t' r p => ?_⟩
  obtain ⟨S2, sm2, t2, rp⟩ := t'.frzRes r
  exact p v S2 H' sm2 t2 rp
theorem RS.im {v : V} {d : D} (h : Rep c.K c.p S d v) : RS c S H σ E v (.im d) := ⟨(fun z => by cases z), h, fun z => by cases z⟩
theorem de_im {g : M D} (h : DV X W e g) : DE X W e (imM g) := by
  refine pe_imp h fun σ H Q => ?_
  rintro ⟨c, S, E, ps, hk, t, q⟩
  refine ⟨c, S, E, ps, hk, t, Post.bnd q fun a E' ps' v S' H' sm t' r p => ?_⟩
  exact p v S' H' (Same.refl _) t' (RS.im r)
theorem do_code {g : M D} (h : DV X W e g) : DO X W e (.code g) := h
theorem do_late {x : Str} {pos : Pos} (k : Nat) (h : PE X (.Name x pos) (tVar k)) : DO X W (.Name x pos) (.late k) := h
/-- a name's data; an own object is frozen by it -/
def nameV (k : Nat) : M D := fun E ps => match E[k]? with
  | some (.im d) => .ok d E ps
  | some (.ol xs) => .ok (.lst xs) (E.set k (.im (.lst xs))) ps
  | some (.od xs) => .ok (.dic xs) (E.set k (.im (.dic xs))) ps
  | some (.oi C fs) => .ok (.ins C fs) (E.set k (.im (.ins C fs))) ps
  | _ => .bad
/-- .. moved out -/
def nameR (k : Nat) : M Sl := fun E ps => match E[k]? with
  | some (.im d) => .ok (.im d) E ps
  | some (.ol xs) => .ok (.ol xs) (E.set k .un) ps
  | some (.od xs) => .ok (.od xs) (E.set k .un) ps
  | some (.oi C fs) => .ok (.oi C fs) (E.set k .un) ps
  | _ => .bad
theorem dv_name {x : Str} {pos : Pos} (k : Nat) (h : PE X (.Name x pos) (tVar k)) : DV X W (.Name x pos) (nameV k) := by
  refine pe_imp h fun σ H Q => ?_
  rintro ⟨c, S, E, ps, hk, t, q⟩
  unfold nameV at q
  cases e : E[k]? with
  | none => rw [e] at q; exact q.elim
  | some s =>
    rw [e] at q
    cases s with
    | un => exact q.elim
    | im d =>
      obtain ⟨v, e1, r⟩ := t.slots k _ e (fun z => by cases z)
      exact ⟨v, e1, q v S H (Same.refl _) t r⟩
    | ol xs =>
      obtain ⟨v, S', e1, sm, t', r⟩ := t.frzSlot e (fun z => by cases z)
      exact ⟨v, e1, q v S' H sm t' r⟩
    | od xs =>
      obtain ⟨v, S', e1, sm, t', r⟩ := t.frzSlot e (fun z => by cases z)
      exact ⟨v, e1, q v S' H sm t' r⟩
    | oi C xs =>
      obtain ⟨v, S', e1, sm, t', r⟩ := t.frzSlot e (fun z => by cases z)
      exact ⟨v, e1, q v S' H sm t' r⟩
theorem de_name {x : Str} {pos : Pos} (k : Nat) (h : PE X (.Name x pos) (tVar k)) : DE X W (.Name x pos) (nameR k) := by
  refine pe_imp h fun σ H Q => ?_
  rintro ⟨c, S, E, ps, hk, t, q⟩
  unfold nameR at q
  cases e : E[k]? with
  | none => rw [e] at q; exact q.elim
  | some s =>
    rw [e] at q
    cases s with
    | un => exact q.elim
    | im d =>
      obtain ⟨v, e1, r⟩ := t.slots k _ e (fun z => by cases z)
      exact ⟨v, e1, q v S H (Same.refl _) t (RS.im r)⟩
    | ol xs =>
      obtain ⟨v, e1, r⟩ := t.take e (fun z => by cases z)
      exact ⟨v, e1, q v S H (Same.refl _) (t.forget k) r⟩
    | od xs =>
      obtain ⟨v, e1, r⟩ := t.take e (fun z => by cases z)
      exact ⟨v, e1, q v S H (Same.refl _) (t.forget k) r⟩
    | oi C xs =>
      obtain ⟨v, e1, r⟩ := t.take e (fun z => by cases z)
      exact ⟨v, e1, q v S H (Same.refl _) (t.forget k) r⟩
theorem dv_con {d : D} {v : V} (h : PE X e (tC v)) (r : ∀ K p S, Rep K p S d v) : DV X W e (M.ret d) := by
  refine pe_imp h fun σ H Q => ?_
  rintro ⟨c, S, E, ps, hk, t, q⟩
  exact q v S H (Same.refl _) t (r _ _ _)
theorem dv_int {i : Int} {j pos} : DV X W (.Constant (.int i) j pos) (M.ret (.int i)) := dv_con pe_int fun _ _ _ => rfl
theorem dv_bl {b : Bool} {j pos} : DV X W (.Constant (.bool b) j pos) (M.ret (.bl b)) := dv_con pe_bl fun _ _ _ => rfl
theorem dv_non {j pos} : DV X W (.Constant .none j pos) (M.ret .non) := dv_con pe_non fun _ _ _ => rfl
theorem dv_str {x : Str} {j pos} : DV X W (.Constant (.str x) j pos) (M.ret (.str x)) := dv_con pe_str fun _ _ _ => rfl
theorem dv_ty {x : Str} {n : String} {pos : Pos} (hg : Gl X x) (hm : X.mg x = none) (hv : bootBuiltins x = some (.type n)) (hn : x ≠ "__name__" := by decide) (hd : (x == ("__debug__" : Str)) = false := by decide) : DV X W (.Name x pos) (M.ret (.ty n)) :=
  dv_con (pe_bltn (v := .ty n) hg hm hv rfl hn hd) fun _ _ _ => rfl

/-! ### results -/
theorem post_im {v : V} {d : D} (h : Post W RS c S σ Q (M.ret (.im d) E ps)) (t : Stt c S H σ E ps) (r : Rep c.K c.p S d v) : Q v H := h v S H (Same.refl _) t (RS.im r)
theorem post_tup {ds : List D} {xs : List V} (h : Post W RS c S σ Q (M.ret (.im (.tup ds)) E ps)) (t : Stt c S H σ E ps) (r : Reps c.K c.p S ds xs) : ∀ a, H a = none → Q (.ref a) (upd H a (.tup xs)) := fun a n => by
  have g := t.bs.newF (o := .tup xs) n
  exact h _ _ _ g.s0 (t.grow g) (RS.im ⟨a, xs, rfl, SqU.of upd_same, Reps.mono g.s0 ds r⟩)
theorem post_lst {ds : List D} {xs : List V} (h : Post W RS c S σ Q (M.ret (.ol ds) E ps)) (t : Stt c S H σ E ps) (r : Reps c.K c.p S ds xs) : ∀ a, H a = none → Q (.ref a) (upd H a (.lst xs)) := fun a n => by
  have g := t.bs.newO (o := .lst xs) n
  have ok : SlOk (c.at S H) S (upd H a (.lst xs)) (.ref a) (.ol ds) := ⟨a, xs, rfl, t.bs.s_none n, n, upd_same, r⟩
  exact h _ _ _ g.s0 (t.grow g) (ResOk.new t g (fun z => by cases z) ok)

/-! ### by operands -/
/-- what an operation on values must do to carry the data's -/
def LocR (X : Cx) (W : XK) (r : List V → Hp → VK → Prop) (k : List D → M Sl) : Prop := ∀ (c : Ctx) (S H : Hp) (σ : L2.St) (E : List Sl) (ps : Pn) (ds : List D) (vs : List V) (Q : VK), c.K = X.K → Stt c S H σ E ps → Pks c.K c.p S H vs ds → Post W RS c S σ Q (k ds E ps) → r vs H Q
theorem ops_read {os : List Opn} {k : List D → M Sl} {r : List V → Hp → VK → Prop} (l : LocR X W r k) {σ : L2.St} {H : Hp} {Q : VK} (h : tM X.K W RS (ops os k) σ H Q) : tOs X.K W os σ H (fun vs H1 => r vs H1 Q) := by
  obtain ⟨c, S, E, ps, hk, t, q⟩ := h
  rw [← hk]
  have z := opsGo_read (k := k) (fun S o => Post W RS c S σ Q o) (fun _ _ _ sm h => Post.mono sm h) (fun _ h => h) (fun _ _ _ h => h) (fun vs H1 => r vs H1 Q) os [] [] S H E ps t trivial q
    (fun ds vs S' H' E' ps' sm t' pk p => l c S' H' σ E' ps' ds vs Q hk t' pk p)
  exact z
theorem da_nil0 : PA X [] (tOs X.K W []) := pa_nil
theorem da_cons0 {es : List Expr} {o : Opn} {os : List Opn} (h : DO X W e o) (t : PA X es (tOs X.K W os)) (hs : starEach (e :: es) X.env = (false, eval e X.env) :: starEach es X.env := by rfl) : PA X (e :: es) (tOs X.K W (o :: os)) := pa_cons h t hs
/-- a call of a builtin on operands -/
theorem de_call {os : List Opn} {r : List V → Hp → VK → Prop} {k : List D → M Sl} (l : LocR X W r k) (h : PE X e (tCB r (tOs X.K W os))) : DE X W e (ops os k) :=
  pe_imp h fun σ H Q q => ops_read l q
def r2 (r : R2) : List V → Hp → VK → Prop := fun vs H Q => match vs with
  | [x, y] => r x y H Q
  | _ => False
def r1 (r : V → Hp → VK → Prop) : List V → Hp → VK → Prop := fun vs H Q => match vs with
  | [x] => r x H Q
  | _ => False
theorem de_op2 {oa ob : Opn} {r : R2} {k : List D → M Sl} (l : LocR X W (r2 r) k) (h : PE X e (tOp r (tO X.K W oa) (tO X.K W ob))) : DE X W e (ops [oa, ob] k) :=
  pe_imp h fun σ H Q q => by
    have z := ops_read l q
    exact z
theorem de_op1 {oa : Opn} {r : V → Hp → VK → Prop} {k : List D → M Sl} (l : LocR X W (r1 r) k) (h : PE X e (tUn r (tO X.K W oa))) : DE X W e (ops [oa] k) :=
  pe_imp h fun σ H Q q => by
    have z := ops_read l q
    exact z
theorem OpR.or {f : Value → Value → Sem Value} {r r' : R2} (h : OpR X f r) (h' : OpR X f r') : OpR X f (fun x y H Q => r x y H Q ∨ r' x y H Q) := by
  intro pins s σ H x y v u Q I rx ry q
  rcases q with q | q
  · exact h pins s σ H x y v u Q I rx ry q
  · exact h' pins s σ H x y v u Q I rx ry q
end
def fits (n : Nat) : Bool := decide (n ≤ 16777216)
theorem fits_le {n : Nat} (h : fits n = true) : n ≤ sizeLine := by rw [sizeLine_eq]; exact of_decide_eq_true h
theorem fits_of {n : Nat} (h : n ≤ 16777216) : fits n = true := decide_eq_true h
end Dl
namespace Dl
open PySem PySem.Spec PyProof.Rows L2
variable [LawT]
abbrev im1 (d : D) : M Sl := M.ret (.im d)
section
variable {K : PySem.W.Frag} {p : Addr} {S H : Hp}
theorem pks1 {vs : List V} {a : D} (h : Pks K p S H vs [a]) : ∃ v, vs = [v] ∧ Pk K p S H v a := by
  match vs, h with
  | [v], ⟨h1, _⟩ => exact ⟨v, rfl, h1⟩
theorem pks2 {vs : List V} {a b : D} (h : Pks K p S H vs [a, b]) : ∃ v w, vs = [v, w] ∧ Pk K p S H v a ∧ Pk K p S H w b := by
  match vs, h with
  | [v, w], ⟨h1, h2, _⟩ => exact ⟨v, w, rfl, h1, h2⟩
theorem pks3 {vs : List V} {a b c : D} (h : Pks K p S H vs [a, b, c]) : ∃ v w u, vs = [v, w, u] ∧ Pk K p S H v a ∧ Pk K p S H w b ∧ Pk K p S H u c := by
  match vs, h with
  | [v, w, u], ⟨h1, h2, h3, _⟩ => exact ⟨v, w, u, rfl, h1, h2, h3⟩
end
section
variable {X : Cx} {W : XK} {a b e : Expr} {oa ob : Opn} {pos : Pos}
/-! ### arithmetic -/
def kAdd : List D → M Sl
  | [.int i, .int j] => im1 (.int (i + j))
  | [.str x, .str y] => if fits (x.length + y.length) then im1 (.str (x ++ y)) else M.bad
  | [.lst x, .lst y] => if fits (x.length + y.length) then M.ret (.ol (x ++ y)) else M.bad
  | [.tup x, .tup y] => if fits (x.length + y.length) then im1 (.tup (x ++ y)) else M.bad
  | _ => M.bad
def rAddAll (K : PySem.W.Frag) : R2 := fun x y H Q => ((rI0 fun i j => .int (i + j)) x y H Q ∨ (∃ i j, x = .str i ∧ y = .str j ∧ i.length + j.length ≤ sizeLine ∧ Q (.str (i ++ j)) H)) ∨ (rCat x y H Q ∨ rCatA K x y H Q)
theorem loc_add : LocR X W (r2 (rAddAll X.K)) kAdd := by
  intro c S H σ E ps ds vs Q hk t pk q
  unfold kAdd at q
  split at q
  · obtain ⟨v, w, rfl, h1, h2⟩ := pks2 pk
    exact .inl (.inl ⟨_, _, h1, h2, post_im q t rfl⟩)
  · obtain ⟨v, w, rfl, h1, h2⟩ := pks2 pk
    split at q
    · rename_i hf
      exact .inl (.inr ⟨_, _, h1, h2, fits_le hf, post_im q t rfl⟩)
    · exact q.elim
  · obtain ⟨v, w, rfl, ⟨l, xs, e1, h1, r1⟩, ⟨m, ys, e2, h2, r2⟩⟩ := pks2 pk
    split at q
    · rename_i hf
      refine .inr (.inl ⟨l, m, xs, ys, e1, e2, h1, h2, by rw [r1.length, r2.length]; exact fits_le hf, ?_⟩)
      exact post_lst q t (r1.append r2)
    · exact q.elim
  · obtain ⟨v, w, rfl, ⟨l, xs, e1, h1, r1⟩, ⟨m, ys, e2, h2, r2⟩⟩ := pks2 pk
    split at q
    · rename_i hf
      rw [hk] at h1 h2
      refine .inr (.inr ⟨l, m, xs, ys, e1, e2, (SqTs t.bs.sub h1).t, (SqTs t.bs.sub h2).t, by rw [r1.length, r2.length]; exact fits_le hf, fun z => ?_, fun _ z => ?_, fun _ _ => ?_⟩)
      · subst z
        have z1 := List.eq_nil_of_length_eq_zero r1.length.symm
        rw [z1] at q
        exact post_im q t ⟨m, ys, rfl, by rw [hk]; exact h2, r2⟩
      · subst z
        have z1 := List.eq_nil_of_length_eq_zero r2.length.symm
        rw [z1, List.append_nil] at q
        exact post_im q t ⟨l, xs, rfl, by rw [hk]; exact h1, r1⟩
      · exact post_tup q t (r1.append r2)
    · exact q.elim
  · exact q.elim
theorem op_addAll : OpR X (binaryOp .Add) (rAddAll X.K) := OpR.or (OpR.or op_add op_add_str) (OpR.or op_cat op_catA)
theorem de_add (ha : DO X W a oa) (hb : DO X W b ob) : DE X W (.BinOp a .Add b pos) (ops [oa, ob] kAdd) := de_op2 loc_add (pe_op op_addAll ha hb)
def kSub : List D → M Sl
  | [.int i, .int j] => im1 (.int (i - j))
  | _ => M.bad
theorem loc_sub : LocR X W (r2 (rI0 fun i j => .int (i - j))) kSub := by
  intro c S H σ E ps ds vs Q hk t pk q
  unfold kSub at q
  split at q
  · obtain ⟨v, w, rfl, h1, h2⟩ := pks2 pk
    exact ⟨_, _, h1, h2, post_im q t rfl⟩
  · exact q.elim
theorem de_sub (ha : DO X W a oa) (hb : DO X W b ob) : DE X W (.BinOp a .Sub b pos) (ops [oa, ob] kSub) := de_op2 loc_sub (pe_op op_sub ha hb)
def mulOk (i j : Int) : Bool := decide (i.natAbs.log2 + j.natAbs.log2 < 134217000)
def kMul : List D → M Sl
  | [.int i, .int j] => if mulOk i j then im1 (.int (i * j)) else M.bad
  | [.lst xs, .int k] => if fits (xs.length * k.toNat) && fits k.natAbs then M.ret (.ol (List.replicate k.toNat xs).flatten) else M.bad
  | [.tup xs, .int k] => if !xs.isEmpty && decide (2 ≤ k) && decide (k ≤ 1000) && decide (xs.length ≤ 1000) then im1 (.tup (List.replicate k.toNat xs).flatten) else M.bad
  | _ => M.bad
def rMulAll (K : PySem.W.Frag) : R2 := fun x y H Q => rI CMulX (fun i j => .int (i * j)) x y H Q ∨ rRep x y H Q ∨ rRepT K x y H Q
theorem Reps.flat {K : PySem.W.Frag} {p : Addr} {S : Hp} {ds : List D} {vs : List V} (h : Reps K p S ds vs) : ∀ n : Nat, Reps K p S (List.replicate n ds).flatten (List.replicate n vs).flatten
  | 0 => rfl
  | n + 1 => by rw [List.replicate_succ, List.replicate_succ, List.flatten_cons, List.flatten_cons]; exact h.append (Reps.flat h n)
theorem loc_mul : LocR X W (r2 (rMulAll X.K)) kMul := by
  intro c S H σ E ps ds vs Q hk t pk q
  unfold kMul at q
  split at q
  · obtain ⟨v, w, rfl, h1, h2⟩ := pks2 pk
    split at q
    · rename_i hf
      exact .inl ⟨_, _, h1, h2, (by unfold mulOk at hf; exact mulx_ok (Nat.lt_log2_self) (Nat.lt_log2_self) (by have := of_decide_eq_true hf; omega)), post_im q t rfl⟩
    · exact q.elim
  · obtain ⟨v, w, rfl, ⟨l, xs, e1, h1, r1⟩, h2⟩ := pks2 pk
    split at q
    · rename_i hf
      rw [Bool.and_eq_true] at hf
      have n2 := fits_le hf.2
      rw [sizeLine_eq] at n2
      refine .inr (.inl ⟨l, _, xs, e1, h2, h1, by omega, by omega, by rw [r1.length]; exact fits_le hf.1, ?_⟩)
      exact post_lst q t (r1.flat _)
    · exact q.elim
  · obtain ⟨v, w, rfl, ⟨l, xs, e1, h1, r1⟩, h2⟩ := pks2 pk
    split at q
    · rename_i hf
      simp only [Bool.and_eq_true, decide_eq_true_eq, Bool.not_eq_true'] at hf
      obtain ⟨⟨⟨n1, n2⟩, n3⟩, n4⟩ := hf
      rw [hk] at h1
      refine .inr (.inr ⟨l, _, xs, e1, h2, (SqTs t.bs.sub h1).t, fun z => ?_, n2, n3, by rw [r1.length]; exact n4, ?_⟩)
      · subst z
        have z1 := List.eq_nil_of_length_eq_zero r1.length.symm
        rw [z1] at n1
        cases n1
      · exact post_tup q t (r1.flat _)
    · exact q.elim
  · exact q.elim
theorem de_mul (ha : DO X W a oa) (hb : DO X W b ob) : DE X W (.BinOp a .Mult b pos) (ops [oa, ob] kMul) := de_op2 loc_mul (pe_op (OpR.or op_mulX (OpR.or op_rep op_repT)) ha hb)
def kMod : List D → M Sl
  | [.int i, .int j] => if j != 0 then im1 (.int (i.fmod j)) else M.bad
  | _ => M.bad
theorem loc_mod : LocR X W (r2 (rI (fun _ j => j ≠ 0) fun i j => .int (i.fmod j))) kMod := by
  intro c S H σ E ps ds vs Q hk t pk q
  unfold kMod at q
  split at q
  · obtain ⟨v, w, rfl, h1, h2⟩ := pks2 pk
    split at q
    · rename_i hf
      exact ⟨_, _, h1, h2, by simpa using hf, post_im q t rfl⟩
    · exact q.elim
  · exact q.elim
theorem de_mod (ha : DO X W a oa) (hb : DO X W b ob) : DE X W (.BinOp a .Mod b pos) (ops [oa, ob] kMod) := de_op2 loc_mod (pe_op op_modN ha hb)
/-- a divisor above nought below 2^9000, or a small one -/
def kDiv : List D → M Sl
  | [.int i, .int j] => if decide (0 < j) && decide (j.natAbs.log2 < 9000) then im1 (.int (i / j)) else if j != 0 && decide (j.natAbs < 1073741824) then im1 (.int (i.fdiv j)) else M.bad
  | _ => M.bad
theorem loc_div : LocR X W (r2 fun x y H Q => rI CDivW (fun i j => .int (i / j)) x y H Q ∨ rI CDivN (fun i j => .int (i.fdiv j)) x y H Q) kDiv := by
  intro c S H σ E ps ds vs Q hk t pk q
  unfold kDiv at q
  split at q
  · obtain ⟨v, w, rfl, h1, h2⟩ := pks2 pk
    split at q
    · rename_i hf
      rw [Bool.and_eq_true] at hf
      exact .inl ⟨_, _, h1, h2, ⟨of_decide_eq_true hf.1, of_decide_eq_true hf.2⟩, post_im q t rfl⟩
    · split at q
      · rename_i hf
        rw [Bool.and_eq_true] at hf
        exact .inr ⟨_, _, h1, h2, ⟨by simpa using hf.1, of_decide_eq_true hf.2⟩, post_im q t rfl⟩
      · exact q.elim
  · exact q.elim
theorem de_div (ha : DO X W a oa) (hb : DO X W b ob) : DE X W (.BinOp a .FloorDiv b pos) (ops [oa, ob] kDiv) := de_op2 loc_div (pe_op (OpR.or op_fdivW op_fdivN) ha hb)
def kPow : List D → M Sl
  | [.int i, .int j] => if decide (0 ≤ j) && decide (j ≤ 1000000) && decide (i.natAbs < 2 ^ 64) then im1 (.int (i ^ j.toNat)) else M.bad
  | _ => M.bad
theorem loc_pow : LocR X W (r2 (rI CPow fun i j => .int (i ^ j.toNat))) kPow := by
  intro c S H σ E ps ds vs Q hk t pk q
  unfold kPow at q
  split at q
  · obtain ⟨v, w, rfl, h1, h2⟩ := pks2 pk
    split at q
    · rename_i hf
      rw [Bool.and_eq_true, Bool.and_eq_true] at hf
      exact ⟨_, _, h1, h2, ⟨of_decide_eq_true hf.1.1, of_decide_eq_true hf.1.2, of_decide_eq_true hf.2⟩, post_im q t rfl⟩
    · exact q.elim
  · exact q.elim
theorem de_pow (ha : DO X W a oa) (hb : DO X W b ob) : DE X W (.BinOp a .Pow b pos) (ops [oa, ob] kPow) := de_op2 loc_pow (pe_op op_pow ha hb)
def kNeg : List D → M Sl
  | [.int i] => im1 (.int (-i))
  | _ => M.bad
theorem loc_neg : LocR X W (r1 (fun x H Q => ∃ i, x = .int i ∧ Q (.int (-i)) H)) kNeg := by
  intro c S H σ E ps ds vs Q hk t pk q
  unfold kNeg at q
  split at q
  · obtain ⟨v, rfl, h1⟩ := pks1 pk
    exact ⟨_, h1, post_im q t rfl⟩
  · exact q.elim
theorem de_neg (ha : DO X W a oa) : DE X W (.UnaryOp .USub a pos) (ops [oa] kNeg) := de_op1 loc_neg (pe_un un_neg ha)
end
end Dl
namespace Dl
open PySem PySem.Spec PyProof.Rows L2
variable [LawT]
/-! ### data as the library's plain data -/
mutual
def toPy : D → Option PyData
  | .non => some .none
  | .bl b => some (.bool b)
  | .int i => some (.int i)
  | .str x => some (.str x)
  | .tup xs => (toPys xs).map .tuple
  | .lst xs => (toPys xs).map .list
  | _ => none
def toPys : List D → Option (List PyData)
  | [] => some []
  | x :: xs => match toPy x, toPys xs with
    | some y, some ys => some (y :: ys)
    | _, _ => none
end
section
variable {K : PySem.W.Frag} {p : Addr} {S H : Hp}
mutual
theorem Rep.dp (sm : Same S H) : ∀ (d : D) {v : V} {y : PyData}, Rep K p S d v → toPy d = some y → Dp K H v y
  | .non, _, _, h, e => by cases h; cases e; exact .non
  | .bl b, _, _, h, e => by cases h; cases e; exact .bl b
  | .int b, _, _, h, e => by cases h; cases e; exact .int b
  | .str b, _, _, h, e => by cases h; cases e; exact .str b
  | .tup ds, _, _, ⟨a, xs, h1, h2, h3⟩, e => by
    subst h1
    unfold toPy at e
    cases e2 : toPys ds with
    | none => rw [e2] at e; cases e
    | some ys => rw [e2] at e; cases e; exact .tup (SqTs sm h2).t (Reps.dp sm ds h3 e2)
  | .lst ds, _, _, ⟨a, xs, h1, h2, h3⟩, e => by
    subst h1
    unfold toPy at e
    cases e2 : toPys ds with
    | none => rw [e2] at e; cases e
    | some ys => rw [e2] at e; cases e; exact .lst (SqL.of (sm _ _ h2)) (Reps.dp sm ds h3 e2)
  | .dic _, _, _, _, e => by cases e
  | .ins _ _, _, _, _, e => by cases e
  | .ty _, _, _, _, e => by cases e
  | .cls _, _, _, _, e => by cases e
  | .pen, _, _, _, e => by cases e
theorem Reps.dp (sm : Same S H) : ∀ (ds : List D) {vs : List V} {ys : List PyData}, Reps K p S ds vs → toPys ds = some ys → DpAll K H vs ys
  | [], _, _, h, e => by rw [show _ = [] from h]; cases e; exact .nil
  | d :: ds, _, _, ⟨v, r, h1, h2, h3⟩, e => by
    subst h1
    unfold toPys at e
    cases e1 : toPy d with
    | none => rw [e1] at e; cases e
    | some y =>
      cases e2 : toPys ds with
      | none => rw [e1, e2] at e; cases e
      | some ys => rw [e1, e2] at e; cases e; exact .cons (Rep.dp sm d h2 e1) (Reps.dp sm ds h3 e2)
end
theorem Pk.dp (sm : Same S H) : ∀ {d : D} {v : V} {y : PyData}, Pk K p S H v d → toPy d = some y → Dp K H v y
  | .non, _, _, h, e => Rep.dp (K := K) (p := p) sm .non h e
  | .bl b, _, _, h, e => Rep.dp (K := K) (p := p) sm (.bl b) h e
  | .int b, _, _, h, e => Rep.dp (K := K) (p := p) sm (.int b) h e
  | .str b, _, _, h, e => Rep.dp (K := K) (p := p) sm (.str b) h e
  | .tup ds, _, _, h, e => Rep.dp (K := K) (p := p) sm (.tup ds) h e
  | .lst ds, _, _, ⟨a, xs, h1, h2, h3⟩, e => by
    subst h1
    unfold toPy at e
    cases e2 : toPys ds with
    | none => rw [e2] at e; cases e
    | some ys => rw [e2] at e; cases e; exact .lst (SqL.of h2) (Reps.dp sm ds h3 e2)
  | .dic _, _, _, _, e => by cases e
  | .ins _ _, _, _, _, e => by cases e
  | .ty _, _, _, _, e => by cases e
  | .cls _, _, _, _, e => by cases e
  | .pen, _, _, _, e => by cases e
end
/-- == of two data -/
def eqP (a b : D) : Option Bool := match toPy a, toPy b with
  | some x, some y => if SeqAt.shaped x && SeqAt.shaped y then some (PyData.eqv x y) else none
  | _, _ => none
def eqD : D → D → Option Bool
  | .str x, .str y => some (x == y)
  | a, b => eqP a b
def imO : Option Bool → M Sl
  | some b => im1 (.bl b)
  | none => M.bad
def kEq : List D → M Sl
  | [a, b] => imO (eqD a b)
  | _ => M.bad
def kNe : List D → M Sl
  | [a, b] => imO ((eqD a b).map not)
  | _ => M.bad
section
variable {X : Cx} {W : XK} {a b e : Expr} {oa ob oc : Opn} {pos : Pos}
def rEqA (K : PySem.W.Frag) : R2 := fun x y H Q => rEqD K x y H Q ∨ ∃ i j, x = .str i ∧ y = .str j ∧ Q (.bl (i == j)) H
def rNeA (K : PySem.W.Frag) : R2 := fun x y H Q => rNeD K x y H Q ∨ ∃ i j, x = .str i ∧ y = .str j ∧ Q (.bl (!(i == j))) H
theorem op_eqS : OpR X (compareOp .Eq) (fun x y H Q => ∃ i j, x = .str i ∧ y = .str j ∧ Q (.bl (i == j)) H) := by
  intro pins s σ H x y v u Q I rx ry h
  obtain ⟨i, j, rfl, rfl, q⟩ := h
  obtain ⟨t, rfl⟩ := rx
  obtain ⟨t', rfl⟩ := ry
  exact PyProof.Rows.eq_str ⟨.bl _, H, I, rfl, q⟩
theorem op_neS : OpR X (compareOp .NotEq) (fun x y H Q => ∃ i j, x = .str i ∧ y = .str j ∧ Q (.bl (!(i == j))) H) := by
  intro pins s σ H x y v u Q I rx ry h
  obtain ⟨i, j, rfl, rfl, q⟩ := h
  obtain ⟨t, rfl⟩ := rx
  obtain ⟨t', rfl⟩ := ry
  exact PyProof.Rows.ne_str ⟨.bl _, H, I, rfl, q⟩
theorem opEqA (hu : X.A.units + 64 < cLine) : OpR X (compareOp .Eq) (rEqA X.K) := Dl.OpR.or (op_eqD hu) op_eqS
theorem opNeA (hu : X.A.units + 64 < cLine) : OpR X (compareOp .NotEq) (rNeA X.K) := Dl.OpR.or (op_neD hu) op_neS
theorem loc_eq : LocR X W (r2 (rEqA X.K)) kEq := by
  intro c S H σ E ps ds vs Q hk t pk q
  unfold kEq at q
  split at q
  · obtain ⟨v, w, rfl, h1, h2⟩ := pks2 pk
    unfold eqD at q
    split at q
    · exact .inr ⟨_, _, h1, h2, post_im q t rfl⟩
    · unfold eqP at q
      split at q
      · rename_i e1 e2
        split at q
        · rename_i hs
          rw [Bool.and_eq_true] at hs
          exact .inl ⟨_, _, hk ▸ Pk.dp t.bs.sub h1 e1, hk ▸ Pk.dp t.bs.sub h2 e2, hs.1, hs.2, post_im q t rfl⟩
        · exact q.elim
      · exact q.elim
  · exact q.elim
theorem loc_ne : LocR X W (r2 (rNeA X.K)) kNe := by
  intro c S H σ E ps ds vs Q hk t pk q
  unfold kNe at q
  split at q
  · obtain ⟨v, w, rfl, h1, h2⟩ := pks2 pk
    unfold eqD at q
    split at q
    · exact .inr ⟨_, _, h1, h2, post_im q t rfl⟩
    · unfold eqP at q
      split at q
      · rename_i e1 e2
        split at q
        · rename_i hs
          rw [Bool.and_eq_true] at hs
          exact .inl ⟨_, _, hk ▸ Pk.dp t.bs.sub h1 e1, hk ▸ Pk.dp t.bs.sub h2 e2, hs.1, hs.2, post_im q t rfl⟩
        · exact q.elim
      · exact q.elim
  · exact q.elim
theorem de_eq (hu : X.A.units + 64 < cLine) (ha : DO X W a oa) (hb : DO X W b ob) (hm : behindInMarks .Eq b = false) : DE X W (.Compare a [.Eq] [b] pos) (ops [oa, ob] kEq) := de_op2 loc_eq (pe_cmpR (opEqA hu) ha hb hm)
theorem de_ne (hu : X.A.units + 64 < cLine) (ha : DO X W a oa) (hb : DO X W b ob) (hm : behindInMarks .NotEq b = false) : DE X W (.Compare a [.NotEq] [b] pos) (ops [oa, ob] kNe) := de_op2 loc_ne (pe_cmpR (opNeA hu) ha hb hm)
/-! ### order: ints, texts -/
def kOrd (f : Int → Int → Bool) (g : Str → Str → Bool) : List D → M Sl
  | [.int i, .int j] => im1 (.bl (f i j))
  | [.str x, .str y] => im1 (.bl (g x y))
  | _ => M.bad
theorem loc_ord {f : Int → Int → Bool} {g : Str → Str → Bool} : LocR X W (r2 fun x y H Q => rI0 (fun i j => .bl (f i j)) x y H Q ∨ (∃ i j, x = .str i ∧ y = .str j ∧ Q (.bl (g i j)) H)) (kOrd f g) := by
  intro c S H σ E ps ds vs Q hk t pk q
  unfold kOrd at q
  split at q
  · obtain ⟨v, w, rfl, h1, h2⟩ := pks2 pk
    exact .inl ⟨_, _, h1, h2, post_im q t rfl⟩
  · obtain ⟨v, w, rfl, h1, h2⟩ := pks2 pk
    exact .inr ⟨_, _, h1, h2, post_im q t rfl⟩
  · exact q.elim
def strLt (x y : Str) : Bool := decide (x.cps.toList < y.cps.toList)
def kLt := kOrd (fun i j => decide (i < j)) strLt
def kLe := kOrd (fun i j => decide (i ≤ j)) fun x y => !strLt y x
def kGt := kOrd (fun i j => decide (j < i)) fun x y => strLt y x
def kGe := kOrd (fun i j => decide (j ≤ i)) fun x y => !strLt x y
theorem de_lt (ha : DO X W a oa) (hb : DO X W b ob) (hm : behindInMarks .Lt b = false) : DE X W (.Compare a [.Lt] [b] pos) (ops [oa, ob] kLt) := de_op2 loc_ord (pe_cmpR (OpR.or op_lt op_lt_str) ha hb hm)
theorem de_le (ha : DO X W a oa) (hb : DO X W b ob) (hm : behindInMarks .LtE b = false) : DE X W (.Compare a [.LtE] [b] pos) (ops [oa, ob] kLe) := de_op2 loc_ord (pe_cmpR (OpR.or op_le op_le_str) ha hb hm)
theorem de_gt (ha : DO X W a oa) (hb : DO X W b ob) (hm : behindInMarks .Gt b = false) : DE X W (.Compare a [.Gt] [b] pos) (ops [oa, ob] kGt) := de_op2 loc_ord (pe_cmpR (OpR.or op_gt op_gt_str) ha hb hm)
theorem de_ge (ha : DO X W a oa) (hb : DO X W b ob) (hm : behindInMarks .GtE b = false) : DE X W (.Compare a [.GtE] [b] pos) (ops [oa, ob] kGe) := de_op2 loc_ord (pe_cmpR (OpR.or op_ge op_ge_str) ha hb hm)
/-! ### is None, in -/
def isNon : D → Bool
  | .non => true
  | _ => false
def kIsN : List D → M Sl
  | [d, .non] => im1 (.bl (isNon d))
  | _ => M.bad
def kNotN : List D → M Sl
  | [d, .non] => im1 (.bl (!isNon d))
  | _ => M.bad
theorem pk_non {K : PySem.W.Frag} {p : Addr} {S H : Hp} : ∀ {d : D} {v : V}, Pk K p S H v d → decide (v = .non) = isNon d
  | .non, v, h => by cases h; rfl
  | .bl b, v, h => by cases h; rfl
  | .int b, v, h => by cases h; rfl
  | .str b, v, h => by cases h; rfl
  | .ty b, v, h => by cases h; rfl
  | .cls b, v, h => by cases h; rfl
  | .pen, v, h => by cases h; rfl
  | .tup b, v, ⟨_, _, h, _⟩ => by subst h; rfl
  | .lst b, v, ⟨_, _, h, _⟩ => by subst h; rfl
  | .dic b, v, ⟨_, _, h, _⟩ => by subst h; rfl
  | .ins C b, v, ⟨_, _, _, h, _⟩ => by subst h; rfl
  | .exc C b, v, ⟨_, _, _, h, _⟩ => by subst h; rfl
theorem loc_isN : LocR X W (r2 fun x y H Q => y = .non ∧ Q (.bl (decide (x = .non))) H) kIsN := by
  intro c S H σ E ps ds vs Q hk t pk q
  unfold kIsN at q
  split at q
  · obtain ⟨v, w, rfl, h1, h2⟩ := pks2 pk
    exact ⟨h2, by rw [pk_non h1]; exact post_im q t rfl⟩
  · exact q.elim
theorem loc_notN : LocR X W (r2 fun x y H Q => y = .non ∧ Q (.bl (!decide (x = .non))) H) kNotN := by
  intro c S H σ E ps ds vs Q hk t pk q
  unfold kNotN at q
  split at q
  · obtain ⟨v, w, rfl, h1, h2⟩ := pks2 pk
    exact ⟨h2, by rw [pk_non h1]; exact post_im q t rfl⟩
  · exact q.elim
theorem de_isN (ha : DO X W a oa) (hb : DO X W b ob) (hm : behindInMarks .Is b = false) : DE X W (.Compare a [.Is] [b] pos) (ops [oa, ob] kIsN) := de_op2 loc_isN (pe_cmpR op_isN ha hb hm)
theorem de_notN (ha : DO X W a oa) (hb : DO X W b ob) (hm : behindInMarks .IsNot b = false) : DE X W (.Compare a [.IsNot] [b] pos) (ops [oa, ob] kNotN) := de_op2 loc_notN (pe_cmpR op_notN ha hb hm)
end
/-- flat data -/
def flatD : D → Bool
  | .non => true
  | .bl _ => true
  | .int _ => true
  | .str _ => true
  | _ => false
def eqF : D → D → Bool
  | .non, .non => true
  | .bl a, .bl b => a == b
  | .bl a, .int b => (if a then 1 else 0) == b
  | .int a, .bl b => a == (if b then 1 else 0)
  | .int a, .int b => a == b
  | .str a, .str b => a == b
  | _, _ => false
def inF (d : D) (xs : List D) : Bool := xs.any fun y => eqF y d
/-- is one of: in a list by ==, in a tuple of flat things -/
def inL (x : D) (ys : List D) : Option Bool := if flatD x && ys.all flatD then some (inF x ys) else
    match toPy x, toPys ys with
    | some d, some ds => if SeqAt.shaped d && SeqAt.shaped (.list ds) then some (ds.any fun z => PyData.eqv z d) else none
    | _, _ => none
def inT (x : D) (ys : List D) : Option Bool := if flatD x && ys.all flatD then some (inF x ys) else none
def inS (x : D) (y : Str) : Option Bool := match x with
  | .str x => some (!(Builtin.Str.occurrences y x 0 y.length 1).isEmpty)
  | _ => none
def inD (x b : D) : Option Bool := match b with
  | .lst ys => inL x ys
  | .tup ys => inT x ys
  | .str y => inS x y
  | _ => none
def kIn : List D → M Sl
  | [a, b] => imO (inD a b)
  | _ => M.bad
def kNotIn : List D → M Sl
  | [a, b] => imO ((inD a b).map not)
  | _ => M.bad
section
variable {K : PySem.W.Frag} {p : Addr} {S H : Hp}
theorem flat_v : ∀ {d : D} {v : V}, flatD d = true → Pk K p S H v d → flatV v = true
  | .non, v, _, h => by cases h; rfl
  | .bl b, v, _, h => by cases h; rfl
  | .int b, v, _, h => by cases h; rfl
  | .str b, v, _, h => by cases h; rfl
theorem flats_v : ∀ {ds : List D} {vs : List V}, ds.all flatD = true → Reps K p S ds vs → vs.all flatV = true
  | [], vs, _, h => by rw [show _ = [] from h]; rfl
  | d :: ds, vs, e, ⟨v, r, h1, h2, h3⟩ => by
    subst h1
    rw [List.all_cons, Bool.and_eq_true] at e
    rw [List.all_cons, flat_v e.1 (Rep.pk (Same.refl S) h2), flats_v e.2 h3]
    rfl
theorem eqF_v {d e : D} {v w : V} (hd : flatD d = true) (he : flatD e = true) (h : Pk K p S H v d) (h' : Pk K p S H w e) : eqV v w = eqF d e := by
  cases d <;> first
    | (exact absurd hd Bool.false_ne_true)
    | (cases e <;> first
        | (exact absurd he Bool.false_ne_true)
        | (cases h; cases h'; rfl))
theorem inF_v {d : D} {v : V} (hd : flatD d = true) (hv : Pk K p S H v d) (sm : Same S H) : ∀ {ds : List D} {vs : List V}, ds.all flatD = true → Reps K p S ds vs → inV v vs = inF d ds
  | [], vs, _, h => by rw [show _ = [] from h]; rfl
  | e :: ds, vs, a, ⟨w, r, h1, h2, h3⟩ => by
    subst h1
    rw [List.all_cons, Bool.and_eq_true] at a
    have ih := inF_v hd hv sm a.2 h3
    unfold inV inF at ih ⊢
    rw [List.any_cons, List.any_cons, eqF_v a.1 hd (Rep.pk sm h2) hv, ih]
end
section
variable {X : Cx} {W : XK} {a b e : Expr} {oa ob oc : Opn} {pos : Pos}
def rInAll (K : PySem.W.Frag) (neg : Bool) : R2 := fun x y H Q => (rIn K neg x y H Q ∨ (∃ d ds, Dp K H x d ∧ Dp K H y (.list ds) ∧ SeqAt.shaped d = true ∧ SeqAt.shaped (.list ds) = true ∧ Q (.bl (neg ^^ (ds.any fun z => PyData.eqv z d))) H)) ∨ (∃ i j, x = .str i ∧ y = .str j ∧ Q (.bl (neg ^^ !(Builtin.Str.occurrences j i 0 j.length 1).isEmpty)) H)
theorem loc_inG {neg : Bool} {k : List D → M Sl} (hk2 : ∀ ds, k ds = match ds with
    | [a, b] => imO ((inD a b).map (neg ^^ ·))
    | _ => M.bad) : LocR X W (r2 (rInAll X.K neg)) k := by
  intro c S H σ E ps ds vs Q hk t pk q
  rw [hk2] at q
  split at q
  · rename_i a b
    obtain ⟨v, w, rfl, h1, h2⟩ := pks2 pk
    unfold inD at q
    split at q
    · obtain ⟨l, xs, e1, hl, rl⟩ := h2
      unfold inL at q
      split at q
      · rename_i hf
        rw [Bool.and_eq_true] at hf
        refine .inl (.inl ⟨l, xs, e1, .inl (SqL.of hl), flat_v hf.1 h1, flats_v hf.2 rl, ?_⟩)
        rw [inF_v hf.1 h1 t.bs.sub hf.2 rl]
        have q2 := post_im q t rfl
        cases neg with
        | true => simpa using q2
        | false => simpa using q2
      · split at q
        · rename_i d ys e2 e3
          split at q
          · rename_i hs
            rw [Bool.and_eq_true] at hs
            subst e1
            exact .inl (.inr ⟨_, _, hk ▸ Pk.dp t.bs.sub h1 e2, .lst (SqL.of hl) (hk ▸ Reps.dp t.bs.sub _ rl e3), hs.1, hs.2, post_im q t rfl⟩)
          · exact q.elim
        · exact q.elim
    · obtain ⟨l, xs, e1, hl, rl⟩ := h2
      unfold inT at q
      split at q
      · rename_i hf
        rw [Bool.and_eq_true] at hf
        rw [hk] at hl
        refine .inl (.inl ⟨l, xs, e1, .inr (SqTs t.bs.sub hl).t, flat_v hf.1 h1, flats_v hf.2 rl, ?_⟩)
        rw [inF_v hf.1 h1 t.bs.sub hf.2 rl]
        have q2 := post_im q t rfl
        cases neg with
        | true => simpa using q2
        | false => simpa using q2
      · exact q.elim
    · unfold inS at q
      split at q
      · exact .inr ⟨_, _, h1, h2, post_im q t rfl⟩
      · exact q.elim
    · exact q.elim
  · exact q.elim
theorem op_inAll (hu : X.A.units + 65 < cLine) : OpR X (compareOp .In) (rInAll X.K false) := OpR.or (OpR.or op_in_seq (fun pins s σ H x y v u Q I rx ry h => by
  obtain ⟨d, ds, h1, h2, h3, h4, h5⟩ := h
  exact op_inD hu pins s σ H x y v u Q I rx ry ⟨d, ds, h1, h2, h3, h4, by simpa using h5⟩)) (fun pins s σ H x y v u Q I rx ry h => by
  obtain ⟨i, j, h1, h2, h3⟩ := h
  exact op_in_str pins s σ H x y v u Q I rx ry ⟨i, j, h1, h2, by simpa using h3⟩)
theorem op_notInAll (hu : X.A.units + 65 < cLine) : OpR X (compareOp .NotIn) (rInAll X.K true) := OpR.or (OpR.or op_notIn_seq (fun pins s σ H x y v u Q I rx ry h => by
  obtain ⟨d, ds, h1, h2, h3, h4, h5⟩ := h
  exact op_notInD hu pins s σ H x y v u Q I rx ry ⟨d, ds, h1, h2, h3, h4, by simpa using h5⟩)) (fun pins s σ H x y v u Q I rx ry h => by
  obtain ⟨i, j, h1, h2, h3⟩ := h
  exact op_notin_str pins s σ H x y v u Q I rx ry ⟨i, j, h1, h2, by simpa using h3⟩)
theorem de_in (hu : X.A.units + 65 < cLine) (ha : DO X W a oa) (hb : DO X W b ob) (hm : behindInMarks .In b = false) : DE X W (.Compare a [.In] [b] pos) (ops [oa, ob] kIn) :=
  de_op2 (loc_inG (neg := false) fun ds => by unfold kIn; split <;> simp) (pe_cmpR (op_inAll hu) ha hb hm)
theorem de_notIn (hu : X.A.units + 65 < cLine) (ha : DO X W a oa) (hb : DO X W b ob) (hm : behindInMarks .NotIn b = false) : DE X W (.Compare a [.NotIn] [b] pos) (ops [oa, ob] kNotIn) :=
  de_op2 (loc_inG (neg := true) fun ds => by
    unfold kNotIn
    split
    · rename_i a b
      cases inD a b with
      | none => rfl
      | some x => cases x <;> rfl
    · rfl) (pe_cmpR (op_notInAll hu) ha hb hm)
end
end Dl
namespace Dl
open PySem PySem.Spec PyProof.Rows L2
variable [LawT]
section
variable {X : Cx} {W : XK} {a b d e : Expr} {oa ob oc : Opn} {pos : Pos} {c : Ctx} {S H : Hp} {σ : L2.St} {E : List Sl} {ps : Pn} {rest : List Expr}
/-! ### tests -/
def asB : Sl → M Bool
  | .im (.bl b) => M.ret b
  | _ => M.bad
def testM (g : M Sl) : M Bool := M.bnd g asB
theorem test_of {K : PySem.W.Frag} {g : M Sl} {Q : Bool → Hp → Prop} (h : tT K W (testM g) σ H Q) : tM K W RS g σ H (fun x H' => ∃ k, x = .bl k ∧ Q k H') := by
  obtain ⟨c, S, E, ps, hk, t, q⟩ := h
  refine ⟨c, S, E, ps, hk, t, PostT.bnd q fun a E' ps' v S' H' sm t' r p => ?_⟩
  unfold asB at p
  split at p
  · obtain ⟨_, r, _⟩ := r
    exact ⟨_, r, p S' H' (Same.refl _) t'⟩
  · exact p.elim
/-- a comparison as a test -/
theorem dt_cmp {op : CmpOp} {r : R2} {k : List D → M Sl} (l : LocR X W (r2 r) k) (ho : OpR X (compareOp op) r) (ha : DO X W a oa) (hb : DO X W b ob) (hm : behindInMarks op b = false) : DT X W (.Compare a [op] [b] pos) (testM (ops [oa, ob] k)) :=
  pt_imp (pt_cmpR ho ha hb hm) fun σ H Q q => by
    have z := ops_read l (test_of q)
    exact z
theorem dt_eq (hu : X.A.units + 64 < cLine) (ha : DO X W a oa) (hb : DO X W b ob) (hm : behindInMarks .Eq b = false) : DT X W (.Compare a [.Eq] [b] pos) (testM (ops [oa, ob] kEq)) := dt_cmp loc_eq (opEqA hu) ha hb hm
theorem dt_ne (hu : X.A.units + 64 < cLine) (ha : DO X W a oa) (hb : DO X W b ob) (hm : behindInMarks .NotEq b = false) : DT X W (.Compare a [.NotEq] [b] pos) (testM (ops [oa, ob] kNe)) := dt_cmp loc_ne (opNeA hu) ha hb hm
theorem dt_lt (ha : DO X W a oa) (hb : DO X W b ob) (hm : behindInMarks .Lt b = false) : DT X W (.Compare a [.Lt] [b] pos) (testM (ops [oa, ob] kLt)) := dt_cmp loc_ord (OpR.or op_lt op_lt_str) ha hb hm
theorem dt_le (ha : DO X W a oa) (hb : DO X W b ob) (hm : behindInMarks .LtE b = false) : DT X W (.Compare a [.LtE] [b] pos) (testM (ops [oa, ob] kLe)) := dt_cmp loc_ord (OpR.or op_le op_le_str) ha hb hm
theorem dt_gt (ha : DO X W a oa) (hb : DO X W b ob) (hm : behindInMarks .Gt b = false) : DT X W (.Compare a [.Gt] [b] pos) (testM (ops [oa, ob] kGt)) := dt_cmp loc_ord (OpR.or op_gt op_gt_str) ha hb hm
theorem dt_ge (ha : DO X W a oa) (hb : DO X W b ob) (hm : behindInMarks .GtE b = false) : DT X W (.Compare a [.GtE] [b] pos) (testM (ops [oa, ob] kGe)) := dt_cmp loc_ord (OpR.or op_ge op_ge_str) ha hb hm
theorem dt_isN (ha : DO X W a oa) (hb : DO X W b ob) (hm : behindInMarks .Is b = false) : DT X W (.Compare a [.Is] [b] pos) (testM (ops [oa, ob] kIsN)) := dt_cmp loc_isN op_isN ha hb hm
theorem dt_notN (ha : DO X W a oa) (hb : DO X W b ob) (hm : behindInMarks .IsNot b = false) : DT X W (.Compare a [.IsNot] [b] pos) (testM (ops [oa, ob] kNotN)) := dt_cmp loc_notN op_notN ha hb hm
theorem dt_in (hu : X.A.units + 65 < cLine) (ha : DO X W a oa) (hb : DO X W b ob) (hm : behindInMarks .In b = false) : DT X W (.Compare a [.In] [b] pos) (testM (ops [oa, ob] kIn)) :=
  dt_cmp (loc_inG (neg := false) fun ds => by unfold kIn; split <;> simp) (op_inAll hu) ha hb hm
theorem dt_notIn (hu : X.A.units + 65 < cLine) (ha : DO X W a oa) (hb : DO X W b ob) (hm : behindInMarks .NotIn b = false) : DT X W (.Compare a [.NotIn] [b] pos) (testM (ops [oa, ob] kNotIn)) :=
  dt_cmp (loc_inG (neg := true) fun ds => by
    unfold kNotIn
    split
    · rename_i a b
      cases inD a b with
      | none => rfl
      | some x => cases x <;> rfl
    · rfl) (op_notInAll hu) ha hb hm
/-- a value's truth -/
def truD : Sl → M Bool
  | .im .non => M.ret false
  | .im (.bl b) => M.ret b
  | .im (.int i) => M.ret (i != 0)
  | .im (.str x) => if fits x.length then M.ret ((x.length : Int) != 0) else M.bad
  | .im (.tup xs) => M.ret (!xs.isEmpty)
  | .im (.lst xs) => M.ret (!xs.isEmpty)
  | .ol xs => M.ret (!xs.isEmpty)
  | _ => M.bad
theorem Reps.isEmpty {K : PySem.W.Frag} {p : Addr} {ds : List D} {vs : List V} (h : Reps K p S ds vs) : ds.isEmpty = vs.isEmpty := by
  cases ds with
  | nil => rw [show vs = [] from h]; rfl
  | cons d ds => obtain ⟨v, r, e, _⟩ := h; subst e; rfl
theorem truD_ok {v : V} {r : Sl} {Q : Bool → Hp → Prop} (hk : c.K = X.K) (t : Stt c S H σ E ps) (h : RS c S H σ E v r) (q : PostT W c S σ Q (truD r E ps)) : ∃ k, TruV X.K v H k ∧ Q k H := by
  obtain ⟨_, h, _⟩ := h
  unfold truD at q
  split at q
  · cases h; exact ⟨false, rfl, q S H (Same.refl _) t⟩
  · cases h; exact ⟨_, rfl, q S H (Same.refl _) t⟩
  · cases h; exact ⟨_, rfl, q S H (Same.refl _) t⟩
  · cases h
    split at q
    · rename_i hf
      exact ⟨_, ⟨fits_le hf, rfl⟩, q S H (Same.refl _) t⟩
    · exact q.elim
  · obtain ⟨a, xs, h1, h2, h3⟩ := h
    subst h1
    exact ⟨_, .inr (.inl ⟨xs, hk ▸ (SqTs t.bs.sub h2).t, by rw [h3.isEmpty]⟩), q S H (Same.refl _) t⟩
  · obtain ⟨a, xs, h1, h2, h3⟩ := h
    subst h1
    exact ⟨_, .inl ⟨xs, SqL.of (t.bs.sub _ _ h2), by rw [h3.isEmpty]⟩, q S H (Same.refl _) t⟩
  · obtain ⟨a, xs, h1, _, _, h2, h3⟩ := h
    subst h1
    exact ⟨_, .inl ⟨xs, SqL.of h2, by rw [h3.isEmpty]⟩, q S H (Same.refl _) t⟩
  · exact q.elim
def truthM (g : M Sl) : M Bool := M.bnd g truD
theorem dt_truth {g : M Sl} (h : DE X W e g) (he : ∀ whole, isTrue e X.env whole = (do let v ← whole; standAt e.pos; holding [v] (truthy v))) : DT X W e (truthM g) :=
  pt_imp (pt_truth h he) fun σ H Q q => by
    obtain ⟨c, S, E, ps, hk, t, q⟩ := q
    exact ⟨c, S, E, ps, hk, t, PostT.bnd q fun a E' ps' v S' H' sm t' r p => truD_ok hk t' r p⟩
/-! ### and, or, not -/
def andM (f g : M Bool) : M Bool := M.bnd f fun b => if b then g else M.ret false
def orM (f g : M Bool) : M Bool := M.bnd f fun b => if b then M.ret true else g
def notM (f : M Bool) : M Bool := M.bnd f fun b => M.ret !b
theorem dw_and1 {f : M Bool} (ha : DT X W a f) : DW X W (.BoolOp .And [a] pos) f := pw_and1 ha
theorem dw_or1 {f : M Bool} (ha : DT X W a f) : DW X W (.BoolOp .Or [a] pos) f := pw_or1 ha
theorem dw_and {f g : M Bool} (ha : DT X W a f) (hb : DW X W (.BoolOp .And (b :: rest) pos) g) : DW X W (.BoolOp .And (a :: b :: rest) pos) (andM f g) :=
  pw_imp (pw_and ha hb) fun σ H Q q => by
    obtain ⟨c, S, E, ps, hk, t, q⟩ := q
    refine ⟨c, S, E, ps, hk, t, PostT.bndT q fun a E' ps' S' H' sm t' p => ?_⟩
    cases a with
    | true => exact ⟨c, S', E', ps', hk, t', p⟩
    | false => exact p S' H' (Same.refl _) t'
theorem dw_or {f g : M Bool} (ha : DT X W a f) (hb : DW X W (.BoolOp .Or (b :: rest) pos) g) : DW X W (.BoolOp .Or (a :: b :: rest) pos) (orM f g) :=
  pw_imp (pw_or ha hb) fun σ H Q q => by
    obtain ⟨c, S, E, ps, hk, t, q⟩ := q
    refine ⟨c, S, E, ps, hk, t, PostT.bndT q fun a E' ps' S' H' sm t' p => ?_⟩
    cases a with
    | true => exact p S' H' (Same.refl _) t'
    | false => exact ⟨c, S', E', ps', hk, t', p⟩
theorem dt_w {f : M Bool} (h : DW X W e f) : DT X W e f := h.pt
theorem dt_not {f : M Bool} (h : DT X W a f) : DT X W (.UnaryOp .Not a pos) (notM f) :=
  pt_imp (pt_not h) fun σ H Q q => by
    obtain ⟨c, S, E, ps, hk, t, q⟩ := q
    exact ⟨c, S, E, ps, hk, t, PostT.bndT q fun a E' ps' S' H' sm t' p => p S' H' (Same.refl _) t'⟩
/-- .. as values -/
def blM (f : M Bool) : M Sl := M.bnd f fun b => im1 (.bl b)
def iteM {α : Type} (f : M Bool) (g h : M α) : M α := M.bnd f fun b => if b then g else h
theorem de_ifExp {f : M Bool} {g h : M Sl} (hc : DT X W d f) (ha : DE X W a g) (hb : DE X W b h) : DE X W (.IfExp d a b pos) (iteM f g h) :=
  pe_imp (pe_ifExp hc ha hb) fun σ H Q q => by
    obtain ⟨c, S, E, ps, hk, t, q⟩ := q
    refine ⟨c, S, E, ps, hk, t, Post.bndT q fun a E' ps' S' H' sm t' p => ?_⟩
    cases a with
    | true => exact ⟨c, S', E', ps', hk, t', p⟩
    | false => exact ⟨c, S', E', ps', hk, t', p⟩
def andE (f g : M Sl) : M Sl := M.bnd f fun r => M.bnd (asB r) fun b => if b then g else im1 (.bl false)
def orE (f g : M Sl) : M Sl := M.bnd f fun r => M.bnd (asB r) fun b => if b then im1 (.bl true) else g
def notE (f : M Sl) : M Sl := M.bnd f fun r => M.bnd (truD r) fun b => im1 (.bl !b)
theorem asB_ok {v : V} {r : Sl} {k : Bool → M Sl} {Q : VK} (h : RS c S H σ E v r) (q : Post W RS c S σ Q (M.bnd (asB r) k E ps)) : ∃ b, v = .bl b ∧ Post W RS c S σ Q (k b E ps) := by
  obtain ⟨_, h, _⟩ := h
  unfold asB at q
  split at q
  · exact ⟨_, h, q⟩
  · exact q.elim
theorem de_one {op} {g : M Sl} (h : DE X W a g) : DE X W (.BoolOp op [a] pos) g := pe_one h
theorem de_and {f g : M Sl} (ha : DE X W a f) (hb : DE X W (.BoolOp .And (b :: rest) pos) g) : DE X W (.BoolOp .And (a :: b :: rest) pos) (andE f g) :=
  pe_imp (pe_and ha hb) fun σ H Q q => by
    obtain ⟨c, S, E, ps, hk, t, q⟩ := q
    refine ⟨c, S, E, ps, hk, t, Post.bnd q fun a E' ps' v S' H' sm t' r p => ?_⟩
    obtain ⟨x, e, p⟩ := asB_ok r p
    refine ⟨x, e, ?_⟩
    cases x with
    | true => exact ⟨c, S', E', ps', hk, t', p⟩
    | false => exact post_im p t' rfl
theorem de_or {f g : M Sl} (ha : DE X W a f) (hb : DE X W (.BoolOp .Or (b :: rest) pos) g) : DE X W (.BoolOp .Or (a :: b :: rest) pos) (orE f g) :=
  pe_imp (pe_or ha hb) fun σ H Q q => by
    obtain ⟨c, S, E, ps, hk, t, q⟩ := q
    refine ⟨c, S, E, ps, hk, t, Post.bnd q fun a E' ps' v S' H' sm t' r p => ?_⟩
    obtain ⟨x, e, p⟩ := asB_ok r p
    refine ⟨x, e, ?_⟩
    cases x with
    | true => exact post_im p t' rfl
    | false => exact ⟨c, S', E', ps', hk, t', p⟩
end
end Dl
namespace Dl
open PySem PySem.Spec PyProof.Rows L2
variable [LawT]
inductive Fl where
  | next | brk | cont | ret (r : Sl)
def FlTo (c : Ctx) (S H : Hp) (σ : L2.St) (D : Ends) : Fl → Prop
  | .next => D.nx σ H
  | .brk => D.bk σ H
  | .cont => D.ct σ H
  | .ret r => ∀ v, r ≠ .un → SlOk c S H v r → D.rt v H
def PostS (W : XK) (c : Ctx) (S : Hp) (D : Ends) : Out Fl → Prop
  | .ok fl E' ps' => ∀ σ' S' H', Same S S' → Stt c S' H' σ' E' ps' → FlTo c S' H' σ' D fl
  | .err x ps' => ErrTo W c x ps'
  | .bad => False
def tS (K : PySem.W.Frag) (W : XK) (f : M Fl) : TS := fun D σ H => ∃ c S E ps, c.K = K ∧ Stt c S H σ E ps ∧ PostS W c S D (f E ps)
def DS (X : Cx) (W : XK) (st : Stmt) (f : M Fl) : Prop := PS X st (tS X.K W f)
def DSs (X : Cx) (W : XK) (st : List Stmt) (f : M Fl) : Prop := PSs X st (tS X.K W f)
theorem ps_imp {X : Cx} {st : Stmt} {t u : TS} (h : PS X st t) (i : ∀ D σ H, u D σ H → t D σ H) : PS X st u := ⟨fun pins s σ H D I q => h.run pins s σ H D I (i D σ H q)⟩
theorem pss_imp {X : Cx} {st : List Stmt} {t u : TS} (h : PSs X st t) (i : ∀ D σ H, u D σ H → t D σ H) : PSs X st u := ⟨fun pins s σ H D I q => h.run pins s σ H D I (i D σ H q)⟩
section
variable {X : Cx} {W : XK} {e : Expr} {st : Stmt} {rest : List Stmt} {pos : Pos} {c : Ctx} {S S' H H' : Hp} {σ : L2.St} {E : List Sl} {ps : Pn} {De : Ends}
theorem PostS.mono (sm : Same S S') : ∀ {o : Out Fl}, PostS W c S De o → PostS W c S' De o
  | .ok _ _ _, h => fun σ2 S2 H2 s2 t => h σ2 S2 H2 (sm.trans s2) t
  | .err _ _, h => h
  | .bad, h => h
theorem PostS.bnd {α : Type} {R : RelR α} {g : M α} {k : α → M Fl} {Q' : VK} (h : PostS W c S De (M.bnd g k E ps))
    (f : ∀ a E' ps' v S' H', Same S S' → Stt c S' H' σ E' ps' → R c S' H' σ E' v a → PostS W c S' De (k a E' ps') → Q' v H') : Post W R c S σ Q' (g E ps) := by
  unfold M.bnd at h
  cases e : g E ps with
  | ok a E' ps' =>
    rw [e] at h
    exact fun v S' H' sm t r => f a E' ps' v S' H' sm t r (PostS.mono sm h)
  | err x ps' => rw [e] at h; exact h
  | bad => rw [e] at h; exact h
theorem PostS.bndT {g : M Bool} {k : Bool → M Fl} {Q' : Bool → Hp → Prop} (h : PostS W c S De (M.bnd g k E ps))
    (f : ∀ a E' ps' S' H', Same S S' → Stt c S' H' σ E' ps' → PostS W c S' De (k a E' ps') → Q' a H') : PostT W c S σ Q' (g E ps) := by
  unfold M.bnd at h
  cases e : g E ps with
  | ok a E' ps' =>
    rw [e] at h
    exact fun S' H' sm t => f a E' ps' S' H' sm t (PostS.mono sm h)
  | err x ps' => rw [e] at h; exact h
  | bad => rw [e] at h; exact h
theorem PostS.bndA {g : M (List D)} {k : List D → M Fl} {De : Ends} {Q' : List V → Hp → Prop} (h : PostS W c S De (M.bnd g k E ps))
    (f : ∀ a E' ps' vs S' H', Same S S' → Stt c S' H' σ E' ps' → Reps c.K c.p S' a vs → PostS W c S' De (k a E' ps') → Q' vs H') : PostA W c S σ Q' (g E ps) := by
  unfold M.bnd at h
  cases e : g E ps with
  | ok a E' ps' =>
    rw [e] at h
    exact fun v S' H' sm t r => f a E' ps' v S' H' sm t r (PostS.mono sm h)
  | err x ps' => rw [e] at h; exact h
  | bad => rw [e] at h; exact h
/-- one statement behind another -/
theorem PostS.bndS {De D' : Ends} {g : M Fl} {k : Fl → M Fl} (h : PostS W c S De (M.bnd g k E ps))
    (f : ∀ a E' ps' σ' S' H', Same S S' → Stt c S' H' σ' E' ps' → PostS W c S' De (k a E' ps') → FlTo c S' H' σ' D' a) : PostS W c S D' (g E ps) := by
  unfold M.bnd at h
  cases e : g E ps with
  | ok a E' ps' =>
    rw [e] at h
    exact fun σ' S' H' sm t => f a E' ps' σ' S' H' sm t (PostS.mono sm h)
  | err x ps' => rw [e] at h; exact h
  | bad => rw [e] at h; exact h
def seqK (g : M Fl) : Fl → M Fl
  | .next => g
  | x => M.ret x
def seqM (f g : M Fl) : M Fl := M.bnd f (seqK g)
theorem dss_nil : DSs X W [] (M.ret .next) := pss_imp pss_nil fun De σ H q => by
  obtain ⟨c, S, E, ps, hk, t, q⟩ := q
  exact q σ S H (Same.refl _) t
theorem dss_cons {f g : M Fl} (h1 : DS X W st f) (h2 : DSs X W rest g) : DSs X W (st :: rest) (seqM f g) := pss_imp (pss_cons h1 h2) fun De σ H q => by
  obtain ⟨c, S, E, ps, hk, t, q⟩ := q
  refine ⟨c, S, E, ps, hk, t, PostS.bndS q fun a E' ps' σ' S' H' sm t' p => ?_⟩
  cases a with
  | next => exact ⟨c, S', E', ps', hk, t', p⟩
  | brk => exact p σ' S' H' (Same.refl _) t'
  | cont => exact p σ' S' H' (Same.refl _) t'
  | ret r => exact p σ' S' H' (Same.refl _) t'
theorem dss_one {f : M Fl} (h1 : DS X W st f) : DSs X W [st] f := pss_one h1
def retM (g : M Sl) : M Fl := M.bnd g fun r => M.ret (.ret r)
theorem ds_ret {g : M Sl} (h : DE X W e g) : DS X W (.Return (some e) pos) (retM g) := ps_imp (ps_ret h) fun De σ H q => by
  obtain ⟨c, S, E, ps, hk, t, q⟩ := q
  exact ⟨c, S, E, ps, hk, t, PostS.bnd q fun a E' ps' v S' H' sm t' r p => p σ S' H' (Same.refl _) t' v r.1 r.2.1⟩
def dropM (g : M Sl) : M Fl := M.bnd g fun _ => M.ret .next
theorem ds_expr {g : M Sl} (h : DE X W e g) (hs : swapsWith e none pos.line X.env = pure false := by rfl) : DS X W (.Expr e pos) (dropM g) := ps_imp (ps_expr h hs) fun De σ H q => by
  obtain ⟨c, S, E, ps, hk, t, q⟩ := q
  exact ⟨c, S, E, ps, hk, t, PostS.bnd q fun a E' ps' v S' H' sm t' r p => p σ S' H' (Same.refl _) t'⟩
theorem ds_if {d : Expr} {a b : List Stmt} {f : M Bool} {g h : M Fl} (hc : DT X W d f) (ha : DSs X W a g) (hb : DSs X W b h) : DS X W (.If d a b pos) (iteM f g h) := ps_imp (ps_if hc ha hb) fun De σ H q => by
  obtain ⟨c, S, E, ps, hk, t, q⟩ := q
  refine ⟨c, S, E, ps, hk, t, PostS.bndT q fun a E' ps' S' H' sm t' p => ?_⟩
  cases a with
  | true => exact ⟨c, S', E', ps', hk, t', p⟩
  | false => exact ⟨c, S', E', ps', hk, t', p⟩
theorem ds_pass : DS X W (.Pass pos) (M.ret .next) := ps_imp ps_pass fun De σ H q => by
  obtain ⟨c, S, E, ps, hk, t, q⟩ := q
  exact q σ S H (Same.refl _) t
theorem ds_break : DS X W (.Break pos) (M.ret .brk) := ps_imp ps_break fun De σ H q => by
  obtain ⟨c, S, E, ps, hk, t, q⟩ := q
  exact q σ S H (Same.refl _) t
theorem ds_continue : DS X W (.Continue pos) (M.ret .cont) := ps_imp ps_continue fun De σ H q => by
  obtain ⟨c, S, E, ps, hk, t, q⟩ := q
  exact q σ S H (Same.refl _) t
/-- code that is never reached -/
theorem ds_never : DS X W st M.bad := ps_imp ps_never fun De σ H q => by
  obtain ⟨c, S, E, ps, hk, t, q⟩ := q
  exact q.elim
theorem dss_never {sts : List Stmt} : DSs X W sts M.bad := pss_imp pss_never fun De σ H q => by
  obtain ⟨c, S, E, ps, hk, t, q⟩ := q
  exact q.elim
def putM (i : Nat) (r : Sl) : M Unit := fun E ps => .ok () (E.set i r) ps
def nextM (m : M Unit) : M Fl := M.bnd m fun _ => M.ret .next
def setM (i : Nat) (g : M Sl) : M Fl := M.bnd g fun r => nextM (putM i r)
theorem set_read {g : M Sl} {i : Nat} (q : tS X.K W (setM i g) De σ H) : tAsg (tM X.K W RS g) (gName i) De σ H := by
  obtain ⟨c, S, E, ps, hk, t, q⟩ := q
  refine ⟨c, S, E, ps, hk, t, PostS.bnd q fun a E' ps' v S' H' sm t' r p => ?_⟩
  exact p (σ.set i (some v)) S' H' (Same.refl _) (t'.put r)
theorem ds_set {g : M Sl} {i : Nat} {x : Str} {pos' : Pos} (hN : X.N.Nodup) (hi : X.N[i]? = some x) (hx : Loc X.env.scope x) (h : DE X W e g) (hs : swapsWith e (some (.Name x pos')) pos.line X.env = pure false := by rfl)
    (hf : X.fn x = true ∨ X.env.scope.names.lookup x = some .local := by first | exact .inl rfl | exact .inr rfl | assumption) : DS X W (.Assign [.Name x pos'] e pos) (setM i g) :=
  ps_imp (ps_set hN hi hx h hs hf) fun De σ H q => set_read q

/-! ### targets -/
abbrev Tg := D → M Unit
/-- only the slots at is may have changed -/
def But (js : List Nat) (σ σ' : L2.St) : Prop := σ'.length = σ.length ∧ ∀ j, j ∉ js → σ'[j]? = σ[j]?
theorem But.refl {js : List Nat} {σ : L2.St} : But js σ σ := ⟨rfl, fun _ _ => rfl⟩
theorem But.trans {js ks : List Nat} {σ σ' σ2 : L2.St} (h : But js σ σ') (h' : But ks σ' σ2) : But (js ++ ks) σ σ2 :=
  ⟨h'.1.trans h.1, fun j n => (h'.2 j fun z => n (List.mem_append_right _ z)).trans (h.2 j fun z => n (List.mem_append_left _ z))⟩
theorem But.set {i : Nat} {v : V} {σ : L2.St} : But [i] σ (σ.set i (some v)) := ⟨List.length_set, fun j n => List.getElem?_set_ne fun z => n (by simp [z])⟩
def PostU (W : XK) (c : Ctx) (S : Hp) (σ : L2.St) (js : List Nat) (Q : L2.St → Hp → Prop) : Out Unit → Prop
  | .ok _ E' ps' => ∀ σ' S' H', Same S S' → Stt c S' H' σ' E' ps' → But js σ σ' → Q σ' H'
  | .err x ps' => ErrTo W c x ps'
  | .bad => False
/-- a target's reading, of data -/
def tG (K : PySem.W.Frag) (W : XK) (js : List Nat) (tg : Tg) : TG := fun v σ H Q => ∃ c S E ps d, c.K = K ∧ Stt c S H σ E ps ∧ Rep c.K c.p S d v ∧ PostU W c S σ js Q (tg d E ps)
def DG (X : Cx) (W : XK) (e : Expr) (js : List Nat) (tg : Tg) : Prop := PG X e (tG X.K W js tg)
theorem pg_imp {t u : TG} (h : PG X e t) (i : ∀ v σ H Q, u v σ H Q → t v σ H Q) : PG X e u := ⟨fun pins s σ H v z Q I r q => h.run pins s σ H v z Q I r (i v σ H Q q)⟩
def tgN (i : Nat) : Tg := fun d => putM i (.im d)
theorem dg_name {i : Nat} {x : Str} (hN : X.N.Nodup) (hi : X.N[i]? = some x) (hx : Loc X.env.scope x) (hf : X.fn x = true ∨ X.env.scope.names.lookup x = some .local := by first | exact .inl rfl | exact .inr rfl | assumption) : DG X W (.Name x pos) [i] (tgN i) :=
  pg_imp (pg_name hN hi hx hf) fun v σ H Q q => by
    obtain ⟨c, S, E, ps, d, hk, t, r, q⟩ := q
    exact q (σ.set i (some v)) S H (Same.refl _) (t.put (RS.im r)) But.set
/-- several targets -/
def tgs : List Tg → List D → M Unit
  | [], [] => M.ret ()
  | t :: ts, d :: ds => M.bnd (t d) fun _ => tgs ts ds
  | _, _ => M.bad
theorem PostU.bnd {m : M Unit} {k : Unit → M Unit} {js ks : List Nat} {Q Q' : L2.St → Hp → Prop} (h : PostU W c S σ (js ++ ks) Q (M.bnd m k E ps)) (f : ∀ E' ps' σ' S' H', Same S S' → Stt c S' H' σ' E' ps' → PostU W c S' σ' ks Q (k () E' ps') → Q' σ' H') : PostU W c S σ js Q' (m E ps) := by
  unfold M.bnd at h
  cases e : m E ps with
  | ok a E' ps' =>
    rw [e] at h
    have h : PostU W c S σ (js ++ ks) Q (k () E' ps') := h
    refine fun σ' S' H' sm t b => f E' ps' σ' S' H' sm t ?_
    cases e2 : k () E' ps' with
    | ok a2 E2 ps2 => rw [e2] at h; exact fun σ2 S2 H2 s2 t2 b2 => h σ2 S2 H2 (sm.trans s2) t2 (b.trans b2)
    | err x2 ps2 => rw [e2] at h; exact h
    | bad => rw [e2] at h; exact h
  | err x ps' => rw [e] at h; exact h
  | bad => rw [e] at h; exact h
def tGs (K : PySem.W.Frag) (W : XK) (js : List Nat) (tg : List D → M Unit) : TGs := fun vs σ H Q => ∃ c S E ps ds, c.K = K ∧ Stt c S H σ E ps ∧ Reps c.K c.p S ds vs ∧ PostU W c S σ js Q (tg ds E ps)
def DGs (X : Cx) (W : XK) (es : List Expr) (js : List Nat) (tg : List D → M Unit) : Prop := PGs X es (tGs X.K W js tg)
theorem pgs_imp {es : List Expr} {t u : TGs} (h : PGs X es t) (i : ∀ v σ H Q, u v σ H Q → t v σ H Q) : PGs X es u := ⟨fun pins s σ H v z Q I r q => h.run pins s σ H v z Q I r (i v σ H Q q)⟩
theorem dgs_nil : DGs X W [] [] (tgs []) := pgs_imp pgs_nil fun vs σ H Q q => by
  obtain ⟨c, S, E, ps, ds, hk, t, r, q⟩ := q
  cases ds with
  | nil => exact ⟨r, q σ S H (Same.refl _) t But.refl⟩
  | cons d ds => exact q.elim
theorem dgs_cons {es : List Expr} {tg : Tg} {ts : List Tg} {js ks : List Nat} (h1 : DG X W e js tg) (h2 : DGs X W es ks (tgs ts))
    (hs : (assignEach (e :: es) X.env).map (·.2) = assign e X.env :: (assignEach es X.env).map (·.2) := by rfl) : DGs X W (e :: es) (js ++ ks) (tgs (tg :: ts)) := pgs_imp (pgs_cons h1 h2 hs) fun vs σ H Q q => by
  obtain ⟨c, S, E, ps, ds, hk, t, r, q⟩ := q
  cases ds with
  | nil => exact q.elim
  | cons d ds =>
    obtain ⟨v, vr, e1, r1, r2⟩ := r
    refine ⟨v, vr, e1, c, S, E, ps, d, hk, t, r1, PostU.bnd q fun E' ps' σ' S' H' sm t' p => ?_⟩
    exact ⟨c, S', E', ps', ds, hk, t', Reps.mono sm ds r2, p⟩
def tgT' (n : Nat) (ts : List Tg) : Tg
  | .tup ds => if ds.length = n then tgs ts ds else M.bad
  | _ => M.bad
theorem dg_tup {es : List Expr} {kk n : Nat} {ts : List Tg} {js : List Nat} (hc : X.calm = true) (h : DGs X W es js (tgs ts))
    (hn : (assignEach es X.env).length = n := by rfl) (hst : (assignEach es X.env).findIdx? (·.1) = none := by rfl) : DG X W (.Tuple es kk pos) js (tgT' n ts) := pg_imp (pg_tup hc h hn hst) fun v σ H Q q => by
  obtain ⟨c, S, E, ps, d, hk, t, r, q⟩ := q
  unfold tgT' at q
  split at q
  · obtain ⟨a, xs, h1, h2, h3⟩ := r
    split at q
    · rename_i hl
      exact ⟨a, xs, h1, hk ▸ (SqTs t.bs.sub h2).t, by rw [h3.length]; exact hl, c, S, E, ps, _, hk, t, h3, q⟩
    · exact q.elim
  · exact q.elim
/-- a, b = e of a tuple -/
def asgM (g : M D) (tg : Tg) : M Fl := M.bnd g fun d => nextM (tg d)
theorem ds_asg {tge : Expr} {g : M D} {tg : Tg} {js : List Nat} (he : DV X W e g) (hg : DG X W tge js tg) (hs : swapsWithSole [tge] e pos.line X.env = pure false := by rfl) (hw : swappedStores [tge] e X.env = pure none := by rfl)
    (h1 : (assignEach [tge] X.env).map (·.2) = [assign tge X.env] := by rfl) : DS X W (.Assign [tge] e pos) (asgM g tg) := ps_imp (ps_asg he hg hs hw h1) fun De σ H q => by
  obtain ⟨c, S, E, ps, hk, t, q⟩ := q
  refine ⟨c, S, E, ps, hk, t, PostS.bnd q fun a E' ps' v S' H' sm t' r p => ?_⟩
  refine ⟨c, S', E', ps', a, hk, t', r, ?_⟩
  have p' : PostS W c S' De (M.bnd (tg a) (fun _ => M.ret .next) E' ps') := p
  unfold M.bnd at p'
  cases e2 : tg a E' ps' with
  | ok u E2 ps2 => rw [e2] at p'; exact fun σ2 S2 H2 s2 t2 _ => p' σ2 S2 H2 s2 t2
  | err x ps2 => rw [e2] at p'; exact p'
  | bad => rw [e2] at p'; exact p'
end
end Dl
namespace Dl
open PySem PySem.Spec PyProof.Rows L2
variable [LawT]
/-! ### what is walked -/
def YD (c : Ctx) (S1 : Hp) (ds : List D) : Nat → Hp → V → Hp → Prop := fun i H x H' => ∃ d, ds[i]? = some d ∧
  ∀ S ps, Same S1 S → Bs (c.at S H) S H ps → ∃ S', Bs (c.at S H) S' H' ps ∧ Rep c.K c.p S' d x
def PostI (W : XK) (c : Ctx) (S : Hp) (σ : L2.St) (R : It → Hp → Prop) : Out (List D) → Prop
  | .ok ds E' ps' => ∀ J S' H', Same S S' → Stt c S' H' σ E' ps' → Walk J ds.length (fun H => Same S' H) (YD c S' ds) → R J H'
  | .err x ps' => ErrTo W c x ps'
  | .bad => False
def tI (K : PySem.W.Frag) (W : XK) (g : M (List D)) : TI := fun σ H R => ∃ c S E ps, c.K = K ∧ Stt c S H σ E ps ∧ PostI W c S σ R (g E ps)
def DI (X : Cx) (W : XK) (tge e : Expr) (g : M (List D)) : Prop := PI X tge e (tI X.K W g)
theorem pi_imp {X : Cx} {tge e : Expr} {t u : TI} (h : PI X tge e t) (i : ∀ σ H R, u σ H R → t σ H R) : PI X tge e u := ⟨fun pins s σ H R I q => h.run pins s σ H R I (i σ H R q)⟩
theorem PI.or {X : Cx} {tge e : Expr} {t u : TI} (h : PI X tge e t) (h' : PI X tge e u) : PI X tge e (fun σ H R => t σ H R ∨ u σ H R) :=
  ⟨fun pins s σ H R I q => q.elim (h.run pins s σ H R I) (h'.run pins s σ H R I)⟩
section
variable {X : Cx} {W : XK} {tge e : Expr} {pos : Pos} {c : Ctx} {S S' H H' : Hp} {σ : L2.St} {E : List Sl} {ps : Pn}
theorem PostI.mono {R : It → Hp → Prop} (sm : Same S S') : ∀ {o : Out (List D)}, PostI W c S σ R o → PostI W c S' σ R o
  | .ok _ _ _, h => fun J S2 H2 s2 t w => h J S2 H2 (sm.trans s2) t w
  | .err _ _, h => h
  | .bad, h => h
theorem PostI.bnd {α : Type} {R : RelR α} {g : M α} {k : α → M (List D)} {R' : It → Hp → Prop} {Q' : VK} (h : PostI W c S σ R' (M.bnd g k E ps))
    (f : ∀ a E' ps' v S' H', Same S S' → Stt c S' H' σ E' ps' → R c S' H' σ E' v a → g E ps = .ok a E' ps' → PostI W c S' σ R' (k a E' ps') → Q' v H') : Post W R c S σ Q' (g E ps) := by
  unfold M.bnd at h
  cases e : g E ps with
  | ok a E' ps' =>
    rw [e] at h
    exact fun v S' H' sm t r => f a E' ps' v S' H' sm t r e (PostI.mono sm h)
  | err x ps' => rw [e] at h; exact h
  | bad => rw [e] at h; exact h
theorem yd_here {ds : List D} {xs : List V} {i : Nat} {x : V} {S1 : Hp} (hi : xs[i]? = some x) (r : Reps c.K c.p S1 ds xs) : YD c S1 ds i H x H := by
  obtain ⟨d, e, rp⟩ := r.get' hi
  exact ⟨d, e, fun S ps sm b => ⟨S, b, Rep.mono sm d rp⟩⟩
/-- the items of a list or a tuple -/
def itemsK : D → M (List D)
  | .lst ds => M.ret ds
  | .tup ds => M.ret ds
  | _ => M.bad
def itemsM (g : M D) : M (List D) := M.bnd g itemsK
theorem di_seq {g : M D} (h : DV X W e g) : DI X W tge e (itemsM g) := pi_imp (PI.or (pi_list h) (pi_tup h)) fun σ H R q => by
  obtain ⟨c, S, E, ps, hk, t, q⟩ := q
  cases eg : g E ps with
  | bad => unfold itemsM M.bnd at q; rw [eg] at q; exact q.elim
  | err x ps' =>
    unfold itemsM M.bnd at q; rw [eg] at q
    exact .inl ⟨c, S, E, ps, hk, t, by rw [eg]; exact q⟩
  | ok d E' ps' =>
    by_cases z : ∃ ds, d = .tup ds
    · obtain ⟨ds, rfl⟩ := z
      refine .inr ⟨c, S, E, ps, hk, t, PostI.bnd q fun a E2 ps2 v S' H' sm t' r ea p => ?_⟩
      rw [eg] at ea; cases ea
      obtain ⟨a, xs, h1, h2, h3⟩ := r
      have hT : SqT X.K H' a xs := hk ▸ (SqTs t'.bs.sub h2).t
      refine ⟨a, h1, ⟨xs, hT⟩, p _ S' H' (Same.refl _) t' ?_⟩
      rw [← h3.length]
      exact (walk_tup (K := X.K) (a := a) (xs := xs)).mono (fun H2 sm2 => hk ▸ (SqTs sm2 h2).t) fun i H2 x H3 hi sm2 y => by
        obtain ⟨e1, y⟩ := y
        subst e1
        exact yd_here y h3
    · refine .inl ⟨c, S, E, ps, hk, t, PostI.bnd q fun a E2 ps2 v S' H' sm t' r ea p => ?_⟩
      rw [eg] at ea; cases ea
      unfold itemsK at p
      split at p
      · obtain ⟨a, xs, h1, h2, h3⟩ := r
        refine ⟨a, h1, ⟨xs, SqL.of (t'.bs.sub _ _ h2)⟩, p _ S' H' (Same.refl _) t' ?_⟩
        rw [← h3.length]
        exact (walk_list (K := X.K) (a := a) (xs := xs)).mono (fun H2 sm2 => SqL.of (sm2 _ _ h2)) fun i H2 x H3 hi sm2 y => by
          obtain ⟨e1, y⟩ := y
          subst e1
          exact yd_here y h3
      · exact absurd ⟨_, rfl⟩ z
      · exact p.elim
/-- ranges -/
def rngL (lo : Int) (n : Nat) : List D := (List.range n).map fun i => .int (lo + (i : Nat))
theorem yd_rng {lo : Int} {n i : Nat} {x : V} {S1 : Hp} (hi : i < n) (e : x = .int (lo + (i : Nat))) : YD c S1 (rngL lo n) i H x H := by
  refine ⟨.int (lo + (i : Nat)), ?_, fun S ps sm b => ⟨S, b, e⟩⟩
  unfold rngL
  rw [List.getElem?_map, List.getElem?_range hi]
  rfl
theorem walk_rng {lo : Int} {n : Nat} {S1 : Hp} : Walk (Itr lo n) (rngL lo n).length (fun H => Same S1 H) (YD c S1 (rngL lo n)) := by
  have hl : (rngL lo n).length = n := by unfold rngL; rw [List.length_map, List.length_range]
  rw [hl]
  exact (walk_range (lo := lo) (n := n)).mono (fun _ _ => trivial) fun i H2 x H3 hi sm2 y => by
    obtain ⟨e1, y⟩ := y
    subst e1
    exact yd_rng hi y
def rngOk (i : Int) : Bool := decide (-(2 ^ 62) ≤ i) && decide (i < 2 ^ 62)
theorem rngOk_of {i : Int} (h : rngOk i = true) : -(2 ^ 62) ≤ i ∧ i < 2 ^ 62 := by
  unfold rngOk at h
  rw [Bool.and_eq_true] at h
  exact ⟨of_decide_eq_true h.1, of_decide_eq_true h.2⟩
def rngK1 : List D → M (List D)
  | [.int j] => if rngOk j then M.ret (rngL 0 j.toNat) else M.bad
  | _ => M.bad
def rngK2 : List D → M (List D)
  | [.int i, .int j] => if rngOk i && rngOk j then M.ret (rngL i (j - i).toNat) else M.bad
  | _ => M.bad
theorem opsI_read {os : List Opn} {k : List D → M (List D)} {R : It → Hp → Prop} {Q : List V → Hp → Prop} (hk : c.K = X.K) (t : Stt c S H σ E ps) (q : PostI W c S σ R (ops os k E ps))
    (l : ∀ S' H' E' ps' ds vs, Same S S' → Stt c S' H' σ E' ps' → Pks c.K c.p S' H' vs ds → PostI W c S' σ R (k ds E' ps') → Q vs H') : tOs X.K W os σ H Q := by
  rw [← hk]
  have z := opsGo_read (k := k) (fun S o => PostI W c S σ R o) (fun _ _ _ sm h => PostI.mono sm h) (fun _ h => h) (fun _ _ _ h => h) Q os [] [] S H E ps t trivial q
    (fun ds vs S' H' E' ps' sm t' pk p => l S' H' E' ps' ds vs sm t' pk p)
  exact z
theorem di_range1 {a : Expr} {oa : Opn} {p : Pos} (hg : Gl X "range") (hm : X.mg "range" = none) (ha : DO X W a oa) (hs : starEach [a] X.env = [(false, eval a X.env)] := by rfl) : DI X W tge (.Call (.Name "range" p) [a] [] pos) (ops [oa] rngK1) :=
  pi_imp (pi_range1 hg hm (da_cons0 ha da_nil0 hs) hs) fun σ H R q => by
    obtain ⟨c, S, E, ps, hk, t, q⟩ := q
    refine opsI_read hk t q fun S' H' E' ps' ds vs sm t' pk p => ?_
    unfold rngK1 at p
    split at p
    · obtain ⟨v, rfl, h1⟩ := pks1 pk
      split at p
      · rename_i hr
        exact ⟨_, by rw [show v = _ from h1], (rngOk_of hr).1, (rngOk_of hr).2, p _ S' H' (Same.refl _) t' walk_rng⟩
      · exact p.elim
    · exact p.elim
theorem di_range2 {a b : Expr} {oa ob : Opn} {p : Pos} (hg : Gl X "range") (hm : X.mg "range" = none) (ha : DO X W a oa) (hb : DO X W b ob) (hs : starEach [a, b] X.env = [(false, eval a X.env), (false, eval b X.env)] := by rfl)
    (hs1 : starEach [a, b] X.env = (false, eval a X.env) :: starEach [b] X.env := by rfl) (hs2 : starEach [b] X.env = (false, eval b X.env) :: starEach [] X.env := by rfl) (hs3 : starEach [b] X.env = [(false, eval b X.env)] := by rfl) : DI X W tge (.Call (.Name "range" p) [a, b] [] pos) (ops [oa, ob] rngK2) :=
  pi_imp (pi_range2 hg hm (da_cons0 ha (da_cons0 hb da_nil0 hs2) hs1) hs hs3) fun σ H R q => by
    obtain ⟨c, S, E, ps, hk, t, q⟩ := q
    refine opsI_read hk t q fun S' H' E' ps' ds vs sm t' pk p => ?_
    unfold rngK2 at p
    split at p
    · obtain ⟨v, w, rfl, h1, h2⟩ := pks2 pk
      split at p
      · rename_i hr
        rw [Bool.and_eq_true] at hr
        exact ⟨_, _, by rw [show v = _ from h1, show w = _ from h2], ⟨(rngOk_of hr.1).1, (rngOk_of hr.1).2, (rngOk_of hr.2).1, (rngOk_of hr.2).2⟩, p _ S' H' (Same.refl _) t' walk_rng⟩
      · exact p.elim
    · exact p.elim
/-! ### pairs -/
def enumL (ds : List D) : List D := ds.mapIdx fun i d => .tup [.int (i : Nat), d]
def zipL (xs ys : List D) : List D := List.zipWith (fun x y => .tup [x, y]) xs ys
theorem yd_pair {ds : List D} {i : Nat} {T : Addr} {x y : V} {a b : D} {S1 : Hp} (e : ds[i]? = some (.tup [a, b])) (nT : H T = none) (ra : Rep c.K c.p S1 a x) (rb : Rep c.K c.p S1 b y) : YD c S1 ds i H (.ref T) (upd H T (.tup [x, y])) := by
  refine ⟨_, e, fun S ps sm bs => ?_⟩
  have g := bs.newF (o := .tup [x, y]) nT
  have s2 := sm.trans g.s0
  exact ⟨_, g, T, [x, y], rfl, SqU.of upd_same, .cons (Rep.mono s2 a ra) (.cons (Rep.mono s2 b rb) rfl)⟩
def enumK : List D → M (List D)
  | [.lst ds] => M.ret (enumL ds)
  | _ => M.bad
theorem enumL_length {ds : List D} : (enumL ds).length = ds.length := by unfold enumL; simp
theorem zipL_length {xs ys : List D} : (zipL xs ys).length = min xs.length ys.length := by unfold zipL; simp
theorem di_enumL {a : Expr} {g : M D} {p tpos : Pos} {elts : List Expr} {kk : Nat} (hg : Gl X "enumerate") (hm : X.mg "enumerate" = none) (ha : DV X W a g) (hs : starEach [a] X.env = [(false, eval a X.env)] := by rfl) : DI X W (.Tuple elts kk tpos) (.Call (.Name "enumerate" p) [a] [] pos) (ops [.code g] enumK) :=
  pi_imp (pi_enum hg hm (da_cons0 (do_code ha) da_nil0 hs) hs) fun σ H R q => by
    obtain ⟨c, S, E, ps, hk, t, q⟩ := q
    have q : PostI W c S σ R (M.bnd g (fun d => enumK [d]) E ps) := q
    refine ⟨c, S, E, ps, hk, t, PostI.bnd q fun d E' ps' v S' H' sm t' r ea p => ?_⟩
    cases d with
    | lst ds =>
      have p : PostI W c S' σ R (M.ret (enumL ds) E' ps') := p
      obtain ⟨a, xs, h1, h2, h3⟩ := r
      subst h1
      refine ⟨a, xs, rfl, SqL.of (t'.bs.sub _ _ h2), p _ S' H' (Same.refl _) t' ?_⟩
      rw [enumL_length, ← h3.length]
      refine (walk_enum (K := X.K) (a := a) (xs := xs)).mono (fun H2 sm2 => SqL.of (sm2 _ _ h2)) fun i H2 x H3 hi sm2 y => ?_
      obtain ⟨T, u, w, rfl, nT, rfl, e1, e2⟩ := y
      obtain ⟨d, e3, rd⟩ := h3.get' e2
      have eu : u = .int (i : Nat) := (Option.some.inj e1).symm
      subst eu
      exact yd_pair (a := .int (i : Nat)) (b := d) (by unfold enumL; rw [List.getElem?_mapIdx, e3]; rfl) nT rfl rd
    | _ => exact (show False from p).elim
/-! ### for -/
theorem bnd_ok {α β : Type} {m : M α} {k : α → M β} {a : α} {E' : List Sl} {ps' : Pn} (h : m E ps = .ok a E' ps') : M.bnd m k E ps = k a E' ps' := by unfold M.bnd; rw [h]
theorem bnd_err {α β : Type} {m : M α} {k : α → M β} {x : Xn} {ps' : Pn} (h : m E ps = .err x ps') : M.bnd m k E ps = .err x ps' := by unfold M.bnd; rw [h]
theorem bnd_bad {α β : Type} {m : M α} {k : α → M β} (h : m E ps = .bad) : M.bnd m k E ps = .bad := by unfold M.bnd; rw [h]
/-- behind a turn -/
def afterK (k : M Fl) : Fl → M Fl
  | .next => k
  | .cont => k
  | .brk => M.ret .next
  | .ret x => M.ret (.ret x)
def forG (tg : Tg) (body : M Fl) : List D → M Fl
  | [] => M.ret .next
  | d :: r => M.bnd (tg d) fun _ => M.bnd body (afterK (forG tg body r))
def forM (gi : M (List D)) (tg : Tg) (body : M Fl) : M Fl := M.bnd gi (forG tg body)
theorem PostI.bndS {g : M (List D)} {k : List D → M Fl} {De : Ends} {R : It → Hp → Prop} (h : PostS W c S De (M.bnd g k E ps))
    (f : ∀ ds E' ps' J S' H', Same S S' → Stt c S' H' σ E' ps' → Walk J ds.length (fun H => Same S' H) (YD c S' ds) → PostS W c S' De (k ds E' ps') → R J H') : PostI W c S σ R (g E ps) := by
  unfold M.bnd at h
  cases e : g E ps with
  | ok a E' ps' =>
    rw [e] at h
    exact fun J S' H' sm t w => f a E' ps' J S' H' sm t w (PostS.mono sm h)
  | err x ps' => rw [e] at h; exact h
  | bad => rw [e] at h; exact h
/-- one turn's body, then the rest -/
theorem PostS.turn {f k : M Fl} {De De' : Ends} {N : L2.St → Hp → Prop} (p : PostS W c S De (M.bnd f (afterK k) E ps)) (h1 : ∀ σ' S' H' E' ps', Same S S' → Stt c S' H' σ' E' ps' → PostS W c S' De (k E' ps') → N σ' H')
    (e1 : De'.nx = N) (e2 : De'.ct = N) (e3 : De'.bk = De.nx) (e4 : De'.rt = De.rt) : PostS W c S De' (f E ps) := by
  cases e : f E ps with
  | err x ps' => rw [bnd_err e] at p; exact p
  | bad => rw [bnd_bad e] at p; exact p
  | ok fl E4 ps4 =>
    rw [bnd_ok e] at p
    intro σ4 S4 H4 sm4 t4
    cases fl with
    | next =>
      show De'.nx σ4 H4
      rw [e1]
      exact h1 σ4 S4 H4 E4 ps4 sm4 t4 (PostS.mono sm4 p)
    | cont =>
      show De'.ct σ4 H4
      rw [e2]
      exact h1 σ4 S4 H4 E4 ps4 sm4 t4 (PostS.mono sm4 p)
    | brk =>
      show De'.bk σ4 H4
      rw [e3]
      exact p σ4 S4 H4 sm4 t4
    | ret r =>
      intro v n ok
      rw [e4]
      exact p σ4 S4 H4 sm4 t4 v n ok
theorem drop_at {ds : List D} {i : Nat} {d : D} (ed : ds[i]? = some d) : ds.drop i = d :: ds.drop (i + 1) := by
  obtain ⟨hl, e⟩ := List.getElem?_eq_some_iff.mp ed
  rw [List.drop_eq_getElem_cons hl, e]
theorem ds_for {gi : M (List D)} {tg : Tg} {js : List Nat} {body : List Stmt} {f : M Fl} (hp : PassesOwn (model X.prog X.w) X.A X.env X.xe) (hc : X.calm = true) (hi : DI X W tge e gi) (hg : DG X W tge js tg) (hb : DSs X W body f)
    (hs : ∀ x, foldedSetIterable e X.env x = pure x := by intro _; rfl) : DS X W (.For tge e body [] pos) (forM gi tg f) := ps_imp (ps_for hp hc hi hg hb hs) fun De σ H q => by
  obtain ⟨c, S, E, ps, hk, t, q⟩ := q
  refine ⟨c, S, E, ps, hk, t, PostI.bndS q fun ds E1 ps1 J S1 H1 sm1 t1 w p => ?_⟩
  refine for_it w (fun i σ H => ∃ S E ps, Same S1 S ∧ Stt c S H σ E ps ∧ PostS W c S De (forG tg f (ds.drop i) E ps)) ⟨S1, E1, ps1, Same.refl _, t1, p⟩ (fun i σ H _ ⟨S, E, ps, sm, t, _⟩ => fun a o e => t.bs.sub _ _ (sm _ _ e)) ?_ ?_
  · rintro i x σ H H' hi ⟨S, E, ps, sm, t, p⟩ ⟨d, ed, y⟩
    obtain ⟨S2, g, rd⟩ := y S ps sm t.bs.start
    have t2 := t.grow g
    have sm2 : Same S S2 := g.s0
    rw [drop_at ed] at p
    have p : PostS W c S De (M.bnd (tg d) (fun _ => M.bnd f (afterK (forG tg f (ds.drop (i + 1))))) E ps) := p
    refine ⟨c, S2, E, ps, d, hk, t2, rd, ?_⟩
    cases e1 : tg d E ps with
    | err x ps' => rw [bnd_err e1] at p; exact p
    | bad => rw [bnd_bad e1] at p; exact p
    | ok u E3 ps3 =>
      rw [bnd_ok e1] at p
      intro σ3 S3 H3 sm3 t3 _
      refine ⟨c, S3, E3, ps3, hk, t3, ?_⟩
      exact PostS.turn (PostS.mono (sm2.trans sm3) p) (fun σ4 S4 H4 E4 ps4 sm4 t4 p4 => ⟨S4, E4, ps4, ((sm.trans sm2).trans sm3).trans sm4, t4, p4⟩) rfl rfl rfl rfl
  · rintro σ H ⟨S, E, ps, sm, t, p⟩
    rw [List.drop_length] at p
    exact p σ S H (Same.refl _) t
/-! ### while -/
def whileG (cnd : M Bool) (body : M Fl) : Nat → M Fl
  | 0 => M.bad
  | n + 1 => M.bnd cnd fun b => if b then M.bnd body (afterK (whileG cnd body n)) else M.ret .next
def whileM (n : Nat) (cnd : M Bool) (body : M Fl) : M Fl := whileG cnd body n
theorem ds_while {cnd : M Bool} {body : List Stmt} {f : M Fl} (n : Nat) (hp : PassesOwn (model X.prog X.w) X.A X.env X.xe) (hc : DT X W e cnd) (hb : DSs X W body f) : DS X W (.While e body [] pos) (whileM n cnd f) := ps_imp (ps_while hp hc hb) fun De σ H q => by
  obtain ⟨c, S, E, ps, hk, t, q⟩ := q
  refine ⟨fun m σ H => ∃ S E ps, Stt c S H σ E ps ∧ PostS W c S De (whileG cnd f m E ps), ⟨n, S, E, ps, t, q⟩, ?_⟩
  rintro m σ H ⟨S, E, ps, t, p⟩
  cases m with
  | zero => exact p.elim
  | succ m =>
    refine ⟨c, S, E, ps, hk, t, PostS.bndT p fun b E1 ps1 S1 H1 sm1 t1 p => ?_⟩
    cases b with
    | false => exact p σ S1 H1 (Same.refl _) t1
    | true =>
      refine ⟨fun σ H => ∃ S E ps, Stt c S H σ E ps ∧ PostS W c S De (whileG cnd f m E ps), fun σ' H' q => ⟨m, Nat.lt_succ_self m, q⟩, c, S1, E1, ps1, hk, t1, ?_⟩
      exact PostS.turn p (fun σ4 S4 H4 E4 ps4 sm4 t4 p4 => ⟨S4, E4, ps4, t4, p4⟩) rfl rfl rfl rfl
end
end Dl
namespace Dl
open PySem PySem.Spec PyProof.Rows L2
variable [LawT]
/-- no exception -/
abbrev W0 : XK := fun _ _ _ => False
def wipeE : List Nat → List Sl → List Sl
  | [], E => E
  | v :: vs, E => (wipeE vs E).set v .un
def resto : List Nat → List Sl → List Sl → List Sl
  | [], _, E => E
  | v :: vs, E0, E => (resto vs E0 E).set v ((E0[v]?).getD .un)
section
variable {c : Ctx} {S S' H H' : Hp} {σ σ' : L2.St} {E E' : List Sl} {ps ps' : Pn} {own : List Nat}
theorem wipeE_length : ∀ (own : List Nat) (E : List Sl), (wipeE own E).length = E.length
  | [], _ => rfl
  | v :: vs, E => by unfold wipeE; rw [List.length_set, wipeE_length vs E]
theorem resto_length : ∀ (own : List Nat) (E0 E : List Sl), (resto own E0 E).length = E.length
  | [], _, _ => rfl
  | v :: vs, E0, E => by unfold resto; rw [List.length_set, resto_length vs E0 E]
theorem wipeE_get : ∀ {own : List Nat} {i : Nat} {s : Sl}, (wipeE own E)[i]? = some s → s ≠ .un → i ∉ own ∧ E[i]? = some s
  | [], i, s, h, _ => ⟨by simp, h⟩
  | v :: vs, i, s, h, n => by
    rcases set_get h with ⟨_, q, _⟩ | ⟨z, e⟩
    · exact absurd q n
    · obtain ⟨h1, h2⟩ := wipeE_get e n
      exact ⟨by simp only [List.mem_cons, not_or]; exact ⟨z, h1⟩, h2⟩
theorem resto_get : ∀ {own : List Nat} {E0 : List Sl} {i : Nat} {s : Sl}, (resto own E0 E)[i]? = some s → s ≠ .un → (i ∉ own ∧ E[i]? = some s) ∨ (i ∈ own ∧ E0[i]? = some s)
  | [], E0, i, s, h, _ => .inl ⟨by simp, h⟩
  | v :: vs, E0, i, s, h, n => by
    rcases set_get h with ⟨z, q, _⟩ | ⟨z, e⟩
    · subst z
      refine .inr ⟨by simp, ?_⟩
      cases e : E0[i]? with
      | none => rw [e] at q; exact absurd q n
      | some t => rw [e] at q; exact congrArg some q.symm
    · rcases resto_get e n with ⟨h1, h2⟩ | ⟨h1, h2⟩
      · exact .inl ⟨by simp only [List.mem_cons, not_or]; exact ⟨z, h1⟩, h2⟩
      · exact .inr ⟨List.mem_cons_of_mem _ h1, h2⟩
theorem wipe_in {i : Nat} : ∀ {vs : List Nat}, i ∈ vs → i < σ.length → (wipe σ vs)[i]? = some none
  | v :: vs, h, hl => by
    show ((wipe σ vs).set v none)[i]? = _
    by_cases z : v = i
    · subst z
      exact List.getElem?_set_self (by rw [wipe_length]; exact hl)
    · rw [List.getElem?_set_ne z]
      rcases List.mem_cons.mp h with q | q
      · exact absurd q.symm z
      · exact wipe_in q hl
theorem wipe_but {js : List Nat} (hj : ∀ j ∈ js, j ∈ own) (b : But js (wipe σ own) σ') : wipe σ' own = wipe σ own := by
  have hl : σ'.length = σ.length := b.1.trans (wipe_length σ own)
  apply List.ext_getElem?
  intro i
  by_cases hi : i ∈ own
  · by_cases z : i < σ.length
    · rw [wipe_in hi (by rw [hl]; exact z), wipe_in hi z]
    · rw [List.getElem?_eq_none (by rw [wipe_length, hl]; omega), List.getElem?_eq_none (by rw [wipe_length]; omega)]
  · rw [wipe_out hi, b.2 i fun z => hi (hj i z)]
/-- the block's own slots forgotten -/
theorem Stt.wipe (own : List Nat) (t : Stt c S H σ E ps) : Stt c S H (L2.wipe σ own) (wipeE own E) ps := by
  refine ⟨t.bs, by rw [wipeE_length, wipe_length]; exact t.len, fun i s e n => ?_, fun i j s u v e1 e2 o1 o2 g1 g2 => ?_⟩
  · obtain ⟨h1, h2⟩ := wipeE_get e n
    obtain ⟨v, e1, ok⟩ := t.slots i s h2 n
    exact ⟨v, by rw [wipe_out h1]; exact e1, ok⟩
  · obtain ⟨h1, h2⟩ := wipeE_get e1 (fun z => by subst z; cases o1)
    obtain ⟨h3, h4⟩ := wipeE_get e2 (fun z => by subst z; cases o2)
    rw [wipe_out h1] at g1
    rw [wipe_out h3] at g2
    exact t.dist i j s u v h2 h4 o1 o2 g1 g2
/-- behind the block -/
theorem Stt.unwipe {S1 : Hp} {E0 : List Sl} {H1 : Hp} {ps1 : Pn} (t : Stt c S H (L2.wipe σ own) E ps) (t0 : Stt c S1 H1 σ E0 ps1) (sm : Same S1 S) (no : ∀ i ∈ own, ∀ s, E0[i]? = some s → s.own = false) : Stt c S H σ (resto own E0 E) ps := by
  refine ⟨t.bs, by rw [resto_length, t.len, wipe_length], fun i s e n => ?_, fun i j s u v e1 e2 o1 o2 g1 g2 => ?_⟩
  · rcases resto_get e n with ⟨h1, h2⟩ | ⟨h1, h2⟩
    · obtain ⟨v, e1, ok⟩ := t.slots i s h2 n
      rw [wipe_out h1] at e1
      exact ⟨v, e1, ok⟩
    · obtain ⟨v, e1, ok⟩ := t0.slots i s h2 n
      have o := no i h1 s h2
      refine ⟨v, e1, ?_⟩
      cases s with
      | un => exact absurd rfl n
      | im d => exact Rep.mono sm d ok
      | ol _ => cases o
      | od _ => cases o
      | oi _ _ => cases o
  · have f : ∀ {i : Nat} {s : Sl}, (resto own E0 E)[i]? = some s → s.own = true → i ∉ own ∧ E[i]? = some s := fun {i s} e o => by
      rcases resto_get e (fun z => by subst z; cases o) with h | ⟨h1, h2⟩
      · exact h
      · rw [no i h1 s h2] at o; cases o
    obtain ⟨h1, h2⟩ := f e1 o1
    obtain ⟨h3, h4⟩ := f e2 o2
    exact t.dist i j s u v h2 h4 o1 o2 (by rw [wipe_out h1]; exact g1) (by rw [wipe_out h3]; exact g2)
/-- an object that is nobody's: the list that a comprehension makes -/
structure Free (c : Ctx) (S H : Hp) (σ : L2.St) (E : List Sl) (a : Addr) (o : HO) : Prop where
  at' : H a = some o
  s : S a = none
  h0 : c.H0 a = none
  no : ∀ (i : Nat) (s : Sl), E[i]? = some s → s.own = true → σ[i]? ≠ some (some (.ref a))
def Ctx.lend (c : Ctx) (a : Addr) (o : HO) : Ctx := { c with H0 := upd c.H0 a o }
theorem Stt.lend {a : Addr} {o : HO} (pl : Pln o) (t : Stt c S H σ E ps) (f : Free c S H σ E a o) : Stt (c.lend a o) S H σ E ps := by
  have np : a ≠ c.p := fun z => t.bs.hp (by rw [← z]; exact f.h0)
  refine ⟨⟨t.bs.sub, t.bs.s0, fun b u n nt e => ?_, fun b n => ?_, t.bs.tabs, t.bs.tn, fun b e n => ?_, ?_, t.bs.pen⟩, t.len, fun i s e n => ?_, t.dist⟩
  · by_cases z : b = a
    · subst z
      have e' : upd c.H0 b o b = some u := e
      rw [upd_same] at e'; cases e'; exact f.at'
    · have e' : upd c.H0 a o b = some u := e
      rw [upd_ne z] at e'
      exact t.bs.keep b u n nt e'
  · by_cases z : b = a
    · subst z; rw [f.at']; intro y; cases y
    · have n' : upd c.H0 a o b ≠ none := n
      rw [upd_ne z] at n'
      exact t.bs.dom b n'
  · by_cases z : b = a
    · subst z; exact f.s
    · have n' : upd c.H0 a o b ≠ none := n
      rw [upd_ne z] at n'
      exact t.bs.fresh b e n'
  · show upd c.H0 a o c.p ≠ none
    rw [upd_ne (Ne.symm np)]
    exact t.bs.hp
  · obtain ⟨v, e1, ok⟩ := t.slots i s e n
    refine ⟨v, e1, ?_⟩
    cases s with
    | un => trivial
    | im d => exact ok
    | ol ds =>
      obtain ⟨b, xs, h1, h2, h3, h4, h5⟩ := ok
      have nb : b ≠ a := fun z => f.no i _ e rfl (by rw [e1, h1, z])
      exact ⟨b, xs, h1, h2, (upd_ne nb).trans h3, h4, h5⟩
    | od ds =>
      obtain ⟨b, xs, h1, h2, h3, h4, h5⟩ := ok
      have nb : b ≠ a := fun z => f.no i _ e rfl (by rw [e1, h1, z])
      exact ⟨b, xs, h1, h2, (upd_ne nb).trans h3, h4, h5⟩
    | oi C fs =>
      obtain ⟨b, dx, xs, h1, h2, h3, h4, h5, h6, h7, h8⟩ := ok
      have nb : b ≠ a := fun z => f.no i _ e rfl (by rw [e1, h1.1, z])
      have nd : dx ≠ a := ne_pln f.at' h7 (pl.2.2 b)
      exact ⟨b, dx, xs, h1, h2, (upd_ne nb).trans h3, h4, h5, (upd_ne nd).trans h6, h7, h8⟩
theorem h0_lend {a b : Addr} {o : HO} (h : (c.lend a o).H0 b = none) : c.H0 b = none ∧ b ≠ a := by
  by_cases z : b = a
  · subst z
    have h' : upd c.H0 b o b = none := h
    rw [upd_same] at h'; cases h'
  · have h' : upd c.H0 a o b = none := h
    rw [upd_ne z] at h'
    exact ⟨h', z⟩
theorem Stt.unlend {a : Addr} {o : HO} (pl : Pln o) (h0 : c.H0 a = none) (sp : c.H0 c.p ≠ none) (t : Stt (c.lend a o) S H σ E ps) : Stt c S H σ E ps ∧ (S a = none → Free c S H σ E a o) := by
  have np : a ≠ c.p := fun z => sp (by rw [← z]; exact h0)
  have ha : H a = some o := t.bs.keep a o np pl.1 upd_same
  refine ⟨⟨⟨t.bs.sub, t.bs.s0, fun b u n nt e => ?_, fun b n => ?_, t.bs.tabs, t.bs.tn, fun b e n => ?_, sp, t.bs.pen⟩, t.len, fun i s e n => ?_, t.dist⟩, fun hs => ⟨ha, hs, h0, fun i s e os q => ?_⟩⟩
  · have nb : b ≠ a := fun z => by rw [z, h0] at e; cases e
    exact t.bs.keep b u n nt ((upd_ne nb).trans e)
  · have nb : b ≠ a := fun z => n (by rw [z]; exact h0)
    exact t.bs.dom b (fun z => n ((upd_ne nb).symm.trans z))
  · have nb : b ≠ a := fun z => n (by rw [z]; exact h0)
    exact t.bs.fresh b e (fun z => n ((upd_ne nb).symm.trans z))
  · obtain ⟨v, e1, ok⟩ := t.slots i s e n
    refine ⟨v, e1, ?_⟩
    cases s with
    | un => trivial
    | im d => exact ok
    | ol ds =>
      obtain ⟨b, xs, h1, h2, h3, h4, h5⟩ := ok
      exact ⟨b, xs, h1, h2, (h0_lend h3).1, h4, h5⟩
    | od ds =>
      obtain ⟨b, xs, h1, h2, h3, h4, h5⟩ := ok
      exact ⟨b, xs, h1, h2, (h0_lend h3).1, h4, h5⟩
    | oi C fs =>
      obtain ⟨b, dx, xs, h1, h2, h3, h4, h5, h6, h7, h8⟩ := ok
      exact ⟨b, dx, xs, h1, h2, (h0_lend h3).1, h4, h5, (h0_lend h6).1, h7, h8⟩
  · obtain ⟨v, e1, ok⟩ := t.slots i s e (fun z => by subst z; cases os)
    rw [q] at e1
    cases e1
    obtain ⟨b, u, e2, _, h3, _⟩ := ok.own_at os
    cases e2
    exact (h0_lend h3).2 rfl
/-- what is nobody's is written -/
theorem Stt.bump {a : Addr} {o o' : HO} (pl : Pln o) (t : Stt c S H σ E ps) (f : Free c S H σ E a o) : Stt c S (upd H a o') σ E ps ∧ Free c S (upd H a o') σ E a o' := by
  have np : a ≠ c.p := fun z => t.bs.hp (by rw [← z]; exact f.h0)
  refine ⟨⟨⟨fun x w q => ?_, t.bs.s0, fun x w n nt q => ?_, fun x n => upd_dom x (t.bs.dom x n), Tabs.upd t.bs.tabs f.at' pl, t.bs.tn, t.bs.fresh, t.bs.hp, ?_⟩, t.len, fun j r ej nj => ?_, t.dist⟩, ⟨upd_same, f.s, f.h0, f.no⟩⟩
  · have n : x ≠ a := fun z => by rw [z, f.s] at q; cases q
    rw [upd_ne n]; exact t.bs.sub x w q
  · have n2 : x ≠ a := fun z => by rw [z, f.h0] at q; cases q
    rw [upd_ne n2]; exact t.bs.keep x w n nt q
  · obtain ⟨h1, l, h2, h3⟩ := t.bs.pen
    exact ⟨h1, l, by rw [upd_ne (Ne.symm np)]; exact h2, h3⟩
  · obtain ⟨w, ew, q⟩ := t.slots j r ej nj
    refine ⟨w, ew, ?_⟩
    cases r with
    | un => trivial
    | im d => exact q
    | ol ds =>
      obtain ⟨b, xs, h1, h2, h3, h4, h5⟩ := q
      have nb : b ≠ a := fun z => f.no j _ ej rfl (by rw [ew, h1, z])
      exact ⟨b, xs, h1, h2, h3, by rw [upd_ne nb]; exact h4, h5⟩
    | od ds =>
      obtain ⟨b, xs, h1, h2, h3, h4, h5⟩ := q
      have nb : b ≠ a := fun z => f.no j _ ej rfl (by rw [ew, h1, z])
      exact ⟨b, xs, h1, h2, h3, by rw [upd_ne nb]; exact h4, h5⟩
    | oi C fs =>
      obtain ⟨b, dx, xs, h1, h2, h3, h4, h5, h6, h7, h8⟩ := q
      have nb : b ≠ a := fun z => f.no j _ ej rfl (by rw [ew, h1.1, z])
      have nd : dx ≠ a := ne_pln f.at' h7 (pl.2.2 b)
      exact ⟨b, dx, xs, h1, h2, h3, by rw [upd_ne nb]; exact h4, h5, h6, by rw [upd_ne nd]; exact h7, h8⟩
theorem Free.wipe {a : Addr} {o : HO} (f : Free c S H σ E a o) : Free c S H (L2.wipe σ own) (wipeE own E) a o :=
  ⟨f.at', f.s, f.h0, fun i s e os q => by
    obtain ⟨h1, h2⟩ := wipeE_get e (fun z => by subst z; cases os)
    rw [wipe_out h1] at q
    exact f.no i s h2 os q⟩
end
/-! ### [e for x in xs if t] -/
def lcK (own : List Nat) (tt : M Bool) (te : M D) (rest : List D → M (List D)) (acc : List D) : M (List D) :=
  M.bnd tt fun b => if b then M.bnd te fun y => if fits (acc.length + 1) then fun E ps => rest (acc ++ [y]) (wipeE own E) ps else M.bad else fun E ps => rest acc (wipeE own E) ps
def lcG (own : List Nat) (tg : Tg) (tt : M Bool) (te : M D) : List D → List D → M (List D)
  | [], acc => M.ret acc
  | d :: r, acc => M.bnd (tg d) fun _ => lcK own tt te (lcG own tg tt te r) acc
def noOwn (own : List Nat) (E : List Sl) : Bool := own.all fun i => match E[i]? with
  | some s => !s.own
  | none => true
def lcEnd (own : List Nat) (E : List Sl) : Out (List D) → Out Sl
  | .ok acc E' ps' => .ok (.ol acc) (resto own E E') ps'
  | _ => .bad
def lcM (own : List Nat) (gi : M (List D)) (tg : Tg) (tt : M Bool) (te : M D) : M Sl := M.bnd gi fun ds => fun E ps =>
  if noOwn own E then lcEnd own E (lcG own tg tt te ds [] (wipeE own E) ps) else .bad
section
variable {X : Cx} {W : XK}
theorem noOwn_of {own : List Nat} {E : List Sl} (h : noOwn own E = true) : ∀ i ∈ own, ∀ s, E[i]? = some s → s.own = false := fun i hi s e => by
  have q := List.all_eq_true.mp h i hi
  rw [e] at q
  simpa using q
theorem PostI.bndL {W : XK} {c : Ctx} {S : Hp} {σ : L2.St} {E : List Sl} {ps : Pn} {Q : VK} {g : M (List D)} {k : List D → M Sl} {R : It → Hp → Prop} (h : Post W RS c S σ Q (M.bnd g k E ps))
    (f : ∀ ds E' ps' J S' H', Same S S' → Stt c S' H' σ E' ps' → Walk J ds.length (fun H => Same S' H) (YD c S' ds) → Post W RS c S' σ Q (k ds E' ps') → R J H') : PostI W c S σ R (g E ps) := by
  unfold M.bnd at h
  cases e : g E ps with
  | ok a E' ps' =>
    rw [e] at h
    exact fun J S' H' sm t w => f a E' ps' J S' H' sm t w (Post.mono sm h)
  | err x ps' => rw [e] at h; exact h
  | bad => rw [e] at h; exact h
theorem lc_read {gi : M (List D)} {tg : Tg} {tt : M Bool} {te : M D} {own js : List Nat} (hj : ∀ j ∈ js, j ∈ own) {σ : L2.St} {H : Hp} {Q : VK} (q : tM X.K W RS (lcM own gi tg tt te) σ H Q) :
    tLc (tI X.K W gi) (tG X.K W0 js tg) (tT X.K W0 tt) (tM X.K W0 RD te) own σ H Q := by
  obtain ⟨c, S, E, ps, hk, t, q⟩ := q
  refine ⟨c, S, E, ps, hk, t, PostI.bndL q fun ds E1 ps1 J S1 H1 sm1 t1 w p Da nD => ?_⟩
  cases hno : noOwn own E1 with
  | false => rw [hno] at p; exact p.elim
  | true =>
  rw [hno] at p
  have p : Post W RS c S1 σ Q (lcEnd own E1 (lcG own tg tt te ds [] (wipeE own E1) ps1)) := p
  cases ho : lcG own tg tt te ds [] (wipeE own E1) ps1 with
  | err x ps' => rw [ho] at p; exact p.elim
  | bad => rw [ho] at p; exact p.elim
  | ok accF EF psF =>
  rw [ho] at p
  have p : Post W RS c S1 σ Q (.ok (.ol accF) (resto own E1 EF) psF) := p
  have h0D : c.H0 Da = none := t1.bs.h0 nD
  have sp : c.H0 c.p ≠ none := t1.bs.hp
  -- at the start
  have g0 := t1.bs.newO (o := .lst []) nD
  have t2 : Stt c S1 (upd H1 Da (.lst [])) σ E1 ps1 := t1.grow g0
  have f2 : Free c S1 (upd H1 Da (.lst [])) σ E1 Da (.lst []) := ⟨upd_same, t1.bs.s_none nD, h0D, fun i s e os q => by
    obtain ⟨v, e1, ok⟩ := t1.slots i s e (fun z => by subst z; cases os)
    rw [q] at e1; cases e1
    obtain ⟨b, u, e2, _, _, h, _⟩ := ok.own_at os
    cases e2
    rw [nD] at h; cases h⟩
  refine lc_it w (fun i H => ∃ S E ps acc xs, Same S1 S ∧ Stt c S H (wipe σ own) E ps ∧ Free c S H (wipe σ own) E Da (.lst xs) ∧ Reps c.K c.p S acc xs ∧ lcG own tg tt te (ds.drop i) acc E ps = .ok accF EF psF)
    ⟨S1, wipeE own E1, ps1, [], [], Same.refl _, t2.wipe own, f2.wipe, rfl, ho⟩ (fun i H _ ⟨S, E, ps, acc, xs, sm, t, _⟩ => fun a o e => t.bs.sub _ _ (sm _ _ e)) ?_ ?_
  · rintro i x H H' hi ⟨S, E, ps, acc, xs, sm, t, f, ra, eq⟩ ⟨d, ed, y⟩
    obtain ⟨S2, g, rd⟩ := y S ps sm t.bs.start
    have t3 := t.grow g
    have sm2 : Same S S2 := g.s0
    rw [drop_at ed] at eq
    have eq : M.bnd (tg d) (fun _ => lcK own tt te (lcG own tg tt te (ds.drop (i + 1))) acc) E ps = .ok accF EF psF := eq
    have npD : Da ≠ c.p := fun z => sp (by rw [← z]; exact h0D)
    have f3 : Free c S2 H' (wipe σ own) E Da (.lst xs) := ⟨g.keep Da _ npD pln_lst.1 f.at', g.fresh Da f.s (show H Da ≠ none by rw [f.at']; intro z; cases z), h0D, f.no⟩
    have t4 := t3.lend pln_lst f3
    refine ⟨c.lend Da (.lst xs), S2, E, ps, d, hk, t4, rd, ?_⟩
    cases e1 : tg d E ps with
    | err z ps' => rw [bnd_err e1] at eq; cases eq
    | bad => rw [bnd_bad e1] at eq; cases eq
    | ok u E3 ps3 =>
    rw [bnd_ok e1] at eq
    intro σ3 S3 H3 sm3 t5 bt
    have wq : wipe σ3 own = wipe σ own := wipe_but hj bt
    refine ⟨wq, c.lend Da (.lst xs), S3, E3, ps3, hk, t5, ?_⟩
    unfold lcK at eq
    cases e2 : tt E3 ps3 with
    | err z ps' => rw [bnd_err e2] at eq; cases eq
    | bad => rw [bnd_bad e2] at eq; cases eq
    | ok b E4 ps4 =>
    rw [bnd_ok e2] at eq
    intro S4 H4 sm4 t6
    cases b with
    | false =>
      rw [if_neg Bool.false_ne_true] at eq ⊢
      obtain ⟨t7, f7⟩ := t6.unlend pln_lst h0D sp
      have sD : S4 Da = none := t6.bs.fresh Da (show c.S0 Da = none by
        cases z : c.S0 Da with
        | none => rfl
        | some o => exact absurd ((t.bs.s0 Da o z).symm.trans f.s) (by intro q; cases q)) (show upd c.H0 Da _ Da ≠ none by rw [upd_same]; intro z; cases z)
      refine ⟨S4, wipeE own E4, ps4, acc, xs, ((sm.trans sm2).trans sm3).trans sm4, ?_, ?_, Reps.mono ((sm2.trans sm3).trans sm4) acc ra, eq⟩
      · have z := t7.wipe own; rw [wq] at z; exact z
      · have z := (f7 sD).wipe (own := own); rw [wq] at z; exact z
    | true =>
      rw [if_pos rfl] at eq ⊢
      refine ⟨c.lend Da (.lst xs), S4, E4, ps4, hk, t6, ?_⟩
      cases e3 : te E4 ps4 with
      | err z ps' => rw [bnd_err e3] at eq; cases eq
      | bad => rw [bnd_bad e3] at eq; cases eq
      | ok yd E5 ps5 =>
      rw [bnd_ok e3] at eq
      intro v S5 H5 sm5 t8 rv
      have sD : S5 Da = none := t8.bs.fresh Da (show c.S0 Da = none by
        cases z : c.S0 Da with
        | none => rfl
        | some o => exact absurd ((t.bs.s0 Da o z).symm.trans f.s) (by intro q; cases q)) (show upd c.H0 Da _ Da ≠ none by rw [upd_same]; intro z; cases z)
      obtain ⟨t9, f9⟩ := t8.unlend pln_lst h0D sp
      have f9 := f9 sD
      cases hf : fits (acc.length + 1) with
      | false => rw [hf] at eq; cases eq
      | true =>
      rw [hf] at eq
      have eq : lcG own tg tt te (ds.drop (i + 1)) (acc ++ [yd]) (wipeE own E5) ps5 = .ok accF EF psF := eq
      obtain ⟨t10, f10⟩ := t9.bump (o' := .lst (xs ++ [v])) pln_lst f9
      refine ⟨xs, f9.at', ?_, S5, wipeE own E5, ps5, acc ++ [yd], xs ++ [v], (((sm.trans sm2).trans sm3).trans sm4).trans sm5, ?_, ?_, (Reps.mono (((sm2.trans sm3).trans sm4).trans sm5) acc ra).append (.one rv), eq⟩
      · rw [ra.length]; exact fits_le hf
      · have z := t10.wipe own; rw [wq] at z; exact z
      · have z := f10.wipe (own := own); rw [wq] at z; exact z
  · rintro H ⟨S, E, ps, acc, xs, sm, t, f, ra, eq⟩
    rw [List.drop_length] at eq
    have eq : Out.ok acc E ps = .ok accF EF psF := eq
    cases eq
    have t9 := t.unwipe t1 sm (noOwn_of hno)
    refine p (.ref Da) S H sm t9 ⟨(fun z => by cases z), ⟨Da, xs, rfl, f.s, h0D, f.at', ra⟩, fun _ j u e os q => ?_⟩
    rcases resto_get e (fun z => by subst z; cases os) with ⟨h1, h2⟩ | ⟨h1, h2⟩
    · exact f.no j u h2 os (by rw [wipe_out h1]; exact q)
    · rw [noOwn_of hno j h1 u h2] at os; cases os
theorem de_lc {elt tge iter : Expr} {ifs : List Expr} {scope : Scope} {own : List (Str × Nat)} {pos : Pos} {gi : M (List D)} {tg : Tg} {tt : M Bool} {te : M D} {js : List Nat} (hc : X.calm = true) (hN : X.N.Nodup) (hi : DI X W tge iter gi) (ok : BlkOk X.N X.env.scope scope own) (hj : ∀ j ∈ js, j ∈ own.map (·.2))
    (hg : ∀ (s : Shared) (H : Hp) (C : Addr) (cl : List (Str × Addr)) (fp : List Addr), DG (X.blk s H scope (compEnvC scope cl C X.env) fp) W0 tge js tg) (ht : ∀ (s : Shared) (H : Hp) (C : Addr) (cl : List (Str × Addr)) (fp : List Addr), PTs (X.blk s H scope (compEnvC scope cl C X.env) fp) ifs (tT X.K W0 tt))
    (he : ∀ (s : Shared) (H : Hp) (C : Addr) (cl : List (Str × Addr)) (fp : List Addr), DV (X.blk s H scope (compEnvC scope cl C X.env) fp) W0 elt te) (hs : ∀ x, foldedSetIterable iter X.env x = pure x := by intro _; rfl) :
    DE X W (.ListComp elt [⟨tge, iter, ifs, 0⟩] scope pos) (lcM (own.map (·.2)) gi tg tt te) :=
  pe_imp (pe_lc (g := tG X.K W0 js tg) (tt := tT X.K W0 tt) (te := tM X.K W0 RD te) hc hN hi ok (fun s H C cl fp => hg s H C cl fp) ht (fun s H C cl fp => he s H C cl fp) hs) fun σ H Q q => lc_read hj q
theorem ds_setLc {i : Nat} {y : Str} {py : Pos} {elt tge iter : Expr} {ifs : List Expr} {scope : Scope} {own : List (Str × Nat)} {pos spos : Pos} {gi : M (List D)} {tg : Tg} {tt : M Bool} {te : M D} {js : List Nat} (hc : X.calm = true) (hN : X.N.Nodup) (hy : X.N[i]? = some y) (hyl : X.env.scope.names.lookup y = some .local)
    (hsw : swapsWith (.ListComp elt [⟨tge, iter, ifs, 0⟩] scope pos) (some (.Name y py)) spos.line X.env = pure true) (hi : DI X W tge iter gi) (ok : BlkOk X.N X.env.scope scope own) (hj : ∀ j ∈ js, j ∈ own.map (·.2))
    (hg : ∀ (s : Shared) (H : Hp) (C : Addr) (cl : List (Str × Addr)) (fp : List Addr), DG (X.blk s H scope (compEnvC scope cl C X.env) fp) W0 tge js tg) (ht : ∀ (s : Shared) (H : Hp) (C : Addr) (cl : List (Str × Addr)) (fp : List Addr), PTs (X.blk s H scope (compEnvC scope cl C X.env) fp) ifs (tT X.K W0 tt))
    (he : ∀ (s : Shared) (H : Hp) (C : Addr) (cl : List (Str × Addr)) (fp : List Addr), DV (X.blk s H scope (compEnvC scope cl C X.env) fp) W0 elt te) (hs : ∀ x, foldedSetIterable iter X.env x = pure x := by intro _; rfl) :
    DS X W (.Assign [.Name y py] (.ListComp elt [⟨tge, iter, ifs, 0⟩] scope pos) spos) (setM i (lcM (own.map (·.2)) gi tg tt te)) :=
  ps_imp (ps_setLc (g := tG X.K W0 js tg) (tt := tT X.K W0 tt) (te := tM X.K W0 RD te) hc hN hy hyl hsw hi ok (fun s H C cl fp => hg s H C cl fp) ht (fun s H C cl fp => he s H C cl fp) hs) fun De σ H q => by
    obtain ⟨c, S, E, ps, hk, t, q⟩ := q
    refine lc_read hj ⟨c, S, E, ps, hk, t, PostS.bnd q fun a E' ps' v S' H' sm t' r p => ?_⟩
    exact p (σ.set i (some v)) S' H' (Same.refl _) (t'.put r)
theorem dts_nil : PTs X [] (tT X.K W0 (M.ret true)) := ⟨fun pins s σ H Q I q => by
  obtain ⟨c, S, E, ps, hk, t, q⟩ := q
  exact pts_nil.run pins s σ H Q I (q S H (Same.refl _) t)⟩
theorem dts_one {e : Expr} {f : M Bool} (h : DT X W0 e f) : PTs X [e] (tT X.K W0 f) := pts_one h
end
end Dl
namespace Dl
open PySem PySem.Spec PyProof.Rows L2
variable [LawT]
/-! ### defs -/
inductive FOut where
  | ok (r : Sl) (ps : Pn)
  | err (x : Xn) (ps : Pn)
  | bad
abbrev Fn := List D → Pn → FOut
def FPost (E : XK) (c : Ctx) (Q : VK) : FOut → Prop
  | .ok r ps' => ∀ v S' H', r ≠ .un → Bs c S' H' ps' → SlOk c S' H' v r → Q v H'
  | .err x ps' => ErrTo E c x ps'
  | .bad => False
/-- a def's promise: it carries the data as f says -/
def spD (K : PySem.W.Frag) (n : Nat) (f : Fn) : Sp := fun vs H Q E => ∃ p S args ps, vs.length = n ∧ args.length = n ∧ Reps K p S args vs ∧ Bs ⟨K, p, S, H, none⟩ S H ps ∧ FPost E ⟨K, p, S, H, none⟩ Q (f args ps)
def envF (N : Nat) (args : List D) : List Sl := args.map Sl.im ++ List.replicate (N - args.length) .un
def outF : Out Fl → FOut
  | .ok (.ret r) _ ps' => .ok r ps'
  | .ok .next _ ps' => .ok (.im .non) ps'
  | .ok _ _ _ => .bad
  | .err x ps' => .err x ps'
  | .bad => .bad
/-- where nothing is raised -/
def calmF : FOut → FOut
  | .err _ _ => .bad
  | x => x
def runF (N : Nat) (body : M Fl) : Fn := fun args ps => outF (body (envF N args) ps)
def runF0 (N : Nat) (body : M Fl) : Fn := fun args ps => calmF (runF N body args ps)
section
variable {P : Program} {w : World} {K : PySem.W.Frag} {mg : Str → Option Value} {base : Heap}
theorem start_stt {p : Addr} {S H : Hp} {ps : Pn} {args : List D} {vs : List V} {N : List Str} (hl : vs.length = args.length) (hN : args.length ≤ N.length) (r : Reps K p S args vs) (b : Bs ⟨K, p, S, H, none⟩ S H ps) : Stt ⟨K, p, S, H, none⟩ S H (L2.start N vs) (envF N.length args) ps := by
  have f : ∀ {i : Nat} {s : Sl}, (envF N.length args)[i]? = some s → s ≠ .un → ∃ d, args[i]? = some d ∧ s = .im d := fun {i s} e n => by
    unfold envF at e
    by_cases hi : i < args.length
    · rw [List.getElem?_append_left (by rw [List.length_map]; exact hi), List.getElem?_map, List.getElem?_eq_getElem hi] at e
      exact ⟨_, List.getElem?_eq_getElem hi, (Option.some.inj e).symm⟩
    · rw [List.getElem?_append_right (by rw [List.length_map]; omega)] at e
      have q := List.mem_of_getElem? e
      exact absurd (List.eq_of_mem_replicate q) n
  refine ⟨b, ?_, fun i s e n => ?_, fun i j s t v e1 e2 o1 o2 _ _ => ?_⟩
  · unfold envF L2.start
    rw [List.length_append, List.length_map, List.length_replicate, List.length_append, List.length_map, List.length_replicate, hl]
  · obtain ⟨d, e1, rfl⟩ := f e n
    obtain ⟨v, e2, rd⟩ := r.get e1
    refine ⟨v, ?_, rd⟩
    unfold L2.start
    have hi := (List.getElem?_eq_some_iff.mp e2).1
    rw [List.getElem?_append_left (by rw [List.length_map]; exact hi), List.getElem?_map, e2]
    rfl
  · obtain ⟨d, _, rfl⟩ := f e1 (fun z => by subst z; cases o1)
    cases o1
theorem FPost.of {E : XK} {c : Ctx} {σ : L2.St} {S : Hp} {Q : VK} {o : Out Fl} (h : FPost E c Q (outF o)) : PostS E c S { nx := fun _ H' => Q .non H', rt := Q } o := by
  cases o with
  | bad => exact h.elim
  | err x ps' => exact h
  | ok fl E' ps' =>
    cases fl with
    | next => exact fun σ' S' H' sm t => h .non S' H' (fun z => by cases z) t.bs rfl
    | brk => exact h.elim
    | cont => exact h.elim
    | ret r => exact fun σ' S' H' sm t v n ok => h v S' H' n t.bs ok
theorem FPost.calm {E E' : XK} {c : Ctx} {Q : VK} {o : FOut} (h : FPost E c Q (calmF o)) : FPost E' c Q o := by
  cases o with
  | ok r ps' => exact h
  | err x ps' => exact h.elim
  | bad => exact h.elim
theorem Fun.okD {x qual : Str} {st : Stmt} {f : Addr} {fd : FuncData} {N ps : List Str} {k : Nat} (F : Fun K x qual st f fd) (S : FnScope N ps (defScope st)) {body : M Fl} (hn : ps.length ≤ N.length)
    (hbody : ∀ (cdv : Value) (A : Around) (outer : List Env) (s : Shared) (H : Hp) (E : XK), Room k (A.deeper (envOfC qual (defScope st) s.heap.objs.size f cdv)) →
      DSs (cxOf CX0 P w K mg base N qual (defScope st) f cdv A outer s H E).nox W0 (defBody st) body) : FnOk P w K mg base CX0 (k + 1) f fd ps (spD K ps.length (runF0 N.length body)) := by
  refine F.ok S (fun vs H Q E h => ?_) (fun cdv A outer s H vs Q E hr h => ?_)
  · obtain ⟨p, S, args, pn, h1, h2, _⟩ := h
    exact h1
  · obtain ⟨p, S', args, pn, h1, h2, r, b, q⟩ := h
    refine ⟨_, hbody cdv A outer s H E hr, ⟨K, p, S', H, none⟩, S', _, pn, rfl, start_stt (h1.trans h2.symm) (by rw [h2]; exact hn) r b, ?_⟩
    exact FPost.of (σ := L2.start N vs) (FPost.calm (E' := W0) q)
theorem Fun.okXD {x qual : Str} {st : Stmt} {f : Addr} {fd : FuncData} {N ps : List Str} {k : Nat} (F : Fun K x qual st f fd) (S : FnScope N ps (defScope st)) {body : M Fl} (hn : ps.length ≤ N.length)
    (hbody : ∀ (cdv : Value) (A : Around) (outer : List Env) (s : Shared) (H : Hp) (E : XK), Room k (A.deeper (envOfC qual (defScope st) s.heap.objs.size f cdv)) →
      DSs (cxOf (L2.CX P w) P w K mg base N qual (defScope st) f cdv A outer s H E) E (defBody st) body) : FnOk P w K mg base (L2.CX P w) (k + 1) f fd ps (spD K ps.length (runF N.length body)) := by
  refine F.okX S (fun vs H Q E h => ?_) (fun cdv A outer s H vs Q E hr h => ?_)
  · obtain ⟨p, S, args, pn, h1, h2, _⟩ := h
    exact h1
  · obtain ⟨p, S', args, pn, h1, h2, r, b, q⟩ := h
    refine ⟨_, hbody cdv A outer s H E hr, ⟨K, p, S', H, none⟩, S', _, pn, rfl, start_stt (h1.trans h2.symm) (by rw [h2]; exact hn) r b, ?_⟩
    exact FPost.of (σ := L2.start N vs) q
/-- a def whose data's function is g where this is known -/
theorem FnOk.eqD {CX : CXT} {k n : Nat} {f : Addr} {fd : FuncData} {ps : List Str} {g h : Fn} (F : FnOk P w K mg base CX k f fd ps (spD K n g)) (e : ∀ args pn, h args pn ≠ .bad → g args pn = h args pn) : FnOk P w K mg base CX k f fd ps (spD K n h) :=
  F.imp fun vs H Q E q => by
    obtain ⟨p, S', args, pn, h1, h2, r, b, q⟩ := q
    refine ⟨p, S', args, pn, h1, h2, r, b, ?_⟩
    rw [e args pn (fun z => by rw [z] at q; exact q)]
    exact q
end
/-! ### calls -/
section
variable {X : Cx} {W : XK} {e : Expr} {es : List Expr} {c : Ctx} {S S' H H' : Hp} {σ : L2.St} {E : List Sl} {ps : Pn}
def argsM : List (M D) → M (List D)
  | [] => M.ret []
  | g :: gs => M.bnd g fun d => M.bnd (argsM gs) fun ds => M.ret (d :: ds)
theorem da_nil : DA X W [] (argsM []) := pa_imp pa_nil fun σ H Q q => by
  obtain ⟨c, S, E, ps, hk, t, q⟩ := q
  exact q [] S H (Same.refl _) t rfl
theorem da_cons {g : M D} {gs : List (M D)} (h : DV X W e g) (t : DA X W es (argsM gs)) (hs : starEach (e :: es) X.env = (false, eval e X.env) :: starEach es X.env := by rfl) : DA X W (e :: es) (argsM (g :: gs)) :=
  pa_imp (pa_cons h t hs) fun σ H Q q => by
    obtain ⟨c, S, E, ps, hk, t, q⟩ := q
    refine ⟨c, S, E, ps, hk, t, PostA.bnd q fun a E' ps' v S' H' sm t' r p => ?_⟩
    refine ⟨c, S', E', ps', hk, t', PostA.bndA p fun ds E2 ps2 vs S2 H2 sm2 t2 r2 p2 => ?_⟩
    exact p2 (v :: vs) S2 H2 (Same.refl _) t2 (.cons (Rep.mono sm2 a r) r2)
def applyF (f : Fn) (ds : List D) : M Sl := fun E ps => match f ds ps with
  | .ok r ps' => if (match r with | .un => true | _ => false) then .bad else .ok r E ps'
  | .err x ps' => .err x ps'
  | .bad => .bad
theorem applyF_ok {f : Fn} {n : Nat} {ds : List D} {vs : List V} {Q : VK} (hk : c.K = X.K) (t : Stt c S H σ E ps) (r : Reps c.K c.p S ds vs) (hn : ds.length = n) (p : Post W RS c S σ Q (applyF f ds E ps)) : spD X.K n f vs H Q W := by
  subst hn
  refine ⟨c.p, S, ds, ps, r.length, rfl, hk ▸ r, hk ▸ t.bs.start, ?_⟩
  rw [← hk]
  unfold applyF at p
  cases e : f ds ps with
  | bad => rw [e] at p; exact p
  | err x ps' =>
    rw [e] at p
    intro cls d S' H' b rx
    exact p cls d S' H' (t.bs.trans b) rx
  | ok r ps' =>
    rw [e] at p
    intro v S' H' n b ok
    have p : Post W RS c S σ Q (.ok r E ps') := by
      cases r with
      | un => exact absurd rfl n
      | im _ => exact p
      | ol _ => exact p
      | od _ => exact p
      | oi _ _ => exact p
    exact p v S' H' b.s0 (t.grow b) (ResOk.new t b n ok)
/-- f(..) with the defaults' data behind -/
def callM (gs : M (List D)) (n : Nat) (f : Fn) (dd : List D) : M Sl := M.bnd gs fun ds => if (ds ++ dd).length = n then applyF f (ds ++ dd) else M.bad
theorem call_read {gs : M (List D)} {n : Nat} {f : Fn} {dd : List D} {dvs : List V} (rd : ∀ K p S, Reps K p S dd dvs) {Q : VK} (q : tM X.K W RS (callM gs n f dd) σ H Q) : tA X.K W gs σ H fun vs H1 => spD X.K n f (vs ++ dvs) H1 Q W := by
  obtain ⟨c, S, E, ps, hk, t, q⟩ := q
  refine ⟨c, S, E, ps, hk, t, Post.bndA q fun ds E' ps' vs S' H' sm t' r p => ?_⟩
  split at p
  · rename_i hl
    exact applyF_ok hk t' (r.append (rd _ _ _)) hl p
  · exact p.elim
theorem de_callF {CX : CXT} {k n : Nat} {f : Addr} {fd : FuncData} {pl : List Str} {g : Fn} {x : Str} {p pos : Pos} {dd : List D} {dvs : List V} {ds : List Value} {gs : M (List D)} (F : FnOk X.prog X.w X.K X.mg X.base CX k f fd pl (spD X.K n g)) (hr : Room k X.A) (hg : Gl X x) (hm : X.mg x = some (.ref f)) (hkp : PySem.W.keepIn X.K (.ref f) = true)
    (hb : Binds X.K fd pl ds) (hd : Vals dvs ds) (rd : ∀ K p S, Reps K p S dd dvs) (hx : Passes CX X W) (ha : DA X W (e :: es) gs) (hdb : (x == ("__debug__" : Str)) = false := by decide)
    (he : starEach (e :: es) X.env = (false, eval e X.env) :: starEach es X.env := by rfl) (hpl : (backTo pos (starEach es X.env)).any (·.1) = false := by rfl) : DE X W (.Call (.Name x p) (e :: es) [] pos) (callM gs n g dd) :=
  pe_imp (pe_call F hr hg hm hkp hb hd hx ha hdb he hpl) fun σ H Q q => call_read rd q
theorem de_callF0 {CX : CXT} {k n : Nat} {f : Addr} {fd : FuncData} {pl : List Str} {g : Fn} {x : Str} {p pos : Pos} {dd : List D} {dvs : List V} {ds : List Value} (F : FnOk X.prog X.w X.K X.mg X.base CX k f fd pl (spD X.K n g)) (hr : Room k X.A) (hg : Gl X x) (hm : X.mg x = some (.ref f)) (hkp : PySem.W.keepIn X.K (.ref f) = true)
    (hb : Binds X.K fd pl ds) (hd : Vals dvs ds) (rd : ∀ K p S, Reps K p S dd dvs) (hx : Passes CX X W) (hdb : (x == ("__debug__" : Str)) = false := by decide) : DE X W (.Call (.Name x p) [] [] pos) (callM (argsM []) n g dd) :=
  pe_imp (pe_call0 F hr hg hm hkp hb hd hx hdb) fun σ H Q q => by
    obtain ⟨c, S, E, ps, hk, t, q⟩ := q
    have q : Post W RS c S σ Q ((if (([] : List D) ++ dd).length = n then applyF g ([] ++ dd) else M.bad) E ps) := q
    split at q
    · rename_i hl
      exact applyF_ok (ds := [] ++ dd) hk t (rd _ _ _) hl q
    · exact q.elim
/-! ### displays -/
def tupM (gs : M (List D)) : M D := M.bnd gs fun ds => if fits ds.length then M.ret (.tup ds) else M.bad
def lstM (gs : M (List D)) : M Sl := M.bnd gs fun ds => if fits ds.length then M.ret (.ol ds) else M.bad
theorem dv_tup {gs : M (List D)} {kk : Nat} {pos : Pos} (h : DA X W es gs) : DV X W (.Tuple es kk pos) (tupM gs) := pe_imp (pe_tup h) fun σ H Q q => by
  obtain ⟨c, S, E, ps, hk, t, q⟩ := q
  refine ⟨c, S, E, ps, hk, t, Post.bndA q fun ds E' ps' vs S' H' sm t' r p => ?_⟩
  split at p
  · rename_i hf
    refine ⟨by rw [r.length]; exact fits_le hf, fun a n => ?_⟩
    have g := t'.bs.newF (o := .tup vs) n
    exact p _ _ _ g.s0 (t'.grow g) ⟨a, vs, rfl, SqU.of upd_same, Reps.mono g.s0 ds r⟩
  · exact p.elim
theorem de_lst {gs : M (List D)} {pos : Pos} (h : DA X W es gs) : DE X W (.List es pos) (lstM gs) := pe_imp (pe_lst h) fun σ H Q q => by
  obtain ⟨c, S, E, ps, hk, t, q⟩ := q
  refine ⟨c, S, E, ps, hk, t, Post.bndA q fun ds E' ps' vs S' H' sm t' r p => ?_⟩
  split at p
  · rename_i hf
    exact ⟨by rw [r.length]; exact fits_le hf, post_lst p t' r⟩
  · exact p.elim
end
end Dl
namespace Dl
open PySem PySem.Spec PyProof.Rows L2
variable [LawT]
section
variable {X : Cx} {W : XK} {a b e : Expr} {oa ob oc : Opn} {pos : Pos}
theorem CallR.or {f : Value} {r r' : List V → Hp → VK → Prop} (h : CallR X f r) (h' : CallR X f r') : CallR X f (fun xs H Q => r xs H Q ∨ r' xs H Q) := by
  intro pins s σ H xs us Q I rv q
  rcases q with q | q
  · exact h pins s σ H xs us Q I rv q
  · exact h' pins s σ H xs us Q I rv q
/-- a call of a built-in function, a built-in type, with one operand; two -/
theorem de_b1 {x : Str} {id : String} {p : Pos} {r : List V → Hp → VK → Prop} {k : List D → M Sl} (l : LocR X W r k) (hc : CallR X (.builtin id) r) (hg : Gl X x) (hm : X.mg x = none) (hv : bootBuiltins x = some (.builtin id)) (ha : DO X W a oa) (hn : x ≠ "__name__" := by decide) (hdb : (x == ("__debug__" : Str)) = false := by decide)
    (hs : starEach [a] X.env = (false, eval a X.env) :: starEach [] X.env := by rfl) (hpl : (backTo pos (starEach [] X.env)).any (·.1) = false := by rfl) : DE X W (.Call (.Name x p) [a] [] pos) (ops [oa] k) :=
  de_call l (pe_callB hc hg hm hv (da_cons0 ha da_nil0 hs) hn hdb hs hpl)
theorem de_b2 {x : Str} {id : String} {p : Pos} {r : List V → Hp → VK → Prop} {k : List D → M Sl} (l : LocR X W r k) (hc : CallR X (.builtin id) r) (hg : Gl X x) (hm : X.mg x = none) (hv : bootBuiltins x = some (.builtin id)) (ha : DO X W a oa) (hb : DO X W b ob) (hn : x ≠ "__name__" := by decide) (hdb : (x == ("__debug__" : Str)) = false := by decide)
    (hs : starEach [a, b] X.env = (false, eval a X.env) :: starEach [b] X.env := by rfl) (hs1 : starEach [b] X.env = (false, eval b X.env) :: starEach [] X.env := by rfl) (hpl : (backTo pos (starEach [b] X.env)).any (·.1) = false := by rfl) : DE X W (.Call (.Name x p) [a, b] [] pos) (ops [oa, ob] k) :=
  de_call l (pe_callB hc hg hm hv (da_cons0 ha (da_cons0 hb da_nil0 hs1) hs) hn hdb hs hpl)
theorem de_t1 {x : Str} {T : String} {p : Pos} {r : List V → Hp → VK → Prop} {k : List D → M Sl} (l : LocR X W r k) (hc : CallR X (.type T) r) (hg : Gl X x) (hm : X.mg x = none) (hv : bootBuiltins x = some (.type T)) (ha : DO X W a oa) (hn : x ≠ "__name__" := by decide) (hdb : (x == ("__debug__" : Str)) = false := by decide)
    (hs : starEach [a] X.env = (false, eval a X.env) :: starEach [] X.env := by rfl) (hpl : (backTo pos (starEach [] X.env)).any (·.1) = false := by rfl) : DE X W (.Call (.Name x p) [a] [] pos) (ops [oa] k) :=
  de_call l (pe_callTy hc hg hm hv (da_cons0 ha da_nil0 hs) hn hdb hs hpl)
/-! ### len, abs, int, bool, min, max -/
def kLen : List D → M Sl
  | [.lst xs] => im1 (.int (xs.length : Nat))
  | [.tup xs] => im1 (.int (xs.length : Nat))
  | [.str x] => if fits x.length then im1 (.int (x.length : Nat)) else M.bad
  | [.dic xs] => im1 (.int (xs.length : Nat))
  | _ => M.bad
theorem RepKs.length {K : PySem.W.Frag} {p : Addr} {S : Hp} : ∀ {ds : List (D × D)} {vs : List (Key × V)}, RepKs K p S ds vs → vs.length = ds.length
  | [], _, h => by rw [show _ = [] from h]; rfl
  | (_, _) :: ds, _, ⟨k, v, r, h1, h2, h3, h4⟩ => by subst h1; rw [List.length_cons, List.length_cons, RepKs.length h4]
theorem RepTs.length {K : PySem.W.Frag} {p : Addr} {S : Hp} : ∀ {ds : List (D × D)} {vs : List (List Key × V)}, RepTs K p S ds vs → vs.length = ds.length
  | [], _, h => by rw [show _ = [] from h]; rfl
  | (_, _) :: ds, _, ⟨k, v, r, h1, h2, h3, h4⟩ => by subst h1; rw [List.length_cons, List.length_cons, RepTs.length h4]
theorem loc_len : LocR X W (fun xs H Q => ((∃ x n, xs = [x] ∧ LenV X.K x H n ∧ Q (.int n) H) ∨ ∃ a kvs, xs = [V.ref a] ∧ H a = some (.dK kvs) ∧ Q (.int kvs.length) H) ∨ ∃ a kvs, xs = [V.ref a] ∧ H a = some (.dT kvs) ∧ Q (.int kvs.length) H) kLen := by
  intro c S H σ E ps ds vs Q hk t pk q
  unfold kLen at q
  split at q
  · obtain ⟨v, rfl, l, xs, e1, h1, r1⟩ := pks1 pk
    subst e1
    refine .inl (.inl ⟨_, _, rfl, .inl ⟨xs, SqL.of h1, rfl⟩, ?_⟩)
    rw [r1.length]
    exact post_im q t rfl
  · obtain ⟨v, rfl, l, xs, e1, h1, r1⟩ := pks1 pk
    subst e1
    refine .inl (.inl ⟨_, _, rfl, .inr ⟨xs, hk ▸ (SqTs t.bs.sub h1).t, rfl⟩, ?_⟩)
    rw [r1.length]
    exact post_im q t rfl
  · obtain ⟨v, rfl, h1⟩ := pks1 pk
    split at q
    · rename_i hf
      cases h1
      exact .inl (.inl ⟨_, _, rfl, ⟨fits_le hf, rfl⟩, post_im q t rfl⟩)
    · exact q.elim
  · obtain ⟨v, rfl, l, u, e1, h1, r1⟩ := pks1 pk
    subst e1
    rcases r1 with ⟨xs, rfl, r1⟩ | ⟨xs, rfl, r1⟩
    · refine .inl (.inr ⟨_, _, rfl, h1, ?_⟩)
      rw [r1.length]
      exact post_im q t rfl
    · refine .inr ⟨_, _, rfl, h1, ?_⟩
      rw [r1.length]
      exact post_im q t rfl
  · exact q.elim
theorem de_len {p : Pos} (hg : Gl X "len") (hm : X.mg "len" = none) (ha : DO X W a oa) (hs : starEach [a] X.env = (false, eval a X.env) :: starEach [] X.env := by rfl) (hpl : (backTo pos (starEach [] X.env)).any (·.1) = false := by rfl) : DE X W (.Call (.Name "len" p) [a] [] pos) (ops [oa] kLen) :=
  de_b1 loc_len (CallR.or (CallR.or call_len call_lenD) call_len_dT) hg hm PySem.boot_len ha (by decide) (by decide) hs hpl
def kAbs : List D → M Sl
  | [.int i] => im1 (.int (if i < 0 then -i else i))
  | _ => M.bad
theorem loc_abs : LocR X W (fun xs H Q => ∃ i, xs = [.int i] ∧ Q (.int (if i < 0 then -i else i)) H) kAbs := by
  intro c S H σ E ps ds vs Q hk t pk q
  unfold kAbs at q
  split at q
  · obtain ⟨v, rfl, h1⟩ := pks1 pk
    exact ⟨_, by rw [show v = _ from h1], post_im q t rfl⟩
  · exact q.elim
theorem de_abs {p : Pos} (hg : Gl X "abs") (hm : X.mg "abs" = none) (ha : DO X W a oa) (hs : starEach [a] X.env = (false, eval a X.env) :: starEach [] X.env := by rfl) (hpl : (backTo pos (starEach [] X.env)).any (·.1) = false := by rfl) : DE X W (.Call (.Name "abs" p) [a] [] pos) (ops [oa] kAbs) :=
  de_b1 loc_abs call_abs hg hm (by decide +kernel) ha (by decide) (by decide) hs hpl
def kInt : List D → M Sl
  | [.int i] => im1 (.int i)
  | [.bl b] => im1 (.int (if b then 1 else 0))
  | _ => M.bad
theorem loc_int : LocR X W (fun xs H Q => (∃ i, xs = [.int i] ∧ Q (.int i) H) ∨ ∃ k, xs = [.bl k] ∧ Q (.int (if k then 1 else 0)) H) kInt := by
  intro c S H σ E ps ds vs Q hk t pk q
  unfold kInt at q
  split at q
  · obtain ⟨v, rfl, h1⟩ := pks1 pk
    exact .inl ⟨_, by rw [show v = _ from h1], post_im q t rfl⟩
  · obtain ⟨v, rfl, h1⟩ := pks1 pk
    exact .inr ⟨_, by rw [show v = _ from h1], post_im q t rfl⟩
  · exact q.elim
theorem de_int {p : Pos} (hg : Gl X "int") (hm : X.mg "int" = none) (ha : DO X W a oa) (hs : starEach [a] X.env = (false, eval a X.env) :: starEach [] X.env := by rfl) (hpl : (backTo pos (starEach [] X.env)).any (·.1) = false := by rfl) : DE X W (.Call (.Name "int" p) [a] [] pos) (ops [oa] kInt) :=
  de_t1 loc_int call_int1 hg hm (by decide +kernel) ha (by decide) (by decide) hs hpl
def kBool : List D → M Sl
  | [.int i] => im1 (.bl (i != 0))
  | [.bl b] => im1 (.bl b)
  | _ => M.bad
theorem loc_bool : LocR X W (fun xs H Q => (∃ i, xs = [.int i] ∧ Q (.bl (i != 0)) H) ∨ ∃ k, xs = [.bl k] ∧ Q (.bl k) H) kBool := by
  intro c S H σ E ps ds vs Q hk t pk q
  unfold kBool at q
  split at q
  · obtain ⟨v, rfl, h1⟩ := pks1 pk
    exact .inl ⟨_, by rw [show v = _ from h1], post_im q t rfl⟩
  · obtain ⟨v, rfl, h1⟩ := pks1 pk
    exact .inr ⟨_, by rw [show v = _ from h1], post_im q t rfl⟩
  · exact q.elim
theorem de_bool {p : Pos} (hg : Gl X "bool") (hm : X.mg "bool" = none) (ha : DO X W a oa) (hs : starEach [a] X.env = (false, eval a X.env) :: starEach [] X.env := by rfl) (hpl : (backTo pos (starEach [] X.env)).any (·.1) = false := by rfl) : DE X W (.Call (.Name "bool" p) [a] [] pos) (ops [oa] kBool) :=
  de_t1 loc_bool call_bool1 hg hm (by decide +kernel) ha (by decide) (by decide) hs hpl
def kMax2 : List D → M Sl
  | [.int i, .int j] => im1 (.int (if j > i then j else i))
  | _ => M.bad
def kMin2 : List D → M Sl
  | [.int i, .int j] => im1 (.int (if j < i then j else i))
  | _ => M.bad
theorem loc_max2 : LocR X W (fun xs H Q => ∃ i j, xs = [.int i, .int j] ∧ Q (.int (if j > i then j else i)) H) kMax2 := by
  intro c S H σ E ps ds vs Q hk t pk q
  unfold kMax2 at q
  split at q
  · obtain ⟨v, w, rfl, h1, h2⟩ := pks2 pk
    exact ⟨_, _, by rw [show v = _ from h1, show w = _ from h2], post_im q t rfl⟩
  · exact q.elim
theorem loc_min2 : LocR X W (fun xs H Q => ∃ i j, xs = [.int i, .int j] ∧ Q (.int (if j < i then j else i)) H) kMin2 := by
  intro c S H σ E ps ds vs Q hk t pk q
  unfold kMin2 at q
  split at q
  · obtain ⟨v, w, rfl, h1, h2⟩ := pks2 pk
    exact ⟨_, _, by rw [show v = _ from h1, show w = _ from h2], post_im q t rfl⟩
  · exact q.elim
theorem de_max2 {p : Pos} (hc : X.calm = true) (hg : Gl X "max") (hm : X.mg "max" = none) (ha : DO X W a oa) (hb : DO X W b ob)
    (hs : starEach [a, b] X.env = (false, eval a X.env) :: starEach [b] X.env := by rfl) (hs1 : starEach [b] X.env = (false, eval b X.env) :: starEach [] X.env := by rfl) (hpl : (backTo pos (starEach [b] X.env)).any (·.1) = false := by rfl) : DE X W (.Call (.Name "max" p) [a, b] [] pos) (ops [oa, ob] kMax2) :=
  de_b2 loc_max2 (call_max2 hc) hg hm (by decide +kernel) ha hb (by decide) (by decide) hs hs1 hpl
theorem de_min2 {p : Pos} (hc : X.calm = true) (hg : Gl X "min") (hm : X.mg "min" = none) (ha : DO X W a oa) (hb : DO X W b ob)
    (hs : starEach [a, b] X.env = (false, eval a X.env) :: starEach [b] X.env := by rfl) (hs1 : starEach [b] X.env = (false, eval b X.env) :: starEach [] X.env := by rfl) (hpl : (backTo pos (starEach [b] X.env)).any (·.1) = false := by rfl) : DE X W (.Call (.Name "min" p) [a, b] [] pos) (ops [oa, ob] kMin2) :=
  de_b2 loc_min2 (call_min2 hc) hg hm (by decide +kernel) ha hb (by decide) (by decide) hs hs1 hpl
/-! ### list(..), tuple(..) of a list or tuple -/
def kList : List D → M Sl
  | [.lst xs] => M.ret (.ol xs)
  | [.tup xs] => M.ret (.ol xs)
  | _ => M.bad
theorem loc_list : LocR X W (fun xs H Q => ∃ p ys, xs = [.ref p] ∧ (SqL X.K H p ys ∨ SqT X.K H p ys) ∧ ∀ l, H l = none → Q (.ref l) (upd H l (.lst ys))) kList := by
  intro c S H σ E ps ds vs Q hk t pk q
  unfold kList at q
  split at q
  · obtain ⟨v, rfl, l, xs, e1, h1, r1⟩ := pks1 pk
    subst e1
    exact ⟨_, _, rfl, .inl (SqL.of h1), post_lst q t r1⟩
  · obtain ⟨v, rfl, l, xs, e1, h1, r1⟩ := pks1 pk
    subst e1
    exact ⟨_, _, rfl, .inr (hk ▸ (SqTs t.bs.sub h1).t), post_lst q t r1⟩
  · exact q.elim
theorem de_list {p : Pos} (hg : Gl X "list") (hm : X.mg "list" = none) (ha : DO X W a oa) (hs : starEach [a] X.env = (false, eval a X.env) :: starEach [] X.env := by rfl) (hpl : (backTo pos (starEach [] X.env)).any (·.1) = false := by rfl) : DE X W (.Call (.Name "list" p) [a] [] pos) (ops [oa] kList) :=
  de_t1 loc_list call_list_of hg hm (by decide +kernel) ha (by decide) (by decide) hs hpl
def kTup : List D → M Sl
  | [.lst xs] => im1 (.tup xs)
  | [.tup xs] => im1 (.tup xs)
  | _ => M.bad
theorem loc_tup : LocR X W (fun xs H Q => ∃ p ys, xs = [.ref p] ∧ ((SqL X.K H p ys ∧ ∀ l, H l = none → Q (.ref l) (upd H l (.tup ys))) ∨ (SqT X.K H p ys ∧ Q (.ref p) H))) kTup := by
  intro c S H σ E ps ds vs Q hk t pk q
  unfold kTup at q
  split at q
  · obtain ⟨v, rfl, l, xs, e1, h1, r1⟩ := pks1 pk
    subst e1
    exact ⟨_, _, rfl, .inl ⟨SqL.of h1, post_tup q t r1⟩⟩
  · obtain ⟨v, rfl, l, xs, e1, h1, r1⟩ := pks1 pk
    subst e1
    exact ⟨_, _, rfl, .inr ⟨hk ▸ (SqTs t.bs.sub h1).t, post_im q t ⟨l, xs, rfl, h1, r1⟩⟩⟩
  · exact q.elim
theorem de_tupOf {p : Pos} (hg : Gl X "tuple") (hm : X.mg "tuple" = none) (ha : DO X W a oa) (hs : starEach [a] X.env = (false, eval a X.env) :: starEach [] X.env := by rfl) (hpl : (backTo pos (starEach [] X.env)).any (·.1) = false := by rfl) : DE X W (.Call (.Name "tuple" p) [a] [] pos) (ops [oa] kTup) :=
  de_t1 loc_tup call_tuple_of hg hm (by decide +kernel) ha (by decide) (by decide) hs hpl
/-! ### all, any, sum of a list -/
def asBs : List D → Option (List Bool)
  | [] => some []
  | .bl b :: r => (asBs r).map (b :: ·)
  | _ => none
def asIs : List D → Option (List Int)
  | [] => some []
  | .int i :: r => (asIs r).map (i :: ·)
  | _ => none
theorem asBs_ok {K : PySem.W.Frag} {p : Addr} {S : Hp} : ∀ {ds : List D} {bs : List Bool} {vs : List V}, asBs ds = some bs → Reps K p S ds vs → vs = bs.map V.bl
  | [], _, _, e, h => by cases e; exact h
  | .bl b :: r, _, _, e, ⟨v, vs, h1, h2, h3⟩ => by
    unfold asBs at e
    cases e2 : asBs r with
    | none => rw [e2] at e; cases e
    | some bs => rw [e2] at e; cases e; subst h1; rw [asBs_ok e2 h3, show v = _ from h2]; rfl
theorem asIs_ok {K : PySem.W.Frag} {p : Addr} {S : Hp} : ∀ {ds : List D} {bs : List Int} {vs : List V}, asIs ds = some bs → Reps K p S ds vs → vs = bs.map V.int
  | [], _, _, e, h => by cases e; exact h
  | .int b :: r, _, _, e, ⟨v, vs, h1, h2, h3⟩ => by
    unfold asIs at e
    cases e2 : asIs r with
    | none => rw [e2] at e; cases e
    | some bs => rw [e2] at e; cases e; subst h1; rw [asIs_ok e2 h3, show v = _ from h2]; rfl
def allO : Option (List Bool) → M Sl
  | some bs => im1 (.bl (bs.all id))
  | none => M.bad
def kAll : List D → M Sl
  | [.lst xs] => allO (asBs xs)
  | _ => M.bad
theorem allO_ok {c : Ctx} {S : Hp} {σ : L2.St} {E : List Sl} {ps : Pn} {Q : VK} {o : Option (List Bool)} (q : Post W RS c S σ Q (allO o E ps)) : ∃ bs, o = some bs ∧ Post W RS c S σ Q (im1 (.bl (bs.all id)) E ps) := by
  cases o with
  | none => exact q.elim
  | some bs => exact ⟨bs, rfl, q⟩
theorem loc_all : LocR X W (rAll X.K) kAll := by
  intro c S H σ E ps ds vs Q hk t pk q
  unfold kAll at q
  split at q
  · obtain ⟨v, rfl, l, xs, e1, h1, r1⟩ := pks1 pk
    subst e1
    obtain ⟨bs, eb, q⟩ := allO_ok q
    refine ⟨l, bs, rfl, SqL.of ?_, post_im q t rfl⟩
    rw [h1, asBs_ok eb r1]
  · exact q.elim
theorem de_all {p : Pos} (hc : X.calm = true) (hg : Gl X "all") (hm : X.mg "all" = none) (ha : DO X W a oa) (hs : starEach [a] X.env = (false, eval a X.env) :: starEach [] X.env := by rfl) (hpl : (backTo pos (starEach [] X.env)).any (·.1) = false := by rfl) : DE X W (.Call (.Name "all" p) [a] [] pos) (ops [oa] kAll) :=
  de_b1 loc_all (cr_all hc) hg hm (by decide +kernel) ha (by decide) (by decide) hs hpl
def sumO : Option (List Int) → M Sl
  | some ns => im1 (.int ns.sum)
  | none => M.bad
def kSum : List D → M Sl
  | [.lst xs] => sumO (asIs xs)
  | _ => M.bad
theorem sumO_ok {c : Ctx} {S : Hp} {σ : L2.St} {E : List Sl} {ps : Pn} {Q : VK} {o : Option (List Int)} (q : Post W RS c S σ Q (sumO o E ps)) : ∃ bs, o = some bs ∧ Post W RS c S σ Q (im1 (.int bs.sum) E ps) := by
  cases o with
  | none => exact q.elim
  | some bs => exact ⟨bs, rfl, q⟩
theorem loc_sum : LocR X W (rSum X.K) kSum := by
  intro c S H σ E ps ds vs Q hk t pk q
  unfold kSum at q
  split at q
  · obtain ⟨v, rfl, l, xs, e1, h1, r1⟩ := pks1 pk
    subst e1
    obtain ⟨bs, eb, q⟩ := sumO_ok q
    refine ⟨l, bs, rfl, SqL.of ?_, post_im q t rfl⟩
    rw [h1, asIs_ok eb r1]
  · exact q.elim
theorem de_sum {p : Pos} (hc : X.calm = true) (hg : Gl X "sum") (hm : X.mg "sum" = none) (ha : DO X W a oa) (hs : starEach [a] X.env = (false, eval a X.env) :: starEach [] X.env := by rfl) (hpl : (backTo pos (starEach [] X.env)).any (·.1) = false := by rfl) : DE X W (.Call (.Name "sum" p) [a] [] pos) (ops [oa] kSum) :=
  de_b1 loc_sum (cr_sum hc) hg hm (by decide +kernel) ha (by decide) (by decide) hs hpl
/-! ### isinstance -/
variable [LawS]
def tyD : D → Option String
  | .non => some "NoneType"
  | .bl _ => some "bool"
  | .int _ => some "int"
  | .str _ => some "str"
  | .tup _ => some "tuple"
  | .lst _ => some "list"
  | .dic _ => some "dict"
  | _ => none
def isTy (t n : String) : Bool := t == n || (t == "bool" && n == "int")
def tyNames : List String := ["int", "bool", "str", "tuple", "list", "dict"]
def tyNames2 : List String := ["int", "bool", "str", "tuple", "list", "dict", "ValueError"]
def tySets : List String := ["NoneType", "int", "bool", "str", "tuple", "list", "dict"]
theorem isTy_ok : ∀ t ∈ tySets, ∀ n ∈ tyNames, kitB t n = some (isTy t n) := by decide +kernel
def isIns (n : String) : Bool := LawS.cs.any (·.1 == n)
def isExc (n : String) : Bool := LawS.ex.any (·.1 == n)
def isOwn (n : String) : Bool := isIns n || isExc n
/-- a class: is it the program's, its name -/
abbrev CN := Bool × String
def cnV [LawT] : CN → Value
  | (true, n) => .ref (LawT.C n)
  | (false, n) => .type n
def tyX : D → Option CN
  | .ins n _ => if isIns n then some (true, n) else none
  | .exc n _ => if isExc n then some (true, n) else none
  | d => (tyD d).map fun t => (false, t)
def isi1 : CN → CN → Option Bool
  | (false, t), (false, n) => if tyNames.contains n then some (isTy t n) else none
  | (false, _), (true, m) => if isOwn m then some false else none
  | (true, n), (true, m) => if isOwn m then some (LawS.sub n m) else none
  | (true, n), (false, t) => if tyNames2.contains t then some (LawS.sub n t) else none
def isiAny (t : CN) : List CN → Option Bool
  | [] => some false
  | c :: cs => match isi1 t c with
    | some true => some true
    | some false => isiAny t cs
    | none => none
def cls1 : D → Option CN
  | .ty n => some (false, n)
  | .cls n => some (true, n)
  | _ => none
def clss : List D → Option (List CN)
  | [] => some []
  | d :: ds => match cls1 d, clss ds with
    | some c, some cs => some (c :: cs)
    | _, _ => none
/-- a class, or a tuple of classes -/
def clsD : D → Option (List CN)
  | .tup ds => clss ds
  | d => (cls1 d).map fun c => [c]
def isiO (t : Option CN) (cs : Option (List CN)) : M Sl := match t, cs with
  | some t, some cs => match isiAny t cs with
    | some b => im1 (.bl b)
    | none => M.bad
  | _, _ => M.bad
def isE : D → Bool
  | .exc _ _ => true
  | _ => false
def isT : D → Bool
  | .tup _ => true
  | _ => false
def kIsi : List D → M Sl
  | [d, c] => if isE d && isT c then M.bad else isiO (tyX d) (clsD c)
  | _ => M.bad
/-- what the written part says of the program's classes -/
structure ClF (K : PySem.W.Frag) : Prop where
  oo : ∀ n m, isOwn n = true → isOwn m = true → PySem.W.kitOne K (.ref (LawT.C n)) (.ref (LawT.C m)) = some (LawS.sub n m)
  ob : ∀ n, isOwn n = true → ∀ t ∈ tyNames2, PySem.W.kitOne K (.ref (LawT.C n)) (.type t) = some (LawS.sub n t)
  bo : ∀ t ∈ tySets, ∀ m, isOwn m = true → PySem.W.kitOne K (.type t) (.ref (LawT.C m)) = some false
  ic : ∀ n, isIns n = true → Cls K (LawT.C n) ∧ PySem.W.findIn K (.ref (LawT.C n)) "__class__" = some (some (.builtin "object.__class__")) ∧ PySem.W.mroIn K (LawT.C n) (.type "object") = some true
  ix : ∀ n, isExc n = true → ExcC K (LawT.C n)
  sp : isOwn "" = true ∨ True
  hn : PySem.W.specialIn K (.builtin "object.__class__") "__get__" = some (some (.builtin "getset_descriptor.__get__"))
  htk : PySem.W.takesIn K (.builtin "object.__class__") = some true
  na : ∀ n f, (LawS.cs.any fun p => p.1 == n && p.2.contains f) = true → NoAttr K (LawT.C n) (Str.ofString f)
  nx : ∀ n f, (LawS.ex.any fun p => p.1 == n && p.2.contains f) = true → PySem.W.findIn K (.ref (LawT.C n)) (Str.ofString f) = some none
theorem isi1_ok {K : PySem.W.Frag} (F : ClF K) {t c : CN} {b : Bool} (ht : (t.1 = false → t.2 ∈ tySets) ∧ (t.1 = true → isOwn t.2 = true)) (h : isi1 t c = some b) : PySem.W.kitOne K (cnV t) (cnV c) = some b := by
  obtain ⟨o, t⟩ := t
  obtain ⟨p, c⟩ := c
  cases o <;> cases p <;> unfold isi1 at h <;> simp only at h
  · split at h
    · rename_i hc
      cases h
      exact kit_ty (isTy_ok t (ht.1 rfl) c (by simpa using hc))
    · cases h
  · split at h
    · rename_i hc
      cases h
      exact F.bo t (ht.1 rfl) c hc
    · cases h
  · split at h
    · rename_i hc
      cases h
      exact F.ob t (ht.2 rfl) c (by simpa using hc)
    · cases h
  · split at h
    · rename_i hc
      cases h
      exact F.oo t c (ht.2 rfl) hc
    · cases h
theorem isiAny_ok {K : PySem.W.Frag} (F : ClF K) {t : CN} (ht : (t.1 = false → t.2 ∈ tySets) ∧ (t.1 = true → isOwn t.2 = true)) : ∀ {cs : List CN} {b : Bool}, isiAny t cs = some b → PySem.W.kitAny K (cnV t) (cs.map cnV) = some b
  | [], b, h => h
  | c :: cs, b, h => by
    unfold isiAny at h
    split at h
    · rename_i e
      cases h
      exact kitAny_cons (isi1_ok F ht e) (fun z => by cases z) (fun _ => rfl)
    · rename_i e
      exact kitAny_cons (isi1_ok F ht e) (fun _ => isiAny_ok F ht h) (fun z => by cases z)
    · cases h
theorem tyX_set {d : D} {t : CN} (h : tyX d = some t) : (t.1 = false → t.2 ∈ tySets) ∧ (t.1 = true → isOwn t.2 = true) := by
  cases d <;> unfold tyX at h <;> simp only [tyD, Option.map_some, Option.map_none] at h
  case ins n fs =>
    split at h
    · rename_i e
      cases h
      exact ⟨(fun z => by cases z), fun _ => by show (isIns n || isExc n) = true; rw [e]; rfl⟩
    · cases h
  case exc n fs =>
    split at h
    · rename_i e
      cases h
      exact ⟨(fun z => by cases z), fun _ => by show (isIns n || isExc n) = true; rw [e, Bool.or_true]⟩
    · cases h
  all_goals first | (cases h; exact ⟨fun _ => by decide, fun z => by cases z⟩) | cases h
theorem tyX_ok {K : PySem.W.Frag} (F : ClF K) {p : Addr} {S H : Hp} {v : V} {t : CN} (sm : Same S H) : ∀ {d : D}, isE d = false → tyX d = some t → Pk K p S H v d → TyX K H v (cnV t)
  | .non, _, e, h => by cases e; cases h; exact .base .non
  | .bl _, _, e, h => by cases e; cases h; exact .base (.bl _)
  | .int _, _, e, h => by cases e; cases h; exact .base (.int _)
  | .str _, _, e, h => by cases e; cases h; exact .base (.str _)
  | .tup _, _, e, ⟨a, xs, h1, h2, _⟩ => by cases e; subst h1; exact .base (.tup (sm _ _ h2))
  | .lst _, _, e, ⟨a, xs, h1, h2, _⟩ => by cases e; subst h1; exact .base (.lst h2)
  | .dic _, _, e, ⟨a, u, h1, h2, h3⟩ => by
    cases e; subst h1
    rcases h3 with ⟨xs, rfl, _⟩ | ⟨xs, rfl, _⟩
    · exact .base (.dK h2)
    · exact .base (.dT h2)
  | .ins n fs, _, e, ⟨a, dx, xs, h1, h2, _, _⟩ => by
    have e : (if isIns n = true then some (true, n) else none) = some t := e
    split at e
    · rename_i hi
      cases e
      subst h1
      obtain ⟨c1, c2, c3⟩ := F.ic n hi
      exact .base (.ins h2 c1 c2 F.hn F.htk c3)
    · cases e
  | .exc _ _, e, _, _ => by cases e
  | .ty _, _, e, _ => by cases e
  | .cls _, _, e, _ => by cases e
  | .pen, _, e, _ => by cases e
theorem cls1_ok {K : PySem.W.Frag} {p : Addr} {S H : Hp} {v : V} {c : CN} : ∀ {d : D}, cls1 d = some c → Rep K p S d v → ClsV v (cnV c)
  | .ty n, e, h => by cases e; cases h; exact .ty n
  | .cls n, e, h => by cases e; cases h; exact .own _
  | .non, e, _ => by cases e
  | .bl _, e, _ => by cases e
  | .int _, e, _ => by cases e
  | .str _, e, _ => by cases e
  | .tup _, e, _ => by cases e
  | .lst _, e, _ => by cases e
  | .dic _, e, _ => by cases e
  | .ins _ _, e, _ => by cases e
  | .exc _ _, e, _ => by cases e
  | .pen, e, _ => by cases e
theorem clss_ok {K : PySem.W.Frag} {p : Addr} {S : Hp} : ∀ {ds : List D} {cs : List CN} {vs : List V}, clss ds = some cs → Reps K p S ds vs → Paired ClsV vs (cs.map cnV)
  | [], cs, vs, e, h => by cases e; rw [show vs = [] from h]; exact .nil
  | d :: ds, cs, vs, e, ⟨v, r, h1, h2, h3⟩ => by
    subst h1
    unfold clss at e
    split at e
    · rename_i c cs' e1 e2
      cases e
      exact .cons (cls1_ok (H := S) e1 h2) (clss_ok e2 h3)
    · cases e
/-! ### an exception that stands as an object -/
section
variable {prog : Program} {w : World} {A : Around} {E : Value → Shared → Prop} {s : Shared} {K : PySem.W.Frag} {x D : Addr} {ox : Obj} {od : Option Obj}
theorem findObj_dataD {C : Addr} {name : Str} {a g : Value} (hc : (PySem.W.clsIn K C).isSome = true) (ha : PySem.W.findIn K (.ref C) name = some (some a)) (hg : PySem.W.specialIn K a "__get__" = some (some g)) (ht : PySem.W.takesIn K a = some true) : PySem.W.findObj K C od name = some (.bind g a) := by
  obtain ⟨cd, hc⟩ := Option.isSome_iff_exists.mp hc
  unfold PySem.W.findObj
  rw [hc, Option.bind_some, ha, Option.bind_some]
  simp [hg, ht]
theorem kin_classD {Q : Option Value → Shared → Prop} (C : ExcC K D)
    (X : K.In s.heap) (I : PySem.W.InstAt s.heap x ox D od) (h : Q (some (.ref D)) { s with toks := s.toks + 1 }) : wpAny (model prog w) A (getAttr? (.ref x) "__class__") Q E s := by
  have hf : PySem.W.findObj K D od "__class__" = some (.bind (.builtin "getset_descriptor.__get__") (.builtin "object.__class__")) := findObj_dataD (by obtain ⟨cd, hc, _⟩ := PySem.W.any_some C.hd; rw [hc]; rfl) C.ha C.hn C.ht
  obtain ⟨hp, g, d, t, os⟩ := s
  have L0 := I.type (M := model prog w)
  have L1 := PySem.W.looks_findIn (M := model prog w) X C.hg
  have L2 := PySem.W.looks_findIn (M := model prog w) X C.hk
  have L3 := PySem.W.looks_find (M := model prog w) X I hf
  have sub : PySem.W.Looks (model prog w) hp (isInstance (.ref x) (.type "BaseException")) true := L0.andThen (PySem.W.looks_subIn X C.hs)
  have hx0 : (false && onTheHeap (Value.builtin "BaseException.__getattribute__")) = false := rfl
  have hx2 : (Value.builtin "BaseException.__getattribute__" == Value.builtin "object.__getattribute__") = false := by decide +kernel
  have hx1 : (onTheHeap (Value.ref D) && Value.builtin "BaseException.__getattribute__" == Value.builtin "object.__getattribute__") = false := by rw [hx2]; rfl
  unfold getAttr? getAttrBy? getAttrBy
  refine wpAny_bind (wpAny_mkText (wpAny_bind (wpAny_attempt (wpAny_holding (wpAny_bind (L0.at (wpAny_bind (L1.at ?_))))))))
  show wpAny _ _ (if (onTheHeap (Value.ref D) && Value.builtin "BaseException.__getattribute__" == Value.builtin "object.__getattribute__") = true then _ else _) _ _ _
  rw [hx1, if_neg Bool.false_ne_true]
  unfold getAttrByItsOwn hookBefore
  refine wpAny_bind ?_
  rw [if_pos (show onTheHeap (Value.ref D) = true from rfl)]
  refine L2.at ?_
  refine wpAny_bind (wpAny_attempt (wpAny_holding ?_))
  unfold callGetattribute
  rw [hx0, if_neg Bool.false_ne_true]
  unfold boundAndCalled
  rw [PySem.F.excAttr_ValueError.ga.bind (.ref x)]
  refine wpAny_bind (wpAny_pure ?_)
  show wpAny _ _ (call (.builtin "BaseException.__getattribute__") [.ref x, .str "__class__" t]) _ _ _
  refine wpAny_call (codeAny_call_builtin PySem.F.excAttr_ValueError.ga.plain PySem.F.entry_bexc_ga ?_)
  refine @PySem.W.check_slot (model prog w) _ _ ⟨hp, g, d, t + 1, os⟩ "BaseException.__getattribute__" "BaseException" "__getattribute__" (.ref x) [.str "__class__" t] [] _ (by decide +kernel) (by decide +kernel) sub (PySem.F.args_bexc_ga (.ref x) (.str "__class__" t)) ?_
  unfold Builtin.«object.__getattribute__»
  refine wpAny_bind (wpAny_of_eq (a := ((Value.ref x : Value), [Value.str "__class__" t])) (by first | rfl | (simp only [slotArgs]; rfl)) ?_)
  refine wpAny_bind (wpAny_pure (wpAny_bind (L0.at (wpAny_bind (L3.at ?_)))))
  show wpAny _ _ (holding [Value.builtin "object.__class__"] (call (.builtin "getset_descriptor.__get__") [.builtin "object.__class__", .ref x, .ref D]) >>= ret) _ _ _
  refine wpAny_bind (wpAny_holding (wpAny_call (PySem.W.class_get (s := ⟨hp, g, d, t + 1, os⟩) (ox := ox) (od := od) X I C.hm ?_)))
  refine wpAny_pure ?_
  show wpAny _ _ (handedOut (.ref D)) _ _ _
  rw [PySem.W.handedOut_of (v := .ref D) rfl]
  first
    | exact wpAny_pure (wpAny_pure h)
    | exact wpAny_pure h
    | exact wpAny_pure (wpAny_bind (wpAny_pure (wpAny_pure h)))
theorem kitx_excD (C : ExcC K D) : PySem.W.KitX K (.ref x) (.ref D) (fun h => PySem.W.InstAt h x ox D od) where
  ty := fun _ _ _ I => I.type
  it := fun _ _ X _ => by
    obtain ⟨cdD, hcD, _⟩ := PySem.W.any_some C.hd
    unfold PySem.W.clsIn at hcD
    split at hcD
    · rename_i c' d' cd' sl' ho
      intro A' Q' E' s' k q
      unfold isType loadHead
      exact wpAny_bind (wpAny_loadPart (k _ _ (X _ _ ho)) (wpAny_pure q))
    · cases hcD
  ne := fun h tp dd its n sl X htp => by
    obtain ⟨cdD, hcD, _⟩ := PySem.W.any_some C.hd
    refine Bool.eq_false_iff.mpr fun q => ?_
    have e : D = tp := Value.ref.inj (beq_iff_eq.mp q)
    subst e
    unfold PySem.W.clsIn at hcD
    split at hcD
    · rename_i c' d' cd' sl' ho
      have z := (X _ _ ho).symm.trans htp
      cases z
    · cases hcD
  ca := fun X I k => kin_classD C X I k
end
/-- isinstance(e, c), e an exception that stands as an object -/
def rIsX (K : PySem.W.Frag) : List V → Hp → VK → Prop := fun xs H Q => ∃ (a D dx : Addr) (fs : List (Str × V)) (c : V) (cv : Value) (b : Bool), xs = [.ref a, c] ∧ H a = some (ExT D dx a) ∧ H dx = some (.xd fs) ∧ ExcC K D ∧ ClsV c cv ∧ PySem.W.kitOne K (.ref D) cv = some b ∧ Q (.bl b) H
theorem exT_inst {pins : List (Addr × Obj)} {s : Shared} {H : Hp} {σ : L2.St} {a C dx : Addr} {fs : List (Str × V)} (I : Inv X pins σ H s) (ha : H a = some (ExT C dx a)) (hd : H dx = some (.xd fs)) : ∃ oe od, PySem.W.InstAt s.heap a oe C (some od) ∧ ∀ f v, fs.lookup f = some v → ∃ u, RelV v u ∧ PySem.W.lookIn f od = some (some u) := by
  have z : ObjOk X.prog X.w H s.heap a (.ext fun h => ∃ (oe : Obj) (vs : Array Value), h.get? a = some oe ∧ Zc (.ref C) (some dx) oe ∧ oe.data = .fields vs) := I.hok a _ ha
  obtain ⟨⟨oe, vs, he, hz, hdt⟩, _⟩ := z
  have hx : ObjOk X.prog X.w H s.heap dx (.xd fs) := I.hok dx _ hd
  obtain ⟨mA, hns, hr⟩ := hx
  obtain ⟨od, ho, hl⟩ := lookIn_ns hns
  refine ⟨oe, od, ⟨he, hz.1, by unfold PySem.W.notCls; rw [hdt] <;> rfl, by rw [hz.2]; exact ho⟩, fun f v l => ?_⟩
  obtain ⟨u, hu, ru⟩ := RelO.some_of (v := v) (o := mA f) (by rw [← l]; exact hr f)
  exact ⟨u, ru, by rw [hl, hu]⟩
theorem call_isX : CallR X (.builtin "isinstance") (rIsX X.K) := by
  intro pins s σ H xs us Q I r h
  obtain ⟨a, D, dx, fs, c, cv, b, rfl, ha, hd, C, k, e, q⟩ := h
  obtain ⟨u1, u2, rfl, r1, r2⟩ := vals2 r
  have e2 := k.eq r2
  subst e2
  obtain rfl : u1 = Value.ref a := r1
  obtain ⟨oe, od, J, _⟩ := exT_inst I ha hd
  exact PySem.W.kia_one (kitx_excD C) I.kIn J e (fun z => nomatch z) fun tk => ⟨.bl b, H, I.tok tk, rfl, q⟩
theorem isiO_ok {c : Ctx} {S : Hp} {σ : L2.St} {E : List Sl} {ps : Pn} {Q : VK} {t : Option CN} {cs : Option (List CN)} (q : Post W RS c S σ Q (isiO t cs E ps)) : ∃ t' cs' b, t = some t' ∧ cs = some cs' ∧ isiAny t' cs' = some b ∧ Post W RS c S σ Q (im1 (.bl b) E ps) := by
  unfold isiO at q
  split at q
  · rename_i t' cs'
    cases e : isiAny t' cs' with
    | some b => rw [e] at q; exact ⟨t', cs', b, rfl, rfl, e, q⟩
    | none => rw [e] at q; exact q.elim
  · exact q.elim
theorem clsD_cases {d : D} {cs : List CN} (h : clsD d = some cs) : (isT d = false ∧ ∃ c, cls1 d = some c ∧ cs = [c]) ∨ ∃ ds, d = .tup ds ∧ clss ds = some cs := by
  unfold clsD at h
  split at h
  · exact .inr ⟨_, rfl, h⟩
  · rename_i hd
    cases e : cls1 d with
    | none => rw [e] at h; cases h
    | some c =>
      rw [e] at h
      refine .inl ⟨?_, c, rfl, (Option.some.inj h).symm⟩
      cases d <;> first | rfl | exact absurd rfl (hd _)
theorem loc_isi (F : ClF X.K) : LocR X W (fun xs H Q => rIsi X.K xs H Q ∨ (rIsiT X.K xs H Q ∨ rIsX X.K xs H Q)) kIsi := by
  intro c S H σ E ps ds vs Q hk t pk q
  unfold kIsi at q
  split at q
  · rename_i d cl
    obtain ⟨v, w, rfl, h1, h2⟩ := pks2 pk
    split at q
    · exact q.elim
    · rename_i hne
      obtain ⟨ty, cs, b, ety, ecl, ean, q⟩ := isiO_ok q
      have hset := tyX_set ety
      have q2 := post_im q t rfl
      rw [hk] at h1 h2
      have any1 : ∀ {c : CN}, isiAny ty [c] = some b → isi1 ty c = some b := fun {c} h => by
        unfold isiAny at h
        split at h
        · rename_i e; rw [e]; exact h
        · rename_i e; rw [e]; exact h
        · cases h
      rcases clsD_cases ecl with ⟨hT, c1, ec, rfl⟩ | ⟨dss, rfl, ec⟩
      · have hw : Rep X.K c.p S cl w := by
          cases cl <;> first | exact h2 | (cases ec) | (cases hT)
        by_cases he : isE d = true
        · cases d with
          | exc n fs =>
            obtain ⟨a, dx, xs, rfl, g1, g2, g3⟩ := h1
            have ety : (if isExc n = true then some (true, n) else none) = some ty := ety
            split at ety
            · rename_i hx
              cases ety
              exact .inr (.inr ⟨a, LawT.C n, dx, xs, w, cnV c1, b, rfl, t.bs.sub _ _ g1, t.bs.sub _ _ g2, F.ix n hx, cls1_ok (H := S) ec hw, isi1_ok F hset (any1 ean), q2⟩)
            · cases ety
          | _ => cases he
        · have he : isE d = false := by simpa using he
          exact .inl ⟨v, w, _, _, b, rfl, cls1_ok (H := S) ec hw, tyX_ok F t.bs.sub he ety h1, isi1_ok F hset (any1 ean), q2⟩
      · have he : isE d = false := by
          cases z : isE d with
          | false => rfl
          | true => rw [z] at hne; exact absurd rfl hne
        obtain ⟨tp, xs, e1, hs, r⟩ := h2
        subst e1
        exact .inr (.inl ⟨v, tp, xs, _, _, b, rfl, t.bs.sub _ _ hs, clss_ok ec r, tyX_ok F t.bs.sub he ety h1, isiAny_ok F hset ean, q2⟩)
  · exact q.elim
theorem de_isi {p : Pos} (F : ClF X.K) (hg : Gl X "isinstance") (hm : X.mg "isinstance" = none) (ha : DO X W a oa) (hb : DO X W b ob)
    (hs : starEach [a, b] X.env = (false, eval a X.env) :: starEach [b] X.env := by rfl) (hs1 : starEach [b] X.env = (false, eval b X.env) :: starEach [] X.env := by rfl) (hpl : (backTo pos (starEach [b] X.env)).any (·.1) = false := by rfl) : DE X W (.Call (.Name "isinstance" p) [a, b] [] pos) (ops [oa, ob] kIsi) :=
  de_b2 (loc_isi F) (CallR.or call_isi (CallR.or call_isiT call_isX)) hg hm (by decide +kernel) ha hb (by decide) (by decide) hs hs1 hpl
end
end Dl
namespace Dl
open PySem PySem.Spec PyProof.Rows L2
variable [LawT]
section
variable {X : Cx} {W : XK} {a b e : Expr} {oa ob oc : Opn} {pos : Pos} {c : Ctx} {S H : Hp} {σ : L2.St} {E : List Sl} {ps : Pn}
/-! ### xs[i] -/
def atD (ds : List D) (i : Int) : Option D := (ixN ds.length i).bind fun j => ds[j]?
def optM {α : Type} : Option α → M α
  | some d => M.ret d
  | none => M.bad
def imM1 (o : Option D) : M Sl := M.bnd (optM o) im1
def chrD (x : Str) (i : Int) : Option D := if fits x.length then (atI x.cps.toList i).map fun c => .str ⟨#[c]⟩ else none
def kIx : List D → M Sl
  | [.lst xs, .int i] => imM1 (atD xs i)
  | [.tup xs, .int i] => imM1 (atD xs i)
  | [.str x, .int i] => imM1 (chrD x i)
  | _ => M.bad
theorem imM1_ok {Q : VK} {o : Option D} (q : Post W RS c S σ Q (imM1 o E ps)) : ∃ d, o = some d ∧ Post W RS c S σ Q (im1 d E ps) := by
  cases o with
  | none => exact q.elim
  | some d => exact ⟨d, rfl, q⟩
theorem atD_ok {K : PySem.W.Frag} {p : Addr} {ds : List D} {vs : List V} {i : Int} {d : D} (e : atD ds i = some d) (r : Reps K p S ds vs) : ∃ v, atI vs i = some v ∧ Rep K p S d v := by
  unfold atD at e
  unfold atI
  rw [r.length]
  cases e2 : ixN ds.length i with
  | none => rw [e2] at e; cases e
  | some j =>
    rw [e2] at e
    exact r.get e
theorem loc_ix : LocR X W (r2 (rIx X.K)) kIx := by
  intro c S H σ E ps ds vs Q hk t pk q
  unfold kIx at q
  split at q
  · obtain ⟨v, w, rfl, ⟨l, xs, e1, h1, r1⟩, h2⟩ := pks2 pk
    obtain ⟨d, e2, q⟩ := imM1_ok q
    obtain ⟨u, e3, rd⟩ := atD_ok e2 r1
    exact .inl ⟨l, xs, _, u, e1, h2, SqL.of h1, e3, post_im q t rd⟩
  · obtain ⟨v, w, rfl, ⟨l, xs, e1, h1, r1⟩, h2⟩ := pks2 pk
    obtain ⟨d, e2, q⟩ := imM1_ok q
    obtain ⟨u, e3, rd⟩ := atD_ok e2 r1
    exact .inr (.inl ⟨l, xs, _, u, e1, h2, hk ▸ (SqTs t.bs.sub h1).t, e3, post_im q t rd⟩)
  · obtain ⟨v, w, rfl, h1, h2⟩ := pks2 pk
    obtain ⟨d, e2, q⟩ := imM1_ok q
    unfold chrD at e2
    split at e2
    · rename_i hf
      cases e3 : atI _ _ with
      | none => rw [e3] at e2; cases e2
      | some ch =>
        rw [e3] at e2
        cases e2
        exact .inr (.inr ⟨_, _, ch, h1, h2, fits_le hf, e3, post_im q t rfl⟩)
    · cases e2
  · exact q.elim
theorem de_ix (ha : DO X W a oa) (hb : DO X W b ob) (hs : PlainIx b) : DE X W (.Subscript a b pos) (ops [oa, ob] kIx) := de_op2 loc_ix (pe_ix ix_seq ha hb hs)
/-! ### one operand ahead of code -/
def preM : Opn → M (Sum Nat D)
  | .late k => M.bnd (peek k) fun _ => M.ret (.inl k)
  | .code g => M.bnd g fun d => M.ret (.inr d)
def lookM (a : Sum Nat D) : M D := match a with
  | .inl k => peek k
  | .inr d => M.ret d
theorem pre_read {k : Sum Nat D → M Sl} {Q : VK} {Q' : VK} {o : Opn} (hk : c.K = X.K) (t : Stt c S H σ E ps) (q : Post W RS c S σ Q (M.bnd (preM o) k E ps))
    (f : ∀ x v S' H' E' ps', Same S S' → Stt c S' H' σ E' ps' → AccOk c S' σ [x] [v] → Post W RS c S' σ Q (k x E' ps') → Q' v H') : tO X.K W o σ H Q' := by
  cases o with
  | late i =>
    have q : Post W RS c S σ Q (M.bnd (M.bnd (peek i) fun _ => M.ret (.inl i)) k E ps) := q
    rcases peek_cases i E ps with ⟨s, e1, n, e2⟩ | e2
    · obtain ⟨v, e, _⟩ := t.slots i s e1 n
      refine ⟨v, e, f (.inl i) v S H E ps (Same.refl _) t ⟨e, trivial⟩ ?_⟩
      have z : M.bnd (peek i) (fun _ => M.ret (Sum.inl i : Sum Nat D)) E ps = .ok (.inl i) E ps := by rw [bnd_ok e2]; rfl
      rw [bnd_ok z] at q
      exact q
    · have z : M.bnd (peek i) (fun _ => M.ret (Sum.inl i : Sum Nat D)) E ps = .bad := bnd_bad e2
      rw [bnd_bad z] at q
      exact q.elim
  | code g =>
    have q : Post W RS c S σ Q (M.bnd (M.bnd g fun d => M.ret (.inr d)) k E ps) := q
    refine ⟨c, S, E, ps, hk, t, ?_⟩
    cases e : g E ps with
    | bad =>
      have z : M.bnd g (fun d => M.ret (Sum.inr d : Sum Nat D)) E ps = .bad := bnd_bad e
      rw [bnd_bad z] at q
      exact q.elim
    | err x ps' =>
      have z : M.bnd g (fun d => M.ret (Sum.inr d : Sum Nat D)) E ps = .err x ps' := bnd_err e
      rw [bnd_err z] at q
      exact q
    | ok d E' ps' =>
      have z : M.bnd g (fun d => M.ret (Sum.inr d : Sum Nat D)) E ps = .ok (.inr d) E' ps' := by rw [bnd_ok e]; rfl
      rw [bnd_ok z] at q
      exact fun v S' H' sm t' r => f (.inr d) v S' H' E' ps' sm t' ⟨r, trivial⟩ (Post.mono sm q)
theorem look_read {k : D → M Sl} {Q : VK} {x : Sum Nat D} {v : V} (t : Stt c S H σ E ps) (ac : AccOk c S σ [x] [v]) (q : Post W RS c S σ Q (M.bnd (lookM x) k E ps)) : ∃ d, Pk c.K c.p S H v d ∧ Post W RS c S σ Q (k d E ps) := by
  cases x with
  | inr d => exact ⟨d, Rep.pk t.bs.sub ac.1, q⟩
  | inl i =>
    have q : Post W RS c S σ Q (M.bnd (peek i) k E ps) := q
    rcases peek_cases i E ps with ⟨s, e1, n, e2⟩ | e2
    · rw [bnd_ok e2] at q
      obtain ⟨w, ew, ok⟩ := t.slots i s e1 n
      rw [ac.1] at ew; cases ew
      exact ⟨_, ok.pk t.bs.sub n, q⟩
    · rw [bnd_bad e2] at q
      exact q.elim
/-! ### slices -/
def partM : Option (M D) → M (Option Int)
  | none => M.ret none
  | some g => M.bnd g fun d => match d with
    | .int i => M.ret (some i)
    | _ => M.bad
def tP (K : PySem.W.Frag) (W : XK) : Option (M D) → TO
  | none => tNoPart
  | some g => tPart (tM K W RD g)
def DP (X : Cx) (W : XK) (e : Option Expr) (g : Option (M D)) : Prop := PO X e (tP X.K W g)
theorem dp_none : DP X W none none := po_none
theorem dp_some {g : M D} (h : DV X W e g) : DP X W (some e) (some g) := po_some h
theorem part_read {k : Option Int → M Sl} {Q : VK} {Q' : Option Int → Hp → Prop} {g : Option (M D)} (hk : c.K = X.K) (t : Stt c S H σ E ps) (q : Post W RS c S σ Q (M.bnd (partM g) k E ps))
    (f : ∀ o S' H' E' ps', Same S S' → Stt c S' H' σ E' ps' → Post W RS c S' σ Q (k o E' ps') → Q' o H') : tP X.K W g σ H Q' := by
  cases g with
  | none => exact f none S H E ps (Same.refl _) t q
  | some g =>
    refine ⟨c, S, E, ps, hk, t, ?_⟩
    have q : Post W RS c S σ Q (M.bnd (M.bnd g fun d => match d with
      | .int i => M.ret (some i)
      | _ => M.bad) k E ps) := q
    cases e : g E ps with
    | bad =>
      rw [bnd_bad (bnd_bad e)] at q
      exact q.elim
    | err x ps' =>
      rw [bnd_err (bnd_err e)] at q
      exact q
    | ok d E' ps' =>
      intro v S' H' sm t' r
      have z : ∀ (g2 : D → M (Option Int)), M.bnd g g2 E ps = g2 d E' ps' := fun g2 => bnd_ok e
      unfold M.bnd at q
      rw [e] at q
      cases d with
      | int i => exact ⟨i, r, f (some i) S' H' E' ps' sm t' (Post.mono sm q)⟩
      | _ => exact (show False from q).elim
def kSl : D → Option Int → Option Int → M Sl
  | .lst xs, lo, hi => M.ret (.ol ((xs.drop (HT.sIx xs.length 0 lo)).take (HT.sIx xs.length xs.length hi - HT.sIx xs.length 0 lo)))
  | .tup xs, lo, hi => im1 (.tup ((xs.drop (HT.sIx xs.length 0 lo)).take (HT.sIx xs.length xs.length hi - HT.sIx xs.length 0 lo)))
  | .str x, lo, hi => if fits x.length then im1 (.str (cutS x lo hi)) else M.bad
  | _, _, _ => M.bad
def slM (o : Opn) (lo hi : Option (M D)) : M Sl := M.bnd (preM o) fun a => M.bnd (partM lo) fun l => M.bnd (partM hi) fun h => M.bnd (lookM a) fun d => kSl d l h
theorem de_slice {lo hi : Option Expr} {gl gh : Option (M D)} {p2 : Pos} (ha : DO X W a oa) (hl : DP X W lo gl) (hh : DP X W hi gh) : DE X W (.Subscript a (.Slice lo hi none p2) pos) (slM oa gl gh) :=
  pe_imp (pe_slice (SlR.or (SlR.or sl_list sl_tupA) sl_str) ha hl hh) fun σ H Q q => by
    obtain ⟨c, S, E, ps, hk, t, q⟩ := q
    refine pre_read hk t q fun x v S1 H1 E1 ps1 sm1 t1 ac p => ?_
    refine part_read hk t1 p fun l S2 H2 E2 ps2 sm2 t2 p => ?_
    refine part_read hk t2 p fun h S3 H3 E3 ps3 sm3 t3 p => ?_
    obtain ⟨d, pk, p⟩ := look_read t3 (ac.mono (sm2.trans sm3)) p
    unfold kSl at p
    split at p
    · obtain ⟨a, xs, e1, h1, r1⟩ := pk
      refine .inl (.inl ⟨a, xs, e1, SqL.of h1, ?_⟩)
      unfold cutV
      rw [r1.length]
      exact post_lst p t3 ((r1.drop _).take _)
    · obtain ⟨a, xs, e1, h1, r1⟩ := pk
      refine .inl (.inr ⟨a, xs, e1, hk ▸ (SqTs t3.bs.sub h1).t, fun z => ?_, fun _ => ?_⟩)
      · rw [r1.length] at z
        rw [z.1, z.2, List.drop_zero, Nat.sub_zero, List.take_length] at p
        exact post_im p t3 ⟨a, xs, rfl, h1, r1⟩
      · unfold cutV
        rw [r1.length]
        exact post_tup p t3 ((r1.drop _).take _)
    · split at p
      · rename_i hf
        exact .inr ⟨_, pk, fits_le hf, post_im p t3 rfl⟩
      · exact p.elim
    · exact p.elim
/-! ### methods of a list that a slot owns -/
def peekL (k : Nat) : M Unit := fun E ps => match E[k]? with
  | some (.ol _) => .ok () E ps
  | _ => .bad
def modL (k : Nat) (f : List D → Option (List D × D)) : M Sl := fun E ps => match E[k]? with
  | some (.ol xs) => match f xs with
    | some (ys, r) => .ok (.im r) (E.set k (.ol ys)) ps
    | none => .bad
  | _ => .bad
theorem peekL_ok {α : Type} {k : Nat} {f : Unit → M α} (E : List Sl) (ps : Pn) : (∃ xs, E[k]? = some (.ol xs) ∧ M.bnd (peekL k) f E ps = f () E ps) ∨ M.bnd (peekL k) f E ps = .bad := by
  unfold M.bnd peekL
  cases e : E[k]? with
  | none => exact .inr rfl
  | some s =>
    cases s with
    | ol xs => exact .inl ⟨xs, rfl, rfl⟩
    | _ => exact .inr rfl
theorem modL_ok {k : Nat} {f : List D → Option (List D × D)} {Q : VK} (t : Stt c S H σ E ps) (q : Post W RS c S σ Q (modL k f E ps)) :
    ∃ xs ys r l vs, E[k]? = some (.ol xs) ∧ f xs = some (ys, r) ∧ σ[k]? = some (some (.ref l)) ∧ H l = some (.lst vs) ∧ Reps c.K c.p S xs vs ∧ ∀ ws v, Reps c.K c.p S ys ws → Rep c.K c.p S r v → Q v (upd H l (.lst ws)) := by
  unfold modL at q
  cases e : E[k]? with
  | none => rw [e] at q; exact q.elim
  | some s =>
    rw [e] at q
    cases s with
    | ol xs =>
      cases e2 : f xs with
      | none => simp only [e2] at q; exact q.elim
      | some yr =>
        obtain ⟨ys, r⟩ := yr
        simp only [e2] at q
        obtain ⟨v0, e3, l, vs, rfl, hs, h0, hl, rp⟩ := t.slots k _ e (fun z => by cases z)
        refine ⟨xs, ys, r, l, vs, rfl, e2, e3, hl, rp, fun ws v rw' rr => ?_⟩
        have t2 := t.write (o := .lst ws) e rfl e3 (s' := .ol ys) ⟨l, ws, rfl, hs, h0, upd_same, rw'⟩
        exact q v S _ (Same.refl _) t2 (RS.im rr)
    | un => exact q.elim
    | im _ => exact q.elim
    | od _ => exact q.elim
    | oi _ _ => exact q.elim
theorem tyL_of {k : Nat} {xs : List D} (t : Stt c S H σ E ps) (e : E[k]? = some (.ol xs)) : ∃ v, σ[k]? = some (some v) ∧ tyV X.K "list" v H := by
  obtain ⟨v, e3, l, vs, rfl, hs, h0, hl, rp⟩ := t.slots k _ e (fun z => by cases z)
  exact ⟨_, e3, .inl ⟨rfl, vs, SqL.of hl⟩⟩
def appM (k : Nat) (g : M D) : M Sl := M.bnd (peekL k) fun _ => M.bnd g fun d => modL k fun xs => if fits (xs.length + 1) then some (xs ++ [d], .non) else none
theorem de_append {x : Str} {p apos cpos : Pos} {k : Nat} {g : M D} (hx : PE X (.Name x p) (tVar k)) (ha : DV X W a g) (hbase : attributeBase (.Name x p) "append" X.env (eval (.Name x p) X.env) = eval (.Name x p) X.env := by rfl)
    (hfew : ((backTo cpos (starEach [a] X.env)).all (fun x => !x.1) && (backToKw cpos (keywordEach [] X.env)).all (fun x => x.1.isSome)
      && decide ([a].length + ([] : List Keyword).length + (if ([] : List Keyword).isEmpty then 0 else 1) < 30)) = true := by rfl)
    (hline : (apos.endLine == cpos.line) = true := by rfl) (hs : starEach [a] X.env = (false, eval a X.env) :: starEach [] X.env := by rfl) (hplain : (backTo cpos (starEach [] X.env)).any (·.1) = false := by rfl) :
    DE X W (.Call (.Attribute (.Name x p) "append" apos) [a] [] cpos) (appM k g) :=
  pe_imp (pe_bm PySem.F.plainAttrs_list PySem.F.slot_list_append PySem.F.type_list_append mt_append hx (pa_cons ha pa_nil hs) hbase hfew hline hs hplain) fun σ H Q q => by
    obtain ⟨c, S, E, ps, hk, t, q⟩ := q
    rcases peekL_ok (k := k) (f := fun _ => M.bnd g fun d => modL k fun xs => if fits (xs.length + 1) then some (xs ++ [d], .non) else none) E ps with ⟨xs0, e0, e1⟩ | e1
    · have q : Post W RS c S σ Q (M.bnd (peekL k) _ E ps) := q
      rw [e1] at q
      obtain ⟨v, ev, ty⟩ := tyL_of (X := X) t e0
      refine ⟨v, ev, ty, c, S, E, ps, hk, t, Post.bnd q fun d E' ps' w S' H' sm t' r p => ?_⟩
      obtain ⟨xs, ys, r', l, vs, h1, h2, h3, h4, h5, h6⟩ := modL_ok t' p
      rw [ev] at h3; cases h3
      split at h2
      · rename_i hf
        cases h2
        exact ⟨l, vs, w, rfl, rfl, h4, by rw [h5.length]; exact fits_le hf, h6 _ _ (h5.append (.one r)) rfl⟩
      · cases h2
    · have q : Post W RS c S σ Q (M.bnd (peekL k) _ E ps) := q
      rw [e1] at q
      exact q.elim
def extM (k : Nat) (g : M D) : M Sl := M.bnd (peekL k) fun _ => M.bnd g fun d => modL k fun xs => match d with
  | .lst ys => if fits (xs.length + ys.length) then some (xs ++ ys, .non) else none
  | _ => none
theorem de_extend {x : Str} {p apos cpos : Pos} {k : Nat} {g : M D} (hx : PE X (.Name x p) (tVar k)) (ha : DV X W a g) (hbase : attributeBase (.Name x p) "extend" X.env (eval (.Name x p) X.env) = eval (.Name x p) X.env := by rfl)
    (hfew : ((backTo cpos (starEach [a] X.env)).all (fun x => !x.1) && (backToKw cpos (keywordEach [] X.env)).all (fun x => x.1.isSome)
      && decide ([a].length + ([] : List Keyword).length + (if ([] : List Keyword).isEmpty then 0 else 1) < 30)) = true := by rfl)
    (hline : (apos.endLine == cpos.line) = true := by rfl) (hs : starEach [a] X.env = (false, eval a X.env) :: starEach [] X.env := by rfl) (hplain : (backTo cpos (starEach [] X.env)).any (·.1) = false := by rfl) :
    DE X W (.Call (.Attribute (.Name x p) "extend" apos) [a] [] cpos) (extM k g) :=
  pe_imp (pe_bm PySem.F.plainAttrs_list PySem.F.slot_list_extend PySem.F.type_list_extend mt_extend hx (pa_cons ha pa_nil hs) hbase hfew hline hs hplain) fun σ H Q q => by
    obtain ⟨c, S, E, ps, hk, t, q⟩ := q
    rcases peekL_ok (k := k) (f := fun _ => M.bnd g fun d => modL k fun xs => match d with
      | .lst ys => if fits (xs.length + ys.length) then some (xs ++ ys, .non) else none
      | _ => none) E ps with ⟨xs0, e0, e1⟩ | e1
    · have q : Post W RS c S σ Q (M.bnd (peekL k) _ E ps) := q
      rw [e1] at q
      obtain ⟨v, ev, ty⟩ := tyL_of (X := X) t e0
      refine ⟨v, ev, ty, c, S, E, ps, hk, t, Post.bnd q fun d E' ps' w S' H' sm t' r p => ?_⟩
      obtain ⟨xs, ys, r', l, vs, h1, h2, h3, h4, h5, h6⟩ := modL_ok t' p
      rw [ev] at h3; cases h3
      cases d with
      | lst zs =>
        obtain ⟨b, ws, rfl, hb, rb⟩ := r
        by_cases hf : fits (xs.length + zs.length) = true
        · simp only [hf, if_true] at h2
          cases h2
          exact ⟨l, b, vs, ws, rfl, rfl, h4, t'.bs.sub _ _ hb, by rw [h5.length, rb.length]; exact fits_le hf, h6 _ _ (h5.append rb) rfl⟩
        · simp only [hf] at h2; cases h2
      | _ => cases h2
    · have q : Post W RS c S σ Q (M.bnd (peekL k) _ E ps) := q
      rw [e1] at q
      exact q.elim
def pop0M (k : Nat) : M Sl := modL k fun xs => (xs[xs.length - 1]?).map fun d => (xs.dropLast, d)
theorem Reps.dropLast {K : PySem.W.Frag} {p : Addr} {ds : List D} {vs : List V} (h : Reps K p S ds vs) : Reps K p S ds.dropLast vs.dropLast := by
  rw [List.dropLast_eq_take, List.dropLast_eq_take, h.length]
  exact h.take _
theorem de_pop0 {x : Str} {p apos cpos : Pos} {k : Nat} (hx : PE X (.Name x p) (tVar k)) (hbase : attributeBase (.Name x p) "pop" X.env (eval (.Name x p) X.env) = eval (.Name x p) X.env := by rfl) (hline : (apos.endLine == cpos.line) = true := by rfl) :
    DE X W (.Call (.Attribute (.Name x p) "pop" apos) [] [] cpos) (pop0M k) :=
  pe_imp (pe_bm0 PySem.F.plainAttrs_list PySem.F.slot_list_pop PySem.F.type_list_pop mt_pop hx hbase hline) fun σ H Q q => by
    obtain ⟨c, S, E, ps, hk, t, q⟩ := q
    obtain ⟨xs, ys, r', l, vs, h1, h2, h3, h4, h5, h6⟩ := modL_ok t q
    obtain ⟨v, ev, ty⟩ := tyL_of (X := X) t h1
    rw [h3] at ev; cases ev
    cases e : xs[xs.length - 1]? with
    | none => rw [e] at h2; cases h2
    | some d =>
      rw [e] at h2; cases h2
      obtain ⟨w, e2, rd⟩ := h5.get e
      exact ⟨_, h3, ty, l, vs, w, rfl, rfl, h4, by rw [h5.length]; exact e2, h6 _ _ h5.dropLast rd⟩
def pop1M (k : Nat) (g : M D) : M Sl := M.bnd (peekL k) fun _ => M.bnd g fun d => modL k fun xs => match d with
  | .int i => if rngOk i then (seqIndex? i xs.length).bind fun j => (xs[j]?).map fun d => (xs.eraseIdx j, d) else none
  | _ => none
theorem Reps.eraseIdx {K : PySem.W.Frag} {p : Addr} : ∀ {ds : List D} {vs : List V} (j : Nat), Reps K p S ds vs → Reps K p S (ds.eraseIdx j) (vs.eraseIdx j)
  | [], _, j, h => by rw [show _ = [] from h]; rfl
  | d :: ds, _, 0, ⟨v, r, h1, h2, h3⟩ => by subst h1; exact h3
  | d :: ds, _, j + 1, ⟨v, r, h1, h2, h3⟩ => by subst h1; exact ⟨v, _, rfl, h2, Reps.eraseIdx j h3⟩
theorem de_pop1 {x : Str} {p apos cpos : Pos} {k : Nat} {g : M D} (hx : PE X (.Name x p) (tVar k)) (ha : DV X W a g) (hbase : attributeBase (.Name x p) "pop" X.env (eval (.Name x p) X.env) = eval (.Name x p) X.env := by rfl)
    (hfew : ((backTo cpos (starEach [a] X.env)).all (fun x => !x.1) && (backToKw cpos (keywordEach [] X.env)).all (fun x => x.1.isSome)
      && decide ([a].length + ([] : List Keyword).length + (if ([] : List Keyword).isEmpty then 0 else 1) < 30)) = true := by rfl)
    (hline : (apos.endLine == cpos.line) = true := by rfl) (hs : starEach [a] X.env = (false, eval a X.env) :: starEach [] X.env := by rfl) (hplain : (backTo cpos (starEach [] X.env)).any (·.1) = false := by rfl) :
    DE X W (.Call (.Attribute (.Name x p) "pop" apos) [a] [] cpos) (pop1M k g) :=
  pe_imp (pe_bm PySem.F.plainAttrs_list PySem.F.slot_list_pop PySem.F.type_list_pop mt_popAt hx (pa_cons ha pa_nil hs) hbase hfew hline hs hplain) fun σ H Q q => by
    obtain ⟨c, S, E, ps, hk, t, q⟩ := q
    rcases peekL_ok (k := k) (f := fun _ => M.bnd g fun d => modL k fun xs => match d with
      | .int i => if rngOk i then (seqIndex? i xs.length).bind fun j => (xs[j]?).map fun d => (xs.eraseIdx j, d) else none
      | _ => none) E ps with ⟨xs0, e0, e1⟩ | e1
    · have q : Post W RS c S σ Q (M.bnd (peekL k) _ E ps) := q
      rw [e1] at q
      obtain ⟨v, ev, ty⟩ := tyL_of (X := X) t e0
      refine ⟨v, ev, ty, c, S, E, ps, hk, t, Post.bnd q fun d E' ps' w S' H' sm t' r p => ?_⟩
      obtain ⟨xs, ys, r', l, vs, h1, h2, h3, h4, h5, h6⟩ := modL_ok t' p
      rw [ev] at h3; cases h3
      cases d with
      | int i =>
        by_cases hf : rngOk i = true
        · simp only [hf, if_true] at h2
          cases e3 : seqIndex? i xs.length with
          | none => rw [e3] at h2; cases h2
          | some j =>
            rw [e3] at h2
            cases e4 : xs[j]? with
            | none => simp only [Option.bind_some, e4] at h2; cases h2
            | some d =>
              simp only [Option.bind_some, e4, Option.map_some] at h2
              cases h2
              obtain ⟨u, e5, rd⟩ := h5.get e4
              have hr := rngOk_of hf
              exact ⟨l, vs, i, j, u, rfl, by rw [show w = _ from r], h4, by omega, by omega, by rw [h5.length]; exact e3, e5, h6 _ _ (h5.eraseIdx j) rd⟩
        · simp only [hf] at h2; cases h2
      | _ => cases h2
    · have q : Post W RS c S σ Q (M.bnd (peekL k) _ E ps) := q
      rw [e1] at q
      exact q.elim
end
end Dl
/-! enumerate and zip over lists and tuples, mixed -/
namespace Dh
open PySem PySem.Spec PyProof.Rows L2
open Sem (wp)
/-- a list, a tuple -/
inductive Kd where
  | l | t
def isSq : Kd → Heap → Addr → Array Value → Prop
  | .l, h, a, its => h.IsList a its
  | .t, h, a, its => h.IsTuple a its
def itNm : Kd → String
  | .l => "list_iterator"
  | .t => "tuple_iterator"
def isIt (k : Kd) (h : Heap) (it a : Addr) (i : Nat) : Prop := ∃ o, h.get? it = some o ∧ o.cls = .type (itNm k) ∧ o.data = .fields #[.ref a, .int (i : Int) 0]
def sqV : Kd → PySem.W.Frag → Hp → Addr → List V → Prop
  | .l, K, H, a, xs => SqL K H a xs
  | .t, K, H, a, xs => SqT K H a xs
def newIt (k : Kd) (a : Addr) : Obj := { cls := .type (itNm k), data := .fields #[.ref a, .int 0 0] }
theorem inv_sq {X : Cx} {pins : List (Addr × Obj)} {σ : L2.St} {H : Hp} {s : Shared} {k : Kd} {a : Addr} {xs : List V} (I : Inv X pins σ H s) (h : sqV k X.K H a xs) : ∃ its : List Value, Vals xs its ∧ isSq k s.heap a its.toArray := by
  cases k with
  | l => obtain ⟨its, r, p, _⟩ := I.list h; exact ⟨its, r, p.isList⟩
  | t => obtain ⟨its, r, p, _⟩ := I.tuple h; exact ⟨its, r, p⟩
theorem sq_inj {X : Cx} {pins : List (Addr × Obj)} {σ : L2.St} {H : Hp} {s : Shared} {k : Kd} {a : Addr} {xs ys : List V} (I : Inv X pins σ H s) (h : sqV k X.K H a xs) (h' : sqV k X.K H a ys) : xs = ys := by
  cases k with
  | l => exact I.list_inj h h'
  | t => exact I.tuple_inj h h'
theorem sq_lt {k : Kd} {h : Heap} {a : Addr} {its : Array Value} (x : isSq k h a its) : a < h.objs.size := by
  cases k with
  | l => obtain ⟨_, e, _⟩ := x; exact Heap.lt_size e
  | t => obtain ⟨_, e, _⟩ := x; exact Heap.lt_size e
theorem it_at {k : Kd} {h h' : Heap} {it a : Addr} {i : Nat} (x : isIt k h it a i) (f : ∀ o, h.get? it = some o → h'.get? it = some o) : isIt k h' it a i := by
  obtain ⟨o, e, q⟩ := x
  exact ⟨o, f o e, q⟩
theorem draws (k : Kd) {prog : Program} {w : World} {A : Around} (hh : A.handled = none) (it a : Addr) (hne : a ≠ it) (items : Array Value) :
    Draws prog w A it [it, a] items.size (fun i v => items[i]? = some v) (fun i h => isIt k h it a i ∧ isSq k h a items) := by
  cases k with
  | l => exact Draws.list hh it a hne items
  | t => exact Draws.tuple hh it a hne items
section
variable {prog : Program} {w : World} {A : Around} {E : Value → Shared → Prop} {s : Shared}
theorem iter_sq {k : Kd} {a : Addr} {items : Array Value} {Q : Value → Shared → Prop} (h : isSq k s.heap a items) (q : Q (.ref s.heap.objs.size) { s with heap := s.heap.push (newIt k a) }) : wpAny (model prog w) A (pyIter (.ref a)) Q E s := by
  cases k with
  | l => exact wpAny_pyIter_list h q
  | t => exact wpAny_pyIter_tuple h q
theorem sq_push {k : Kd} {h : Heap} {a : Addr} {items : Array Value} (o : Obj) (x : isSq k h a items) : isSq k (h.push o) a items := by
  cases k with
  | l => exact Heap.IsList.push x _
  | t => exact Heap.IsTuple.push x _
end
/-- the five objects of a zip -/
def zpA (k1 : Kd) (a1 : Addr) (h : Heap) : Heap := h.push (newIt k1 a1)
def zpB (k1 k2 : Kd) (a1 a2 : Addr) (h : Heap) : Heap := (zpA k1 a1 h).push (newIt k2 a2)
def zpC (k1 k2 : Kd) (a1 a2 : Addr) (h : Heap) : Heap := (zpB k1 k2 a1 a2 h).push { cls := .type "tuple", data := .seq #[.ref h.objs.size, .ref (zpA k1 a1 h).objs.size] }
def zpD (k1 k2 : Kd) (a1 a2 : Addr) (h : Heap) : Heap := (zpC k1 k2 a1 a2 h).push { cls := .type "tuple", data := .seq #[.none, .none] }
def zpE (k1 k2 : Kd) (a1 a2 : Addr) (h : Heap) : Heap := (zpD k1 k2 a1 a2 h).push { cls := .type "zip", data := .fields #[.none, .bool false, .bool false, .ref (zpB k1 k2 a1 a2 h).objs.size, .ref (zpC k1 k2 a1 a2 h).objs.size] }
theorem zip_new (k1 k2 : Kd) (a1 a2 : Addr) (xs ys : Array Value) :
    Meets (Builtin.«zip.__new__» ⟨[.type "zip", .ref a1, .ref a2], []⟩) fun _ R s => isSq k1 s.heap a1 xs ∧ isSq k2 s.heap a2 ys ∧ R (.ok (.ret (.ref (zpD k1 k2 a1 a2 s.heap).objs.size))) { s with heap := zpE k1 k2 a1 a2 s.heap } :=
  .of_wp fun prog w A R s h => by
    obtain ⟨hp, g, d, tk, os⟩ := s
    obtain ⟨x1, x2, h⟩ := h
    have hsub := sub_zip
    have y1 : isSq k1 (Shared.heap ⟨hp, g, d, tk, os⟩) a1 xs := x1
    have y2 : isSq k2 (Shared.heap ⟨hp.push (newIt k1 a1), g, d, tk, os⟩) a2 ys := sq_push _ x2
    wp_walk using iter_sq y1, iter_sq y2
    exact ⟨_, rfl, h⟩
theorem call_zip {prog : Program} {w : World} {A : Around} {E : Value → Shared → Prop} {s : Shared} {k1 k2 : Kd} {a1 a2 : Addr} {xs ys : Array Value} {Q : Value → Shared → Prop} (h1 : isSq k1 s.heap a1 xs) (h2 : isSq k2 s.heap a2 ys)
    (h : ∀ h' n, n = s.heap.objs.size → IsZip h' (n + 4) (n + 2) (n + 3) .none → IsTupOf2 h' (n + 2) (.ref n) (.ref (n + 1)) → IsTupOf2 h' (n + 3) .none .none → isIt k1 h' n a1 0 → isIt k2 h' (n + 1) a2 0 →
      (∀ c o, s.heap.get? c = some o → h'.get? c = some o) → Q (.ref (n + 4)) { s with heap := h' }) : wpAny (model prog w) A (call (.type "zip") [.ref a1, .ref a2]) Q E s := by
  refine callType_new F.called_zip (by decide) (F.typeCall_zip_2 _ _) (F.newCall_zip_2 _ _) (fun obj => F.args_object_init_3 obj _ _) F.entry_zip_new (zip_new k1 k2 a1 a2 xs ys) ⟨h1, h2, ?_⟩
  have z1 : (zpA k1 a1 s.heap).objs.size = s.heap.objs.size + 1 := Heap.size_push ..
  have z2 : (zpB k1 k2 a1 a2 s.heap).objs.size = s.heap.objs.size + 2 := (Heap.size_push ..).trans (by rw [z1])
  have z3 : (zpC k1 k2 a1 a2 s.heap).objs.size = s.heap.objs.size + 3 := (Heap.size_push ..).trans (by rw [z2])
  have z4 : (zpD k1 k2 a1 a2 s.heap).objs.size = s.heap.objs.size + 4 := (Heap.size_push ..).trans (by rw [z3])
  have up : ∀ {h : Heap} {c : Addr} {o u : Obj}, h.get? c = some o → (h.push u).get? c = some o := fun e => Heap.get?_push_of_some _ e
  have g5 : (zpE k1 k2 a1 a2 s.heap).get? (zpD k1 k2 a1 a2 s.heap).objs.size = some _ := Heap.get?_push_size _ rfl
  have g4 : (zpE k1 k2 a1 a2 s.heap).get? (zpC k1 k2 a1 a2 s.heap).objs.size = some _ := up (Heap.get?_push_size _ rfl)
  have g3 : (zpE k1 k2 a1 a2 s.heap).get? (zpB k1 k2 a1 a2 s.heap).objs.size = some _ := up (up (Heap.get?_push_size _ rfl))
  have g2 : (zpE k1 k2 a1 a2 s.heap).get? (zpA k1 a1 s.heap).objs.size = some (newIt k2 a2) := up (up (up (Heap.get?_push_size _ rfl)))
  have g1 : (zpE k1 k2 a1 a2 s.heap).get? s.heap.objs.size = some (newIt k1 a1) := up (up (up (up (Heap.get?_push_size _ rfl))))
  show _ ∧ _
  rw [z2, z3, z4] at g5
  rw [z1, z2] at g3
  rw [z3] at g4
  rw [z1] at g2
  rw [z4]
  exact ⟨⟨_, g5, rfl⟩, h _ _ rfl g5 g3 g4 ⟨_, g1, rfl, rfl⟩ ⟨_, g2, rfl, rfl⟩ fun c o x => up (up (up (up (up x))))⟩
/-- what stands apart -/
structure Apart (z TI TO i1 i2 a b : Addr) : Prop where
  p : z ≠ TI ∧ z ≠ TO ∧ TI ≠ TO ∧ i1 ≠ i2 ∧ z ≠ i1 ∧ z ≠ i2 ∧ TI ≠ i1 ∧ TI ≠ i2 ∧ TO ≠ i1 ∧ TO ≠ i2
  q : a ≠ z ∧ a ≠ TO ∧ a ≠ i1 ∧ a ≠ i2 ∧ b ≠ z ∧ b ≠ TO ∧ b ≠ i1 ∧ b ≠ i2
theorem Apart.sep {z TI TO i1 i2 a b : Addr} (D : Apart z TI TO i1 i2 a b) : ZipSep2 z TI TO i1 i2 [i1, a] [i2, b] := by
  obtain ⟨⟨p1, p2, p3, p4, p5, p6, p7, p8, p9, p10⟩, q1, q2, q3, q4, q5, q6, q7, q8⟩ := D
  constructor <;> simp <;> first
    | exact p1.symm | exact p2.symm | exact p3 | exact p7 | exact ⟨p5, q1.symm⟩ | exact ⟨p9, q2.symm⟩ | exact p8 | exact ⟨p6, q5.symm⟩ | exact ⟨p10, q6.symm⟩ | exact ⟨p4, q7.symm⟩ | exact ⟨p4.symm, q4.symm⟩
/-- the walk of pairs of the items that stand at a and b -/
def ItZ (K : PySem.W.Frag) (k1 k2 : Kd) (a b : Addr) : It :=
  ⟨fun i H => ∃ xs ys x y, sqV k1 K H a xs ∧ sqV k2 K H b ys ∧ xs[i]? = some x ∧ ys[i]? = some y,
    fun i H v H' => ∃ T x y, v = .ref T ∧ H T = none ∧ H' = upd H T (.tup [x, y]) ∧ (∀ xs, sqV k1 K H a xs → xs[i]? = some x) ∧ ∀ ys, sqV k2 K H b ys → ys[i]? = some y,
    fun i H => ∃ xs ys, sqV k1 K H a xs ∧ sqV k2 K H b ys ∧ i ≤ xs.length ∧ i ≤ ys.length ∧ (i = xs.length ∨ i = ys.length)⟩
def zpAt (k1 k2 : Kd) (a b z TI TO i1 i2 : Addr) (i : Nat) (h : Heap) : Prop := IsZip h z TI TO .none ∧ IsTupOf2 h TI (.ref i1) (.ref i2) ∧ (∃ x y, IsTupOf2 h TO x y) ∧ isIt k1 h i1 a i ∧ isIt k2 h i2 b i
theorem mem5 {z TI TO i1 i2 c : Addr} (h : c ∈ [z, TI, TO, i1, i2]) : c = z ∨ c = TI ∨ c = TO ∨ c = i1 ∨ c = i2 := by simpa using h
theorem turn_zp {P : Program} {w : World} {K : PySem.W.Frag} {elts : List Expr} {kk : Nat} {tpos : Pos} {k1 k2 : Kd} {a b z TI TO i1 i2 : Addr} (D : Apart z TI TO i1 i2 a b) :
    Turn P w K (.Tuple elts kk tpos) (ItZ K k1 k2 a b) [z, TI, TO, i1, i2] z (zpAt k1 k2 a b z TI TO i1 i2) where
  mem := by simp
  obj := by
    rintro i h ⟨hz, hTI, ⟨x, y, hTO⟩, ⟨o1, e1, _, d1⟩, ⟨o2, e2, _, d2⟩⟩ c hc
    rcases mem5 hc with rfl | rfl | rfl | rfl | rfl
    · exact ⟨_, hz, by intro v q; cases q⟩
    · exact ⟨_, hTI, by intro v q; cases q⟩
    · exact ⟨_, hTO, by intro v q; cases q⟩
    · exact ⟨o1, e1, by intro v q; rw [d1] at q; cases q⟩
    · exact ⟨o2, e2, by intro v q; rw [d2] at q; cases q⟩
  keep := by
    rintro i h h' ⟨hz, hTI, ⟨x, y, hTO⟩, x1, x2⟩ k
    exact ⟨k z (by simp) _ hz, k TI (by simp) _ hTI, ⟨x, y, k TO (by simp) _ hTO⟩, it_at x1 (k i1 (by simp)), it_at x2 (k i2 (by simp))⟩
  item := by
    intro X hP hw hK hc i pins s σ H E I hf st hg
    subst hP hw hK
    obtain ⟨hz, hTI, ⟨x0, y0, hTO⟩, st1, st2⟩ := st
    obtain ⟨xs, ys, x, y, qx, qy, hx, hy⟩ := hg
    obtain ⟨its, rv, s1⟩ := inv_sq I qx
    obtain ⟨jts, rw', s2⟩ := inv_sq I qy
    obtain ⟨u, hu, ru⟩ := rv.get hx
    obtain ⟨u2, hu2, ru2⟩ := rw'.get hy
    have hzl : z < s.heap.objs.size := Heap.lt_size hz
    have hh : X.A.in1.handled = none := I.ok.hd hc
    have l1 : i < its.toArray.size := by simpa using (List.getElem?_eq_some_iff.mp hu).1
    have l2 : i < jts.toArray.size := by simpa using (List.getElem?_eq_some_iff.mp hu2).1
    refine wpAny_pyNext_zipD2_item D.sep (draws k1 hh i1 a D.q.2.2.1 its.toArray) (draws k2 hh i2 b D.q.2.2.2.2.2.2.2 jts.toArray) hz hTI hTO ⟨st1, s1⟩ ⟨st2, s2⟩ l1 l2 fun v1 v2 h' tk p1 p2 z' TO' y1 y2 hT hsz hk => ?_
    have ev1 : v1 = u := by
      have q : its[i]? = some v1 := by simpa using p1
      rw [hu] at q; exact (Option.some.inj q).symm
    have ev2 : v2 = u2 := by
      have q : jts[i]? = some v2 := by simpa using p2
      rw [hu2] at q; exact (Option.some.inj q).symm
    subst ev1 ev2
    refine ⟨_, rfl, wpAny_letOwnedTupleGo_zip (s := { s with heap := h', toks := tk }) z' fun h2 z2 sb => ?_⟩
    have hT2 : h2.get? s.heap.objs.size = some { cls := .type "tuple", data := .seq #[v1, v2] } := (sb.2 _ (Nat.ne_of_gt hzl)).trans hT
    have new : ObjOk X.prog X.w (upd H s.heap.objs.size (.tup [x, y])) h2 s.heap.objs.size (.tup [x, y]) := ⟨by show 2 ≤ sizeLine; decide, [v1, v2], .cons ru (.cons ru2 .nil), _, hT2, rfl, _, rfl⟩
    have old : ∀ c o, c ∉ [z, TI, TO, i1, i2] → s.heap.get? c = some o → h2.get? c = some o := fun c o hb q => by
      have n : c ≠ z ∧ c ≠ TI ∧ c ≠ TO ∧ c ≠ i1 ∧ c ≠ i2 := by simpa using hb
      exact (sb.2 c n.1).trans (hk c o n.1 n.2.2.1 n.2.2.2.1 n.2.2.2.2 q)
    have J : Inv X pins σ (upd H s.heap.objs.size (.tup [x, y])) { s with heap := h2, toks := tk } := I.turnedNew (ch := [z, TI, TO, i1, i2]) old hf (Nat.le_refl _) new
    obtain ⟨⟨n1, n2, n3, n4, n5, n6, n7, n8, n9, n10⟩, _⟩ := D
    refine ⟨.ref s.heap.objs.size, _, J, rfl, ⟨_, x, y, rfl, I.hok.fresh (Nat.le_refl _), rfl, fun l hl => by rw [sq_inj I hl qx]; exact hx, fun l hl => by rw [sq_inj I hl qy]; exact hy⟩, ⟨z2, ?_, ⟨v1, v2, ?_⟩, ?_, ?_⟩, fun c hcm => ?_⟩
    · exact (sb.2 _ n1.symm).trans (hk _ _ n1.symm n3 n7 n8 hTI)
    · exact (sb.2 _ n2.symm).trans TO'
    · exact it_at y1.1 fun o q => (sb.2 _ n5.symm).trans q
    · exact it_at y2.1 fun o q => (sb.2 _ n6.symm).trans q
    · have lt : c < s.heap.objs.size := by
        rcases mem5 hcm with rfl | rfl | rfl | rfl | rfl
        · exact hzl
        · exact Heap.lt_size hTI
        · exact Heap.lt_size hTO
        · obtain ⟨_, e1, _⟩ := st1; exact Heap.lt_size e1
        · obtain ⟨_, e2, _⟩ := st2; exact Heap.lt_size e2
      rw [upd_ne (Nat.ne_of_lt lt)]
      exact (hf c hcm).1
  done := by
    intro X hP hw hK hc i pins s σ H E I hf st hg
    subst hP hw hK
    obtain ⟨hz, hTI, ⟨x0, y0, hTO⟩, st1, st2⟩ := st
    obtain ⟨xs, ys, qx, qy, m1, m2, hend⟩ := hg
    obtain ⟨its, rv, s1⟩ := inv_sq I qx
    obtain ⟨jts, rw', s2⟩ := inv_sq I qy
    have hh : X.A.in1.handled = none := I.ok.hd hc
    have e1 := rv.length
    have e2 := rw'.length
    refine wpAny_pyNext_zipD2_end D.sep (draws k1 hh i1 a D.q.2.2.1 its.toArray) (draws k2 hh i2 b D.q.2.2.2.2.2.2.2 jts.toArray) hz hTI hTO ⟨st1, s1⟩ ⟨st2, s2⟩ (by simp; omega) (by simp; omega) (by simp; omega) fun h' tk hk => ⟨rfl, ?_⟩
    refine I.turnedL (t' := tk) (ch := [z, TI, TO, i1, i2]) (fun c o hb q => ?_) hf
    have n : c ≠ z ∧ c ≠ TI ∧ c ≠ TO ∧ c ≠ i1 ∧ c ≠ i2 := by simpa using hb
    exact hk c o n.1 n.2.2.1 n.2.2.2.1 n.2.2.2.2 q
  self := fun A i s Q E st h => wpAny_pyIter_zip st.1 h
theorem two_refs {a b : Addr} {us : List Value} (r : Vals [V.ref a, V.ref b] us) : us = [.ref a, .ref b] := by
  cases r with
  | cons r1 t => cases t with
    | cons r2 t2 =>
      cases t2
      rw [show _ = Value.ref a from r1, show _ = Value.ref b from r2]
theorem ap_key (n a b : Nat) (la : a < n) (lb : b < n) : (n + 4 ≠ n + 2 ∧ n + 4 ≠ n + 3 ∧ n + 2 ≠ n + 3 ∧ n ≠ n + 1 ∧ n + 4 ≠ n ∧ n + 4 ≠ n + 1 ∧ n + 2 ≠ n ∧ n + 2 ≠ n + 1 ∧ n + 3 ≠ n ∧ n + 3 ≠ n + 1) ∧
    a ≠ n + 4 ∧ a ≠ n + 3 ∧ a ≠ n ∧ a ≠ n + 1 ∧ b ≠ n + 4 ∧ b ≠ n + 3 ∧ b ≠ n ∧ b ≠ n + 1 := by omega
theorem le_key (n c : Nat) (h : c = n + 4 ∨ c = n + 2 ∨ c = n + 3 ∨ c = n ∨ c = n + 1) : n ≤ c := by omega
theorem le_key2 (n c : Nat) (h : c = n + 1 ∨ c = n) : n ≤ c := by omega
theorem en_key (n a : Nat) (la : a < n) : n + 1 ≠ n ∧ n + 1 ≠ a ∧ a ≠ n := by omega
def iZ (K : PySem.W.Frag) (ta : TA) : TI := fun σ H R => ta σ H fun vs H1 => ∃ k1 k2 a b xs ys, vs = [.ref a, .ref b] ∧ sqV k1 K H1 a xs ∧ sqV k2 K H1 b ys ∧ R (ItZ K k1 k2 a b) H1
theorem pi_zp {X : Cx} {e e2 : Expr} {ta : TA} {p pos tpos : Pos} {elts : List Expr} {kk : Nat} (hg : Gl X "zip") (hm : X.mg "zip" = none) (ha : PA X [e, e2] ta)
    (hs : starEach [e, e2] X.env = (false, eval e X.env) :: starEach [e2] X.env := by rfl) (hpl : (backTo pos (starEach [e2] X.env)).any (·.1) = false := by rfl) : PI X (.Tuple elts kk tpos) (.Call (.Name "zip" p) [e, e2] [] pos) (iZ X.K ta) := by
  refine ⟨fun pins s σ H R I h => Call_ (ld_blt I hg hm PyProof.Rows.boot_zip (PyProof.Rows.callWith_type1 (thn (ha.run pos pins s σ H _ I h) fun us s1 ⟨vs, H1, I1, r1, q1⟩ => ?_) hs hpl))⟩
  obtain ⟨k1, k2, a, b, xs, ys, ex, qx, qy, q⟩ := q1
  subst ex
  rw [two_refs r1]
  obtain ⟨its, _, w1⟩ := inv_sq I1 qx
  obtain ⟨jts, _, w2⟩ := inv_sq I1 qy
  refine call_zip w1 w2 fun h' n en hz hTI hTO h1 h2 hk => wpAny_pyIter_zip hz ?_
  have I2 : Inv X pins σ H1 { s1 with heap := h' } := I1.kept (t' := s1.toks) hk
  have la := sq_lt w1
  have lb := sq_lt w2
  rw [← en] at la lb
  refine ⟨n + 4, [n + 4, n + 2, n + 3, n, n + 1], _, _, H1, rfl, I2, turn_zp (i1 := n) (i2 := n + 1) ⟨(ap_key n a b la lb).1, (ap_key n a b la lb).2⟩, ⟨hz, hTI, ⟨_, _, hTO⟩, h1, h2⟩, fun c hcm => ?_, q⟩
  have hle : s1.heap.objs.size ≤ c := by
    rw [← en]
    exact le_key n c (mem5 hcm)
  exact I1.fpOk hle (I1.hok.fresh hle)
/-! ### enumerate -/
def enA (k : Kd) (a : Addr) (h : Heap) : Heap := h.push (newIt k a)
def enB (k : Kd) (a : Addr) (h : Heap) : Heap := (enA k a h).push { cls := .type "enumerate", data := .fields #[.none, .bool false, .ref h.objs.size, rawInt 0, .none, .none] }
theorem enum_new (k : Kd) (a : Addr) (xs : Array Value) (o : Obj) :
    Meets (Builtin.«enumerate.__new__» ⟨[.type "enumerate", .ref a], []⟩) fun _ R s => isSq k s.heap a xs ∧ s.heap.get? a = some o ∧ R (.ok (.ret (.ref (enA k a s.heap).objs.size))) { s with heap := enB k a s.heap } :=
  .of_wp fun prog w A R s h => by
    obtain ⟨hp, g, d, tk, os⟩ := s
    obtain ⟨x1, x2, h⟩ := h
    have hsub := sub_enumerate
    have y1 : isSq k (Shared.heap ⟨hp, g, d, tk, os⟩) a xs := x1
    have y2 : Heap.get? (Shared.heap ⟨hp, g, d, tk, os⟩) a = some o := x2
    cases k with
    | l =>
      obtain ⟨⟨oc, od, dt, sl⟩, e, hc, n, hd⟩ := id y1
      replace hc : oc = .type "list" := hc
      replace hd : dt = .seq xs n := hd
      subst hc hd
      wp_walk using AutoSeq1.wpAny_loadPart' e
      refine wpAny_stack_any fun st => wpAny_pure ?_
      split
      · rename_i c _ _ _ _ _
        cases (c == Value.type "enumerate")
        · wp_walk using AutoSeq1.wpAny_loadPart' e, iter_sq y1
          exact ⟨_, rfl, h⟩
        · wp_walk using AutoSeq1.wpAny_loadPart' e, iter_sq y1
          exact ⟨_, rfl, h⟩
      · wp_walk using AutoSeq1.wpAny_loadPart' e, iter_sq y1
        exact ⟨_, rfl, h⟩
    | t =>
      obtain ⟨⟨oc, od, dt, sl⟩, e, hc, n, hd⟩ := id y1
      replace hc : oc = .type "tuple" := hc
      replace hd : dt = .seq xs n := hd
      subst hc hd
      wp_walk using AutoSeq1.wpAny_loadPart' e
      refine wpAny_stack_any fun st => wpAny_pure ?_
      split
      · rename_i c _ _ _ _ _
        cases (c == Value.type "enumerate")
        · wp_walk using AutoSeq1.wpAny_loadPart' e, iter_sq y1
          exact ⟨_, rfl, h⟩
        · wp_walk using AutoSeq1.wpAny_loadPart' e, iter_sq y1
          exact ⟨_, rfl, h⟩
      · wp_walk using AutoSeq1.wpAny_loadPart' e, iter_sq y1
        exact ⟨_, rfl, h⟩
theorem call_enum {prog : Program} {w : World} {A : Around} {E : Value → Shared → Prop} {s : Shared} {k : Kd} {a : Addr} {xs : Array Value} {Q : Value → Shared → Prop} (h1 : isSq k s.heap a xs)
    (h : ∀ h' n, n = s.heap.objs.size → IsEnum h' (n + 1) n 0 .none → isIt k h' n a 0 → (∀ c o, s.heap.get? c = some o → h'.get? c = some o) → Q (.ref (n + 1)) { s with heap := h' }) : wpAny (model prog w) A (call (.type "enumerate") [.ref a]) Q E s := by
  obtain ⟨o, ho⟩ : ∃ o, s.heap.get? a = some o := by
    cases k with
    | l => obtain ⟨o, e, _⟩ := id h1; exact ⟨o, e⟩
    | t => obtain ⟨o, e, _⟩ := id h1; exact ⟨o, e⟩
  refine callType_new F.called_enumerate (by decide) (F.typeCall_enumerate_1 _) (F.newCall_enumerate_1 _) (fun obj => F.args_object_init_2 obj _) F.entry_enumerate_new (enum_new k a xs o) ⟨h1, ho, ?_⟩
  have z1 : (enA k a s.heap).objs.size = s.heap.objs.size + 1 := Heap.size_push ..
  have g2 : (enB k a s.heap).get? (enA k a s.heap).objs.size = some _ := Heap.get?_push_size _ rfl
  have g1 : (enB k a s.heap).get? s.heap.objs.size = some (newIt k a) := Heap.get?_push_of_some _ (Heap.get?_push_size _ rfl)
  show _ ∧ _
  rw [z1] at g2
  rw [z1]
  exact ⟨⟨_, g2, rfl⟩, h _ _ rfl g2 ⟨_, g1, rfl, rfl⟩ fun c o x => Heap.get?_push_of_some _ (Heap.get?_push_of_some _ x)⟩
/-- the walk of pairs of a number and the item that stands there -/
def ItE (K : PySem.W.Frag) (k : Kd) (a : Addr) : It :=
  ⟨fun i H => ∃ xs x, sqV k K H a xs ∧ xs[i]? = some x, fun i H v H' => ∃ T x, v = .ref T ∧ H T = none ∧ H' = upd H T (.tup [.int (i : Nat), x]) ∧ ∀ xs, sqV k K H a xs → xs[i]? = some x,
    fun i H => ∃ xs, sqV k K H a xs ∧ i = xs.length⟩
def enAt (k : Kd) (a e it : Addr) (i : Nat) (h : Heap) : Prop := (∃ old, IsEnum h e it ((i : Nat) : Int) old) ∧ isIt k h it a i ∧ e ≠ it ∧ e ≠ a ∧ a ≠ it
theorem mem2 {e it c : Addr} (h : c ∈ [e, it]) : c = e ∨ c = it := by simpa using h
theorem turn_en {P : Program} {w : World} {K : PySem.W.Frag} {elts : List Expr} {kk : Nat} {tpos : Pos} {k : Kd} (a e it : Addr) : Turn P w K (.Tuple elts kk tpos) (ItE K k a) [e, it] e (enAt k a e it) where
  mem := by simp
  obj := by
    rintro i h ⟨⟨old, he⟩, ⟨o, ho, hc, hd⟩, _⟩ b hb
    rcases mem2 hb with rfl | rfl
    · exact ⟨_, he, by intro v q; cases q⟩
    · exact ⟨o, ho, by intro v q; rw [hd] at q; cases q⟩
  keep := by
    rintro i h h' ⟨⟨old, he⟩, hi, n⟩ k
    exact ⟨⟨old, k e (by simp) _ he⟩, it_at hi (k it (by simp)), n⟩
  item := by
    intro X hP hw hK hc i pins s σ H E I hf st hg
    subst hP hw hK
    obtain ⟨⟨old, he⟩, hit, n1, n2, n3⟩ := st
    obtain ⟨xs, x, hq, hx⟩ := hg
    obtain ⟨its, rv, s1⟩ := inv_sq I hq
    obtain ⟨u, hu, ru⟩ := rv.get hx
    have hh : X.A.in1.handled = none := I.ok.hd hc
    have lel : e < s.heap.objs.size := Heap.lt_size he
    have l1 : i < its.toArray.size := by simpa using (List.getElem?_eq_some_iff.mp hu).1
    refine wpAny_pyNext_enum_itemD (draws k hh it a n3 its.toArray) he ⟨hit, s1⟩ l1 n1 (by simp; exact ⟨n1, n2⟩) fun v h' tk p1 he' y1 hT hsz hk => ?_
    have ev : v = u := by
      have q : its[i]? = some v := by simpa using p1
      rw [hu] at q; exact (Option.some.inj q).symm
    subst ev
    refine ⟨_, rfl, wpAny_letOwnedTupleGo_enum (s := { s with heap := h', toks := tk + 1 }) he' fun h2 z2 sb => ?_⟩
    have hT2 : h2.get? s.heap.objs.size = some { cls := .type "tuple", data := .seq #[.int i tk, v] } := (sb.2 _ (Nat.ne_of_gt lel)).trans hT
    have new : ObjOk X.prog X.w (upd H s.heap.objs.size (.tup [.int (i : Nat), x])) h2 s.heap.objs.size (.tup [.int (i : Nat), x]) := ⟨by show 2 ≤ sizeLine; decide, [.int i tk, v], .cons ⟨_, rfl⟩ (.cons ru .nil), _, hT2, rfl, _, rfl⟩
    have old' : ∀ c o, c ∉ [e, it] → s.heap.get? c = some o → h2.get? c = some o := fun c o hb q => by
      have n : c ≠ e ∧ c ≠ it := by simpa using hb
      exact (sb.2 c n.1).trans (hk c o n.1 n.2 q)
    have J : Inv X pins σ (upd H s.heap.objs.size (.tup [.int (i : Nat), x])) { s with heap := h2, toks := tk + 1 } := I.turnedNew (ch := [e, it]) old' hf (Nat.le_refl _) new
    refine ⟨.ref s.heap.objs.size, _, J, rfl, ⟨_, x, rfl, I.hok.fresh (Nat.le_refl _), rfl, fun l hl => by rw [sq_inj I hl hq]; exact hx⟩, ⟨⟨v, ?_⟩, it_at y1.1 fun o q => (sb.2 _ n1.symm).trans q, n1, n2, n3⟩, fun c hcm => ?_⟩
    · have e1 : ((i + 1 : Nat) : Int) = (i : Int) + 1 := by omega
      rw [e1]; exact z2
    · have lt : c < s.heap.objs.size := by
        rcases mem2 hcm with rfl | rfl
        · exact lel
        · obtain ⟨_, e1, _⟩ := hit; exact Heap.lt_size e1
      rw [upd_ne (Nat.ne_of_lt lt)]
      exact (hf c hcm).1
  done := by
    intro X hP hw hK hc i pins s σ H E I hf st hg
    subst hP hw hK
    obtain ⟨⟨old, he⟩, hit, n1, n2, n3⟩ := st
    obtain ⟨xs, hq, hend⟩ := hg
    obtain ⟨its, rv, s1⟩ := inv_sq I hq
    have hh : X.A.in1.handled = none := I.ok.hd hc
    have hn : its.toArray.size = i := by
      have := rv.length
      simp
      omega
    refine wpAny_pyNext_enum_endD (draws k hh it a n3 its.toArray) he (by rw [hn]; exact ⟨hit, s1⟩) fun h' hk => ⟨rfl, ?_⟩
    refine I.turnedL (t' := s.toks) (ch := [e, it]) (fun c o hb q => ?_) hf
    have n : c ≠ e ∧ c ≠ it := by simpa using hb
    exact hk c o n.2 q
  self := fun A i s Q E st h => let ⟨⟨_, he⟩, _⟩ := st; wpAny_pyIter_enum he h
theorem one_ref {a : Addr} {us : List Value} (r : Vals [V.ref a] us) : us = [.ref a] := by
  cases r with
  | cons r1 t =>
    cases t
    rw [show _ = Value.ref a from r1]
def iE (K : PySem.W.Frag) (ta : TA) : TI := fun σ H R => ta σ H fun vs H1 => ∃ k a xs, vs = [.ref a] ∧ sqV k K H1 a xs ∧ R (ItE K k a) H1
theorem pi_en {X : Cx} {e : Expr} {ta : TA} {p pos tpos : Pos} {elts : List Expr} {kk : Nat} (hg : Gl X "enumerate") (hm : X.mg "enumerate" = none) (ha : PA X [e] ta) (hs : starEach [e] X.env = [(false, eval e X.env)] := by rfl) :
    PI X (.Tuple elts kk tpos) (.Call (.Name "enumerate" p) [e] [] pos) (iE X.K ta) := by
  refine ⟨fun pins s σ H R I h => Call_ (ld_blt I hg hm boot_enumerate (PyProof.Rows.callWith_type1 (thn (ha.run pos pins s σ H _ I h) fun us s1 ⟨vs, H1, I1, r1, q1⟩ => ?_) hs rfl))⟩
  obtain ⟨k, a, xs, ex, hq, q⟩ := q1
  subst ex
  rw [one_ref r1]
  obtain ⟨its, _, w1⟩ := inv_sq I1 hq
  refine call_enum w1 fun h' n en he hit hk => wpAny_pyIter_enum he ?_
  have I2 : Inv X pins σ H1 { s1 with heap := h' } := I1.kept (t' := s1.toks) hk
  have la := sq_lt w1
  rw [← en] at la
  refine ⟨n + 1, [n + 1, n], _, _, H1, rfl, I2, turn_en a (n + 1) n, ⟨⟨.none, he⟩, hit, en_key n a la⟩, fun b hb => ?_, q⟩
  have hle : s1.heap.objs.size ≤ b := by
    rw [← en]
    exact le_key2 n b (mem2 hb)
  exact I1.fpOk hle (I1.hok.fresh hle)
end Dh
namespace Dl
open PySem PySem.Spec PyProof.Rows L2 Dh
variable [LawT]
section
variable {X : Cx} {W : XK} {a b e : Expr} {pos : Pos} {c : Ctx} {S H : Hp} {σ : L2.St} {E : List Sl} {ps : Pn}
/-- data that is a list or a tuple: its items -/
def seqD : D → Option (List D)
  | .lst ds => some ds
  | .tup ds => some ds
  | _ => none
theorem seqD_ok {d : D} {ds : List D} {v : V} {S1 : Hp} (e : seqD d = some ds) (r : Rep c.K c.p S1 d v) : ∃ k a xs, v = .ref a ∧ Reps c.K c.p S1 ds xs ∧ ∀ H2, Same S1 H2 → sqV k c.K H2 a xs := by
  cases d with
  | lst ys =>
    cases e
    obtain ⟨a, xs, h1, h2, h3⟩ := r
    exact ⟨.l, a, xs, h1, h3, fun H2 sm => SqL.of (sm _ _ h2)⟩
  | tup ys =>
    cases e
    obtain ⟨a, xs, h1, h2, h3⟩ := r
    exact ⟨.t, a, xs, h1, h3, fun H2 sm => (SqTs sm h2).t⟩
  | _ => cases e
def enumK2 : List D → M (List D)
  | [d] => M.bnd (optM (seqD d)) fun ds => M.ret (enumL ds)
  | _ => M.bad
def zipK2 : List D → M (List D)
  | [d, d'] => M.bnd (optM (seqD d)) fun xs => M.bnd (optM (seqD d')) fun ys => M.ret (zipL xs ys)
  | _ => M.bad
def walkA (gs : M (List D)) (k : List D → M (List D)) : M (List D) := M.bnd gs k
theorem PostI.bndA {g : M (List D)} {k : List D → M (List D)} {R' : It → Hp → Prop} {Q' : List V → Hp → Prop} (h : PostI W c S σ R' (M.bnd g k E ps))
    (f : ∀ ds E' ps' vs S' H', Same S S' → Stt c S' H' σ E' ps' → Reps c.K c.p S' ds vs → PostI W c S' σ R' (k ds E' ps') → Q' vs H') : PostA W c S σ Q' (g E ps) := by
  cases e : g E ps with
  | ok a E' ps' =>
    rw [bnd_ok e] at h
    exact fun v S' H' sm t r => f a E' ps' v S' H' sm t r (PostI.mono sm h)
  | err x ps' => rw [bnd_err e] at h; exact h
  | bad => rw [bnd_bad e] at h; exact h
theorem optI {α : Type} {o : Option α} {k : α → M (List D)} {R : It → Hp → Prop} (p : PostI W c S σ R (M.bnd (optM o) k E ps)) : ∃ x, o = some x ∧ PostI W c S σ R (k x E ps) := by
  cases o with
  | none => exact p.elim
  | some x => exact ⟨x, rfl, p⟩
theorem walk_en {k : Kd} {a : Addr} {xs : List V} {ds : List D} {S1 : Hp} (r : Reps c.K c.p S1 ds xs) (hq : ∀ H2, Same S1 H2 → sqV k c.K H2 a xs) : Walk (ItE c.K k a) (enumL ds).length (fun H => Same S1 H) (YD c S1 (enumL ds)) := by
  have hl : (enumL ds).length = xs.length := by rw [enumL_length, r.length]
  rw [hl]
  refine ⟨fun i H hi sm => ?_, fun H sm => ⟨xs, hq H sm, rfl⟩, fun i H x H' hi sm y => ?_⟩
  · exact ⟨xs, xs[i], hq H sm, List.getElem?_eq_getElem hi⟩
  · obtain ⟨T, u, rfl, nT, rfl, e2⟩ := y
    obtain ⟨d, e3, rd⟩ := r.get' (e2 xs (hq H sm))
    exact yd_pair (a := .int (i : Nat)) (b := d) (by unfold enumL; rw [List.getElem?_mapIdx, e3]; rfl) nT rfl rd
theorem walk_zp {k1 k2 : Kd} {a b : Addr} {xs ys : List V} {ds es : List D} {S1 : Hp} (r1 : Reps c.K c.p S1 ds xs) (r2 : Reps c.K c.p S1 es ys) (h1 : ∀ H2, Same S1 H2 → sqV k1 c.K H2 a xs) (h2 : ∀ H2, Same S1 H2 → sqV k2 c.K H2 b ys) :
    Walk (ItZ c.K k1 k2 a b) (zipL ds es).length (fun H => Same S1 H) (YD c S1 (zipL ds es)) := by
  have hl : (zipL ds es).length = min xs.length ys.length := by rw [zipL_length, r1.length, r2.length]
  rw [hl]
  refine ⟨fun i H hi sm => ?_, fun H sm => ?_, fun i H x H' hi sm y => ?_⟩
  · exact ⟨xs, ys, xs[i]'(by omega), ys[i]'(by omega), h1 H sm, h2 H sm, List.getElem?_eq_getElem _, List.getElem?_eq_getElem _⟩
  · exact ⟨xs, ys, h1 H sm, h2 H sm, by omega, by omega, by omega⟩
  · obtain ⟨T, u, w, rfl, nT, rfl, e1, e2⟩ := y
    obtain ⟨d, e3, rd⟩ := r1.get' (e1 xs (h1 H sm))
    obtain ⟨d', e4, rd'⟩ := r2.get' (e2 ys (h2 H sm))
    exact yd_pair (a := d) (b := d') (by unfold zipL; rw [List.getElem?_zipWith, e3, e4]) nT rd rd'
theorem di_enum {gs : M (List D)} {p tpos : Pos} {elts : List Expr} {kk : Nat} (hg : Gl X "enumerate") (hm : X.mg "enumerate" = none) (ha : DA X W [a] gs) (hs : starEach [a] X.env = [(false, eval a X.env)] := by rfl) : DI X W (.Tuple elts kk tpos) (.Call (.Name "enumerate" p) [a] [] pos) (M.bnd gs enumK2) :=
  pi_imp (pi_en hg hm ha hs) fun σ H R q => by
    obtain ⟨c, S, E, ps, hk, t, q⟩ := q
    refine ⟨c, S, E, ps, hk, t, PostI.bndA q fun ds E' ps' vs S' H' sm t' r p => ?_⟩
    match ds, r, p with
    | [d], ⟨v, r', e1, rd, e2⟩, p =>
      obtain ⟨xs, ed, p⟩ := optI p
      obtain ⟨k, a, ys, rfl, rs, hq⟩ := seqD_ok ed rd
      have e2 : r' = [] := e2
      subst e1 e2
      rw [← hk]
      exact ⟨k, a, ys, rfl, hq H' t'.bs.sub, p _ S' H' (Same.refl _) t' (walk_en rs hq)⟩
    | [], _, p => exact p.elim
    | _ :: _ :: _, _, p => exact p.elim
theorem di_zip {gs : M (List D)} {p tpos : Pos} {elts : List Expr} {kk : Nat} (hg : Gl X "zip") (hm : X.mg "zip" = none) (ha : DA X W [a, b] gs) (hs : starEach [a, b] X.env = (false, eval a X.env) :: starEach [b] X.env := by rfl) (hpl : (backTo pos (starEach [b] X.env)).any (·.1) = false := by rfl) :
    DI X W (.Tuple elts kk tpos) (.Call (.Name "zip" p) [a, b] [] pos) (M.bnd gs zipK2) :=
  pi_imp (pi_zp hg hm ha hs hpl) fun σ H R q => by
    obtain ⟨c, S, E, ps, hk, t, q⟩ := q
    refine ⟨c, S, E, ps, hk, t, PostI.bndA q fun ds E' ps' vs S' H' sm t' r p => ?_⟩
    match ds, r, p with
    | [d, d'], ⟨v, r', e1, rd, v2, r2, e2, rd2, e3⟩, p =>
      obtain ⟨xs, ed, p⟩ := optI p
      obtain ⟨ys, ed2, p⟩ := optI p
      obtain ⟨k, a, us, rfl, rs, hq⟩ := seqD_ok ed rd
      obtain ⟨k2, a2, us2, rfl, rs2, hq2⟩ := seqD_ok ed2 rd2
      have e3 : r2 = [] := e3
      subst e1 e2 e3
      rw [← hk]
      exact ⟨k, k2, a, a2, us, us2, rfl, hq H' t'.bs.sub, hq2 H' t'.bs.sub, p _ S' H' (Same.refl _) t' (walk_zp rs rs2 hq hq2)⟩
    | [], _, p => exact p.elim
    | [_], _, p => exact p.elim
    | _ :: _ :: _ :: _, _, p => exact p.elim
/-! ### a < b < c -/
def chainM (ga gb gc : M D) (k1 k2 : List D → M Sl) : M Sl := M.bnd ga fun x => M.bnd gb fun y => M.bnd (k1 [x, y]) fun r => M.bnd (asB r) fun t => if t then M.bnd gc fun z => k2 [y, z] else im1 (.bl false)
theorem chain_read {ga gb gc : M D} {k1 k2 : List D → M Sl} {r r' : R2} (l1 : LocR X W (r2 r) k1) (l2 : LocR X W (r2 r') k2) {Q : VK} (q : tM X.K W RS (chainM ga gb gc k1 k2) σ H Q) : tChain r r' (tM X.K W RD ga) (tM X.K W RD gb) (tM X.K W RD gc) σ H Q := by
  obtain ⟨c, S, E, ps, hk, t, q⟩ := q
  refine ⟨c, S, E, ps, hk, t, Post.bnd q fun x E1 ps1 v S1 H1 sm1 t1 r1 p => ?_⟩
  refine ⟨c, S1, E1, ps1, hk, t1, Post.bnd p fun y E2 ps2 w S2 H2 sm2 t2 r2' p => ?_⟩
  refine l1 c S2 H2 σ E2 ps2 [x, y] [v, w] _ hk t2 ⟨Rep.pk t2.bs.sub (Rep.mono sm2 x r1), Rep.pk t2.bs.sub r2', trivial⟩ (Post.bnd p fun a E3 ps3 z S3 H3 sm3 t3 r3 p => ?_)
  obtain ⟨bb, ez, p⟩ := asB_ok r3 p
  refine ⟨bb, ez, ?_⟩
  cases bb with
  | false => exact post_im p t3 rfl
  | true =>
    refine ⟨c, S3, E3, ps3, hk, t3, Post.bnd p fun z2 E4 ps4 u S4 H4 sm4 t4 r4 p => ?_⟩
    exact l2 c S4 H4 σ E4 ps4 [y, z2] [w, u] Q hk t4 ⟨Rep.pk t4.bs.sub (Rep.mono (sm3.trans sm4) y r2'), Rep.pk t4.bs.sub r4, trivial⟩ p
theorem de_chain {d : Expr} {op op' : CmpOp} {ga gb gc : M D} {k1 k2 : List D → M Sl} {r r' : R2} (l1 : LocR X W (r2 r) k1) (l2 : LocR X W (r2 r') k2) (ho : OpR X (compareOp op) r) (ho' : OpR X (compareOp op') r') (ha : DV X W a ga) (hb : DV X W b gb) (hc : DV X W d gc)
    (hm : lastMarks [op, op'] [b, d] = false := by with_unfolding_all rfl) : DE X W (.Compare a [op, op'] [b, d] pos) (chainM ga gb gc k1 k2) :=
  pe_imp (pe_chain ho ho' ha hb hc hm) fun σ H Q q => chain_read l1 l2 q
theorem dt_chain {d : Expr} {op op' : CmpOp} {ga gb gc : M D} {k1 k2 : List D → M Sl} {r r' : R2} (l1 : LocR X W (r2 r) k1) (l2 : LocR X W (r2 r') k2) (ho : OpR X (compareOp op) r) (ho' : OpR X (compareOp op') r') (ha : DV X W a ga) (hb : DV X W b gb) (hc : DV X W d gc)
    (hm : lastMarks [op, op'] [b, d] = false := by with_unfolding_all rfl) : DT X W (.Compare a [op, op'] [b, d] pos) (testM (chainM ga gb gc k1 k2)) :=
  pt_imp (pt_chain ho ho' ha hb hc hm) fun σ H Q q => chain_read l1 l2 (test_of q)
end
end Dl
namespace Dl
open PySem PySem.Spec PyProof.Rows L2 Dh
variable [LawT]
section
variable {X : Cx} {W : XK} {a b e : Expr} {pos : Pos} {c : Ctx} {S H : Hp} {σ : L2.St} {E : List Sl} {ps : Pn}
/-! ### what is drawn from -/
def penD (ps : Pn) : Int → Option D
  | 0 => some (.lst (ps.ns.map .int))
  | 1 => some (.int ps.turn)
  | 2 => some (.int ps.rest)
  | _ => none
def penIx (k : Nat) (i : Int) : M D := fun E ps => match E[k]? with
  | some (.im .pen) => optM (penD ps i) E ps
  | _ => .bad
theorem reps_ints {K : PySem.W.Frag} {p : Addr} {S : Hp} : ∀ ns : List Int, Reps K p S (ns.map D.int) (ns.map V.int)
  | [] => rfl
  | n :: ns => ⟨_, _, rfl, rfl, reps_ints ns⟩
theorem dv_penIx {x : Str} {p1 p2 : Pos} {jj} {k : Nat} {i : Int} (hx : PE X (.Name x p1) (tVar k)) (hs : PlainIx (.Constant (.int i) jj p2)) : DV X W (.Subscript (.Name x p1) (.Constant (.int i) jj p2) pos) (penIx k i) :=
  pe_imp (pe_ix ix_list hx (pe_int (i := i)) hs) fun σ H Q q => by
    obtain ⟨c, S, E, ps, hk, t, q⟩ := q
    unfold penIx at q
    split at q
    · rename_i e
      obtain ⟨v, e1, r⟩ := t.slots k _ e (fun z => by cases z)
      have r : v = .ref c.p := r
      subst r
      obtain ⟨h1, l, h2, h3⟩ := t.bs.pen
      refine ⟨_, e1, ?_⟩
      have fin : ∀ d v, penD ps i = some d → atI [V.ref l, .int ps.turn, .int ps.rest] i = some v → Rep c.K c.p S d v → rIxL X.K (.ref c.p) (.int i) H Q := fun d v e2 e3 r2 => by
        rw [e2] at q
        exact ⟨c.p, _, i, v, rfl, rfl, SqL.of h2, e3, q v S H (Same.refl _) t r2⟩
      unfold penD at fin q
      split at q
      · exact fin _ (.ref l) rfl rfl ⟨l, _, rfl, h3, reps_ints _⟩
      · exact fin _ (.int ps.turn) rfl rfl rfl
      · exact fin _ (.int ps.rest) rfl rfl rfl
      · exact q.elim
    · exact q.elim
def penSet (ps : Pn) (i x : Int) : Option Pn := match i with
  | 1 => some { ps with turn := x }
  | 2 => some { ps with rest := x }
  | _ => none
def penPut (k : Nat) (i : Int) (d : D) : M Unit := fun E ps => match E[k]?, d with
  | some (.im .pen), .int x => match penSet ps i x with
    | some ps' => .ok () E ps'
    | none => .bad
  | _, _ => .bad
theorem Stt.pen {l : Addr} {ps' : Pn} (t : Stt c S H σ E ps) (h : H c.p = some (.lst [.ref l, .int ps.turn, .int ps.rest])) (hl : S l = some (.lst (ps.ns.map V.int))) (en : ps'.ns = ps.ns) : Stt c S (upd H c.p (.lst [.ref l, .int ps'.turn, .int ps'.rest])) σ E ps' := by
  have sp := t.bs.pen.1
  refine ⟨⟨fun x w q => ?_, t.bs.s0, fun x w n nt q => ?_, fun x n => upd_dom x (t.bs.dom x n), Tabs.upd t.bs.tabs h pln_lst, t.bs.tn, t.bs.fresh, t.bs.hp, sp, l, upd_same, by rw [en]; exact hl⟩, t.len, fun j r ej nj => ?_, t.dist⟩
  · have n : x ≠ c.p := fun z => by rw [z, sp] at q; cases q
    rw [upd_ne n]; exact t.bs.sub x w q
  · rw [upd_ne n]; exact t.bs.keep x w n nt q
  · obtain ⟨w, ew, q⟩ := t.slots j r ej nj
    refine ⟨w, ew, ?_⟩
    cases r with
    | un => trivial
    | im d => exact q
    | ol ds =>
      obtain ⟨b, xs, h1, h2, h3, h4, h5⟩ := q
      have nb : b ≠ c.p := fun z => t.bs.hp (by rw [← z]; exact h3)
      exact ⟨b, xs, h1, h2, h3, by rw [upd_ne nb]; exact h4, h5⟩
    | od ds =>
      obtain ⟨b, xs, h1, h2, h3, h4, h5⟩ := q
      have nb : b ≠ c.p := fun z => t.bs.hp (by rw [← z]; exact h3)
      exact ⟨b, xs, h1, h2, h3, by rw [upd_ne nb]; exact h4, h5⟩
    | oi C fs =>
      obtain ⟨b, dx, xs, h1, h2, h3, h4, h5, h6, h7, h8⟩ := q
      have nb : b ≠ c.p := fun z => t.bs.hp (by rw [← z]; exact h3)
      have nd : dx ≠ c.p := fun z => t.bs.hp (by rw [← z]; exact h6)
      exact ⟨b, dx, xs, h1, h2, h3, by rw [upd_ne nb]; exact h4, h5, h6, by rw [upd_ne nd]; exact h7, h8⟩
def penSetM (k : Nat) (i : Int) (g : M D) : M Fl := M.bnd g fun d => nextM (penPut k i d)
theorem ds_penSet {x : Str} {p1 p2 p3 : Pos} {jj} {k : Nat} {i : Int} {g : M D} (hx : PE X (.Name x p1) (tVar k)) (he : DV X W e g)
    (ha : ∀ v, assign (.Subscript (.Name x p1) (.Constant (.int i) jj p2) p3) X.env v = (do let ov ← holding [v] (eval (.Name x p1) X.env); let iv ← holding [v, ov] (eval (.Constant (.int i) jj p2) X.env); standAt p3; holding [v, ov, iv] (setItem ov iv v); release [v, ov, iv] []) := by intro _; rfl)
    (hs : swapsWithSole [.Subscript (.Name x p1) (.Constant (.int i) jj p2) p3] e pos.line X.env = pure false := by rfl) (hw : swappedStores [.Subscript (.Name x p1) (.Constant (.int i) jj p2) p3] e X.env = pure none := by rfl)
    (h1 : (assignEach [.Subscript (.Name x p1) (.Constant (.int i) jj p2) p3] X.env).map (·.2) = [assign (.Subscript (.Name x p1) (.Constant (.int i) jj p2) p3) X.env] := by rfl) : DS X W (.Assign [.Subscript (.Name x p1) (.Constant (.int i) jj p2) p3] e pos) (penSetM k i g) :=
  ps_imp (ps_asg he (pg_sub hx (pe_int (i := i)) set_list ha) hs hw h1) fun De σ H q => by
    obtain ⟨c, S, E, ps, hk, t, q⟩ := q
    refine ⟨c, S, E, ps, hk, t, PostS.bnd q fun d E' ps' v S' H' sm t' r p => ?_⟩
    have p : PostS W c S' De (M.bnd (penPut k i d) (fun _ => M.ret .next) E' ps') := p
    cases eq : penPut k i d E' ps' with
    | bad => rw [bnd_bad eq] at p; exact p.elim
    | err _ _ =>
      unfold penPut at eq
      split at eq
      · split at eq <;> cases eq
      · cases eq
    | ok u E2 ps2 =>
      rw [bnd_ok eq] at p
      unfold penPut at eq
      split at eq
      · rename_i y e1
        split at eq
        · rename_i ps3 e2
          cases eq
          obtain ⟨w, e3, r3⟩ := t'.slots k _ e1 (fun z => by cases z)
          have r3 : w = .ref c.p := r3
          subst r3
          have r : v = .int y := r
          subst r
          obtain ⟨h1, l, h2, h3⟩ := t'.bs.pen
          refine ⟨_, e3, ?_⟩
          unfold penSet at e2
          split at e2
          · cases e2
            refine ⟨c.p, _, 1, 1, rfl, rfl, h2, rfl, ?_⟩
            have t2 := t'.pen (ps' := { ps' with turn := y }) h2 h3 rfl
            exact p σ S' _ (Same.refl _) t2
          · cases e2
            refine ⟨c.p, _, 2, 2, rfl, rfl, h2, rfl, ?_⟩
            have t2 := t'.pen (ps' := { ps' with rest := y }) h2 h3 rfl
            exact p σ S' _ (Same.refl _) t2
          · cases e2
        · cases eq
      · cases eq
end
/-! ### the law's own text: the pen is made, the rest is data -/
def noS : Hp := fun _ => none
def oneS (a : Addr) (o : HO) : Hp := fun b => if b = a then some o else none
theorem pen_start {K : PySem.W.Frag} {p l : Addr} {H : Hp} {ns : List Int} {σ : L2.St} {E : List Sl} (hp : H p = some (.lst [.ref l, .int 0, .int 0])) (hl : H l = some (.lst (ns.map V.int))) (len : E.length = σ.length) (tb : LamX.Tabs LawT.T H)
    (hE : ∀ (i : Nat) (s : Sl), E[i]? = some s → s ≠ .un → s = .im .pen ∧ σ[i]? = some (some (.ref p))) : ∃ c S, c.K = K ∧ Stt c S H σ E ⟨ns, 0, 0⟩ := by
  have npl : p ≠ l := fun z => by
    subst z
    rw [hp] at hl
    have q := HO.lst.inj (Option.some.inj hl)
    cases ns with
    | nil => cases q
    | cons n ns => rw [List.map_cons] at q; injection q with q1 _; cases q1
  refine ⟨⟨K, p, noS, oneS p (.lst [.ref l, .int 0, .int 0]), none⟩, oneS l (.lst (ns.map V.int)), rfl, ⟨⟨fun x o e => ?_, (fun x o e => by cases e), fun x o n _ e => ?_, fun x n => ?_, tb, fun q hq => ?_, fun x _ n => ?_, ?_, ?_, l, hp, ?_⟩, len, fun i s e n => ?_, fun i j s t v e1 e2 o1 o2 _ _ => ?_⟩⟩
  · unfold oneS at e
    split at e
    · rename_i z; subst z; cases e; exact hl
    · cases e
  · have e : oneS p _ x = some o := e
    unfold oneS at e
    split at e
    · rename_i z; exact absurd z n
    · cases e
  · have n : oneS p _ x ≠ none := n
    unfold oneS at n
    split at n
    · rename_i z; subst z; rw [hp]; intro y; cases y
    · exact absurd rfl n
  · obtain ⟨t, e1, _⟩ := tb q hq
    show oneS l _ q.1 = none
    unfold oneS
    rw [if_neg (fun z => by rw [z, hl] at e1; cases e1)]
  · have n : oneS p _ x ≠ none := n
    unfold oneS at n ⊢
    split at n
    · rename_i z; subst z; rw [if_neg npl]
    · exact absurd rfl n
  · show oneS p _ p ≠ none
    unfold oneS
    rw [if_pos rfl]
    intro z; cases z
  · show oneS l _ p = none
    unfold oneS
    rw [if_neg npl]
  · show oneS l _ l = _
    unfold oneS
    rw [if_pos rfl]
  · obtain ⟨rfl, e1⟩ := hE i s e n
    exact ⟨_, e1, rfl⟩
  · obtain ⟨rfl, _⟩ := hE i s e1 (fun z => by subst z; cases o1)
    cases o1
end Dl
namespace Dl
open PySem PySem.Spec PyProof.Rows L2 Dh
variable [LawT]
/-- what a caller must know of a def: x is the def's name, dd the data of the defaults behind the written arguments -/
def Cal (P : Program) (w : World) (K : PySem.W.Frag) (mg : Str → Option Value) (base : Heap) (CX : CXT) (k : Nat) (x : Str) (n : Nat) (g : Fn) (dd : List D) : Prop :=
  ∃ f fd pl ds dvs, FnOk P w K mg base CX k f fd pl (spD K n g) ∧ mg x = some (.ref f) ∧ PySem.W.keepIn K (.ref f) = true ∧ Binds K fd pl ds ∧ Vals dvs ds ∧ ∀ K p S, Reps K p S dd dvs
theorem Cal.mono {P : Program} {w : World} {K : PySem.W.Frag} {mg : Str → Option Value} {base : Heap} {CX : CXT} {k j : Nat} {x : Str} {n : Nat} {g : Fn} {dd : List D} (C : Cal P w K mg base CX k x n g dd) (h : k ≤ j) : Cal P w K mg base CX j x n g dd := by
  obtain ⟨f, fd, pl, ds, dvs, F, r⟩ := C
  exact ⟨f, fd, pl, ds, dvs, F.mono h, r⟩
theorem Cal.eqD {P : Program} {w : World} {K : PySem.W.Frag} {mg : Str → Option Value} {base : Heap} {CX : CXT} {k : Nat} {x : Str} {n : Nat} {g h : Fn} {dd : List D} (C : Cal P w K mg base CX k x n g dd) (e : ∀ args pn, h args pn ≠ .bad → g args pn = h args pn) : Cal P w K mg base CX k x n h dd := by
  obtain ⟨f, fd, pl, ds, dvs, F, r⟩ := C
  exact ⟨f, fd, pl, ds, dvs, Dl.FnOk.eqD F e, r⟩
section
variable {X : Cx} {W : XK} {e : Expr} {es : List Expr}
theorem passX0 {P : Program} {w : World} : Passes (L2.CX P w) X W0 := fun _ _ _ _ _ _ _ h => by
  obtain ⟨_, _, _, _, _, _, _, _, _, _, _, _, z⟩ := h
  exact z.elim
theorem de_cal {CX : CXT} {k n : Nat} {g : Fn} {x : Str} {p pos : Pos} {dd : List D} {gs : M (List D)} (C : Cal X.prog X.w X.K X.mg X.base CX k x n g dd) (hr : Room k X.A) (hx : Passes CX X W) (ha : DA X W (e :: es) gs) (hg : Gl X x := by rfl) (hdb : (x == ("__debug__" : Str)) = false := by decide)
    (he : starEach (e :: es) X.env = (false, eval e X.env) :: starEach es X.env := by rfl) (hpl : (backTo pos (starEach es X.env)).any (·.1) = false := by rfl) : DE X W (.Call (.Name x p) (e :: es) [] pos) (callM gs n g dd) := by
  obtain ⟨f, fd, pl, ds, dvs, F, hm, hk, hb, hd, rd⟩ := C
  exact de_callF F hr hg hm hk hb hd rd hx ha hdb he hpl
theorem de_cal0 {CX : CXT} {k n : Nat} {g : Fn} {x : Str} {p pos : Pos} {dd : List D} (C : Cal X.prog X.w X.K X.mg X.base CX k x n g dd) (hr : Room k X.A) (hx : Passes CX X W) (hg : Gl X x := by rfl) (hdb : (x == ("__debug__" : Str)) = false := by decide) : DE X W (.Call (.Name x p) [] [] pos) (callM (argsM []) n g dd) := by
  obtain ⟨f, fd, pl, ds, dvs, F, hm, hk, hb, hd, rd⟩ := C
  exact de_callF0 F hr hg hm hk hb hd rd hx hdb
end
/-- a module's constant -/
theorem dv_glob {X : Cx} {W : XK} {x : Str} {pos : Pos} {d : D} {v : V} {u : Value} (hm : X.mg x = some u) (r : RelV v u) (rd : ∀ p S, Rep X.K p S d v) (hg : Gl X x := by rfl) (hd : (x == ("__debug__" : Str)) = false := by decide) : DV X W (.Name x pos) (M.ret d) :=
  pe_imp (pe_glob (v := v) hg hm r hd) fun σ H Q q => by
    obtain ⟨c, S, E, ps, hk, t, q⟩ := q
    refine q v S H (Same.refl _) t ?_
    show Rep c.K c.p S d v
    rw [hk]
    exact rd _ _
end Dl
namespace Dl
open PySem PySem.Spec PyProof.Rows L2 Dh
variable [LawT]
theorem hu65 {A : Around} {k : Nat} (hr : Room k A) : A.units + 65 < cLine := by have := hr.un; omega
section
variable {X : Cx} {W : XK} {a b d e : Expr} {oa ob : Opn} {pos : Pos} {c : Ctx} {S H : Hp} {σ : L2.St} {E : List Sl} {ps : Pn}
def rOrd (f : Int → Int → Bool) (g : Str → Str → Bool) : R2 := fun x y H Q => rI0 (fun i j => .bl (f i j)) x y H Q ∨ (∃ i j, x = .str i ∧ y = .str j ∧ Q (.bl (g i j)) H)
theorem locOrd {f : Int → Int → Bool} {g : Str → Str → Bool} : LocR X W (r2 (rOrd f g)) (kOrd f g) := loc_ord
theorem opLt : OpR X (compareOp .Lt) (rOrd (fun i j => decide (i < j)) (strLt)) := Dl.OpR.or op_lt op_lt_str
theorem opLe : OpR X (compareOp .LtE) (rOrd (fun i j => decide (i ≤ j)) (fun x y => !strLt y x)) := Dl.OpR.or op_le op_le_str
theorem opGt : OpR X (compareOp .Gt) (rOrd (fun i j => decide (j < i)) (fun x y => strLt y x)) := Dl.OpR.or op_gt op_gt_str
theorem opGe : OpR X (compareOp .GtE) (rOrd (fun i j => decide (j ≤ i)) (fun x y => !strLt x y)) := Dl.OpR.or op_ge op_ge_str
/-! ### not of a value -/
theorem de_not {g : M Sl} (h : DE X W a g) : DE X W (.UnaryOp .Not a pos) (notE g) := pe_imp (pe_notT h) fun σ H Q q => by
  obtain ⟨c, S, E, ps, hk, t, q⟩ := q
  refine ⟨c, S, E, ps, hk, t, Post.bnd q fun r E' ps' v S' H' sm t' rr p => ?_⟩
  exact truD_ok hk t' rr (Post.bndT p fun b E2 ps2 S2 H2 sm2 t2 p2 => post_im p2 t2 rfl)
/-! ### a result that waits while others are reckoned -/
theorem err_lend {l : Addr} {o : HO} {x : Xn} {ps' : Pn} (pl : Pln o) (h0 : c.H0 l = none) (sp : c.H0 c.p ≠ none) (h : ErrTo W c x ps') : ErrTo W (c.lend l o) x ps' := fun cls d S' H' b r => by
  refine h cls d S' H' ⟨b.sub, b.s0, fun z u n nt e => ?_, fun z n => ?_, b.tabs, b.tn, fun z e n => ?_, sp, b.pen⟩ r
  · have nb : z ≠ l := fun y => by rw [y, h0] at e; cases e
    exact b.keep z u n nt ((upd_ne nb).trans e)
  · have nb : z ≠ l := fun y => n (by rw [y]; exact h0)
    exact b.dom z (fun y => n ((upd_ne nb).symm.trans y))
  · have nb : z ≠ l := fun y => n (by rw [y]; exact h0)
    exact b.fresh z e (fun y => n ((upd_ne nb).symm.trans y))
structure Kept (W : XK) (c c' : Ctx) (S : Hp) (σ : L2.St) (v : V) (r : Sl) : Prop where
  K : c'.K = c.K
  p : c'.p = c.p
  back : ∀ {S' H' : Hp} {E' : List Sl} {ps' : Pn}, Same S S' → Stt c' S' H' σ E' ps' → Stt c S' H' σ E' ps' ∧ ResOk c S' H' σ E' v r
  res : ∀ {S' H' : Hp} {E' : List Sl} {ps' : Pn} {w : V} {u : Sl}, Stt c' S' H' σ E' ps' → ResOk c' S' H' σ E' w u → ResOk c S' H' σ E' w u ∧ (u.own = true → r.own = true → w ≠ v)
  err : ∀ {x : Xn} {ps' : Pn}, ErrTo W c x ps' → ErrTo W c' x ps'
theorem res_free {l : Addr} {o : HO} (h : ResOk c S H σ E (.ref l) r) (os : r.own = true) (hl : H l = some o) (hs : S l = none) (h0 : c.H0 l = none) : Free c S H σ E l o := ⟨hl, hs, h0, fun i s e q z => h.2.2 os i s e q z⟩
def noOi : Sl → Bool
  | .oi _ _ => false
  | _ => true
theorem keep_res {v : V} {r : Sl} (ni : noOi r = true) (t : Stt c S H σ E ps) (h : ResOk c S H σ E v r) : ∃ c', Kept W c c' S σ v r ∧ Stt c' S H σ E ps := by
  by_cases os : r.own = true
  · obtain ⟨l, o, rfl, hs, h0, hl, pl⟩ := h.2.1.own_at os
    have sp := t.bs.hp
    have f := res_free h os hl hs h0
    have s0 : c.S0 l = none := by
      cases z : c.S0 l with
      | none => rfl
      | some u => exact absurd ((t.bs.s0 l u z).symm.trans hs) (by intro q; cases q)
    have np : l ≠ c.p := fun z => sp (by rw [← z]; exact h0)
    refine ⟨c.lend l o, ⟨rfl, rfl, fun {S' H' E' ps'} sm t' => ?_, fun {S' H' E' ps' w u} t' hu => ?_, fun {x ps'} he => err_lend pl h0 sp he⟩, t.lend pl f⟩
    · obtain ⟨t2, f2⟩ := t'.unlend pl h0 sp
      have sl : S' l = none := t'.bs.fresh l s0 (show upd c.H0 l o l ≠ none by rw [upd_same]; intro z; cases z)
      have f2 := f2 sl
      refine ⟨t2, h.1, ?_, fun _ j s e q z => f2.no j s e q z⟩
      cases r with
      | un => cases os
      | im _ => cases os
      | ol ds =>
        obtain ⟨l2, xs, e1, _, _, e2, e3⟩ := h.2.1
        cases e1
        rw [hl] at e2
        cases e2
        exact ⟨l, xs, rfl, sl, h0, f2.at', Reps.mono sm ds e3⟩
      | od ds =>
        obtain ⟨l2, xs, e1, _, _, e2, e3⟩ := h.2.1
        cases e1
        rw [hl] at e2
        cases e2
        exact ⟨l, _, rfl, sl, h0, f2.at', DicO.mono sm e3⟩
      | oi _ _ => cases ni
    · obtain ⟨n, ok, no⟩ := hu
      have un : ∀ {m : Addr}, (c.lend l o).H0 m = none → c.H0 m = none ∧ m ≠ l := fun e => h0_lend e
      cases u with
      | un => exact absurd rfl n
      | im d => exact ⟨⟨n, ok, no⟩, fun z => by cases z⟩
      | ol ds =>
        obtain ⟨m, xs, e1, e2, e3, e4, e5⟩ := ok
        exact ⟨⟨n, ⟨m, xs, e1, e2, (un e3).1, e4, e5⟩, no⟩, fun _ _ z => (un e3).2 (by rw [e1] at z; exact V.ref.inj z)⟩
      | od ds =>
        obtain ⟨m, xs, e1, e2, e3, e4, e5⟩ := ok
        exact ⟨⟨n, ⟨m, xs, e1, e2, (un e3).1, e4, e5⟩, no⟩, fun _ _ z => (un e3).2 (by rw [e1] at z; exact V.ref.inj z)⟩
      | oi C fs =>
        obtain ⟨m, dx, xs, e1, e2, e3, e4, e5, e6, e7, e8⟩ := ok
        exact ⟨⟨n, ⟨m, dx, xs, e1, e2, (un e3).1, e4, e5, (un e6).1, e7, e8⟩, no⟩, fun _ _ z => (un e3).2 (by rw [e1.1] at z; exact V.ref.inj z)⟩
  · refine ⟨c, ⟨rfl, rfl, fun {S' H' E' ps'} sm t' => ⟨t', h.1, ?_, fun z => absurd z os⟩, fun {S' H' E' ps' w u} t' hu => ⟨hu, fun _ z => absurd z os⟩, fun {x ps'} he => he⟩, t⟩
    cases r with
    | un => exact absurd rfl h.1
    | im d => exact Rep.mono sm d h.2.1
    | ol _ => exact absurd rfl os
    | od _ => exact absurd rfl os
    | oi _ _ => cases ni
/-- a second result, stored behind the first -/
theorem ResOk.behind {v w : V} {r u : Sl} {i : Nat} (hu : ResOk c S H σ E w u) (ne : u.own = true → r.own = true → w ≠ v) : ResOk c S H (σ.set i (some v)) (E.set i r) w u := by
  refine ⟨hu.1, hu.2.1, fun os j s e q z => ?_⟩
  rcases set_get e with ⟨rfl, rfl, hl⟩ | ⟨nj, e'⟩
  · by_cases hi : j < σ.length
    · rw [List.getElem?_set_self hi] at z
      exact ne os q (V.some_inj z).symm
    · rw [List.getElem?_eq_none (by rw [List.length_set]; omega)] at z; cases z
  · rw [List.getElem?_set_ne (Ne.symm nj)] at z
    exact hu.2.2 os j s e' q z
where
  V.some_inj {a b : V} (h : some (some a) = some (some b)) : a = b := Option.some.inj (Option.some.inj h)
def put2M (i j : Nat) (r u : Sl) : M Fl := fun E ps => .ok .next ((E.set i r).set j u) ps
def par2M (i j : Nat) (g h : M Sl) : M Fl := M.bnd g fun r => if noOi r then M.bnd h fun u => put2M i j r u else M.bad
theorem PostS.keep {α : Type} {De : Ends} {c' : Ctx} {v : V} {r : Sl} {g : M Sl} {k : Sl → M Fl} {Q' : VK} (kp : Kept W c c' S σ v r) (h : PostS W c S De (M.bnd g k E ps))
    (f : ∀ u E' ps' w S' H', Same S S' → Stt c' S' H' σ E' ps' → RS c' S' H' σ E' w u → PostS W c S' De (k u E' ps') → Q' w H') : Post W RS c' S σ Q' (g E ps) := by
  cases e : g E ps with
  | ok u E' ps' =>
    rw [bnd_ok e] at h
    exact fun w S' H' sm t rr => f u E' ps' w S' H' sm t rr (PostS.mono sm h)
  | err x ps' => rw [bnd_err e] at h; exact kp.err h
  | bad => rw [bnd_bad e] at h; exact h
theorem ds_par2 {i j : Nat} {x y : Str} {px py pt : Pos} {kt k2 pt2} {g h : M Sl} (hN : X.N.Nodup) (hi : X.N[i]? = some x) (hj : X.N[j]? = some y) (hij : i ≠ j) (hx : X.env.scope.names.lookup x = some .local) (hy : X.env.scope.names.lookup y = some .local) (ha : DE X W a g) (hb : DE X W b h)
    (hc : X.calm = true := by rfl) (hw : swappedStores [.Tuple [.Name x px, .Name y py] kt pt] (.Tuple [a, b] k2 pt2) X.env = pure (some [x, y]) := by rfl)
    (hs : swapsWithSole [.Tuple [.Name x px, .Name y py] kt pt] (.Tuple [a, b] k2 pt2) pos.line X.env = pure false := by rfl) (h1 : starEach [a, b] X.env = (false, eval a X.env) :: starEach [b] X.env := by rfl) (h2 : starEach [b] X.env = (false, eval b X.env) :: starEach [] X.env := by rfl) :
    DS X W (.Assign [.Tuple [.Name x px, .Name y py] kt pt] (.Tuple [a, b] k2 pt2) pos) (par2M i j g h) :=
  ps_imp (ps_par hc hN hi hj hij hx hy (pa_cons ha (pa_cons hb pa_nil h2) h1) hw hs) fun De σ H q => by
    obtain ⟨c, S, E, ps, hk, t, q⟩ := q
    refine ⟨c, S, E, ps, hk, t, PostS.bnd q fun r E1 ps1 v S1 H1 sm1 t1 rr p => ?_⟩
    have ni : noOi r = true := by
      cases e : noOi r with
      | true => rfl
      | false => rw [e, if_neg Bool.false_ne_true] at p; exact p.elim
    rw [if_pos ni] at p
    obtain ⟨c', kp, t1'⟩ := keep_res (W := W) ni t1 rr
    refine ⟨c', S1, E1, ps1, kp.K.trans hk, t1', PostS.keep (α := Unit) kp p fun u E2 ps2 w S2 H2 sm2 t2 ru p => ?_⟩
    obtain ⟨t3, hr⟩ := kp.back sm2 t2
    obtain ⟨hu, ne⟩ := kp.res t2 ru
    refine ⟨v, w, rfl, p _ S2 H2 (Same.refl _) ?_⟩
    exact (t3.put (i := i) hr).put (i := j) (hu.behind ne)
def put3M (i j l : Nat) (r u z : Sl) : M Fl := fun E ps => .ok .next (((E.set i r).set j u).set l z) ps
def par3M (i j l : Nat) (g h m : M Sl) : M Fl := M.bnd g fun r => if noOi r then M.bnd h fun u => if noOi u then M.bnd m fun z => put3M i j l r u z else M.bad else M.bad
theorem ds_par3 {i j l : Nat} {x y z : Str} {px py pz pt : Pos} {kt k2 pt2} {g h m : M Sl} (hN : X.N.Nodup) (hi : X.N[i]? = some x) (hj : X.N[j]? = some y) (hl : X.N[l]? = some z) (hij : i ≠ j) (hil : i ≠ l) (hjl : j ≠ l) (hx : X.env.scope.names.lookup x = some .local) (hy : X.env.scope.names.lookup y = some .local) (hz : X.env.scope.names.lookup z = some .local)
    (ha : DE X W a g) (hb : DE X W b h) (hd : DE X W d m) (hc : X.calm = true := by rfl) (hw : swappedStores [.Tuple [.Name x px, .Name y py, .Name z pz] kt pt] (.Tuple [a, b, d] k2 pt2) X.env = pure (some [x, y, z]) := by rfl)
    (hs : swapsWithSole [.Tuple [.Name x px, .Name y py, .Name z pz] kt pt] (.Tuple [a, b, d] k2 pt2) pos.line X.env = pure false := by rfl) (h1 : starEach [a, b, d] X.env = (false, eval a X.env) :: starEach [b, d] X.env := by rfl) (h2 : starEach [b, d] X.env = (false, eval b X.env) :: starEach [d] X.env := by rfl) (h3 : starEach [d] X.env = (false, eval d X.env) :: starEach [] X.env := by rfl) :
    DS X W (.Assign [.Tuple [.Name x px, .Name y py, .Name z pz] kt pt] (.Tuple [a, b, d] k2 pt2) pos) (par3M i j l g h m) :=
  ps_imp (ps_par3 hc hN hi hj hl hij hil hjl hx hy hz (pa_cons ha (pa_cons hb (pa_cons hd pa_nil h3) h2) h1) hw hs) fun De σ H q => by
    obtain ⟨c, S, E, ps, hk, t, q⟩ := q
    refine ⟨c, S, E, ps, hk, t, PostS.bnd q fun r E1 ps1 v S1 H1 sm1 t1 rr p => ?_⟩
    have ni : noOi r = true := by
      cases e : noOi r with
      | true => rfl
      | false => rw [e, if_neg Bool.false_ne_true] at p; exact p.elim
    rw [if_pos ni] at p
    obtain ⟨c', kp, t1'⟩ := keep_res (W := W) ni t1 rr
    refine ⟨c', S1, E1, ps1, kp.K.trans hk, t1', PostS.keep (α := Unit) kp p fun u E2 ps2 w S2 H2 sm2 t2 ru p => ?_⟩
    have ni2 : noOi u = true := by
      cases e : noOi u with
      | true => rfl
      | false => rw [e, if_neg Bool.false_ne_true] at p; exact p.elim
    rw [if_pos ni2] at p
    obtain ⟨c2, kp2, t2'⟩ := keep_res (W := W) ni2 t2 ru
    refine ⟨c2, S2, E2, ps2, kp2.K.trans (kp.K.trans hk), t2', ?_⟩
    cases em : m E2 ps2 with
    | bad => rw [bnd_bad em] at p; exact p
    | err x ps' => rw [bnd_err em] at p; exact kp2.err (kp.err p)
    | ok s E3 ps3 =>
      rw [bnd_ok em] at p
      intro w3 S3 H3 sm3 t3 rs
      obtain ⟨t4, hu4⟩ := kp2.back sm3 t3
      obtain ⟨hs4, ne4⟩ := kp2.res t3 rs
      obtain ⟨t5, hr5⟩ := kp.back (sm2.trans sm3) t4
      obtain ⟨hu5, ne5⟩ := kp.res t4 hu4
      obtain ⟨hs5, ne6⟩ := kp.res t4 hs4
      refine ⟨v, w, w3, rfl, p _ S3 H3 sm3 ?_⟩
      exact ((t5.put (i := i) hr5).put (i := j) (hu5.behind ne5)).put (i := l) ((hs5.behind ne6).behind ne4)
end
end Dl
/-! the program's own classes: attributes, instances that are made, exceptions -/
namespace Dl
open PySem PySem.Spec PyProof.Rows L2 Dh
variable [LawT] [LawS]
section
variable {X : Cx} {W : XK} {a b e : Expr} {oa ob : Opn} {pos : Pos} {c : Ctx} {S S' H H' : Hp} {σ : L2.St} {E : List Sl} {ps : Pn}
/-! ### o.f -/
def fldOk (n f : String) : Bool := LawS.cs.any fun p => p.1 == n && p.2.contains f
def fldXOk (n f : String) : Bool := LawS.ex.any fun p => p.1 == n && p.2.contains f
def kFld (f : String) : List D → M Sl
  | [.ins n fs] => if isIns n && fldOk n f then imM1 (fs.lookup (Str.ofString f)) else M.bad
  | [.exc n fs] => if isExc n && fldXOk n f then imM1 (fs.lookup (Str.ofString f)) else M.bad
  | _ => M.bad
theorem RepFs.look {K : PySem.W.Frag} {p : Addr} {f : Str} {d : D} : ∀ {fs : List (Str × D)} {xs : List (Str × V)}, RepFs K p S fs xs → fs.lookup f = some d → ∃ v, xs.lookup f = some v ∧ Rep K p S d v
  | [], _, _, e => by cases e
  | (g, d') :: fs, xs, ⟨v, r, h1, h2, h3⟩, e => by
    subst h1
    by_cases z : f = g
    · subst z
      have e1 : List.lookup f ((f, d') :: fs) = some d' := by simp [List.lookup]
      rw [e1] at e
      cases e
      exact ⟨v, by simp [List.lookup], h2⟩
    · have zb : (f == g) = false := beq_eq_false_iff_ne.mpr z
      have e1 : List.lookup f ((g, d') :: fs) = fs.lookup f := by simp [List.lookup, zb]
      rw [e1] at e
      obtain ⟨w, q1, q2⟩ := RepFs.look h3 e
      exact ⟨w, by simp [List.lookup, zb, q1], q2⟩
def rFld (K : PySem.W.Frag) (f : Str) : V → Hp → VK → Prop := fun x H Q =>
  (∃ (a C dx : Addr) (fs : List (Str × V)) (v : V), x = .ref a ∧ H a = some (.ins C dx fs) ∧ Cls K C ∧ NoAttr K C f ∧ fs.lookup f = some v ∧ Q v H) ∨
    ∃ (a C dx : Addr) (fs : List (Str × V)) (v : V), x = .ref a ∧ H a = some (ExT C dx a) ∧ H dx = some (.xd fs) ∧ ExcC K C ∧ PySem.W.findIn K (.ref C) f = some none ∧ fs.lookup f = some v ∧ Q v H
theorem pe_att {ta : TE} {f : Str} (he : PE X e ta) (hb : attributeBase e f X.env (eval e X.env) = eval e X.env) : PE X (.Attribute e f pos) (tUn (rFld X.K f) ta) := by
  refine ⟨fun pins s σ H Q I h => ?_⟩
  refine attr_of hb (thn (he.run pins s σ H _ I h) fun u s1 hu => ?_)
  obtain ⟨x, H1, I1, rx, q⟩ := hu
  rcases q with ⟨a, C, dx, fs, v, ex, ea, c, n, l, q⟩ | ⟨a, C, dx, fs, v, ex, ea, ed, C', n, l, q⟩
  · subst ex
    obtain rfl : u = Value.ref a := rx
    exact getattr_ok I1 ea c n l fun u' s2 I2 ru => ⟨v, H1, I2, ru, q⟩
  · subst ex
    obtain rfl : u = Value.ref a := rx
    obtain ⟨oe, od, J, hl⟩ := exT_inst I1 ea ed
    obtain ⟨u, ru, lk⟩ := hl f v l
    exact HandSPX.exc_get I1.kIn J C'.hg C'.hk C'.hs (PySem.W.findObj_own C'.hd n rfl lk) (handed_of ru) ⟨v, H1, I1.tok _, ru, q⟩
theorem loc_fld (F : ClF X.K) {f : String} : LocR X W (r1 (rFld X.K (Str.ofString f))) (kFld f) := by
  intro c S H σ E ps ds vs Q hk t pk q
  unfold kFld at q
  split at q
  · rename_i n fs
    obtain ⟨v, rfl, h1⟩ := pks1 pk
    split at q
    · rename_i hc
      rw [Bool.and_eq_true] at hc
      obtain ⟨d, e, q⟩ := imM1_ok q
      obtain ⟨a, dx, xs, rfl, g1, g2, g3⟩ := h1
      obtain ⟨v, e2, rv⟩ := RepFs.look g3 e
      exact .inl ⟨a, _, dx, xs, v, rfl, g1, (F.ic n hc.1).1, F.na n f hc.2, e2, post_im q t rv⟩
    · exact q.elim
  · rename_i n fs
    obtain ⟨v, rfl, h1⟩ := pks1 pk
    split at q
    · rename_i hc
      rw [Bool.and_eq_true] at hc
      obtain ⟨d, e, q⟩ := imM1_ok q
      obtain ⟨a, dx, xs, rfl, g1, g2, g3⟩ := h1
      obtain ⟨v, e2, rv⟩ := RepFs.look g3 e
      exact .inr ⟨a, _, dx, xs, v, rfl, t.bs.sub _ _ g1, t.bs.sub _ _ g2, F.ix n hc.1, F.nx n f hc.2, e2, post_im q t rv⟩
    · exact q.elim
  · exact q.elim
theorem de_fld {f : Str} {f' : String} (F : ClF X.K) (ha : DO X W a oa) (hf : f = Str.ofString f' := by rfl) (hb : attributeBase a f X.env (eval a X.env) = eval a X.env := by rfl) : DE X W (.Attribute a f pos) (ops [oa] (kFld f')) := by
  subst hf
  exact de_op1 (loc_fld F) (pe_att ha hb)
/-! ### self.f = e -/
def putD (f : Str) (v : D) : List (Str × D) → List (Str × D)
  | [] => [(f, v)]
  | (g, x) :: r => if g = f then (g, v) :: r else (g, x) :: putD f v r
theorem RepFs.put {K : PySem.W.Frag} {p : Addr} {f : Str} {d : D} {v : V} (h : Rep K p S d v) : ∀ {fs : List (Str × D)} {xs : List (Str × V)}, RepFs K p S fs xs → RepFs K p S (putD f d fs) (putF f v xs)
  | [], xs, e => by rw [show xs = [] from e]; exact ⟨v, [], rfl, h, rfl⟩
  | (g, d') :: fs, xs, ⟨w, r, h1, h2, h3⟩ => by
    subst h1
    show RepFs K p S (if g = f then (g, d) :: fs else (g, d') :: putD f d fs) (if g = f then (g, v) :: r else (g, w) :: putF f v r)
    by_cases z : g = f
    · rw [if_pos z, if_pos z]; exact ⟨v, r, rfl, h, h3⟩
    · rw [if_neg z, if_neg z]; exact ⟨w, _, rfl, h2, RepFs.put h h3⟩
theorem RepFs.length {K : PySem.W.Frag} {p : Addr} : ∀ {fs : List (Str × D)} {xs : List (Str × V)}, RepFs K p S fs xs → xs.length = fs.length
  | [], xs, e => by rw [show xs = [] from e]; rfl
  | (g, d') :: fs, xs, ⟨w, r, h1, h2, h3⟩ => by subst h1; rw [List.length_cons, List.length_cons, RepFs.length h3]
def modF (k : Nat) (f : String) (d : D) : M Fl := fun E ps => match E[k]? with
  | some (.oi n fs) => if isIns n && fldOk n f && decide (fs.length < 1000) then .ok .next (E.set k (.oi n (putD (Str.ofString f) d fs))) ps else .bad
  | _ => .bad
def setfM (k : Nat) (f : String) (g : M D) : M Fl := M.bnd g fun d => modF k f d
theorem ds_setf {x : Str} {p1 p2 : Pos} {f : Str} {f' : String} {k : Nat} {g : M D} (F : ClF X.K) (hx : PE X (.Name x p1) (tVar k)) (he : DV X W e g) (hf : f = Str.ofString f' := by rfl)
    (hs : swapsWith e (some (.Attribute (.Name x p1) f p2)) pos.line X.env = pure false := by rfl) : DS X W (.Assign [.Attribute (.Name x p1) f p2] e pos) (setfM k f' g) := by
  subst hf
  refine ps_imp (ps_fld hx he hs) fun De σ H q => ?_
  obtain ⟨c, S, E, ps, hk, t, q⟩ := q
  refine ⟨c, S, E, ps, hk, t, PostS.bnd q fun d E1 ps1 v S1 H1 sm1 t1 rv p => ?_⟩
  unfold modF at p
  cases e1 : E1[k]? with
  | none => rw [e1] at p; exact p.elim
  | some s =>
    rw [e1] at p
    cases s with
    | oi n fs =>
      simp only at p
      split at p
      · rename_i hc
        rw [Bool.and_eq_true, Bool.and_eq_true] at hc
        obtain ⟨v0, ev, ok⟩ := t1.slots k _ e1 (fun z => by cases z)
        obtain ⟨a, dx, xs, h1, h2, h3, h4, h5, h6, h7, h8⟩ := id ok
        obtain ⟨h1, hme⟩ := h1
        subst h1
        have hlen : xs.length < 1000 := by rw [RepFs.length h8]; exact of_decide_eq_true hc.2
        refine ⟨.ref a, ev, a, _, dx, xs, rfl, h4, (F.ic n hc.1.1).1, F.na n f' hc.1.2, hlen, ?_⟩
        have nd : dx ≠ a := ne_pln h4 h7 (pln_ins.2.2 a)
        have t2 := t1.write (o := .ins (LawT.C n) dx (putF (Str.ofString f') v xs)) e1 rfl ev (s' := .oi n (putD (Str.ofString f') d fs)) ⟨a, dx, _, ⟨rfl, hme⟩, h2, h3, upd_same, h5, h6, by rw [upd_ne nd]; exact h7, RepFs.put rv h8⟩
        exact p σ S1 _ (Same.refl _) t2
      · exact p.elim
    | un => exact p.elim
    | im _ => exact p.elim
    | ol _ => exact p.elim
    | od _ => exact p.elim
end
end Dl
/-! max of a list or a tuple of ints, with and without a default -/
namespace Dh
open PySem PySem.Spec PyProof.Rows L2
theorem wks (k : Kd) {prog : Program} {w : World} {A : Around} (hh : A.handled = none) (it a : Addr) (hne : a ≠ it) (items : Array Value) :
    Walks prog w A it [it, a] [it] items.size (fun i v => items[i]? = some v) (fun i h => isIt k h it a i ∧ isSq k h a items) := by
  cases k with
  | l => exact Walks.list hh it a hne items
  | t => exact Walks.tuple hh it a hne items
section
variable {prog : Program} {w : World} {A : Around} {R : Result → Shared → Prop} {I : Addr} {fp wr : List Addr} {n : Nat} {P : Nat → Value → Prop} {St : Nat → Heap → Prop}
def lstO (xs : Array Value) (c : Nat) : Obj := { cls := .type "list", dict := none, data := .seq xs c, slots := #[] }
theorem nmL : (toString "max" ++ toString ".loop" : String) = "max.loop" := by decide
/-- the loop, with a best one; the keywords are carried as they are -/
theorem mx_loop (W : Walks prog w A.in1 I fp wr n P St) (bt : Nat → Nat → Bool) (hcmp : CmpOf prog w A.in1 .Gt P bt) (S : Addr) (hSf : S ∉ fp) (kw : List (Str × Value)) : ∀ (m j : Nat) (s : Shared) (vb : Value) (c : Nat), n - (j + 1) = m → j + 1 ≤ n → St (j + 1) s.heap → P (argBest bt j) vb → s.heap.get? S = some (lstO #[vb, vb] c) →
    (∀ v h' tk, P (argBest bt (n - 1)) v → (∀ b o, b ∉ wr → b ≠ S → s.heap.get? b = some o → h'.get? b = some o) → R (.ok (.ret v)) { s with heap := h', toks := tk }) → codeAny (model prog w) A (.builtin "max.loop" ⟨[.ref I, .none, .ref S], kw⟩) R s
  | 0, j, s, vb, c, hm, hj, hst, hP, hS, hR => by
    have e : j + 1 = n := by omega
    have hw : S ∉ wr := fun h => hSf (W.sub _ h)
    refine codeAny_builtin F.entry_max_loop ?_
    rw [Around.under_plainId F.plain_max_loop _]
    show wpAny _ _ (seqItems? _ >>= _) _ _ s
    refine wpAny_bind (wpAny_seqItems hS rfl ?_)
    show wpAny _ _ (tryCatch (pyNext _) _ >>= _) _ _ s
    refine wpAny_bind (wpAny_tryCatch (W.done s _ _ (e ▸ hst) fun h' tk k => ?_))
    show wpAny _ _ (updateSeq S _ >>= _) _ _ _
    refine wpAny_bind (wpAny_updateSeq (k S _ hw hS) rfl (wpAny_bind (wpAny_letGo (wpAny_pure ?_))))
    exact hR vb _ tk (e ▸ hP) fun b o b1 b2 q => (Heap.get?_update_other _ _ (Ne.symm b2)).trans (k b o b1 q)
  | m + 1, j, s, vb, c, hm, hj, hst, hP, hS, hR => by
    have e : j + 1 < n := by omega
    have hw : S ∉ wr := fun h => hSf (W.sub _ h)
    refine codeAny_builtin F.entry_max_loop ?_
    rw [Around.under_plainId F.plain_max_loop _]
    show wpAny _ _ (seqItems? _ >>= _) _ _ s
    refine wpAny_bind (wpAny_seqItems hS rfl ?_)
    show wpAny _ _ (tryCatch (pyNext _) _ >>= _) _ _ s
    refine wpAny_bind (wpAny_tryCatch (W.item (j + 1) s _ _ e hst fun v h' tk q1 q2 k => ?_))
    have hS2 := k S _ hw hS
    show wpAny _ _ (tryCatch (holding [v, v] (richCompare .Gt v vb >>= _)) _ >>= _) _ _ _
    refine wpAny_bind (wpAny_tryCatch (wpAny_holding (wpAny_bind (hcmp (j + 1) (argBest bt j) v vb _ _ _ q1 hP (wpAny_bind (wpAny_holding (wpAny_truthy_bool (wpAny_bind (wpAny_letGo (wpAny_pure ?_))))))))))
    cases hb : bt (j + 1) (argBest bt j) with
    | true =>
      rw [if_pos rfl]
      refine wpAny_bind (wpAny_updateSeq hS2 rfl (wpAny_bind (wpAny_letGo ?_)))
      rw [nmL]
      refine wpAny_pure ⟨plainId_quiet F.plain_max_loop _, mx_loop W bt hcmp S hSf kw m (j + 1) _ v _ (by omega) e (W.frame _ _ _ q2 fun b hb2 o y => (Heap.get?_update_other _ _ (fun z : S = b => hSf (by rw [z]; exact hb2))).trans y) (by unfold argBest; rw [hb, if_pos rfl]; exact q1) (Heap.get?_update_self _ hS2 rfl) fun v2 h2 tk2 y1 y2 => ?_⟩
      exact hR v2 h2 tk2 y1 fun b o b1 b2 q => y2 b o b1 b2 ((Heap.get?_update_other _ _ (Ne.symm b2)).trans (k b o b1 q))
    | false =>
      rw [if_neg Bool.false_ne_true]
      refine wpAny_bind (wpAny_letGo ?_)
      rw [nmL]
      refine wpAny_pure ⟨plainId_quiet F.plain_max_loop _, mx_loop W bt hcmp S hSf kw m (j + 1) _ vb c (by omega) e q2 (by unfold argBest; rw [hb, if_neg Bool.false_ne_true]; exact hP) hS2 fun v2 h2 tk2 y1 y2 => ?_⟩
      exact hR v2 h2 tk2 y1 fun b o b1 b2 q => y2 b o b1 b2 (k b o b1 q)
/-- from its start, over at least one item -/
theorem mx_first (W : Walks prog w A.in1 I fp wr n P St) (bt : Nat → Nat → Bool) (hcmp : CmpOf prog w A.in1 .Gt P bt) (S : Addr) (hSf : S ∉ fp) (kw : List (Str × Value)) (hn : 0 < n) {s : Shared} {c : Nat} (hst : St 0 s.heap) (hS : s.heap.get? S = some (lstO #[] c))
    (hR : ∀ v h' tk, P (argBest bt (n - 1)) v → (∀ b o, b ∉ wr → b ≠ S → s.heap.get? b = some o → h'.get? b = some o) → R (.ok (.ret v)) { s with heap := h', toks := tk }) : codeAny (model prog w) A (.builtin "max.loop" ⟨[.ref I, .none, .ref S], kw⟩) R s := by
  have hw : S ∉ wr := fun h => hSf (W.sub _ h)
  refine codeAny_builtin F.entry_max_loop ?_
  rw [Around.under_plainId F.plain_max_loop _]
  show wpAny _ _ (seqItems? _ >>= _) _ _ s
  refine wpAny_bind (wpAny_seqItems hS rfl ?_)
  show wpAny _ _ (tryCatch (pyNext _) _ >>= _) _ _ s
  refine wpAny_bind (wpAny_tryCatch (W.item 0 s _ _ hn hst fun v h' tk q1 q2 k => ?_))
  have hS2 := k S _ hw hS
  show wpAny _ _ (updateSeq S _ >>= _) _ _ _
  refine wpAny_bind (wpAny_updateSeq hS2 rfl ?_)
  rw [nmL]
  refine wpAny_pure ⟨plainId_quiet F.plain_max_loop _, mx_loop W bt hcmp S hSf kw _ 0 _ v _ rfl hn (W.frame _ _ _ q2 fun b hb2 o y => (Heap.get?_update_other _ _ (fun z : S = b => hSf (by rw [z]; exact hb2))).trans y) q1 (Heap.get?_update_self _ hS2 rfl) fun v2 h2 tk2 y1 y2 => ?_⟩
  exact hR v2 h2 tk2 y1 fun b o b1 b2 q => y2 b o b1 b2 ((Heap.get?_update_other _ _ (Ne.symm b2)).trans (k b o b1 q))
/-- .. over none, with a default -/
theorem mx_none (W : Walks prog w A.in1 I fp wr 0 P St) (S : Addr) (hSf : S ∉ fp) (d : Value) {s : Shared} {c : Nat} (hst : St 0 s.heap) (hS : s.heap.get? S = some (lstO #[] c))
    (hR : ∀ h' tk, (∀ b o, b ∉ wr → s.heap.get? b = some o → h'.get? b = some o) → R (.ok (.ret d)) { s with heap := h', toks := tk }) : codeAny (model prog w) A (.builtin "max.loop" ⟨[.ref I, .none, .ref S], [("default", d)]⟩) R s := by
  have hw : S ∉ wr := fun h => hSf (W.sub _ h)
  refine codeAny_builtin F.entry_max_loop ?_
  rw [Around.under_plainId F.plain_max_loop _]
  show wpAny _ _ (seqItems? _ >>= _) _ _ s
  refine wpAny_bind (wpAny_seqItems hS rfl ?_)
  show wpAny _ _ (tryCatch (pyNext _) _ >>= _) _ _ s
  refine wpAny_bind (wpAny_tryCatch (W.done s _ _ hst fun h' tk k => ?_))
  refine wpAny_bind (wpAny_rule (wpAny_pure ?_))
  exact hR h' tk k
end
section
variable {prog : Program} {w : World} {A : Around} {E : Value → Shared → Prop} {s : Shared}
theorem args_mxd (a d : Value) : argsOk "max" ⟨[a], [("default", d)]⟩ := by unfold argsOk; kernel_rfl
theorem call_mxd {x d : Value} {Q : Value → Shared → Prop}
    (h : wpAny (model prog w) A.in1 (pyIter x) (fun it s₂ => ∃ I fp wr n P St bt, it = .ref I ∧ Walks prog w A.in1 I fp wr n P St ∧ St 0 s₂.heap ∧ (∀ b ∈ fp, b < s₂.heap.objs.size) ∧ CmpOf prog w A.in1 .Gt P bt ∧
      (0 < n → ∀ v h' tk, P (argBest bt (n - 1)) v → (∀ b o, b ∉ wr → s₂.heap.get? b = some o → h'.get? b = some o) → Q v { s₂ with heap := h', toks := tk }) ∧
      (n = 0 → ∀ h' tk, (∀ b o, b ∉ wr → s₂.heap.get? b = some o → h'.get? b = some o) → Q d { s₂ with heap := h', toks := tk })) E s) : wpAny (model prog w) A (call (.builtin "max") [x] [("default", d)]) Q E s := by
  refine wpAny_call (codeAny_call_builtin F.plain_max F.entry_max ?_)
  have chk : checkBuiltinCall "max" ⟨[x], [("default", d)]⟩ = pure () := by
    have ha := args_mxd x d
    simp only [checkBuiltinCall, F.kind_max]
    cases hsig : Manifest.signature? "max" with
    | none => rfl
    | some sig =>
      simp only [argsOk, hsig] at ha
      exact ha
  rw [chk]
  refine wpAny_pure ?_
  show wpAny _ A.in1 (Builtin.Builtins.bindParams "max" ["key", "default"] 0 ⟨[], [("default", d)]⟩ >>= _) _ _ s
  refine wpAny_bind (wpAny_of_eq (show Builtin.Builtins.bindParams "max" ["key", "default"] 0 ⟨[], [("default", d)]⟩ = pure [none, some d] from rfl) ?_)
  refine wpAny_bind (wpAny_pure ?_)
  refine wpAny_bind (wpAny_mono h (fun it s₂ h₂ => ?_) fun _ _ e => e)
  obtain ⟨I, fp, wr, n, P, St, bt, rfl, W, hst, hfp, hcmp, h1, h0⟩ := h₂
  refine wpAny_bind (wpAny_newObj_type ?_)
  have hSf : s₂.heap.objs.size ∉ fp := fun hm => Nat.lt_irrefl _ (hfp _ hm)
  have hst' : St 0 (s₂.heap.push (lstO #[] 0)) := W.frame _ _ _ hst fun b _ o e => Heap.get?_push_of_some _ e
  have hget : (s₂.heap.push (lstO #[] 0)).get? s₂.heap.objs.size = some (lstO #[] 0) := Heap.get?_push_size _ rfl
  rw [nmL]
  refine wpAny_pure ⟨plainId_quiet F.plain_max_loop _, ?_⟩
  by_cases hn : 0 < n
  · refine mx_first W bt hcmp s₂.heap.objs.size hSf _ hn hst' hget fun v h' tk hP hk => ?_
    exact h1 hn v h' tk hP fun b o hbw e => hk b o hbw (Nat.ne_of_lt (Heap.lt_size e)) (Heap.get?_push_of_some _ e)
  · have e0 : n = 0 := by omega
    subst e0
    refine mx_none W s₂.heap.objs.size hSf d hst' hget fun h' tk hk => ?_
    exact h0 rfl h' tk fun b o hbw e => hk b o hbw (Heap.get?_push_of_some _ e)
end
/-- the greatest of ints -/
def maxL : List Int → Int
  | [] => 0
  | [x] => x
  | x :: y :: r => if maxL (y :: r) > x then maxL (y :: r) else x
theorem maxL_mem : ∀ {ns : List Int}, ns ≠ [] → maxL ns ∈ ns
  | [], h => absurd rfl h
  | [x], _ => by simp [maxL]
  | x :: y :: r, _ => by
    have ih := maxL_mem (ns := y :: r) (by simp)
    unfold maxL
    split
    · exact List.mem_cons_of_mem _ ih
    · exact List.mem_cons_self
theorem maxL_ge : ∀ {ns : List Int} {a : Int}, a ∈ ns → a ≤ maxL ns
  | [x], a, h => by
    have e : a = x := by simpa using h
    rw [e]; exact Int.le_refl _
  | x :: y :: r, a, h => by
    unfold maxL
    rcases List.mem_cons.mp h with e | h
    · split <;> omega
    · have ih := maxL_ge (ns := y :: r) h
      split <;> omega
theorem max_eq {ns : List Int} {m : Int} (h : m ∈ ns) (g : ∀ y ∈ ns, y ≤ m) : m = maxL ns := by
  have n : ns ≠ [] := fun z => by rw [z] at h; cases h
  have h1 := g _ (maxL_mem n)
  have h2 := maxL_ge h
  omega
def rMx (K : PySem.W.Frag) : List V → Hp → VK → Prop := fun vs H Q => ∃ (k : Kd) (a : Addr) (ns : List Int), vs = [V.ref a] ∧ sqV k K H a (ns.map V.int) ∧ ns ≠ [] ∧ Q (.int (maxL ns)) H
theorem ints_at {ns : List Int} {us : List Value} (r : Vals (ns.map V.int) us) {i : Nat} {v : Value} (e : us.toArray[i]? = some v) : ∃ t, v = .int (ns.getD i 0) t := by
  have e' : us[i]? = some v := by simpa using e
  have hl := r.length
  obtain ⟨hi, _⟩ := List.getElem?_eq_some_iff.mp e'
  rw [List.length_map] at hl
  have hi2 : i < ns.length := by omega
  obtain ⟨u, e2, ru⟩ := r.get (i := i) (x := .int ns[i]) (by rw [List.getElem?_map, List.getElem?_eq_getElem hi2]; rfl)
  rw [e'] at e2; cases e2
  obtain ⟨t, rfl⟩ := ru
  exact ⟨t, by rw [List.getD_eq_getElem?_getD, List.getElem?_eq_getElem hi2]; rfl⟩
theorem best_is {ns : List Int} {us : List Value} (r : Vals (ns.map V.int) us) (hn : ns ≠ []) {v : Value} (e : us.toArray[argBest (fun i j => decide (ns.getD i 0 > ns.getD j 0)) (us.toArray.size - 1)]? = some v) : ∃ t, v = .int (maxL ns) t := by
  obtain ⟨t, rfl⟩ := ints_at r e
  have hl := r.length
  rw [List.length_map] at hl
  obtain ⟨h1, h2⟩ := argBest_gt (fun i => ns.getD i 0) (us.toArray.size - 1)
  refine ⟨t, ?_⟩
  have hp : 0 < ns.length := List.length_pos_iff.mpr hn
  have sz : us.toArray.size = ns.length := by simp; omega
  rw [sz] at h1 h2 ⊢
  have hb : argBest (fun i j => decide (ns.getD i 0 > ns.getD j 0)) (ns.length - 1) < ns.length := by omega
  congr 1
  refine max_eq ?_ fun y hy => ?_
  · rw [List.getD_eq_getElem?_getD, List.getElem?_eq_getElem hb]
    exact List.getElem_mem hb
  · obtain ⟨j, hj, rfl⟩ := List.mem_iff_getElem.mp hy
    have q := h2 j (by omega)
    rw [List.getD_eq_getElem?_getD, List.getElem?_eq_getElem hj] at q
    exact q
section
variable {X : Cx}
theorem old_of {s : Shared} {it a : Addr} {h' h2 : Heap} {o0 : Obj} (h2e : h2 = s.heap.push o0) (hit : it = s.heap.objs.size) (hk : ∀ b o, b ∉ [it] → h2.get? b = some o → h'.get? b = some o) : ∀ b o, s.heap.get? b = some o → h'.get? b = some o := fun b o e => by
  subst h2e hit
  exact hk b o (by simp; exact Nat.ne_of_lt (Heap.lt_size e)) (Heap.get?_push_of_some _ e)
theorem cr_mx (hc : X.calm = true) : CallR X (.builtin "max") (rMx X.K) := by
  intro pins s σ H vs us Q I r h
  obtain ⟨k, a, ns, rfl, hq, hn, q⟩ := h
  rw [one_ref r]
  obtain ⟨its, rv, w1⟩ := inv_sq I hq
  have la := sq_lt w1
  have hh : X.A.in1.handled = none := I.ok.hd hc
  have hp : 0 < its.toArray.size := by
    have := rv.length
    rw [List.length_map] at this
    have := List.length_pos_iff.mpr hn
    simp; omega
  refine call_max_walk (iter_sq w1 ⟨_, _, _, _, _, _, _, rfl, wks k hh s.heap.objs.size a (Nat.ne_of_lt la) its.toArray, ⟨⟨newIt k a, Heap.get?_push_size _ rfl, rfl, rfl⟩, sq_push _ w1⟩, fun b hb => ?_, hp, CmpOf.ints_gt (fun i => ns.getD i 0) (fun i v e => ints_at rv e), fun v h' tk e hk => ?_⟩)
  · show b < (s.heap.push _).objs.size
    rw [Heap.size_push]
    rcases mem2 hb with rfl | rfl
    · exact Nat.lt_succ_self _
    · exact Nat.lt_succ_of_lt la
  · obtain ⟨t, rfl⟩ := best_is rv hn e
    exact ⟨.int _, H, I.kept (t' := tk) (old_of (a := a) rfl rfl hk), ⟨_, rfl⟩, q⟩
def rMxD (K : PySem.W.Frag) : List V → List V → Hp → VK → Prop := fun vs zs H Q => ∃ (k : Kd) (a : Addr) (ns : List Int) (d : Int), vs = [V.ref a] ∧ zs = [.int d] ∧ sqV k K H a (ns.map V.int) ∧ Q (.int (if ns = [] then d else maxL ns)) H
theorem cr_mxd (hc : X.calm = true) : CallRK X (.builtin "max") ["default"] (rMxD X.K) := by
  intro pins s σ H vs zs us ws Q I r rz h
  obtain ⟨k, a, ns, d, rfl, rfl, hq, q⟩ := h
  rw [one_ref r]
  obtain ⟨t, rfl⟩ : ∃ t, ws = [.int d t] := by
    cases rz with
    | cons r1 t1 =>
      cases t1
      obtain ⟨t, e⟩ := r1
      exact ⟨t, by rw [e]⟩
  obtain ⟨its, rv, w1⟩ := inv_sq I hq
  have la := sq_lt w1
  have hh : X.A.in1.handled = none := I.ok.hd hc
  have hl := rv.length
  rw [List.length_map] at hl
  refine call_mxd (iter_sq w1 ⟨_, _, _, _, _, _, _, rfl, wks k hh s.heap.objs.size a (Nat.ne_of_lt la) its.toArray, ⟨⟨newIt k a, Heap.get?_push_size _ rfl, rfl, rfl⟩, sq_push _ w1⟩, fun b hb => ?_, CmpOf.ints_gt (fun i => ns.getD i 0) (fun i v e => ints_at rv e), fun hp v h' tk e hk => ?_, fun h0 h' tk hk => ?_⟩)
  · show b < (s.heap.push _).objs.size
    rw [Heap.size_push]
    rcases mem2 hb with rfl | rfl
    · exact Nat.lt_succ_self _
    · exact Nat.lt_succ_of_lt la
  · have hn : ns ≠ [] := fun z => by
      subst z
      have z2 : its.length = 0 := hl.symm
      have : its.toArray.size = 0 := by rw [List.size_toArray]; exact z2
      omega
    obtain ⟨t2, rfl⟩ := best_is rv hn e
    rw [if_neg hn] at q
    exact ⟨.int _, H, I.kept (t' := tk) (old_of (a := a) rfl rfl hk), ⟨_, rfl⟩, q⟩
  · have hn : ns = [] := by
      have : its.length = 0 := by simpa using h0
      exact List.eq_nil_of_length_eq_zero (by omega)
    rw [if_pos hn] at q
    exact ⟨.int _, H, I.kept (t' := tk) (old_of (a := a) rfl rfl hk), ⟨_, rfl⟩, q⟩
end
end Dh
/-! d.setdefault(key, value), the keys ints and texts, or tuples of them -/
namespace Dh
open PySem PySem.Spec PyProof.Rows L2
section
variable {prog : Program} {w : World} {K : Type} [DecidableEq K] {knd : HeapKind prog w K} {A : Around} {E : Value → Shared → Prop} {s : Shared}
theorem setd_heap {d a : Addr} {xs : List (K × Addr × Value)} {k : K} {v : Value} {Q : Value → Shared → Prop} (hu : knd.room A) (hkey : knd.is s.heap k a) (hm : s.heap.DictOfH knd d xs)
    (h1 : ∀ p, atKey xs k = some p → Q p.2 { s with toks := s.toks + knd.draws k })
    (h2 : atKey xs k = none → ∀ h', h'.DictOfH knd d (storedH xs k a v) → Heap.SameBut d s.heap h' → Q v { s with heap := h', toks := s.toks + knd.draws k })
    (hsz : xs.length ≤ sizeLine) : wpAny (model prog w) A (dictSetDefault d (.ref a) v) Q E s := by
  obtain ⟨o, es, ep, ho, hc, hd, he, his, hn⟩ := hm
  have hes : es.size ≤ sizeLine := by rw [size_of_entries he]; exact hsz
  unfold dictSetDefault
  try with_reducible refine wpAny_holding ?_
  refine wpAny_bind (knd.pyHash hu hkey (wpAny_bind (wpAny_dictFind_heap (s := { s with toks := s.toks + knd.draws k }) hu hkey ho hd he his hn (fun hno => ?_) fun j p hj => ?_)))
  · have hnone := atKey_none_of_get hno
    have hnot : k ∉ xs.map (·.1) := not_mem_keys_of_get hno
    refine wpAny_bind (wpAny_rule (wpAny_bind (wpAny_updateDictKeys (hz := hes) (s := { s with toks := s.toks + knd.draws k }) ho hd (wpAny_pure (h2 hnone _ ⟨_, _, ep + 1, Heap.get?_update_self _ ho (Obj.isFreed_of_dict (Obj.data_mapDictKeys hd _)), hc.mapDictKeys _, Obj.data_mapDictKeys hd _, ?_, ?_, ?_⟩ (Heap.SameBut.update ..))))))
    · rw [storedH_new hnone]
      simp [he, entryOfKey]
    · rw [storedH_new hnone]
      intro x hx
      rcases List.mem_append.mp hx with hx | hx
      · exact knd.keeps (his x hx) ho hd (Heap.SameBut.update ..)
      · have ex : x = (k, a, v) := by simpa using hx
        rw [ex]
        exact knd.keeps hkey ho hd (Heap.SameBut.update ..)
    · rw [storedH_new hnone, List.map_append, List.nodup_append]
      refine ⟨hn, by simp, fun x hx y hy => ?_⟩
      have ey : y = k := by simpa using hy
      rw [ey]
      exact fun e => hnot (e ▸ hx)
  · have hat := atKey_of_get hn hj
    refine wpAny_bind (wpAny_dictEntries (s := { s with toks := s.toks + knd.draws k }) ho hd ?_)
    rw [entry_at he j, hj]
    exact wpAny_bind (wpAny_rule (wpAny_pure (h1 p hat)))
theorem meets_setdH (knd : HeapKind prog w K) {k : K} (d a : Addr) (hd : (d == sysModules) = false) (v : Value) :
    MeetsIn prog w (Builtin.«dict.setdefault» ⟨[.ref d, .ref a, v], []⟩) (fun A R s => knd.room A.in1 ∧ ∃ xs, knd.is s.heap k a ∧ s.heap.DictOfH knd d xs ∧ xs.length ≤ sizeLine ∧
      (∀ p, atKey xs k = some p → R (.ok (.ret p.2)) { s with toks := s.toks + knd.draws k }) ∧
      (atKey xs k = none → ∀ h', h'.DictOfH knd d (storedH xs k a v) → Heap.SameBut d s.heap h' → R (.ok (.ret v)) { s with heap := h', toks := s.toks + knd.draws k })) :=
  .of_wp fun A R s ⟨hu, xs, hkey, hm, hz, h1, h2⟩ => by
    unfold Builtin.«dict.setdefault»
    refine wpAny_bind ?_
    unfold Builtin.Dict.keyAndDefault
    refine wpAny_bind (wpAny_notOrdered_dict hm.typeIs ?_)
    show wpAny _ _ (pure (d, Value.ref a, some v)) _ _ s
    refine wpAny_pure ?_
    show wpAny _ _ (if (d == sysModules) = true then _ else (dictSetDefault d (.ref a) v >>= _)) _ _ s
    rw [if_neg (by rw [hd]; exact Bool.false_ne_true)]
    exact wpAny_bind (setd_heap hu hkey hm (fun p hp => wpAny_pure ⟨p.2, rfl, h1 p hp⟩) (fun hn h' hm' hs' => wpAny_pure ⟨v, rfl, h2 hn h' hm' hs'⟩) hz)
end
section
variable {X : Cx} {pins : List (Addr × Obj)} {σ : L2.St} {H : Hp} {s : Shared}
/-- an empty dict's keys may be of either kind -/
theorem empty_T {a : Addr} (I : Inv X pins σ H s) (e : H a = some (.dK [])) : Inv X pins σ (upd H a (.dT [])) s := by
  obtain ⟨hz, hd, vs, rel, o, es, ep, ho, hc, hdt, hk, hp, hn⟩ := dk_of I.hok e
  cases rel
  have hes : es.toList = [] := by
    have q := hp.length
    exact List.eq_nil_of_length_eq_zero q
  have new : ObjOk X.prog X.w (upd H a (.dT [])) s.heap a (.dT []) := ⟨Nat.zero_le _, hd, [], .nil, o, es, ep, ho, hc, hdt, hes, List.nodup_nil⟩
  exact I.write (t' := s.toks) (e := a) (by rw [e]; trivial) (.inl rfl) (fun b u _ q => q) ⟨_, ho⟩ new
theorem empty_K {a : Addr} (I : Inv X pins σ H s) (e : H a = some (.dT [])) : Inv X pins σ (upd H a (.dK [])) s := by
  obtain ⟨hz, hd, vs, rel, o, es, ep, ho, hc, hdt, hk, hp, hn⟩ := dt_of I.hok e
  have hv : vs = [] := by
    have q := Paired.length rel
    exact List.eq_nil_of_length_eq_zero q.symm
  subst hv
  have hes : es.toList = [] := hk
  have new : ObjOk X.prog X.w (upd H a (.dK [])) s.heap a (.dK []) := by
    refine ⟨Nat.zero_le _, hd, [], .nil, o, es, ep, ho, hc, hdt, ?_, ?_, List.nodup_nil⟩
    · rw [show es = #[] from Array.toList_eq_nil_iff.mp hes]; intro e he; simp at he
    · rw [hes]; exact .nil
  exact I.write (t' := s.toks) (e := a) (by rw [e]; trivial) (.inl rfl) (fun b u _ q => q) ⟨_, ho⟩ new
theorem d_setdT {a b : Addr} {kvs : List (List Key × V)} {k : List Key} {d : V} {r : Value} {A : Around} {E Q : Value → Shared → Prop} (hu : A.units + 1 < cLine) (I : Inv X pins σ H s) (e : H a = some (.dT kvs)) (eb : H b = some (.tup (k.map kV))) (rd : RelV d r) (hz : kvs.length < sizeLine)
    (h1 : ∀ v, valV kvs k = some v → ∀ w' s', Inv X pins σ H s' → RelV v w' → Q w' s') (h2 : valV kvs k = none → ∀ s', Inv X pins σ (upd H a (.dT (putK kvs k d))) s' → Q r s') : wpAny (model X.prog X.w) A (call (.builtin "dict.setdefault") [.ref a, .ref b, r]) Q E s := by
  obtain ⟨z, hd, xs, rel, dd⟩ := dt_of I.hok e
  have hzx : xs.length ≤ sizeLine := by rw [← Paired.length rel]; exact z
  refine call_meetsIn PySem.F.slot_dict_setdefault dd.typeIs PySem.F.entry_dict_setdefault (PySem.F.args_dict_setdefault_3 _ _ _) (meets_setdH (tupleKind (mixKind X.prog X.w)) (k := k) a b hd r) ⟨tupleKind_room_in1 hu, xs, key_of I.hok eb, dd, hzx, fun p hp => ?_, fun hn h' dd' hs => ?_⟩
  · have q := rel.val k
    rw [hp] at q
    cases q0 : valV kvs k with
    | none => rw [q0] at q; exact (show False from q).elim
    | some v0 => rw [q0] at q; exact h1 v0 q0 _ _ (I.tok _) q
  · have q := rel.val k
    rw [hn] at q
    cases q0 : valV kvs k with
    | some v0 => rw [q0] at q; exact (show False from q).elim
    | none =>
      have hl : (putK kvs k d).length ≤ sizeLine := by have := length_putK kvs k d; omega
      obtain ⟨q, es, ep, hq, y2, y3, y4, _, y5⟩ := dd'
      have new : ObjOk X.prog X.w (upd H a (.dT (putK kvs k d))) h' a (.dT (putK kvs k d)) := by
        refine ⟨hl, hd, _, (rel.put k eb rd).keeps fun c ys ec => ?_, q, es, ep, hq, y2, y3, y4, y5⟩
        rw [upd_ne (ne_of ec e (fun z => nomatch z))]
        exact ec
      exact h2 q0 _ (d_write (t' := s.toks + _) I (by rw [e]; exact True.intro) hs ⟨q, hq⟩ new)
end
/-- d.setdefault(y, z), any of both -/
def rSetd (x y z : V) (H : Hp) (Q : VK) : Prop := ∃ a, x = .ref a ∧
  ((∃ kvs k, (H a = some (.dK kvs) ∨ (kvs = [] ∧ H a = some (.dT []))) ∧ y = kV k ∧ kvs.length < sizeLine ∧ (∀ v, valV kvs k = some v → Q v H) ∧ (valV kvs k = none → Q z (upd H a (.dK (putK kvs k z))))) ∨
  (∃ kvs k b, (H a = some (.dT kvs) ∨ (kvs = [] ∧ H a = some (.dK []))) ∧ y = .ref b ∧ H b = some (.tup (k.map kV)) ∧ kvs.length < sizeLine ∧ (∀ v, valV kvs k = some v → Q v H) ∧ (valV kvs k = none → Q z (upd H a (.dT (putK kvs k z))))))
def tSetd (td ty tx : TE) : TE := fun σ H Q => td σ H fun x H1 => (∃ a, x = .ref a ∧ IsD H1 a) ∧ ty σ H1 fun y H2 => tx σ H2 fun z H3 => rSetd x y z H3 Q
theorem pe_setd {X : Cx} {o e f : Expr} {td ty tx : TE} {apos cpos : Pos} (hu : X.A.units + 1 < cLine) (ho : PE X o td) (he : PE X e ty) (hf : PE X f tx) (m : M2 X o "setdefault" apos e f cpos) : PE X (.Call (.Attribute o "setdefault" apos) [e, f] [] cpos) (tSetd td ty tx) := by
  refine ⟨fun pins s σ H Q I h => ?_⟩
  refine wpAny_Call_method m.base m.few m.line PySem.F.plainAttrs_dict PySem.F.slot_dict_setdefault PySem.F.type_dict_setdefault (thn (ho.run pins s σ H _ I h) fun u s1 ⟨x, H1, I1, rx, ⟨a, ex, d⟩, q1⟩ => ?_)
  subst ex
  obtain rfl : u = Value.ref a := rx
  obtain ⟨t1, t2, _⟩ := isD_at I1 d
  refine ⟨t1, t2, ?_⟩
  rw [m.trees]
  refine Calls.callWith_builtin rfl (Calls.evalArgs_plain (Calls.spliced_cons (thn (he.run pins s1 σ H1 _ I1 q1) fun iv s2 ⟨y, H2, I2, ry, q2⟩ => Calls.spliced_cons (thn (hf.run pins s2 σ H2 _ I2 q2) fun fv s3 ⟨z, H3, I3, rz, a2, ea2, q3⟩ => Calls.spliced_nil ?_))))
  cases ea2
  rcases q3 with ⟨kvs, k, ea, ey, hl, q3, q4⟩ | ⟨kvs, k, b, ea, ey, eb, hl, q3, q4⟩
  · subst ey
    rcases ea with ea | ⟨rfl, ea⟩
    · exact d_setd I3 ea ry rz hl (fun v hv w' s4 I4 rw' => ⟨v, _, I4, rw', q3 v hv⟩) fun hn w' s4 I4 rw' => ⟨z, _, I4, rw', q4 hn⟩
    · have I4 := empty_K I3 ea
      refine d_setd I4 upd_same ry rz hl (fun v hv => nomatch hv) fun hn w' s5 I5 rw' => ?_
      rw [upd_upd] at I5
      exact ⟨z, _, I5, rw', q4 hn⟩
  · subst ey
    obtain rfl : iv = Value.ref b := ry
    rcases ea with ea | ⟨rfl, ea⟩
    · exact d_setdT hu I3 ea eb rz hl (fun v hv w' s4 I4 rw' => ⟨v, _, I4, rw', q3 v hv⟩) fun hn s4 I4 => ⟨z, _, I4, rz, q4 hn⟩
    · have nb : b ≠ a := ne_of eb ea (fun z => nomatch z)
      have I4 := empty_T I3 ea
      refine d_setdT hu I4 upd_same (by rw [upd_ne nb]; exact eb) rz hl (fun v hv => nomatch hv) fun hn s4 I5 => ?_
      rw [upd_upd] at I5
      exact ⟨z, _, I5, rz, q4 hn⟩
end Dh
namespace Dl
open PySem PySem.Spec PyProof.Rows L2 Dh
variable [LawT]
/-! ### dicts -/
abbrev KD := Sum Key (List Key)
def kD (a : D) : Option KD := match keyD a with
  | some k => some (.inl k)
  | none => (tupKey a).map .inr
def dAt : List (D × D) → KD → Option D
  | [], _ => none
  | (a, v) :: r, k => if kD a = some k then some v else dAt r k
def okKey (k : KD) (a : D) : Bool := match kD a, k with
  | some (.inl _), .inl _ => true
  | some (.inr _), .inr _ => true
  | _, _ => false
section
variable {K : PySem.W.Frag} {p : Addr} {S : Hp}
theorem kD_inl {a : D} {k : Key} (h : Rep K p S a (kV k)) : kD a = some (.inl k) := by
  cases k with
  | inl i => cases a <;> first | (cases h; rfl) | (obtain ⟨_, _, z, _⟩ := h; cases z; done) | (obtain ⟨_, _, _, z, _⟩ := h; cases z; done) | cases h
  | inr x => cases a <;> first | (cases h; rfl) | (obtain ⟨_, _, z, _⟩ := h; cases z; done) | (obtain ⟨_, _, _, z, _⟩ := h; cases z; done) | cases h
theorem kD_inr {a : D} {ks : List Key} (h : tupKey a = some ks) : kD a = some (.inr ks) := by
  cases a <;> first | cases h | skip
  unfold kD
  show (tupKey _).map _ = _
  rw [h]; rfl
theorem kD_of {a : D} {k : KD} (h : kD a = some k) : (∃ x, k = .inl x ∧ keyD a = some x) ∨ ∃ ks, k = .inr ks ∧ tupKey a = some ks := by
  unfold kD at h
  cases e : keyD a with
  | some x => rw [e] at h; cases h; exact .inl ⟨x, rfl, rfl⟩
  | none =>
    rw [e] at h
    cases e2 : tupKey a with
    | none => rw [e2] at h; cases h
    | some ks => rw [e2] at h; cases h; exact .inr ⟨ks, rfl, rfl⟩
theorem keyD_v {a : D} {k : Key} {v : V} (h : keyD a = some k) (r : Rep K p S a v) : v = kV k := by
  cases a <;> first | (cases h; exact r) | cases h
theorem keysD_v : ∀ {ds : List D} {ks : List Key} {vs : List V}, keysD ds = some ks → Reps K p S ds vs → vs = ks.map kV
  | [], _, _, h, r => by cases h; exact r
  | d :: ds, _, _, h, ⟨v, t, h1, h2, h3⟩ => by
    unfold keysD at h
    cases e : keyD d with
    | none => rw [e] at h; cases h
    | some k =>
      cases e2 : keysD ds with
      | none => rw [e, e2] at h; cases h
      | some ks =>
        rw [e, e2] at h; cases h
        subst h1
        rw [keyD_v e h2, keysD_v e2 h3]; rfl
theorem tupKey_v {a : D} {ks : List Key} {v : V} (h : tupKey a = some ks) (r : Rep K p S a v) : ∃ b, v = .ref b ∧ S b = some (.tup (ks.map kV)) := by
  cases a <;> first | cases h | skip
  obtain ⟨b, xs, e1, e2, e3⟩ := r
  exact ⟨b, e1, by rw [← keysD_v h e3]; exact e2⟩
theorem RepKs.at {k : Key} : ∀ {ds : List (D × D)} {xs : List (Key × V)}, RepKs K p S ds xs → (∀ d, dAt ds (.inl k) = some d → ∃ v, valV xs k = some v ∧ Rep K p S d v) ∧ (dAt ds (.inl k) = none → valV xs k = none)
  | [], _, h => by rw [show _ = [] from h]; exact ⟨fun d e => (by cases e), fun _ => rfl⟩
  | (a, d) :: ds, _, ⟨j, v, r, h1, h2, h3, h4⟩ => by
    subst h1
    have e := kD_inl h2
    unfold dAt
    by_cases z : j = k
    · subst z
      rw [if_pos e]
      exact ⟨fun d' e' => (by cases e'; exact ⟨v, valV_pos rfl, h3⟩), fun e' => (by cases e')⟩
    · have n : kD a ≠ some (.inl k) := fun q => by rw [e] at q; cases q; exact z rfl
      rw [if_neg n, valV_neg z]
      exact RepKs.at h4
theorem RepTs.at {k : List Key} : ∀ {ds : List (D × D)} {xs : List (List Key × V)}, RepTs K p S ds xs → (∀ d, dAt ds (.inr k) = some d → ∃ v, valV xs k = some v ∧ Rep K p S d v) ∧ (dAt ds (.inr k) = none → valV xs k = none)
  | [], _, h => by rw [show _ = [] from h]; exact ⟨fun d e => (by cases e), fun _ => rfl⟩
  | (a, d) :: ds, _, ⟨j, v, r, h1, h2, h3, h4⟩ => by
    subst h1
    have e := kD_inr h2
    unfold dAt
    by_cases z : j = k
    · subst z
      rw [if_pos e]
      exact ⟨fun d' e' => (by cases e'; exact ⟨v, valV_pos rfl, h3⟩), fun e' => (by cases e')⟩
    · have n : kD a ≠ some (.inr k) := fun q => by rw [e] at q; cases q; exact z rfl
      rw [if_neg n, valV_neg z]
      exact RepTs.at h4
theorem RepKs.snoc {a d : D} {k : Key} {v : V} (ha : Rep K p S a (kV k)) (hd : Rep K p S d v) : ∀ {ds : List (D × D)} {xs : List (Key × V)}, RepKs K p S ds xs → RepKs K p S (ds ++ [(a, d)]) (xs ++ [(k, v)])
  | [], _, h => by rw [show _ = [] from h]; exact ⟨k, v, [], rfl, ha, hd, rfl⟩
  | (_, _) :: ds, _, ⟨j, w, r, h1, h2, h3, h4⟩ => by subst h1; exact ⟨j, w, _, rfl, h2, h3, RepKs.snoc ha hd h4⟩
theorem RepTs.snoc {a d : D} {k : List Key} {v : V} (ha : tupKey a = some k) (hd : Rep K p S d v) : ∀ {ds : List (D × D)} {xs : List (List Key × V)}, RepTs K p S ds xs → RepTs K p S (ds ++ [(a, d)]) (xs ++ [(k, v)])
  | [], _, h => by rw [show _ = [] from h]; exact ⟨k, v, [], rfl, ha, hd, rfl⟩
  | (_, _) :: ds, _, ⟨j, w, r, h1, h2, h3, h4⟩ => by subst h1; exact ⟨j, w, _, rfl, h2, h3, RepTs.snoc ha hd h4⟩
/-- the dict is of the key's kind, or empty -/
theorem DicO.toK {ds : List (D × D)} {u : HO} {k : Key} (h : DicO K p S ds u) (o : ds.all (fun q => okKey (.inl k) q.1) = true) : ∃ xs, RepKs K p S ds xs ∧ (u = .dK xs ∨ xs = [] ∧ ds = [] ∧ u = .dT []) := by
  rcases h with ⟨xs, e, r⟩ | ⟨xs, e, r⟩
  · exact ⟨xs, r, .inl e⟩
  · cases ds with
    | nil => exact ⟨[], rfl, .inr ⟨rfl, rfl, by rw [e, show xs = [] from r]⟩⟩
    | cons q ds =>
      obtain ⟨j, v, t, h1, h2, h3, h4⟩ := r
      rw [List.all_cons, Bool.and_eq_true] at o
      have o1 := o.1
      unfold okKey at o1
      rw [kD_inr h2] at o1
      cases o1
theorem DicO.toT {ds : List (D × D)} {u : HO} {k : List Key} (h : DicO K p S ds u) (o : ds.all (fun q => okKey (.inr k) q.1) = true) : ∃ xs, RepTs K p S ds xs ∧ (u = .dT xs ∨ xs = [] ∧ ds = [] ∧ u = .dK []) := by
  rcases h with ⟨xs, e, r⟩ | ⟨xs, e, r⟩
  · cases ds with
    | nil => exact ⟨[], rfl, .inr ⟨rfl, rfl, by rw [e, show xs = [] from r]⟩⟩
    | cons q ds =>
      obtain ⟨j, v, t, h1, h2, h3, h4⟩ := r
      rw [List.all_cons, Bool.and_eq_true] at o
      have o1 := o.1
      unfold okKey at o1
      rw [kD_inl h2] at o1
      cases o1
  · exact ⟨xs, r, .inl e⟩
end
def peekD (k : Nat) : M Unit := fun E ps => match E[k]? with
  | some (.od _) => .ok () E ps
  | _ => .bad
def modD (k : Nat) (f : List (D × D) → Option (List (D × D) × D)) : M Sl := fun E ps => match E[k]? with
  | some (.od xs) => match f xs with
    | some (ys, r) => .ok (.im r) (E.set k (.od ys)) ps
    | none => .bad
  | _ => .bad
def setdF (a z : D) (kvs : List (D × D)) : Option (List (D × D) × D) := match kD a with
  | none => none
  | some k => if kvs.all (fun q => okKey k q.1) && fits (kvs.length + 1) then match dAt kvs k with
      | some v => some (kvs, v)
      | none => some (kvs ++ [(a, z)], z)
    else none
def setdM (k : Nat) (ga gz : M D) : M Sl := M.bnd (peekD k) fun _ => M.bnd ga fun a => M.bnd gz fun z => modD k (setdF a z)
section
variable {X : Cx} {W : XK} {a b e : Expr} {oa ob : Opn} {pos : Pos} {c : Ctx} {S H : Hp} {σ : L2.St} {E : List Sl} {ps : Pn}
theorem peekD_ok {α : Type} {k : Nat} {f : Unit → M α} (E : List Sl) (ps : Pn) : (∃ xs, E[k]? = some (.od xs) ∧ M.bnd (peekD k) f E ps = f () E ps) ∨ M.bnd (peekD k) f E ps = .bad := by
  unfold M.bnd peekD
  cases e : E[k]? with
  | none => exact .inr rfl
  | some s =>
    cases s with
    | od xs => exact .inl ⟨xs, rfl, rfl⟩
    | _ => exact .inr rfl
theorem modD_ok {k : Nat} {f : List (D × D) → Option (List (D × D) × D)} {Q : VK} (t : Stt c S H σ E ps) (q : Post W RS c S σ Q (modD k f E ps)) :
    ∃ xs ys r l u, E[k]? = some (.od xs) ∧ f xs = some (ys, r) ∧ σ[k]? = some (some (.ref l)) ∧ H l = some u ∧ DicO c.K c.p S xs u ∧ ∀ u' v, DicO c.K c.p S ys u' → Rep c.K c.p S r v → Q v (upd H l u') := by
  unfold modD at q
  cases e : E[k]? with
  | none => rw [e] at q; exact q.elim
  | some s =>
    rw [e] at q
    cases s with
    | od xs =>
      cases e2 : f xs with
      | none => simp only [e2] at q; exact q.elim
      | some yr =>
        obtain ⟨ys, r⟩ := yr
        simp only [e2] at q
        obtain ⟨v0, e3, l, u, rfl, hs, h0, hl, rp⟩ := t.slots k _ e (fun z => by cases z)
        refine ⟨xs, ys, r, l, u, rfl, e2, e3, hl, rp, fun u' v rw' rr => ?_⟩
        have t2 := t.write (o := u') e rfl e3 (s' := .od ys) ⟨l, u', rfl, hs, h0, upd_same, rw'⟩
        exact q v S _ (Same.refl _) t2 (RS.im rr)
    | un => exact q.elim
    | im _ => exact q.elim
    | ol _ => exact q.elim
    | oi _ _ => exact q.elim
theorem isD_of {ds : List (D × D)} {K : PySem.W.Frag} {p : Addr} {S H : Hp} {u : HO} {l : Addr} (h : DicO K p S ds u) (e : H l = some u) : IsD H l := by
  rcases h with ⟨xs, rfl, _⟩ | ⟨xs, rfl, _⟩
  · exact .inl ⟨xs, .inl e⟩
  · exact .inr ⟨xs, .inl e⟩
theorem de_setd {x : Str} {p apos cpos : Pos} {k n : Nat} {ga gz : M D} (hr : Room n X.A) (hx : PE X (.Name x p) (tVar k)) (ha : DV X W a ga) (hb : DV X W b gz)
    (m : M2 X (.Name x p) "setdefault" apos a b cpos := by exact ⟨rfl, rfl, rfl, rfl⟩) : DE X W (.Call (.Attribute (.Name x p) "setdefault" apos) [a, b] [] cpos) (setdM k ga gz) :=
  pe_imp (pe_setd (by have := hr.un; omega) hx ha hb m) fun σ H Q q => by
    obtain ⟨c, S, E, ps, hk, t, q⟩ := q
    have q : Post W RS c S σ Q (M.bnd (peekD k) _ E ps) := q
    rcases peekD_ok (k := k) (f := fun _ => M.bnd ga fun a => M.bnd gz fun z => modD k (setdF a z)) E ps with ⟨xs0, e0, e1⟩ | e1
    · rw [e1] at q
      obtain ⟨v, ev, l, u, rfl, hs, h0, hl, rp⟩ := t.slots k _ e0 (fun z => by cases z)
      refine ⟨_, ev, ⟨l, rfl, isD_of rp hl⟩, c, S, E, ps, hk, t, Post.bnd q fun d E1 ps1 y S1 H1 sm1 t1 ry p => ?_⟩
      refine ⟨c, S1, E1, ps1, hk, t1, Post.bnd p fun z E2 ps2 zv S2 H2 sm2 t2 rz p => ?_⟩
      obtain ⟨xs, ys, r', l', u', h1, h2, h3, h4, h5, h6⟩ := modD_ok t2 p
      rw [ev] at h3; cases h3
      have ry := Rep.mono sm2 d ry
      unfold setdF at h2
      cases ek : kD d with
      | none => rw [ek] at h2; cases h2
      | some kk =>
        rw [ek] at h2
        simp only at h2
        split at h2
        · rename_i hf
          rw [Bool.and_eq_true] at hf
          have hz := fits_le hf.2
          rcases kD_of ek with ⟨kx, rfl, ek2⟩ | ⟨kx, rfl, ek2⟩
          · obtain ⟨vs, rk, alt⟩ := h5.toK hf.1
            have hl2 : vs.length < sizeLine := by rw [rk.length]; exact hz
            refine ⟨l, rfl, .inl ⟨vs, kx, ?_, keyD_v ek2 ry, hl2, fun v hv => ?_, fun hv => ?_⟩⟩
            · rcases alt with z | ⟨z1, z2, z3⟩
              · exact .inl (by rw [h4, z])
              · exact .inr ⟨z1, by rw [h4, z3]⟩
            · cases ed : dAt xs (.inl kx) with
              | none => rw [rk.at.2 ed] at hv; cases hv
              | some dv =>
                rw [ed] at h2; cases h2
                obtain ⟨w, ew, rw'⟩ := rk.at.1 _ ed
                rw [ew] at hv; cases hv
                have z := h6 u' _ h5 rw'
                rw [upd_id h4] at z
                exact z
            · cases ed : dAt xs (.inl kx) with
              | some dv =>
                obtain ⟨w, ew, rw'⟩ := rk.at.1 _ ed
                rw [ew] at hv; cases hv
              | none =>
                rw [ed] at h2; cases h2
                rw [putK_new _ hv]
                exact h6 _ _ (.inl ⟨_, rfl, rk.snoc (by rw [← keyD_v ek2 ry]; exact ry) rz⟩) rz
          · obtain ⟨vs, rk, alt⟩ := h5.toT hf.1
            have hl2 : vs.length < sizeLine := by rw [rk.length]; exact hz
            obtain ⟨bb, eb, hb⟩ := tupKey_v ek2 ry
            refine ⟨l, rfl, .inr ⟨vs, kx, bb, ?_, eb, t2.bs.sub _ _ hb, hl2, fun v hv => ?_, fun hv => ?_⟩⟩
            · rcases alt with z | ⟨z1, z2, z3⟩
              · exact .inl (by rw [h4, z])
              · exact .inr ⟨z1, by rw [h4, z3]⟩
            · cases ed : dAt xs (.inr kx) with
              | none => rw [rk.at.2 ed] at hv; cases hv
              | some dv =>
                rw [ed] at h2; cases h2
                obtain ⟨w, ew, rw'⟩ := rk.at.1 _ ed
                rw [ew] at hv; cases hv
                have z := h6 u' _ h5 rw'
                rw [upd_id h4] at z
                exact z
            · cases ed : dAt xs (.inr kx) with
              | some dv =>
                obtain ⟨w, ew, rw'⟩ := rk.at.1 _ ed
                rw [ew] at hv; cases hv
              | none =>
                rw [ed] at h2; cases h2
                rw [putK_new _ hv]
                exact h6 _ _ (.inr ⟨_, rfl, rk.snoc ek2 rz⟩) rz
        · cases h2
    · rw [e1] at q
      exact q.elim
where
  upd_id {H : Hp} {a : Addr} {o : HO} (h : H a = some o) : upd H a o = H := by
    funext b
    by_cases z : b = a
    · subst z; rw [upd_same, h]
    · rw [upd_ne z]
/-- {} -/
theorem de_dnew : DE X W (.Dict [] [] pos) (M.ret (.od [])) := pe_imp pe_dnewK fun σ H Q q => by
  obtain ⟨c, S, E, ps, hk, t, q⟩ := q
  intro a n
  have g := t.bs.newO (o := .dK []) n
  have ok : SlOk (c.at S H) S (upd H a (.dK [])) (.ref a) (.od []) := ⟨a, .dK [], rfl, t.bs.s_none n, n, upd_same, .inl ⟨[], rfl, rfl⟩⟩
  exact q _ _ _ g.s0 (t.grow g) (ResOk.new t g (fun z => by cases z) ok)
/-! ### max of a list or tuple of ints -/
def intsO (d : D) : Option (List Int) := (seqD d).bind asIs
def max1O : Option (List Int) → M Sl
  | some (n :: ns) => im1 (.int (maxL (n :: ns)))
  | _ => M.bad
def kMax1 : List D → M Sl
  | [d] => max1O (intsO d)
  | _ => M.bad
theorem intsO_ok {d : D} {ns : List Int} {v : V} (hk : c.K = X.K) (t : Stt c S H σ E ps) (e : intsO d = some ns) (pk : Pk c.K c.p S H v d) : ∃ k a, v = .ref a ∧ sqV k X.K H a (ns.map V.int) := by
  unfold intsO at e
  cases d with
  | lst ds =>
    obtain ⟨a, xs, h1, h2, h3⟩ := pk
    have e : asIs ds = some ns := e
    refine ⟨.l, a, h1, SqL.of ?_⟩
    rw [h2, asIs_ok e h3]
  | tup ds =>
    obtain ⟨a, xs, h1, h2, h3⟩ := pk
    have e : asIs ds = some ns := e
    refine ⟨.t, a, h1, ?_⟩
    rw [← asIs_ok e h3]
    exact hk ▸ (SqTs t.bs.sub h2).t
  | _ => cases e
theorem loc_max1 : LocR X W (rMx X.K) kMax1 := by
  intro c S H σ E ps ds vs Q hk t pk q
  unfold kMax1 at q
  split at q
  · obtain ⟨v, rfl, h1⟩ := pks1 pk
    rename_i d
    cases en : intsO d with
    | none => rw [en] at q; exact q.elim
    | some l =>
      rw [en] at q
      cases l with
      | nil => exact q.elim
      | cons n ns =>
        obtain ⟨k, a, rfl, hs⟩ := intsO_ok hk t en h1
        exact ⟨k, a, _, rfl, hs, (fun z => by cases z), post_im q t rfl⟩
  · exact q.elim
def maxDO : Option (List Int) → Int → M Sl
  | some ns, i => im1 (.int (if ns = [] then i else maxL ns))
  | _, _ => M.bad
def kMaxD : List D → M Sl
  | [d, .int i] => maxDO (intsO d) i
  | _ => M.bad
def splitR (r : List V → List V → Hp → VK → Prop) (n : Nat) : List V → Hp → VK → Prop := fun vs H Q => r (vs.take n) (vs.drop n) H Q
theorem loc_maxD : LocR X W (splitR (rMxD X.K) 1) kMaxD := by
  intro c S H σ E ps ds vs Q hk t pk q
  unfold kMaxD at q
  split at q
  · obtain ⟨v, w, rfl, h1, h2⟩ := pks2 pk
    rename_i d i
    cases en : intsO d with
    | none => rw [en] at q; exact q.elim
    | some ns =>
      rw [en] at q
      obtain ⟨k, a, rfl, hs⟩ := intsO_ok hk t en h1
      exact ⟨k, a, _, _, rfl, (by rw [show w = _ from h2]; rfl), hs, post_im q t rfl⟩
  · exact q.elim
theorem de_maxD {p kp : Pos} (hc : X.calm = true) (hg : Gl X "max") (hm : X.mg "max" = none) (ha : DO X W a oa) (hb : DO X W b ob) (hs : starEach [a] X.env = (false, eval a X.env) :: starEach [] X.env := by rfl)
    (he : backTo pos (starEach [a] X.env) = (false, eval a X.env) :: backTo pos (starEach [] X.env) := by rfl) (hpl : (backTo pos (starEach [a] X.env)).any (·.1) = false := by rfl) 
    (hall : (backToKw pos (keywordEach [⟨some "default", b, kp⟩] X.env)).all (·.1.isSome) = true := by rfl) (hnone : (backToKw pos (keywordEach [⟨some "default", b, kp⟩] X.env)).any (·.1.isNone) = false := by rfl) (hks : (backToKw pos (keywordEach [⟨some "default", b, kp⟩] X.env)).filterMap (·.1) = [(Str.ofString "default")] := by rfl) : DE X W (.Call (.Name "max" p) [a] [⟨some "default", b, kp⟩] pos) (ops [oa, ob] kMaxD) :=
  pe_imp (pe_callBK (cr_mxd hc) hg hm (by decide +kernel) (da_cons0 ha da_nil0 hs) (pk_cons hb pk_nil) (by decide) (by decide) he hpl hall hnone hks) fun σ H Q q => by
    have z := ops_read loc_maxD q
    exact z
theorem de_max1 {p : Pos} (hc : X.calm = true) (hg : Gl X "max") (hm : X.mg "max" = none) (ha : DO X W a oa) (hs : starEach [a] X.env = (false, eval a X.env) :: starEach [] X.env := by rfl) (hpl : (backTo pos (starEach [] X.env)).any (·.1) = false := by rfl) : DE X W (.Call (.Name "max" p) [a] [] pos) (ops [oa] kMax1) :=
  de_b1 loc_max1 (cr_mx hc) hg hm (by decide +kernel) ha (by decide) (by decide) hs hpl
end
end Dl
/-! sorted(xs), xs a list or a tuple of tuples of ints, any number of them -/
namespace Dh
open PySem PySem.Spec PyProof.Rows L2
/-- before, by the first place where they differ -/
def lexI : List Int → List Int → Bool
  | [], [] => false
  | [], _ :: _ => true
  | _ :: _, [] => false
  | x :: xs, y :: ys => if x = y then lexI xs ys else decide (x < y)
theorem lexI_irrefl : ∀ xs : List Int, lexI xs xs = false
  | [] => rfl
  | x :: xs => by unfold lexI; rw [if_pos rfl]; exact lexI_irrefl xs
theorem lexI_asym : ∀ xs ys : List Int, lexI xs ys = true → lexI ys xs = false
  | [], [], h => by cases h
  | [], _ :: _, _ => rfl
  | _ :: _, [], h => by cases h
  | x :: xs, y :: ys, h => by
    unfold lexI at h ⊢
    by_cases e : x = y
    · rw [if_pos e] at h; rw [if_pos e.symm]; exact lexI_asym xs ys h
    · rw [if_neg e] at h; rw [if_neg (Ne.symm e)]
      have := of_decide_eq_true h
      exact decide_eq_false (by omega)
theorem lexI_tr : ∀ xs ys zs : List Int, lexI ys xs = false → lexI zs ys = false → lexI zs xs = false
  | [], [], _, _, h => h
  | [], _ :: _, [], _, _ => rfl
  | [], _ :: _, _ :: _, _, _ => rfl
  | _ :: _, [], _, h, _ => by cases h
  | x :: xs, y :: ys, [], _, h => by cases h
  | x :: xs, y :: ys, z :: zs, h1, h2 => by
    unfold lexI at h1 h2 ⊢
    by_cases e : y = x
    · rw [if_pos e] at h1
      by_cases e2 : z = y
      · rw [if_pos e2] at h2; rw [if_pos (e2.trans e)]; exact lexI_tr xs ys zs h1 h2
      · rw [if_neg e2] at h2; rw [if_neg (by omega)]
        have := of_decide_eq_false h2
        exact decide_eq_false (by omega)
    · rw [if_neg e] at h1
      have a := of_decide_eq_false h1
      by_cases e2 : z = y
      · rw [if_neg (by omega)]; exact decide_eq_false (by omega)
      · rw [if_neg e2] at h2
        have b := of_decide_eq_false h2
        rw [if_neg (by omega)]
        exact decide_eq_false (by omega)
theorem lexI_eq : ∀ xs ys : List Int, lexI xs ys = false → lexI ys xs = false → xs = ys
  | [], [], _, _ => rfl
  | [], _ :: _, h, _ => by cases h
  | _ :: _, [], _, h => by cases h
  | x :: xs, y :: ys, h, h' => by
    unfold lexI at h h'
    by_cases e : x = y
    · rw [if_pos e] at h; rw [if_pos e.symm] at h'
      rw [e, lexI_eq xs ys h h']
    · rw [if_neg e] at h; rw [if_neg (Ne.symm e)] at h'
      have a := of_decide_eq_false h
      have b := of_decide_eq_false h'
      omega
theorem swo_lexI {α : Type} (k : α → List Int) : SrtO.Swo fun v u => lexI (k v) (k u) := ⟨fun x y => lexI_asym _ _, fun x y z => lexI_tr _ _ _⟩
section
variable {prog : Program} {w : World} {A : Around} {E : Value → Shared → Prop} {s : Shared}
theorem kat_ints {b : Bool} {z : Bool} : ∀ (i : Nat) {xs ys : List Value} {ns ms : List Int}, IntsAre xs ns → IntsAre ys ms → z = decide (ns.length < ms.length) →
    PySem.W.KatLex prog w A b z (fun r s' => s' = s ∧ r = lexI ns ms) (xs.zip ys) i s
  | i, _, _, _, _, .nil, .nil, e => PySem.W.kat_nil ⟨rfl, e⟩
  | i, _, _, _, _, .nil, .cons m u t, e => PySem.W.kat_nil ⟨rfl, by rw [e]; exact decide_eq_true (Nat.succ_pos _)⟩
  | i, _, _, _, _, .cons m u t, .nil, e => PySem.W.kat_nil ⟨rfl, by rw [e]; exact decide_eq_false (Nat.not_lt_zero _)⟩
  | i, _, _, _, _, .cons (ns := ns) n u t, .cons (ns := ms) m u' t', e => by
    rw [List.zip_cons_cons]
    refine PySem.W.kat_cons (SeqAt.EqAt.int_int n u m u' prog w _ _ ?_)
    refine PySem.W.kat_go (fun e1 => ?_) (fun e1 => ?_)
    · have en : n = m := by simpa using e1
      have e2 : lexI (n :: ns) (m :: ms) = lexI ns ms := by
        show (if n = m then lexI ns ms else _) = _
        rw [if_pos en]
      rw [e2]
      refine PySem.W.kat_yes (kat_ints (i + 1) t t' ?_)
      rw [e]
      simp [List.length_cons]
    · have en : ¬ n = m := by simpa using e1
      have e2 : lexI (n :: ns) (m :: ms) = decide (n < m) := by
        show (if n = m then lexI ns ms else _) = _
        rw [if_neg en]
      rw [e2]
      exact PySem.W.kat_no (TS.oneLt_ints _ ⟨rfl, rfl⟩)
theorem tups_cmp {vs : List Value} {k : Value → List Int} (hp : ∀ v ∈ vs, TS.TupInts s.heap v (k v)) : SrtO.Cmp prog w A s (tuples' true) (fun p => p.1 ∈ vs) (SrtO.lt2 fun v u => lexI (k v) (k u)) := by
  intro p q hm hm'
  obtain ⟨a, xs, e, ⟨o, ho, hc, n, hd⟩, i⟩ := hp _ hm
  obtain ⟨a', xs', e', ⟨o', ho', hc', n', hd'⟩, i'⟩ := hp _ hm'
  show wpAny (model prog w) A (keyLt' (tuples' true) p.1 q.1) (fun r s' => s' = s ∧ r = lexI (k p.1) (k q.1)) (fun _ _ => False) s
  rw [show keyLt' (tuples' true) p.1 q.1 = keyLt' (tuples' true) (.ref a) (.ref a') by rw [e, e']]
  refine PySem.W.kat_lt ho hd ho' hd' (kat_ints 0 i i' ?_)
  have l1 := i.length
  have l2 := i'.length
  rw [Array.length_toList] at l1 l2
  rw [l1, l2]
theorem firsts_tups {h : Heap} {k : Value → List Int} : ∀ {vs : List Value}, (∀ v ∈ vs, TS.TupInts h v (k v) ∧ k v ≠ []) → ∃ fs : List Value, PySem.W.KatTups h vs fs ∧ fs.length = vs.length ∧ ∀ f ∈ fs, ∃ x t, f = Value.int x t
  | [], _ => ⟨[], PySem.W.KatTups.nil, rfl, fun _ hm => by simp at hm⟩
  | v :: vs, hp => by
    obtain ⟨fs, h1, h2, h3⟩ := firsts_tups (vs := vs) fun v' hm => hp v' (List.mem_cons_of_mem _ hm)
    obtain ⟨⟨a, xs, e, ⟨o, ho, hc, n, hd⟩, i⟩, hne⟩ := hp v List.mem_cons_self
    subst e
    obtain ⟨y, ys, ey⟩ : ∃ y ys, xs.toList = y :: ys := by
      cases q : xs.toList with
      | nil =>
        rw [q] at i
        have z := i.length
        rw [List.length_nil] at z
        exact absurd (List.eq_nil_of_length_eq_zero z.symm) hne
      | cons y ys => exact ⟨y, ys, rfl⟩
    obtain ⟨m, t, em⟩ := i.all y (by rw [ey]; exact List.mem_cons_self)
    refine ⟨y :: fs, PySem.W.KatTups.cons ho hc hd ?_ h1, by rw [List.length_cons, List.length_cons, h2], fun f hm => ?_⟩
    · rw [← Array.getElem?_toList, ey]; rfl
    · rcases List.mem_cons.mp hm with e | hm
      · exact ⟨m, t, e.trans em⟩
      · exact h3 f hm
theorem tups_sortable {a : Addr} {vs : List Value} {k : Value → List Int} (h0 : 0 < vs.length) (hp : ∀ v ∈ vs, TS.TupInts s.heap v (k v) ∧ k v ≠ []) (ha : ∀ o, s.heap.get? a = some o → o.cls ≠ .type "tuple") : SrtO.SortableO prog w A s a vs fun v u => lexI (k v) (k u) := by
  intro h' keep
  have hp' : ∀ v ∈ vs, TS.TupInts h' v (k v) ∧ k v ≠ [] := fun v hm => ⟨(hp v hm).1.keeps fun b o e c => keep b o (fun z => by subst z; exact ha o e c) e, (hp v hm).2⟩
  obtain ⟨fs, h1, h2, h3⟩ := firsts_tups hp'
  refine ⟨tuples' true, fun Q E hq => ?_, tups_cmp fun v hm => (hp' v hm).1⟩
  refine PySem.W.kat_kind (T := .type "int") h1 (by omega) (fun f hm => ?_) (by rfl) ?_
  · obtain ⟨x, t, rfl⟩ := h3 f hm
    exact PySem.W.Looks.now
  · have e : (Value.type "int" != Value.type "tuple") = true := by first | decide +kernel | rfl | decide
    rw [e]
    exact hq
/-- sorted(xs) of a list or tuple, up to the new list's sort -/
theorem call_sortedQ {k : Kd} {a : Addr} {items : Array Value} {Q : Value → Shared → Prop} (hx : isSq k s.heap a items) (hn : items.size ≤ sizeLine)
    (h : ∀ h' : Heap, (∀ b o, s.heap.get? b = some o → h'.get? b = some o) →
      wpAny (model prog w) A.in1 (call (.builtin "list.sort") [.ref h'.objs.size]) (fun _ s' => Q (.ref h'.objs.size) s') E { s with heap := h'.push (seqObj "list" items.toList.toArray 0) }) :
    wpAny (model prog w) A (call (.builtin "sorted") [.ref a]) Q E s := by
  refine Calls.call_function_entry kind_sorted plain_sorted entry_sorted (args_sorted1 _) ?_
  unfold Builtin.«sorted»
  refine wpAny_bind (m := checkCount "sorted" 1 1 _) (wpAny_pure ?_)
  have key : ∀ {T : String} {o : Obj} {n : Nat}, (T = "list" ∨ T = "tuple") → s.heap.get? a = some o → o.cls = .type T → o.data = .seq items n → wpAny (model prog w) A.in1 (collect (.ref a)) (fun xs s' => xs = items.toList ∧ ∃ h', s' = { s with heap := h' } ∧ ∀ b o, s.heap.get? b = some o → h'.get? b = some o) E s :=
    fun {T o n} hT ho hc hd => wpAny_collect_seq a hT ho hc hd (fun h' k' => ⟨rfl, h', rfl, k'⟩) hn
  refine wpAny_bind (wpAny_mono (Q := fun xs s' => xs = items.toList ∧ ∃ h', s' = { s with heap := h' } ∧ ∀ b o, s.heap.get? b = some o → h'.get? b = some o) ?_ (fun xs s' z => ?_) fun _ _ e => e)
  · cases k with
    | l => obtain ⟨o, ho, hc, n, hd⟩ := id hx; exact key (.inl rfl) ho hc hd
    | t => obtain ⟨o, ho, hc, n, hd⟩ := id hx; exact key (.inr rfl) ho hc hd
  · obtain ⟨rfl, h', rfl, kk⟩ := z
    refine wpAny_bind (wpAny_newList ?_ (by rw [Array.length_toList]; exact hn))
    refine wpAny_bind (wpAny_holding (wpAny_mono (h h' kk) (fun _ s' x => ?_) fun _ _ e => e))
    exact wpAny_pure ⟨_, rfl, x⟩
end
/-- sorted(xs), xs a list or tuple of non-empty tuples of ints -/
def rSortQ (K : PySem.W.Frag) : List V → Hp → VK → Prop := fun vs H Q => ∃ (kd : Kd) (a : Addr) (xs : List V) (k : V → List Int), vs = [V.ref a] ∧ sqV kd K H a xs ∧ (∀ x ∈ xs, ∃ t, x = V.ref t ∧ SqT K H t ((k x).map V.int) ∧ (2 ≤ xs.length → k x ≠ [])) ∧
  ∀ (ys : List V) (p : Addr), ys.Perm xs → ys.Pairwise (fun x y => lexI (k y) (k x) = false) → H p = none → Q (.ref p) (upd H p (.lst ys))
def bkW : Value → V
  | .ref a => .ref a
  | _ => .non
theorem bkW_vals : ∀ {us : List Value}, (∀ u ∈ us, ∃ a, u = Value.ref a) → Vals (us.map bkW) us
  | [], _ => .nil
  | u :: us, h => by
    obtain ⟨a, e⟩ := h u List.mem_cons_self
    subst e
    exact .cons (show RelV (.ref a) (.ref a) from rfl) (bkW_vals fun y hy => h y (List.mem_cons_of_mem _ hy))
theorem bkW_refs : ∀ {xs : List V} {us : List Value}, Vals xs us → (∀ x ∈ xs, ∃ a, x = V.ref a) → xs = us.map bkW ∧ ∀ u ∈ us, ∃ a, u = Value.ref a
  | _, _, .nil, _ => ⟨rfl, fun u hu => absurd hu (by simp)⟩
  | x :: xs, _ :: us, .cons r t, h => by
    obtain ⟨a, e⟩ := h x List.mem_cons_self
    subst e
    cases r
    obtain ⟨h1, h2⟩ := bkW_refs t fun y hy => h y (List.mem_cons_of_mem _ hy)
    refine ⟨by rw [List.map_cons, ← h1] <;> rfl, fun u hu => ?_⟩
    rcases List.mem_cons.mp hu with e | hu
    · exact ⟨a, e⟩
    · exact h2 u hu
theorem srt_at {h : Heap} {a : Addr} {vs : List Value} {xs : Array Value} {n : Nat} {out : Array Value} (ho : h.get? a = some (seqObj "list" xs n)) : (∃ m, (sortedHeap h a vs out).get? a = some (seqObj "list" out m)) ∧
    ∀ b o, b ≠ a → h.get? b = some o → (sortedHeap h a vs out).get? b = some o := by
  obtain ⟨e1, h1⟩ : ∃ e1, (h.update a (Obj.mapSeq fun _ => #[])).get? a = some (seqObj "list" #[] e1) := ⟨_, get?_update_seq ho (fun _ => #[])⟩
  have h2 := Heap.get?_push_of_some (seqObj "list" #[] 0) (Heap.get?_push_of_some (seqObj "tuple" vs.toArray 0) h1)
  refine ⟨⟨_, get?_update_seq h2 (fun _ => out)⟩, fun b o hb e => ?_⟩
  unfold sortedHeap
  rw [Heap.get?_update_ne _ _ _ _ hb]
  exact Heap.get?_push_of_some _ (Heap.get?_push_of_some _ ((Heap.get?_update_ne _ _ _ _ hb).trans e))
theorem cr_sortQ {X : Cx} : CallR X (.builtin "sorted") (rSortQ X.K) := by
  intro pins s σ H vs us Q I r h
  obtain ⟨kd, a, xs, k, rfl, hs, hx, q⟩ := h
  obtain ⟨its, rv, hl⟩ := inv_sq I hs
  have hz : xs.length ≤ sizeLine := by
    cases kd with
    | l => obtain ⟨its2, r2, _, z⟩ := I.list hs; exact z
    | t => obtain ⟨its2, r2, _, z⟩ := I.tuple hs; exact z
  rw [Vals.ref1 r]
  obtain ⟨e1, e2⟩ := bkW_refs rv fun x m => by
    obtain ⟨t, e, _⟩ := hx x m
    exact ⟨t, e⟩
  have lv : its.length = xs.length := rv.length.symm
  have raw : ∀ v ∈ its, TS.TupInts s.heap v (k (bkW v)) ∧ (2 ≤ xs.length → k (bkW v) ≠ []) := fun v hv => by
    have hm : bkW v ∈ xs := by
      rw [e1]
      exact List.mem_map.mpr ⟨_, hv, rfl⟩
    obtain ⟨t, e, ht, hne⟩ := hx _ hm
    obtain ⟨t', rfl⟩ := e2 v hv
    cases e
    exact ⟨tupI_raw I ht, hne⟩
  refine call_sortedQ hl (by rw [List.size_toArray, lv]; exact hz) fun h' kk => ?_
  have e3 : its.toArray.toList = its := by simp
  rw [e3]
  have ho : (h'.push (seqObj "list" its.toArray 0)).get? h'.objs.size = some (seqObj "list" its.toArray 0) := Heap.get?_push_size _ rfl
  refine wpAny_call_entry slot_list_sort ⟨_, ho, rfl⟩ entry_list_sort (SrtO.list_sort_ord (s := { s with heap := h'.push (seqObj "list" its.toArray 0) }) (swo_lexI fun v => k (bkW v)) ho (by rw [lv]; exact hz) (fun h2 => ?_) fun out h1 h2 => ⟨_, rfl, ?_⟩) (args_list_sort _)
  · refine tups_sortable (k := fun v => k (bkW v)) (by omega) (fun v hv => ⟨(raw v hv).1.keeps fun b o e _ => Heap.get?_push_of_some _ (kk b o e), (raw v hv).2 (by omega)⟩) fun o e => ?_
    have e' : some o = some (seqObj "list" its.toArray 0) := e.symm.trans ho
    cases e'
    intro c
    exact absurd (Value.type.inj c) (by decide)
  · have nH : H h'.objs.size = none := (I.hok.kept kk).fresh (Nat.le_refl _)
    have nS : s.heap.get? h'.objs.size = none := by
      cases z : s.heap.get? h'.objs.size with
      | none => rfl
      | some o => exact absurd (Heap.lt_size (kk _ _ z)) (Nat.lt_irrefl _)
    have h3 : ∀ u ∈ out, ∃ a, u = Value.ref a := fun u hu => e2 u (h2.perm.mem_iff.mp hu)
    have hp : (out.map bkW).Perm xs := by
      rw [e1]
      exact h2.perm.map bkW
    obtain ⟨⟨ep, he'⟩, hold⟩ := srt_at (vs := its) (out := out.toArray) ho
    refine ⟨.ref _, upd H h'.objs.size (.lst (out.map bkW)), I.laidN (t' := s.toks) (fun b o e => ?_) nS nH ⟨by rw [hp.length_eq]; exact hz, out, ep, bkW_vals h3, he'⟩, rfl, q _ _ hp ?_ nH⟩
    · refine hold b o (fun z => ?_) (Heap.get?_push_of_some _ (kk b o e))
      subst z
      exact absurd (Heap.lt_size (kk _ _ e)) (Nat.lt_irrefl _)
    · rw [List.pairwise_map]
      exact h1
end Dh
/-! len(set(xs)), xs a list or a tuple of ints and texts, or of tuples of ints -/
namespace Dh
open PySem PySem.Spec PyProof.Rows L2
/-- each once, as they come first -/
def addN {α : Type} [DecidableEq α] (acc : List α) (k : α) : List α := if k ∈ acc then acc else acc ++ [k]
def onceL {α : Type} [DecidableEq α] (l : List α) : List α := l.foldl addN []
section
variable {α : Type} [DecidableEq α]
theorem onceL_snoc (l : List α) (k : α) : onceL (l ++ [k]) = addN (onceL l) k := by unfold onceL; rw [List.foldl_append]; rfl
theorem fold_mem : ∀ (l acc : List α) (k : α), k ∈ l.foldl addN acc ↔ k ∈ acc ∨ k ∈ l
  | [], acc, k => by simp
  | x :: l, acc, k => by
    rw [List.foldl_cons, fold_mem l]
    unfold addN
    by_cases h : x ∈ acc
    · rw [if_pos h, List.mem_cons]
      constructor
      · rintro (z | z)
        · exact .inl z
        · exact .inr (.inr z)
      · rintro (z | z | z)
        · exact .inl z
        · exact .inl (z ▸ h)
        · exact .inr z
    · rw [if_neg h, List.mem_append, List.mem_singleton, List.mem_cons, or_assoc]
theorem onceL_mem {l : List α} {k : α} : k ∈ onceL l ↔ k ∈ l := by unfold onceL; rw [fold_mem]; simp
theorem fold_nodup : ∀ (l acc : List α), acc.Nodup → (l.foldl addN acc).Nodup
  | [], acc, h => h
  | x :: l, acc, h => by
    rw [List.foldl_cons]
    refine fold_nodup l _ ?_
    unfold addN
    by_cases hx : x ∈ acc
    · rw [if_pos hx]; exact h
    · rw [if_neg hx, List.nodup_append]
      refine ⟨h, by simp, fun a ha b hb => ?_⟩
      rw [List.mem_singleton.mp hb]
      exact fun e => hx (e ▸ ha)
theorem onceL_nodup (l : List α) : (onceL l).Nodup := fold_nodup l [] List.nodup_nil
theorem fold_len : ∀ (l acc : List α), (l.foldl addN acc).length ≤ acc.length + l.length
  | [], acc => Nat.le_refl _
  | x :: l, acc => by
    rw [List.foldl_cons]
    refine Nat.le_trans (fold_len l _) ?_
    unfold addN
    by_cases hx : x ∈ acc
    · rw [if_pos hx, List.length_cons]; omega
    · rw [if_neg hx, List.length_append, List.length_singleton, List.length_cons]; omega
theorem onceL_len (l : List α) : (onceL l).length ≤ l.length := by
  have h := fold_len l []
  rw [List.length_nil, Nat.zero_add] at h
  exact h
/-- how many unlike ones there are does not hang on their order -/
theorem once_count {l m : List α} (hn : m.Nodup) (h : ∀ x, x ∈ m ↔ x ∈ l) : m.length = (onceL l).length := by
  refine List.Perm.length_eq ?_
  exact (List.perm_ext_iff_of_nodup hn (onceL_nodup l)).mpr fun x => (h x).trans onceL_mem.symm
def memD (k : α) (l : List α) : Bool := l.any fun j => decide (j = k)
theorem memD_iff {k : α} {l : List α} : memD k l = true ↔ k ∈ l := by
  unfold memD
  rw [List.any_eq_true]
  constructor
  · rintro ⟨j, hj, e⟩
    exact of_decide_eq_true e ▸ hj
  · exact fun h => ⟨k, h, decide_eq_true rfl⟩
theorem memD_false {k : α} {l : List α} (h : k ∉ l) : memD k l = false := by
  cases e : memD k l with
  | false => rfl
  | true => exact absurd (memD_iff.mp e) h
theorem memD_snoc (k j : α) (l : List α) : (memD j l || decide (j = k)) = memD j (l ++ [k]) := by
  unfold memD
  rw [List.any_append, List.any_cons, List.any_nil, Bool.or_false]
  congr 1
  by_cases e : j = k
  · rw [decide_eq_true e, decide_eq_true e.symm]
  · rw [decide_eq_false e, decide_eq_false (Ne.symm e)]
theorem memD_in {k j : α} {l : List α} (h : k ∈ l) : (memD j l || decide (j = k)) = memD j l := by
  by_cases e : j = k
  · rw [e, memD_iff.mpr h]; rfl
  · rw [decide_eq_false e, Bool.or_false]
end
section
variable {prog : Program} {w : World} {A : Around} {R : Result → Shared → Prop} {I : Addr} {fp wr : List Addr} {G : Array GenState → Array GenState → Prop} {n : Nat} {P : Nat → Value → Prop} {St : Nat → Shared → Prop}
theorem setOf_move {K : Type} [DecidableEq K] {knd : KeyKind prog w K} {h h' : Heap} {a : Addr} {S : K → Bool} {m : Nat} (x : h.SetOf knd a S m) (k : ∀ o, h.get? a = some o → h'.get? a = some o) : h'.SetOf knd a S m := by
  obtain ⟨o, es, ep, t, ho, r⟩ := x
  exact ⟨o, es, ep, t, k o ho, r⟩
/-- set.update's loop over ints and texts -/
theorem loop_keys (W : WalksS prog w A.in1 I fp wr G n P St) (S : Addr) (out : S ∉ fp) (ks : List Key) (hn : n = ks.length) (hv : ∀ i v, P i v → ∃ k, ks[i]? = some k ∧ (mixKind prog w).is k v = true ∧ v.scannable = true) (hb : n + 1 < scanBound) :
    ∀ (m i : Nat) (s : Shared), n - i = m → i ≤ n → St i s → s.heap.SetOf (mixKind prog w) S (fun k => memD k (onceL (ks.take i))) (onceL (ks.take i)).length →
      (∀ s', Moved (S :: wr) G s s' → s'.heap.SetOf (mixKind prog w) S (fun k => memD k (onceL ks)) (onceL ks).length → R (.ok (.ret .none)) s') →
      codeAny (model prog w) A (.builtin "set.update.loop" ⟨[.ref S, .ref I], []⟩) R s := by
  have outw : S ∉ wr := fun z => out (W.sub _ z)
  have sub : ∀ b ∈ wr, b ∈ S :: wr := fun b z => List.mem_cons_of_mem _ z
  intro m
  induction m with
  | zero =>
    intro i s em hi hst hS hR
    have en : i = n := by omega
    subst en
    refine codeAny_builtin F.entry_set_update_loop ?_
    rw [Around.under_plainId (id := "set.update.loop") F.plain_set_update_loop _]
    show wpAny (model prog w) A.in1 (pyNext (.ref I) >>= _) _ _ s
    refine wpAny_bind (W.done s _ _ hst fun s2 mv => ?_)
    show wpAny (model prog w) A.in1 (ret Value.none) _ _ s2
    rw [hn, List.take_length] at hS
    exact wpAny_pure (hR s2 (mv.mono sub) (setOf_move hS fun o e => mv.heap S o outw e))
  | succ m ih =>
    intro i s em hi hst hS hR
    have lt : i < n := by omega
    refine codeAny_builtin F.entry_set_update_loop ?_
    rw [Around.under_plainId (id := "set.update.loop") F.plain_set_update_loop _]
    show wpAny (model prog w) A.in1 (pyNext (.ref I) >>= _) _ _ s
    refine wpAny_bind (W.item i s _ _ lt hst fun v s2 hP hst2 mv => ?_)
    obtain ⟨k, ek, hk, hsc⟩ := hv i v hP
    have hS2 := setOf_move (h' := s2.heap) hS fun o e => mv.heap S o outw e
    show wpAny (model prog w) A.in1 (holding [v] (setAdd S v) >>= _) _ _ s2
    refine wpAny_bind (wpAny_holding (by
      unfold setAdd
      refine wpAny_holding (wpAny_bind ((mixKind prog w).pyHash hk ?_))
      have room : (onceL (ks.take i)).length + 1 < scanBound := by
        have a := onceL_len (ks.take i)
        have b : (ks.take i).length ≤ i := List.length_take_le _ _
        omega
      refine wpAny_setAddHashed_of (knd := mixKind prog w) (s := { s2 with toks := s2.toks + 1 }) hk hsc hS2 room fun h' sb hS3 => ?_
      have ts : ks.take (i + 1) = ks.take i ++ [k] := by rw [List.take_succ, ek]; rfl
      have hS4 : h'.SetOf (mixKind prog w) S (fun j => memD j (onceL (ks.take (i + 1)))) (onceL (ks.take (i + 1))).length := by
        rw [ts, onceL_snoc]
        unfold addN
        by_cases c : k ∈ onceL (ks.take i)
        · rw [if_pos c]
          rw [if_pos (memD_iff.mpr c), show (fun j => memD j (onceL (ks.take i)) || decide (j = k)) = fun j => memD j (onceL (ks.take i)) from funext fun j => memD_in c] at hS3
          exact hS3
        · rw [if_neg c, List.length_append, List.length_singleton]
          rw [if_neg (by rw [memD_false c]; exact Bool.false_ne_true), show (fun j => memD j (onceL (ks.take i)) || decide (j = k)) = fun j => memD j (onceL (ks.take i) ++ [k]) from funext fun j => memD_snoc k j _] at hS3
          exact hS3
      refine wpAny_pure ⟨plainId_quiet F.plain_set_update_loop _, ih (i + 1) _ (by omega) lt (W.frame _ s2 _ _ hst2 (Nat.le_succ _) fun b hb o e => ?_) hS4 fun s3 mv3 hS5 => ?_⟩
      · rw [sb.2 b (fun z : b = S => out (by rw [← z]; exact hb))]; exact e
      · refine hR s3 (Moved.trans W.gtrans ((mv.mono sub).then_heap (Nat.le_succ _) fun b o hb e => ?_) mv3) hS5
        rw [sb.2 b (fun z : b = S => hb (by rw [z]; exact List.mem_cons_self))]; exact e))
end
/-- a new set -/
def setO (led : Bool) : Obj := { cls := .type "set", dict := none, data := .set #[] 0 (.fresh 0 0 led) }
abbrev ledOf (w : World) : Bool := !w.params.followText "set-order"
theorem sub_sq (k : Kd) : ∃ T, (T = "list" ∨ T = "tuple") ∧ ∀ h a its, isSq k h a its → ∃ o n, h.get? a = some o ∧ o.cls = .type T ∧ o.data = .seq its n := by
  cases k with
  | l => exact ⟨"list", .inl rfl, fun h a its ⟨o, e, c, n, d⟩ => ⟨o, n, e, c, d⟩⟩
  | t => exact ⟨"tuple", .inr rfl, fun h a its ⟨o, e, c, n, d⟩ => ⟨o, n, e, c, d⟩⟩
set_option maxHeartbeats 8000000 in
/-- set(xs), up to the loop -/
theorem call_setQ {prog : Program} {w : World} {A : Around} {E : Value → Shared → Prop} {s : Shared} {kd : Kd} {l : Addr} {its : Array Value} {Q : Value → Shared → Prop} (Fs : Shared → Prop) (hl : isSq kd s.heap l its)
    (hloop : ∀ R : Result → Shared → Prop, (∀ s2, Fs s2 → R (.ok (.ret .none)) s2) → codeAny (model prog w) A.in1.in1 (.builtin "set.update.loop" ⟨[.ref s.heap.objs.size, .ref (s.heap.push (setO (ledOf w))).objs.size], []⟩) R { s with heap := (s.heap.push (setO (ledOf w))).push (newIt kd l) })
    (hQ : ∀ s2, Fs s2 → Q (.ref s.heap.objs.size) s2) : wpAny (model prog w) A (call (.type "set") [.ref l]) Q E s := by
  obtain ⟨c, tl, hmro⟩ := F.called_set.mro
  have f1 := F.called_set.made
  have f2 := F.called_set.sub
  refine wpAny_call (codeAny_of_tree (show wpAny _ _ (callAny (.type "set") _) _ _ _ from wpAny_pure ⟨Code.quiet_builtin _ (by decide +kernel), codeAny_builtin F.entry_type_call ?_⟩))
  rw [Around.under_plain (weight_type_call_type "set" ([.ref l] : List Value) []) rfl]
  have f3 := F.called_set.notType
  have f4 := F.called_set.canCreate
  have f5 := F.typeCall_set_1 (.ref l)
  repeat (any_goals (first | assumption | wp_step))
  have nS : (s.heap.push (setO (ledOf w))).get? s.heap.objs.size = some (setO (ledOf w)) := Heap.get?_push_size _ rfl
  have tS : Shared.TypeIs { s with heap := s.heap.push (setO (ledOf w)) } (.ref s.heap.objs.size) "set" := ⟨_, nS, rfl⟩
  refine codeAny_mono (code_set_led1 (.ref l) (E := E) (Q₁ := fun ob s1 => ob = .ref s.heap.objs.size ∧ s1 = { s with heap := s.heap.push (setO (ledOf w)) }) ⟨rfl, rfl⟩) fun r s1 hr => ?_
  cases r with
  | error e => exact hr
  | ok fl =>
    cases fl with
    | next => exact hr.elim
    | brk => exact hr.elim
    | cont => exact hr.elim
    | ret ob =>
      obtain ⟨rfl, rfl⟩ := hr
      have i1 := F.called_set.init.lookup
      have i2 := F.called_set.init.bind (.ref s.heap.objs.size)
      repeat (any_goals (first | assumption | wp_step))
      refine codeAny_mono (codeAny_call_builtin (R := wants (fun r s2 => r = .none ∧ Fs s2) E) F.called_set.init.plain F.entry_set_init (check_set_init_1 tS ?_)) fun r2 s2 hr2 => ?_
      · cases kd with
        | l => 
          obtain ⟨⟨cl, di, da, sl⟩, ho, hc, n, hd⟩ := id hl
          have hc' : cl = .type "list" := hc
          have hd' : da = .seq its n := hd
          subst hc' hd'
          have g1 : (s.heap.push (setO (ledOf w))).get? l = some { cls := .type "list", dict := di, data := .seq its n, slots := sl } := Heap.get?_push_of_some _ ho
          have g2 := F.sub_list_set
          have g3 := F.sub_list_frozenset
          have g4 : (Value.type "list" == Value.type "dict") = false := by decide
          have g5 : (s.heap.push (setO (ledOf w))).IsList l its := ⟨_, g1, rfl, n, rfl⟩
          unfold Builtin.«set.__init__» noKeywords Builtin.Frozenset.updateFrom
          generalize hz : pyIter = PI
          wp_walk
          subst hz
          refine wpAny_pyIter_list g5 (wpAny_bind (wpAny_runValue (hloop _ fun s2 h2 => ?_)))
          refine wpAny_pure (show wpAny (model prog w) _ (ret Value.none) _ _ _ from ?_)
          exact wpAny_pure ⟨rfl, h2⟩
        | t =>
          obtain ⟨⟨cl, di, da, sl⟩, ho, hc, n, hd⟩ := id hl
          have hc' : cl = .type "tuple" := hc
          have hd' : da = .seq its n := hd
          subst hc' hd'
          have g1 : (s.heap.push (setO (ledOf w))).get? l = some { cls := .type "tuple", dict := di, data := .seq its n, slots := sl } := Heap.get?_push_of_some _ ho
          have g2 := F.sub_tuple_set
          have g3 := F.sub_tuple_frozenset
          have g4 : (Value.type "tuple" == Value.type "dict") = false := by decide
          have g5 : (s.heap.push (setO (ledOf w))).IsTuple l its := ⟨_, g1, rfl, n, rfl⟩
          unfold Builtin.«set.__init__» noKeywords Builtin.Frozenset.updateFrom
          generalize hz : pyIter = PI
          wp_walk
          subst hz
          refine wpAny_pyIter_tuple g5 (wpAny_bind (wpAny_runValue (hloop _ fun s2 h2 => ?_)))
          refine wpAny_pure (show wpAny (model prog w) _ (ret Value.none) _ _ _ from ?_)
          exact wpAny_pure ⟨rfl, h2⟩
      · cases r2 with
        | error e => exact hr2
        | ok fl2 =>
          cases fl2 with
          | next => exact hr2.elim
          | brk => exact hr2.elim
          | cont => exact hr2.elim
          | ret z =>
            obtain ⟨rfl, h2⟩ := hr2
            repeat (any_goals (first | assumption | wp_step))
            exact hQ _ h2
end Dh
namespace Dh
open PySem PySem.Spec PyProof.Rows L2
/-- len(set(xs)) -/
def rKeys (K : PySem.W.Frag) (x : V) (H : Hp) (n : Nat) : Prop := ∃ (kd : Kd) (a : Addr) (ks : List Key), x = .ref a ∧ sqV kd K H a (ks.map kV) ∧ ks.length ≤ 4000 ∧ n = (onceL ks).length
def rTups (K : PySem.W.Frag) (x : V) (H : Hp) (n : Nat) : Prop := ∃ (kd : Kd) (a : Addr) (ts : List (Addr × List Int)), x = .ref a ∧ sqV kd K H a (ts.map fun p => V.ref p.1) ∧ (∀ p ∈ ts, SqT K H p.1 (p.2.map V.int)) ∧ ts.length < 64 ∧ n = (onceL (ts.map (·.2))).length
section
variable {X : Cx} {pins : List (Addr × Obj)} {σ : L2.St} {H : Hp} {s : Shared}
theorem keys_at : ∀ {ks : List Key} {us : List Value}, Vals (ks.map kV) us → ∀ (i : Nat) (v : Value), us[i]? = some v → ∃ k, ks[i]? = some k ∧ RelV (kV k) v
  | [], _, .nil, i, v, h => by simp at h
  | k :: ks, _, .cons r t, 0, v, h => by simp at h; exact ⟨k, rfl, h ▸ r⟩
  | k :: ks, _, .cons r t, i + 1, v, h => by
    simp only [List.getElem?_cons_succ] at h
    obtain ⟨j, e, q⟩ := keys_at t i v h
    exact ⟨j, by simpa using e, q⟩
/-- set(xs), then what is asked of its length -/
theorem set_len {kd : Kd} {a : Addr} {its : List Value} {n : Nat} {Q : Value → Shared → Prop} (I : Inv X pins σ H s) (hl : isSq kd s.heap a its.toArray)
    (hloop : ∀ R : Result → Shared → Prop, (∀ s2, ((∃ h' tk, s2 = { s with heap := h', toks := tk } ∧ (∀ b o, s.heap.get? b = some o → h'.get? b = some o) ∧ ∃ o es ep t, h'.get? s.heap.objs.size = some o ∧ o.ExactSet ∧ o.data = .set es ep t ∧ t.fits es.size = true ∧ es.size = n ∧ (n : Int) < 2 ^ 63) → R (.ok (.ret .none)) s2)) →
      codeAny (model X.prog X.w) X.A.in1.in1 (.builtin "set.update.loop" ⟨[.ref s.heap.objs.size, .ref (s.heap.push (setO (ledOf X.w))).objs.size], []⟩) R { s with heap := (s.heap.push (setO (ledOf X.w))).push (newIt kd a) })
    (hQ : ∀ s2, Inv X pins σ H s2 → (∀ (E : Value → Shared → Prop) (Q2 : Value → Shared → Prop), (∀ t s3, Inv X pins σ H s3 → Q2 (.int (n : Nat) t) s3) → wpAny (model X.prog X.w) X.A (call (.builtin "len") [.ref s.heap.objs.size]) Q2 E s2) → Q (.ref s.heap.objs.size) s2) :
    wpAny (model X.prog X.w) X.A (call (.type "set") [.ref a]) Q X.xe s := by
  refine call_setQ _ hl (fun R h => hloop R fun s2 h2 => h s2 h2) fun s2 h2 => ?_
  obtain ⟨h', tk, rfl, kk, o, es, ep, t, ho, hex, hd, hf, hn, hz⟩ := h2
  have I2 : Inv X pins σ H { s with heap := h', toks := tk } := I.kept kk
  refine hQ _ I2 fun E Q2 h3 => ?_
  refine call_len_set ho hex hd hf (by rw [hn]; exact hz) ?_
  rw [hn]
  exact h3 _ _ (I2.tok _)
theorem fresh_sub {h : Heap} {a b c : Addr} {o : Obj} (e : h.get? b = some o) (hS : a = h.objs.size) (hI : h.objs.size ≤ c) : b ≠ a ∧ b ≠ c := by
  have q := Heap.lt_size e
  refine ⟨fun z => ?_, fun z => ?_⟩
  · rw [z, hS] at q; exact absurd q (Nat.lt_irrefl _)
  · rw [z] at q; exact absurd (Nat.lt_of_lt_of_le q hI) (Nat.lt_irrefl _)
theorem size_le (h : Heap) (o : Obj) : h.objs.size ≤ (h.push o).objs.size := by rw [Heap.size_push]; exact Nat.le_succ _
theorem size_ne (h : Heap) (o : Obj) : h.objs.size ≠ (h.push o).objs.size := by rw [Heap.size_push]; exact Nat.ne_of_lt (Nat.lt_succ_self _)
theorem set_keys {kd : Kd} {a : Addr} {ks : List Key} {Q : Value → Shared → Prop} (hc : X.calm = true) (I : Inv X pins σ H s) (hl : sqV kd X.K H a (ks.map kV)) (hz : ks.length ≤ 4000)
    (hQ : ∀ s2, Inv X pins σ H s2 → (∀ (E : Value → Shared → Prop) (Q2 : Value → Shared → Prop), (∀ t s3, Inv X pins σ H s3 → Q2 (.int ((onceL ks).length : Nat) t) s3) → wpAny (model X.prog X.w) X.A (call (.builtin "len") [.ref s.heap.objs.size]) Q2 E s2) → Q (.ref s.heap.objs.size) s2) :
    wpAny (model X.prog X.w) X.A (call (.type "set") [.ref a]) Q X.xe s := by
  obtain ⟨its, rv, hi⟩ := inv_sq I hl
  have hh : X.A.in1.in1.in1.handled = none := I.ok.hd hc
  have la := sq_lt hi
  have hn : its.toArray.size = ks.length := by rw [List.size_toArray, ← rv.length, List.length_map]
  have ne : a ≠ (s.heap.push (setO (ledOf X.w))).objs.size := Nat.ne_of_lt (Nat.lt_of_lt_of_le la (size_le _ _))
  have nl : (onceL ks).length ≤ 4000 := Nat.le_trans (onceL_len ks) hz
  refine set_len (n := (onceL ks).length) I hi (fun R hR => ?_) hQ
  have at0 : ((s.heap.push (setO (ledOf X.w))).push (newIt kd a)).get? s.heap.objs.size = some (setO (ledOf X.w)) := Heap.get?_push_of_some _ (Heap.get?_push_size _ rfl)
  refine loop_keys (A := X.A.in1.in1) ((wks kd hh _ a ne its.toArray).toS) s.heap.objs.size (by simp only [List.mem_cons, List.not_mem_nil, or_false, not_or]; exact ⟨size_ne _ _, Nat.ne_of_gt la⟩) ks hn (fun i v hv => ?_) (by rw [hn]; unfold scanBound; omega)
    (its.toArray.size - 0) 0 _ rfl (Nat.zero_le _) ⟨⟨_, Heap.get?_push_size _ rfl, rfl, rfl⟩, sq_push _ (sq_push _ hi)⟩ ?_ fun s2 mv hS => ?_
  · obtain ⟨k, e, r⟩ := keys_at rv i v (by simpa using hv)
    exact ⟨k, e, kV_is r, key_scan r⟩
  · exact ⟨_, #[], 0, _, at0, ⟨rfl, rfl, rfl⟩, rfl, (fun e he => by simp at he), (fun k => by simp [onceL, memD]), (by unfold scanBound; decide), (by rfl), rfl⟩
  · obtain ⟨h2, g2, d2, t2, o2⟩ := s2
    have e1 : g2 = s.gens := mv.gens
    have e2 : d2 = s.drawn := mv.drawn
    have e3 : o2 = s.os := mv.os
    subst e1 e2 e3
    obtain ⟨o, es, ep, t, ho, hex, hd, _, _, _, hf, hcnt⟩ := hS
    refine hR _ ⟨h2, t2, rfl, fun b u e => ?_, o, es, ep, t, ho, hex, hd, hf, hcnt, by omega⟩
    obtain ⟨n1, n2⟩ := fresh_sub (c := (s.heap.push (setO (ledOf X.w))).objs.size) e rfl (size_le _ _)
    exact mv.heap b u (by simp only [List.mem_cons, List.not_mem_nil, or_false, not_or]; exact ⟨n1, n2⟩) (Heap.get?_push_of_some _ (Heap.get?_push_of_some _ e))
theorem set_tups {kd : Kd} {a : Addr} {ts : List (Addr × List Int)} {Q : Value → Shared → Prop} (hc : X.calm = true) (hu : X.A.units + 65 < cLine) (I : Inv X pins σ H s) (hl : sqV kd X.K H a (ts.map fun p => V.ref p.1)) (ht : ∀ p ∈ ts, SqT X.K H p.1 (p.2.map V.int)) (hz : ts.length < 64)
    (hQ : ∀ s2, Inv X pins σ H s2 → (∀ (E : Value → Shared → Prop) (Q2 : Value → Shared → Prop), (∀ t s3, Inv X pins σ H s3 → Q2 (.int ((onceL (ts.map (·.2))).length : Nat) t) s3) → wpAny (model X.prog X.w) X.A (call (.builtin "len") [.ref s.heap.objs.size]) Q2 E s2) → Q (.ref s.heap.objs.size) s2) :
    wpAny (model X.prog X.w) X.A (call (.type "set") [.ref a]) Q X.xe s := by
  obtain ⟨its, rv, hi⟩ := inv_sq I hl
  have hh : X.A.in1.in1.in1.handled = none := I.ok.hd hc
  have la := sq_lt hi
  have hn : its.toArray.size = ts.length := by rw [List.size_toArray, ← rv.length, List.length_map]
  have ne : a ≠ (s.heap.push (setO (ledOf X.w))).objs.size := Nat.ne_of_lt (Nat.lt_of_lt_of_le la (size_le _ _))
  have nl : (onceL (ts.map (·.2))).length < 64 := by
    have z := onceL_len (ts.map (·.2))
    rw [List.length_map] at z
    omega
  have nn : ∀ b, s.heap.objs.size ≤ b → s.heap.get? b = none := fun b hb => by
    cases q : s.heap.get? b with
    | none => rfl
    | some o => exact absurd (Nat.lt_of_lt_of_le (Heap.lt_size q) hb) (Nat.lt_irrefl _)
  refine set_len (n := (onceL (ts.map (·.2))).length) I hi (fun R hR => ?_) hQ
  have at0 : ((s.heap.push (setO (ledOf X.w))).push (newIt kd a)).get? s.heap.objs.size = some (setO (ledOf X.w)) := Heap.get?_push_of_some _ (Heap.get?_push_size _ rfl)
  refine set_update_tups (P := X.prog) (w := X.w) (A := X.A.in1.in1) ((wks kd hh _ a ne its.toArray).toS) s.heap.objs.size (by simp only [List.mem_cons, List.not_mem_nil, or_false, not_or]; exact ⟨size_ne _ _, Nat.ne_of_gt la⟩) ts hn hz (fun i v hv => ?_) s.heap (fun p hp => I.isT (ht p hp)) (nn _ (Nat.le_refl _))
    (fun b hb => nn b (by rw [List.mem_singleton.mp hb]; exact size_le _ _)) (by show X.A.units + 1 + 1 + 1 < cLine; omega) (its.toArray.size - 0) 0 _ rfl (Nat.zero_le _) ⟨⟨_, Heap.get?_push_size _ rfl, rfl, rfl⟩, sq_push _ (sq_push _ hi)⟩ (fun b o e => Heap.get?_push_of_some _ (Heap.get?_push_of_some _ e)) ⟨[], #[], 0, _, setTR_fresh at0, Got.zero ts⟩ fun s2 L es ep t mv hS g kk => ?_
  · have ev : its = ts.map fun p => Value.ref p.1 := refs_of_vals rv
    have hv' : its[i]? = some v := by simpa using hv
    rw [ev, List.getElem?_map] at hv'
    cases q : ts[i]? with
    | none => rw [q] at hv'; cases hv'
    | some p => rw [q] at hv'; exact ⟨p, rfl, (Option.some.inj hv').symm⟩
  · obtain ⟨h2, g2, d2, t2, o2⟩ := s2
    have e1 : g2 = s.gens := mv.gens
    have e2 : d2 = s.drawn := mv.drawn
    have e3 : o2 = s.os := mv.os
    subst e1 e2 e3
    obtain ⟨o, ho, hex, hd⟩ := hS.ob
    have cnt : L.length = (onceL (ts.map (·.2))).length := by
      have z := once_count (l := ts.map (·.2)) hS.nd fun x => ⟨fun m => ?_, fun m => ?_⟩
      · rw [List.length_map] at z; exact z
      · obtain ⟨p, hp, rfl⟩ := List.mem_map.mp m
        exact List.mem_map.mpr ⟨p, List.mem_of_mem_take (g.sub p hp), rfl⟩
      · obtain ⟨p, hp, rfl⟩ := List.mem_map.mp m
        exact g.all p (by rw [hn, List.take_length]; exact hp)
    exact hR _ ⟨h2, t2, rfl, kk, o, es, ep, t, ho, hex, hd, hS.fits, hS.size.trans cnt, by omega⟩
/-- the reading of len(set(xs)) -/
def tLenSetQ (K : PySem.W.Frag) (ta : TE) : TE := fun σ H Q => ta σ H fun x H1 => ∃ n, (rKeys K x H1 n ∨ rTups K x H1 n) ∧ Q (.int (n : Nat)) H1
theorem pe_lenSetQ {X : Cx} {a : Expr} {ta : TE} {p p2 q pos : Pos} (hu : X.A.units + 65 < cLine) (hc : X.calm = true) (hg : Gl X "len") (hm : X.mg "len" = none) (hg2 : Gl X "set") (hm2 : X.mg "set" = none) (ha : PE X a ta)
    (na : starEach [a] X.env = (false, eval a X.env) :: starEach [] X.env := by rfl) : PE X (.Call (.Name "len" p) [.Call (.Name "set" p2) [a] [] q] [] pos) (tLenSetQ X.K ta) := by
  refine ⟨fun pins s σ H Q I h => ?_⟩
  refine Call_ (ld_blt I hg hm PySem.boot_len ?_)
  refine PyProof.Rows.callWith_builtin1 (PyProof.Rows.args_cons ?_ rfl) rfl rfl
  refine Call_ (ld_blt I hg2 hm2 (show bootBuiltins (Str.ofString "set") = some (.type "set") by decide +kernel) ?_)
  refine PyProof.Rows.callWith_type1 (PyProof.Rows.args_cons (thn (ha.run pins s σ H _ I h) fun v s1 ⟨x, H1, I1, r1, n, hn, q1⟩ => PyProof.Rows.args_nil ?_) na) na rfl
  rcases hn with ⟨kd, l, ks, rfl, hl, hz, rfl⟩ | ⟨kd, l, ts, rfl, hl, ht, hz, rfl⟩
  · obtain rfl : v = Value.ref l := r1
    exact set_keys hc I1 hl hz fun s2 I2 h2 => PyProof.Rows.args_nil (h2 _ _ fun t s3 I3 => ⟨.int _, H1, I3, ⟨_, rfl⟩, q1⟩)
  · obtain rfl : v = Value.ref l := r1
    exact set_tups hc hu I1 hl ht hz fun s2 I2 h2 => PyProof.Rows.args_nil (h2 _ _ fun t s3 I3 => ⟨.int _, H1, I3, ⟨_, rfl⟩, q1⟩)
end
end Dh
/-! list(zip(xs, ys)), lists and tuples -/
namespace Dh
open PySem PySem.Spec PyProof.Rows L2 PySem.W
section
variable {prog : Program} {w : World} {A : Around} {s : Shared} {z TI TO T i1 i2 a b : Addr} {f : Bool} {oT : Obj} {n1 n2 i : Nat} {fp1 fp2 : List Addr} {P1 P2 : Nat → Value → Prop} {St1 St2 : Nat → Heap → Prop}
/-- the next pair of a zip whose last tuple lives on -/
theorem zip_more {Q : Value → Shared → Prop} {E : Value → Shared → Prop} (S : ZipSep2 z TI TO i1 i2 fp1 fp2) (D1 : Draws prog w A i1 fp1 n1 P1 St1) (D2 : Draws prog w A i2 fp2 n2 P2 St2)
    (hz : IsZipHeld s.heap z TI TO T f) (hT : s.heap.get? T = some oT) (hTI : IsTupOf2 s.heap TI (.ref i1) (.ref i2)) (x1 : St1 i s.heap) (x2 : St2 i s.heap) (l1 : i < n1) (l2 : i < n2)
    (hQ : ∀ v1 v2 h' tk, P1 i v1 → P2 i v2 → IsZipHeld h' z TI TO T true → St1 (i + 1) h' → St2 (i + 1) h' → IsTupOf2 h' s.heap.objs.size v1 v2 → h'.objs.size = s.heap.objs.size + 1 →
      (∀ c o, c ≠ z → c ≠ i1 → c ≠ i2 → s.heap.get? c = some o → h'.get? c = some o) → Q (.ref s.heap.objs.size) { s with heap := h', toks := tk }) :
    wpAny (model prog w) A (Builtin.«zip.__next__» ⟨[.ref z], []⟩) (fun fin s' => ∃ v, fin = .done (.ret v) ∧ Q v s') E s := by
  obtain ⟨hp, g, d, tk0, os⟩ := s
  show wpAny (model prog w) A (field (.ref z) 2 >>= _) _ _ _
  refine wpAny_bind (wpAny_field hz rfl (x := .bool false) rfl (show wpAny (model prog w) A (field (.ref z) 3 >>= _) _ _ _ from ?_))
  refine wpAny_bind (wpAny_field hz rfl (x := .ref TI) rfl (wpAny_bind (wpAny_seqItems hTI rfl ?_)))
  show wpAny (model prog w) A (Builtin.SmallTypes.ownedTupleIsFree (.ref z) >>= _) _ _ _
  refine wpAny_bind (wpAny_tupleHeld_zip hz hT fun g0 hz0 b0 => ?_)
  simp only [Bool.false_eq_true, if_false]
  refine wpAny_bind (by
    rw [← Array.forIn_toList]
    simp only [List.forIn_cons, List.forIn_nil]
    refine wpAny_bind (wpAny_bind (wpAny_holding (show wpAny (model prog w) A (Builtin.SmallTypes.nextOf (.ref i1) >>= _) _ _ ⟨g0, g, d, tk0, os⟩ from ?_)))
    refine wpAny_bind (D1.item i _ _ _ l1 (D1.over x1 b0 S.zf1) fun v1 g1 tk1 p1 y1 b1 => wpAny_pure (wpAny_pure ?_))
    refine wpAny_bind (wpAny_bind (wpAny_holding (show wpAny (model prog w) A (Builtin.SmallTypes.nextOf (.ref i2) >>= _) _ _ ⟨g1, g, d, tk1, os⟩ from ?_)))
    refine wpAny_bind (D2.item i _ _ _ l2 (D2.over (D2.over x2 b0 S.zf2) b1 S.sep1_2) fun v2 g2 tk2 p2 y2 b2 => wpAny_pure (wpAny_pure (wpAny_pure ?_)))
    show wpAny (model prog w) A (newTuple [v1, v2] >>= _) _ _ ⟨g2, g, d, tk2, os⟩
    refine wpAny_bind (wpAny_newTuple (wpAny_pure ⟨_, rfl, ?_⟩))
    have e0 : g2.objs.size = hp.objs.size := by rw [b2.1, b1.1, b0.1]
    have zz : IsZipHeld g2 z TI TO T true := b2.extBut _ _ S.zi2 (b1.extBut _ _ S.zi1 hz0)
    have kk : ∀ c o, c ≠ z → c ≠ i1 → c ≠ i2 → hp.get? c = some o → g2.get? c = some o := fun c o c0 c1 c2 e => b2.extBut _ _ c2 (b1.extBut _ _ c1 (b0.extBut _ _ c0 e))
    have up : ∀ {c : Addr} {o u : Obj}, g2.get? c = some o → (g2.push u).get? c = some o := fun e => Heap.get?_push_of_some _ e
    have pr : IsTupOf2 (g2.push { cls := .type "tuple", data := .seq #[v1, v2] }) g2.objs.size v1 v2 := Heap.get?_push_size _ rfl
    have sz : (g2.push { cls := .type "tuple", data := .seq #[v1, v2] }).objs.size = g2.objs.size + 1 := Heap.size_push ..
    show Q (.ref g2.objs.size) _
    rw [e0] at pr sz ⊢
    exact hQ v1 v2 _ tk2 p1 p2 (up zz) (D1.frame _ _ _ (D1.over y1 b2 S.sep2_1) fun c _ o e => up e) (D2.frame _ _ _ y2 fun c _ o e => up e) pr sz fun c o c0 c1 c2 e => up (kk c o c0 c1 c2 e))
theorem zip_over {Q : Fin → Shared → Prop} {E : Value → Shared → Prop} (S : ZipSep2 z TI TO i1 i2 fp1 fp2) (D1 : Draws prog w A i1 fp1 n1 P1 St1) (D2 : Draws prog w A i2 fp2 n2 P2 St2)
    (hz : IsZipHeld s.heap z TI TO T f) (hT : s.heap.get? T = some oT) (hTI : IsTupOf2 s.heap TI (.ref i1) (.ref i2)) (x1 : St1 i s.heap) (x2 : St2 i s.heap) (l1 : i ≤ n1) (l2 : i ≤ n2) (le : i = n1 ∨ i = n2)
    (hE : ∀ h' tk e, (∀ c o, c ≠ z → c ≠ i1 → c ≠ i2 → s.heap.get? c = some o → h'.get? c = some o) → (∃ o, h'.get? e = some o ∧ o.cls = .type "StopIteration") → E (.ref e) { s with heap := h', toks := tk }) :
    wpAny (model prog w) A (Builtin.«zip.__next__» ⟨[.ref z], []⟩) Q E s := by
  obtain ⟨hp, g, d, tk0, os⟩ := s
  show wpAny (model prog w) A (field (.ref z) 2 >>= _) _ _ _
  refine wpAny_bind (wpAny_field hz rfl (x := .bool false) rfl (show wpAny (model prog w) A (field (.ref z) 3 >>= _) _ _ _ from ?_))
  refine wpAny_bind (wpAny_field hz rfl (x := .ref TI) rfl (wpAny_bind (wpAny_seqItems hTI rfl ?_)))
  show wpAny (model prog w) A (Builtin.SmallTypes.ownedTupleIsFree (.ref z) >>= _) _ _ _
  refine wpAny_bind (wpAny_tupleHeld_zip hz hT fun g0 hz0 b0 => ?_)
  simp only [Bool.false_eq_true, if_false]
  refine wpAny_bind (by
    rw [← Array.forIn_toList]
    simp only [List.forIn_cons, List.forIn_nil]
    refine wpAny_bind (wpAny_bind (wpAny_holding (show wpAny (model prog w) A (Builtin.SmallTypes.nextOf (.ref i1) >>= _) _ _ ⟨g0, g, d, tk0, os⟩ from ?_)))
    by_cases h1 : i < n1
    · refine wpAny_bind (D1.item i _ _ _ h1 (D1.over x1 b0 S.zf1) fun v1 g1 tk1 p1 y1 b1 => wpAny_pure (wpAny_pure ?_))
      have h2 : i = n2 := by omega
      refine wpAny_bind (wpAny_bind (wpAny_holding (show wpAny (model prog w) A (Builtin.SmallTypes.nextOf (.ref i2) >>= _) _ _ ⟨g1, g, d, tk1, os⟩ from ?_)))
      refine wpAny_bind (D2.done ⟨g1, g, d, tk1, os⟩ _ _ (by rw [← h2]; exact D2.over (D2.over x2 b0 S.zf2) b1 S.sep1_2) fun q e hq he => ?_)
      exact hE q tk1 e (fun c o c0 c1 c2 x => hq _ _ c2 (b1.extBut _ _ c1 (b0.extBut _ _ c0 x))) he
    · have h2 : i = n1 := by omega
      refine wpAny_bind (D1.done ⟨g0, g, d, tk0, os⟩ _ _ (by rw [← h2]; exact D1.over x1 b0 S.zf1) fun q e hq he => ?_)
      exact hE q tk0 e (fun c o c0 c1 c2 x => hq _ _ c1 (b0.extBut _ _ c0 x)) he)
theorem next_more {Q : Option Value → Shared → Prop} {E : Value → Shared → Prop} (S : ZipSep2 z TI TO i1 i2 fp1 fp2) (D1 : Draws prog w A.in1 i1 fp1 n1 P1 St1) (D2 : Draws prog w A.in1 i2 fp2 n2 P2 St2)
    (hz : IsZipHeld s.heap z TI TO T f) (hT : s.heap.get? T = some oT) (hTI : IsTupOf2 s.heap TI (.ref i1) (.ref i2)) (x1 : St1 i s.heap) (x2 : St2 i s.heap) (l1 : i < n1) (l2 : i < n2)
    (hQ : ∀ v1 v2 h' tk, P1 i v1 → P2 i v2 → IsZipHeld h' z TI TO T true → St1 (i + 1) h' → St2 (i + 1) h' → IsTupOf2 h' s.heap.objs.size v1 v2 → h'.objs.size = s.heap.objs.size + 1 →
      (∀ c o, c ≠ z → c ≠ i1 → c ≠ i2 → s.heap.get? c = some o → h'.get? c = some o) → Q (some (.ref s.heap.objs.size)) { s with heap := h', toks := tk }) :
    wpAny (model prog w) A (pyNext (.ref z)) Q E s := by
  have ty : s.TypeIs (.ref z) "zip" := ⟨_, hz, rfl⟩
  unfold pyNext
  exact wpAny_bind (wpAny_attempt (wpAny_callSpecial?_slot (name := Str.ofString "__next__") ty F.slot_zip_next (wpAny_call_entry F.slot_zip_next ty F.entry_zip_next
    (zip_more S D1 D2 hz hT hTI x1 x2 l1 l2 fun v1 v2 h' tk p1 p2 a1 a2 a3 a4 a5 a6 => wpAny_pure (hQ v1 v2 h' tk p1 p2 a1 a2 a3 a4 a5 a6)) (F.args_zip_next_1 _))))
theorem next_over {Q : Option Value → Shared → Prop} {E : Value → Shared → Prop} (S : ZipSep2 z TI TO i1 i2 fp1 fp2) (D1 : Draws prog w A.in1 i1 fp1 n1 P1 St1) (D2 : Draws prog w A.in1 i2 fp2 n2 P2 St2)
    (hz : IsZipHeld s.heap z TI TO T f) (hT : s.heap.get? T = some oT) (hTI : IsTupOf2 s.heap TI (.ref i1) (.ref i2)) (x1 : St1 i s.heap) (x2 : St2 i s.heap) (l1 : i ≤ n1) (l2 : i ≤ n2) (le : i = n1 ∨ i = n2)
    (hQ : ∀ h' tk, (∀ c o, c ≠ z → c ≠ i1 → c ≠ i2 → s.heap.get? c = some o → h'.get? c = some o) → Q none { s with heap := h', toks := tk }) :
    wpAny (model prog w) A (pyNext (.ref z)) Q E s := by
  have ty : s.TypeIs (.ref z) "zip" := ⟨_, hz, rfl⟩
  unfold pyNext
  refine wpAny_bind (wpAny_attempt (wpAny_callSpecial?_slot (name := Str.ofString "__next__") ty F.slot_zip_next (wpAny_call_entry F.slot_zip_next ty F.entry_zip_next
    (zip_over S D1 D2 hz hT hTI x1 x2 l1 l2 le fun h' tk e hk he => ?_) (F.args_zip_next_1 _))))
  obtain ⟨o, ho, hc⟩ := he
  exact wpAny_bind (wpAny_isInstance (T := "StopIteration") (b := true) ⟨o, ho, hc⟩ isSubtype_stop (wpAny_pure (hQ _ tk hk)))
end
/-- tuples were made, one behind another -/
inductive Grown (H : Hp) : List (Addr × V × V) → Hp → Prop where
  | nil : Grown H [] H
  | snoc {ts : List (Addr × V × V)} {G : Hp} {T : Addr} {x y : V} (g : Grown H ts G) (n : G T = none) : Grown H (ts ++ [(T, x, y)]) (upd G T (.tup [x, y]))
theorem Grown.same {H G : Hp} {ts : List (Addr × V × V)} (g : Grown H ts G) : Same H G := by
  induction g with
  | nil => exact fun b o e => e
  | snoc g n ih => exact fun b o e => by rw [upd_ne (ne_of_none (ih b o e) n)]; exact ih b o e
def refsT (ts : List (Addr × V × V)) : List V := ts.map fun t => V.ref t.1
theorem sq_up {k : Kd} {K : PySem.W.Frag} {H G : Hp} {a : Addr} {xs : List V} (sm : Same H G) (q : sqV k K H a xs) : sqV k K G a xs := by
  cases k with
  | l => exact sm.seq q
  | t => exact q.imp (fun z => z.imp (fun e => sm _ _ e) fun ⟨o, e⟩ => ⟨o, sm _ _ e⟩) id
theorem upd_swap {H : Hp} {a b : Addr} {o u : HO} (n : a ≠ b) : upd (upd H a o) b u = upd (upd H b u) a o := by
  funext c
  unfold upd
  by_cases h1 : c = a
  · subst h1; rw [if_neg n, if_pos rfl, if_pos rfl]
  · by_cases h2 : c = b
    · subst h2; rw [if_pos rfl, if_neg h1, if_pos rfl]
    · rw [if_neg h2, if_neg h1, if_neg h1, if_neg h2]
section
variable {X : Cx} {pins : List (Addr × Obj)} {σ : L2.St} {H : Hp}
/-- the state of list(zip(..)) behind i turns -/
structure ZL (X : Cx) (pins : List (Addr × Obj)) (σ : L2.St) (H : Hp) (k1 k2 : Kd) (a b z TI TO i1 i2 S : Addr) (xs ys : List V) (i : Nat) (ts : List (Addr × V × V)) (G : Hp) (s : Shared) : Prop where
  inv : Inv X pins σ (upd G S (.lst (refsT ts))) s
  gr : Grown H ts G
  hS : G S = none
  vals : ts.map (·.2) = (xs.zip ys).take i
  len : ts.length = i
  le : i ≤ min xs.length ys.length
  fp : ∀ c ∈ [z, TI, TO, i1, i2], FpOk X pins (upd G S (.lst (refsT ts))) c
  lt : ∀ c ∈ [z, TI, TO, i1, i2], c < s.heap.objs.size
  hTI : IsTupOf2 s.heap TI (.ref i1) (.ref i2)
  it1 : isIt k1 s.heap i1 a i
  it2 : isIt k2 s.heap i2 b i
  st : (IsZip s.heap z TI TO .none ∧ ∃ x y, IsTupOf2 s.heap TO x y) ∨ ∃ T f oT, IsZipHeld s.heap z TI TO T f ∧ s.heap.get? T = some oT ∧ T ∉ [z, TI, TO, i1, i2] ∧ T ≠ S
theorem zl_loop {A : Around} (eA : A = X.A.in1) (hc : X.calm = true) {k1 k2 : Kd} {a b z TI TO i1 i2 S : Addr} {xs ys : List V} (D : Apart z TI TO i1 i2 a b) (qx : sqV k1 X.K H a xs) (qy : sqV k2 X.K H b ys) (hz : min xs.length ys.length ≤ sizeLine) {R : Result → Shared → Prop} {res : Value}
    (hR : ∀ ts G s', Grown H ts G → G S = none → ts.map (·.2) = xs.zip ys → Inv X pins σ (upd G S (.lst (refsT ts))) s' → R (.ok (.ret res)) s') :
    ∀ (m i : Nat) (s : Shared) (ts : List (Addr × V × V)) (G : Hp), min xs.length ys.length - i = m → ZL X pins σ H k1 k2 a b z TI TO i1 i2 S xs ys i ts G s →
      codeAny (model X.prog X.w) A (.builtin "list.extend.loop" ⟨[.ref S, .ref z, res], []⟩) R s := by
  subst eA
  intro m
  induction m with
  | zero =>
    intro i s ts G em L
    have I := L.inv
    have sm : Same H (upd G S (.lst (refsT ts))) := fun c o e => by rw [upd_ne (ne_of_none (L.gr.same c o e) L.hS)]; exact L.gr.same c o e
    obtain ⟨its, rv, s1⟩ := inv_sq (k := k1) (a := a) (xs := xs) I (sq_up sm qx)
    obtain ⟨jts, rw', s2⟩ := inv_sq (k := k2) (a := b) (xs := ys) I (sq_up sm qy)
    have hh : X.A.in1.in1.in1.handled = none := I.ok.hd hc
    have e1 := rv.length
    have e2 := rw'.length
    have hle := L.le
    refine codeAny_builtin F.entry_extend_loop ?_
    rw [Around.under_plainId (id := "list.extend.loop") F.plain_extend_loop _]
    show wpAny (model X.prog X.w) X.A.in1.in1 (pyNext (.ref z) >>= _) _ _ s
    have fin : ∀ h' tk, (∀ c o, c ∉ [z, TI, TO, i1, i2] → s.heap.get? c = some o → h'.get? c = some o) → R (.ok (.ret res)) { s with heap := h', toks := tk } := fun h' tk kk =>
      hR ts G _ L.gr L.hS (by rw [L.vals]; exact List.take_of_length_le (by rw [List.length_zip]; omega)) (I.turnedL (t' := tk) (ch := [z, TI, TO, i1, i2]) kk L.fp)
    have nn : ∀ {c : Addr}, c ∉ [z, TI, TO, i1, i2] → c ≠ z ∧ c ≠ TI ∧ c ≠ TO ∧ c ≠ i1 ∧ c ≠ i2 := fun h => by simpa using h
    rcases L.st with ⟨hz0, x0, y0, hTO⟩ | ⟨T, f, oT, hz0, hT, nT, _⟩
    · refine wpAny_bind (wpAny_pyNext_zipD2_end D.sep (draws k1 hh i1 a D.q.2.2.1 its.toArray) (draws k2 hh i2 b D.q.2.2.2.2.2.2.2 jts.toArray) hz0 L.hTI hTO ⟨L.it1, s1⟩ ⟨L.it2, s2⟩ (by simp; omega) (by simp; omega) (by simp; omega) fun h' tk hk => wpAny_pure (fin h' tk fun c o hb q => ?_))
      have n := nn hb
      exact hk c o n.1 n.2.2.1 n.2.2.2.1 n.2.2.2.2 q
    · refine wpAny_bind (next_over D.sep (draws k1 hh i1 a D.q.2.2.1 its.toArray) (draws k2 hh i2 b D.q.2.2.2.2.2.2.2 jts.toArray) hz0 hT L.hTI ⟨L.it1, s1⟩ ⟨L.it2, s2⟩ (by simp; omega) (by simp; omega) (by simp; omega) fun h' tk hk => wpAny_pure (fin h' tk fun c o hb q => ?_))
      have n := nn hb
      exact hk c o n.1 n.2.2.2.1 n.2.2.2.2 q
  | succ m ih =>
    intro i s ts G em L
    have I := L.inv
    have sm : Same H (upd G S (.lst (refsT ts))) := fun c o e => by rw [upd_ne (ne_of_none (L.gr.same c o e) L.hS)]; exact L.gr.same c o e
    obtain ⟨its, rv, s1⟩ := inv_sq (k := k1) (a := a) (xs := xs) I (sq_up sm qx)
    obtain ⟨jts, rw', s2⟩ := inv_sq (k := k2) (a := b) (xs := ys) I (sq_up sm qy)
    have hh : X.A.in1.in1.in1.handled = none := I.ok.hd hc
    have e1 := rv.length
    have e2 := rw'.length
    have lx : i < xs.length := by omega
    have ly : i < ys.length := by omega
    obtain ⟨u1, hu1, ru1⟩ := rv.get (List.getElem?_eq_getElem lx)
    obtain ⟨u2, hu2, ru2⟩ := rw'.get (List.getElem?_eq_getElem ly)
    have l1 : i < its.toArray.size := by simp; omega
    have l2 : i < jts.toArray.size := by simp; omega
    refine codeAny_builtin F.entry_extend_loop ?_
    rw [Around.under_plainId (id := "list.extend.loop") F.plain_extend_loop _]
    show wpAny (model X.prog X.w) X.A.in1.in1 (pyNext (.ref z) >>= _) _ _ s
    have nn : ∀ {c : Addr}, c ∉ [z, TI, TO, i1, i2] → c ≠ z ∧ c ≠ TI ∧ c ≠ TO ∧ c ≠ i1 ∧ c ≠ i2 := fun h => by simpa using h
    obtain ⟨⟨p1, p2, p3, p4, p5, p6, p7, p8, p9, p10⟩, _⟩ := id D
    have nS0 : s.heap.objs.size ≠ S := fun q => by
      have w : (upd G S (.lst (refsT ts))) s.heap.objs.size = none := I.hok.fresh (Nat.le_refl _)
      rw [q, upd_same] at w; cases w
    have fin : ∀ v1 v2 h' tk, its.toArray[i]? = some v1 → jts.toArray[i]? = some v2 → (∃ T f oT, IsZipHeld h' z TI TO T f ∧ h'.get? T = some oT ∧ T ∉ [z, TI, TO, i1, i2] ∧ T ≠ S) → IsTupOf2 h' s.heap.objs.size v1 v2 → isIt k1 h' i1 a (i + 1) → isIt k2 h' i2 b (i + 1) → IsTupOf2 h' TI (.ref i1) (.ref i2) → h'.objs.size = s.heap.objs.size + 1 →
        (∀ c o, c ∉ [z, TI, TO, i1, i2] → s.heap.get? c = some o → h'.get? c = some o) →
        wpAny (model X.prog X.w) X.A.in1.in1 (updateSeq S (·.push (.ref s.heap.objs.size)) >>= fun _ => again (.builtin "list.extend.loop" ⟨[.ref S, .ref z, res], []⟩))
          (fun fin s' => match fin with | .done f => R (.ok f) s' | .again c' => c'.quiet = true ∧ codeAny (model X.prog X.w) X.A.in1 c' R s') (fun e s' => R (.error e) s') { s with heap := h', toks := tk } := by
      intro v1 v2 h' tk q1 q2 ⟨T2, f, oT2, hz1, hT2, nT2, nS2⟩ hT j1 j2 hTI1 hsz kk
      have ev1 : v1 = u1 := by
        have q : its[i]? = some v1 := by simpa using q1
        rw [hu1] at q; exact (Option.some.inj q).symm
      have ev2 : v2 = u2 := by
        have q : jts[i]? = some v2 := by simpa using q2
        rw [hu2] at q; exact (Option.some.inj q).symm
      subst ev1 ev2
      have nT : (upd G S (.lst (refsT ts))) s.heap.objs.size = none := I.hok.fresh (Nat.le_refl _)
      have nTS : s.heap.objs.size ≠ S := fun q => by rw [q, upd_same] at nT; cases nT
      have nTG : G s.heap.objs.size = none := by rw [upd_ne nTS] at nT; exact nT
      have new : ObjOk X.prog X.w (upd (upd G S (.lst (refsT ts))) s.heap.objs.size (.tup [xs[i], ys[i]])) h' s.heap.objs.size (.tup [xs[i], ys[i]]) := ⟨by show 2 ≤ sizeLine; decide, [v1, v2], .cons ru1 (.cons ru2 .nil), _, hT, rfl, _, rfl⟩
      have J := I.turnedNew (t' := tk) (ch := [z, TI, TO, i1, i2]) kk L.fp (Nat.le_refl _) new
      rw [upd_swap (Ne.symm nTS)] at J
      obtain ⟨zz, jt, n, rj, hl, e⟩ := J.lstM (xs := refsT ts) upd_same
      have ll : jt.length = ts.length := by rw [← rj.length]; unfold refsT; rw [List.length_map]
      have lle : ts.length + 1 ≤ sizeLine := by rw [L.len]; omega
      have rr : Vals (refsT (ts ++ [(s.heap.objs.size, xs[i], ys[i])])) (jt ++ [.ref s.heap.objs.size]) := by
        unfold refsT
        rw [List.map_append]
        exact rj.append (.cons rfl .nil)
      have J2 := J.lset (t' := tk) (its' := jt ++ [.ref s.heap.objs.size]) (f := (·.push (.ref s.heap.objs.size))) upd_same e (by simp) rr (by unfold refsT; rw [List.length_map, List.length_append]; exact lle)
      rw [upd_upd] at J2
      refine wpAny_bind (wpAny_updateSeq e rfl (wpAny_pure ⟨plainId_quiet F.plain_extend_loop _, ih (i + 1) _ (ts ++ [(s.heap.objs.size, xs[i], ys[i])]) (upd G s.heap.objs.size (.tup [xs[i], ys[i]])) (by omega) ?_⟩) (by rw [List.size_toArray, ll]; omega) (by rw [Array.size_push, List.size_toArray, ll]; omega))
      have nS : ∀ c ∈ [z, TI, TO, i1, i2], c ≠ S := fun c hm q => by
        have w := (L.fp c hm).1
        rw [q, upd_same] at w; cases w
      have old : ∀ c o, c ≠ S → h'.get? c = some o → (h'.update S (Obj.mapSeq (·.push (.ref s.heap.objs.size)))).get? c = some o := fun c o hn q => (Heap.get?_update_other _ _ (Ne.symm hn)).trans q
      have ltT : ∀ c ∈ [z, TI, TO, i1, i2], c ≠ s.heap.objs.size := fun c hm => Nat.ne_of_lt (L.lt c hm)
      refine ⟨J2, L.gr.snoc nTG, by rw [upd_ne (Ne.symm nTS)]; exact L.hS, ?_, by rw [List.length_append, L.len]; rfl, by omega, fun c hm => ?_, fun c hm => ?_, ?_, ?_, ?_, .inr ⟨T2, f, oT2, old _ _ (nS z (by simp)) hz1, old _ _ nS2 hT2, nT2, nS2⟩⟩
      · rw [List.map_append, L.vals, List.take_add_one, show (xs.zip ys)[i]? = some (xs[i], ys[i]) from List.getElem?_zip_eq_some.mpr ⟨List.getElem?_eq_getElem lx, List.getElem?_eq_getElem ly⟩]
        rfl
      · have w := L.fp c hm
        refine ⟨?_, w.2⟩
        rw [upd_ne (nS c hm), upd_ne (ltT c hm)]
        have w1 := w.1
        rw [upd_ne (nS c hm)] at w1
        exact w1
      · show c < (h'.update S _).objs.size
        rw [Heap.size_update, hsz]
        exact Nat.lt_succ_of_lt (L.lt c hm)
      · exact old _ _ (nS TI (by simp)) hTI1
      · exact it_at j1 fun o q => old _ _ (nS i1 (by simp)) q
      · exact it_at j2 fun o q => old _ _ (nS i2 (by simp)) q
    rcases L.st with ⟨hz0, x0, y0, hTO⟩ | ⟨T, f, oT, hz0, hT, nT, nTS⟩
    · refine wpAny_bind (wpAny_pyNext_zipD2_item D.sep (draws k1 hh i1 a D.q.2.2.1 its.toArray) (draws k2 hh i2 b D.q.2.2.2.2.2.2.2 jts.toArray) hz0 L.hTI hTO ⟨L.it1, s1⟩ ⟨L.it2, s2⟩ l1 l2 fun v1 v2 h' tk q1 q2 z' TO' y1 y2 hT hsz hk => fin v1 v2 h' tk q1 q2 ⟨s.heap.objs.size, false, _, z', hT, fun hm => Nat.lt_irrefl _ (L.lt _ hm), nS0⟩ hT y1.1 y2.1 (hk _ _ p1.symm p3 p7 p8 L.hTI) hsz fun c o hb q => ?_)
      have n := nn hb
      exact hk c o n.1 n.2.2.1 n.2.2.2.1 n.2.2.2.2 q
    · refine wpAny_bind (next_more D.sep (draws k1 hh i1 a D.q.2.2.1 its.toArray) (draws k2 hh i2 b D.q.2.2.2.2.2.2.2 jts.toArray) hz0 hT L.hTI ⟨L.it1, s1⟩ ⟨L.it2, s2⟩ l1 l2 fun v1 v2 h' tk q1 q2 z' y1 y2 hT2 hsz hk => fin v1 v2 h' tk q1 q2 ⟨T, true, oT, z', hk _ _ (nn nT).1 (nn nT).2.2.2.1 (nn nT).2.2.2.2 hT, nT, nTS⟩ hT2 y1.1 y2.1 (hk _ _ p1.symm p7 p8 L.hTI) hsz fun c o hb q => ?_)
      have n := nn hb
      exact hk c o n.1 n.2.2.2.1 n.2.2.2.2 q
theorem zip_nolen : typeLookup (.type "zip") "__len__" = pure none := by rw [typeLookup_type, builtinLookup_eq_fast]; kernel_rfl
theorem zip_nohint : typeLookup (.type "zip") "__length_hint__" = pure none := by rw [typeLookup_type, builtinLookup_eq_fast]; kernel_rfl
theorem ZL.touch {k1 k2 : Kd} {a b z TI TO i1 i2 S : Addr} {xs ys : List V} {s : Shared} {h' : Heap} {n : Nat} (L : ZL X pins σ H k1 k2 a b z TI TO i1 i2 S xs ys 0 [] H s) (k : ∀ b o, b ≠ S → s.heap.get? b = some o → h'.get? b = some o)
    (e : h'.get? S = some { cls := .type "list", data := .seq #[] n }) (hs : s.heap.objs.size ≤ h'.objs.size) : ZL X pins σ H k1 k2 a b z TI TO i1 i2 S xs ys 0 [] H { s with heap := h' } := by
  have nS : ∀ c ∈ [z, TI, TO, i1, i2], c ≠ S := fun c hm q => by
    have w := (L.fp c hm).1
    rw [q, upd_same] at w; cases w
  have J := L.inv.write (t' := s.toks) (h' := h') (x := S) (e := S) (o := .lst []) (by rw [upd_same]; exact trivial) (.inl rfl) (fun b u hb hu => k b u hb hu) ⟨_, e⟩ ⟨Nat.zero_le _, [], n, .nil, e⟩
  rw [upd_upd] at J
  refine ⟨J, L.gr, L.hS, L.vals, L.len, L.le, L.fp, fun c hm => Nat.lt_of_lt_of_le (L.lt c hm) hs, k _ _ (nS TI (by simp)) L.hTI, it_at L.it1 fun o q => k _ _ (nS i1 (by simp)) q, it_at L.it2 fun o q => k _ _ (nS i2 (by simp)) q, ?_⟩
  rcases L.st with ⟨q, x, y, q2⟩ | ⟨T, f, oT, q, qT, n1, n2⟩
  · exact .inl ⟨k _ _ (nS z (by simp)) q, x, y, k _ _ (nS TO (by simp)) q2⟩
  · exact .inr ⟨T, f, oT, k _ _ (nS z (by simp)) q, k _ _ n2 qT, n1, n2⟩
theorem upd_heap {h : Heap} {S : Addr} {xs : Array Value} {n : Nat} {f : Array Value → Array Value} (e : h.get? S = some { cls := .type "list", data := .seq xs n }) : (∃ m, (h.update S (Obj.mapSeq f)).get? S = some { cls := .type "list", data := .seq (f xs) m }) ∧
    (∀ b o, b ≠ S → h.get? b = some o → (h.update S (Obj.mapSeq f)).get? b = some o) ∧ (h.update S (Obj.mapSeq f)).objs.size = h.objs.size :=
  ⟨⟨_, PySem.IsL.update e f⟩, fun b o hb q => (Heap.get?_update_other _ _ (Ne.symm hb)).trans q, Heap.size_update ..⟩
/-- list.__init__ of a zip, the list empty -/
theorem zl_init {A B : Around} (eA : A = X.A.in1.in1) (eB : B = X.A.in1) (hc : X.calm = true) {k1 k2 : Kd} {a b z TI TO i1 i2 S : Addr} {xs ys : List V} (D : Apart z TI TO i1 i2 a b) (qx : sqV k1 X.K H a xs) (qy : sqV k2 X.K H b ys) (hz : min xs.length ys.length ≤ sizeLine) {R : Result → Shared → Prop} {s : Shared} {n : Nat}
    (L : ZL X pins σ H k1 k2 a b z TI TO i1 i2 S xs ys 0 [] H s) (hzip : IsZip s.heap z TI TO .none) (hS : s.heap.get? S = some { cls := .type "list", data := .seq #[] n })
    (hR : ∀ ts G s', Grown H ts G → G S = none → ts.map (·.2) = xs.zip ys → Inv X pins σ (upd G S (.lst (refsT ts))) s' → R (.ok (.ret .none)) s') :
    wpAny (model X.prog X.w) A (Builtin.«list.__init__» ⟨[.ref S, .ref z], []⟩) (fun fin s' => match fin with | .done f => R (.ok f) s' | .again c' => c'.quiet = true ∧ codeAny (model X.prog X.w) B c' R s') (fun e s' => R (.error e) s') s := by
  subst eA
  have zS : z ≠ S := fun q => by
    have w := (L.fp z (by simp)).1
    rw [q, upd_same] at w; cases w
  show wpAny (model X.prog X.w) X.A.in1.in1 (do let old ← Builtin.List.listItems (.ref S); Builtin.List.listUpdate (.ref S) (fun _ => #[]); letGo old.toList.reverse; Builtin.List.listExtendWith (.ref S) (.ref z) .none) _ _ s
  unfold Builtin.List.listItems
  refine wpAny_bind (wpAny_bind (wpAny_seqItems hS rfl (wpAny_pure (show wpAny (model X.prog X.w) X.A.in1.in1 (updateSeq S (fun _ => #[]) >>= fun _ => letGo (#[] : Array Value).toList.reverse >>= fun _ => Builtin.List.listExtendWith (.ref S) (.ref z) .none) _ _ s from ?_))))
  obtain ⟨⟨m1, e1⟩, k1', z1⟩ := upd_heap (f := fun _ => (#[] : Array Value)) hS
  refine wpAny_bind (wpAny_updateSeq hS rfl (wpAny_bind (wpAny_letGo ?_)))
  have L1 := L.touch k1' e1 (Nat.le_of_eq z1.symm)
  have h1 : Builtin.List.listSameRef (.ref S) (.ref z) = false := by simp [Builtin.List.listSameRef, Ne.symm zS]
  have h2 : (Value.type "zip" == Value.type "list") = false := by decide
  have h3 : (Value.type "zip" == Value.type "tuple") = false := by decide
  have zz : IsZip (s.heap.update S (Obj.mapSeq fun _ => (#[] : Array Value))) z TI TO .none := k1' _ _ zS hzip
  have ty : Shared.TypeIs { s with heap := s.heap.update S (Obj.mapSeq fun _ => (#[] : Array Value)) } (.ref z) "zip" := ⟨_, zz, rfl⟩
  unfold Builtin.List.listExtendWith
  refine wpAny_bind (wpAny_typeOf ty ?_)
  simp only [h1, h2, h3, Bool.or_false, Bool.false_eq_true, if_false]
  refine wpAny_bind (wpAny_pyIter_zip zz (wpAny_bind (wpAny_holding ?_)))
  unfold Builtin.List.listLengthHint
  refine wpAny_bind (wpAny_specialOf ty zip_nolen (show wpAny (model X.prog X.w) X.A.in1.in1 (specialOf (Value.ref z) (Str.ofString "__length_hint__") >>= _) _ _ _ from ?_))
  refine wpAny_bind (wpAny_specialOf ty zip_nohint (wpAny_pure ?_))
  show wpAny (model X.prog X.w) X.A.in1.in1 (rule "list.extend.makes-room" >>= fun _ => Builtin.List.listTouch (.ref S) >>= fun _ => again (.builtin "list.extend.loop" ⟨[.ref S, .ref z, .none], []⟩)) _ _ _
  refine wpAny_bind (wpAny_rule (wpAny_bind (show wpAny (model X.prog X.w) X.A.in1.in1 (updateSeq S (·.push .none) >>= fun _ => updateSeq S (·.pop)) _ _ _ from ?_)))
  obtain ⟨⟨m2, e2⟩, k2', z2⟩ := upd_heap (f := (·.push Value.none)) e1
  obtain ⟨⟨m3, e3⟩, k3', z3⟩ := upd_heap (f := (·.pop)) e2
  refine wpAny_bind (wpAny_updateSeq e1 rfl (wpAny_updateSeq (hz := by simp [sizeLine_eq]) e2 rfl (wpAny_pure ⟨plainId_quiet F.plain_extend_loop _, ?_⟩) (by simp [sizeLine_eq])))
  have L3 := (L1.touch (h' := ((s.heap.update S (Obj.mapSeq fun _ => (#[] : Array Value))).update S (Obj.mapSeq (·.push Value.none))).update S (Obj.mapSeq (·.pop))) (fun c o hn q => k3' c o hn (k2' c o hn q)) e3 (Nat.le_of_eq (z2.symm.trans z3.symm)))
  exact zl_loop eB hc D qx qy hz hR _ 0 _ [] H rfl L3
/-- list(zip(xs, ys)) -/
def tLstZip (K : PySem.W.Frag) (ta : TA) : TE := fun σ H Q => ta σ H fun vs H1 => ∃ k1 k2 a b xs ys, vs = [.ref a, .ref b] ∧ sqV k1 K H1 a xs ∧ sqV k2 K H1 b ys ∧ ∀ ts G S, Grown H1 ts G → ts.map (·.2) = xs.zip ys → G S = none → Q (.ref S) (upd G S (.lst (refsT ts)))
end
theorem pe_listZip {X : Cx} {e e2 : Expr} {ta : TA} {p p2 pos pos2 : Pos} (hc : X.calm = true) (hg : Gl X "list") (hm : X.mg "list" = none) (hg2 : Gl X "zip") (hm2 : X.mg "zip" = none) (ha : PA X [e, e2] ta)
    (hs : starEach [e, e2] X.env = (false, eval e X.env) :: starEach [e2] X.env := by rfl) (hpl : (backTo pos2 (starEach [e2] X.env)).any (·.1) = false := by rfl)
    (na : starEach [.Call (.Name "zip" p2) [e, e2] [] pos2] X.env = (false, eval (.Call (.Name "zip" p2) [e, e2] [] pos2) X.env) :: starEach [] X.env := by rfl) : PE X (.Call (.Name "list" p) [.Call (.Name "zip" p2) [e, e2] [] pos2] [] pos) (tLstZip X.K ta) := by
  refine ⟨fun pins s σ H Q I h => Call_ (ld_blt I hg hm boot_list (PyProof.Rows.callWith_type1 (args_cons ?_ na) na))⟩
  refine Call_ (ld_blt I hg2 hm2 PyProof.Rows.boot_zip (PyProof.Rows.callWith_type1 (thn (ha.run pos2 pins s σ H _ I h) fun us s1 ⟨vs, H1, I1, r1, q1⟩ => ?_) hs hpl))
  obtain ⟨k1, k2, a, b, xs, ys, ex, qx, qy, q⟩ := q1
  subst ex
  rw [two_refs r1]
  obtain ⟨its, rv, w1⟩ := inv_sq I1 qx
  obtain ⟨jts, rw', w2⟩ := inv_sq I1 qy
  have hz : min xs.length ys.length ≤ sizeLine := by
    have z : xs.length ≤ sizeLine := by
      cases k1 with
      | l => obtain ⟨its2, r2, _, z⟩ := I1.list qx; exact z
      | t => obtain ⟨its2, r2, _, z⟩ := I1.tuple qx; exact z
    exact Nat.le_trans (Nat.min_le_left _ _) z
  refine call_zip w1 w2 fun h' n en hz0 hTI hTO h1 h2 hk => args_nil ?_
  have I2 : Inv X pins σ H1 { s1 with heap := h' } := I1.kept (t' := s1.toks) hk
  have la := sq_lt w1
  have lb := sq_lt w2
  rw [← en] at la lb
  have up : ∀ {c : Addr} {o u : Obj}, h'.get? c = some o → (h'.push u).get? c = some o := fun e => Heap.get?_push_of_some _ e
  have nS : H1 h'.objs.size = none := I2.hok.fresh (Nat.le_refl _)
  have J : Inv X pins σ (upd H1 h'.objs.size (.lst [])) { s1 with heap := h'.push { cls := .type "list", data := .seq #[] } } := I2.laid (t' := s1.toks) (fun c o e => up e) (Nat.le_refl _) ⟨Nat.zero_le _, [], 0, .nil, Heap.get?_push_size _ rfl⟩
  have live : ∀ c ∈ [n + 4, n + 2, n + 3, n, n + 1], c < h'.objs.size := fun c hm => by
    rcases mem5 hm with rfl | rfl | rfl | rfl | rfl
    · exact Heap.lt_size hz0
    · exact Heap.lt_size hTI
    · exact Heap.lt_size hTO
    · obtain ⟨_, e1, _⟩ := h1; exact Heap.lt_size e1
    · obtain ⟨_, e2, _⟩ := h2; exact Heap.lt_size e2
  refine PySem.callType_codes (Q₁ := fun ob s2 => ob = .ref h'.objs.size ∧ s2 = { s1 with heap := h'.push { cls := .type "list", data := .seq #[] } }) F.called_list (F.typeCall_list_1 _) F.entry_list_init (PySem.code_list_new _ ⟨rfl, rfl⟩) fun ob s2 h3 => ?_
  obtain ⟨rfl, rfl⟩ := h3
  refine ⟨⟨_, Heap.get?_push_size _ rfl, rfl⟩, F.args_list_init_2 _ _, ?_⟩
  refine zl_init (k1 := k1) (k2 := k2) (n := 0) rfl rfl hc ⟨(ap_key n a b la lb).1, (ap_key n a b la lb).2⟩ qx qy hz ⟨J, .nil, nS, rfl, rfl, Nat.zero_le _, fun c hcm => ?_, fun c hcm => ?_, up hTI, it_at h1 fun o q => up q, it_at h2 fun o q => up q, .inl ⟨up hz0, _, _, up hTO⟩⟩ (up hz0) (Heap.get?_push_size _ rfl) fun ts G s3 gr nG ev I3 => ?_
  · have hle : s1.heap.objs.size ≤ c := by
      rw [← en]
      exact le_key n c (mem5 hcm)
    have nH : (upd H1 h'.objs.size (.lst [])) c = none := by
      rw [upd_ne (Nat.ne_of_lt (live c hcm))]
      exact I1.hok.fresh hle
    exact I1.fpOk hle nH
  · show c < (h'.push _).objs.size
    rw [Heap.size_push]
    exact Nat.lt_succ_of_lt (live c hcm)
  · exact ⟨rfl, .ref _, _, I3, rfl, q ts G _ gr ev nG⟩
end Dh
namespace Dl
open PySem PySem.Spec PyProof.Rows L2 Dh
variable [LawT]
/-! ### comprehensions with two clauses -/
/-- any loop's reading, by an invariant -/
theorem loop_it {J : It} {n : Nat} {G : Hp → Prop} {Y : Nat → Hp → V → Hp → Prop} (w : Walk J n G Y) {B : V → Hp → (Hp → Prop) → Prop} {H1 : Hp} {Qd : Hp → Prop} (Pv : Nat → Hp → Prop) (h0 : Pv 0 H1) (hG : ∀ i H, i ≤ n → Pv i H → G H)
    (hs : ∀ i x H H', i < n → Pv i H → Y i H x H' → B x H' (Pv (i + 1))) (hd : ∀ H, Pv n H → Qd H) :
    ∃ W : Nat → Nat → Hp → Prop, (∃ m, W 0 m H1) ∧ ∀ i m H, W i m H → (J.stop i H ∧ Qd H) ∨ (J.go i H ∧ ∃ Nx : Hp → Prop, (∀ H', Nx H' → ∃ m', m' < m ∧ W (i + 1) m' H') ∧ ∀ x H', J.yld i H x H' → B x H' Nx) := by
  refine ⟨fun i m H => m = n - i ∧ i ≤ n ∧ Pv i H, ⟨n, (Nat.sub_zero n).symm, Nat.zero_le _, h0⟩, ?_⟩
  rintro i m H ⟨rfl, hi, p⟩
  have q := hG i H hi p
  by_cases lt : i < n
  · exact .inr ⟨w.goes i H lt q, Pv (i + 1), fun H' p' => ⟨n - (i + 1), by omega, rfl, lt, p'⟩, fun x H' y => hs i x H H' lt p (w.yields i H x H' lt q y)⟩
  · have e : i = n := by omega
    subst e
    exact .inl ⟨w.stops H q, hd H p⟩
section
variable {W : XK} {K : PySem.W.Frag}
/-- one turn of a comprehension's loop -/
theorem lc_turn {c : Ctx} {σ : L2.St} {S H : Hp} {E : List Sl} {ps : Pn} {own js : List Nat} {tg : Tg} {tt : M Bool} {te : M D} {rest : List D → M (List D)} {acc accF : List D} {EF : List Sl} {psF : Pn} {Da : Addr} {xs : List V} {d : D} {x : V} {N : Hp → Prop} (hj : ∀ j ∈ js, j ∈ own) (hk : c.K = K)
    (t : Stt c S H (wipe σ own) E ps) (f : Free c S H (wipe σ own) E Da (.lst xs)) (ra : Reps c.K c.p S acc xs) (rd : Rep c.K c.p S d x) (eq : M.bnd (tg d) (fun _ => lcK own tt te rest acc) E ps = .ok accF EF psF)
    (fin : ∀ S' H' E' ps' acc' xs', Same S S' → Stt c S' H' (wipe σ own) E' ps' → Free c S' H' (wipe σ own) E' Da (.lst xs') → Reps c.K c.p S' acc' xs' → rest acc' E' ps' = .ok accF EF psF → N H') :
    tG K W0 js tg x (wipe σ own) H fun σ2 H2 => wipe σ2 own = wipe σ own ∧ tT K W0 tt σ2 H2 fun b H3 => if b = true then tM K W0 RD te σ2 H3 fun y H4 => ∃ acc, H4 Da = some (.lst acc) ∧ acc.length < sizeLine ∧ N (upd H4 Da (.lst (acc ++ [y]))) else N H3 := by
  have h0D : c.H0 Da = none := f.h0
  have sp : c.H0 c.p ≠ none := t.bs.hp
  have t4 := t.lend pln_lst f
  have s0D : c.S0 Da = none := by
    cases z : c.S0 Da with
    | none => rfl
    | some o => exact absurd ((t.bs.s0 Da o z).symm.trans f.s) (by intro q; cases q)
  have lD : upd c.H0 Da (.lst xs) Da ≠ none := by rw [upd_same]; intro z; cases z
  refine ⟨c.lend Da (.lst xs), S, E, ps, d, hk, t4, rd, ?_⟩
  cases e1 : tg d E ps with
  | err z ps' => rw [bnd_err e1] at eq; cases eq
  | bad => rw [bnd_bad e1] at eq; cases eq
  | ok u E3 ps3 =>
  rw [bnd_ok e1] at eq
  intro σ3 S3 H3 sm3 t5 bt
  have wq : wipe σ3 own = wipe σ own := wipe_but hj bt
  refine ⟨wq, c.lend Da (.lst xs), S3, E3, ps3, hk, t5, ?_⟩
  unfold lcK at eq
  cases e2 : tt E3 ps3 with
  | err z ps' => rw [bnd_err e2] at eq; cases eq
  | bad => rw [bnd_bad e2] at eq; cases eq
  | ok b E4 ps4 =>
  rw [bnd_ok e2] at eq
  intro S4 H4 sm4 t6
  cases b with
  | false =>
    rw [if_neg Bool.false_ne_true] at eq ⊢
    obtain ⟨t7, f7⟩ := t6.unlend pln_lst h0D sp
    have f8 := (f7 (t6.bs.fresh Da s0D lD)).wipe (own := own)
    have t8 := t7.wipe own
    rw [wq] at t8 f8
    exact fin S4 H4 (wipeE own E4) ps4 acc xs (sm3.trans sm4) t8 f8 (Reps.mono (sm3.trans sm4) acc ra) eq
  | true =>
    rw [if_pos rfl] at eq ⊢
    refine ⟨c.lend Da (.lst xs), S4, E4, ps4, hk, t6, ?_⟩
    cases e3 : te E4 ps4 with
    | err z ps' => rw [bnd_err e3] at eq; cases eq
    | bad => rw [bnd_bad e3] at eq; cases eq
    | ok yd E5 ps5 =>
    rw [bnd_ok e3] at eq
    intro v S5 H5 sm5 t8 rv
    obtain ⟨t9, f9⟩ := t8.unlend pln_lst h0D sp
    have f9 := f9 (t8.bs.fresh Da s0D lD)
    cases hf : fits (acc.length + 1) with
    | false => rw [hf] at eq; cases eq
    | true =>
    rw [hf] at eq
    obtain ⟨t10, f10⟩ := t9.bump (o' := .lst (xs ++ [v])) pln_lst f9
    have t11 := t10.wipe own
    have f11 := f10.wipe (own := own)
    rw [wq] at t11 f11
    refine ⟨xs, f9.at', by rw [ra.length]; exact fits_le hf, ?_⟩
    exact fin S5 _ (wipeE own E5) ps5 (acc ++ [yd]) (xs ++ [v]) ((sm3.trans sm4).trans sm5) t11 f11 ((Reps.mono ((sm3.trans sm4).trans sm5) acc ra).append (.one rv)) eq
end
/-- the second clause's loop, then the rest of the first one's -/
def lc2K (own own1 : List Nat) (gi1 : M (List D)) (tg1 : Tg) (tt1 : M Bool) (te : M D) (rest : List D → M (List D)) (acc : List D) : M (List D) :=
  M.bnd gi1 fun ds => fun E ps => match lcG own1 tg1 tt1 te ds acc (wipeE own1 E) ps with
    | .ok acc' E' ps' => rest acc' (wipeE own E') ps'
    | _ => .bad
def lc2T (own own1 : List Nat) (tt : M Bool) (gi1 : M (List D)) (tg1 : Tg) (tt1 : M Bool) (te : M D) (rest : List D → M (List D)) (acc : List D) : M (List D) :=
  M.bnd tt fun b => if b then lc2K own own1 gi1 tg1 tt1 te rest acc else fun E ps => rest acc (wipeE own E) ps
def lc2G (own own1 : List Nat) (tg : Tg) (tt : M Bool) (gi1 : M (List D)) (tg1 : Tg) (tt1 : M Bool) (te : M D) : List D → List D → M (List D)
  | [], acc => M.ret acc
  | d :: r, acc => M.bnd (tg d) fun _ => lc2T own own1 tt gi1 tg1 tt1 te (lc2G own own1 tg tt gi1 tg1 tt1 te r) acc
def lc2M (own own1 : List Nat) (gi : M (List D)) (tg : Tg) (tt : M Bool) (gi1 : M (List D)) (tg1 : Tg) (tt1 : M Bool) (te : M D) : M Sl := M.bnd gi fun ds => fun E ps =>
  if noOwn own E then lcEnd own E (lc2G own own1 tg tt gi1 tg1 tt1 te ds [] (wipeE own E) ps) else .bad
theorem wipe_wipe {σ : L2.St} {own own1 : List Nat} (h : ∀ i ∈ own1, i ∈ own) : wipe (wipe σ own1) own = wipe σ own := by
  apply List.ext_getElem?
  intro i
  by_cases hi : i ∈ own
  · by_cases z : i < σ.length
    · rw [wipe_in hi (by rw [wipe_length]; exact z), wipe_in hi z]
    · rw [List.getElem?_eq_none (by rw [wipe_length, wipe_length]; omega), List.getElem?_eq_none (by rw [wipe_length]; omega)]
  · rw [wipe_out hi, wipe_out (fun z => hi (h i z)), wipe_out hi]
section
variable {X : Cx} {W : XK}
theorem lc2_read {gi gi1 : M (List D)} {tg tg1 : Tg} {tt tt1 : M Bool} {te : M D} {own own1 js js1 : List Nat} (hj : ∀ j ∈ js, j ∈ own) (hj1 : ∀ j ∈ js1, j ∈ own1) (ho1 : ∀ j ∈ own1, j ∈ own) {σ : L2.St} {H : Hp} {Q : VK} (q : tM X.K W RS (lc2M own own1 gi tg tt gi1 tg1 tt1 te) σ H Q) :
    tLc2 (tI X.K W gi) (tG X.K W0 js tg) (tT X.K W0 tt) (tI X.K W0 gi1) (tG X.K W0 js1 tg1) (tT X.K W0 tt1) (tM X.K W0 RD te) own own1 σ H Q := by
  obtain ⟨c, S, E, ps, hk, t, q⟩ := q
  refine ⟨c, S, E, ps, hk, t, PostI.bndL q fun ds E1 ps1 J S1 H1 sm1 t1 w p Da nD => ?_⟩
  cases hno : noOwn own E1 with
  | false => rw [hno] at p; exact p.elim
  | true =>
  rw [hno] at p
  have p : Post W RS c S1 σ Q (lcEnd own E1 (lc2G own own1 tg tt gi1 tg1 tt1 te ds [] (wipeE own E1) ps1)) := p
  cases ho : lc2G own own1 tg tt gi1 tg1 tt1 te ds [] (wipeE own E1) ps1 with
  | err x ps' => rw [ho] at p; exact p.elim
  | bad => rw [ho] at p; exact p.elim
  | ok accF EF psF =>
  rw [ho] at p
  have p : Post W RS c S1 σ Q (.ok (.ol accF) (resto own E1 EF) psF) := p
  have h0D : c.H0 Da = none := t1.bs.h0 nD
  have sp : c.H0 c.p ≠ none := t1.bs.hp
  have t2 : Stt c S1 (upd H1 Da (.lst [])) σ E1 ps1 := t1.grow (t1.bs.newO (o := .lst []) nD)
  have f2 : Free c S1 (upd H1 Da (.lst [])) σ E1 Da (.lst []) := ⟨upd_same, t1.bs.s_none nD, h0D, fun i s e os q => by
    obtain ⟨v, e1, ok⟩ := t1.slots i s e (fun z => by subst z; cases os)
    rw [q] at e1; cases e1
    obtain ⟨b, u, e2, _, _, h, _⟩ := ok.own_at os
    cases e2
    rw [nD] at h; cases h⟩
  have npD : Da ≠ c.p := fun z => sp (by rw [← z]; exact h0D)
  refine loop_it w (fun i H => ∃ S E ps acc xs, Same S1 S ∧ Stt c S H (wipe σ own) E ps ∧ Free c S H (wipe σ own) E Da (.lst xs) ∧ Reps c.K c.p S acc xs ∧ lc2G own own1 tg tt gi1 tg1 tt1 te (ds.drop i) acc E ps = .ok accF EF psF)
    ⟨S1, wipeE own E1, ps1, [], [], Same.refl _, t2.wipe own, f2.wipe, rfl, ho⟩ (fun i H _ ⟨S, E, ps, acc, xs, sm, t, _⟩ => fun a o e => t.bs.sub _ _ (sm _ _ e)) ?_ ?_
  · rintro i x H H' hi ⟨S, E, ps, acc, xs, sm, t, f, ra, eq⟩ ⟨d, ed, y⟩
    obtain ⟨S2, g, rd⟩ := y S ps sm t.bs.start
    have t3 := t.grow g
    have sm2 : Same S S2 := g.s0
    rw [drop_at ed] at eq
    have eq : M.bnd (tg d) (fun _ => lc2T own own1 tt gi1 tg1 tt1 te (lc2G own own1 tg tt gi1 tg1 tt1 te (ds.drop (i + 1))) acc) E ps = .ok accF EF psF := eq
    have f3 : Free c S2 H' (wipe σ own) E Da (.lst xs) := ⟨g.keep Da _ npD pln_lst.1 f.at', g.fresh Da f.s (show H Da ≠ none by rw [f.at']; intro z; cases z), h0D, f.no⟩
    have s0D : c.S0 Da = none := by
      cases z : c.S0 Da with
      | none => rfl
      | some o => exact absurd ((t.bs.s0 Da o z).symm.trans f.s) (by intro q; cases q)
    have lD : upd c.H0 Da (.lst xs) Da ≠ none := by rw [upd_same]; intro z; cases z
    refine ⟨c.lend Da (.lst xs), S2, E, ps, d, hk, t3.lend pln_lst f3, rd, ?_⟩
    cases e1 : tg d E ps with
    | err z ps' => rw [bnd_err e1] at eq; cases eq
    | bad => rw [bnd_bad e1] at eq; cases eq
    | ok u E3 ps3 =>
    rw [bnd_ok e1] at eq
    intro σ3 S3 H3 sm3 t5 bt
    have wq : wipe σ3 own = wipe σ own := wipe_but hj bt
    refine ⟨wq, c.lend Da (.lst xs), S3, E3, ps3, hk, t5, ?_⟩
    unfold lc2T at eq
    cases e2 : tt E3 ps3 with
    | err z ps' => rw [bnd_err e2] at eq; cases eq
    | bad => rw [bnd_bad e2] at eq; cases eq
    | ok b E4 ps4 =>
    rw [bnd_ok e2] at eq
    intro S4 H4 sm4 t6
    cases b with
    | false =>
      rw [if_neg Bool.false_ne_true] at eq ⊢
      obtain ⟨t7, f7⟩ := t6.unlend pln_lst h0D sp
      have f8 := (f7 (t6.bs.fresh Da s0D lD)).wipe (own := own)
      have t8 := t7.wipe own
      rw [wq] at t8 f8
      exact ⟨S4, wipeE own E4, ps4, acc, xs, ((sm.trans sm2).trans sm3).trans sm4, t8, f8, Reps.mono ((sm2.trans sm3).trans sm4) acc ra, eq⟩
    | true =>
      rw [if_pos rfl] at eq ⊢
      refine ⟨c.lend Da (.lst xs), S4, E4, ps4, hk, t6, ?_⟩
      unfold lc2K at eq
      cases e3 : gi1 E4 ps4 with
      | err z ps' => rw [bnd_err e3] at eq; cases eq
      | bad => rw [bnd_bad e3] at eq; cases eq
      | ok ds1 E5 ps5 =>
      rw [bnd_ok e3] at eq
      intro J1 S5 H5 sm5 t7 w1
      obtain ⟨t8, f8⟩ := t7.unlend pln_lst h0D sp
      have f8 := f8 (t7.bs.fresh Da s0D lD)
      have sm6 : Same S S5 := ((sm2.trans sm3).trans sm4).trans sm5
      have eq : (match lcG own1 tg1 tt1 te ds1 acc (wipeE own1 E5) ps5 with
        | .ok acc' E' ps' => lc2G own own1 tg tt gi1 tg1 tt1 te (ds.drop (i + 1)) acc' (wipeE own E') ps'
        | _ => .bad) = .ok accF EF psF := eq
      cases hi1 : lcG own1 tg1 tt1 te ds1 acc (wipeE own1 E5) ps5 with
      | err z ps' => rw [hi1] at eq; cases eq
      | bad => rw [hi1] at eq; cases eq
      | ok accI EI psI =>
      rw [hi1] at eq
      have eq : lc2G own own1 tg tt gi1 tg1 tt1 te (ds.drop (i + 1)) accI (wipeE own EI) psI = .ok accF EF psF := eq
      refine loop_it w1 (fun j H => ∃ S E ps acc xs, Same S5 S ∧ Stt c S H (wipe σ3 own1) E ps ∧ Free c S H (wipe σ3 own1) E Da (.lst xs) ∧ Reps c.K c.p S acc xs ∧ lcG own1 tg1 tt1 te (ds1.drop j) acc E ps = .ok accI EI psI)
        ⟨S5, wipeE own1 E5, ps5, acc, xs, Same.refl _, t8.wipe own1, f8.wipe, Reps.mono sm6 acc ra, hi1⟩ (fun j H _ ⟨S, E, ps, acc, xs, sm, t, _⟩ => fun a o e => t.bs.sub _ _ (sm _ _ e)) ?_ ?_
      · rintro j x1 H6 H7 hj2 ⟨S6, E6, ps6, acc6, xs6, sm7, t9, f9, ra9, eq9⟩ ⟨d1, ed1, y1⟩
        obtain ⟨S7, g7, rd7⟩ := y1 S6 ps6 sm7 t9.bs.start
        rw [drop_at ed1] at eq9
        have eq9 : M.bnd (tg1 d1) (fun _ => lcK own1 tt1 te (lcG own1 tg1 tt1 te (ds1.drop (j + 1))) acc6) E6 ps6 = .ok accI EI psI := eq9
        have f10 : Free c S7 H7 (wipe σ3 own1) E6 Da (.lst xs6) := ⟨g7.keep Da _ npD pln_lst.1 f9.at', g7.fresh Da f9.s (show H6 Da ≠ none by rw [f9.at']; intro z; cases z), h0D, f9.no⟩
        have sm8 : Same S6 S7 := g7.s0
        exact lc_turn hj1 hk (t9.grow g7) f10 (Reps.mono sm8 acc6 ra9) rd7 eq9 fun S8 H8 E8 ps8 acc8 xs8 sm9 t11 f11 ra11 eq11 => ⟨S8, E8, ps8, acc8, xs8, (sm7.trans sm8).trans sm9, t11, f11, ra11, eq11⟩
      · rintro H6 ⟨S6, E6, ps6, acc6, xs6, sm7, t9, f9, ra9, eq9⟩
        rw [List.drop_length] at eq9
        have eq9 : Out.ok acc6 E6 ps6 = .ok accI EI psI := eq9
        cases eq9
        have t10 := t9.wipe own
        have f10 := f9.wipe (own := own)
        rw [wipe_wipe ho1, wq] at t10 f10
        exact ⟨S6, wipeE own EI, psI, accI, xs6, (sm.trans sm6).trans sm7, t10, f10, ra9, eq⟩
  · rintro H ⟨S, E, ps, acc, xs, sm, t, f, ra, eq⟩
    rw [List.drop_length] at eq
    have eq : Out.ok acc E ps = .ok accF EF psF := eq
    cases eq
    have t9 := t.unwipe t1 sm (noOwn_of hno)
    refine p (.ref Da) S H sm t9 ⟨(fun z => by cases z), ⟨Da, xs, rfl, f.s, h0D, f.at', ra⟩, fun _ j u e os q => ?_⟩
    rcases resto_get e (fun z => by subst z; cases os) with ⟨h1, h2⟩ | ⟨h1, h2⟩
    · exact f.no j u h2 os (by rw [wipe_out h1]; exact q)
    · rw [noOwn_of hno j h1 u h2] at os; cases os
abbrev Blks (X : Cx) (scope : Scope) (Pd : Cx → Prop) : Prop := ∀ (s : Shared) (H : Hp) (C : Addr) (cl : List (Str × Addr)) (fp : List Addr), Pd (X.blk s H scope (compEnvC scope cl C X.env) fp)
theorem de_lc2 {elt tge iter tge1 iter1 : Expr} {ifs ifs1 : List Expr} {scope : Scope} {own : List (Str × Nat)} {own1 : List Nat} {pos : Pos} {gi gi1 : M (List D)} {tg tg1 : Tg} {tt tt1 : M Bool} {te : M D} {js js1 : List Nat} (hc : X.calm = true) (hN : X.N.Nodup) (hi : DI X W tge iter gi) (ok : BlkOk X.N X.env.scope scope own)
    (hj : ∀ j ∈ js, j ∈ own.map (·.2)) (hj1 : ∀ j ∈ js1, j ∈ own1) (ho1 : ∀ j ∈ own1, j ∈ own.map (·.2)) (hg : Blks X scope fun Y => DG Y W0 tge js tg) (ht : Blks X scope fun Y => PTs Y ifs (tT X.K W0 tt)) (hi1 : Blks X scope fun Y => DI Y W0 tge1 iter1 gi1) (hg1 : Blks X scope fun Y => DG Y W0 tge1 js1 tg1) (ht1 : Blks X scope fun Y => PTs Y ifs1 (tT X.K W0 tt1))
    (he : Blks X scope fun Y => DV Y W0 elt te) (hs : ∀ x, foldedSetIterable iter X.env x = pure x := by intro _; rfl) (hs1 : ∀ env x, foldedSetIterable iter1 env x = pure x := by intro _ _; rfl) :
    DE X W (.ListComp elt [⟨tge, iter, ifs, 0⟩, ⟨tge1, iter1, ifs1, 0⟩] scope pos) (lc2M (own.map (·.2)) own1 gi tg tt gi1 tg1 tt1 te) :=
  pe_imp (pe_lc2 (g := tG X.K W0 js tg) (tt := tT X.K W0 tt) (te := tM X.K W0 RD te) (wi1 := tI X.K W0 gi1) (g1 := tG X.K W0 js1 tg1) (tt1 := tT X.K W0 tt1) hc hN hi ok ho1 (fun s H C cl fp => hg s H C cl fp) ht (fun s H C cl fp => hi1 s H C cl fp) (fun s H C cl fp => hg1 s H C cl fp) ht1 (fun s H C cl fp => he s H C cl fp) hs hs1) fun σ H Q q => lc2_read hj hj1 ho1 q
theorem ds_setLc2 {i : Nat} {y : Str} {py : Pos} {elt tge iter tge1 iter1 : Expr} {ifs ifs1 : List Expr} {scope : Scope} {own : List (Str × Nat)} {own1 : List Nat} {pos spos : Pos} {gi gi1 : M (List D)} {tg tg1 : Tg} {tt tt1 : M Bool} {te : M D} {js js1 : List Nat} (hc : X.calm = true) (hN : X.N.Nodup) (hy : X.N[i]? = some y) (hyl : X.env.scope.names.lookup y = some .local)
    (hsw : swapsWith (.ListComp elt [⟨tge, iter, ifs, 0⟩, ⟨tge1, iter1, ifs1, 0⟩] scope pos) (some (.Name y py)) spos.line X.env = pure true) (hi : DI X W tge iter gi) (ok : BlkOk X.N X.env.scope scope own)
    (hj : ∀ j ∈ js, j ∈ own.map (·.2)) (hj1 : ∀ j ∈ js1, j ∈ own1) (ho1 : ∀ j ∈ own1, j ∈ own.map (·.2)) (hg : Blks X scope fun Y => DG Y W0 tge js tg) (ht : Blks X scope fun Y => PTs Y ifs (tT X.K W0 tt)) (hi1 : Blks X scope fun Y => DI Y W0 tge1 iter1 gi1) (hg1 : Blks X scope fun Y => DG Y W0 tge1 js1 tg1) (ht1 : Blks X scope fun Y => PTs Y ifs1 (tT X.K W0 tt1))
    (he : Blks X scope fun Y => DV Y W0 elt te) (hs : ∀ x, foldedSetIterable iter X.env x = pure x := by intro _; rfl) (hs1 : ∀ env x, foldedSetIterable iter1 env x = pure x := by intro _ _; rfl) :
    DS X W (.Assign [.Name y py] (.ListComp elt [⟨tge, iter, ifs, 0⟩, ⟨tge1, iter1, ifs1, 0⟩] scope pos) spos) (setM i (lc2M (own.map (·.2)) own1 gi tg tt gi1 tg1 tt1 te)) :=
  ps_imp (ps_setLc2 (g := tG X.K W0 js tg) (tt := tT X.K W0 tt) (te := tM X.K W0 RD te) (wi1 := tI X.K W0 gi1) (g1 := tG X.K W0 js1 tg1) (tt1 := tT X.K W0 tt1) hc hN hy hyl hsw hi ok ho1 (fun s H C cl fp => hg s H C cl fp) ht (fun s H C cl fp => hi1 s H C cl fp) (fun s H C cl fp => hg1 s H C cl fp) ht1 (fun s H C cl fp => he s H C cl fp) hs hs1) fun De σ H q => by
    obtain ⟨c, S, E, ps, hk, t, q⟩ := q
    refine lc2_read hj hj1 ho1 ⟨c, S, E, ps, hk, t, PostS.bnd q fun a E' ps' v S' H' sm t' r p => ?_⟩
    exact p (σ.set i (some v)) S' H' (Same.refl _) (t'.put r)
end
end Dl
/-! sorted(xs), xs a list or a tuple of ints; sorting as a function -/
namespace Dh
open PySem PySem.Spec PyProof.Rows L2
def insB {α : Type} (lt : α → α → Bool) (x : α) : List α → List α
  | [] => [x]
  | y :: ys => if lt y x then y :: insB lt x ys else x :: y :: ys
def isort {α : Type} (lt : α → α → Bool) : List α → List α
  | [] => []
  | x :: xs => insB lt x (isort lt xs)
section
variable {α : Type} {lt : α → α → Bool}
theorem insB_perm (x : α) : ∀ l : List α, (insB lt x l).Perm (x :: l)
  | [] => .refl _
  | y :: ys => by
    unfold insB
    cases lt y x with
    | false => exact .refl _
    | true => exact (List.Perm.cons y (insB_perm x ys)).trans (List.Perm.swap x y ys)
theorem isort_perm : ∀ l : List α, (isort lt l).Perm l
  | [] => .refl _
  | x :: xs => (insB_perm x _).trans (List.Perm.cons x (isort_perm xs))
theorem insB_srtd (O : SrtO.Swo lt) (x : α) : ∀ l : List α, SrtO.Srtd lt l → SrtO.Srtd lt (insB lt x l)
  | [], _ => List.pairwise_singleton _ _
  | y :: ys, h => by
    have h' := List.pairwise_cons.mp h
    unfold insB
    cases e : lt y x with
    | true =>
      refine List.pairwise_cons.mpr ⟨fun z hz => ?_, insB_srtd O x ys h'.2⟩
      rcases List.mem_cons.mp ((insB_perm x ys).mem_iff.mp hz) with q | q
      · rw [q]; exact O.asym _ _ e
      · exact h'.1 z q
    | false =>
      refine List.pairwise_cons.mpr ⟨fun z hz => ?_, h⟩
      rcases List.mem_cons.mp hz with q | q
      · rw [q]; exact e
      · exact O.tr x y z e (h'.1 z q)
theorem isort_srtd (O : SrtO.Swo lt) : ∀ l : List α, SrtO.Srtd lt (isort lt l)
  | [] => .nil
  | x :: xs => insB_srtd O x _ (isort_srtd O xs)
/-- where unlike ones are in order, there is one sorted list -/
theorem srtd_unique (O : SrtO.Swo lt) (anti : ∀ a b, lt a b = false → lt b a = false → a = b) {l m : List α} (hl : SrtO.Srtd lt l) (p : l.Perm m) : l = isort lt m :=
  List.Perm.eq_of_pairwise (le := fun x y => lt y x = false) (fun a b _ _ h1 h2 => anti a b h2 h1) hl (isort_srtd O m) (p.trans (isort_perm m).symm)
theorem isort_id (O : SrtO.Swo lt) (anti : ∀ a b, lt a b = false → lt b a = false → a = b) {l : List α} (hl : SrtO.Srtd lt l) : isort lt l = l := (srtd_unique O anti hl (.refl _)).symm
end
def ltZ (a b : Int) : Bool := decide (a < b)
theorem swo_ltZ : SrtO.Swo ltZ := ⟨fun x y h => decide_eq_false (by have := of_decide_eq_true h; omega), fun x y z h1 h2 => decide_eq_false (by have a := of_decide_eq_false h1; have b := of_decide_eq_false h2; omega)⟩
theorem anti_ltZ : ∀ a b : Int, ltZ a b = false → ltZ b a = false → a = b := fun a b h1 h2 => by have x := of_decide_eq_false h1; have y := of_decide_eq_false h2; omega
theorem swo_lex0 : SrtO.Swo lexI := swo_lexI id
def rSortQI (K : PySem.W.Frag) : List V → Hp → VK → Prop := fun vs H Q => ∃ (kd : Kd) (a : Addr) (ns : List Int), vs = [V.ref a] ∧ sqV kd K H a (ns.map V.int) ∧ ∀ p, H p = none → Q (.ref p) (upd H p (.lst ((isort ltZ ns).map V.int)))
theorem cr_sortQI {X : Cx} : CallR X (.builtin "sorted") (rSortQI X.K) := by
  intro pins s σ H xs us Q I r h
  obtain ⟨kd, a, ns, rfl, hs, q⟩ := h
  obtain ⟨its, rv, hl⟩ := inv_sq I hs
  have hz : ns.length ≤ sizeLine := by
    have z : (ns.map V.int).length ≤ sizeLine := by
      cases kd with
      | l => obtain ⟨its2, r2, _, z⟩ := I.list hs; exact z
      | t => obtain ⟨its2, r2, _, z⟩ := I.tuple hs; exact z
    rwa [List.length_map] at z
  rw [Vals.ref1 r]
  have hi := rv.ints
  have lv : its.length = ns.length := by rw [← rv.length, List.length_map]
  refine call_sortedQ hl (by rw [List.size_toArray, lv]; exact hz) fun h' kk => ?_
  have e3 : its.toArray.toList = its := by simp
  rw [e3]
  have ho : (h'.push (seqObj "list" its.toArray 0)).get? h'.objs.size = some (seqObj "list" its.toArray 0) := Heap.get?_push_size _ rfl
  refine wpAny_call_entry slot_list_sort ⟨_, ho, rfl⟩ entry_list_sort (SrtO.list_sort_ord (s := { s with heap := h'.push (seqObj "list" its.toArray 0) }) SrtO.swo_int ho (by rw [lv]; exact hz) (fun h2 => SrtO.ints_sortable hi h2) fun out h1 h2 => ⟨_, rfl, ?_⟩) (args_list_sort _)
  obtain ⟨k1, k2, k3⟩ := SrtO.ints_out hi h1 h2
  have nH : H h'.objs.size = none := (I.hok.kept kk).fresh (Nat.le_refl _)
  have nS : s.heap.get? h'.objs.size = none := by
    cases z : s.heap.get? h'.objs.size with
    | none => rfl
    | some o => exact absurd (Heap.lt_size (kk _ _ z)) (Nat.lt_irrefl _)
  have ev : out.map SrtO.iv = isort ltZ ns := srtd_unique swo_ltZ anti_ltZ (k3.imp fun {x y} z => decide_eq_false (by omega)) k2
  obtain ⟨⟨ep, he'⟩, hold⟩ := srt_at (vs := its) (out := out.toArray) ho
  rw [ev] at k1
  refine ⟨.ref _, upd H h'.objs.size (.lst ((isort ltZ ns).map V.int)), I.laidN (t' := s.toks) (fun b o e => ?_) nS nH ⟨by rw [List.length_map, (isort_perm ns).length_eq]; exact hz, out, ep, vals_of_ints k1, he'⟩, rfl, q _ nH⟩
  refine hold b o (fun z => ?_) (Heap.get?_push_of_some _ (kk b o e))
  subst z
  exact absurd (Heap.lt_size (kk _ _ e)) (Nat.lt_irrefl _)
/-- repr(x) where nothing is being shown -/
def rRepr (K : PySem.W.Frag) : List V → Hp → VK → Prop := fun vs H Q => ∃ x d, vs = [x] ∧ Dp K H x d ∧ d.showable = true ∧ d.hasDict = false ∧ d.depth ≤ 60 ∧ d.shown.length ≤ sizeLine ∧ Q (.str d.shown) H
theorem cr_repr {X : Cx} (hg : X.A.guards = some []) (hu : X.A.units + 65 < cLine) : CallR X (.builtin "repr") (rRepr X.K) := by
  intro pins s σ H xs us Q I r h
  obtain ⟨x, d, rfl, hd, hs, hn, hdp, hz, q⟩ := h
  obtain ⟨u, rfl, ru⟩ := vals1 r
  have ref : ∀ a, u = .ref a → wpAny (model X.prog X.w) X.A (call (.builtin "repr") [u]) (EP X pins σ Q) X.xe s := fun a eu => by
    subst eu
    obtain ⟨as, rd⟩ := Dp.reads I d x _ hd ru
    exact PySem.repr_of_reads' (h₀ := s.heap) rd hs (fun z => by rw [hn] at z; cases z) hg (by omega) (fun _ _ e => e) (fun h' u tk kk => ⟨.str d.shown, H, I.kept kk, ⟨_, rfl⟩, q⟩) hz
  cases hd with
  | lst _ _ => cases ru; exact ref _ rfl
  | tup _ _ => cases ru; exact ref _ rfl
  | non => cases ru; exact PySem.P.repr_of_none ⟨.str _, H, I.tok _, ⟨_, rfl⟩, q⟩
  | bl b => cases ru; exact PySem.P.repr_of_bool ⟨.str _, H, I.tok _, ⟨_, rfl⟩, q⟩
  | int i => obtain ⟨t, rfl⟩ := ru; exact PySem.P.repr_of_int (of_decide_eq_true hs) ⟨.str _, H, I.tok _, ⟨_, rfl⟩, q⟩
  | str y => obtain ⟨t, rfl⟩ := ru; exact PySem.P.repr_of_str ⟨.str _, H, I.tok _, ⟨_, rfl⟩, q⟩ hz
end Dh
/-! the law's def where it is called first of all: nothing is being shown -/
namespace Dh
open PySem PySem.Spec PyProof.Rows L2
/-- a def's promise where nothing is being shown -/
structure FnG (P : Program) (w : World) (K : PySem.W.Frag) (mg : Str → Option Value) (base : Heap) (CX : CXT) (k : Nat) (f : Addr) (fd : FuncData) (ps : List Str) (sp : Sp) : Prop where
  len : ∀ vs H Q E, sp vs H Q E → vs.length = ps.length
  run : ∀ (A : Around) (outer : List Env) (s : Shared) (H : Hp) (args : Args) (us : List Value) (vs : List V) (Q : VK) (E : XK), Room k A → A.guards = some [] → Env0 P w K mg base A outer s H → BindsTo s fd args (ps.zip us) → Vals vs us → sp vs H Q E →
    codeAny (model P w) A (.call (.ref f) args) (CR CX outer P w H s Q E) s
theorem fnG_of {CX : CXT} {P : Program} {w : World} {K : PySem.W.Frag} {mg : Str → Option Value} {base : Heap} {k : Nat} {f : Addr} {name qual : Str} {params : Arguments} {body : List Stmt} {scope : Scope} {dV kV doc pm cdv ct oc : Value} {an od : Option Addr}
    {osl : Array (Option Value)} {N ps : List Str} {sp : Sp} (lk : K.lookup f = some ⟨oc, od, .func (PySem.W.fnOf name qual params body scope dV kV doc pm an cdv ct), osl⟩) (hcd : PySem.W.codeIn K cdv qual = true) (S : FnScope N ps scope) (len : ∀ vs H Q E, sp vs H Q E → vs.length = ps.length)
    (hbody : ∀ (A : Around) (outer : List Env) (s : Shared) (H : Hp) (vs : List V) (Q : VK) (E : XK), Room k (A.deeper (envOfC qual scope s.heap.objs.size f cdv)) → A.guards = some [] → sp vs H Q E →
      ∃ t, PSs (cxOf CX P w K mg base N qual scope f cdv A outer s H E) body t ∧ t { nx := fun _ H' => Q .non H', rt := Q } (start N vs) H) : FnG P w K mg base CX (k + 1) f (PySem.W.fnOf name qual params body scope dV kV doc pm an cdv ct) ps sp := by
  refine ⟨len, fun A outer s H args us vs Q E hr hgd e0 hb r hsp => ?_⟩
  have up : ∀ b o, base.get? b = some o → s.heap.get? b = some o := fun b o e => (e0.bs b o e).1
  have kin : K.In s.heap := e0.mod.kin.keeps up
  have lim : s.heap.NoLimit := e0.mod.nolimit.keeps up
  have par : ∀ y ∈ ps.zip us, scope.names.lookup y.1 = some .local ∨ (scope.names.lookup y.1 = some .cell ∧ ((cellsFrom (s.heap.objs.size + 1) scope.names []).lookup y.1).isSome = true) := by
    rintro ⟨n, v⟩ hy
    exact (S.par n (List.of_mem_zip hy).1).imp id fun q => ⟨q, PySem.W.cellsFrom_some _ _ _ (.inl q)⟩
  refine codeAny_call_function hr.depth (kin _ _ lk) rfl S.co S.gen rfl (PySem.W.codeRec_of kin hcd) (hb _ _ _ _ (wpAny_newFunctionEnv_cells S.kind par fun env he s1 x => ?_))
  subst he
  refine ⟨lim.keeps x.toInCall.keep, codeAny_func ?_⟩
  obtain ⟨t, ht, hq⟩ := hbody A outer s H vs Q E (hr.deeper _) hgd hsp
  have I : L2.Inv (cxOf CX P w K mg base N qual scope f cdv A outer s H E) [] (start N vs) H s1 := inv_start S hr.hd e0 (len _ _ _ _ hsp) r x
  refine wpAny_mono (ht.run [] s1 (start N vs) H _ I hq) (fun fl s2 hs => ?_) fun e s2 hs => hs
  cases fl with
  | brk => obtain ⟨_, _, _, q⟩ := hs; exact q.elim
  | cont => obtain ⟨_, _, _, q⟩ := hs; exact q.elim
  | ret u =>
    obtain ⟨v, σ2, H2, J, rv, q⟩ := hs
    exact ⟨v, H2, J.os, J.bare, J.base, J.hok, rv, q⟩
  | next =>
    obtain ⟨σ2, H2, J, q⟩ := hs
    exact ⟨V.non, H2, J.os, J.bare, J.base, J.hok, rfl, q⟩
theorem callG {P : Program} {w : World} {K : PySem.W.Frag} {mg mb : Str → Option Value} {CX : CXT} {k : Nat} {fa a : Addr} {fd : FuncData} {x : Str} {sp : Sp} {s1 : Shared} {vs : List Value} {ns : List Int}
    (KX : K.In s1.heap) (hns : s1.heap.Ns mainGlobals mg) (hb : s1.heap.Ns builtinsNs mb) (hbb : ∀ x : Str, x ≠ "__name__" → mb x = bootBuiltins x) (hlim : s1.heap.NoLimit) (hg : s1.gens = #[])
    (ha : s1.heap.get? a = some { cls := .type "list", data := .seq vs.toArray }) (hi : IntsAre vs ns) (hl : ns.length ≤ sizeLine) (hr : Room k callerA)
    (F : ∀ base : Heap, K.In base → base.Ns mainGlobals mg → FnG P w K mg base CX k fa fd [x] sp) (hbind : ∀ (s : Shared) (u : Value), BindsTo s fd ⟨[u], []⟩ [(x, u)])
    (hsp : ∀ H : Hp, Only H → SqL K H a (ns.map V.int) → sp [.ref a] H (fun v _ => v = .bl true) fun _ _ _ => False) (hCX : ∀ H e s', CX [] H s1 (fun _ _ _ => False) e s' → False) :
    codeAny (model P w) callerA (.call (.ref fa) ⟨[.ref a], []⟩) (fun r s' => r = .ok (.ret (.bool true)) ∧ OldK s1.heap s'.heap ∧ s'.os = s1.os ∧ AllBare s'.gens) s1 := by
  have rv := vals_ints hi
  have core : ∀ H : Hp, Only H → SqL K H a (ns.map V.int) → HOk P w H s1.heap → (∀ b, H b ≠ none → b = a) → (H a ≠ none → K.lookup a = none) →
      codeAny (model P w) callerA (.call (.ref fa) ⟨[.ref a], []⟩) (fun r s' => r = .ok (.ret (.bool true)) ∧ OldK s1.heap s'.heap ∧ s'.os = s1.os ∧ AllBare s'.gens) s1 := by
    intro H hO hS hok hA hK
    have nodict : ∀ {b : Addr} {o : Obj} {es : Array DictEntry} {ep : Nat}, s1.heap.get? b = some o → o.data = .dict es ep → H b = none := by
      intro b o es ep e d
      cases q : H b with
      | none => rfl
      | some u =>
        have z := hA b (by rw [q]; exact fun z => by cases z)
        subst z
        rw [ha] at e
        cases e
        exact nomatch (show Data.seq vs.toArray _ = Data.dict es ep from d)
    have ns : ∀ {b : Addr} {m : Str → Option Value}, s1.heap.Ns b m → (hidT s1.heap H).Ns b m := by
      rintro b m ⟨o, es, ep, e, d, r⟩
      exact ⟨o, es, ep, hidT_get e (nodict e d), d, r⟩
    have kb : K.In (hidT s1.heap H) := by
      intro b o e
      refine hidT_get (KX b o e) ?_
      cases q : H b with
      | none => rfl
      | some u =>
        have z := hA b (by rw [q]; exact fun z => by cases z)
        subst z
        rw [hK (by rw [q]; exact fun z => by cases z)] at e
        cases e
    have md : Mod K mg (hidT s1.heap H) := ⟨kb, ns hns, ⟨mb, ns hb, hbb⟩, let ⟨mc, h1, h2⟩ := hlim; ⟨mc, ns h1, h2⟩⟩
    have e0 : Env0 P w K mg (hidT s1.heap H) callerA [] s1 H := ⟨rfl, md, fun b o e => of_hidT e, Nat.le_of_eq (hidT_size _ _), trivial, (fun b z => nomatch (show b ∈ ([] : List Addr) from z)), hok, .of_eq hg⟩
    refine codeAny_mono ((F _ kb (ns hns)).run callerA [] s1 H ⟨[.ref a], []⟩ [.ref a] [.ref a] _ _ hr rfl e0 (hbind s1 (.ref a)) (.cons rfl .nil) (hsp H hO hS)) fun r s2 h => ?_
    cases r with
    | error e => exact (hCX H e s2 h).elim
    | ok fl =>
      cases fl with
      | next => exact h.elim
      | brk => exact h.elim
      | cont => exact h.elim
      | ret u =>
        obtain ⟨v, H2, os, bare, un, hok2, r2, q⟩ := h
        have q : v = .bl true := q
        subst q
        obtain rfl : u = Value.bool true := r2
        refine ⟨rfl, OldK.of_keep fun b o e => ?_, os, bare⟩
        cases q : H b with
        | none => exact un.keep b o e q (fun z => nomatch (show b ∈ ([] : List Addr) from z)) (fun z => nomatch z)
        | some u =>
          rcases hO b with z | ⟨ob, xs, z⟩
          · rw [q] at z; cases z
          · obtain ⟨e1, _⟩ := hok b _ z
            obtain ⟨e2, _⟩ := hok2 b _ (un.frzs b ob _ z)
            rw [e] at e1
            cases e1
            exact e2
  cases hk : K.lookup a with
  | some o =>
    have e := KX a o hk
    rw [ha] at e
    cases e
    exact core (fun _ => none) (fun _ => .inl rfl) (.inr ⟨_, vs.toArray, _, hk, rfl, rfl, rfl, by rw [List.size_toArray, hi.length]; exact hl, by simpa using rv⟩) (fun b u z => nomatch (show (none : Option HO) = some u from z)) (fun b z => absurd rfl z) fun z => absurd rfl z
  | none =>
    have self : (fun b => if b = a then some (HO.frz { cls := .type "list", data := .seq vs.toArray } (.lst (ns.map V.int))) else none : Hp) a = some (.frz { cls := .type "list", data := .seq vs.toArray } (.lst (ns.map V.int))) := if_pos rfl
    refine core (fun b => if b = a then some (.frz { cls := .type "list", data := .seq vs.toArray } (.lst (ns.map V.int))) else none) (fun b => ?_) (.inl (.inr ⟨_, self⟩)) (fun b u z => ?_) (fun b z => ?_) fun _ => hk
    · by_cases h : b = a
      · exact .inr ⟨_, _, if_pos h⟩
      · exact .inl (if_neg h)
    · by_cases h : b = a
      · have z := (if_pos h).symm.trans z
        cases z
        subst h
        exact ⟨ha, by rw [List.length_map]; exact hl, vs, _, rv, ha⟩
      · have z := (if_neg h).symm.trans z
        cases z
    · by_cases h : b = a
      · exact h
      · exact absurd (if_neg h) z
/-- the goal that k_head leaves, from the law's promise where nothing is being shown; the script's numbers have few bits -/
theorem walk_G {l : PySem.W.OpenLaw} {n k : Nat} {q : Program} {loose : List Str} {XP : (Str → Option Value) → Heap → Prop} {YP : World → Heap → Prop} {d : DefRec} {K : Params → PySem.W.Frag} {CX : World → CXT} {sp : World → Sp} {x : Str}
    (hn : l.most = some n) (hn2 : n ≤ sizeLine) (hdf : d.params.defaults = []) (hr : Room k callerA) (hY : ∀ (w : World) (h : Heap), YP w h → (K w.params).In h)
    (F : ∀ (w : World) (mg : Str → Option Value) (fa : Addr) (h : Heap), (K w.params).In h → h.Ns mainGlobals mg → mg d.name = some (.ref fa) →
      ∃ fd : FuncData, (∀ (s : Shared) (u : Value), BindsTo s fd ⟨[u], []⟩ [(x, u)]) ∧ ∀ base : Heap, (K w.params).In base → base.Ns mainGlobals mg → FnG l.prog w (K w.params) mg base (CX w) k fa fd [x] (sp w))
    (hsp : ∀ (w : World) (H : Hp) (a : Addr) (ns : List Int), ns.length ≤ n → (∀ z ∈ ns, Builtin.Int.intBits z ≤ 1048576) → Only H → SqL (K w.params) H a (ns.map V.int) → sp w [.ref a] H (fun v _ => v = .bl true) fun _ _ _ => False)
    (hCX : ∀ (w : World) (H : Hp) (s : Shared) (e : Value) (s' : Shared), CX w [] H s (fun _ _ _ => False) e s' → False) : PySem.W.WalkO q loose XP YP l.row.toRowW d [] (fun f vs => PySem.call f vs) := by
  refine Att.attach_callB hn hdf fun w s0 s1 mg mb fa o pm cd doc a vs ns G Y ho hd hcd hmg hobj hints hlen hbits hg => ?_
  obtain ⟨fd, hb, hF⟩ := F w mg fa _ (hY w _ Y) G.T.g hmg
  exact callG (hY w _ Y) G.T.g G.T.b G.T.builtins G.T.nolimit hg hobj hints (Nat.le_trans hlen hn2) hr hF hb (fun H hO hS => hsp w H a ns hlen hbits hO hS) fun H e s' => hCX w H s1 e s'
/-- the law's def -/
theorem _root_.L2.Fun.okG {CX : CXT} {P : Program} {w : World} {K : PySem.W.Frag} {mg : Str → Option Value} {base : Heap} {x qual : Str} {st : Stmt} {f : Addr} {fd : FuncData} {N ps : List Str} {k : Nat} {sp : Sp} (F : Fun K x qual st f fd) (S : FnScope N ps (defScope st)) (len : ∀ vs H Q E, sp vs H Q E → vs.length = ps.length)
    (hbody : ∀ (cdv : Value) (A : Around) (outer : List Env) (s : Shared) (H : Hp) (vs : List V) (Q : VK) (E : XK), Room k (A.deeper (envOfC qual (defScope st) s.heap.objs.size f cdv)) → A.guards = some [] → sp vs H Q E →
      ∃ t, PSs (cxOf CX P w K mg base N qual (defScope st) f cdv A outer s H E) (defBody st) t ∧ t { nx := fun _ H' => Q .non H', rt := Q } (start N vs) H) : FnG P w K mg base CX (k + 1) f fd ps sp := by
  obtain ⟨oc, od, kV, doc, pm, an, cdv, ct, osl, rfl, lk, hcd⟩ := F.ex
  exact fnG_of lk hcd S len fun A outer s H vs Q E hr hg hsp => hbody cdv A outer s H vs Q E hr hg hsp
end Dh
namespace Dl
open PySem PySem.Spec PyProof.Rows L2 Dh
variable [LawT]
section
variable {X : Cx} {W : XK} {a b e : Expr} {es : List Expr} {oa ob : Opn} {pos : Pos} {c : Ctx} {S H : Hp} {σ : L2.St} {E : List Sl} {ps : Pn}
/-! ### displays with stars -/
def consA (g : M D) (gs : M (List D)) : M (List D) := M.bnd g fun d => M.bnd gs fun ds => M.ret (d :: ds)
def starA (g : M D) (gs : M (List D)) : M (List D) := M.bnd g fun d => M.bnd (optM (seqD d)) fun xs => M.bnd gs fun ys => M.ret (xs ++ ys)
theorem da_consA {g : M D} {gs : M (List D)} (h : DV X W e g) (t : DA X W es gs) (hs : starEach (e :: es) X.env = (false, eval e X.env) :: starEach es X.env := by rfl) : DA X W (e :: es) (consA g gs) :=
  pa_imp (pa_cons h t hs) fun σ H Q q => by
    obtain ⟨c, S, E, ps, hk, t, q⟩ := q
    refine ⟨c, S, E, ps, hk, t, PostA.bnd q fun a E' ps' v S' H' sm t' r p => ?_⟩
    exact ⟨c, S', E', ps', hk, t', PostA.bndA p fun ds E2 ps2 vs S2 H2 sm2 t2 r2 p2 => p2 (v :: vs) S2 H2 (Same.refl _) t2 (.cons (Rep.mono sm2 a r) r2)⟩
theorem optA {α : Type} {o : Option α} {k : α → M (List D)} {Q : List V → Hp → Prop} (p : PostA W c S σ Q (M.bnd (optM o) k E ps)) : ∃ x, o = some x ∧ PostA W c S σ Q (k x E ps) := by
  cases o with
  | none => exact p.elim
  | some x => exact ⟨x, rfl, p⟩
theorem da_star {p : Pos} {g : M D} {gs : M (List D)} (h : DV X W e g) (t : DA X W es gs) (hs : starEach (.Starred e p :: es) X.env = (true, eval e X.env) :: starEach es X.env := by rfl) : DA X W (.Starred e p :: es) (starA g gs) :=
  pa_imp (StX.pa_star h t hs) fun σ H Q q => by
    obtain ⟨c, S, E, ps, hk, t, q⟩ := q
    refine ⟨c, S, E, ps, hk, t, PostA.bnd q fun a E' ps' v S' H' sm t' r p => ?_⟩
    obtain ⟨xs, ex, p⟩ := optA p
    obtain ⟨k, l, vs, rfl, rr, hq⟩ := seqD_ok ex r
    refine ⟨l, vs, rfl, ?_, c, S', E', ps', hk, t', PostA.bndA p fun ds E2 ps2 ws S2 H2 sm2 t2 r2 p2 => p2 (vs ++ ws) S2 H2 (Same.refl _) t2 ((Reps.mono sm2 xs rr).append r2)⟩
    have z := hq H' t'.bs.sub
    rw [hk] at z
    cases k with
    | l => exact .inr z
    | t => exact .inl z
/-! ### sorted -/
def tupIs : List D → Option (List (List Int))
  | [] => some []
  | .tup xs :: r => match asIs xs, tupIs r with
    | some (n :: ns), some nss => some ((n :: ns) :: nss)
    | _, _ => none
  | _ => none
def tupOf (ns : List Int) : D := .tup (ns.map .int)
def tupIs1 : List D → Option (List (List Int))
  | [.tup []] => some [[]]
  | ds => tupIs ds
def sortD (ds : List D) : Option (List D) := match asIs ds with
  | some ns => some ((isort ltZ ns).map .int)
  | none => (tupIs1 ds).map fun nss => (isort lexI nss).map tupOf
def olO : Option (List D) → M Sl
  | some xs => M.ret (.ol xs)
  | none => M.bad
def kSorted : List D → M Sl
  | [d] => M.bnd (optM (seqD d)) fun ds => olO (sortD ds)
  | _ => M.bad
theorem tupIs_ok {K : PySem.W.Frag} {p : Addr} {S : Hp} : ∀ {ds : List D} {nss : List (List Int)} {vs : List V}, tupIs ds = some nss → Reps K p S ds vs → ds = nss.map tupOf ∧ ∃ ts : List Addr, vs = ts.map V.ref ∧ Paired (fun t ns => S t = some (.tup (ns.map V.int)) ∧ ns ≠ []) ts nss
  | [], _, _, e, h => by cases e; exact ⟨rfl, [], h, .nil⟩
  | .tup xs :: r, nss, _, e, ⟨v, vs, h1, ⟨t, us, h4, h5, h6⟩, h3⟩ => by
    unfold tupIs at e
    cases e1 : asIs xs with
    | none => rw [e1] at e; cases e
    | some l =>
      cases e2 : tupIs r with
      | none => rw [e1, e2] at e; cases l <;> cases e
      | some ms =>
        rw [e1, e2] at e
        cases l with
        | nil => cases e
        | cons n ns =>
          cases e
          obtain ⟨q1, ts, q2, q3⟩ := tupIs_ok e2 h3
          subst h1 h4 q2
          refine ⟨?_, t :: ts, rfl, .cons ⟨?_, fun z => by cases z⟩ q3⟩
          · rw [q1, List.map_cons]
            congr 1
            show D.tup xs = tupOf _
            unfold tupOf
            rw [asIs_eq e1]
          · rw [← asIs_ok e1 h6]; exact h5
where
  asIs_eq : ∀ {ds : List D} {ns : List Int}, asIs ds = some ns → ds = ns.map D.int
  | [], _, e => by cases e; rfl
  | .int b :: r, _, e => by
    unfold asIs at e
    cases e2 : asIs r with
    | none => rw [e2] at e; cases e
    | some bs => rw [e2] at e; cases e; rw [asIs_eq e2]; rfl
/-- the ints that stand at a tracked tuple -/
def vInt : V → Option Int
  | .int i => some i
  | _ => none
def intAt (S : Hp) : V → List Int
  | .ref t => match S t with
    | some (.tup vs) => vs.filterMap vInt
    | _ => []
  | _ => []
theorem vInts : ∀ ns : List Int, (ns.map V.int).filterMap vInt = ns
  | [] => rfl
  | n :: ns => by rw [List.map_cons, List.filterMap_cons]; show n :: _ = _; rw [vInts ns]
theorem intAt_of {S : Hp} {t : Addr} {ns : List Int} (h : S t = some (.tup (ns.map V.int))) : intAt S (.ref t) = ns := by
  show (match S t with
    | some (.tup vs) => vs.filterMap vInt
    | _ => []) = ns
  rw [h]
  exact vInts ns
theorem tupIs1_ok {K : PySem.W.Frag} {p : Addr} {S : Hp} {ds : List D} {nss : List (List Int)} {vs : List V} (e : tupIs1 ds = some nss) (r : Reps K p S ds vs) : ds = nss.map tupOf ∧ ∃ ts : List Addr, vs = ts.map V.ref ∧ Paired (fun t ns => S t = some (.tup (ns.map V.int)) ∧ (2 ≤ vs.length → ns ≠ [])) ts nss := by
  unfold tupIs1 at e
  split at e
  · cases e
    obtain ⟨v, us, h1, ⟨t, ws, h4, h5, h6⟩, h3⟩ := r
    subst h4
    rw [show us = [] from h3] at h1
    subst h1
    rw [show ws = [] from h6] at h5
    exact ⟨rfl, [t], rfl, .cons ⟨h5, fun z => absurd z (by simp)⟩ .nil⟩
  · obtain ⟨q1, ts, q2, q3⟩ := tupIs_ok e r
    refine ⟨q1, ts, q2, ?_⟩
    clear q1 q2 e r
    induction q3 with
    | nil => exact .nil
    | cons r _ ih => exact .cons ⟨r.1, fun _ => r.2⟩ ih
theorem tups_mem {S : Hp} {P : Prop} {ts : List Addr} {nss : List (List Int)} (rel : Paired (fun t ns => S t = some (.tup (ns.map V.int)) ∧ (P → ns ≠ [])) ts nss) : ∀ t ∈ ts, S t = some (.tup ((intAt S (.ref t)).map V.int)) ∧ (P → intAt S (.ref t) ≠ []) := by
  induction rel with
  | nil => intro t ht; cases ht
  | cons r _ ih =>
    intro t ht
    rcases List.mem_cons.mp ht with z | z
    · subst z
      rw [intAt_of r.1]
      exact r
    · exact ih t z
theorem tups_map {S : Hp} {P : Prop} {ts : List Addr} {nss : List (List Int)} (rel : Paired (fun t ns => S t = some (.tup (ns.map V.int)) ∧ (P → ns ≠ [])) ts nss) : (ts.map V.ref).map (intAt S) = nss := by
  induction rel with
  | nil => rfl
  | cons r _ ih => rw [List.map_cons, List.map_cons, ih, intAt_of r.1]
theorem reps_tups {K : PySem.W.Frag} {p : Addr} {S : Hp} : ∀ {ys : List V}, (∀ y ∈ ys, ∃ t, y = .ref t ∧ S t = some (.tup ((intAt S y).map V.int))) → Reps K p S ((ys.map (intAt S)).map tupOf) ys
  | [], _ => rfl
  | y :: ys, h => by
    obtain ⟨t, e, q⟩ := h y List.mem_cons_self
    refine ⟨y, ys, rfl, ⟨t, _, e, q, ?_⟩, reps_tups fun z hz => h z (List.mem_cons_of_mem _ hz)⟩
    exact reps_ints _
theorem loc_sorted : LocR X W (fun vs H Q => rSortQI X.K vs H Q ∨ rSortQ X.K vs H Q) kSorted := by
  intro c S H σ E ps ds vs Q hk t pk q
  unfold kSorted at q
  split at q
  · obtain ⟨v, rfl, h1⟩ := pks1 pk
    rename_i d
    cases ed : seqD d with
    | none => rw [ed] at q; exact q.elim
    | some xs =>
      rw [ed] at q
      have q : Post W RS c S σ Q (olO (sortD xs) E ps) := q
      obtain ⟨kd, a, us, rfl, ru, hq⟩ : ∃ kd a us, v = .ref a ∧ Reps c.K c.p S xs us ∧ sqV kd X.K H a us := by
        cases d with
        | lst ys =>
          cases ed
          obtain ⟨a, us, e1, e2, e3⟩ := h1
          exact ⟨.l, a, us, e1, e3, SqL.of e2⟩
        | tup ys =>
          cases ed
          obtain ⟨a, us, e1, e2, e3⟩ := h1
          exact ⟨.t, a, us, e1, e3, hk ▸ (SqTs t.bs.sub e2).t⟩
        | _ => cases ed
      unfold sortD at q
      cases ei : asIs xs with
      | some ns =>
        rw [ei] at q
        rw [asIs_ok ei ru] at hq
        exact .inl ⟨kd, a, ns, rfl, hq, fun p n => by
          have z := post_lst q t (reps_ints (isort ltZ ns)) p n
          exact z⟩
      | none =>
        rw [ei] at q
        cases et : tupIs1 xs with
        | none => rw [et] at q; exact q.elim
        | some nss =>
          rw [et] at q
          have q : Post W RS c S σ Q (M.ret (.ol ((isort lexI nss).map tupOf)) E ps) := q
          obtain ⟨e1, ts, e2, rel⟩ := tupIs1_ok et ru
          have all : ∀ x ∈ us, ∃ t, x = V.ref t ∧ S t = some (.tup ((intAt S x).map V.int)) ∧ (2 ≤ us.length → intAt S x ≠ []) := by
            intro x hx
            rw [e2] at hx
            obtain ⟨t', ht, rfl⟩ := List.mem_map.mp hx
            exact ⟨t', rfl, tups_mem rel t' ht⟩
          have ek : us.map (intAt S) = nss := by
            rw [e2]
            exact tups_map rel
          refine .inr ⟨kd, a, us, intAt S, rfl, hq, fun x hx => ?_, fun ys p pm so n => ?_⟩
          · obtain ⟨t', e, z, ne⟩ := all x hx
            exact ⟨t', e, hk ▸ (SqTs (K := c.K) t.bs.sub z).t, ne⟩
          · have ey : ys.map (intAt S) = isort lexI nss := by
              refine srtd_unique swo_lex0 lexI_eq (List.pairwise_map.mpr so) ?_
              rw [← ek]
              exact pm.map _
            have rr := reps_tups (K := c.K) (p := c.p) (S := S) (ys := ys) fun y hy => by
              obtain ⟨t', e, z, _⟩ := all y (pm.mem_iff.mp hy)
              exact ⟨t', e, z⟩
            rw [ey] at rr
            exact post_lst q t rr p n
  · exact q.elim
theorem de_sorted {n : Nat} {p : Pos} (_hr : Room n X.A) (hg : Gl X "sorted") (hm : X.mg "sorted" = none) (ha : DO X W a oa) (hs : starEach [a] X.env = (false, eval a X.env) :: starEach [] X.env := by rfl) (hpl : (backTo pos (starEach [] X.env)).any (·.1) = false := by rfl) : DE X W (.Call (.Name "sorted" p) [a] [] pos) (ops [oa] kSorted) :=
  de_b1 loc_sorted (Dl.CallR.or cr_sortQI cr_sortQ) hg hm (by decide +kernel) ha (by decide) (by decide) hs hpl
end
end Dl
namespace Dl
open PySem PySem.Spec PyProof.Rows L2 Dh
variable [LawT]
section
variable {X : Cx} {W : XK} {a b e : Expr} {es : List Expr} {oa ob : Opn} {pos : Pos} {c : Ctx} {S H : Hp} {σ : L2.St} {E : List Sl} {ps : Pn}
/-! ### len(set(xs)) -/
def asKs : List D → Option (List Key) := keysD
def tupIs0 : List D → Option (List (List Int))
  | [] => some []
  | .tup xs :: r => match asIs xs, tupIs0 r with
    | some ns, some nss => some (ns :: nss)
    | _, _ => none
  | _ => none
def lenSetD (ds : List D) : Option Nat := match keysD ds with
  | some ks => if ds.length ≤ 4000 then some (onceL ks).length else none
  | none => match tupIs0 ds with
    | some nss => if ds.length < 64 then some (onceL nss).length else none
    | none => none
def natO : Option Nat → M Sl
  | some n => im1 (.int (n : Nat))
  | none => M.bad
def kLenSet : List D → M Sl
  | [d] => M.bnd (optM (seqD d)) fun ds => natO (lenSetD ds)
  | _ => M.bad
theorem tupIs0_ok {K : PySem.W.Frag} {p : Addr} {S : Hp} : ∀ {ds : List D} {nss : List (List Int)} {vs : List V}, tupIs0 ds = some nss → Reps K p S ds vs → ∃ ts : List (Addr × List Int), vs = ts.map (fun q => V.ref q.1) ∧ ts.map (·.2) = nss ∧ ∀ q ∈ ts, S q.1 = some (.tup (q.2.map V.int))
  | [], _, _, e, h => by cases e; exact ⟨[], h, rfl, fun q hq => by cases hq⟩
  | .tup xs :: r, nss, _, e, ⟨v, vs, h1, ⟨t, us, h4, h5, h6⟩, h3⟩ => by
    unfold tupIs0 at e
    cases e1 : asIs xs with
    | none => rw [e1] at e; cases e
    | some ns =>
      cases e2 : tupIs0 r with
      | none => rw [e1, e2] at e; cases e
      | some ms =>
        rw [e1, e2] at e
        cases e
        obtain ⟨ts, q2, q3, q4⟩ := tupIs0_ok e2 h3
        subst h1 h4 q2
        refine ⟨(t, ns) :: ts, rfl, by rw [List.map_cons, q3], fun q hq => ?_⟩
        rcases List.mem_cons.mp hq with z | z
        · subst z
          show S t = _
          rw [← asIs_ok e1 h6]; exact h5
        · exact q4 q z
theorem seq_pk {d : D} {xs : List D} {v : V} (hk : c.K = X.K) (t : Stt c S H σ E ps) (ed : seqD d = some xs) (h1 : Pk c.K c.p S H v d) : ∃ kd a us, v = .ref a ∧ Reps c.K c.p S xs us ∧ sqV kd X.K H a us := by
  cases d with
  | lst ys =>
    cases ed
    obtain ⟨a, us, e1, e2, e3⟩ := h1
    exact ⟨.l, a, us, e1, e3, SqL.of e2⟩
  | tup ys =>
    cases ed
    obtain ⟨a, us, e1, e2, e3⟩ := h1
    exact ⟨.t, a, us, e1, e3, hk ▸ (SqTs t.bs.sub e2).t⟩
  | _ => cases ed
theorem optS {α : Type} {o : Option α} {k : α → M Sl} {Q : VK} (q : Post W RS c S σ Q (M.bnd (optM o) k E ps)) : ∃ x, o = some x ∧ Post W RS c S σ Q (k x E ps) := by
  cases o with
  | none => exact q.elim
  | some x => exact ⟨x, rfl, q⟩
theorem loc_lenSet : LocR X W (r1 fun x H Q => ∃ n, (rKeys X.K x H n ∨ rTups X.K x H n) ∧ Q (.int (n : Nat)) H) kLenSet := by
  intro c S H σ E ps ds vs Q hk t pk q
  unfold kLenSet at q
  split at q
  · obtain ⟨v, rfl, h1⟩ := pks1 pk
    obtain ⟨xs, ed, q⟩ := optS q
    obtain ⟨kd, a, us, rfl, ru, hq⟩ := seq_pk hk t ed h1
    unfold lenSetD at q
    cases ek : keysD xs with
    | some ks =>
      rw [ek] at q
      simp only at q
      split at q
      · rename_i hl
        rw [keysD_v ek ru] at hq
        have el : ks.length = xs.length := by
          have z := congrArg List.length (keysD_v ek ru)
          rw [List.length_map, ru.length] at z
          exact z.symm
        exact ⟨_, .inl ⟨kd, a, ks, rfl, hq, by rw [el]; exact hl, rfl⟩, post_im q t rfl⟩
      · exact q.elim
    | none =>
      rw [ek] at q
      simp only at q
      cases et : tupIs0 xs with
      | none => rw [et] at q; exact q.elim
      | some nss =>
        rw [et] at q
        simp only at q
        split at q
        · rename_i hl
          obtain ⟨ts, q2, q3, q4⟩ := tupIs0_ok et ru
          have el : ts.length = xs.length := by
            have z := congrArg List.length q2
            rw [List.length_map, ru.length] at z
            exact z.symm
          rw [q2] at hq
          exact ⟨_, .inr ⟨kd, a, ts, rfl, hq, fun p hp => hk ▸ (SqTs (K := c.K) t.bs.sub (q4 p hp)).t, by rw [el]; exact hl, by rw [q3]⟩, post_im q t rfl⟩
        · exact q.elim
  · exact q.elim
theorem de_lenSet {n : Nat} {p p2 q2 : Pos} (hr : Room n X.A) (hc : X.calm = true) (hg : Gl X "len") (hm : X.mg "len" = none) (hg2 : Gl X "set") (hm2 : X.mg "set" = none) (ha : DO X W a oa)
    (na : starEach [a] X.env = (false, eval a X.env) :: starEach [] X.env := by rfl) : DE X W (.Call (.Name "len" p) [.Call (.Name "set" p2) [a] [] q2] [] pos) (ops [oa] kLenSet) :=
  pe_imp (pe_lenSetQ (hu65 hr) hc hg hm hg2 hm2 ha na) fun σ H Q q => by
    have z := ops_read loc_lenSet q
    exact z
/-! ### list(zip(xs, ys)) -/
def lstZipK : List D → M Sl
  | [d, d'] => M.bnd (optM (seqD d)) fun xs => M.bnd (optM (seqD d')) fun ys => M.ret (.ol (zipL xs ys))
  | _ => M.bad
def lstZipM (gs : M (List D)) : M Sl := M.bnd gs lstZipK
theorem take_zip' {α β : Type} : ∀ (n : Nat) (xs : List α) (ys : List β), (xs.zip ys).take n = (xs.take n).zip (ys.take n)
  | 0, _, _ => by simp
  | n + 1, [], _ => by simp
  | n + 1, _ :: _, [] => by simp
  | n + 1, x :: xs, y :: ys => by rw [List.zip_cons_cons, List.take_succ_cons, List.take_succ_cons, List.take_succ_cons, List.zip_cons_cons, take_zip' n xs ys]
theorem grown_stt {ts : List (Addr × V × V)} {G : Hp} (g : Grown H ts G) : ∀ {xs ys : List D} {us vs : List V}, Stt c S H σ E ps → Reps c.K c.p S xs us → Reps c.K c.p S ys vs → (ts.map (·.2)) = us.zip vs → ∀ n, ts.length = n → ∃ S', Same S S' ∧ Stt c S' G σ E ps ∧ Reps c.K c.p S' (zipL (xs.take n) (ys.take n)) (refsT ts) := by
  induction g with
  | nil =>
    intro xs ys us vs t _ _ _ n hn
    have hn : 0 = n := hn
    subst hn
    exact ⟨S, Same.refl _, t, by rw [List.take_zero, List.take_zero]; rfl⟩
  | @snoc ts G T x y g n0 ih =>
    intro xs ys us vs t r1 r2 ev n hn
    rw [List.length_append, List.length_singleton] at hn
    subst hn
    have lz : (us.zip vs).length = ts.length + 1 := by rw [← ev, List.length_map, List.length_append, List.length_singleton]
    rw [List.length_zip] at lz
    have ed : ts.map (·.2) = (us.take ts.length).zip (vs.take ts.length) := by
      have z := congrArg (List.take ts.length) ev
      rw [List.map_append, List.take_append_of_le_length (by rw [List.length_map]; exact Nat.le_refl _)] at z
      rw [List.take_of_length_le (by rw [List.length_map]; exact Nat.le_refl _)] at z
      rw [z, take_zip']
    obtain ⟨S1, sm, t1, rr⟩ := ih t (r1.take ts.length) (r2.take ts.length) ed ts.length rfl
    have at1 : (us.zip vs)[ts.length]? = some (x, y) := by
      rw [← ev, List.map_append, List.getElem?_append_right (by rw [List.length_map]; exact Nat.le_refl _), List.length_map, Nat.sub_self]
      rfl
    obtain ⟨e1, e2⟩ := List.getElem?_zip_eq_some.mp at1
    obtain ⟨d1, f1, q1⟩ := r1.get' e1
    obtain ⟨d2, f2, q2⟩ := r2.get' e2
    have g1 := t1.bs.newF (o := .tup [x, y]) n0
    refine ⟨_, sm.trans g1.s0, t1.grow g1, ?_⟩
    have s2 : Same S _ := sm.trans g1.s0
    have ez : zipL (xs.take (ts.length + 1)) (ys.take (ts.length + 1)) = zipL (xs.take ts.length) (ys.take ts.length) ++ [.tup [d1, d2]] := by
      obtain ⟨l1, _⟩ := List.getElem?_eq_some_iff.mp f1
      obtain ⟨l2, _⟩ := List.getElem?_eq_some_iff.mp f2
      rw [List.take_add_one, List.take_add_one, f1, f2]
      unfold zipL
      rw [Option.toList_some, Option.toList_some, List.zipWith_append (by rw [List.length_take, List.length_take]; omega)]
      rfl
    rw [ez]
    unfold refsT
    rw [List.map_append]
    rw [List.take_take, List.take_take, Nat.min_self] at rr
    exact (Reps.mono g1.s0 _ rr).append (.one ⟨T, [x, y], rfl, SqU.of upd_same, .cons (Rep.mono s2 d1 q1) (.cons (Rep.mono s2 d2 q2) rfl)⟩)
theorem de_listZip {p p2 pos2 : Pos} {gs : M (List D)} (hc : X.calm = true) (hg : Gl X "list") (hm : X.mg "list" = none) (hg2 : Gl X "zip") (hm2 : X.mg "zip" = none) (ha : DA X W [a, b] gs)
    (hs : starEach [a, b] X.env = (false, eval a X.env) :: starEach [b] X.env := by rfl) (hpl : (backTo pos2 (starEach [b] X.env)).any (·.1) = false := by rfl)
    (na : starEach [.Call (.Name "zip" p2) [a, b] [] pos2] X.env = (false, eval (.Call (.Name "zip" p2) [a, b] [] pos2) X.env) :: starEach [] X.env := by rfl) : DE X W (.Call (.Name "list" p) [.Call (.Name "zip" p2) [a, b] [] pos2] [] pos) (lstZipM gs) :=
  pe_imp (pe_listZip hc hg hm hg2 hm2 ha hs hpl na) fun σ H Q q => by
    obtain ⟨c, S, E, ps, hk, t, q⟩ := q
    refine ⟨c, S, E, ps, hk, t, Post.bndA q fun ds E' ps' vs S' H' sm t' r p => ?_⟩
    match ds, r, p with
    | [d, d'], ⟨v, r', e1, rd, v2, r2, e2, rd2, e3⟩, p =>
      obtain ⟨xs, ed, p⟩ := optS p
      obtain ⟨ys, ed2, p⟩ := optS p
      obtain ⟨k, l, us, rfl, rs, hq⟩ := seqD_ok ed rd
      obtain ⟨k2, l2, us2, rfl, rs2, hq2⟩ := seqD_ok ed2 rd2
      have e3 : r2 = [] := e3
      subst e1 e2 e3
      refine ⟨k, k2, l, l2, us, us2, rfl, hk ▸ hq H' t'.bs.sub, hk ▸ hq2 H' t'.bs.sub, fun ts G L gr ev nL => ?_⟩
      have lt : ts.length = min us.length us2.length := by
        have z := congrArg List.length ev
        rw [List.length_map, List.length_zip] at z
        exact z
      obtain ⟨S2, sm2, t2, rr⟩ := grown_stt gr t' rs rs2 ev _ rfl
      have ez : zipL (xs.take ts.length) (ys.take ts.length) = zipL xs ys := by
        rw [lt, rs.length, rs2.length]
        unfold zipL
        exact zipWith_takes _ xs ys
      rw [ez] at rr
      exact post_lst (Post.mono sm2 p) t2 rr L nL
    | [], _, p => exact p.elim
    | [_], _, p => exact p.elim
    | _ :: _ :: _ :: _, _, p => exact p.elim
where
  zipWith_takes {α β γ : Type} (f : α → β → γ) : ∀ (xs : List α) (ys : List β), List.zipWith f (xs.take (min xs.length ys.length)) (ys.take (min xs.length ys.length)) = List.zipWith f xs ys
    | [], _ => by simp
    | _ :: _, [] => by simp
    | x :: xs, y :: ys => by
      rw [List.length_cons, List.length_cons, Nat.succ_min_succ, List.take_succ_cons, List.take_succ_cons, List.zipWith_cons_cons, List.zipWith_cons_cons, zipWith_takes f xs ys]
/-! ### list(range(n)), tuple(range(n)) -/
def rgOk (n : Int) : Bool := decide (-(2 ^ 62) ≤ n) && decide (n ≤ 16777216)
def lstRangeM (g : M D) : M Sl := M.bnd g fun d => match d with
  | .int n => if rgOk n then M.ret (.ol (rngL 0 n.toNat)) else M.bad
  | _ => M.bad
def tupRangeM (g : M D) : M Sl := M.bnd g fun d => match d with
  | .int n => if rgOk n then im1 (.tup (rngL 0 n.toNat)) else M.bad
  | _ => M.bad
theorem rgOk_of {n : Int} (h : rgOk n = true) : RgOk 0 n := by
  unfold rgOk at h
  rw [Bool.and_eq_true] at h
  have a := of_decide_eq_true h.1
  have b := of_decide_eq_true h.2
  exact ⟨by omega, by omega, by omega, by omega, by omega⟩
theorem reps_rg {K : PySem.W.Frag} {p : Addr} {n : Int} : Reps K p S (rngL 0 n.toNat) (rgV 0 n) := by
  have e : rgV 0 n = ((List.range n.toNat).map fun i => (0 + (i : Nat) : Int)).map V.int := by
    unfold rgV
    rw [List.map_map, show (n - 0).toNat = n.toNat by rw [Int.sub_zero]]
    rfl
  have e2 : rngL 0 n.toNat = ((List.range n.toNat).map fun i => (0 + (i : Nat) : Int)).map D.int := by
    unfold rngL
    rw [List.map_map]
    rfl
  rw [e, e2]
  exact reps_ints _
theorem de_listRange {p p2 pos2 : Pos} {g : M D} (hc : X.calm = true) (hg : Gl X "list") (hm : X.mg "list" = none) (hg2 : Gl X "range") (hm2 : X.mg "range" = none) (ha : DV X W a g) (na : starEach [a] X.env = (false, eval a X.env) :: starEach [] X.env := by rfl)
    (nb : starEach [.Call (.Name "range" p2) [a] [] pos2] X.env = (false, eval (.Call (.Name "range" p2) [a] [] pos2) X.env) :: starEach [] X.env := by rfl) : DE X W (.Call (.Name "list" p) [.Call (.Name "range" p2) [a] [] pos2] [] pos) (lstRangeM g) :=
  pe_imp (pe_listRg hc hg hm (prg_1 hg2 hm2 ha na) nb) fun σ H Q q => by
    obtain ⟨c, S, E, ps, hk, t, q⟩ := q
    refine ⟨c, S, E, ps, hk, t, Post.bnd q fun d E' ps' v S' H' sm t' r p => ?_⟩
    cases d with
    | int n =>
      cases hn : rgOk n with
      | false => simp only [hn] at p; exact p.elim
      | true =>
        simp only [hn, if_true] at p
        exact ⟨n, r, rgOk_of hn, post_lst p t' reps_rg⟩
    | _ => exact (show False from p).elim
theorem de_tupRange {p p2 pos2 : Pos} {g : M D} (hc : X.calm = true) (hg : Gl X "tuple") (hm : X.mg "tuple" = none) (hg2 : Gl X "range") (hm2 : X.mg "range" = none) (ha : DV X W a g) (na : starEach [a] X.env = (false, eval a X.env) :: starEach [] X.env := by rfl)
    (nb : starEach [.Call (.Name "range" p2) [a] [] pos2] X.env = (false, eval (.Call (.Name "range" p2) [a] [] pos2) X.env) :: starEach [] X.env := by rfl) : DE X W (.Call (.Name "tuple" p) [.Call (.Name "range" p2) [a] [] pos2] [] pos) (tupRangeM g) :=
  pe_imp (pe_tupRg hc hg hm (prg_1 hg2 hm2 ha na) nb) fun σ H Q q => by
    obtain ⟨c, S, E, ps, hk, t, q⟩ := q
    refine ⟨c, S, E, ps, hk, t, Post.bnd q fun d E' ps' v S' H' sm t' r p => ?_⟩
    cases d with
    | int n =>
      cases hn : rgOk n with
      | false => simp only [hn] at p; exact p.elim
      | true =>
        simp only [hn, if_true] at p
        exact ⟨n, r, rgOk_of hn, post_tup p t' reps_rg⟩
    | _ => exact (show False from p).elim
/-! ### repr -/
def reprD (d : D) : Option Str := (toPy d).bind fun y => if y.showable && !y.hasDict && decide (y.depth ≤ 60) && fits y.shown.length then some y.shown else none
def strO : Option Str → M Sl
  | some x => im1 (.str x)
  | none => M.bad
def kRepr : List D → M Sl
  | [d] => strO (reprD d)
  | _ => M.bad
theorem loc_repr : LocR X W (rRepr X.K) kRepr := by
  intro c S H σ E ps ds vs Q hk t pk q
  unfold kRepr at q
  split at q
  · obtain ⟨v, rfl, h1⟩ := pks1 pk
    rename_i d
    unfold reprD at q
    cases ed : toPy d with
    | none => rw [ed] at q; exact q.elim
    | some y =>
      rw [ed] at q
      simp only [Option.bind_some] at q
      split at q
      · rename_i hf
        simp only [Bool.and_eq_true, Bool.not_eq_true'] at hf
        exact ⟨v, y, rfl, hk ▸ Pk.dp t.bs.sub h1 ed, hf.1.1.1, hf.1.1.2, of_decide_eq_true hf.1.2, fits_le hf.2, post_im q t rfl⟩
      · exact q.elim
  · exact q.elim
theorem de_repr {n : Nat} {p : Pos} (hgd : X.A.guards = some []) (hr : Room n X.A) (hg : Gl X "repr") (hm : X.mg "repr" = none) (ha : DO X W a oa) (hs : starEach [a] X.env = (false, eval a X.env) :: starEach [] X.env := by rfl) (hpl : (backTo pos (starEach [] X.env)).any (·.1) = false := by rfl) : DE X W (.Call (.Name "repr" p) [a] [] pos) (ops [oa] kRepr) :=
  de_b1 loc_repr (cr_repr hgd (hu65 hr)) hg hm (by decide +kernel) ha (by decide) (by decide) hs hpl
end
end Dl
namespace Dl
open PySem PySem.Spec PyProof.Rows L2 Dh
variable [LawT]
/-! ### calls with keywords -/
/-- f(k = v, ..), nothing by position -/
theorem pe_callN0 {X : Cx} {CX : CXT} {k : Nat} {f : Addr} {fd : FuncData} {ps ks : List Str} {sp : Sp} {E : XK} {x : Str} {p pos : Pos} {kws : List Keyword} {tk : TA} {g : List Value → List Value → List Value} {gV : List V → List V → List V} (F : FnOk X.prog X.w X.K X.mg X.base CX k f fd ps sp) (hr : Room k X.A) (hg : Gl X x) (hm : X.mg x = some (.ref f)) (hk : PySem.W.keepIn X.K (.ref f) = true)
    (hb : KBn X.K fd ps 0 ks g gV) (hx : Passes CX X E) (hkw : PK X kws tk) (hall : (backToKw pos (keywordEach kws X.env)).all (·.1.isSome) = true := by rfl) (hks : (backToKw pos (keywordEach kws X.env)).filterMap (·.1) = ks := by rfl) (hdb : (x == ("__debug__" : Str)) = false := by decide)
    (hpl : ((backTo pos (starEach [] X.env)).any (·.1) || (backToKw pos (keywordEach kws X.env)).any (·.1.isNone)) = false := by rfl) : PE X (.Call (.Name x p) [] kws pos) (tCallN 0 ks.length sp gV E tNil tk) := by
  refine ⟨fun pins s σ H Q I h => wpAny_Call_Name_kw (ld_glob I hg hm ?_ hdb)⟩
  have h : tk σ H fun zs H2 => ([] : List V).length = 0 ∧ zs.length = ks.length ∧ sp (gV [] zs) H2 Q E := h
  refine PySem.W.callWith_KW0 (h₀ := X.base) I.ok.mod.kin hk hall (thn (hkw.run pos pins s σ H _ I h) fun ws s2 ⟨zs, H2, I2, rz, l1, l2, q2⟩ => ⟨I2.kIn, ?_⟩) hpl
  rw [hks]
  exact run_fnN F hr hb hx I2 .nil rz l1 l2 q2
def permL {α : Type} (is : List Nat) (l : List α) : List α := is.filterMap (l[·]?)
theorem permV {is : List Nat} {vs : List V} {us : List Value} (r : Vals vs us) : Vals (permL is vs) (permL is us) := by
  unfold permL
  induction is with
  | nil => exact .nil
  | cons i is ih =>
    rw [List.filterMap_cons, List.filterMap_cons]
    cases e : vs[i]? with
    | none =>
      have e2 : us[i]? = none := by
        rw [List.getElem?_eq_none_iff] at e ⊢
        rw [← r.length]; exact e
      rw [e2]
      exact ih
    | some v =>
      obtain ⟨u, e2, q⟩ := r.get e
      rw [e2]
      exact .cons q ih
theorem permR {K : PySem.W.Frag} {p : Addr} {S : Hp} {is : List Nat} {ds : List D} {vs : List V} (r : Reps K p S ds vs) : Reps K p S (permL is ds) (permL is vs) := by
  unfold permL
  induction is with
  | nil => rfl
  | cons i is ih =>
    rw [List.filterMap_cons, List.filterMap_cons]
    cases e : ds[i]? with
    | none =>
      have e2 : vs[i]? = none := by
        rw [List.getElem?_eq_none_iff] at e ⊢
        rw [r.length]; exact e
      rw [e2]
      exact ih
    | some v =>
      obtain ⟨u, e2, q⟩ := r.get e
      rw [e2]
      exact .cons q ih
/-- how a call with keywords of a def without defaults binds -/
theorem kbn_of {K : PySem.W.Frag} {x qual : Str} {st : Stmt} {f : Addr} {fd : FuncData} {ps ks : List Str} {n : Nat} {is : List Nat} (F : Fun K x qual st f fd)
    (h : ∀ (kV doc pm : Value) (an : Option Addr) (cdv ct : Value) (us ws : List Value), us.length = n → ws.length = ks.length → bindArgs (PySem.W.fnOf x qual (defArgs st) (defBody st) (defScope st) .none kV doc pm an cdv ct) ⟨us, ks.zip ws⟩ = pure (ps.zip (permL is (us ++ ws)))) :
    KBn K fd ps n ks (fun us ws => permL is (us ++ ws)) (fun vs zs => permL is (vs ++ zs)) := by
  obtain ⟨oc, od, kV, doc, pm, an, cdv, ct, osl, rfl, lk, hcd⟩ := F.ex
  exact ⟨fun s us ws _ l1 l2 => .of_eq (h kV doc pm an cdv ct us ws l1 l2), fun r1 r2 => permV (r1.append r2)⟩
/-- what a caller with keywords must know -/
def CalK (P : Program) (w : World) (K : PySem.W.Frag) (mg : Str → Option Value) (base : Heap) (CX : CXT) (k : Nat) (x : Str) (m : Nat) (g : Fn) (n : Nat) (ks : List Str) (is : List Nat) : Prop :=
  ∃ f fd pl, FnOk P w K mg base CX k f fd pl (spD K m g) ∧ mg x = some (.ref f) ∧ PySem.W.keepIn K (.ref f) = true ∧ KBn K fd pl n ks (fun us ws => permL is (us ++ ws)) (fun vs zs => permL is (vs ++ zs))
theorem CalK.mono {P : Program} {w : World} {K : PySem.W.Frag} {mg : Str → Option Value} {base : Heap} {CX : CXT} {k j : Nat} {x : Str} {m : Nat} {g : Fn} {n : Nat} {ks : List Str} {is : List Nat} (C : CalK P w K mg base CX k x m g n ks is) (h : k ≤ j) : CalK P w K mg base CX j x m g n ks is := by
  obtain ⟨f, fd, pl, F, r⟩ := C
  exact ⟨f, fd, pl, F.mono h, r⟩
theorem CalK.eqD {P : Program} {w : World} {K : PySem.W.Frag} {mg : Str → Option Value} {base : Heap} {CX : CXT} {k : Nat} {x : Str} {m : Nat} {g h : Fn} {n : Nat} {ks : List Str} {is : List Nat} (C : CalK P w K mg base CX k x m g n ks is) (e : ∀ args pn, h args pn ≠ .bad → g args pn = h args pn) : CalK P w K mg base CX k x m h n ks is := by
  obtain ⟨f, fd, pl, F, r⟩ := C
  exact ⟨f, fd, pl, Dl.FnOk.eqD F e, r⟩
section
variable {X : Cx} {W : XK} {e : Expr} {es : List Expr} {kws : List Keyword} {pos : Pos}
def DK (X : Cx) (W : XK) (kws : List Keyword) (g : M (List D)) : Prop := PK X kws (tA X.K W g)
theorem pk_imp {t u : TA} (h : PK X kws t) (i : ∀ σ H Q, u σ H Q → t σ H Q) : PK X kws u := ⟨fun pos pins s σ H Q I q => h.run pos pins s σ H Q I (i σ H Q q)⟩
theorem dk_nil : DK X W [] (argsM []) := pk_imp pk_nil fun σ H Q q => by
  obtain ⟨c, S, E, ps, hk, t, q⟩ := q
  exact q [] S H (Same.refl _) t rfl
theorem dk_cons {nm : Option Str} {kp : Pos} {g : M D} {gs : List (M D)} (h : DV X W e g) (t : DK X W kws (argsM gs)) : DK X W (⟨nm, e, kp⟩ :: kws) (argsM (g :: gs)) := pk_imp (pk_cons h t) fun σ H Q q => by
  obtain ⟨c, S, E, ps, hk, t, q⟩ := q
  refine ⟨c, S, E, ps, hk, t, PostA.bnd q fun a E' ps' v S' H' sm t' r p => ?_⟩
  exact ⟨c, S', E', ps', hk, t', PostA.bndA p fun ds E2 ps2 vs S2 H2 sm2 t2 r2 p2 => p2 (v :: vs) S2 H2 (Same.refl _) t2 (.cons (Rep.mono sm2 a r) r2)⟩
def callKM (gs gz : M (List D)) (n l m : Nat) (is : List Nat) (f : Fn) : M Sl := M.bnd gs fun ds => M.bnd gz fun zs => if ds.length = n ∧ zs.length = l ∧ (permL is (ds ++ zs)).length = m then applyF f (permL is (ds ++ zs)) else M.bad
theorem callK_read {gs gz : M (List D)} {n l m : Nat} {is : List Nat} {f : Fn} {σ : L2.St} {H : Hp} {Q : VK} (q : tM X.K W RS (callKM gs gz n l m is f) σ H Q) : tCallN n l (spD X.K m f) (fun vs zs => permL is (vs ++ zs)) W (tA X.K W gs) (tA X.K W gz) σ H Q := by
  obtain ⟨c, S, E, ps, hk, t, q⟩ := q
  refine ⟨c, S, E, ps, hk, t, Post.bndA q fun ds E1 ps1 vs S1 H1 sm1 t1 r1 p => ?_⟩
  refine ⟨c, S1, E1, ps1, hk, t1, Post.bndA p fun zs E2 ps2 us S2 H2 sm2 t2 r2 p => ?_⟩
  split at p
  · rename_i hl
    exact ⟨by rw [r1.length]; exact hl.1, by rw [r2.length]; exact hl.2.1, applyF_ok hk t2 (permR ((Reps.mono sm2 ds r1).append r2)) hl.2.2 p⟩
  · exact p.elim
theorem de_calK {CX : CXT} {k n m l : Nat} {g : Fn} {x : Str} {p : Pos} {ks : List Str} {is : List Nat} {gs gz : M (List D)} (C : CalK X.prog X.w X.K X.mg X.base CX k x m g n ks is) (hr : Room k X.A) (hx : Passes CX X W) (ha : DA X W (e :: es) gs) (hz : DK X W kws gz) (hg : Gl X x := by rfl) (hdb : (x == ("__debug__" : Str)) = false := by decide)
    (hall : (backToKw pos (keywordEach kws X.env)).all (·.1.isSome) = true := by rfl) (hks : (backToKw pos (keywordEach kws X.env)).filterMap (·.1) = ks := by rfl) (he : starEach (e :: es) X.env = (false, eval e X.env) :: starEach es X.env := by rfl)
    (hpl : ((backTo pos (starEach (e :: es) X.env)).any (·.1) || (backToKw pos (keywordEach kws X.env)).any (·.1.isNone)) = false := by rfl) (hl : ks.length = l := by rfl) : DE X W (.Call (.Name x p) (e :: es) kws pos) (callKM gs gz n l m is g) := by
  subst hl
  obtain ⟨f, fd, pl, F, hm, hk, hb⟩ := C
  exact pe_imp (pe_callN F hr hg hm hk hb hx ha hz hall hks hdb he hpl) fun σ H Q q => callK_read q
theorem de_calK0 {CX : CXT} {k m l : Nat} {g : Fn} {x : Str} {p : Pos} {ks : List Str} {is : List Nat} {gz : M (List D)} (C : CalK X.prog X.w X.K X.mg X.base CX k x m g 0 ks is) (hr : Room k X.A) (hx : Passes CX X W) (hz : DK X W kws gz) (hg : Gl X x := by rfl) (hdb : (x == ("__debug__" : Str)) = false := by decide)
    (hall : (backToKw pos (keywordEach kws X.env)).all (·.1.isSome) = true := by rfl) (hks : (backToKw pos (keywordEach kws X.env)).filterMap (·.1) = ks := by rfl)
    (hpl : ((backTo pos (starEach [] X.env)).any (·.1) || (backToKw pos (keywordEach kws X.env)).any (·.1.isNone)) = false := by rfl) (hl : ks.length = l := by rfl) : DE X W (.Call (.Name x p) [] kws pos) (callKM (argsM []) gz 0 l m is g) := by
  subst hl
  obtain ⟨f, fd, pl, F, hm, hk, hb⟩ := C
  refine pe_imp (pe_callN0 F hr hg hm hk hb hx hz hall hks hdb hpl) fun σ H Q q => ?_
  obtain ⟨c, S, E, ps, hk, t, q⟩ := q
  have q : Post W RS c S σ Q (M.bnd gz (fun zs => if ([] : List D).length = 0 ∧ zs.length = ks.length ∧ (permL is ([] ++ zs)).length = m then applyF g (permL is ([] ++ zs)) else M.bad) E ps) := q
  refine ⟨c, S, E, ps, hk, t, Post.bndA q fun zs E2 ps2 us S2 H2 sm2 t2 r2 p => ?_⟩
  split at p
  · rename_i hl
    exact ⟨rfl, by rw [r2.length]; exact hl.2.1, applyF_ok hk t2 (permR r2) hl.2.2 p⟩
  · exact p.elim
end
/-! ### defs with defaults -/
theorem FunD.okD {P : Program} {w : World} {K : PySem.W.Frag} {mg : Str → Option Value} {base : Heap} {x qual : Str} {st : Stmt} {dvs : List V} {f : Addr} {fd : FuncData} {N ps : List Str} {k : Nat} (F : FunD K x qual (defArgs st) (defBody st) (defScope st) dvs [] f fd) (S : FnScope N ps (defScope st)) {body : M Fl} (hn : ps.length ≤ N.length)
    (hbody : ∀ (cdv : Value) (A : Around) (outer : List Env) (s : Shared) (H : Hp) (E : XK), Room k (A.deeper (envOfC qual (defScope st) s.heap.objs.size f cdv)) →
      DSs (cxOf CX0 P w K mg base N qual (defScope st) f cdv A outer s H E).nox W0 (defBody st) body) : FnOk P w K mg base CX0 (k + 1) f fd ps (spD K ps.length (runF0 N.length body)) := by
  refine F.ok S (fun vs H Q E h => ?_) (fun cdv A outer s H vs Q E hr h => ?_)
  · obtain ⟨p, S, args, pn, h1, h2, _⟩ := h
    exact h1
  · obtain ⟨p, S', args, pn, h1, h2, r, b, q⟩ := h
    have z : PSs (cxOf CX0 P w K mg base N qual (defScope st) f cdv A outer s H E).nox (defBody st) (tS K W0 body) := hbody cdv A outer s H E hr
    refine ⟨_, z.nox, ⟨K, p, S', H, none⟩, S', _, pn, rfl, start_stt (h1.trans h2.symm) (by rw [h2]; exact hn) r b, ?_⟩
    exact FPost.of (σ := L2.start N vs) (FPost.calm (E' := W0) q)
end Dl
/-! instances that are made, methods, exceptions -/
namespace Dl
open PySem PySem.Spec PyProof.Rows L2 Dh
variable [LawT] [LawS]
/-! ### defs with defaults that may raise -/
theorem FunD.okXD {P : Program} {w : World} {K : PySem.W.Frag} {mg : Str → Option Value} {base : Heap} {x qual : Str} {st : Stmt} {dvs : List V} {f : Addr} {fd : FuncData} {N ps : List Str} {k : Nat} (F : FunD K x qual (defArgs st) (defBody st) (defScope st) dvs [] f fd) (S : FnScope N ps (defScope st)) {body : M Fl} (hn : ps.length ≤ N.length)
    (hbody : ∀ (cdv : Value) (A : Around) (outer : List Env) (s : Shared) (H : Hp) (E : XK), Room k (A.deeper (envOfC qual (defScope st) s.heap.objs.size f cdv)) →
      DSs (cxOf (L2.CX P w) P w K mg base N qual (defScope st) f cdv A outer s H E) E (defBody st) body) : FnOk P w K mg base (L2.CX P w) (k + 1) f fd ps (spD K ps.length (runF N.length body)) := by
  refine F.ok S (fun vs H Q E h => ?_) (fun cdv A outer s H vs Q E hr h => ?_)
  · obtain ⟨p, S, args, pn, h1, h2, _⟩ := h
    exact h1
  · obtain ⟨p, S', args, pn, h1, h2, r, b, q⟩ := h
    refine ⟨_, hbody cdv A outer s H E hr, ⟨K, p, S', H, none⟩, S', _, pn, rfl, start_stt (h1.trans h2.symm) (by rw [h2]; exact hn) r b, ?_⟩
    exact FPost.of (σ := L2.start N vs) q
/-! ### __init__ -/
def outI (n : String) : Out Fl → FOut
  | .ok .next E' ps' => match (E'[0]? : Option Sl) with
    | some (.oi m fs) => if m == n then .ok (.im (.ins n fs)) ps' else .bad
    | _ => .bad
  | .ok _ _ _ => .bad
  | .err x ps' => .err x ps'
  | .bad => .bad
def envI (N : Nat) (n : String) (args : List D) : List Sl := .oi n [] :: envF (N - 1) args
def runI (N : Nat) (n : String) (body : M Fl) : Fn := fun args ps => outI n (body (envI N n args) ps)
def runI0 (N : Nat) (n : String) (body : M Fl) : Fn := fun args ps => calmF (runI N n body args ps)
def FPostI (E : XK) (c : Ctx) (x : Addr) (Q : VK) : FOut → Prop
  | .ok (.im d) ps' => ∀ S' H', Bs c S' H' ps' → Rep c.K c.p S' d (.ref x) → Q .non H'
  | .ok _ _ => False
  | .err y ps' => ErrTo E c y ps'
  | .bad => False
def spI (K : PySem.W.Frag) (n : String) (m : Nat) (f : Fn) : Sp := fun vs H Q E => ∃ p S H1 args ps x dx ws, vs = .ref x :: ws ∧ ws.length = m ∧ args.length = m ∧ Reps K p S args ws ∧ H1 x = none ∧ H1 dx = none ∧ dx ≠ x ∧ H = upd (upd H1 dx (.own x)) x (.ins (LawT.C n) dx []) ∧
  Bs ⟨K, p, S, H1, none⟩ S H1 ps ∧ FPostI E ⟨K, p, S, H1, none⟩ x Q (f args ps)
theorem Bs.me {c c' : Ctx} {S H : Hp} {ps : Pn} (b : Bs c S H ps) (h1 : c'.K = c.K) (h2 : c'.p = c.p) (h3 : c'.S0 = c.S0) (h4 : c'.H0 = c.H0) : Bs c' S H ps := by
  obtain ⟨K, p, S0, H0, m⟩ := c
  obtain ⟨K', p', S0', H0', m'⟩ := c'
  simp only at h1 h2 h3 h4
  subst h1 h2 h3 h4
  exact ⟨b.sub, b.s0, b.keep, b.dom, b.tabs, b.tn, b.fresh, b.hp, b.pen⟩
theorem start_stI {K : PySem.W.Frag} {p x dx : Addr} {S H1 : Hp} {ps : Pn} {args : List D} {ws : List V} {N : List Str} {n : String} (hl : ws.length = args.length) (hN : args.length + 1 ≤ N.length) (r : Reps K p S args ws) (b : Bs ⟨K, p, S, H1, none⟩ S H1 ps) (hx : H1 x = none) (hd : H1 dx = none) (ne : dx ≠ x) :
    Stt ⟨K, p, S, H1, some x⟩ S (upd (upd H1 dx (.own x)) x (.ins (LawT.C n) dx [])) (L2.start N (.ref x :: ws)) (envI N.length n args) ps := by
  have hx2 : upd H1 dx (.own x) x = none := by rw [upd_ne (Ne.symm ne)]; exact hx
  have b1 := b.newO (o := .own x) hd
  have b2 : Bs ⟨K, p, S, H1, none⟩ S (upd (upd H1 dx (.own x)) x (.ins (LawT.C n) dx [])) ps := Bs.trans (c := ⟨K, p, S, H1, none⟩) b1 (Bs.newO (c := ⟨K, p, S, H1, none⟩) b1 hx2)
  have t0 : ∀ {i : Nat} {s : Sl}, (envF (N.length - 1) args)[i]? = some s → s ≠ .un → ∃ d, args[i]? = some d ∧ s = .im d := fun {i s} e n => by
    unfold envF at e
    by_cases hi : i < args.length
    · rw [List.getElem?_append_left (by rw [List.length_map]; exact hi), List.getElem?_map, List.getElem?_eq_getElem hi] at e
      exact ⟨_, List.getElem?_eq_getElem hi, (Option.some.inj e).symm⟩
    · rw [List.getElem?_append_right (by rw [List.length_map]; omega)] at e
      have q := List.mem_of_getElem? e
      exact absurd (List.eq_of_mem_replicate q) n
  have own1 : ∀ {i : Nat} {s : Sl}, (envI N.length n args)[i]? = some s → s.own = true → i = 0 := fun {i s} e o => by
    cases i with
    | zero => rfl
    | succ i =>
      have e : (envF (N.length - 1) args)[i]? = some s := e
      obtain ⟨d, _, rfl⟩ := t0 e (fun z => by subst z; cases o)
      cases o
  refine ⟨Bs.me b2 rfl rfl rfl rfl, ?_, fun i s e n => ?_, fun i j s t v e1 e2 o1 o2 _ _ => ?_⟩
  · unfold envI envF L2.start
    simp only [List.length_cons, List.length_append, List.length_map, List.length_replicate, hl]
    omega
  · cases i with
    | zero =>
      have e : some (Sl.oi _ []) = some s := e
      cases e
      exact ⟨.ref x, rfl, x, dx, [], ⟨rfl, rfl⟩, b.s_none hx, hx, upd_same, b.s_none hd, hd, by rw [upd_ne ne, upd_same], rfl⟩
    | succ i =>
      have e : (envF (N.length - 1) args)[i]? = some s := e
      obtain ⟨d, e1, rfl⟩ := t0 e n
      obtain ⟨v, e2, rd⟩ := r.get e1
      refine ⟨v, ?_, rd⟩
      unfold L2.start
      have hi := (List.getElem?_eq_some_iff.mp e2).1
      rw [List.getElem?_append_left (by simp only [List.length_map, List.length_cons]; omega), List.map_cons, List.getElem?_cons_succ, List.getElem?_map, e2]
      rfl
  · rw [own1 e1 o1, own1 e2 o2]
theorem FPostI.of {E : XK} {K : PySem.W.Frag} {p x : Addr} {S H1 : Hp} {σ : L2.St} {Q : VK} {n : String} {o : Out Fl} (h : FPostI E ⟨K, p, S, H1, none⟩ x Q (outI n o)) : PostS E ⟨K, p, S, H1, some x⟩ S { nx := fun _ H' => Q .non H', rt := Q } o := by
  cases o with
  | bad => exact h.elim
  | err y ps' => exact fun cls d S' H' b r => h cls d S' H' (Bs.me b rfl rfl rfl rfl) r
  | ok fl E' ps' =>
    cases fl with
    | brk => exact h.elim
    | cont => exact h.elim
    | ret r => exact h.elim
    | next =>
      intro σ' S' H' sm t
      unfold outI at h
      simp only at h
      split at h
      · rename_i m fs e0
        split at h
        · rename_i hmn
          have hmn : m = n := beq_iff_eq.mp hmn
          subst hmn
          obtain ⟨v, S2, e1, sm2, t2, rp⟩ := t.frzSlot e0 (fun z => by cases z)
          obtain ⟨v', e1', ok⟩ := t.slots 0 _ e0 (fun z => by cases z)
          rw [e1] at e1'
          cases e1'
          obtain ⟨a, dx, xs, ⟨rfl, hme⟩, _⟩ := ok
          cases hme
          exact h S2 H' (Bs.me t2.bs rfl rfl rfl rfl) rp
        · exact h.elim
      · exact h.elim
theorem FPostI.calm {E E' : XK} {c : Ctx} {x : Addr} {Q : VK} {o : FOut} (h : FPostI E c x Q (calmF o)) : FPostI E' c x Q o := by
  cases o with
  | ok r ps' => cases r <;> exact h
  | err y ps' => exact h.elim
  | bad => exact h.elim
theorem Fun.okI {P : Program} {w : World} {K : PySem.W.Frag} {mg : Str → Option Value} {base : Heap} {x qual : Str} {st : Stmt} {f : Addr} {fd : FuncData} {N ps : List Str} {k m : Nat} {n : String} (F : Fun K x qual st f fd) (S : FnScope N ps (defScope st)) {body : M Fl} (hm : ps.length = m + 1) (hn : ps.length ≤ N.length)
    (hbody : ∀ (cdv : Value) (A : Around) (outer : List Env) (s : Shared) (H : Hp) (E : XK), Room k (A.deeper (envOfC qual (defScope st) s.heap.objs.size f cdv)) →
      DSs (cxOf (L2.CX P w) P w K mg base N qual (defScope st) f cdv A outer s H E) E (defBody st) body) : FnOk P w K mg base (L2.CX P w) (k + 1) f fd ps (spI K n m (runI N.length n body)) := by
  refine F.okX S (fun vs H Q E h => ?_) (fun cdv A outer s H vs Q E hr h => ?_)
  · obtain ⟨p, S, H1, args, pn, x, dx, ws, rfl, h1, h2, _⟩ := h
    rw [List.length_cons, h1, hm]
  · obtain ⟨p, S', H1, args, pn, x, dx, ws, rfl, h1, h2, r, hx, hd, ne, rfl, b, q⟩ := h
    refine ⟨_, hbody cdv A outer s _ E hr, ⟨K, p, S', H1, some x⟩, S', _, pn, rfl, start_stI (h1.trans h2.symm) (by rw [h2, ← hm]; exact hn) r b hx hd ne, ?_⟩
    exact FPostI.of (σ := L2.start N (.ref x :: ws)) q
theorem Fun.okI0 {P : Program} {w : World} {K : PySem.W.Frag} {mg : Str → Option Value} {base : Heap} {x qual : Str} {st : Stmt} {f : Addr} {fd : FuncData} {N ps : List Str} {k m : Nat} {n : String} (F : Fun K x qual st f fd) (S : FnScope N ps (defScope st)) {body : M Fl} (hm : ps.length = m + 1) (hn : ps.length ≤ N.length)
    (hbody : ∀ (cdv : Value) (A : Around) (outer : List Env) (s : Shared) (H : Hp) (E : XK), Room k (A.deeper (envOfC qual (defScope st) s.heap.objs.size f cdv)) →
      DSs (cxOf CX0 P w K mg base N qual (defScope st) f cdv A outer s H E).nox W0 (defBody st) body) : FnOk P w K mg base CX0 (k + 1) f fd ps (spI K n m (runI0 N.length n body)) := by
  refine F.ok S (fun vs H Q E h => ?_) (fun cdv A outer s H vs Q E hr h => ?_)
  · obtain ⟨p, S, H1, args, pn, x, dx, ws, rfl, h1, h2, _⟩ := h
    rw [List.length_cons, h1, hm]
  · obtain ⟨p, S', H1, args, pn, x, dx, ws, rfl, h1, h2, r, hx, hd, ne, rfl, b, q⟩ := h
    refine ⟨_, hbody cdv A outer s _ E hr, ⟨K, p, S', H1, some x⟩, S', _, pn, rfl, start_stI (h1.trans h2.symm) (by rw [h2, ← hm]; exact hn) r b hx hd ne, ?_⟩
    exact FPostI.of (σ := L2.start N (.ref x :: ws)) (FPostI.calm (E' := W0) q)
/-! ### C(..) -/
def CalC (P : Program) (w : World) (K : PySem.W.Frag) (mg : Str → Option Value) (base : Heap) (CX : CXT) (k : Nat) (x : Str) (n : String) (m : Nat) (g : Fn) : Prop :=
  ∃ fI fd pl, Mk K (LawT.C n) fI ∧ FnOk P w K mg base CX k fI fd pl (spI K n m g) ∧ mg x = some (.ref (LawT.C n)) ∧ Binds K fd pl []
/-- .. by keywords -/
def CalCK (P : Program) (w : World) (K : PySem.W.Frag) (mg : Str → Option Value) (base : Heap) (CX : CXT) (k : Nat) (x : Str) (n : String) (m : Nat) (g : Fn) (np : Nat) (ks : List Str) (is : List Nat) : Prop :=
  ∃ fI fd pl, Mk K (LawT.C n) fI ∧ FnOk P w K mg base CX k fI fd pl (spI K n m g) ∧ mg x = some (.ref (LawT.C n)) ∧ KBn K fd pl (np + 1) ks (fun us ws => permL is (us ++ ws)) (fun vs zs => permL is (vs ++ zs)) ∧ ∀ {α : Type} (v : α) (l : List α), permL is (v :: l) = v :: permL (is.drop 1 |>.map (· - 1)) l
section
variable {X : Cx} {W : XK} {e : Expr} {es : List Expr} {kws : List Keyword} {pos : Pos} {c : Ctx} {S S' H H' : Hp} {σ : L2.St} {E : List Sl} {ps : Pn}
theorem applyI_ok {f : Fn} {n : String} {m : Nat} {ds : List D} {vs : List V} {Q : VK} (hk : c.K = X.K) (t : Stt c S H σ E ps) (r : Reps c.K c.p S ds vs) (hn : ds.length = m) (p : Post W RS c S σ Q (applyF f ds E ps)) (hi : ∀ r ps', f ds ps = .ok r ps' → ∃ d, r = .im d) :
    ∀ x dx, H x = none → H dx = none → dx ≠ x → spI X.K n m f (.ref x :: vs) (upd (upd H dx (.own x)) x (.ins (LawT.C n) dx [])) (fun v H2 => v = .non ∧ Q (.ref x) H2) W := by
  intro x dx hx hd ne
  subst hn
  refine ⟨c.p, S, H, ds, ps, x, dx, vs, rfl, r.length, rfl, hk ▸ r, hx, hd, ne, rfl, hk ▸ t.bs.start, ?_⟩
  rw [← hk]
  unfold applyF at p
  cases e : f ds ps with
  | bad => rw [e] at p; exact p
  | err y ps' =>
    rw [e] at p
    intro cls d S' H' b rx
    exact p cls d S' H' (t.bs.trans b) rx
  | ok r ps' =>
    rw [e] at p
    obtain ⟨d, rfl⟩ := hi _ _ e
    intro S' H' b rp
    exact ⟨rfl, p (.ref x) S' H' b.s0 (t.grow b) (RS.im rp)⟩
theorem runI_im {N : Nat} {n : String} {body : M Fl} {ds : List D} {ps ps' : Pn} {r : Sl} (h : runI N n body ds ps = .ok r ps') : ∃ d, r = .im d := by
  unfold runI outI at h
  split at h
  · split at h
    · split at h
      · cases h; exact ⟨_, rfl⟩
      · cases h
    · cases h
  · cases h
  · cases h
  · cases h
theorem runI0_im {N : Nat} {n : String} {body : M Fl} {ds : List D} {ps ps' : Pn} {r : Sl} (h : runI0 N n body ds ps = .ok r ps') : ∃ d, r = .im d := by
  unfold runI0 at h
  cases e : runI N n body ds ps with
  | ok r' ps2 => rw [e] at h; cases h; exact runI_im e
  | err _ _ => rw [e] at h; cases h
  | bad => rw [e] at h; cases h
theorem de_make {CX : CXT} {k m : Nat} {g : Fn} {x : Str} {n : String} {p : Pos} {gs : M (List D)} (C : CalC X.prog X.w X.K X.mg X.base CX k x n m g) (hi : ∀ ds ps r ps', g ds ps = .ok r ps' → ∃ d, r = .im d) (hr : Room (k + 1) X.A) (hx : Passes CX X W) (ha : DA X W (e :: es) gs) (hg : Gl X x := by rfl) (hdb : (x == ("__debug__" : Str)) = false := by decide)
    (he : starEach (e :: es) X.env = (false, eval e X.env) :: starEach es X.env := by rfl) (hpl : (backTo pos (starEach es X.env)).any (·.1) = false := by rfl) : DE X W (.Call (.Name x p) (e :: es) [] pos) (callM gs m g []) := by
  obtain ⟨fI, fd, pl, MK, F, hm, hb⟩ := C
  refine pe_imp (pe_make MK F hr hg hm hb .nil hx ha hdb he hpl) fun σ H Q q => ?_
  obtain ⟨c, S, E, ps, hk, t, q⟩ := q
  refine ⟨c, S, E, ps, hk, t, Post.bndA q fun ds E' ps' vs S' H' sm t' r p => ?_⟩
  split at p
  · rename_i hl
    rw [List.append_nil] at hl p
    rw [List.append_nil]
    exact applyI_ok hk t' r hl p fun r ps' h => hi _ _ _ _ h
  · exact p.elim
theorem de_makeK {CX : CXT} {k m np l : Nat} {g : Fn} {x : Str} {n : String} {p : Pos} {ks : List Str} {is js : List Nat} {gs gz : M (List D)} (C : CalCK X.prog X.w X.K X.mg X.base CX k x n m g np ks is) (hi : ∀ ds ps r ps', g ds ps = .ok r ps' → ∃ d, r = .im d) (hr : Room (k + 1) X.A) (hx : Passes CX X W) (ha : DA X W (e :: es) gs) (hz : DK X W kws gz) (hj : (is.drop 1).map (· - 1) = js := by rfl) (hg : Gl X x := by rfl) (hdb : (x == ("__debug__" : Str)) = false := by decide)
    (hall : (backToKw pos (keywordEach kws X.env)).all (·.1.isSome) = true := by rfl) (hks : (backToKw pos (keywordEach kws X.env)).filterMap (·.1) = ks := by rfl) (he : starEach (e :: es) X.env = (false, eval e X.env) :: starEach es X.env := by rfl)
    (hpl : ((backTo pos (starEach (e :: es) X.env)).any (·.1) || (backToKw pos (keywordEach kws X.env)).any (·.1.isNone)) = false := by rfl) (hl : ks.length = l := by rfl) : DE X W (.Call (.Name x p) (e :: es) kws pos) (callKM gs gz np l m js g) := by
  subst hl
  obtain ⟨fI, fd, pl, MK, F, hm, hb, hp⟩ := C
  refine pe_imp (pe_makeN MK F hr hg hm hb hx ha hz hall hks hdb he hpl) fun σ H Q q => ?_
  obtain ⟨c, S, E, ps, hk, t, q⟩ := q
  refine ⟨c, S, E, ps, hk, t, Post.bndA q fun ds E1 ps1 vs S1 H1 sm1 t1 r1 p => ?_⟩
  refine ⟨c, S1, E1, ps1, hk, t1, Post.bndA p fun zs E2 ps2 us S2 H2 sm2 t2 r2 p => ?_⟩
  split at p
  · rename_i hl
    refine ⟨by rw [r1.length]; exact hl.1, by rw [r2.length]; exact hl.2.1, fun y dy hy hd ne => ?_⟩
    have e1 : permL is ((V.ref y :: vs) ++ us) = V.ref y :: permL js (vs ++ us) := by rw [List.cons_append, hp, hj]
    show spI X.K n m g (permL is ((V.ref y :: vs) ++ us)) _ _ _
    rw [e1]
    exact applyI_ok hk t2 (permR ((Reps.mono sm2 ds r1).append r2)) hl.2.2 p (fun r ps' h => hi _ _ _ _ h) y dy hy hd ne
  · exact p.elim
/-- C(k = v, ..), nothing by position -/
theorem pe_makeN0 {CX : CXT} {k : Nat} {f C : Addr} {fd : FuncData} {ps ks : List Str} {sp : Sp} {E : XK} {x : Str} {p : Pos} {tk : TA} {g : List Value → List Value → List Value} {gV : List V → List V → List V} (MK : Mk X.K C f) (F : FnOk X.prog X.w X.K X.mg X.base CX k f fd ps sp) (hr : Room (k + 1) X.A) (hg : Gl X x) (hm : X.mg x = some (.ref C)) (hb : KBn X.K fd ps 1 ks g gV) (hx : Passes CX X E)
    (hkw : PK X kws tk) (hall : (backToKw pos (keywordEach kws X.env)).all (·.1.isSome) = true := by rfl) (hks : (backToKw pos (keywordEach kws X.env)).filterMap (·.1) = ks := by rfl)
    (hdb : (x == ("__debug__" : Str)) = false := by decide)
    (hpl : ((backTo pos (starEach [] X.env)).any (·.1) || (backToKw pos (keywordEach kws X.env)).any (·.1.isNone)) = false := by rfl) :
    PE X (.Call (.Name x p) [] kws pos) (tMakeN C 0 ks.length sp gV E tNil tk) := by
  refine ⟨fun pins s σ H Q I h => wpAny_Call_Name_kw (ld_glob I hg hm ?_ hdb)⟩
  have h : tk σ H fun zs H2 => ([] : List V).length = 0 ∧ zs.length = ks.length ∧ ∀ x dx, H2 x = none → H2 dx = none → dx ≠ x → sp (gV (.ref x :: []) zs) (upd (upd H2 dx (.own x)) x (.ins C dx [])) (fun v H3 => v = .non ∧ Q (.ref x) H3) E := h
  refine PySem.W.callWith_KW0 (h₀ := X.base) I.ok.mod.kin MK.kp hall (thn (hkw.run pos pins s σ H _ I h) fun ws s2 ⟨zs, H2, I2, rz, l1, l2, q2⟩ => ⟨I2.kIn, ?_⟩) hpl
  rw [hks]
  exact run_makeN MK F hr hb hx I2 .nil rz l1 l2 q2
theorem de_makeK0 {CX : CXT} {k m l : Nat} {g : Fn} {x : Str} {n : String} {p : Pos} {ks : List Str} {is js : List Nat} {gz : M (List D)} (C : CalCK X.prog X.w X.K X.mg X.base CX k x n m g 0 ks is) (hi : ∀ ds ps r ps', g ds ps = .ok r ps' → ∃ d, r = .im d) (hr : Room (k + 1) X.A) (hx : Passes CX X W) (hz : DK X W kws gz) (hj : (is.drop 1).map (· - 1) = js := by rfl) (hg : Gl X x := by rfl) (hdb : (x == ("__debug__" : Str)) = false := by decide)
    (hall : (backToKw pos (keywordEach kws X.env)).all (·.1.isSome) = true := by rfl) (hks : (backToKw pos (keywordEach kws X.env)).filterMap (·.1) = ks := by rfl)
    (hpl : ((backTo pos (starEach [] X.env)).any (·.1) || (backToKw pos (keywordEach kws X.env)).any (·.1.isNone)) = false := by rfl) (hl : ks.length = l := by rfl) : DE X W (.Call (.Name x p) [] kws pos) (callKM (argsM []) gz 0 l m js g) := by
  subst hl
  obtain ⟨fI, fd, pl, MK, F, hm, hb, hp⟩ := C
  refine pe_imp (pe_makeN0 MK F hr hg hm hb hx hz hall hks hdb hpl) fun σ H Q q => ?_
  obtain ⟨c, S, E, ps, hk, t, q⟩ := q
  have q : Post W RS c S σ Q (M.bnd gz (fun zs => if ([] : List D).length = 0 ∧ zs.length = ks.length ∧ (permL js ([] ++ zs)).length = m then applyF g (permL js ([] ++ zs)) else M.bad) E ps) := q
  refine ⟨c, S, E, ps, hk, t, Post.bndA q fun zs E2 ps2 us S2 H2 sm2 t2 r2 p => ?_⟩
  split at p
  · rename_i hl
    refine ⟨rfl, by rw [r2.length]; exact hl.2.1, fun y dy hy hd ne => ?_⟩
    have e1 : permL is ((V.ref y :: []) ++ us) = V.ref y :: permL js us := by rw [List.cons_append, hp, hj]; rfl
    show spI X.K n m g (permL is ((V.ref y :: []) ++ us)) _ _ _
    rw [e1]
    exact applyI_ok hk t2 (permR r2) hl.2.2 p (fun r ps' h => hi _ _ _ _ h) y dy hy hd ne
  · exact p.elim
end
end Dl
/-! exceptions: raised, made as values -/
namespace Dl
open PySem PySem.Spec PyProof.Rows L2 Dh
variable [LawT] [LawS]
theorem RepFs.app {K : PySem.W.Frag} {p : Addr} {S : Hp} : ∀ {fs gs : List (Str × D)} {xs ys : List (Str × V)}, RepFs K p S fs xs → RepFs K p S gs ys → RepFs K p S (fs ++ gs) (xs ++ ys)
  | [], _, _, _, h, h' => by rw [show _ = [] from h]; exact h'
  | (f, d) :: fs, _, _, _, ⟨v, r, h1, h2, h3⟩, h' => by subst h1; exact ⟨v, _, rfl, h2, RepFs.app h3 h'⟩
theorem RepFs.rev {K : PySem.W.Frag} {p : Addr} {S : Hp} : ∀ {fs : List (Str × D)} {xs : List (Str × V)}, RepFs K p S fs xs → RepFs K p S fs.reverse xs.reverse
  | [], _, h => by rw [show _ = [] from h]; rfl
  | (f, d) :: fs, _, ⟨v, r, h1, h2, h3⟩ => by subst h1; simp only [List.reverse_cons]; exact RepFs.app (RepFs.rev h3) ⟨v, [], rfl, h2, rfl⟩
theorem reps_zip {K : PySem.W.Frag} {p : Addr} {S : Hp} : ∀ (fl : List Str) {ds : List D} {vs : List V}, Reps K p S ds vs → RepFs K p S (fl.zip ds) (fl.zip vs)
  | [], _, _, _ => rfl
  | f :: fl, [], vs, h => by rw [show vs = [] from h]; rfl
  | f :: fl, d :: ds, vs, ⟨v, r, h1, h2, h3⟩ => by subst h1; exact ⟨v, _, rfl, h2, reps_zip fl h3⟩
/-- an own exception's __init__: it takes the fields, in this order -/
def spXn (C : Addr) (fl : List Str) : Sp := fun vs H Q _ => ∃ (x : Addr) (ws : List V), vs = .ref x :: ws ∧ ws.length = fl.length ∧ H x = some (exo x C none) ∧ ∀ dx, H dx = none → dx ≠ x → Q .non (upd (upd H dx (exd dx (fl.zip ws).reverse)) x (exo x C (some dx)))
theorem fnX1 {P : Program} {w : World} {K : PySem.W.Frag} {mg : Str → Option Value} {base : Heap} {CX : CXT} {k : Nat} {f C : Addr} {fd : FuncData} {pl : List Str} {fld : Str} (F : FnOk P w K mg base CX k f fd pl (De.spX1 C fld)) : FnOk P w K mg base CX k f fd pl (spXn C [fld]) :=
  F.imp fun vs H Q E h => by
    obtain ⟨x, ws, rfl, hl, hx, q⟩ := h
    match ws, hl with
    | [v], _ => exact ⟨x, v, rfl, hx, q⟩
theorem fnX2 {P : Program} {w : World} {K : PySem.W.Frag} {mg : Str → Option Value} {base : Heap} {CX : CXT} {k : Nat} {f C : Addr} {fd : FuncData} {pl : List Str} {f1 f2 : Str} (F : FnOk P w K mg base CX k f fd pl (De.spX2 C f1 f2)) : FnOk P w K mg base CX k f fd pl (spXn C [f1, f2]) :=
  F.imp fun vs H Q E h => by
    obtain ⟨x, ws, rfl, hl, hx, q⟩ := h
    match ws, hl with
    | [v, u], _ => exact ⟨x, v, u, rfl, hx, q⟩
def CalX (P : Program) (w : World) (K : PySem.W.Frag) (mg : Str → Option Value) (base : Heap) (k : Nat) (x : Str) (n : String) (flds : List String) : Prop :=
  ∃ fI fd pl, OexC K (LawT.C n) ∧ PySem.W.findIn K (.ref (LawT.C n)) "__init__" = some (some (.ref fI)) ∧ PySem.W.typeIn K (.ref fI) = some (.type "function") ∧ FnOk P w K mg base CX0 k fI fd pl (spXn (LawT.C n) (flds.map Str.ofString)) ∧ Binds K fd pl [] ∧ mg x = some (.ref (LawT.C n))
def excFs (flds : List String) (ds : List D) : List (Str × D) := ((flds.map Str.ofString).zip ds).reverse
section
variable {X : Cx} {W : XK} {e : Expr} {es : List Expr} {pos p2 : Pos} {c : Ctx} {S S' H H' : Hp} {σ : L2.St} {E : List Sl} {ps : Pn}
/-! ### raise C(..) -/
def errM (n : String) (flds : List String) (ds : List D) : M Fl := fun _ ps => if ds.length = flds.length ∧ ds.length ≤ 1000 then .err ⟨n, excFs flds ds⟩ ps else .bad
def raiseM (n : String) (flds : List String) (gs : M (List D)) : M Fl := M.bnd gs (errM n flds)
theorem ds_raise {k : Nat} {x : Str} {n : String} {flds : List String} {p : Pos} {gs : M (List D)} (C : CalX X.prog X.w X.K X.mg X.base k x n flds) (hr : Room (k + 1) X.A) (tk : Takes X (fun cls d _ H => W cls d H)) (hc : X.calm = true) (ha : DA X W (e :: es) gs) (hg : Gl X x := by rfl) (hdb : (x == ("__debug__" : Str)) = false := by decide)
    (he : starEach (e :: es) X.env = (false, eval e X.env) :: starEach es X.env := by rfl) (hpl : (backTo p2 (starEach es X.env)).any (·.1) = false := by rfl) : DS X W (.Raise (some (.Call (.Name x p) (e :: es) [] p2)) none pos) (raiseM n flds gs) := by
  obtain ⟨fI, fd, pl, T, iC, tI, F, hb, hm⟩ := C
  refine ps_imp (ps_raise hc tk (pmk_oex T iC tI F hr hb .nil pass0 hg hm ha hdb he hpl)) fun De σ H q => ?_
  obtain ⟨c, S, E, ps, hk, t, q⟩ := q
  refine ⟨c, S, E, ps, hk, t, PostS.bndA q fun ds E1 ps1 vs S1 H1 sm1 t1 r1 p => ?_⟩
  unfold errM at p
  split at p
  · rename_i hl
    refine ⟨by rw [r1.length]; exact hl.2, fun a na => ⟨a, vs, by rw [List.append_nil], by rw [r1.length, hl.1, List.length_map], upd_same, fun dx nd ne => ?_⟩⟩
    have nd1 : H1 dx = none := by rw [upd_ne ne] at nd; exact nd
    refine ⟨rfl, dx, _, upd_same, by rw [upd_ne ne, upd_same], nd1, ?_⟩
    have eh : upd (del (upd (upd (upd H1 a (exo a (LawT.C n) none)) dx (exd dx ((flds.map Str.ofString).zip vs).reverse)) a (exo a (LawT.C n) (some dx))) a) dx (.xd ((flds.map Str.ofString).zip vs).reverse) = upd H1 dx (.xd ((flds.map Str.ofString).zip vs).reverse) := by
      funext b
      by_cases h1 : b = dx
      · rw [h1, upd_same, upd_same]
      · rw [upd_ne h1, upd_ne h1]
        by_cases h2 : b = a
        · rw [h2, del_same, na]
        · rw [del_ne h2, upd_ne h2, upd_ne h1, upd_ne h2]
    show W _ _ _
    rw [eh]
    have b2 := t1.bs.trans (t1.bs.newF (o := .xd ((flds.map Str.ofString).zip vs).reverse) nd1)
    have sm2 : Same S1 (upd S1 dx (.xd ((flds.map Str.ofString).zip vs).reverse)) := upd_fresh (t1.bs.s_none nd1)
    exact p _ _ _ _ b2 ⟨rfl, dx, _, rfl, upd_same, RepFs.mono sm2 _ (RepFs.rev (reps_zip _ r1))⟩
  · exact p.elim
/-! ### C(..) as a value -/
theorem exoT {P : Program} {w : World} {H : Hp} {h : Heap} {a C dx : Addr} (hok : HOk P w H h) (e : H a = some (exo a C (some dx))) (H2 : Hp) : ObjOk P w H2 h a (ExT C dx a) := by
  obtain ⟨t1, he⟩ := exo_at hok e
  refine ⟨⟨_, _, he, ⟨rfl, rfl⟩, rfl⟩, ⟨_, he⟩, fun h1 h2 z k => ?_⟩
  obtain ⟨oe, vs, e1, e2, e3⟩ := z
  exact ⟨oe, vs, k _ e1, e2, e3⟩
theorem exdT {P : Program} {w : World} {H : Hp} {h : Heap} {dx : Addr} {fs : List (Str × V)} (hok : HOk P w H h) (e : H dx = some (exd dx fs)) (H2 : Hp) : ObjOk P w H2 h dx (.xd fs) := by
  obtain ⟨mA, hns, rel⟩ := exd_at hok e
  exact ⟨mA, hns, rel⟩
theorem retrack {pins : List (Addr × Obj)} {s : Shared} {a : Addr} {φ : Heap → Prop} {o : HO} (I : Inv X pins σ H s) (e : H a = some (.ext φ)) (ho : ∃ u, s.heap.get? a = some u) (new : ObjOk X.prog X.w (upd H a o) s.heap a o) : Inv X pins σ (upd H a o) s := by
  have z := I.write (t' := s.toks) (h' := s.heap) (x := a) (e := a) (o := o) (by rw [e]; exact True.intro) (.inl rfl) (fun b u _ q => q) ho new
  exact z
def tMkV (C : Addr) (sp : Sp) (dvs : List V) (ta : TA) : TE := fun σ H Q => ta σ H fun vs H1 => vs.length ≤ 1000 ∧ ∀ a, H1 a = none → sp (.ref a :: (vs ++ dvs)) (upd H1 a (exo a C none))
  (fun v H2 => v = .non ∧ ∃ (d : Addr) (fs : List (Str × V)), d ≠ a ∧ H2 a = some (exo a C (some d)) ∧ H2 d = some (exd d fs) ∧ Q (.ref a) (upd (upd H2 d (.xd fs)) a (ExT C d a))) (fun _ _ _ => False)
theorem pe_oexV {CX : CXT} {x : Str} {C fI : Addr} {k : Nat} {fd : FuncData} {pl : List Str} {sp : Sp} {ds : List Value} {dvs : List V} {p : Pos} {ta : TA} (T : OexC X.K C) (iC : PySem.W.findIn X.K (.ref C) "__init__" = some (some (.ref fI))) (tI : PySem.W.typeIn X.K (.ref fI) = some (.type "function"))
    (F1 : FnOk X.prog X.w X.K X.mg X.base CX k fI fd pl sp) (hr : Room (k + 1) X.A) (hb : Binds X.K fd pl ds) (hd : Vals dvs ds) (hx : Passes CX X (fun _ _ _ => False)) (hg : Gl X x) (hm : X.mg x = some (.ref C)) (ha : PA X (e :: es) ta)
    (hdb : (x == ("__debug__" : Str)) = false := by decide) (he : starEach (e :: es) X.env = (false, eval e X.env) :: starEach es X.env := by rfl) (hpl : (backTo pos (starEach es X.env)).any (·.1) = false := by rfl) :
    PE X (.Call (.Name x p) (e :: es) [] pos) (tMkV C sp dvs ta) := by
  refine ⟨fun pins s σ H Q I h => ?_⟩
  obtain ⟨nm, q, N, bs, bm, sn, sub, ab, col, dd, k0, k1, k2, k3, k5, hC, hbm⟩ := T.cls
  refine wpAny_Call_Name_kw (ld_glob I hg hm ?_ hdb)
  refine PySem.W.callWith_K (h₀ := X.base) I.ok.mod.kin T.kC (thn (ha.run pos pins s σ H _ I h) fun us s1 ⟨vs, H1, I1, r1, hz, q1⟩ => ⟨I1.kIn, ?_⟩) he hpl
  show wpAny _ _ (call (.ref C) us) _ _ _
  obtain ⟨hp, g, dr, tk, os⟩ := s1
  have hsz : hp.objs.size ≤ hp.objs.size + 1 := Nat.le_succ _
  have hn : H1 (hp.objs.size + 1) = none := I1.hok.fresh hsz
  have hq := q1 (hp.objs.size + 1) hn
  have kk : ∀ b o, hp.get? b = some o → ((hp.push (PySem.W.kdv_tup us)).push (PySem.HandSPX.excO C hp.objs.size)).get? b = some o := fun b o e => Heap.get?_push_of_some _ (Heap.get?_push_of_some _ e)
  have hget : ((hp.push (PySem.W.kdv_tup us)).push (PySem.HandSPX.excO C hp.objs.size)).get? (hp.objs.size + 1) = some (PySem.HandSPX.excO C hp.objs.size) := by heap_get
  have I2 : Inv X pins σ (upd H1 (hp.objs.size + 1) (exo (hp.objs.size + 1) C none)) ⟨(hp.push (PySem.W.kdv_tup us)).push (PySem.HandSPX.excO C hp.objs.size), g, dr, tk, os⟩ :=
    I1.laid (t' := tk) (a := hp.objs.size + 1) (o := exo (hp.objs.size + 1) C none) (h' := (hp.push (PySem.W.kdv_tup us)).push (PySem.HandSPX.excO C hp.objs.size)) kk hsz (exo_ok hget)
  have r2 : Vals (V.ref (hp.objs.size + 1) :: (vs ++ dvs)) (Value.ref (hp.objs.size + 1) :: (us ++ ds)) := .cons rfl (r1.append hd)
  have hl : (Value.ref (hp.objs.size + 1) :: us ++ ds).length = pl.length := by
    have e := r2.length
    rw [F1.len _ _ _ _ hq] at e
    exact e.symm
  have hus : us.length ≤ sizeLine := by
    rw [← Paired.length r1, sizeLine_eq]
    omega
  refine wpAny_call (PySem.HandSPX.call_own PySem.F.excBase_ValueError (fun Y => PySem.HandSPX.refsVE_contains Y bm hbm) (I1.kIn _ _ hC) (PySem.W.looks_findIn I1.kIn iC) (fun self => PySem.W.bind_fn I1.kIn self tI) hus
    (codeAny_mono (F1.run _ X.stack _ _ ⟨Value.ref (hp.objs.size + 1) :: us, []⟩ (Value.ref (hp.objs.size + 1) :: (us ++ ds)) _ _ (fun _ _ _ => False) (hr.make C us []) (I2.env0.make C us []) (hb _ (Value.ref (hp.objs.size + 1) :: us) I2.kIn hl) r2 hq) fun r s' hq' => ?_))
  cases r with
  | error er => exact hx pins σ _ _ er s' I2 hq'
  | ok fl =>
    cases fl with
    | ret u =>
      obtain ⟨v, H2, I3, rv, ev, d, fs, nda, ea, ed, q2⟩ := I2.after hq'
      subst ev
      refine ⟨rv, .ref (hp.objs.size + 1), _, ?_, rfl, q2⟩
      have od : ∃ u, s'.heap.get? d = some u := by
        obtain ⟨mA, ⟨o, _, _, e', _⟩, _⟩ := exd_at I3.hok ed
        exact ⟨o, e'⟩
      have oa : ∃ u, s'.heap.get? (hp.objs.size + 1) = some u := by
        obtain ⟨t1, e'⟩ := exo_at I3.hok ea
        exact ⟨_, e'⟩
      have I4 := retrack I3 ed od (exdT I3.hok ed _)
      have ea4 : upd H2 d (.xd fs) (hp.objs.size + 1) = some (exo (hp.objs.size + 1) C (some d)) := by rw [upd_ne (Ne.symm nda)]; exact ea
      exact retrack I4 ea4 oa (exoT I4.hok ea4 _)
    | next => exact False.elim hq'
    | brk => exact False.elim hq'
    | cont => exact False.elim hq'
def excO (n : String) (flds : List String) (ds : List D) : M Sl := if ds.length = flds.length ∧ ds.length ≤ 1000 then im1 (.exc n (excFs flds ds)) else M.bad
def excM (n : String) (flds : List String) (gs : M (List D)) : M Sl := M.bnd gs (excO n flds)
theorem de_exc {k : Nat} {x : Str} {n : String} {flds : List String} {p : Pos} {gs : M (List D)} (C : CalX X.prog X.w X.K X.mg X.base k x n flds) (hr : Room (k + 1) X.A) (ha : DA X W (e :: es) gs) (hg : Gl X x := by rfl) (hdb : (x == ("__debug__" : Str)) = false := by decide)
    (he : starEach (e :: es) X.env = (false, eval e X.env) :: starEach es X.env := by rfl) (hpl : (backTo pos (starEach es X.env)).any (·.1) = false := by rfl) : DE X W (.Call (.Name x p) (e :: es) [] pos) (excM n flds gs) := by
  obtain ⟨fI, fd, pl, T, iC, tI, F, hb, hm⟩ := C
  refine pe_imp (pe_oexV T iC tI F hr hb .nil pass0 hg hm ha hdb he hpl) fun σ H Q q => ?_
  obtain ⟨c, S, E, ps, hk, t, q⟩ := q
  refine ⟨c, S, E, ps, hk, t, Post.bndA q fun ds E1 ps1 vs S1 H1 sm1 t1 r1 p => ?_⟩
  unfold excO at p
  split at p
  · rename_i hl
    refine ⟨by rw [r1.length]; exact hl.2, fun a na => ⟨a, vs, by rw [List.append_nil], by rw [r1.length, hl.1, List.length_map], upd_same, fun dx nd ne => ?_⟩⟩
    have nd1 : H1 dx = none := by rw [upd_ne ne] at nd; exact nd
    refine ⟨rfl, dx, _, ne, upd_same, by rw [upd_ne ne, upd_same], ?_⟩
    have eh : upd (upd (upd (upd (upd H1 a (exo a (LawT.C n) none)) dx (exd dx ((flds.map Str.ofString).zip vs).reverse)) a (exo a (LawT.C n) (some dx))) dx (.xd ((flds.map Str.ofString).zip vs).reverse)) a (ExT (LawT.C n) dx a) = upd (upd H1 dx (.xd ((flds.map Str.ofString).zip vs).reverse)) a (ExT (LawT.C n) dx a) := by
      funext b
      by_cases h2 : b = a
      · rw [h2, upd_same, upd_same]
      · rw [upd_ne h2, upd_ne h2]
        by_cases h1 : b = dx
        · rw [h1, upd_same, upd_same]
        · rw [upd_ne h1, upd_ne h1, upd_ne h2, upd_ne h1, upd_ne h2]
    rw [eh]
    have g1 := t1.bs.newF (o := .xd ((flds.map Str.ofString).zip vs).reverse) nd1
    have t2 := t1.grow g1
    have sm2 : Same S1 (upd S1 dx (.xd ((flds.map Str.ofString).zip vs).reverse)) := upd_fresh (t1.bs.s_none nd1)
    have na2 : upd H1 dx (.xd ((flds.map Str.ofString).zip vs).reverse) a = none := by rw [upd_ne (Ne.symm ne)]; exact na
    have g2 := t2.bs.newF (o := ExT (LawT.C n) dx a) na2
    have t3 := t2.grow g2
    have sm3 : Same (upd S1 dx (.xd ((flds.map Str.ofString).zip vs).reverse)) (upd (upd S1 dx (.xd ((flds.map Str.ofString).zip vs).reverse)) a (ExT (LawT.C n) dx a)) := upd_fresh (t2.bs.s_none na2)
    exact p _ _ _ (sm2.trans sm3) t3 (RS.im ⟨a, dx, _, rfl, upd_same, by rw [upd_ne ne, upd_same], RepFs.mono (sm2.trans sm3) _ (RepFs.rev (reps_zip _ r1))⟩)
  · exact p.elim
end
end Dl
namespace Dl
open PySem PySem.Spec PyProof.Rows L2 Dh
variable [LawT]
theorem dv_globI {X : Cx} {W : XK} {x : Str} {pos : Pos} {i : Int} (hm : ∃ t, X.mg x = some (.int i t)) (hg : Gl X x := by rfl) (hd : (x == ("__debug__" : Str)) = false := by decide) : DV X W (.Name x pos) (M.ret (.int i)) := by
  obtain ⟨t, e⟩ := hm
  exact dv_glob (v := .int i) e ⟨t, rfl⟩ (fun _ _ => rfl) hg hd
end Dl
/-! what the data's functions compute: loops as folds -/
namespace Dl
open PySem PySem.Spec PyProof.Rows L2 Dh
variable [LawT]
section
variable {σ : Type}
def outL (stp : σ → D → Option D × σ) : σ → List D → List D
  | _, [] => []
  | s, d :: r => (stp s d).1.toList ++ outL stp (stp s d).2 r
def endL (stp : σ → D → Option D × σ) : σ → List D → σ
  | s, [] => s
  | s, d :: r => endL stp (stp s d).2 r
theorem lcG_fold {own : List Nat} {tg : Tg} {tt : M Bool} {te : M D} (emb : σ → List Sl) (pn : σ → Pn) (stp : σ → D → Option D × σ) (ok : σ → List D → Prop)
    (hs : ∀ s d r acc, ok s (d :: r) → fits (acc.length + 1) = true → (∀ rest : List D → M (List D), M.bnd (tg d) (fun _ => lcK own tt te rest acc) (emb s) (pn s) = rest (acc ++ (stp s d).1.toList) (emb (stp s d).2) (pn (stp s d).2)) ∧ ok (stp s d).2 r) :
    ∀ (ds acc : List D) (s : σ), ok s ds → acc.length + ds.length ≤ 16777216 → lcG own tg tt te ds acc (emb s) (pn s) = .ok (acc ++ outL stp s ds) (emb (endL stp s ds)) (pn (endL stp s ds))
  | [], acc, s, _, _ => by rw [show outL stp s [] = [] from rfl, List.append_nil]; rfl
  | d :: r, acc, s, h, hl => by
    rw [List.length_cons] at hl
    obtain ⟨e, h'⟩ := hs s d r acc h (fits_of (by omega))
    show M.bnd (tg d) (fun _ => lcK own tt te (lcG own tg tt te r) acc) (emb s) (pn s) = _
    rw [e]
    have lt : (acc ++ (stp s d).1.toList).length + r.length ≤ 16777216 := by
      rw [List.length_append]
      have : (stp s d).1.toList.length ≤ 1 := by cases (stp s d).1 <;> simp
      omega
    rw [lcG_fold emb pn stp ok hs r _ _ h' lt, List.append_assoc]
    rfl
theorem forG_fold {tg : Tg} {body : M Fl} (emb : σ → List Sl) (pn : σ → Pn) (stp : σ → D → σ) (ok : σ → List D → Prop)
    (hs : ∀ s d r, ok s (d :: r) → (∀ k : M Fl, M.bnd (tg d) (fun _ => M.bnd body (afterK k)) (emb s) (pn s) = k (emb (stp s d)) (pn (stp s d))) ∧ ok (stp s d) r) :
    ∀ (ds : List D) (s : σ), ok s ds → forG tg body ds (emb s) (pn s) = .ok .next (emb (ds.foldl stp s)) (pn (ds.foldl stp s))
  | [], s, _ => rfl
  | d :: r, s, h => by
    obtain ⟨e, h'⟩ := hs s d r h
    show M.bnd (tg d) (fun _ => M.bnd body (afterK (forG tg body r))) (emb s) (pn s) = _
    rw [e, forG_fold emb pn stp ok hs r _ h']
    rfl
end
theorem getD_map {α β : Type} (f : α → β) (l : List α) (i : Nat) : (l.map f)[i]? = (l[i]?).map f := List.getElem?_map ..
theorem resto_wipe : ∀ (own : List Nat) (E0 E : List Sl), (∀ i ∈ own, i < E0.length) → E.length = E0.length → (∀ i, i ∉ own → E[i]? = E0[i]?) → resto own E0 E = E0 := by
  intro own E0 E hb hl ho
  apply List.ext_getElem?
  intro i
  have key : ∀ (own : List Nat) (E : List Sl), E.length = E0.length → (∀ j ∈ own, j < E0.length) → (resto own E0 E)[i]? = if i ∈ own then E0[i]? else E[i]? := by
    intro own
    induction own with
    | nil => intro E _ _; simp [resto]
    | cons v vs ih =>
      intro E hl hb
      have hv : v < E0.length := hb v List.mem_cons_self
      show ((resto vs E0 E).set v ((E0[v]?).getD .un))[i]? = _
      by_cases z : v = i
      · subst z
        rw [List.getElem?_set_self (by rw [resto_length, hl]; exact hv), if_pos List.mem_cons_self, List.getElem?_eq_getElem hv]
        rfl
      · rw [List.getElem?_set_ne z, ih E hl fun j hj => hb j (List.mem_cons_of_mem _ hj)]
        by_cases q : i ∈ vs
        · rw [if_pos q, if_pos (List.mem_cons_of_mem _ q)]
        · rw [if_neg q, if_neg (by simp only [List.mem_cons, not_or]; exact ⟨Ne.symm z, q⟩)]
  rw [key own E hl hb]
  by_cases q : i ∈ own
  · rw [if_pos q]
  · rw [if_neg q, ho i q]
/-- a comprehension, its loop known -/
theorem lcM_of {own : List Nat} {gi : M (List D)} {tg : Tg} {tt : M Bool} {te : M D} {E E1 E2 : List Sl} {ps ps1 ps2 : Pn} {ds out : List D} (hg : gi E ps = .ok ds E1 ps1) (hn : noOwn own E1 = true) (hl : lcG own tg tt te ds [] (wipeE own E1) ps1 = .ok out E2 ps2) :
    lcM own gi tg tt te E ps = .ok (.ol out) (resto own E1 E2) ps2 := by
  unfold lcM M.bnd
  rw [hg]
  show (if noOwn own E1 = true then lcEnd own E1 (lcG own tg tt te ds [] (wipeE own E1) ps1) else .bad) = _
  rw [if_pos hn, hl]
  rfl
/-- a comprehension that reads alone -/
theorem lcM_pure {own : List Nat} {gi : M (List D)} {tg : Tg} {tt : M Bool} {te : M D} {E E1 : List Sl} {ps ps1 : Pn} {ds : List D} (f : D → Option D) (hg : gi E ps = .ok ds E1 ps1) (hn : noOwn own E1 = true) (hb : ∀ i ∈ own, i < E1.length) (hl : ds.length ≤ 16777216)
    (hs : ∀ d ∈ ds, ∀ (acc : List D) (rest : List D → M (List D)), fits (acc.length + 1) = true → M.bnd (tg d) (fun _ => lcK own tt te rest acc) (wipeE own E1) ps1 = rest (acc ++ (f d).toList) (wipeE own E1) ps1) :
    lcM own gi tg tt te E ps = .ok (.ol (ds.filterMap f)) E1 ps1 := by
  have z := lcG_fold (σ := Unit) (own := own) (tg := tg) (tt := tt) (te := te) (fun _ => wipeE own E1) (fun _ => ps1) (fun _ d => (f d, ())) (fun _ r => ∀ d ∈ r, d ∈ ds) (fun s d r acc h hf => ⟨fun rest => hs d (h d List.mem_cons_self) acc rest hf, fun d' h' => h d' (List.mem_cons_of_mem _ h')⟩) ds [] () (fun _ h => h) (by simpa using hl)
  have e : ∀ r : List D, outL (σ := Unit) (fun _ d => (f d, ())) () r = r.filterMap f := by
    intro r
    induction r with
    | nil => rfl
    | cons d r ih =>
      show (f d).toList ++ outL (σ := Unit) _ () r = _
      rw [ih, List.filterMap_cons]
      cases f d <;> rfl
  rw [e, List.nil_append] at z
  rw [lcM_of hg hn z, resto_wipe own E1 _ hb (wipeE_length own E1) fun i hi => wipe_out' own E1 i hi]
where
  wipe_out' : ∀ (own : List Nat) (E1 : List Sl) (i : Nat), i ∉ own → (wipeE own E1)[i]? = E1[i]?
    | [], _, _, _ => rfl
    | v :: vs, E1, i, h => by
      simp only [List.mem_cons, not_or] at h
      show ((wipeE vs E1).set v .un)[i]? = _
      rw [List.getElem?_set_ne (Ne.symm h.1), wipe_out' vs E1 i h.2]
/-! ### runs, step by step -/
section
variable {E E' E2 : List Sl} {ps ps' ps2 : Pn}
theorem run_frz {g : M Sl} {r : Sl} (h : g E ps = .ok r E' ps') : frzM g E ps = .ok r.frz E' ps' := (bnd_ok h).trans rfl
theorem run_im {g : M D} {d : D} (h : g E ps = .ok d E' ps') : imM g E ps = .ok (.im d) E' ps' := (bnd_ok h).trans rfl
theorem run_ret {g : M Sl} {r : Sl} (h : g E ps = .ok r E' ps') : retM g E ps = .ok (.ret r) E' ps' := (bnd_ok h).trans rfl
theorem run_drop {g : M Sl} {r : Sl} (h : g E ps = .ok r E' ps') : dropM g E ps = .ok .next E' ps' := (bnd_ok h).trans rfl
theorem run_set {i : Nat} {g : M Sl} {r : Sl} (h : g E ps = .ok r E' ps') : setM i g E ps = .ok .next (E'.set i r) ps' := (bnd_ok h).trans rfl
theorem run_seq {f g : M Fl} (h : f E ps = .ok .next E' ps') : seqM f g E ps = g E' ps' := (bnd_ok h).trans rfl
theorem run_seqR {f g : M Fl} {r : Sl} (h : f E ps = .ok (.ret r) E' ps') : seqM f g E ps = .ok (.ret r) E' ps' := (bnd_ok h).trans rfl
theorem run_ite {α : Type} {c : M Bool} {a b : M α} {t : Bool} (h : c E ps = .ok t E' ps') : iteM c a b E ps = (if t then a else b) E' ps' := bnd_ok h
theorem run_test {g : M Sl} {b : Bool} (h : g E ps = .ok (.im (.bl b)) E' ps') : testM g E ps = .ok b E' ps' := (bnd_ok h).trans rfl
theorem run_truth {g : M Sl} {b : Bool} (h : g E ps = .ok (.im (.bl b)) E' ps') : truthM g E ps = .ok b E' ps' := (bnd_ok h).trans rfl
theorem run_not {g : M Bool} {b : Bool} (h : g E ps = .ok b E' ps') : notM g E ps = .ok (!b) E' ps' := (bnd_ok h).trans rfl
theorem run_c1 {α : Type} {g : M D} {k : List D → M α} {d : D} (h : g E ps = .ok d E' ps') : ops [.code g] k E ps = k [d] E' ps' := (bnd_ok h).trans rfl
theorem run_cc {α : Type} {g h : M D} {k : List D → M α} {d e : D} (h1 : g E ps = .ok d E' ps') (h2 : h E' ps' = .ok e E2 ps2) : ops [.code g, .code h] k E ps = k [d, e] E2 ps2 := (bnd_ok h1).trans ((bnd_ok h2).trans rfl)
theorem peek_run {i : Nat} {s : Sl} (e : E[i]? = some s) (n : s ≠ .un) : peek i E ps = .ok s.frz E ps := by
  unfold peek
  rw [e]
  cases s with
  | un => exact absurd rfl n
  | _ => rfl
theorem run_l1 {α : Type} {i : Nat} {k : List D → M α} {s : Sl} (e : E[i]? = some s) (n : s ≠ .un) : ops [.late i] k E ps = k [s.frz] E ps := by
  show M.bnd (peek i) (fun _ => M.bnd (looked [.inl i]) k) E ps = _
  rw [bnd_ok (peek_run e n)]
  show M.bnd (M.bnd (peek i) fun d => M.bnd (looked []) fun ds => M.ret (d :: ds)) k E ps = _
  rw [bnd_ok (a := [s.frz]) (E' := E) (ps' := ps)]
  rw [bnd_ok (peek_run e n)]; rfl
theorem run_lc {α : Type} {i : Nat} {g : M D} {k : List D → M α} {s s' : Sl} {d : D} (e : E[i]? = some s) (n : s ≠ .un) (h : g E ps = .ok d E' ps') (e' : E'[i]? = some s') (n' : s' ≠ .un) : ops [.late i, .code g] k E ps = k [s'.frz, d] E' ps' := by
  show M.bnd (peek i) (fun _ => M.bnd g fun d => M.bnd (looked [.inl i, .inr d]) k) E ps = _
  rw [bnd_ok (peek_run e n), bnd_ok h]
  rw [bnd_ok (a := [s'.frz, d]) (E' := E') (ps' := ps')]
  show M.bnd (peek i) _ E' ps' = _
  rw [bnd_ok (peek_run e' n')]; rfl
theorem run_cl {α : Type} {i : Nat} {g : M D} {k : List D → M α} {s' : Sl} {d : D} (h : g E ps = .ok d E' ps') (e' : E'[i]? = some s') (n' : s' ≠ .un) : ops [.code g, .late i] k E ps = k [d, s'.frz] E' ps' := by
  show M.bnd g (fun d => M.bnd (peek i) fun _ => M.bnd (looked [.inr d, .inl i]) k) E ps = _
  rw [bnd_ok h, bnd_ok (peek_run e' n')]
  rw [bnd_ok (a := [d, s'.frz]) (E' := E') (ps' := ps')]
  show M.bnd (M.bnd (peek i) _) _ E' ps' = _
  rw [bnd_ok (a := [s'.frz]) (E' := E') (ps' := ps')]
  · rfl
  · rw [bnd_ok (peek_run e' n')]; rfl
theorem run_ll {α : Type} {i j : Nat} {k : List D → M α} {s s' : Sl} (e : E[i]? = some s) (n : s ≠ .un) (e' : E[j]? = some s') (n' : s' ≠ .un) : ops [.late i, .late j] k E ps = k [s.frz, s'.frz] E ps := by
  show M.bnd (peek i) (fun _ => M.bnd (peek j) fun _ => M.bnd (looked [.inl i, .inl j]) k) E ps = _
  rw [bnd_ok (peek_run e n), bnd_ok (peek_run e' n')]
  rw [bnd_ok (a := [s.frz, s'.frz]) (E' := E) (ps' := ps)]
  show M.bnd (peek i) _ E ps = _
  rw [bnd_ok (peek_run e n)]
  show M.bnd (M.bnd (peek j) _) _ E ps = _
  rw [bnd_ok (a := [s'.frz]) (E' := E) (ps' := ps)]
  · rfl
  · rw [bnd_ok (peek_run e' n')]; rfl
theorem run_name {i : Nat} {d : D} (e : E[i]? = some (.im d)) : nameV i E ps = .ok d E ps := by unfold nameV; rw [e]
theorem run_nameR {i : Nat} {d : D} (e : E[i]? = some (.im d)) : nameR i E ps = .ok (.im d) E ps := by unfold nameR; rw [e]
theorem run_nameO {i : Nat} {xs : List D} (e : E[i]? = some (.ol xs)) : nameV i E ps = .ok (.lst xs) (E.set i (.im (.lst xs))) ps := by unfold nameV; rw [e]
theorem run_args0 : argsM [] E ps = .ok [] E ps := rfl
theorem run_args {g : M D} {gs : List (M D)} {d : D} {ds : List D} (h : g E ps = .ok d E' ps') (t : argsM gs E' ps' = .ok ds E2 ps2) : argsM (g :: gs) E ps = .ok (d :: ds) E2 ps2 := by
  show M.bnd g (fun d => M.bnd (argsM gs) fun ds => M.ret (d :: ds)) E ps = _
  rw [bnd_ok h, bnd_ok t]; rfl
theorem run_call {gs : M (List D)} {n : Nat} {f : Fn} {dd ds : List D} {r : Sl} (h : gs E ps = .ok ds E' ps') (hn : (ds ++ dd).length = n) (hf : f (ds ++ dd) ps' = .ok r ps2) (nu : r ≠ .un) : callM gs n f dd E ps = .ok r E' ps2 := by
  unfold callM
  rw [bnd_ok h]
  show (if (ds ++ dd).length = n then applyF f (ds ++ dd) else M.bad) E' ps' = _
  rw [if_pos hn]
  unfold applyF
  rw [hf]
  cases r with
  | un => exact absurd rfl nu
  | _ => rfl
theorem run_tup {gs : M (List D)} {ds : List D} (h : gs E ps = .ok ds E' ps') (hf : fits ds.length = true) : tupM gs E ps = .ok (.tup ds) E' ps' := by
  unfold tupM
  rw [bnd_ok h]
  show (if fits ds.length then M.ret (D.tup ds) else M.bad) E' ps' = _
  rw [if_pos hf]; rfl
theorem run_lst {gs : M (List D)} {ds : List D} (h : gs E ps = .ok ds E' ps') (hf : fits ds.length = true) : lstM gs E ps = .ok (.ol ds) E' ps' := by
  unfold lstM
  rw [bnd_ok h]
  show (if fits ds.length then M.ret (Sl.ol ds) else M.bad) E' ps' = _
  rw [if_pos hf]; rfl
theorem run_for {gi : M (List D)} {tg : Tg} {body : M Fl} {ds : List D} (h : gi E ps = .ok ds E' ps') : forM gi tg body E ps = forG tg body ds E' ps' := bnd_ok h
theorem run_fn {N : Nat} {body : M Fl} {args : List D} {r : Sl} {E' : List Sl} (h : body (envF N args) ps = .ok (.ret r) E' ps') : runF0 N body args ps = .ok r ps' := by
  unfold runF0 runF
  rw [h]; rfl
theorem run_lck {own : List Nat} {te : M D} {rest : List D → M (List D)} {acc : List D} {y : D} (hf : fits (acc.length + 1) = true) (h : te E ps = .ok y E' ps') : lcK own (M.ret true) te rest acc E ps = rest (acc ++ [y]) (wipeE own E') ps' := by
  show M.bnd te (fun y => if fits (acc.length + 1) then fun E ps => rest (acc ++ [y]) (wipeE own E) ps else M.bad) E ps = _
  rw [bnd_ok h, if_pos hf]
theorem run_lckT {own : List Nat} {tt : M Bool} {te : M D} {rest : List D → M (List D)} {acc : List D} {y : D} (ht : tt E ps = .ok true E' ps') (hf : fits (acc.length + 1) = true) (h : te E' ps' = .ok y E2 ps2) : lcK own tt te rest acc E ps = rest (acc ++ [y]) (wipeE own E2) ps2 := by
  show M.bnd tt (fun b => if b then M.bnd te (fun y => if fits (acc.length + 1) then fun E ps => rest (acc ++ [y]) (wipeE own E) ps else M.bad) else fun E ps => rest acc (wipeE own E) ps) E ps = _
  rw [bnd_ok ht, if_pos rfl, bnd_ok h, if_pos hf]
theorem run_lckF {own : List Nat} {tt : M Bool} {te : M D} {rest : List D → M (List D)} {acc : List D} (ht : tt E ps = .ok false E' ps') : lcK own tt te rest acc E ps = rest acc (wipeE own E') ps' := by
  show M.bnd tt (fun b => if b then M.bnd te (fun y => if fits (acc.length + 1) then fun E ps => rest (acc ++ [y]) (wipeE own E) ps else M.bad) else fun E ps => rest acc (wipeE own E) ps) E ps = _
  rw [bnd_ok ht, if_neg Bool.false_ne_true]
theorem run_orF {f g : M Bool} (h : f E ps = .ok false E' ps') : orM f g E ps = g E' ps' := bnd_ok h
theorem run_orT {f g : M Bool} (h : f E ps = .ok true E' ps') : orM f g E ps = .ok true E' ps' := bnd_ok h
theorem run_andF {f g : M Bool} (h : f E ps = .ok false E' ps') : andM f g E ps = .ok false E' ps' := bnd_ok h
theorem run_andT {f g : M Bool} (h : f E ps = .ok true E' ps') : andM f g E ps = g E' ps' := bnd_ok h
theorem run_andET {f g : M Sl} (h : f E ps = .ok (.im (.bl true)) E' ps') : andE f g E ps = g E' ps' := (bnd_ok h).trans rfl
theorem run_andEF {f g : M Sl} (h : f E ps = .ok (.im (.bl false)) E' ps') : andE f g E ps = .ok (.im (.bl false)) E' ps' := (bnd_ok h).trans rfl
theorem run_orEF {f g : M Sl} (h : f E ps = .ok (.im (.bl false)) E' ps') : orE f g E ps = g E' ps' := (bnd_ok h).trans rfl
theorem run_orET {f g : M Sl} (h : f E ps = .ok (.im (.bl true)) E' ps') : orE f g E ps = .ok (.im (.bl true)) E' ps' := (bnd_ok h).trans rfl
theorem run_notE {f : M Sl} {b : Bool} (h : f E ps = .ok (.im (.bl b)) E' ps') : notE f E ps = .ok (.im (.bl !b)) E' ps' := (bnd_ok h).trans rfl
theorem run_iteF {α : Type} {c : M Bool} {a b : M α} (h : c E ps = .ok false E' ps') : iteM c a b E ps = b E' ps' := (run_ite h).trans rfl
theorem run_iteT {α : Type} {c : M Bool} {a b : M α} (h : c E ps = .ok true E' ps') : iteM c a b E ps = a E' ps' := (run_ite h).trans rfl
theorem run_afterN {body k : M Fl} (h : body E ps = .ok .next E' ps') : M.bnd body (afterK k) E ps = k E' ps' := (bnd_ok h).trans rfl
theorem run_tgN {i : Nat} {d : D} {β : Type} {k : Unit → M β} : M.bnd (tgN i d) k E ps = k () (E.set i (.im d)) ps := rfl
theorem im_ne {d : D} : Sl.im d ≠ .un := fun z => by cases z
theorem ol_ne {d : List D} : Sl.ol d ≠ .un := fun z => by cases z
theorem od_ne {d : List (D × D)} : Sl.od d ≠ .un := fun z => by cases z
end
end Dl
/-! what is equal to itself, and has a repr -/
namespace Dl
open PySem PySem.Spec PyProof.Rows L2 Dh
variable [LawT]
/-- plain, not deep, its text not long -/
def Nice (n L : Nat) (d : D) : Prop := ∃ y, toPy d = some y ∧ y.canLay0 = true ∧ y.depth ≤ n ∧ y.showable = true ∧ y.shown.length ≤ L
def NiceA (n L : Nat) (ds : List D) : Prop := ∃ ys, toPys ds = some ys ∧ PyData.canLayAll0 ys = true ∧ PyData.depthAll ys ≤ n ∧ PyData.showableAll ys = true ∧ PySem.piled (PyData.shownAll ys) ≤ (L + 2) * ds.length ∧ ys.length = ds.length
theorem Nice.mono {n m L L' : Nat} {d : D} (h : Nice n L d) (a : n ≤ m) (b : L ≤ L') : Nice m L' d := by
  obtain ⟨y, h1, h2, h3, h4, h5⟩ := h
  exact ⟨y, h1, h2, by omega, h4, by omega⟩
theorem niceA_of {n L : Nat} : ∀ {ds : List D}, (∀ d ∈ ds, Nice n L d) → NiceA n L ds
  | [], _ => ⟨[], rfl, rfl, Nat.zero_le _, rfl, Nat.zero_le _, rfl⟩
  | d :: ds, h => by
    obtain ⟨y, h1, h2, h3, h4, h5⟩ := h d List.mem_cons_self
    obtain ⟨ys, g1, g2, g3, g4, g5, g6⟩ := niceA_of fun x hx => h x (List.mem_cons_of_mem _ hx)
    refine ⟨y :: ys, ?_, ?_, ?_, ?_, ?_, by rw [List.length_cons, List.length_cons, g6]⟩
    · unfold toPys; rw [h1, g1]
    · unfold PyData.canLayAll0; rw [h2, g2]; rfl
    · unfold PyData.depthAll; omega
    · unfold PyData.showableAll; rw [h4, g4]; rfl
    · unfold PyData.shownAll
      rw [PySem.piled_cons, List.length_cons, Nat.mul_succ]
      omega
theorem textFrom_up : ∀ (ts : List Str) (k : Nat) (acc : Str), (PySem.textFrom k acc ts).length ≤ acc.length + PySem.piled ts
  | [], k, acc => Nat.le_refl _
  | t :: ts, k, acc => by
    have z := textFrom_up ts (k + 1) (acc ++ (if k > 0 then ", " else "" : String) ++ t)
    have e : (acc ++ (if k > 0 then ", " else "" : String) ++ t).length ≤ acc.length + 2 + t.length := by
      rw [strLen_append, strLen_append]
      split
      · exact Nat.le_refl _
      · show acc.length + 0 + t.length ≤ _; omega
    show (PySem.textFrom (k + 1) _ ts).length ≤ _
    rw [PySem.piled_cons]
    omega
theorem listText_up (ts : List Str) : (PySem.listText ts).length ≤ PySem.piled ts + 2 := by
  unfold PySem.listText
  rw [strLen_append]
  have z := textFrom_up ts 0 "["
  have e1 : ((("[" : String) : Str)).length = 1 := rfl
  have e2 : ((("]" : String) : Str)).length = 1 := rfl
  omega
theorem tupleText_up (ts : List Str) : (PySem.tupleText ts).length ≤ PySem.piled ts + 3 := by
  unfold PySem.tupleText
  rw [strLen_append, strLen_append]
  have e1 : ((("(" : String) : Str)).length = 1 := rfl
  have e3 : (((if ts.length == 1 then ",)" else ")" : String) : Str)).length ≤ 2 := by split <;> decide
  by_cases h : ts = []
  · subst h
    show 1 + 0 + _ ≤ _
    omega
  · have := PySem.join_length_add ts h
    omega
theorem nice_tup {n L k : Nat} {ds : List D} (h : ∀ d ∈ ds, Nice n L d) (hk : ds.length ≤ k) : Nice (n + 1) ((L + 2) * k + 3) (.tup ds) := by
  obtain ⟨ys, g1, g2, g3, g4, g5, g6⟩ := niceA_of h
  have m := Nat.mul_le_mul_left (L + 2) hk
  refine ⟨.tuple ys, by unfold toPy; rw [g1]; rfl, by unfold PyData.canLay0; exact g2, by unfold PyData.depth; omega, by unfold PyData.showable; exact g4, ?_⟩
  unfold PyData.shown
  have := tupleText_up (PyData.shownAll ys)
  omega
theorem nice_lst {n L k : Nat} {ds : List D} (h : ∀ d ∈ ds, Nice n L d) (hk : ds.length ≤ k) : Nice (n + 1) ((L + 2) * k + 3) (.lst ds) := by
  obtain ⟨ys, g1, g2, g3, g4, g5, g6⟩ := niceA_of h
  have m := Nat.mul_le_mul_left (L + 2) hk
  refine ⟨.list ys, by unfold toPy; rw [g1]; rfl, by unfold PyData.canLay0; exact g2, by unfold PyData.depth; omega, by unfold PyData.showable; exact g4, ?_⟩
  unfold PyData.shown
  have := listText_up (PyData.shownAll ys)
  omega
theorem nice_bl (b : Bool) : Nice 1 5 (.bl b) := ⟨.bool b, rfl, rfl, by cases b <;> decide, rfl, by cases b <;> decide⟩
theorem eqD_str (x : Str) : eqD (.str x) (.str x) = some true := by
  show some (x == x) = some true
  rw [beq_self_eq_true]
theorem eqD_refl {n L : Nat} {d : D} (h : Nice n L d) (hn : n ≤ 64) : eqD d d = some true := by
  obtain ⟨y, h1, h2, h3, _⟩ := h
  have e : eqP d d = some true := by
    unfold eqP
    rw [h1]
    have s : SeqAt.shaped y = true := by unfold SeqAt.shaped; rw [h2, decide_eq_true (by omega : y.depth ≤ 64)]; rfl
    simp only
    rw [s, PySem.SeqAt.eqv_refl y h2]
    rfl
  cases d with
  | str x => exact eqD_str x
  | _ => exact e
theorem reprD_some {n L : Nat} {d : D} (h : Nice n L d) (hn : n ≤ 60) (hL : L ≤ 16777216) : ∃ x, reprD d = some x := by
  obtain ⟨y, h1, h2, h3, h4, h5⟩ := h
  refine ⟨y.shown, ?_⟩
  unfold reprD
  rw [h1]
  show (if y.showable && !y.hasDict && decide (y.depth ≤ 60) && fits y.shown.length then some y.shown else none) = _
  rw [h4, PySem.PyData.hasDict_of_canLay y h2, decide_eq_true (by omega : y.depth ≤ 60), fits_of (by omega)]
  rfl
theorem eqD_int (a b : Int) : eqD (.int a) (.int b) = some (a == b) := rfl
/-- of nothing, and of something -/
theorem eqD_lst0 {n L : Nat} {ds : List D} (h : Nice n L (.lst ds)) (hn : n ≤ 64) : eqD (.lst ds) (.lst []) = some ds.isEmpty := by
  obtain ⟨y, h1, h2, h3, _⟩ := h
  show eqP (.lst ds) (.lst []) = _
  unfold eqP
  unfold toPy at h1
  cases e : toPys ds with
  | none => rw [e] at h1; cases h1
  | some ys =>
    rw [e] at h1
    have h1 : some (PyData.list ys) = some y := h1
    cases h1
    have t : toPy (.lst ds) = some (.list ys) := by unfold toPy; rw [e]; rfl
    rw [t]
    have s : SeqAt.shaped (.list ys) = true := by unfold SeqAt.shaped; rw [h2, decide_eq_true (by omega : (PyData.list ys).depth ≤ 64)]; rfl
    have s0 : SeqAt.shaped (.list []) = true := by decide
    show (if SeqAt.shaped (.list ys) && SeqAt.shaped (.list []) then some (PyData.eqv (.list ys) (.list [])) else none) = _
    rw [s, s0]
    cases ds with
    | nil => cases e; rfl
    | cons d ds =>
      unfold toPys at e
      split at e
      · cases e; rfl
      · cases e
end Dl
/-! loops over data of one type; numbers -/
namespace Dl
open PySem PySem.Spec PyProof.Rows L2 Dh
variable [LawT]
section
variable {α : Type}
theorem lcG_fm (emb : α → D) (f : α → List D) {own : List Nat} {tg : Tg} {tt : M Bool} {te : M D} {E0 : List Sl} {ps : Pn} : ∀ (l : List α) (acc : List D),
    (∀ a ∈ l, (f a).length ≤ 1 ∧ ∀ (acc : List D) (rest : List D → M (List D)), fits (acc.length + 1) = true → M.bnd (tg (emb a)) (fun _ => lcK own tt te rest acc) E0 ps = rest (acc ++ f a) E0 ps) →
    acc.length + l.length ≤ 16777216 → lcG own tg tt te (l.map emb) acc E0 ps = .ok (acc ++ l.flatMap f) E0 ps
  | [], acc, _, _ => by rw [show ([] : List α).flatMap f = [] from rfl, List.append_nil]; rfl
  | a :: r, acc, hs, hl => by
    rw [List.length_cons] at hl
    obtain ⟨h1, h2⟩ := hs a List.mem_cons_self
    show M.bnd (tg (emb a)) (fun _ => lcK own tt te (lcG own tg tt te (r.map emb)) acc) E0 ps = _
    rw [h2 acc _ (fits_of (by omega)), lcG_fm emb f r (acc ++ f a) (fun x hx => hs x (List.mem_cons_of_mem _ hx)) (by rw [List.length_append]; omega), List.append_assoc]
    rfl
theorem lcM_fm (emb : α → D) (f : α → List D) {own : List Nat} {gi : M (List D)} {tg : Tg} {tt : M Bool} {te : M D} {E E1 : List Sl} {ps ps1 : Pn} {l : List α} (hg : gi E ps = .ok (l.map emb) E1 ps1) (hn : noOwn own E1 = true) (hb : ∀ i ∈ own, i < E1.length) (hl : l.length ≤ 16777216)
    (hs : ∀ a ∈ l, (f a).length ≤ 1 ∧ ∀ (acc : List D) (rest : List D → M (List D)), fits (acc.length + 1) = true → M.bnd (tg (emb a)) (fun _ => lcK own tt te rest acc) (wipeE own E1) ps1 = rest (acc ++ f a) (wipeE own E1) ps1) :
    lcM own gi tg tt te E ps = .ok (.ol (l.flatMap f)) E1 ps1 := by
  rw [lcM_of hg hn (lcG_fm emb f l [] hs (by simpa using hl)), List.nil_append, resto_wipe own E1 _ hb (wipeE_length own E1) fun i hi => lcM_pure.wipe_out' own E1 i hi]
theorem flatMap_one (g : α → D) : ∀ l : List α, l.flatMap (fun a => [g a]) = l.map g
  | [] => rfl
  | a :: r => by rw [List.flatMap_cons, List.map_cons, flatMap_one g r]; rfl
theorem flatMap_if (p : α → Bool) (g : α → D) : ∀ l : List α, l.flatMap (fun a => if p a then [g a] else []) = (l.filter p).map g
  | [] => rfl
  | a :: r => by
    rw [List.flatMap_cons, flatMap_if p g r, List.filter_cons]
    cases p a <;> rfl
theorem lcM_map (emb : α → D) (g : α → D) {own : List Nat} {gi : M (List D)} {tg : Tg} {te : M D} {E E1 : List Sl} {ps ps1 : Pn} {l : List α} (hg : gi E ps = .ok (l.map emb) E1 ps1) (hn : noOwn own E1 = true) (hb : ∀ i ∈ own, i < E1.length) (hl : l.length ≤ 16777216)
    (hs : ∀ a ∈ l, ∀ (acc : List D) (rest : List D → M (List D)), fits (acc.length + 1) = true → M.bnd (tg (emb a)) (fun _ => lcK own (M.ret true) te rest acc) (wipeE own E1) ps1 = rest (acc ++ [g a]) (wipeE own E1) ps1) :
    lcM own gi tg (M.ret true) te E ps = .ok (.ol (l.map g)) E1 ps1 := by
  rw [lcM_fm emb (fun a => [g a]) hg hn hb hl fun a ha => ⟨Nat.le_refl _, hs a ha⟩, flatMap_one]
theorem lcM_flt (emb : α → D) (p : α → Bool) (g : α → D) {own : List Nat} {gi : M (List D)} {tg : Tg} {tt : M Bool} {te : M D} {E E1 : List Sl} {ps ps1 : Pn} {l : List α} (hg : gi E ps = .ok (l.map emb) E1 ps1) (hn : noOwn own E1 = true) (hb : ∀ i ∈ own, i < E1.length) (hl : l.length ≤ 16777216)
    (hs : ∀ a ∈ l, ∀ (acc : List D) (rest : List D → M (List D)), fits (acc.length + 1) = true → M.bnd (tg (emb a)) (fun _ => lcK own tt te rest acc) (wipeE own E1) ps1 = rest (acc ++ if p a then [g a] else []) (wipeE own E1) ps1) :
    lcM own gi tg tt te E ps = .ok (.ol ((l.filter p).map g)) E1 ps1 := by
  rw [lcM_fm emb (fun a => if p a then [g a] else []) hg hn hb hl fun a ha => ⟨by cases p a <;> simp, hs a ha⟩, flatMap_if]
/-- one turn of a filter, its test known -/
theorem run_flt {own : List Nat} {tt : M Bool} {te : M D} {rest : List D → M (List D)} {acc : List D} {E E' E2 : List Sl} {ps ps' ps2 : Pn} {b : Bool} {y : D} (ht : tt E ps = .ok b E' ps') (hf : fits (acc.length + 1) = true) (hy : te E' ps' = .ok y E2 ps2) (e : wipeE own E2 = wipeE own E') (e2 : ps2 = ps') : lcK own tt te rest acc E ps = rest (acc ++ if b then [y] else []) (wipeE own E') ps' := by
  subst e2
  cases b with
  | true => rw [run_lckT ht hf hy, e]; rfl
  | false => rw [run_lckF ht]; simp
theorem forG_l {σ : Type} {tg : Tg} {body : M Fl} (emb : α → D) (En : σ → List Sl) (Pn' : σ → Pn) (stp : σ → α → σ) (I : σ → Prop) : ∀ (l : List α) (s : σ), I s →
    (∀ s a, a ∈ l → I s → (∀ k : M Fl, M.bnd (tg (emb a)) (fun _ => M.bnd body (afterK k)) (En s) (Pn' s) = k (En (stp s a)) (Pn' (stp s a))) ∧ I (stp s a)) →
    forG tg body (l.map emb) (En s) (Pn' s) = .ok .next (En (l.foldl stp s)) (Pn' (l.foldl stp s)) ∧ I (l.foldl stp s)
  | [], s, h, _ => ⟨rfl, h⟩
  | a :: r, s, h, hs => by
    obtain ⟨e, h'⟩ := hs s a List.mem_cons_self h
    obtain ⟨z1, z2⟩ := forG_l emb En Pn' stp I r (stp s a) h' fun s x hx => hs s x (List.mem_cons_of_mem _ hx)
    refine ⟨?_, z2⟩
    show M.bnd (tg (emb a)) (fun _ => M.bnd body (afterK (forG tg body (r.map emb)))) (En s) (Pn' s) = _
    rw [e, z1]
    rfl
end
/-! ### numbers -/
def dN (n : Nat) : D := .int (n : Nat)
theorem rngL0 (n : Nat) : rngL 0 n = (List.range n).map dN := by
  unfold rngL
  refine List.map_congr_left fun i _ => ?_
  rw [Int.zero_add]; rfl
theorem rngK1_n {n : Nat} (h : n < 4611686018427387904) (E : List Sl) (ps : Pn) : rngK1 [dN n] E ps = .ok ((List.range n).map dN) E ps := by
  show (if rngOk (n : Int) then M.ret (rngL 0 ((n : Int)).toNat) else M.bad) E ps = _
  have e : rngOk (n : Int) = true := by
    unfold rngOk
    rw [decide_eq_true (by omega), decide_eq_true (by omega)]
    rfl
  rw [if_pos e, Int.toNat_natCast, rngL0]
  rfl
theorem asIs_dN : ∀ l : List Nat, asIs (l.map dN) = some (l.map fun n : Nat => (n : Int))
  | [] => rfl
  | n :: r => by
    show (asIs (r.map dN)).map (fun z => ((n : Nat) : Int) :: z) = _
    rw [asIs_dN r]; rfl
theorem atD_n {ds : List D} {i : Nat} {d : D} (h : ds[i]? = some d) : atD ds (i : Nat) = some d := by
  unfold atD
  obtain ⟨hi, _⟩ := List.getElem?_eq_some_iff.mp h
  have e : ixN ds.length (i : Int) = some i := by
    unfold ixN
    rw [if_pos (by omega), if_pos (by omega), Int.toNat_natCast]
  rw [e]
  exact h
theorem kIx_lst {ds : List D} {i : Nat} {d : D} (h : ds[i]? = some d) (E : List Sl) (ps : Pn) : kIx [.lst ds, dN i] E ps = .ok (.im d) E ps := by
  show imM1 (atD ds (i : Nat)) E ps = _
  rw [atD_n h]; rfl
theorem kIx_tup {ds : List D} {i : Nat} {d : D} (h : ds[i]? = some d) (E : List Sl) (ps : Pn) : kIx [.tup ds, dN i] E ps = .ok (.im d) E ps := by
  show imM1 (atD ds (i : Nat)) E ps = _
  rw [atD_n h]; rfl
theorem kEq_n (a b : Nat) (E : List Sl) (ps : Pn) : kEq [dN a, dN b] E ps = .ok (.im (.bl (a == b))) E ps := by
  show imO (eqD (.int a) (.int b)) E ps = _
  rw [eqD_int]
  have e : ((a : Int) == (b : Int)) = (a == b) := by
    by_cases h : a = b
    · subst h; simp
    · rw [beq_eq_false_iff_ne.mpr h, beq_eq_false_iff_ne.mpr (by omega)]
  rw [e]; rfl
theorem kNe_n (a b : Nat) (E : List Sl) (ps : Pn) : kNe [dN a, dN b] E ps = .ok (.im (.bl (!(a == b)))) E ps := by
  show imO ((eqD (.int a) (.int b)).map not) E ps = _
  rw [eqD_int]
  have e : ((a : Int) == (b : Int)) = (a == b) := by
    by_cases h : a = b
    · subst h; simp
    · rw [beq_eq_false_iff_ne.mpr h, beq_eq_false_iff_ne.mpr (by omega)]
  rw [e]; rfl
theorem kNe_refl {n L : Nat} {d : D} (h : Nice n L d) (hn : n ≤ 64) (E : List Sl) (ps : Pn) : kNe [d, d] E ps = .ok (.im (.bl false)) E ps := by
  show imO ((eqD d d).map not) E ps = _
  rw [eqD_refl h hn]; rfl
theorem kNe_str (x : Str) (E : List Sl) (ps : Pn) : kNe [.str x, .str x] E ps = .ok (.im (.bl false)) E ps := by
  show imO ((eqD (.str x) (.str x)).map not) E ps = _
  rw [eqD_str]; rfl
theorem allO_n (bs : List Bool) (E : List Sl) (ps : Pn) : kAll [.lst (bs.map .bl)] E ps = .ok (.im (.bl (bs.all id))) E ps := by
  have e : asBs (bs.map .bl) = some bs := by
    induction bs with
    | nil => rfl
    | cons b r ih =>
      show (asBs (r.map .bl)).map (b :: ·) = _
      rw [ih]; rfl
  show allO (asBs (bs.map .bl)) E ps = _
  rw [e]; rfl
end Dl
/-! the law's draws -/
namespace Dl
open PySem PySem.Spec PyProof.Rows L2 Dh
variable [LawT]
/-- what stands at an operand: an int -/
def Oe (E : List Sl) (ps : Pn) : Opn → Int → Prop
  | .late i, v => E[i]? = some (.im (.int v))
  | .code g, v => g E ps = .ok (.int v) E ps
section
variable {E : List Sl} {ps : Pn} {a b : Opn} {x y : Int}
theorem ops1 {α : Type} {k : List D → M α} (h : Oe E ps a x) : ops [a] k E ps = k [.int x] E ps := by
  cases a with
  | late i => exact (run_l1 (show E[i]? = some (.im (.int x)) from h) im_ne)
  | code g => exact run_c1 h
theorem ops2 {α : Type} {k : List D → M α} (h : Oe E ps a x) (h' : Oe E ps b y) : ops [a, b] k E ps = k [.int x, .int y] E ps := by
  cases a with
  | late i => cases b with
    | late j => exact run_ll (show E[i]? = some (.im (.int x)) from h) im_ne (show E[j]? = some (.im (.int y)) from h') im_ne
    | code g => exact run_lc (show E[i]? = some (.im (.int x)) from h) im_ne h' (show E[i]? = some (.im (.int x)) from h) im_ne
  | code g => cases b with
    | late j => exact run_cl h (show E[j]? = some (.im (.int y)) from h') im_ne
    | code g' => exact run_cc h h'
theorem oe_k (v : Int) : Oe E ps (.code (M.ret (.int v))) v := rfl
theorem oe1 {k : List D → M Sl} {z : Int} (h : Oe E ps a x) (e : k [.int x] E ps = .ok (.im (.int z)) E ps) : Oe E ps (.code (frzM (ops [a] k))) z := run_frz ((ops1 h).trans e)
theorem oe2 {k : List D → M Sl} {z : Int} (h : Oe E ps a x) (h' : Oe E ps b y) (e : k [.int x, .int y] E ps = .ok (.im (.int z)) E ps) : Oe E ps (.code (frzM (ops [a, b] k))) z := run_frz ((ops2 h h').trans e)
end
theorem log2_small {i : Nat} (h : i < 2 ^ 64) : i.log2 < 64 := by
  by_cases z : i = 0
  · subst z; decide
  · exact (Nat.log2_lt z).mpr h
theorem mulOk_of {i j : Int} (h : i.natAbs < 2 ^ 64) (h' : j.natAbs < 2 ^ 64) : mulOk i j = true := by
  have a := log2_small h
  have b := log2_small h'
  exact decide_eq_true (by omega)
theorem kMul_ok {i j : Int} (h : mulOk i j = true) (E : List Sl) (ps : Pn) : kMul [.int i, .int j] E ps = .ok (.im (.int (i * j))) E ps := by
  show (if mulOk i j then im1 (.int (i * j)) else M.bad) E ps = _
  rw [if_pos h]; rfl
theorem kPow_ok {i : Int} {n : Nat} (h : i.natAbs < 2 ^ 64) (hn : n ≤ 1000000) (E : List Sl) (ps : Pn) : kPow [.int i, .int (n : Nat)] E ps = .ok (.im (.int (i ^ n))) E ps := by
  show (if decide (0 ≤ (n : Int)) && decide ((n : Int) ≤ 1000000) && decide (i.natAbs < 2 ^ 64) then im1 (.int (i ^ (n : Int).toNat)) else M.bad) E ps = _
  rw [decide_eq_true (by omega : 0 ≤ (n : Int)), decide_eq_true (by omega : (n : Int) ≤ 1000000), decide_eq_true h, Int.toNat_natCast]; rfl
theorem kMod_ok {i j : Int} (h : 0 < j) (E : List Sl) (ps : Pn) : kMod [.int i, .int j] E ps = .ok (.im (.int (i.fmod j))) E ps := by
  show (if j != 0 then im1 (.int (i.fmod j)) else M.bad) E ps = _
  rw [if_pos (by simp; omega)]; rfl
theorem kMod_n (i : Int) {m : Nat} (h : 0 < m) (E : List Sl) (ps : Pn) : ∃ n, n < m ∧ kMod [.int i, dN m] E ps = .ok (.im (dN n)) E ps := by
  have a := Int.fmod_nonneg_of_pos i (show (0 : Int) < (m : Int) by omega)
  have b := Int.fmod_lt_of_pos i (show (0 : Int) < (m : Int) by omega)
  refine ⟨(i.fmod m).toNat, by omega, (kMod_ok (by omega) E ps).trans ?_⟩
  unfold dN
  rw [Int.toNat_of_nonneg a]
theorem kDiv_n (i : Int) {m : Nat} (h : 0 < m) (h' : m ≤ 1000) (E : List Sl) (ps : Pn) : kDiv [.int i, dN m] E ps = .ok (.im (.int (i / (m : Int)))) E ps := by
  show (if decide (0 < (m : Int)) && decide ((m : Int).natAbs.log2 < 9000) then im1 (.int (i / (m : Int))) else _) E ps = _
  have a := log2_small (i := (m : Int).natAbs) (by omega)
  rw [decide_eq_true (by omega : 0 < (m : Int)), decide_eq_true (by omega : (m : Int).natAbs.log2 < 9000)]; rfl
theorem toPys_ints : ∀ ns : List Int, toPys (ns.map .int) = some (ns.map .int)
  | [] => rfl
  | n :: r => by
    show (match toPy (.int n), toPys (r.map .int) with
      | some y, some ys => some (y :: ys)
      | _, _ => none) = _
    rw [toPys_ints r]; rfl
theorem lay_ints : ∀ ns : List Int, PyData.canLayAll0 (ns.map .int) = true ∧ PyData.depthAll (ns.map .int) ≤ 1
  | [] => ⟨rfl, by decide⟩
  | n :: r => by
    obtain ⟨a, b⟩ := lay_ints r
    refine ⟨?_, ?_⟩
    · show ((PyData.int n).canLay0 && PyData.canLayAll0 (r.map .int)) = true
      rw [a]; rfl
    · show PyData.depthAll (PyData.int n :: r.map .int) ≤ 1
      unfold PyData.depthAll
      have : (PyData.int n).depth ≤ 1 := by first | exact Nat.le_refl _ | exact Nat.zero_le _
      omega
theorem eqD_ints0 (ns : List Int) : eqD (.lst (ns.map .int)) (.lst []) = some ns.isEmpty := by
  show eqP (.lst (ns.map .int)) (.lst []) = _
  have t : toPy (.lst (ns.map .int)) = some (.list (ns.map .int)) := by unfold toPy; rw [toPys_ints]; rfl
  obtain ⟨a, b⟩ := lay_ints ns
  have s : SeqAt.shaped (.list (ns.map .int)) = true := by
    unfold SeqAt.shaped
    have c : (PyData.list (ns.map .int)).canLay0 = true := by unfold PyData.canLay0; exact a
    have d : (PyData.list (ns.map .int)).depth ≤ 64 := by unfold PyData.depth; omega
    rw [c, decide_eq_true d]; rfl
  have s0 : SeqAt.shaped (.list []) = true := by decide
  unfold eqP
  rw [t]
  show (if SeqAt.shaped (.list (ns.map .int)) && SeqAt.shaped (.list []) then some (PyData.eqv (.list (ns.map .int)) (.list [])) else none) = _
  rw [s, s0]
  cases ns <;> rfl
def bMix : M Fl := seqM (setM 4 (ops [.code (frzM (ops [.code (frzM (ops [.code (frzM (ops [.code (frzM (ops [.code (frzM (ops [.code (frzM (ops [.late 3] kInt)), .code (M.ret (.int 2147483549))] kMod)), .code (frzM (ops [.code (M.ret (.int 95203)), .late 2] kMul))] kAdd)), .code (M.ret (.int 13127))] kAdd)), .code (M.ret (.int 5))] kPow))] kInt)), .code (M.ret (.int 2147483629))] kMod)) (seqM (setM 4 (ops [.code (frzM (ops [.code (frzM (ops [.code (frzM (ops [.code (frzM (ops [.code (frzM (ops [.late 4, .code (frzM (ops [.code (frzM (ops [.code (M.ret (.int 2)), .late 2] kMul)), .code (M.ret (.int 7193))] kAdd))] kMul)), .code (frzM (ops [.code (frzM (ops [.code (M.ret (.int 38011)), .late 2] kMul)), .late 2] kMul))] kAdd)), .code (M.ret (.int 95203))] kAdd)), .code (M.ret (.int 3))] kPow))] kInt)), .code (M.ret (.int 2147483587))] kMod)) (retM (ops [.code (frzM (ops [.code (frzM (ops [.late 4, .code (M.ret (.int 64))] kDiv))] kInt)), .late 1] kMod)))
def bCell : M Fl := iteM (testM (ops [.code (penIx 0 0), .code (frzM (lstM (argsM [])))] kNe)) (setM 3 (ops [.code (penIx 0 0), .code (frzM (ops [.code (frzM (ops [.late 2] kInt)), .code (frzM (ops [.code (penIx 0 0)] kLen))] kMod))] kIx)) (M.ret .next)
def bRest : M Fl := seqM (iteM (andM (testM (ops [.late 2, .code (frzM (ops [.code (penIx 0 0)] kLen))] kLt)) (testM (ops [.code (frzM (ops [.late 3] kAbs)), .code (frzM (ops [.code (M.ret (.int 10)), .code (M.ret (.int 18))] kPow))] kGe))) (seqM (setM 5 (ops [.code (frzM (ops [.code (M.ret (.int 2)), .code (frzM (ops [.code (frzM (ops [.late 3] kAbs)), .code (frzM (ops [.code (M.ret (.int 10)), .code (M.ret (.int 18))] kPow))] kSub))] kMul)), .code (frzM (ops [.code (frzM (ops [.late 3, .code (M.ret (.int 0))] kLt))] kInt))] kAdd)) (seqM (penSetM 0 2 (frzM (ops [.code (frzM (ops [.late 5] kInt)), .late 1] kDiv))) (retM (ops [.code (frzM (ops [.late 5] kInt)), .late 1] kMod)))) (M.ret .next)) (bMix)
def bDraw : M Fl := seqM (iteM (testM (ops [.code (penIx 0 2), .code (M.ret (.int 0))] kGt)) (seqM (setM 5 (ops [.code (penIx 0 2)] kInt)) (seqM (penSetM 0 2 (frzM (ops [.late 5, .late 1] kDiv))) (retM (ops [.code (frzM (ops [.late 5] kInt)), .late 1] kMod)))) (M.ret .next)) (seqM (setM 2 (imM (penIx 0 1))) (seqM (penSetM 0 1 (frzM (ops [.late 2, .code (M.ret (.int 1))] kAdd))) (seqM (setM 3 (ops [.code (frzM (ops [.code (M.ret (.int 95203)), .late 2] kMul)), .code (M.ret (.int 13127))] kAdd)) (seqM (bCell) (bRest)))))
/-- the pen after some draws -/
def PI (ns : List Int) (T : Nat) (ps : Pn) : Prop := ps.ns = ns ∧ 0 ≤ ps.turn ∧ ps.turn ≤ T
theorem PI.mono {ns : List Int} {T T' : Nat} {ps : Pn} (h : PI ns T ps) (l : T ≤ T') : PI ns T' ps := ⟨h.1, h.2.1, by have := h.2.2; omega⟩
theorem tail_rest (i : Int) {m : Nat} (h1 : 0 < m) (h2 : m ≤ 1000) (a2 a3 a4 : Sl) (ps : Pn) (o : Opn) (ho : Oe [.im .pen, .im (dN m), a2, a3, a4, .im (.int i)] ps o i) : ∃ n, n < m ∧ seqM (penSetM 0 2 (frzM (ops [o, .late 1] kDiv))) (retM (ops [.code (frzM (ops [.late 5] kInt)), .late 1] kMod)) [.im .pen, .im (dN m), a2, a3, a4, .im (.int i)] ps = .ok (.ret (.im (dN n))) [.im .pen, .im (dN m), a2, a3, a4, .im (.int i)] { ps with rest := i / (m : Int) } := by
  have d : frzM (ops [o, .late 1] kDiv) [.im .pen, .im (dN m), a2, a3, a4, .im (.int i)] ps = .ok (.int (i / (m : Int))) [.im .pen, .im (dN m), a2, a3, a4, .im (.int i)] ps := oe2 (a := o) (b := .late 1) (x := i) (y := m) ho rfl (kDiv_n i h1 h2 _ ps)
  have p : penSetM 0 2 (frzM (ops [o, .late 1] kDiv)) [.im .pen, .im (dN m), a2, a3, a4, .im (.int i)] ps = .ok .next [.im .pen, .im (dN m), a2, a3, a4, .im (.int i)] { ps with rest := i / (m : Int) } := (bnd_ok d).trans rfl
  obtain ⟨n, hn, e⟩ := kMod_n i h1 [.im .pen, .im (dN m), a2, a3, a4, .im (.int i)] { ps with rest := i / (m : Int) }
  have o5 : Oe [.im .pen, .im (dN m), a2, a3, a4, .im (.int i)] { ps with rest := i / (m : Int) } (.late 5) i := rfl
  have o1 : Oe [.im .pen, .im (dN m), a2, a3, a4, .im (.int i)] { ps with rest := i / (m : Int) } (.late 1) (m : Int) := rfl
  refine ⟨n, hn, (run_seq p).trans (run_ret ((ops2 (oe1 o5 (k := kInt) (z := i) rfl) o1).trans e))⟩
theorem mix_run (c t : Int) {m : Nat} (h1 : 0 < m) (h2 : m ≤ 1000) (ht : 0 ≤ t) (ht' : t ≤ 100000) (a4 a5 : Sl) (ps : Pn) : ∃ n E', n < m ∧ bMix [.im .pen, .im (dN m), .im (.int t), .im (.int c), a4, a5] ps = .ok (.ret (.im (dN n))) E' ps := by
  -- the first mix
  have m1 : ∀ E : List Sl, E[3]? = some (.im (.int c)) → E[2]? = some (.im (.int t)) → ∃ v : Int, 0 ≤ v ∧ v < 2147483629 ∧ (ops [.code (frzM (ops [.code (frzM (ops [.code (frzM (ops [.code (frzM (ops [.code (frzM (ops [.code (frzM (ops [.late 3] kInt)), .code (M.ret (.int 2147483549))] kMod)), .code (frzM (ops [.code (M.ret (.int 95203)), .late 2] kMul))] kAdd)), .code (M.ret (.int 13127))] kAdd)), .code (M.ret (.int 5))] kPow))] kInt)), .code (M.ret (.int 2147483629))] kMod) E ps = .ok (.im (.int v)) E ps := by
    intro E e3 e2
    have q0 := Int.fmod_nonneg_of_pos c (show (0 : Int) < 2147483549 by omega)
    have q1 := Int.fmod_lt_of_pos c (show (0 : Int) < 2147483549 by omega)
    have o1 := oe2 (E := E) (ps := ps) (oe1 (a := .late 3) (x := c) (z := c) (k := kInt) e3 rfl) (oe_k 2147483549) (kMod_ok (i := c) (by omega) E ps)
    have o2 := oe2 (E := E) (ps := ps) (oe_k 95203) (show Oe E ps (.late 2) t from e2) (kMul_ok (mulOk_of (by omega) (by omega)) E ps)
    have o3 := oe2 o1 o2 (k := kAdd) (z := c.fmod 2147483549 + 95203 * t) rfl
    have o4 := oe2 o3 (oe_k 13127) (k := kAdd) (z := c.fmod 2147483549 + 95203 * t + 13127) rfl
    have o5 := oe2 o4 (oe_k 5) (kPow_ok (n := 5) (by omega) (by omega) E ps)
    have o6 := oe1 o5 (k := kInt) rfl
    have r0 := Int.fmod_nonneg_of_pos ((c.fmod 2147483549 + 95203 * t + 13127) ^ 5) (show (0 : Int) < 2147483629 by omega)
    have r1 := Int.fmod_lt_of_pos ((c.fmod 2147483549 + 95203 * t + 13127) ^ 5) (show (0 : Int) < 2147483629 by omega)
    exact ⟨_, r0, r1, (ops2 o6 (oe_k 2147483629)).trans (kMod_ok (by omega) E ps)⟩
  have m2 : ∀ (E : List Sl) (v : Int), 0 ≤ v → v < 2147483629 → E[4]? = some (.im (.int v)) → E[2]? = some (.im (.int t)) → ∃ w : Int, (ops [.code (frzM (ops [.code (frzM (ops [.code (frzM (ops [.code (frzM (ops [.code (frzM (ops [.late 4, .code (frzM (ops [.code (frzM (ops [.code (M.ret (.int 2)), .late 2] kMul)), .code (M.ret (.int 7193))] kAdd))] kMul)), .code (frzM (ops [.code (frzM (ops [.code (M.ret (.int 38011)), .late 2] kMul)), .late 2] kMul))] kAdd)), .code (M.ret (.int 95203))] kAdd)), .code (M.ret (.int 3))] kPow))] kInt)), .code (M.ret (.int 2147483587))] kMod) E ps = .ok (.im (.int w)) E ps := by
    intro E v hv hv' e4 e2
    have e4 : Oe E ps (.late 4) v := e4
    have e2 : Oe E ps (.late 2) t := e2
    have p1 : v * (2 * t + 7193) ≤ 2147483629 * 207193 := Int.mul_le_mul (by omega) (by omega) (by omega) (by omega)
    have p0 : 0 ≤ v * (2 * t + 7193) := Int.mul_nonneg hv (by omega)
    have s1 : 38011 * t * t ≤ 3801100000 * 100000 := Int.mul_le_mul (by omega) ht' ht (by omega)
    have s0 : 0 ≤ 38011 * t * t := Int.mul_nonneg (by omega) ht
    have o1 := oe2 (oe_k 2) e2 (kMul_ok (mulOk_of (by omega) (by omega)) E ps)
    have o2 := oe2 o1 (oe_k 7193) (k := kAdd) (z := 2 * t + 7193) rfl
    have o3 := oe2 e4 o2 (kMul_ok (mulOk_of (by omega) (by omega)) E ps)
    have o4 := oe2 (oe_k 38011) e2 (kMul_ok (mulOk_of (by omega) (by omega)) E ps)
    have o5 := oe2 o4 e2 (kMul_ok (mulOk_of (by omega) (by omega)) E ps)
    have o6 := oe2 o3 o5 (k := kAdd) (z := v * (2 * t + 7193) + 38011 * t * t) rfl
    have o7 := oe2 o6 (oe_k 95203) (k := kAdd) (z := v * (2 * t + 7193) + 38011 * t * t + 95203) rfl
    have o8 := oe2 o7 (oe_k 3) (kPow_ok (n := 3) (by omega) (by omega) E ps)
    have o9 := oe1 o8 (k := kInt) rfl
    exact ⟨_, (ops2 o9 (oe_k 2147483587)).trans (kMod_ok (by omega) E ps)⟩
  obtain ⟨v, hv, hv', e1⟩ := m1 [.im .pen, .im (dN m), .im (.int t), .im (.int c), a4, a5] rfl rfl
  obtain ⟨w, e2⟩ := m2 [.im .pen, .im (dN m), .im (.int t), .im (.int c), .im (.int v), a5] v hv hv' rfl rfl
  have o1 : Oe [.im .pen, .im (dN m), .im (.int t), .im (.int c), .im (.int w), a5] ps (.code (frzM (ops [.late 4, .code (M.ret (.int 64))] kDiv))) (w / 64) := oe2 (a := .late 4) (x := w) rfl (oe_k 64) (kDiv_n w (m := 64) (by omega) (by omega) _ ps)
  have o2 := oe1 o1 (k := kInt) (z := w / 64) rfl
  obtain ⟨n, hn, e⟩ := kMod_n (w / 64) h1 [.im .pen, .im (dN m), .im (.int t), .im (.int c), .im (.int w), a5] ps
  exact ⟨n, _, hn, (run_seq (run_set e1)).trans ((run_seq (run_set e2)).trans (run_ret ((ops2 o2 (show Oe [.im .pen, .im (dN m), .im (.int t), .im (.int c), .im (.int w), a5] ps (.late 1) (m : Int) from rfl)).trans e)))⟩
theorem log2_le_of_le {a b : Nat} (h : a ≤ b) : a.log2 ≤ b.log2 := by
  by_cases z : a = 0
  · subst z; rw [show Nat.log2 0 = 0 by decide]; exact Nat.zero_le _
  · exact (Nat.le_log2 (by omega)).mpr (Nat.le_trans (Nat.log2_self_le z) h)
theorem draw_sem {ns : List Int} (hb : ∀ z ∈ ns, Builtin.Int.intBits z ≤ 1048576) {m T : Nat} (h1 : 0 < m) (h2 : m ≤ 1000) (hT : T ≤ 99999) {ps : Pn} (h : PI ns T ps) : ∃ n ps', n < m ∧ PI ns (T + 1) ps' ∧ runF0 6 bDraw [.pen, dN m] ps = .ok (.im (dN n)) ps' := by
  obtain ⟨hns, ht, ht'⟩ := h
  obtain ⟨ns', t, rest⟩ := ps
  have hns : ns' = ns := hns
  subst hns
  have ht : 0 ≤ t := ht
  have ht' : t ≤ T := ht'
  have t0 : testM (ops [.code (penIx 0 2), .code (M.ret (.int 0))] kGt) [.im .pen, .im (dN m), .un, .un, .un, .un] ⟨ns', t, rest⟩ = .ok (decide (0 < rest)) [.im .pen, .im (dN m), .un, .un, .un, .un] ⟨ns', t, rest⟩ := rfl
  by_cases hr : 0 < rest
  · obtain ⟨n, hn, e⟩ := tail_rest rest h1 h2 .un .un .un ⟨ns', t, rest⟩ (.late 5) rfl
    refine ⟨n, ⟨ns', t, rest / (m : Int)⟩, hn, ⟨rfl, ht, by show t ≤ ((T + 1 : Nat) : Int); omega⟩, run_fn (E' := [.im .pen, .im (dN m), .un, .un, .un, .im (.int rest)]) (run_seqR ?_)⟩
    refine (run_ite t0).trans ?_
    rw [decide_eq_true hr, if_pos rfl]
    exact (run_seq (run_set (r := .im (.int rest)) rfl)).trans e
  -- no rest
  have fin : ∀ (c : Int) (ps : Pn), PI ns' (T + 1) ps → (∀ z : Int, 0 ≤ z → z.natAbs ≤ c.natAbs → mulOk 2 z = true) → ∃ n ps', n < m ∧ PI ns' (T + 1) ps' ∧ ∃ E', bRest [.im .pen, .im (dN m), .im (.int t), .im (.int c), .un, .un] ps = .ok (.ret (.im (dN n))) E' ps' := by
    intro c ps hp hw
    obtain ⟨b, ec⟩ : ∃ b, (andM (testM (ops [.late 2, .code (frzM (ops [.code (penIx 0 0)] kLen))] kLt)) (testM (ops [.code (frzM (ops [.late 3] kAbs)), .code (frzM (ops [.code (M.ret (.int 10)), .code (M.ret (.int 18))] kPow))] kGe))) [.im .pen, .im (dN m), .im (.int t), .im (.int c), .un, .un] ps = .ok b [.im .pen, .im (dN m), .im (.int t), .im (.int c), .un, .un] ps ∧ (b = true → 10 ^ 18 ≤ (if c < 0 then -c else c)) := by
      have l1 : testM (ops [.late 2, .code (frzM (ops [.code (penIx 0 0)] kLen))] kLt) [.im .pen, .im (dN m), .im (.int t), .im (.int c), .un, .un] ps = .ok (decide (t < ((ps.ns.map D.int).length : Nat))) [.im .pen, .im (dN m), .im (.int t), .im (.int c), .un, .un] ps := rfl
      have l2 : testM (ops [.code (frzM (ops [.late 3] kAbs)), .code (frzM (ops [.code (M.ret (.int 10)), .code (M.ret (.int 18))] kPow))] kGe) [.im .pen, .im (dN m), .im (.int t), .im (.int c), .un, .un] ps = .ok (decide (10 ^ 18 ≤ (if c < 0 then -c else c))) [.im .pen, .im (dN m), .im (.int t), .im (.int c), .un, .un] ps := run_test ((ops2 (oe1 (show Oe [.im .pen, .im (dN m), .im (.int t), .im (.int c), .un, .un] ps (.late 3) c from rfl) (k := kAbs) (z := if c < 0 then -c else c) rfl) (oe2 (oe_k 10) (oe_k 18) (kPow_ok (n := 18) (by omega) (by omega) _ ps))).trans rfl)
      cases e : decide (t < ((ps.ns.map D.int).length : Nat)) with
      | false => exact ⟨false, run_andF (l1.trans (by rw [e])), fun z => by cases z⟩
      | true => exact ⟨_, (run_andT (l1.trans (by rw [e]))).trans l2, fun z => of_decide_eq_true z⟩
    obtain ⟨ec, big⟩ := ec
    cases b with
    | false =>
      obtain ⟨n, E', hn, e⟩ := mix_run c t h1 h2 ht (by omega) .un .un ps
      exact ⟨n, ps, hn, hp, E', (run_seq (run_iteF ec)).trans e⟩
    | true =>
      have big := big rfl
      have w := hw ((if c < 0 then -c else c) - 10 ^ 18) (by omega) (by split at big <;> split <;> omega)
      have o1 := oe2 (E := [.im .pen, .im (dN m), .im (.int t), .im (.int c), .un, .un]) (ps := ps) (oe1 (a := .late 3) (x := c) (k := kAbs) (z := if c < 0 then -c else c) rfl rfl) (oe2 (oe_k 10) (oe_k 18) (kPow_ok (n := 18) (by omega) (by omega) _ ps)) (k := kSub) (z := (if c < 0 then -c else c) - 10 ^ 18) rfl
      have o2 := oe2 (oe_k 2) o1 (kMul_ok w _ ps)
      have lt : frzM (ops [.late 3, .code (M.ret (.int 0))] kLt) [.im .pen, .im (dN m), .im (.int t), .im (.int c), .un, .un] ps = .ok (.bl (decide (c < 0))) [.im .pen, .im (dN m), .im (.int t), .im (.int c), .un, .un] ps := rfl
      have o3 : Oe [.im .pen, .im (dN m), .im (.int t), .im (.int c), .un, .un] ps (.code (frzM (ops [.code (frzM (ops [.late 3, .code (M.ret (.int 0))] kLt))] kInt))) (if decide (c < 0) then 1 else 0) := (run_frz (r := .im (.int (if decide (c < 0) then 1 else 0))) ((run_c1 (k := kInt) lt).trans rfl)).trans rfl
      obtain ⟨n, hn, e⟩ := tail_rest (2 * ((if c < 0 then -c else c) - 10 ^ 18) + (if decide (c < 0) then 1 else 0)) h1 h2 (.im (.int t)) (.im (.int c)) .un ps (.code (frzM (ops [.late 5] kInt))) (oe1 (a := .late 5) (k := kInt) rfl rfl)
      refine ⟨n, { ps with rest := (2 * ((if c < 0 then -c else c) - 10 ^ 18) + (if decide (c < 0) then 1 else 0)) / (m : Int) }, hn, ⟨hp.1, hp.2⟩, _, run_seqR ((run_iteT ec).trans ((run_seq (run_set (E' := [.im .pen, .im (dN m), .im (.int t), .im (.int c), .un, .un]) (ps' := ps) (r := .im (.int (2 * ((if c < 0 then -c else c) - 10 ^ 18) + (if decide (c < 0) then 1 else 0)))) ((ops2 o2 o3).trans rfl))).trans e))⟩
  have st : ∀ c : Int, (∀ z : Int, 0 ≤ z → z.natAbs ≤ c.natAbs → mulOk 2 z = true) → seqM bCell bRest [.im .pen, .im (dN m), .im (.int t), .im (.int (95203 * t + 13127)), .un, .un] ⟨ns', t + 1, rest⟩ = bRest [.im .pen, .im (dN m), .im (.int t), .im (.int c), .un, .un] ⟨ns', t + 1, rest⟩ → ∃ n ps', n < m ∧ PI ns' (T + 1) ps' ∧ runF0 6 bDraw [.pen, dN m] ⟨ns', t, rest⟩ = .ok (.im (dN n)) ps' := by
    intro c hw e
    obtain ⟨n, ps', hn, hp, E', e2⟩ := fin c ⟨ns', t + 1, rest⟩ ⟨rfl, by show 0 ≤ t + 1; omega, by show t + 1 ≤ ((T + 1 : Nat) : Int); omega⟩ hw
    refine ⟨n, ps', hn, hp, run_fn (E' := E') ?_⟩
    refine (run_seq (run_iteF (t0.trans (by rw [decide_eq_false hr])))).trans ?_
    refine (run_seq (run_set (r := .im (.int t)) (E' := [.im .pen, .im (dN m), .un, .un, .un, .un]) (ps' := ⟨ns', t, rest⟩) rfl)).trans ?_
    refine (run_seq (g := seqM (setM 3 (ops [.code (frzM (ops [.code (M.ret (.int 95203)), .late 2] kMul)), .code (M.ret (.int 13127))] kAdd)) (seqM bCell bRest)) (E' := [.im .pen, .im (dN m), .im (.int t), .un, .un, .un]) (ps' := ⟨ns', t + 1, rest⟩) rfl).trans ?_
    have o := oe2 (E := [.im .pen, .im (dN m), .im (.int t), .un, .un, .un]) (ps := ⟨ns', t + 1, rest⟩) (oe_k 95203) (show Oe _ _ (.late 2) t from rfl) (kMul_ok (mulOk_of (by omega) (by omega)) _ _)
    refine (run_seq (run_set (r := .im (.int (95203 * t + 13127))) ((ops2 o (oe_k 13127)).trans rfl))).trans ?_
    exact e.trans e2
  have tc : testM (ops [.code (penIx 0 0), .code (frzM (lstM (argsM [])))] kNe) [.im .pen, .im (dN m), .im (.int t), .im (.int (95203 * t + 13127)), .un, .un] ⟨ns', t + 1, rest⟩ = .ok (!ns'.isEmpty) [.im .pen, .im (dN m), .im (.int t), .im (.int (95203 * t + 13127)), .un, .un] ⟨ns', t + 1, rest⟩ := by
    refine run_test ((run_cc (d := .lst (ns'.map .int)) (e := .lst []) (E' := [.im .pen, .im (dN m), .im (.int t), .im (.int (95203 * t + 13127)), .un, .un]) (ps' := ⟨ns', t + 1, rest⟩) rfl rfl).trans ?_)
    show imO ((eqD (.lst (ns'.map .int)) (.lst [])).map not) _ _ = _
    rw [eqD_ints0]; rfl
  cases e : ns'.isEmpty with
  | true =>
    refine st (95203 * t + 13127) (fun z hz hz' => mulOk_of (by omega) (by omega)) ((run_seq (run_iteF (tc.trans (by rw [e]; rfl)))).trans rfl)
  | false =>
    have hlen : 0 < ns'.length := by cases ns' with
      | nil => cases e
      | cons => simp
    have f0 := Int.fmod_nonneg_of_pos t (show (0 : Int) < (ns'.length : Nat) by omega)
    have f1 := Int.fmod_lt_of_pos t (show (0 : Int) < (ns'.length : Nat) by omega)
    have hi : (t.fmod (ns'.length : Nat)).toNat < ns'.length := by omega
    refine st (ns'[(t.fmod (ns'.length : Nat)).toNat]) (fun z hz hz' => ?_) ?_
    · have b := hb _ (List.getElem_mem hi)
      have z2 : z.natAbs.log2 ≤ 1048576 := by
        unfold Builtin.Int.intBits at b
        have l := log2_le_of_le hz'
        split at b
        · rename_i q
          rw [beq_iff_eq] at q
          rw [q] at l
          have : (0 : Int).natAbs.log2 = 0 := by decide
          omega
        · omega
      unfold mulOk
      have : (2 : Int).natAbs.log2 = 1 := by decide
      exact decide_eq_true (by omega)
    · have on : Oe [.im .pen, .im (dN m), .im (.int t), .im (.int (95203 * t + 13127)), .un, .un] ⟨ns', t + 1, rest⟩ (.code (frzM (ops [.code (frzM (ops [.late 2] kInt)), .code (frzM (ops [.code (penIx 0 0)] kLen))] kMod))) (t.fmod (ns'.length : Nat)) := by
        refine oe2 (x := t) (y := (ns'.length : Nat)) (oe1 (a := .late 2) (x := t) rfl rfl) ?_ (kMod_ok (by omega) _ _)
        show frzM (ops [.code (penIx 0 0)] kLen) _ _ = _
        refine (run_frz (r := .im (.int (ns'.length : Nat))) ((run_c1 (d := .lst (ns'.map .int)) rfl).trans ?_))
        show Out.ok (Sl.im (D.int ((ns'.map D.int).length : Nat))) _ _ = _
        rw [List.length_map]
      have ix : ops [.code (penIx 0 0), .code (frzM (ops [.code (frzM (ops [.late 2] kInt)), .code (frzM (ops [.code (penIx 0 0)] kLen))] kMod))] kIx [.im .pen, .im (dN m), .im (.int t), .im (.int (95203 * t + 13127)), .un, .un] ⟨ns', t + 1, rest⟩ = .ok (.im (.int (ns'[(t.fmod (ns'.length : Nat)).toNat]))) [.im .pen, .im (dN m), .im (.int t), .im (.int (95203 * t + 13127)), .un, .un] ⟨ns', t + 1, rest⟩ := by
        refine (run_cc (d := .lst (ns'.map .int)) (e := dN (t.fmod (ns'.length : Nat)).toNat) rfl (on.trans (by unfold dN; rw [Int.toNat_of_nonneg f0]))).trans (kIx_lst ?_ _ _)
        rw [List.getElem?_map, List.getElem?_eq_getElem hi]; rfl
      exact (run_seq ((run_iteT (tc.trans (by rw [e]; rfl))).trans (run_set ix))).trans rfl
end Dl
/-! a caught exception that is kept; lambdas with and without a default -/
namespace Dl
open PySem PySem.Spec PyProof.Rows L2
/-! ### try: .. except x as n: suite, the exception known behind -/
/-- an exception that stands as an object, of any class -/
def ExA (cls : Value) (d : Option Addr) (a : Addr) : HO := .ext fun h => ∃ (oe : Obj) (vs : Array Value), h.get? a = some oe ∧ Zc cls d oe ∧ oe.data = .fields vs
section
variable {X : Cx} {pins : List (Addr × Obj)} {σ : L2.St} {H : Hp} {s : Shared}
/-- an object that came into being since the def began is tracked from now on -/
theorem track {a : Addr} {o : HO} (I : Inv X pins σ H s) (na : H a = none) (n0 : X.s_0.heap.get? a = none) (nL : a ≠ X.env.locals) (nC : ∀ x c, X.env.cells.lookup x = some c → c ≠ a) (nP : ∀ p ∈ X.pn ++ pins, p.1 ≠ a) (new : ObjOk X.prog X.w (upd H a o) s.heap a o) :
    Inv X pins σ (upd H a o) s := by
  have up : ∀ {b : Addr} {u : HO}, H b = some u → upd H a o b = some u := fun {b u} e => by rw [upd_ne (ne_of_none e na)]; exact e
  refine ⟨I.ok, I.os, I.bare, ⟨I.base.keep, I.base.slot, fun b u e n hx => ?_, I.base.there, fun b xs e => up (I.base.tups b xs e), fun b u v e => up (I.base.frzs b u v e), fun b ps e => ?_⟩, I.loc, I.cell, ?_, fun x c e => ?_, fun p hp => ?_, I.hok.laidN (fun _ _ e => e) na new, I.len⟩
  · have hb : b ≠ a := fun z => by rw [z, n0] at e; cases e
    rw [upd_ne hb]; exact I.base.free b u e n hx
  · obtain ⟨m, q⟩ := I.base.tbls b ps e
    exact ⟨m, up q⟩
  · rw [upd_ne (Ne.symm nL)]; exact I.free
  · rw [upd_ne (nC x c e)]; exact I.freeC x c e
  · obtain ⟨e, n, ne, nf, d⟩ := I.pin p hp
    exact ⟨e, by rw [upd_ne (nP p hp)]; exact n, ne, nf, d⟩
def wHeld (K : PySem.W.Frag) (c : Value) (i : Nat) (ts : Addr → Value → Option Addr → TS) (D : Ends) : WX := fun cls d σ H =>
  PySem.W.exmOne K cls c = some true ∧ ∀ a, H a = none → ts a cls d { nx := fun σ' H' => H' a = none ∧ D.nx (σ'.set i none) (upd H' a (ExA cls d a)), rt := fun _ _ => False, bk := fun _ _ => False, ct := fun _ _ => False } (σ.set i (some (.ref a))) H
theorem ps_try_held {x n : Str} {c : Value} {i : Nat} {body suite : List Stmt} {b₀ : Stmt} {np pos pos' : Pos} {tb : WX → TS} {ts : Addr → Value → Option Addr → TS}
    (hs : X.stack = X.env :: X.outer) (hf : X.env.frame = some X.env.locals) (hex : X.ex = []) (hN : X.N.Nodup) (hi : X.N[i]? = some n) (hln : X.env.kindOf n = some .local) (hc : Names X x c)
    (hb : ∀ (W : WX) (pn : List (Addr × Obj)) (xe : Value → Shared → Prop), Takes (X.tr pn xe) W → PassesOwn (model X.prog X.w) X.A X.env xe → PSs (X.tr pn xe) body (tb W))
    (hsu : ∀ (a : Addr) (oe : Obj) (cls : Value) (d : Option Addr) (pn : List (Addr × Obj)), Zc cls d oe → (∃ vs, oe.data = .fields vs) → PSs (X.suite a ((a, oe) :: pn)) (b₀ :: suite) (ts a cls d)) :
    PS X (.Try body [.ExceptHandler (some (.Name x np)) (some n) (b₀ :: suite) pos'] [] [] pos) (fun D σ H => tb (wHeld X.K c i ts D) D σ H) := by
  refine ⟨fun pins s σ H D I h => ?_⟩
  have ok := I.ok
  have hfr : X.A.frames = some (X.env :: X.outer) := by rw [ok.frames, hs]
  have hloc : Loc X.env.scope n := .inl hln
  refine wpAny_Try_except ?_
  refine wpAny_mono ((hb (wHeld X.K c i ts D) (X.pn ++ pins) (fun e s₁ => wpAny (model X.prog X.w) X.A (noteFrame e X.env) (fun _ s₂ => wpAny (model X.prog X.w) X.A (setFlight e none) (fun _ s₃ =>
    wpAny (model X.prog X.w) X.A (handleBy e X.env [.ExceptHandler (some (.Name x np)) (some n) (b₀ :: suite) pos']) (SP X pins D) X.xe s₃) X.xe s₂) X.xe s₁) (fun u s' xx => ?_) PassesOwn.looking).run [] s σ H D (I.toTry _) h) (fun f s1 hsp => ?_) (fun e s1 he => he)
  · obtain ⟨a, B, sI, pins', σ', H', cls, d, rfl, J', nb, up, sky, na, os, ag, hb1, hyes⟩ := xx
    have J : Inv X pins σ' H' sI := J'.ofTry ok
    have sky' : Sky B (X.env :: X.outer) a (Zc cls d) X.env.locals s'.heap := by rw [← hs]; exact sky
    show wpAny (model X.prog X.w) X.A (noteFrame (.ref a) X.env) _ _ _
    refine Sky.land Zc.steady hfr hf sky' fun h3 fl3 up3 => ?_
    have J3 : Inv X pins σ' H' { s' with heap := h3 } := J.landed nb fl3.1 (up.trans up3) os ag
    obtain ⟨oe3, vs3, he3, hz3, hd3⟩ := fl3.there
    have Ba : B.get? a = none := fl3.2.1
    have notFr : ∀ {h : Heap} {o : Obj} {vs : Array Value}, h.FunFrames B (X.env :: X.outer) → h.get? a = some o → o.data = .fields vs → a ∉ frs (X.env :: X.outer) := fun {h o vs} ff e dd hm => by
      obtain ⟨_, o', e', hnf⟩ := ff.mem hm
      rw [e] at e'; cases e'
      exact hnf _ dd
    have nfr := notFr fl3.2.2.1 he3 hd3
    have nL : a ≠ X.env.locals := fun z => nfr (List.mem_filterMap.mpr ⟨X.env, List.mem_cons_self, by rw [hf, z]⟩)
    have nF : a ∉ X.fs := fun hm => by
      obtain ⟨e, he, q⟩ := List.mem_filterMap.mp hm
      exact nfr (List.mem_filterMap.mpr ⟨e, List.mem_cons_of_mem _ he, q⟩)
    have nst : a ∉ frs X.stack := by rw [hs]; exact nfr
    have sIa : sI.heap.get? a = none := by
      cases z : sI.heap.get? a with
      | none => rfl
      | some o => rw [nb a o z nst] at Ba; cases Ba
    have n0 : X.s_0.heap.get? a = none := by
      cases z : X.s_0.heap.get? a with
      | none => rfl
      | some o =>
        obtain ⟨o', q⟩ := J.base.there a o z (by rw [hex]; exact fun y => by cases y)
        rw [sIa] at q; cases q
    have nC : ∀ x c, X.env.cells.lookup x = some c → c ≠ a := fun x c e z => by
      obtain ⟨v, o, q, _⟩ := J.cell x c e
      rw [z, sIa] at q; cases q
    have nP : ∀ p ∈ X.pn ++ pins, p.1 ≠ a := fun p hp z => by
      obtain ⟨q, _⟩ := J.pin p hp
      rw [z, sIa] at q; cases q
    have S3 := J3.suite he3 hd3 na nL nF
    refine wpAny_handleBy_cons (codeAny_handlers_test ?_) (by intro q; cases q)
    have LT : PySem.W.Looks (model X.prog X.w) h3 (typeOf (.ref a)) cls := fun A Q E s k q => wpAny_typeOf_ref (k _ _ he3) (by rw [hz3.1]; exact q)
    have LM := PySem.W.exm_one (M := model X.prog X.w) (J3.kIn) LT hb1
    have test : ∀ {Q : Value → Shared → Prop} {E : Value → Shared → Prop}, Q c { s' with heap := h3 } → wpAny (model X.prog X.w) (X.A.mark (some (.ref a))) (eval (.Name x np) X.env) Q E { s' with heap := h3 } := fun {Q E} q => by
      obtain ⟨hg, hdbg, hm | ⟨hm, hv, hnn⟩⟩ := hc
      · exact ld_glob (X := X.suite a ((a, oe3) :: (X.pn ++ pins))) S3 hg hm q hdbg
      · exact ld_blt (X := X.suite a ((a, oe3) :: (X.pn ++ pins))) S3 hg hm hv q hnn hdbg
    refine test (LM.here ?_)
    refine codeAny_handlers_suite_as ?_
    refine HandSPX.lands_againZ fl3 fun h4 fl4 up4 => ?_
    have J4 : Inv X pins σ' H' { s' with heap := h4 } := J.landed nb fl4.1 ((up.trans up3).trans up4) os ag
    obtain ⟨oe4, vs4, he4, hz4, hd4⟩ := fl4.there
    have S4 := J4.suite he4 hd4 na nL nF
    refine store_ok (X := X.suite a ((a, oe4) :: (X.pn ++ pins))) (v := .ref a) S4 hN hi hloc rfl (fun s5 S5 => ?_) (.inr hln)
    refine wpAny_mono ((hsu a oe4 cls d (X.pn ++ pins) hz4 ⟨_, hd4⟩).run [] s5 _ H' _ S5 (hyes a na)) (fun f s6 hsp => ?_) (fun _ _ z => False.elim z)
    cases f with
    | next =>
      obtain ⟨σ6, H6, S6, n6, q6⟩ := hsp
      refine gone_ok (X := X.suite a ((a, oe4) :: (X.pn ++ pins))) S6 hN hi hln fun s7 J7 => ?_
      obtain ⟨p7, _⟩ := J7.pin (a, oe4) (List.mem_append_left _ List.mem_cons_self)
      have J8 : Inv X pins (σ6.set i none) H6 s7 := J7.unsuite ok
      refine ⟨_, _, track J8 n6 n0 nL nC nP ?_, q6⟩
      refine ⟨⟨oe4, vs4, p7, hz4, hd4⟩, ⟨_, p7⟩, fun h1 h2 z k => ?_⟩
      obtain ⟨oe, vs, e1, e2, e3⟩ := z
      exact ⟨oe, vs, k _ e1, e2, e3⟩
    | brk =>
      obtain ⟨σ6, H6, S6, q6⟩ := hsp
      exact q6.elim
    | cont =>
      obtain ⟨σ6, H6, S6, q6⟩ := hsp
      exact q6.elim
    | ret u =>
      obtain ⟨v6, σ6, H6, S6, r6, q6⟩ := hsp
      exact q6.elim
  · cases f with
    | next =>
      obtain ⟨σ', H', J', q⟩ := hsp
      exact wpAny_execs_nil ⟨σ', H', J'.ofTry ok, q⟩
    | brk =>
      obtain ⟨σ', H', J', q⟩ := hsp
      exact ⟨σ', H', J'.ofTry ok, q⟩
    | cont =>
      obtain ⟨σ', H', J', q⟩ := hsp
      exact ⟨σ', H', J'.ofTry ok, q⟩
    | ret u =>
      obtain ⟨v, σ', H', J', r, q⟩ := hsp
      exact ⟨v, σ', H', J'.ofTry ok, r, q⟩
/-! ### a lambda is made -/
abbrev lobj (q : Str) (params : Arguments) (body : Expr) (scope : Scope) (cl : List (Str × Addr)) (dV doc pm : Value) (c' : Addr) (ctv : Value) : Obj := PySem.W.kdv_obj "<lambda>" q params (.expr body) scope cl dV doc pm c' ctv
theorem tail_ok {T : List (Addr × Str)} {c P : Addr} {params : Arguments} {body : Expr} {scope : Scope} {pos : Pos} {dV : Value} {fl : Nat} {E : Value → Shared → Prop} {Q : Value → Shared → Prop} (I : Inv X pins σ H s) (TB : LamX.TabB X.base X.mg c P) (hcode : X.env.code = .ref c)
    (hm : (P, X.env.qual ++ "<lambda>") ∈ T) (hu : ∀ p ∈ T, p.1 = P → p.2 = X.env.qual ++ "<lambda>") (hT : LamX.Tabs T H) (hfree : ∀ y ∈ scope.names, y.2 = .free → ∃ c, X.env.cells.lookup y.1 = some c)
    (h : ∀ (f c' : Addr) (pm ctv doc : Value) (H1 : Hp) (s' : Shared), Inv X pins σ H1 s' → (∀ b o, b ≠ P → H b = some o → H1 b = some o) → LamX.Tabs T H1 → (∀ b o, s.heap.get? b = some o → b ≠ P → s'.heap.get? b = some o) → (∀ b o, s.heap.get? b = some o → H b = none → H1 b = none) →
      s'.heap.get? f = some (lobj (X.env.qual ++ "<lambda>") params body scope (cloFrom X.env.cells scope.names []) dV doc pm c' ctv) → H1 f = none → f ∉ frs X.stack → H1 c' = some (LamX.CodeO c' (X.env.qual ++ "<lambda>")) → Q (.ref f) s') :
    wpAny (model X.prog X.w) X.A (makeTail "<lambda>" (X.env.qual ++ "<lambda>") params (.expr body) scope X.env dV .none none pos fl) Q E s := by
  obtain ⟨ps, hP, ht, ha⟩ := hT _ hm
  have bP : s.heap.BuiltinsAt X.mg P := TB.bm.keeps I.bk
  have hP' : s.heap.get? P = some { cls := .none, data := .fields ps } := I.hok P _ hP
  have nofr : ∀ f, s.heap.objs.size ≤ f → f ∉ frs X.stack := fun f hf z => by
    rcases List.mem_cons.mp (I.stkSub _ z) with e | e
    · have h1 := I.lt
      rw [← e] at h1
      exact Nat.lt_irrefl _ (Nat.lt_of_lt_of_le h1 hf)
    · exact I.nofs hf e
  cases hc : codeAmong pos ps.toList with
  | none =>
    refine PySem.W.kdv_makeTail (mg := X.mg) (c := c) (P := P) (ps := ps) (closure_ok hfree) I.ok.glob (I.mod.glob.keeps I.bk) hcode (TB.code.keeps I.bk) hP' ht hc TB.gP bP fun c' ctv doc h' tk hx hge hlt hrec htb => ?_
    obtain ⟨c2, oc, vs, t, e2, hoc, hd, hv⟩ := hrec
    cases e2
    have hsz : s.heap.objs.size ≤ h'.objs.size := Nat.le_trans hge (Nat.le_of_lt hlt)
    have nC : H c' = none := I.hok.fresh hge
    have I1 := LamX.inv_table (t' := tk) (more := #[rawInt pos.line, rawInt pos.col, .ref c']) (h' := h'.push (lobj (X.env.qual ++ "<lambda>") params body scope (cloFrom X.env.cells scope.names []) dV doc ((X.mg "__name__").getD .none) c' ctv)) I hP
      (fun b o hb e => Heap.get?_push_of_some _ (hx b o hb e)) (Heap.get?_push_of_some _ htb) hge ⟨oc, vs, t, Heap.get?_push_of_some _ hoc, hd, hv⟩
    have hE : ∀ b o, b ≠ P → H b = some o → (upd (upd H P (.tbl (ps ++ #[rawInt pos.line, rawInt pos.col, .ref c']))) c' (LamX.CodeO c' (X.env.qual ++ "<lambda>"))) b = some o := fun b o n e => by
      rw [upd_ne (ne_of_none e nC), upd_ne n]
      exact e
    have eL : (ps ++ #[rawInt pos.line, rawInt pos.col, .ref c']).toList = ps.toList ++ [rawInt pos.line, rawInt pos.col, .ref c'] := by simp
    refine h h'.objs.size c' ((X.mg "__name__").getD .none) ctv doc _ _ I1 hE (fun p hp => ?_) (fun b o e n => Heap.get?_push_of_some _ (hx b o n e)) (fun b o e n => ?_) (Heap.get?_push_size _ rfl) ?_ (nofr _ hsz) upd_same
    · by_cases hb : p.1 = P
      · rw [hu p hp hb, hb]
        refine ⟨_, by rw [upd_ne (ne_of_none hP nC), upd_same], by rw [eL]; exact PySem.TriplesOk_snoc _ _ _ _ ht, fun p' cv hcv => ?_⟩
        rw [eL] at hcv
        rcases LamX.among_app _ ht hcv with z | z
        · obtain ⟨c0, e1, e2⟩ := ha p' cv z
          exact ⟨c0, e1, hE _ _ (fun y => by rw [y, hP] at e2; cases e2) e2⟩
        · exact ⟨c', z, upd_same⟩
      · obtain ⟨ps', a1, a2, a3⟩ := hT p hp
        refine ⟨ps', by rw [upd_ne (ne_of_none a1 nC), upd_ne hb]; exact a1, a2, fun p' cv hcv => ?_⟩
        obtain ⟨c0, e1, e2⟩ := a3 p' cv hcv
        exact ⟨c0, e1, hE _ _ (fun y => by rw [y, hP] at e2; cases e2) e2⟩
    · rw [upd_ne (Nat.ne_of_lt (Nat.lt_of_lt_of_le (Heap.lt_size e) hge)), upd_ne (fun z => by rw [z, hP] at n; cases n)]
      exact n
    · have n1 : h'.objs.size ≠ c' := Nat.ne_of_gt hlt
      have n2 : h'.objs.size ≠ P := Nat.ne_of_gt (Nat.lt_of_lt_of_le (Heap.lt_size hP') hsz)
      rw [upd_ne n1, upd_ne n2]
      exact I.hok.fresh hsz
  | some cv =>
    obtain ⟨c', e, hco⟩ := ha pos cv hc
    subst e
    refine PySem.W.kdv_makeTailHit (mg := X.mg) (c := c) (P := P) (ps := ps) (closure_ok hfree) I.ok.glob (I.mod.glob.keeps I.bk) hcode (TB.code.keeps I.bk) hP' ht hc bP fun ctv doc h' tk hx hsz => ?_
    have I1 : Inv X pins σ H { s with heap := h'.push (lobj (X.env.qual ++ "<lambda>") params body scope (cloFrom X.env.cells scope.names []) dV doc ((X.mg "__name__").getD .none) c' ctv), toks := tk } := I.kept fun b o e => Heap.get?_push_of_some _ (hx b o e)
    exact h h'.objs.size c' ((X.mg "__name__").getD .none) ctv doc H _ I1 (fun _ _ _ e => e) hT (fun b o e _ => Heap.get?_push_of_some _ (hx b o e)) (fun _ _ _ n => n) (Heap.get?_push_size _ rfl) (I.hok.fresh hsz) (nofr _ hsz) hco
end
end Dl
/-! lambdas without parameters, or with one that has a default, handed to a def -/
namespace Dl
open PySem PySem.Spec PyProof.Rows L2 LamX
/-- the lambda's names: none is a cell, no own one is a name of the def around -/
structure LamD (N : List Str) (sc scope : Scope) : Prop where
  kind : scope.kind = .function
  co : scope.isCoroutine = false
  gen : scope.isGenerator = false
  nc : ∀ y ∈ scope.names, y.2 ≠ .cell
  nl : ∀ y ∈ N, scope.names.lookup y ≠ some .local
  free : ∀ y ∈ scope.names, y.2 = .free → sc.names.lookup y.1 = some .cell ∨ sc.names.lookup y.1 = some .free
def lamDB (N : List Str) (sc scope : Scope) : Bool :=
  decide (scope.kind = .function) && !scope.isCoroutine && !scope.isGenerator && (scope.names.all fun y => !decide (y.2 = .cell)) && (N.all fun y => !decide (scope.names.lookup y = some .local)) && scope.names.all fun y => (!decide (y.2 = .free) || decide (sc.names.lookup y.1 = some .cell) || decide (sc.names.lookup y.1 = some .free))
theorem lamD_by {N : List Str} {sc scope : Scope} (h : lamDB N sc scope = true) : LamD N sc scope := by
  unfold lamDB at h
  simp only [Bool.and_eq_true, Bool.or_eq_true, Bool.not_eq_true', decide_eq_true_eq, decide_eq_false_iff_not, List.all_eq_true] at h
  obtain ⟨⟨⟨⟨⟨h1, h2⟩, h3⟩, h4⟩, h5⟩, h6⟩ := h
  refine ⟨h1, h2, h3, h4, h5, fun y hy e => ?_⟩
  rcases h6 y hy with (z | z) | z
  · exact absurd e z
  · exact .inl z
  · exact .inr z
theorem LamD.has {X : Cx} {scope : Scope} (L : LamD X.N X.env.scope scope) (ok : X.Ok) : ∀ y ∈ scope.names, y.2 = .free → ∃ c, X.env.cells.lookup y.1 = some c := fun y hy e => by
  rcases L.free y hy e with k | k
  · exact ok.has _ (.inl k)
  · exact ok.has _ (.inr k)
section
variable {X : Cx} {pins : List (Addr × Obj)} {σ : L2.St} {H HZ : Hp} {s s1 : Shared}
theorem lam_startD {A : Around} {outer : List Env} {E : XK} {scope : Scope} {f c' : Addr} {h₁ : Heap} {tk : Nat} {binds : List (Str × Value)} (I : Inv X pins σ H s) (L : LamD X.N X.env.scope scope) (e0 : Env0 X.prog X.w X.K X.mg X.base A outer s1 HZ) (hd : A.handled = none)
    (un : Un (frs X.stack) [] H HZ s.heap s1.heap) (hns : h₁.Ns s1.heap.objs.size fun y => binds.reverse.lookup y) (kp : ∀ b o, s1.heap.get? b = some o → h₁.get? b = some o) :
    Inv (lamCx X A outer s1 HZ E scope f c') [] σ HZ { s1 with heap := h₁, toks := tk } := by
  have hfree := L.has I.ok
  have cm : ∀ {y c}, (cloFrom X.env.cells scope.names []).lookup y = some c → X.env.cells.lookup y = some c := fun {y c} e => by
    rcases cloFrom_mem (PySem.mem_of_lookup e) with hm | ⟨h1, h2⟩
    · cases hm
    · obtain ⟨c1, hc⟩ := hfree _ h1 rfl
      have hc : X.env.cells.lookup y = some c1 := hc
      have e2 : c = c1 := by
        rw [h2, hc] <;> rfl
      rw [e2]
      exact hc
  have look : ∀ {y}, scope.names.lookup y = some .free → ∃ c, (cloFrom X.env.cells scope.names []).lookup y = some c := fun {y} hl => by
    have hy : (y, NameKind.free) ∈ scope.names := PySem.mem_of_lookup hl
    exact mem_lookup (cloFrom_has (cells := X.env.cells) (acc := []) hy)
  have cellK : ∀ {c : Addr} {v : Option Value}, H c = none → s.heap.IsCell c v → h₁.IsCell c v := fun {c v} n ⟨o, ho, hd⟩ => by
    obtain ⟨sl, q⟩ := un.any ho n (by simp)
    exact ⟨_, kp _ _ q, hd⟩
  have noA : ∀ b : Addr, b ∉ (lamCx X A outer s1 HZ E scope f c').ex := fun b z => absurd (show b ∈ ([] : List Addr) from z) (by simp)
  refine ⟨⟨e0.mod, L.kind, rfl, rfl, Nat.le_refl _, fun y z c e1 e2 => I.ok.inj y z c (cm e1) (cm e2), fun y hy => ?_, fun y c z _ => ?_, fun _ => hd, Around.frames_deeper e0.frames, .inr ⟨rfl, rfl⟩, fun b z => absurd z (noA b), e0.bs, e0.bsz, fun b _ _ => noA b,
      fun b z => absurd z (noA b), e0.funs, e0.frf⟩,
    rfl, e0.bare, Un.kept kp, ⟨_, hns, fun i y v e1 e2 e3 => ?_⟩, fun y c e => ?_, e0.hok.fresh (Nat.le_refl _), fun y c e => ?_, fun q hq => absurd (show q ∈ ([] : List (Addr × Obj)) ++ [] from hq) (by simp), e0.hok.kept kp, I.len⟩
  · have hy : scope.names.lookup y = some .cell ∨ scope.names.lookup y = some .free := hy
    rcases hy with hy | hy
    · exact absurd rfl (L.nc _ (PySem.mem_of_lookup hy))
    · exact look hy
  · have z : false = true := z
    cases z
  · have e3 : Vis scope y := e3
    have e1 : X.N[i]? = some y := e1
    rcases e3 with k | k | k
    · exact absurd k (L.nl y (List.mem_of_getElem? e1))
    · exact absurd rfl (L.nc _ (PySem.mem_of_lookup k))
    · obtain ⟨m, hn, hl⟩ := I.loc
      have hvis : Vis X.env.scope y := (L.free _ (PySem.mem_of_lookup k) rfl).elim (fun k => .inr (.inl k)) (fun k => .inr (.inr k))
      obtain ⟨w', r, q⟩ := hl i y v e1 e2 hvis
      obtain ⟨c2, h2⟩ := look k
      refine ⟨w', r, .inr ⟨.inr k, c2, h2, ?_⟩⟩
      have c1 := cm h2
      rcases q with ⟨k', _⟩ | ⟨_, c3, e', z⟩
      · have k' : X.env.scope.names.lookup y = some .local := k'
        rcases L.free _ (PySem.mem_of_lookup k) rfl with k2 | k2 <;> rw [show X.env.scope.names.lookup y = _ from k2] at k' <;> cases k'
      · rw [c1] at e'
        cases e'
        exact cellK (I.freeC y _ c1) z
  · obtain ⟨w', z⟩ := I.cell y c (cm e)
    exact ⟨w', cellK (I.freeC y c (cm e)) z⟩
  · obtain ⟨v, o, ho, hd⟩ := I.cell y c (cm e)
    exact un.free c o ho (I.freeC y c (cm e)) (by simp)
/-- x(), in the def that got the lambda -/
theorem act_ok {CXg : CXT} {Eg : XK} {Ng : List Str} {qg : Str} {sg : Scope} {g f c' : Addr} {cdg pm ctv dV doc : Value} {params : Arguments} {body : Expr} {scope : Scope} {k i : Nat} {a : Str} {pn : List (Addr × Obj)} {xe : Value → Shared → Prop} {W : WX} {E : XK} {tb : TE} {p1 p2 : Pos} {binds : List (Str × Value)}
    (I : Inv X pins σ H s) (L : LamD X.N X.env.scope scope) (hf : s.heap.get? f = some (lobj (X.env.qual ++ "<lambda>") params body scope (cloFrom X.env.cells scope.names []) dV doc pm c' ctv)) (hfn : H f = none) (hfr : f ∉ frs X.stack)
    (hbind : ∀ sZ : Shared, (∀ b o, s.heap.get? b = some o → H b = none → b ∉ frs X.stack → sZ.heap.get? b = some o) → BindsTo sZ (PySem.W.kdv_fn "<lambda>" (X.env.qual ++ "<lambda>") params (.expr body) scope (cloFrom X.env.cells scope.names []) dV doc pm (.ref c') ctv) ⟨[], []⟩ binds) (hbl : ∀ y ∈ binds, scope.names.lookup y.1 = some .local)
    (tk : Takes ((cxOf CXg X.prog X.w X.K X.mg X.base Ng qg sg g cdg X.A X.stack s H Eg).tr pn xe) W) (hr : Room (k + 1) (X.A.deeper (envOfC qg sg s.heap.objs.size g cdg)))
    (hbody : ∀ (A : Around) (outer : List Env) (s : Shared) (H : Hp), Room k (A.deeper (lamEnv X scope s.heap.objs.size f c')) → PE (lamCx X A outer s H E scope f c') body tb)
    (hN : Ng[i]? = some a) (hv : Vis sg a) (hd : (a == ("__debug__" : Str)) = false := by decide) (hcd : (a == ("__classdict__" : Str)) = false := by decide) :
    PE ((cxOf CXg X.prog X.w X.K X.mg X.base Ng qg sg g cdg X.A X.stack s H Eg).tr pn xe) (.Call (.Name a p1) [] [] p2)
      (fun σZ HZ Q => (∀ cls d H', E cls d H' → W cls d σZ H') ∧ σZ[i]? = some (some (.ref f)) ∧ HZ c' = some (CodeO c' (X.env.qual ++ "<lambda>")) ∧ tb σ HZ Q) := by
  refine ⟨fun pinsZ sZ σZ HZ Q IZ h => ?_⟩
  obtain ⟨hW, hs, hc, ht⟩ := h
  refine wpAny_Call_Name_kw (thn ((pe_var (pos := p1) (i := i) hN hv hd hcd).run pinsZ sZ σZ HZ (fun v H1 => v = .ref f ∧ H1 = HZ) IZ ⟨.ref f, hs, rfl, rfl⟩) fun u s1 ⟨v, H1, I1, r1, q1⟩ => ?_)
  obtain ⟨ev, eH⟩ := q1
  subst ev
  rw [eH] at I1
  obtain rfl : u = Value.ref f := r1
  have kept : ∀ b o, s.heap.get? b = some o → H b = none → b ∉ frs X.stack → s1.heap.get? b = some o := fun b o e n nf => I1.base.keep b o e n nf (fun z => nomatch (show b ∈ ([] : List Addr) from z))
  have of1 : s1.heap.get? f = some (lobj (X.env.qual ++ "<lambda>") params body scope (cloFrom X.env.cells scope.names []) dV doc pm c' ctv) := kept f _ hf hfn hfr
  refine PySem.W.callWith_F0 ⟨_, _, _, _, of1⟩ ?_
  have un : Un (frs X.stack) [] H HZ s.heap s1.heap := I1.base
  obtain ⟨⟨oc, vs, t, hoc, hdc, hvc⟩, _, _⟩ := I1.hok c' _ hc
  have rc : codeAny (model X.prog X.w) (X.A.deeper (envOfC qg sg s.heap.objs.size g cdg)) (.call (.ref f) ⟨[], []⟩) (CR (L2.CX X.prog X.w) (envOfC qg sg s.heap.objs.size g cdg :: X.stack) X.prog X.w HZ s1 Q E) s1 := by
    refine PySem.W.kla_callFunE hr.depth of1 rfl L.co L.gen rfl ⟨c', oc, vs, t, rfl, hoc, hdc, hvc⟩ ?_
    refine hbind s1 kept _ _ _ _ (wpAny_newFunctionEnv L.nc hbl (fun h₁ hns hsb => ⟨I1.nolimit.fresh _ hsb, ?_⟩) L.kind)
    show codeAny _ _ (.expr body (lamEnv X scope s1.heap.objs.size f c')) _ _
    have kp : ∀ b o, s1.heap.get? b = some o → h₁.get? b = some o := fun b o e => hsb.extBut b o (Nat.ne_of_lt (Heap.lt_size e)) (Heap.get?_push_of_some _ e)
    have J : Inv (lamCx X (X.A.deeper (envOfC qg sg s.heap.objs.size g cdg)) (envOfC qg sg s.heap.objs.size g cdg :: X.stack) s1 HZ E scope f c') [] σ HZ { s1 with heap := h₁, toks := s1.toks + binds.length } :=
      lam_startD I L I1.env0 hr.hd un hns kp
    refine PySem.W.kla_codeExpr (wpAny_mono ((hbody _ _ s1 HZ (hr.deeper _)).run [] _ _ HZ Q J ht) (fun v s' hq => ?_) fun e s' hq => hq)
    obtain ⟨w', H', J', rv, q⟩ := hq
    exact ⟨w', H', J'.os, J'.bare, J'.base, J'.hok, rv, q⟩
  refine wpAny_call (codeAny_mono rc fun r s' hq => ?_)
  cases r with
  | error e => exact tk e s' (XE.of_call I1 (fun cls d H' h => hW cls d H' h) hq)
  | ok fl =>
    cases fl with
    | ret u => exact I1.after hq
    | next => exact False.elim hq
    | brk => exact False.elim hq
    | cont => exact False.elim hq
/-- how a lambda's parameters are made and bound: none, or one with a written number -/
inductive LamP (params : Arguments) (scope : Scope) : Prop where
  | no (hdef : ∀ env, defaultsOf params env = ([], [])) (hb : ∀ (q : Str) (body : Expr) (cl : List (Str × Addr)) (doc pm cv ctv : Value), bindArgs (PySem.W.kdv_fn "<lambda>" q params (.expr body) scope cl .none doc pm cv ctv) ⟨[], []⟩ = pure [])
  | one (a : Str) (i : Int) (j : Nat) (p : Pos) (hd : params.defaults = [.Constant (.int i) j p]) (hk : params.kw_defaults = []) (hl : scope.names.lookup a = some .local)
      (hb : ∀ (q : Str) (body : Expr) (cl : List (Str × Addr)) (T : Addr) (v doc pm cv ctv : Value), ∃ k, bindArgs (PySem.W.kdv_fn "<lambda>" q params (.expr body) scope cl (.ref T) doc pm cv ctv) ⟨[], []⟩ = seqItems? (.ref T) >>= k ∧ k (some #[v]) = pure [(a, v)])
theorem lam_mk {T : List (Addr × Str)} {c P : Addr} {params : Arguments} {body : Expr} {scope : Scope} {pos : Pos} {Q : Value → Shared → Prop} (LP : LamP params scope) (I : Inv X pins σ H s) (TB : LamX.TabB X.base X.mg c P) (hcode : X.env.code = .ref c)
    (hm : (P, X.env.qual ++ "<lambda>") ∈ T) (hu : ∀ p ∈ T, p.1 = P → p.2 = X.env.qual ++ "<lambda>") (hT : LamX.Tabs T H) (hfree : ∀ y ∈ scope.names, y.2 = .free → ∃ c, X.env.cells.lookup y.1 = some c)
    (h : ∀ (f c' : Addr) (pm ctv dV doc : Value) (binds : List (Str × Value)) (H1 : Hp) (s' : Shared), Inv X pins σ H1 s' → (∀ b o, b ≠ P → H b = some o → H1 b = some o) → LamX.Tabs T H1 →
      s'.heap.get? f = some (lobj (X.env.qual ++ "<lambda>") params body scope (cloFrom X.env.cells scope.names []) dV doc pm c' ctv) → H1 f = none → f ∉ frs X.stack → H1 c' = some (LamX.CodeO c' (X.env.qual ++ "<lambda>")) →
      (∀ sZ : Shared, (∀ b o, s'.heap.get? b = some o → H1 b = none → b ∉ frs X.stack → sZ.heap.get? b = some o) → BindsTo sZ (PySem.W.kdv_fn "<lambda>" (X.env.qual ++ "<lambda>") params (.expr body) scope (cloFrom X.env.cells scope.names []) dV doc pm (.ref c') ctv) ⟨[], []⟩ binds) →
      (∀ y ∈ binds, scope.names.lookup y.1 = some .local) → Q (.ref f) s') :
    wpAny (model X.prog X.w) X.A (eval (.Lambda params body scope pos) X.env) Q X.xe s := by
  cases LP with
  | no hdef hb =>
    refine PySem.W.kla_eval (hdef _) ?_
    rw [makeFunction_eq]
    simp only [List.zip_nil_right, List.filterMap_nil, List.isEmpty_nil, if_true, pure_bind]
    exact tail_ok I TB hcode hm hu hT hfree fun f c' pm ctv doc H1 s' I1 e1 T1 k1 n1 hf hfn hfr hc => h f c' pm ctv .none doc [] H1 s' I1 e1 T1 hf hfn hfr hc (fun sZ _ => .of_eq (hb _ _ _ _ _ _ _)) (fun y hy => by cases hy)
  | one a i j p hd hk hl hb =>
    refine PySem.W.kdv_lam (by rw [hd]; rfl) hk ?_
    rw [hd]
    refine PySem.W.kdv_all1 (thn ((pe_int (X := X) (i := i) (j := j) (pos := p)).run pins s σ H (fun v H1 => v = .int i ∧ H1 = H) I ⟨rfl, rfl⟩) fun u s1 hu1 => ?_)
    obtain ⟨v, H1, I1, r, _, eH⟩ := hu1
    subst eH
    refine PySem.W.kdv_all0 ?_
    rw [makeFunction_eq]
    simp only [List.zip_nil_right, List.filterMap_nil, List.isEmpty_nil, List.isEmpty_cons, Bool.false_eq_true, if_false, if_true, pure_bind]
    refine wpAny_bind (wpAny_newTextTuple ?_)
    have I2 : Inv X pins σ H1 { s1 with heap := s1.heap.push (PySem.W.kdv_tup [u]) } := I1.kept (t' := s1.toks) fun b o e => Heap.get?_push_of_some _ e
    have hTup : (s1.heap.push (PySem.W.kdv_tup [u])).get? s1.heap.objs.size = some (PySem.W.kdv_tup [u]) := Heap.get?_push_size _ rfl
    have nT : H1 s1.heap.objs.size = none := I1.hok.fresh (Nat.le_refl _)
    have nfT : s1.heap.objs.size ∉ frs X.stack := fun z => by
      rcases List.mem_cons.mp (I1.stkSub _ z) with e | e
      · have h1 := I1.lt
        rw [← e] at h1
        exact Nat.lt_irrefl _ h1
      · exact I1.nofs (Nat.le_refl _) e
    have nP : s1.heap.objs.size ≠ P := fun z => by
      obtain ⟨ps, e, _⟩ := hT _ hm
      rw [← z, nT] at e; cases e
    exact tail_ok I2 TB hcode hm hu hT hfree fun f c' pm ctv doc H2 s' I3 e1 T1 k1 n1 hf hfn hfr hc => h f c' pm ctv (.ref s1.heap.objs.size) doc [(a, u)] H2 s' I3 e1 T1 hf hfn hfr hc
      (fun sZ kz => by
        obtain ⟨k, h1, h2⟩ := hb (X.env.qual ++ "<lambda>") body (cloFrom X.env.cells scope.names []) s1.heap.objs.size u doc pm (.ref c') ctv
        exact BindsTo.of_defaults rfl (kz _ _ (k1 _ _ hTup nP) (n1 _ _ hTup nT) nfT) rfl h1 h2)
      (fun y hy => by rw [List.mem_singleton.mp hy]; exact hl)
/-- the def that calls what it got: a calls it; TT: what it makes of the lambda's reading -/
def GivesD (X : Cx) (Ng : List Str) (x : Str) (sg : Scope) (g : Addr) (cdg : Value) (bg : List Stmt) (a : Str) (q : Str) (TT : (XK → Hp → VK → Prop) → Hp → VK → Prop) : Prop :=
  ∀ (f c' : Addr) (s : Shared) (H : Hp) (Q : VK) (tl : XK → Hp → VK → Prop), Room 1 (X.A.deeper (envOfC x sg s.heap.objs.size g cdg)) →
    (∀ (W : WX) (pn : List (Addr × Obj)) (xe : Value → Shared → Prop) (E : XK) (p1 p2 : Pos), Takes ((cxOf C8.CX0 X.prog X.w X.K X.mg X.base Ng x sg g cdg X.A X.stack s H C8.E0).tr pn xe) W →
      PE ((cxOf C8.CX0 X.prog X.w X.K X.mg X.base Ng x sg g cdg X.A X.stack s H C8.E0).tr pn xe) (.Call (.Name a p1) [] [] p2) (fun σZ HZ Q => (∀ cls d H', E cls d H' → W cls d σZ H') ∧ σZ[0]? = some (some (.ref f)) ∧ HZ c' = some (CodeO c' q) ∧ tl E HZ Q)) →
    H c' = some (CodeO c' q) → TT tl H Q →
    ∃ t, PSs (cxOf C8.CX0 X.prog X.w X.K X.mg X.base Ng x sg g cdg X.A X.stack s H C8.E0).nox bg t ∧ t { nx := fun _ H' => Q .non H', rt := Q } (L2.start Ng [.ref f]) H
def tLamD (T : List (Addr × Str)) (P : Addr) (TT : (XK → Hp → VK → Prop) → Hp → VK → Prop) (t : XK → TE) : TE := fun σ H Q => Tabs T H ∧ ∀ H1, (∀ b o, b ≠ P → H b = some o → H1 b = some o) → Tabs T H1 → TT (fun E H' Q' => t E σ H' Q') H1 Q
/-- x(lambda: body) -/
theorem pe_lamD {T : List (Addr × Str)} {TT : (XK → Hp → VK → Prop) → Hp → VK → Prop} {x a : Str} {g c P : Addr} {k : Nat} {pg : Arguments} {bg : List Stmt} {sg : Scope} {dV kV doc pm cdv ct oc : Value} {an od : Option Addr} {osl : Array (Option Value)} {Ng : List Str}
    {params : Arguments} {body : Expr} {scope : Scope} {t : XK → TE} {p lpos pos : Pos} (hg : Gl X x) (hm : X.mg x = some (.ref g)) (hk : PySem.W.keepIn X.K (.ref g) = true)
    (lk : X.K.lookup g = some ⟨oc, od, .func (PySem.W.fnOf x x pg bg sg dV kV doc pm an cdv ct), osl⟩) (hcg : PySem.W.codeIn X.K cdv x = true) (hb : L2.Binds X.K (PySem.W.fnOf x x pg bg sg dV kV doc pm an cdv ct) [a] []) (Sg : FnScope Ng [a] sg) (hNg : Ng[0]? = some a) (hva : Vis sg a)
    (hG : GivesD X Ng x sg g cdv bg a (X.env.qual ++ "<lambda>") TT)
    (TB : TabB X.base X.mg c P) (hcode : X.env.code = .ref c) (hmT : (P, X.env.qual ++ "<lambda>") ∈ T) (hu : ∀ p ∈ T, p.1 = P → p.2 = X.env.qual ++ "<lambda>") (hr : Room (k + 2) X.A) (L : LamD X.N X.env.scope scope) (LP : LamP params scope)
    (hbody : ∀ (A : Around) (outer : List Env) (s : Shared) (H : Hp) (E : XK) (f c' : Addr), Room k (A.deeper (lamEnv X scope s.heap.objs.size f c')) → PE (lamCx X A outer s H E scope f c') body (t E))
    (hdb : (x == ("__debug__" : Str)) = false := by decide) (hd : (a == ("__debug__" : Str)) = false := by decide) (hcd : (a == ("__classdict__" : Str)) = false := by decide) :
    PE X (.Call (.Name x p) [.Lambda params body scope lpos] [] pos) (tLamD T P TT t) := by
  refine ⟨fun pins s σ H Q I h => ?_⟩
  obtain ⟨hT, h⟩ := h
  refine wpAny_Call_Name_kw (ld_glob I hg hm ?_ hdb)
  refine PySem.W.callWith_K (h₀ := X.base) I.ok.mod.kin hk ?_ (by rfl) (by rfl)
  show wpAny _ _ (spliced ((false, eval (.Lambda params body scope lpos) X.env) :: backTo pos (starEach [] X.env))) _ _ s
  refine Calls.spliced_cons (lam_mk LP I TB hcode hmT hu hT (L.has I.ok) fun f c' pm' ctv dV' doc' binds H1 s' I1 eN T1 hf hfn hfr hco hbd hbl => ?_)
  refine Calls.spliced_nil ⟨I1.kIn, ?_⟩
  have rc : codeAny (model X.prog X.w) X.A (.call (.ref g) ⟨[.ref f], []⟩) (CR C8.CX0 X.stack X.prog X.w H1 s' Q C8.E0) s' := by
    refine run_ofS (N := Ng) (ps := [a]) (us := [.ref f]) (vs := [.ref f]) lk hcg Sg hr I1.env0 (hb s' [.ref f] I1.kIn rfl) (.cons rfl .nil) rfl fun hr' => ?_
    obtain ⟨t', ht', hq'⟩ := hG f c' s' H1 Q (fun E H' Q' => t E σ H' Q') (hr'.mono (by omega)) (fun W pn xe E p1 p2 tk => act_ok (i := 0) I1 L hf hfn hfr hbd hbl tk hr' (fun A outer s H hr2 => hbody A outer s H E f c' hr2) hNg hva hd hcd) hco (h H1 eN T1)
    exact ⟨t', ht'.nox, hq'⟩
  refine wpAny_call (codeAny_mono rc fun r s2 hq => ?_)
  cases r with
  | error e => exact (show False from hq).elim
  | ok fl =>
    cases fl with
    | ret u => exact I1.after hq
    | next => exact False.elim hq
    | brk => exact False.elim hq
    | cont => exact False.elim hq
end
end Dl
/-! what a call of a lambda gives or raises, heard by a def -/
namespace Dl
open PySem PySem.Spec PyProof.Rows L2 Dh LamX
variable [LawT] [LawS]
def frz1 (k : Nat) (E : List Sl) : List Sl := match E[k]? with
  | none => E
  | some .un => E
  | some s => E.set k (.im s.frz)
def frzE : List Nat → List Sl → List Sl
  | [], E => E
  | k :: ks, E => frzE ks (frz1 k E)
/-- what a lambda sees: the captured slots -/
def capS (b : Bool) : Sl → Sl
  | .im d => if b then .im d else .un
  | _ => .un
def capE (ks : List Nat) (E : List Sl) : List Sl := E.mapIdx fun i s => capS (ks.contains i) s
def lamF (g : M Sl) (E : List Sl) (ps : Pn) : FOut := match g E ps with
  | .ok r _ ps' => .ok r ps'
  | .err x ps' => .err x ps'
  | .bad => .bad
def heardM (ks : List Nat) (g : M Sl) (hf : FOut → FOut) : M Sl := fun E ps => match hf (lamF g (capE ks (frzE ks E)) ps) with
  | .ok r ps' => if (match r with | .un => true | _ => false) then .bad else .ok r (frzE ks E) ps'
  | _ => .bad
/-- the def that hears: b is what stands behind its try -/
def heardF (n iF iC : Nat) (b : M Fl) : FOut → FOut
  | .ok r ps => calmF (outF (b (((List.replicate n .un).set iF r).set iC (.im .non)) ps))
  | .err x ps => if isExc x.C then calmF (outF (b (((List.replicate n .un).set iF (.im .non)).set iC (.im (.exc x.C x.fs))) ps)) else .bad
  | .bad => .bad
section
variable {c : Ctx} {S S' H H' : Hp} {σ : L2.St} {E : List Sl} {ps ps' : Pn}
theorem Stt.frz1 (k : Nat) (t : Stt c S H σ E ps) : ∃ S', Same S S' ∧ Stt c S' H σ (frz1 k E) ps := by
  unfold Dl.frz1
  cases e : E[k]? with
  | none => exact ⟨S, Same.refl _, t⟩
  | some s =>
    cases s with
    | un => exact ⟨S, Same.refl _, t⟩
    | _ =>
      obtain ⟨v, S', _, sm, t', _⟩ := t.frzSlot e (fun z => by cases z)
      exact ⟨S', sm, t'⟩
theorem Stt.frzE : ∀ (ks : List Nat) {S : Hp} {E : List Sl}, Stt c S H σ E ps → ∃ S', Same S S' ∧ Stt c S' H σ (Dl.frzE ks E) ps
  | [], S, _, t => ⟨S, Same.refl _, t⟩
  | k :: ks, S, E, t => by
    obtain ⟨S1, s1, t1⟩ := t.frz1 k
    obtain ⟨S2, s2, t2⟩ := Stt.frzE ks t1
    exact ⟨S2, s1.trans s2, t2⟩
theorem Stt.cap (ks : List Nat) (t : Stt c S H σ E ps) : Stt (c.at S H) S H σ (capE ks E) ps := by
  have im : ∀ {i : Nat} {s : Sl}, (capE ks E)[i]? = some s → s ≠ .un → ∃ d, s = .im d ∧ E[i]? = some (.im d) := fun {i s} e n => by
    unfold capE at e
    rw [List.getElem?_mapIdx] at e
    cases z : E[i]? with
    | none => rw [z] at e; cases e
    | some u =>
      rw [z] at e
      have e : capS (ks.contains i) u = s := Option.some.inj e
      cases u with
      | im d =>
        have e : (if ks.contains i then Sl.im d else .un) = s := e
        split at e
        · exact ⟨d, e.symm, rfl⟩
        · exact absurd e.symm n
      | _ => exact absurd e.symm n
  refine ⟨t.bs.start, by unfold capE; rw [List.length_mapIdx]; exact t.len, fun i s e n => ?_, fun i j s u v e1 e2 o1 o2 _ _ => ?_⟩
  · obtain ⟨d, rfl, e1⟩ := im e n
    obtain ⟨v, e2, ok⟩ := t.slots i _ e1 (fun z => by cases z)
    exact ⟨v, e2, ok⟩
  · obtain ⟨d, rfl, _⟩ := im e1 (fun z => by subst z; cases o1)
    cases o1
/-- a lambda's table has grown -/
theorem Stt.tabs {P : Addr} {H1 : Hp} (t : Stt c S H σ E ps) (hP : ∃ q ∈ LawT.T, q.1 = P) (e : ∀ b o, b ≠ P → H b = some o → H1 b = some o) (T1 : Tabs LawT.T H1) : Stt c S H1 σ E ps := by
  obtain ⟨q, hq, rfl⟩ := hP
  obtain ⟨tp, ht, _⟩ := t.bs.tabs q hq
  have sP := t.bs.tn q hq
  have e' : ∀ {b : Addr} {o : HO}, H b = some o → (∀ t, o ≠ .tbl t) → H1 b = some o := fun {b o} h n => e b o (ne_pln ht h (fun z => n tp z.symm)) h
  obtain ⟨h1, l, h2, h3⟩ := t.bs.pen
  refine ⟨⟨fun x u z => ?_, t.bs.s0, fun x u n nt z => e' (t.bs.keep x u n nt z) nt, fun x n => ?_, T1, t.bs.tn, t.bs.fresh, t.bs.hp, h1, l, e' h2 pln_lst.1, h3⟩, t.len, fun i s z n => ?_, t.dist⟩
  · exact e x u (fun y => by rw [y, sP] at z; cases z) (t.bs.sub x u z)
  · have z := t.bs.dom x n
    by_cases y : x = q.1
    · subst y
      obtain ⟨tp1, ht1, _⟩ := T1 q hq
      rw [ht1]; intro w; cases w
    · cases w : H x with
      | none => exact absurd w z
      | some o => rw [e x o y w]; intro w2; cases w2
  · obtain ⟨v, e1, ok⟩ := t.slots i s z n
    refine ⟨v, e1, ?_⟩
    cases s with
    | un => trivial
    | im d => exact ok
    | ol ds =>
      obtain ⟨a, xs, g1, g2, g3, g4, g5⟩ := ok
      exact ⟨a, xs, g1, g2, g3, e' g4 pln_lst.1, g5⟩
    | od ds =>
      obtain ⟨a, xs, g1, g2, g3, g4, g5⟩ := ok
      exact ⟨a, xs, g1, g2, g3, e' g4 (pln_dic g5).1, g5⟩
    | oi C fs =>
      obtain ⟨a, dx, xs, g1, g2, g3, g4, g5, g6, g7, g8⟩ := ok
      exact ⟨a, dx, xs, g1, g2, g3, e' g4 pln_ins.1, g5, g6, e' g7 (fun _ y => by cases y), g8⟩
end
/-- what a def that hears makes of a lambda -/
def THeard (K : PySem.W.Frag) (hf : FOut → FOut) : (XK → Hp → VK → Prop) → Hp → VK → Prop := fun tl H Q => ∃ (c : Ctx) (S : Hp) (ps : Pn), c.K = K ∧ Bs (c.at S H) S H ps ∧ ∀ (S2 H2 : Hp) (Ech : XK) (Qch : VK), Same S S2 → Bs (c.at S H) S2 H2 ps →
  (∀ (cls : Value) (d : Option Addr) (H3 : Hp) (x : Xn) (ps3 : Pn) (S3 : Hp), Bs (c.at S2 H2) S3 H3 ps3 → RepX c.K c.p S3 H3 cls d x → FPost W0 (c.at S H) Q (hf (.err x ps3)) → Ech cls d H3) →
  (∀ (v : V) (H3 : Hp) (r : Sl) (ps3 : Pn) (S3 : Hp), r ≠ .un → Bs (c.at S2 H2) S3 H3 ps3 → SlOk (c.at S2 H2) S3 H3 v r → FPost W0 (c.at S H) Q (hf (.ok r ps3)) → Qch v H3) → tl Ech H2 Qch
section
variable {X : Cx} {W : XK}
theorem de_heard {x a : Str} {g c P : Addr} {k : Nat} {pg : Arguments} {bg : List Stmt} {sg : Scope} {dV kV doc pm cdv ct oc : Value} {an od : Option Addr} {osl : Array (Option Value)} {Ng : List Str}
    {params : Arguments} {body : Expr} {scope : Scope} {p lpos pos : Pos} {gl : M Sl} {hf : FOut → FOut} (ks : List Nat) (hg : Gl X x) (hm : X.mg x = some (.ref g)) (hk : PySem.W.keepIn X.K (.ref g) = true)
    (lk : X.K.lookup g = some ⟨oc, od, .func (PySem.W.fnOf x x pg bg sg dV kV doc pm an cdv ct), osl⟩) (hcg : PySem.W.codeIn X.K cdv x = true) (hb : L2.Binds X.K (PySem.W.fnOf x x pg bg sg dV kV doc pm an cdv ct) [a] []) (Sg : FnScope Ng [a] sg) (hNg : Ng[0]? = some a) (hva : Vis sg a)
    (hG : GivesD X Ng x sg g cdv bg a (X.env.qual ++ "<lambda>") (THeard X.K hf)) (hbad : hf .bad = .bad)
    (TB : TabB X.base X.mg c P) (hcode : X.env.code = .ref c) (hmT : (P, X.env.qual ++ "<lambda>") ∈ LawT.T) (hu : ∀ p ∈ LawT.T, p.1 = P → p.2 = X.env.qual ++ "<lambda>") (hr : Room (k + 2) X.A) (L : LamD X.N X.env.scope scope) (LP : LamP params scope)
    (hbody : ∀ (A : Around) (outer : List Env) (s : Shared) (H : Hp) (E : XK) (f c' : Addr), Room k (A.deeper (lamEnv X scope s.heap.objs.size f c')) → DE (lamCx X A outer s H E scope f c') E body gl)
    (hdb : (x == ("__debug__" : Str)) = false := by decide) (hd : (a == ("__debug__" : Str)) = false := by decide) (hcd : (a == ("__classdict__" : Str)) = false := by decide) :
    DE X W (.Call (.Name x p) [.Lambda params body scope lpos] [] pos) (heardM ks gl hf) := by
  refine pe_imp (pe_lamD (t := fun E => tM X.K E RS gl) hg hm hk lk hcg hb Sg hNg hva hG TB hcode hmT hu hr L LP hbody hdb hd hcd) fun σ H Q q => ?_
  obtain ⟨c, S, E, ps, hk, t, q⟩ := q
  refine ⟨t.bs.tabs, fun H1 eN T1 => ?_⟩
  obtain ⟨S0, sm0, t0⟩ := t.frzE ks
  have t1 := t0.tabs ⟨_, hmT, rfl⟩ eN T1
  refine ⟨c, S0, ps, hk, t1.bs.start, fun S2 H2 Ech Qch sm2 b2 hE hQ => ?_⟩
  have t2 := t1.grow b2
  have fin : ∀ {o : FOut}, lamF gl (capE ks (frzE ks E)) ps = o → FPost W0 (c.at S0 H1) Q (hf o) := fun {o} e => by
    unfold heardM at q
    rw [e] at q
    cases z : hf o with
    | ok r ps2 =>
      rw [z] at q
      intro v S3 H3 n b3 ok
      have q : Post W RS c S σ Q (.ok r (frzE ks E) ps2) := by
        cases r with
        | un => exact absurd rfl n
        | _ => exact q
      exact q v S3 H3 (sm0.trans b3.s0) (t1.grow b3) (ResOk.new t1 b3 n ok)
    | err _ _ => rw [z] at q; exact q.elim
    | bad => rw [z] at q; exact q.elim
  refine ⟨c.at S2 H2, S2, capE ks (frzE ks E), ps, hk, t2.cap ks, ?_⟩
  cases e : gl (capE ks (frzE ks E)) ps with
  | ok r E' ps' =>
    have e2 : lamF gl (capE ks (frzE ks E)) ps = .ok r ps' := by unfold lamF; rw [e]
    exact fun v S3 H3 sm3 t3 rr => hQ v H3 r ps' S3 rr.1 t3.bs rr.2.1 (fin e2)
  | err y ps' =>
    have e2 : lamF gl (capE ks (frzE ks E)) ps = .err y ps' := by unfold lamF; rw [e]
    exact fun cls d S3 H3 b3 rx => hE cls d H3 y ps' S3 b3 rx (fin e2)
  | bad =>
    have e2 : lamF gl (capE ks (frzE ks E)) ps = .bad := by unfold lamF; rw [e]
    have z := fin e2
    rw [hbad] at z
    exact z.elim
theorem two_slots {c : Ctx} {S H : Hp} {σ : L2.St} {ps : Pn} {n iF iC : Nat} {r : Sl} {d : D} {v w : V} (b : Bs c S H ps) (hl : σ.length = n) (ne : iF ≠ iC) (hv : σ[iF]? = some (some v)) (hw : σ[iC]? = some (some w)) (okv : SlOk c S H v r) (okw : Rep c.K c.p S d w) :
    Stt c S H σ (((List.replicate n .un).set iF r).set iC (.im d)) ps := by
  have key : ∀ {i : Nat} {s : Sl}, (((List.replicate n Sl.un).set iF r).set iC (.im d))[i]? = some s → s ≠ .un → (i = iC ∧ s = .im d) ∨ (i = iF ∧ s = r) := fun {i s} e nu => by
    rcases set_get e with ⟨z, q, _⟩ | ⟨z, e'⟩
    · exact .inl ⟨z, q⟩
    · rcases set_get e' with ⟨z2, q, _⟩ | ⟨z2, e2⟩
      · exact .inr ⟨z2, q⟩
      · exact absurd (List.eq_of_mem_replicate (List.mem_of_getElem? e2)) nu
  refine ⟨b, by rw [List.length_set, List.length_set, List.length_replicate, hl], fun i s e nu => ?_, fun i j s t u e1 e2 o1 o2 _ _ => ?_⟩
  · rcases key e nu with ⟨rfl, rfl⟩ | ⟨rfl, rfl⟩
    · exact ⟨w, hw, okw⟩
    · exact ⟨v, hv, okv⟩
  · rcases key e1 (fun z => by subst z; cases o1) with ⟨rfl, rfl⟩ | ⟨rfl, rfl⟩
    · cases o1
    · rcases key e2 (fun z => by subst z; cases o2) with ⟨rfl, rfl⟩ | ⟨rfl, _⟩
      · cases o2
      · rfl
theorem heard_gives {Ng : List Str} {x q : Str} {sg : Scope} {g : Addr} {cdg : Value} {iF iC iE k1 k2 j1 j2 : Nat} {rest : List Stmt} {b : M Fl} {q1 q2 q3 q4 q5 q6 q7 r1 r2 r3 r4 r5 r6 r7 r8 r9 r10 : Pos}
    (hnd : Ng.Nodup) (hA : Ng[0]? = some ("ask" : Str)) (hF : Ng[iF]? = some ("found" : Str)) (hC : Ng[iC]? = some ("caught" : Str)) (hE : Ng[iE]? = some ("error" : Str)) (lA : sg.names.lookup ("ask" : Str) = some .local) (lF : sg.names.lookup ("found" : Str) = some .local) (lC : sg.names.lookup ("caught" : Str) = some .local) (lE : sg.names.lookup ("error" : Str) = some .local)
    (lT : sg.names.lookup ("TowerError" : Str) = some .globalImplicit) (mT : X.mg "TowerError" = some (.ref (LawT.C "TowerError"))) (hex : ∀ n, isExc n = true → PySem.W.exmOne X.K (.ref (LawT.C n)) (.ref (LawT.C "TowerError")) = some true)
    (hs0 : ∀ env, swapsWithSole [.Tuple [.Name "found" q1, .Name "caught" q2] k1 q3] (.Tuple [.Constant .none j1 q4, .Constant .none j2 q5] k2 q6) q7.line env = pure false)
    (hw0 : ∀ n : Addr, swappedStores [.Tuple [.Name "found" q1, .Name "caught" q2] k1 q3] (.Tuple [.Constant .none j1 q4, .Constant .none j2 q5] k2 q6) (envOfC x sg n g cdg) = pure none)
    (hs1 : ∀ env, swapsWith (.Call (.Name "ask" r2) [] [] r3) (some (.Name "found" r1)) r4.line env = pure false) (hs2 : ∀ env, swapsWith (.Name "error" r7) (some (.Name "caught" r6)) r8.line env = pure false)
    (hrest : ∀ (s : Shared) (H : Hp), Room 1 (X.A.deeper (envOfC x sg s.heap.objs.size g cdg)) → DSs (cxOf C8.CX0 X.prog X.w X.K X.mg X.base Ng x sg g cdg X.A X.stack s H C8.E0).nox W0 rest b) :
    GivesD X Ng x sg g cdg (.Assign [.Tuple [.Name "found" q1, .Name "caught" q2] k1 q3] (.Tuple [.Constant .none j1 q4, .Constant .none j2 q5] k2 q6) q7 ::
      .Try [.Assign [.Name "found" r1] (.Call (.Name "ask" r2) [] [] r3) r4] [.ExceptHandler (some (.Name "TowerError" r5)) (some "error") [.Assign [.Name "caught" r6] (.Name "error" r7) r8] r9] [] [] r10 :: rest) "ask" q (THeard X.K (heardF Ng.length iF iC b)) := by
  intro f c' s H Q tl hrm act hc h
  obtain ⟨c, S, ps, hk, b0, h⟩ := h
  have nFC : iF ≠ iC := fun z => by rw [z, hC] at hF; cases hF
  have nFE : iF ≠ iE := fun z => by rw [z, hE] at hF; cases hF
  have nCE : iC ≠ iE := fun z => by rw [z, hE] at hC; cases hC
  have n0F : (0 : Nat) ≠ iF := fun z => by rw [← z, hA] at hF; cases hF
  have n0C : (0 : Nat) ≠ iC := fun z => by rw [← z, hA] at hC; cases hC
  have lt : ∀ {i : Nat} {y : Str}, Ng[i]? = some y → i < Ng.length := fun {i y} e => (List.getElem?_eq_some_iff.mp e).1
  have lst : (L2.start Ng [V.ref f]).length = Ng.length := by
    unfold L2.start
    simp only [List.length_append, List.length_map, List.length_replicate, List.length_cons, List.length_nil]
    have := lt hA
    omega
  have hgl : Gl (cxOf C8.CX0 X.prog X.w X.K X.mg X.base Ng x sg g cdg X.A X.stack s H C8.E0).nox "TowerError" := lT
  refine ⟨_, pss_cons (ps_asg (X := (cxOf C8.CX0 X.prog X.w X.K X.mg X.base Ng x sg g cdg X.A X.stack s H C8.E0).nox) (pe_tup (pa_cons pe_non (pa_cons pe_non pa_nil))) (pg_tup rfl (pgs_cons (pg_name (i := iF) hnd hF (.inl lF)) (pgs_cons (pg_name (i := iC) hnd hC (.inl lC)) pgs_nil))) (hs0 _) (hw0 _))
    (pss_cons (ps_try_held (X := (cxOf C8.CX0 X.prog X.w X.K X.mg X.base Ng x sg g cdg X.A X.stack s H C8.E0).nox) (c := .ref (LawT.C "TowerError"))
      (tb := fun W D σ H => ∃ Ech : XK, (∀ cls d H', Ech cls d H' → W cls d σ H') ∧ σ[0]? = some (some (.ref f)) ∧ H c' = some (CodeO c' q) ∧ tl Ech H (fun v H' => D.nx (σ.set iF (some v)) H'))
      rfl rfl rfl hnd hE lE ⟨hgl, by decide, .inl mT⟩ (fun W pn xe tk _ => ?_) (fun a oe cls d pn _ _ => pss_one (ps_set (i := iC) hnd hC (.inl lC) (pe_var (i := iE) hE (.inl lE)) (hs2 _)))) (hrest s H hrm)), ?_⟩
  · refine ⟨fun pins s' σ H' D I h' => ?_⟩
    obtain ⟨Ech, hW, h1, h2, h3⟩ := h'
    have hp := act W pn xe Ech r2 r3 tk
    have hq := pss_one (ps_set (i := iF) hnd hF (.inl lF) hp (hs1 _))
    exact hq.run pins s' σ H' D I ⟨hW, h1, h2, h3⟩
  · refine ⟨by rw [sizeLine_eq]; decide, fun t nt => ⟨t, _, rfl, .inl (.inl upd_same), rfl, _, _, rfl, _, _, rfl, rfl, ?_⟩⟩
    have g2 := b0.newF (o := .tup [.non, .non]) nt
    have b2 := Bs.trans (c := c.at S H) b0 g2
    have hc2 : upd H t (.tup [.non, .non]) c' = some (CodeO c' q) := by rw [upd_ne (ne_of_none hc nt)]; exact hc
    have s0 : (((L2.start Ng [V.ref f]).set iF (some .non)).set iC (some .non)).length = Ng.length := by rw [List.length_set, List.length_set, lst]
    refine ⟨fun cls d H3 => wHeld X.K (.ref (LawT.C "TowerError")) iE (fun a cls d D σ H => tAsg (tVar iE) (gName iC) D σ H) _ cls d (((L2.start Ng [V.ref f]).set iF (some .non)).set iC (some .non)) H3, fun cls d H' z => z, ?_, hc2, h _ _ _ _ (upd_fresh (b0.s_none nt)) b2 (fun cls d H3 y ps3 S3 b3 rx fp => ?_) (fun v H3 r ps3 S3 nr b3 ok fp => ?_)⟩
    · rw [List.getElem?_set_ne (Ne.symm n0C), List.getElem?_set_ne (Ne.symm n0F)]
      rfl
    · have fp : FPost W0 (c.at S H) Q (if isExc y.C = true then calmF (outF (b (((List.replicate Ng.length .un).set iF (.im .non)).set iC (.im (.exc y.C y.fs))) ps3)) else .bad) := fp
      have hx : isExc y.C = true := by
        cases z : isExc y.C with
        | true => rfl
        | false => rw [z] at fp; exact fp.elim
      obtain ⟨rfl, dd, xs, rfl, hd, rf⟩ := rx
      refine ⟨hex y.C hx, fun a na => ?_⟩
      have l1 : iE < ((((L2.start Ng [V.ref f]).set iF (some .non)).set iC (some V.non)).set iE (some (.ref a))).length := by rw [List.length_set, s0]; exact lt hE
      refine ⟨.ref a, List.getElem?_set_self (by rw [s0]; exact lt hE), na, ?_⟩
      have b4 := Bs.trans (c := c.at S H) b2 b3
      have b5 := Bs.trans (c := c.at S H) b4 (b4.newF (o := ExA (.ref (LawT.C y.C)) (some dd) a) na)
      have sm5 : Same S3 (upd S3 a (ExA (.ref (LawT.C y.C)) (some dd) a)) := upd_fresh (b4.s_none na)
      have fp : FPost W0 (c.at S H) Q (calmF (outF (b (((List.replicate Ng.length .un).set iF (.im .non)).set iC (.im (.exc y.C y.fs))) ps3))) := by
        rw [hx] at fp
        exact fp
      refine ⟨c.at S H, _, _, ps3, hk, two_slots (r := .im .non) (d := .exc y.C y.fs) (v := .non) (w := .ref a) b5 (by rw [List.length_set, List.length_set, List.length_set, s0]) nFC ?_ ?_ rfl ⟨a, dd, xs, rfl, upd_same, sm5 _ _ hd, RepFs.mono sm5 _ rf⟩, FPost.of (σ := L2.start Ng [V.ref f]) (FPost.calm (E' := W0) fp)⟩
      · rw [List.getElem?_set_ne (Ne.symm nFE), List.getElem?_set_ne (Ne.symm nFC), List.getElem?_set_ne (Ne.symm nFE), List.getElem?_set_ne (Ne.symm nFC), List.getElem?_set_self (by rw [lst]; exact lt hF)]
      · rw [List.getElem?_set_ne (Ne.symm nCE), List.getElem?_set_self (by rw [List.length_set, s0]; exact lt hC)]
    · have b4 := Bs.trans (c := c.at S H) b2 b3
      have ok' : SlOk (c.at S H) S3 H3 v r := SlOk.at b2 b3 ok
      refine ⟨c.at S H, _, _, ps3, hk, two_slots (r := r) (d := .non) (v := v) (w := .non) b4 (by rw [List.length_set, s0]) nFC ?_ ?_ ok' rfl, FPost.of (σ := L2.start Ng [V.ref f]) (FPost.calm (E' := W0) fp)⟩
      · rw [List.getElem?_set_self (by rw [s0]; exact lt hF)]
      · rw [List.getElem?_set_ne nFC, List.getElem?_set_self (by rw [List.length_set, lst]; exact lt hC)]
end
end Dl
/-! the end of a law whose lambdas write into tables -/
namespace Dl
open PySem PySem.Spec PyProof.Rows L2 Dh LamX

/-- what is tracked where the law's def is called: the tables, and perhaps the script -/
theorem callGT {P : Program} {w : World} {K : PySem.W.Frag} {mg mb : Str → Option Value} {CX : CXT} {k : Nat} {fa a : Addr} {cs : List (Addr × Addr)} {fd : FuncData} {x : Str} {sp : Sp} {s1 : Shared} {vs : List Value} {ns : List Int}
    (KX : K.In s1.heap) (hns : s1.heap.Ns mainGlobals mg) (hb : s1.heap.Ns builtinsNs mb) (hbb : ∀ x : Str, x ≠ "__name__" → mb x = bootBuiltins x) (hlim : s1.heap.NoLimit) (hg : s1.gens = #[])
    (hT : ∀ p ∈ cs, s1.heap.get? p.2 = some (PySem.W.tabObj #[])) (nT : ∀ p ∈ cs, K.lookup p.2 = none) (C : ∀ p ∈ cs, PySem.W.CodeHd s1.heap p.1 p.2)
    (hbm : ∃ (bm : Addr) (ob : Obj), mg "__builtins__" = some (.ref bm) ∧ bm ≠ builtinsNs ∧ s1.heap.get? bm = some ob ∧ ob.cls = .type "module" ∧ ob.dict = some builtinsNs ∧ ob.data = .plain)
    (ha : s1.heap.get? a = some { cls := .type "list", data := .seq vs.toArray }) (hi : IntsAre vs ns) (hl : ns.length ≤ sizeLine) (hr : Room k callerA)
    (F : ∀ base : Heap, K.In base → base.Ns mainGlobals mg → (∀ p ∈ cs, TabB base mg p.1 p.2) → FnG P w K mg base CX k fa fd [x] sp) (hbind : ∀ (s : Shared) (u : Value), BindsTo s fd ⟨[u], []⟩ [(x, u)])
    (hsp : ∀ H : Hp, (∀ p ∈ cs, H p.2 = some (.tbl #[])) → SqL K H a (ns.map V.int) → sp [.ref a] H (fun v _ => v = .bl true) fun _ _ _ => False) (hCX : ∀ H e s', CX [] H s1 (fun _ _ _ => False) e s' → False) :
    codeAny (model P w) callerA (.call (.ref fa) ⟨[.ref a], []⟩) (fun r s' => r = .ok (.ret (.bool true)) ∧ OldK s1.heap s'.heap ∧ s'.os = s1.os ∧ AllBare s'.gens) s1 := by
  have rv := vals_ints hi
  have tabAt : ∀ {b : Addr}, (∃ p ∈ cs, p.2 = b) → s1.heap.get? b = some (PySem.W.tabObj #[]) := fun {b} ⟨p, hp, e⟩ => e ▸ hT p hp
  have aT : ¬ ∃ p ∈ cs, p.2 = a := fun z => by
    have q := tabAt z
    rw [ha] at q
    have z' : Data.seq vs.toArray _ = Data.fields #[] := congrArg Obj.data (Option.some.inj q)
    cases z'
  have core : ∀ H : Hp, (∀ p ∈ cs, H p.2 = some (.tbl #[])) → (∀ b, H b ≠ none → (∃ p ∈ cs, p.2 = b) ∨ (b = a ∧ ∃ o xs, H b = some (.frz o (.lst xs)))) → SqL K H a (ns.map V.int) → HOk P w H s1.heap → (H a ≠ none → K.lookup a = none) →
      codeAny (model P w) callerA (.call (.ref fa) ⟨[.ref a], []⟩) (fun r s' => r = .ok (.ret (.bool true)) ∧ OldK s1.heap s'.heap ∧ s'.os = s1.os ∧ AllBare s'.gens) s1 := by
    intro H hH hA hS hok hK
    have bare : ∀ {b : Addr} {o : Obj}, s1.heap.get? b = some o → (∀ vs n, o.data ≠ .seq vs n) → (∀ us, us.size = 0 → o.data ≠ .fields us) → H b = none := fun {b o} e n1 n2 => by
      cases q : H b with
      | none => rfl
      | some u =>
        rcases hA b (by rw [q]; exact fun z => by cases z) with z | ⟨z, _⟩
        · rw [tabAt z] at e
          cases e
          exact absurd rfl (n2 #[] rfl)
        · subst z
          rw [ha] at e
          cases e
          exact absurd rfl (n1 _ _)
    have nodict : ∀ {b : Addr} {o : Obj} {es : Array DictEntry} {ep : Nat}, s1.heap.get? b = some o → o.data = .dict es ep → H b = none := fun {b o es ep} e d =>
      bare e (fun _ _ z => by rw [d] at z; cases z) fun _ _ z => by rw [d] at z; cases z
    have ns : ∀ {b : Addr} {m : Str → Option Value}, s1.heap.Ns b m → (hidT s1.heap H).Ns b m := by
      rintro b m ⟨o, es, ep, e, d, r⟩
      exact ⟨o, es, ep, hidT_get e (nodict e d), d, r⟩
    have kb : K.In (hidT s1.heap H) := by
      intro b o e
      refine hidT_get (KX b o e) ?_
      cases q : H b with
      | none => rfl
      | some u =>
        rcases hA b (by rw [q]; exact fun z => by cases z) with ⟨p, hp, z⟩ | ⟨z, _⟩
        · rw [← z, nT p hp] at e
          cases e
        · subst z
          rw [hK (by rw [q]; exact fun z => by cases z)] at e
          cases e
    have md : Mod K mg (hidT s1.heap H) := ⟨kb, ns hns, ⟨mb, ns hb, hbb⟩, let ⟨mc, h1, h2⟩ := hlim; ⟨mc, ns h1, h2⟩⟩
    have TB : ∀ p ∈ cs, TabB (hidT s1.heap H) mg p.1 p.2 := fun p hp => by
      refine ⟨?_, ?_, fun z => ?_⟩
      · obtain ⟨o, us, file, tf, flags, tg, inF, text, tt, e1, r1, r2, r3, r4, r5, r6, r7, r8, hne⟩ := C p hp
        refine ⟨o, us, file, tf, flags, tg, inF, text, tt, hidT_get e1 (bare e1 (fun _ _ z => by rw [r2] at z; cases z) fun us' h0 z => ?_), r1, r2, r3, r4, r5, r6, r7, r8, hne⟩
        rw [r2] at z
        cases z
        have : us.size = 0 := h0
        rw [Array.size_eq_zero_iff] at this
        subst this
        simp at r3
      · obtain ⟨bm, ob, b1, b2, b3, b4, b5, b6⟩ := hbm
        refine ⟨bm, ob, b1, b2, fun z => ?_, fun z => ?_, hidT_get b3 (bare b3 (fun _ _ z => by rw [b6] at z; cases z) fun _ _ z => by rw [b6] at z; cases z), b4, b5, b6⟩
        · obtain ⟨o, es, ep, e, hd, _⟩ := hns
          rw [z, e] at b3
          cases b3
          rw [hd] at b6
          cases b6
        · rw [z, hT p hp] at b3
          cases b3
          cases b6
      · obtain ⟨o, es, ep, e, hd, _⟩ := hns
        rw [z, hT p hp] at e
        cases e
        cases hd
    have e0 : Env0 P w K mg (hidT s1.heap H) callerA [] s1 H := ⟨rfl, md, fun b o e => of_hidT e, Nat.le_of_eq (hidT_size _ _), trivial, (fun b z => nomatch (show b ∈ ([] : List Addr) from z)), hok, .of_eq hg⟩
    refine codeAny_mono ((F _ kb (ns hns) TB).run callerA [] s1 H ⟨[.ref a], []⟩ [.ref a] [.ref a] _ _ hr rfl e0 (hbind s1 (.ref a)) (.cons rfl .nil) (hsp H hH hS)) fun r s2 h => ?_
    cases r with
    | error e => exact (hCX H e s2 h).elim
    | ok fl =>
      cases fl with
      | next => exact h.elim
      | brk => exact h.elim
      | cont => exact h.elim
      | ret u =>
        obtain ⟨v, H2, os, bareG, un, hok2, r2, q⟩ := h
        have q : v = .bl true := q
        subst q
        obtain rfl : u = Value.bool true := r2
        have key : ∀ b o, (¬ ∃ p ∈ cs, p.2 = b) → s1.heap.get? b = some o → s2.heap.get? b = some o := fun b o nb e => by
          cases q : H b with
          | none => exact un.keep b o e q (fun z => nomatch (show b ∈ ([] : List Addr) from z)) (fun z => nomatch z)
          | some u =>
            rcases hA b (by rw [q]; exact fun z => by cases z) with z | ⟨_, ob, xs, z⟩
            · exact absurd z nb
            · obtain ⟨e1, _⟩ := hok b _ z
              obtain ⟨e2, _⟩ := hok2 b _ (un.frzs b ob _ z)
              rw [e] at e1
              cases e1
              exact e2
        have grown : ∀ {b : Addr}, (∃ p ∈ cs, p.2 = b) → ∃ more : Array Value, s2.heap.get? b = some (PySem.W.tabObj more) := fun {b} ⟨p, hp, z⟩ => by
          obtain ⟨more, y⟩ := un.tbls p.2 #[] (hH p hp)
          exact ⟨_, z ▸ hok2 p.2 _ y⟩
        refine ⟨rfl, ⟨fun b o e => ?_, fun b o e => ?_⟩, os, bareG⟩
        · by_cases hb : ∃ p ∈ cs, p.2 = b
          · obtain ⟨more, hm⟩ := grown hb
            obtain ⟨p, hp, z⟩ := hb
            subst z
            rw [hT p hp] at e
            cases e
            exact .inr (.inl ⟨((C p hp).tab (hT p hp)).isCodeTable, rfl, #[], more, rfl, by rw [Array.empty_append]; exact hm⟩)
          · exact .inl (key b o hb e)
        · by_cases hb : ∃ p ∈ cs, p.2 = b
          · obtain ⟨more, hm⟩ := grown hb
            exact ⟨_, hm⟩
          · exact ⟨o, key b o hb e⟩
  classical
  let tbl : Hp := fun b => if ∃ p ∈ cs, p.2 = b then some (HO.tbl #[]) else none
  have tY : ∀ {b : Addr}, (∃ p ∈ cs, p.2 = b) → tbl b = some (HO.tbl #[]) := fun h => if_pos h
  have tN : ∀ {b : Addr}, (¬ ∃ p ∈ cs, p.2 = b) → tbl b = none := fun h => if_neg h
  cases hk : K.lookup a with
  | some o =>
    have e := KX a o hk
    rw [ha] at e
    cases e
    refine core tbl (fun p hp => tY ⟨p, hp, rfl⟩) (fun b z => ?_) (.inr ⟨_, vs.toArray, _, hk, rfl, rfl, rfl, by rw [List.size_toArray, hi.length]; exact hl, by simpa using rv⟩) (fun b u z => ?_) fun z => absurd (tN aT) z
    · by_cases h : ∃ p ∈ cs, p.2 = b
      · exact .inl h
      · exact absurd (tN h) z
    · by_cases h : ∃ p ∈ cs, p.2 = b
      · have z2 := (tY h).symm.trans z
        cases z2
        exact tabAt h
      · have z2 := (tN h).symm.trans z
        cases z2
  | none =>
    let hp : Hp := fun b => if b = a then some (HO.frz { cls := .type "list", data := .seq vs.toArray } (.lst (ns.map V.int))) else tbl b
    have self : hp a = some (.frz { cls := .type "list", data := .seq vs.toArray } (.lst (ns.map V.int))) := if_pos rfl
    have oth : ∀ {b : Addr}, b ≠ a → hp b = tbl b := fun h => if_neg h
    refine core hp (fun p hp' => (oth fun z => aT ⟨p, hp', z⟩).trans (tY ⟨p, hp', rfl⟩)) (fun b z => ?_) (.inl (.inr ⟨_, self⟩)) (fun b u z => ?_) fun _ => hk
    · by_cases h : b = a
      · subst h; exact .inr ⟨rfl, _, _, self⟩
      · rw [oth h] at z
        by_cases h2 : ∃ p ∈ cs, p.2 = b
        · exact .inl h2
        · exact absurd (tN h2) z
    · by_cases h : b = a
      · subst h
        rw [self] at z
        cases z
        exact ⟨ha, by rw [List.length_map]; exact hl, vs, _, rv, ha⟩
      · rw [oth h] at z
        by_cases h2 : ∃ p ∈ cs, p.2 = b
        · have z2 := (tY h2).symm.trans z
          cases z2
          exact tabAt h2
        · have z2 := (tN h2).symm.trans z
          cases z2
/-- what is known of the law's promise at the head's heap -/
def LawGT (l : PySem.W.OpenLaw) (w : World) (K : PySem.W.Frag) (CX : CXT) (k n : Nat) (x : Str) (mg : Str → Option Value) (fa : Addr) (h : Heap) : Prop :=
  ∃ (fd : FuncData) (cs : List (Addr × Addr)) (sp : Sp), (∀ p ∈ cs, PySem.W.CodeHd h p.1 p.2 ∧ h.get? p.2 = some (PySem.W.tabObj #[])) ∧ (∀ p ∈ cs, K.lookup p.2 = none) ∧ (∀ (s : Shared) (u : Value), BindsTo s fd ⟨[u], []⟩ [(x, u)]) ∧
    (∀ (H : Hp) (a : Addr) (ns : List Int), ns.length ≤ n → (∀ z ∈ ns, Builtin.Int.intBits z ≤ 1048576) → (∀ p ∈ cs, H p.2 = some (.tbl #[])) → SqL K H a (ns.map V.int) → sp [.ref a] H (fun v _ => v = .bl true) fun _ _ _ => False) ∧
    ∀ base : Heap, K.In base → base.Ns mainGlobals mg → (∀ p ∈ cs, TabB base mg p.1 p.2) → FnG l.prog w K mg base CX k fa fd [x] sp
theorem walk_GT {l : PySem.W.OpenLaw} {n k : Nat} {q : Program} {loose : List Str} {XP : (Str → Option Value) → Heap → Prop} {YP : World → Heap → Prop} {d : DefRec} {K : Params → PySem.W.Frag} {CX : World → CXT} {x : Str}
    (hn : l.most = some n) (hn2 : n ≤ sizeLine) (hdf : d.params.defaults = []) (hr : Room k callerA) (hY : ∀ (w : World) (h : Heap), YP w h → (K w.params).In h)
    (F : ∀ (w : World) (mean : ExcName → Option Value) (mg mb : Str → Option Value) (fa : Addr) (h : Heap), (K w.params).In h → Top q (PySem.W.looseW q loose) mean mg mb h → h.Ns mainGlobals mg → mg d.name = some (.ref fa) → LawGT l w (K w.params) (CX w) k n x mg fa h)
    (hCX : ∀ (w : World) (H : Hp) (s : Shared) (e : Value) (s' : Shared), CX w [] H s (fun _ _ _ => False) e s' → False) : PySem.W.WalkO q loose XP YP l.row.toRowW d [] (fun f vs => PySem.call f vs) := by
  refine Att.attach_callB hn hdf fun w s0 s1 mg mb fa o pm cd doc a vs ns G Y ho hd hcd hmg hobj hints hlen hbits hg => ?_
  have KX := hY w _ Y
  obtain ⟨fd, cs, sp, hT, nT, hb, hsp, hF⟩ := F w _ mg mb fa _ KX G.T G.T.g hmg
  exact callGT KX G.T.g G.T.b G.T.builtins G.T.nolimit hg (fun p hp => (hT p hp).2) nT (fun p hp => (hT p hp).1) G.T.bmain hobj hints (Nat.le_trans hlen hn2) hr hF hb (fun H hH hS => hsp H a ns hlen hbits hH hS) fun H e s' => hCX w H s1 e s'
end Dl
/-! what the printed texts use: what raises, what is heard, the classes' facts, the law's def -/
namespace Dl
open PySem PySem.Spec PyProof.Rows L2 Dh LamX
theorem pX {P : Program} {w : World} {K : PySem.W.Frag} {mg : Str → Option Value} {base : Heap} {N : List Str} {q : Str} {sc : Scope} {f : Addr} {cd : Value} {A : Around} {outer : List Env} {s : Shared} {H : Hp} {E : XK} :
    Takes (cxOf (L2.CX P w) P w K mg base N q sc f cd A outer s H E) (fun cls d _ H => E cls d H) := takes_of rfl rfl rfl rfl
theorem pL {X : Cx} {A : Around} {outer : List Env} {s : Shared} {H : Hp} {E : XK} {sc : Scope} {f c' : Addr} : Takes (lamCx X A outer s H E sc f c') (fun cls d _ H => E cls d H) := takes_of rfl rfl rfl rfl
variable [LawT] [LawS]
theorem de_bad {X : Cx} {W : XK} {e : Expr} : DE X W e M.bad := ⟨fun pins s σ H Q I h => by
  obtain ⟨c, S, E, ps, hk, t, q⟩ := h
  exact q.elim⟩
theorem dv_bad {X : Cx} {W : XK} {e : Expr} : DV X W e M.bad := ⟨fun pins s σ H Q I h => by
  obtain ⟨c, S, E, ps, hk, t, q⟩ := h
  exact q.elim⟩
/-- a class's name, as a value -/
theorem dv_cls {X : Cx} {W : XK} {x : Str} {n : String} {pos : Pos} (hm : X.mg x = some (.ref (LawT.C n))) (hg : Gl X x := by rfl) (hd : (x == ("__debug__" : Str)) = false := by decide) : DV X W (.Name x pos) (M.ret (.cls n)) :=
  dv_glob (v := .ref (LawT.C n)) hm rfl (fun _ _ => rfl) hg hd
/-! ### what is heard -/
/-- the def that hears, as its callers know it -/
def HearC (P : Program) (w : World) (K : PySem.W.Frag) (mg : Str → Option Value) (base : Heap) (x : Str) (q : Str) (hf : FOut → FOut) : Prop :=
  ∃ (g : Addr) (pg : Arguments) (bg : List Stmt) (sg : Scope) (dV kV doc pm cdv ct oc : Value) (an od : Option Addr) (osl : Array (Option Value)) (Ng : List Str) (a : Str),
    mg x = some (.ref g) ∧ PySem.W.keepIn K (.ref g) = true ∧ K.lookup g = some ⟨oc, od, .func (PySem.W.fnOf x x pg bg sg dV kV doc pm an cdv ct), osl⟩ ∧ PySem.W.codeIn K cdv x = true ∧ L2.Binds K (PySem.W.fnOf x x pg bg sg dV kV doc pm an cdv ct) [a] [] ∧ FnScope Ng [a] sg ∧ Ng[0]? = some a ∧ Vis sg a ∧
      (a == ("__debug__" : Str)) = false ∧ (a == ("__classdict__" : Str)) = false ∧ ∀ X : Cx, X.prog = P → X.w = w → X.K = K → X.mg = mg → X.base = base → GivesD X Ng x sg g cdv bg a q (THeard K hf)
/-- the table for the lambdas of a def -/
def TabD (base : Heap) (mg : Str → Option Value) (cdv : Value) (q : Str) : Prop := ∃ c P : Addr, cdv = .ref c ∧ TabB base mg c P ∧ (P, q) ∈ LawT.T ∧ ∀ p ∈ LawT.T, p.1 = P → p.2 = q
theorem de_hear {X : Cx} {W : XK} {x : Str} {k : Nat} {params : Arguments} {body : Expr} {scope : Scope} {p lpos pos : Pos} {gl : M Sl} {hf : FOut → FOut} (C : HearC X.prog X.w X.K X.mg X.base x (X.env.qual ++ "<lambda>") hf) (T : TabD X.base X.mg X.env.code (X.env.qual ++ "<lambda>")) (ks : List Nat) (hr : Room (k + 2) X.A) (LP : LamP params scope) (L : LamD X.N X.env.scope scope)
    (hbody : ∀ (A : Around) (outer : List Env) (s : Shared) (H : Hp) (E : XK) (f c' : Addr), Room k (A.deeper (lamEnv X scope s.heap.objs.size f c')) → DE (lamCx X A outer s H E scope f c') E body gl)
    (hbad : hf .bad = .bad := by rfl) (hg : Gl X x := by rfl) (hdb : (x == ("__debug__" : Str)) = false := by decide) : DE X W (.Call (.Name x p) [.Lambda params body scope lpos] [] pos) (heardM ks gl hf) := by
  obtain ⟨g, pg, bg, sg, dV, kV, doc, pm, cdv, ct, oc, an, od, osl, Ng, a, hm, hk, lk, hcg, hb, Sg, hNg, hva, hd, hcd, hG⟩ := C
  obtain ⟨c, P, hcode, TB, hmT, hu⟩ := T
  exact de_heard ks hg hm hk lk hcg hb Sg hNg hva (hG X rfl rfl rfl rfl rfl) hbad TB hcode hmT hu hr L LP hbody hdb hd hcd
/-- the law's def, its code object being known -/
theorem fnG_run {CX : CXT} {P : Program} {w : World} {K : PySem.W.Frag} {mg : Str → Option Value} {base : Heap} {x qual : Str} {st : Stmt} {f c : Addr} {oc kV doc pm ct : Value} {od an : Option Addr} {osl : Array (Option Value)} {N ps : List Str} {k : Nat} {sp : Sp}
    (lk : K.lookup f = some ⟨oc, od, .func (PySem.W.fnOf x qual (defArgs st) (defBody st) (defScope st) .none kV doc pm an (.ref c) ct), osl⟩) (hcd : PySem.W.codeIn K (.ref c) qual = true) (S : FnScope N ps (defScope st)) (len : ∀ vs H Q E, sp vs H Q E → vs.length = ps.length)
    (hbody : ∀ (A : Around) (outer : List Env) (s : Shared) (H : Hp) (vs : List V) (Q : VK) (E : XK), Room k (A.deeper (envOfC qual (defScope st) s.heap.objs.size f (.ref c))) → A.guards = some [] → sp vs H Q E →
      ∃ t, PSs (cxOf CX P w K mg base N qual (defScope st) f (.ref c) A outer s H E) (defBody st) t ∧ t { nx := fun _ H' => Q .non H', rt := Q } (start N vs) H) :
    FnG P w K mg base CX (k + 1) f (PySem.W.fnOf x qual (defArgs st) (defBody st) (defScope st) .none kV doc pm an (.ref c) ct) ps sp :=
  fnG_of lk hcd S len hbody
/-! ### the facts of the classes, from the written part -/
def clsA (K : PySem.W.Frag) (x : Str) : Addr := match PySem.W.nsIn K mainGlobals x with
  | some (some (.ref a)) => a
  | _ => 0
def isNone2 : Option (Option Value) → Bool
  | some none => true
  | _ => false
def isBlt (b : String) : Option (Option Value) → Bool
  | some (some v) => decide (v = .builtin b)
  | _ => false
omit [LawT] [LawS] in
theorem isNone2_ok {o : Option (Option Value)} (h : isNone2 o = true) : o = some none := by
  cases o with
  | none => cases h
  | some v => cases v with
    | none => rfl
    | some _ => cases h
omit [LawT] [LawS] in
theorem isBlt_ok {b : String} {o : Option (Option Value)} (h : isBlt b o = true) : o = some (some (.builtin b)) := by
  cases o with
  | none => cases h
  | some v => cases v with
    | none => cases h
    | some u =>
      have h : u = .builtin b := of_decide_eq_true h
      rw [h]
def excB (K : PySem.W.Frag) (D : Addr) : Bool :=
  isBlt "BaseException.__getattribute__" (PySem.W.findIn K (.ref D) "__getattribute__") && isNone2 (PySem.W.findIn K (.ref D) "__getattr__") && (PySem.W.subIn K (.ref D) (.type "BaseException") == some true) && PySem.W.hasDictIn K D &&
    isBlt "object.__class__" (PySem.W.findIn K (.ref D) "__class__") && isBlt "getset_descriptor.__get__" (PySem.W.specialIn K (.builtin "object.__class__") "__get__") && (PySem.W.takesIn K (.builtin "object.__class__") == some true) && (PySem.W.mroIn K D (.type "object") == some true)
omit [LawT] [LawS] in
theorem excB_ok {K : PySem.W.Frag} {D : Addr} (h : excB K D = true) : ExcC K D := by
  unfold excB at h
  simp only [Bool.and_eq_true, beq_iff_eq] at h
  obtain ⟨⟨⟨⟨⟨⟨⟨h1, h2⟩, h3⟩, h4⟩, h5⟩, h6⟩, h7⟩, h8⟩ := h
  exact ⟨isBlt_ok h1, isNone2_ok h2, h3, h4, isBlt_ok h5, isBlt_ok h6, h7, h8⟩
def insB (K : PySem.W.Frag) (C : Addr) : Bool :=
  PySem.W.plainGet K C Str.empty && PySem.W.hasDictIn K C && PySem.W.plainOver K C && isBlt "object.__setattr__" (PySem.W.findIn K (.ref C) "__setattr__") && isBlt "object.__class__" (PySem.W.findIn K (.ref C) "__class__") && (PySem.W.mroIn K C (.type "object") == some true)
omit [LawT] [LawS] in
theorem insB_ok {K : PySem.W.Frag} {C : Addr} (h : insB K C = true) : Cls K C ∧ PySem.W.findIn K (.ref C) "__class__" = some (some (.builtin "object.__class__")) ∧ PySem.W.mroIn K C (.type "object") = some true := by
  unfold insB at h
  simp only [Bool.and_eq_true, beq_iff_eq] at h
  obtain ⟨⟨⟨⟨⟨h1, h2⟩, h3⟩, h4⟩, h5⟩, h6⟩ := h
  exact ⟨⟨h1, h2, h3, isBlt_ok h4⟩, isBlt_ok h5, h6⟩
def ownL : List String := LawS.cs.map (·.1) ++ LawS.ex.map (·.1)
def clfB (K : PySem.W.Frag) (C : String → Addr) : Bool :=
  (ownL.all fun n => ownL.all fun m => PySem.W.kitOne K (.ref (C n)) (.ref (C m)) == some (LawS.sub n m)) && (ownL.all fun n => tyNames2.all fun t => PySem.W.kitOne K (.ref (C n)) (.type t) == some (LawS.sub n t)) &&
    (tySets.all fun t => ownL.all fun m => PySem.W.kitOne K (.type t) (.ref (C m)) == some false) && (LawS.cs.all fun p => insB K (C p.1) && p.2.all fun f => isNone2 (PySem.W.findIn K (.ref (C p.1)) (Str.ofString f))) &&
    (LawS.ex.all fun p => excB K (C p.1) && p.2.all fun f => isNone2 (PySem.W.findIn K (.ref (C p.1)) (Str.ofString f))) &&
    isBlt "getset_descriptor.__get__" (PySem.W.specialIn K (.builtin "object.__class__") "__get__") && (PySem.W.takesIn K (.builtin "object.__class__") == some true)
theorem own_mem {n : String} (h : isOwn n = true) : n ∈ ownL := by
  unfold isOwn isIns isExc at h
  unfold ownL
  rw [Bool.or_eq_true, List.any_eq_true, List.any_eq_true] at h
  rcases h with ⟨p, hp, e⟩ | ⟨p, hp, e⟩
  · exact List.mem_append_left _ (List.mem_map.mpr ⟨p, hp, by simpa using e⟩)
  · exact List.mem_append_right _ (List.mem_map.mpr ⟨p, hp, by simpa using e⟩)
theorem clfB_ok {K : PySem.W.Frag} (h : clfB K LawT.C = true) : ClF K := by
  unfold clfB at h
  simp only [Bool.and_eq_true, List.all_eq_true, beq_iff_eq] at h
  obtain ⟨⟨⟨⟨⟨⟨h1, h2⟩, h3⟩, h4⟩, h5⟩, h6⟩, h7⟩ := h
  refine ⟨fun n m a b => h1 n (own_mem a) m (own_mem b), fun n a t ht => h2 n (own_mem a) t ht, fun t ht m b => h3 t ht m (own_mem b), fun n a => ?_, fun n a => ?_, .inr trivial, isBlt_ok h6, h7, fun n f a => ?_, fun n f a => ?_⟩
  · obtain ⟨p, hp, e⟩ := List.any_eq_true.mp a
    have e : p.1 = n := by simpa using e
    subst e
    exact insB_ok (h4 p hp).1
  · obtain ⟨p, hp, e⟩ := List.any_eq_true.mp a
    have e : p.1 = n := by simpa using e
    subst e
    exact excB_ok (h5 p hp).1
  · obtain ⟨p, hp, e⟩ := List.any_eq_true.mp a
    rw [Bool.and_eq_true] at e
    have e1 : p.1 = n := by simpa using e.1
    subst e1
    exact isNone2_ok ((h4 p hp).2 f (by simpa using e.2))
  · obtain ⟨p, hp, e⟩ := List.any_eq_true.mp a
    rw [Bool.and_eq_true] at e
    have e1 : p.1 = n := by simpa using e.1
    subst e1
    exact isNone2_ok ((h5 p hp).2 f (by simpa using e.2))
/-- the class of the exceptions that are heard is above them all -/
def heardB (K : PySem.W.Frag) (C : String → Addr) : Bool := LawS.ex.all fun p => PySem.W.exmOne K (.ref (C p.1)) (.ref (C "TowerError")) == some true
theorem heardB_ok {K : PySem.W.Frag} (h : heardB K LawT.C = true) : ∀ n, isExc n = true → PySem.W.exmOne K (.ref (LawT.C n)) (.ref (LawT.C "TowerError")) = some true := fun n a => by
  unfold heardB at h
  simp only [List.all_eq_true, beq_iff_eq] at h
  obtain ⟨p, hp, e⟩ := List.any_eq_true.mp a
  have e : p.1 = n := by simpa using e
  subst e
  exact h p hp
/-- an exception class that is raised: what is checked of it -/
def supB (P : Program) (K : PySem.W.Frag) (C : Addr) (flds : List Str) : Bool :=
  isBlt "object.__setattr__" (PySem.W.findIn K (.ref C) "__setattr__") && (PySem.W.subIn K (.ref C) (.type "BaseException") == some true) && (PySem.W.typeIn K (.ref C) == some (.type "type")) && PySem.W.keepIn K (.ref C) &&
    !(P.main.scope.names.lookup ("super" : Str)).isSome && (PySem.W.mroIn K C (.ref C) == some true) && isBlt "ValueError.__init__" (PySem.W.ks_superIn K C C "__init__") && (PySem.W.subIn K (.ref C) (.type "ValueError") == some true) && isNone2 (PySem.W.nsIn K PySem.cStatics "thirdparty.any") &&
    flds.all fun f => isNone2 (PySem.W.findIn K (.ref C) f)
omit [LawT] [LawS] in
theorem supB_ok {P : Program} {K : PySem.W.Frag} {C f cc cda : Addr} {fd : FuncData} {first : Str} {flds : List Str} (h : supB P K C flds = true)
    (cls : ∃ nm q N bs bm sn sub ab col dd k0 k1 k2 k3 k5, K.lookup C = some (excClassObj nm q C N bs bm true sn sub ab col dd k0 k1 k2 k3 k5 "ValueError.__new__") ∧ PySem.HandSPX.refsVE bm = true)
    (fn : ∃ oc od osl, K.lookup f = some ⟨oc, od, .func fd, osl⟩) (arg : ∃ ar : Arg, (fd.params.posonlyargs ++ fd.params.args).head? = some ar ∧ ar.arg = first)
    (code : ∃ c1 c2 vs c3 file tf, K.lookup cda = some ⟨c1, c2, .fields vs, c3⟩ ∧ vs[2]? = some (.str file tf) ∧ ((P.main.file : Str) == file) = true) (cell : ∃ c1 c2 c3, K.lookup cc = some ⟨c1, c2, .cell (some (.ref C)), c3⟩) :
    De.SupC P K C f cc cda fd first ∧ ∀ g ∈ flds, PySem.W.findIn K (.ref C) g = some none := by
  unfold supB at h
  simp only [Bool.and_eq_true, beq_iff_eq, List.all_eq_true, Bool.not_eq_true'] at h
  obtain ⟨⟨⟨⟨⟨⟨⟨⟨⟨h1, h2⟩, h3⟩, h4⟩, h5⟩, h6⟩, h7⟩, h8⟩, h9⟩, h10⟩ := h
  exact ⟨⟨⟨cls, isBlt_ok h1, h2, h3, h4⟩, fn, arg, code, cell, h5, h6, isBlt_ok h7, h8, isNone2_ok h9⟩, fun g hg => isNone2_ok (h10 g hg)⟩
end Dl
/-! an exception class that is raised, from what the written part says -/
namespace Dl
open PySem PySem.Spec PyProof.Rows L2 Dh LamX
/-- the classes of the written part, by their names -/
def clsC (K : PySem.W.Frag) (n : String) : Addr := clsA K (Str.ofString n)
theorem clsA_of {K : PySem.W.Frag} {x : Str} {a : Addr} (h : PySem.W.nsIn K mainGlobals x = some (some (.ref a))) : clsA K x = a := by
  unfold clsA; rw [h]
/-- a class's def -/
def clsDef (s : Stmt) (j : Nat) : Stmt := match s with
  | .ClassDef _ _ _ b _ _ _ _ _ _ _ => b.getD j (.Pass ⟨0, 0, 0, 0⟩)
  | _ => .Pass ⟨0, 0, 0, 0⟩
def scXB (ps : List Str) (scope : Scope) : Bool :=
  decide (scope.kind = .function) && !scope.isCoroutine && !scope.isGenerator && (scope.names.all fun y => !decide (y.2 = .cell)) && (scope.names.all fun y => !decide (y.2 = .free) || decide (y.1 = ("__class__" : Str))) &&
    (ps.all fun y => decide (scope.names.lookup y = some .local)) && decide ps.Nodup && decide (scope.names.lookup ("super" : Str) = some .globalImplicit) && decide (scope.names.lookup ("__class__" : Str) = some .free)
theorem scXB_ok {ps : List Str} {scope : Scope} (h : scXB ps scope = true) : De.ScX ps scope := by
  unfold scXB at h
  simp only [Bool.and_eq_true, Bool.or_eq_true, Bool.not_eq_true', decide_eq_true_eq, decide_eq_false_iff_not, List.all_eq_true] at h
  obtain ⟨⟨⟨⟨⟨⟨⟨⟨h1, h2⟩, h3⟩, h4⟩, h5⟩, h6⟩, h7⟩, h8⟩, h9⟩ := h
  refine ⟨h1, h2, h3, h4, fun y hy => ?_, h6, h7, h8, h9⟩
  rcases hy with hy | hy
  · exact absurd rfl (h4 _ (PySem.mem_of_lookup hy))
  · rcases h5 _ (PySem.mem_of_lookup hy) with z | z
    · exact absurd rfl z
    · exact z
def tabP (K : PySem.W.Frag) (x : Str) : Addr := match PySem.W.tabIn K x with
  | some (_, P) => P
  | none => 0
theorem tabs1 {H : Hp} {P : Addr} {q : Str} (h : H P = some (.tbl #[])) : Tabs [(P, q)] H := fun p hp => by
  rw [List.mem_singleton.mp hp]
  exact ⟨#[], h, by first | trivial | (intro i hi; simp at hi) | simp [TriplesOk], fun pos cv e => by cases e⟩
variable [LawT]
section
variable {P : Program} {w : World} {K : PySem.W.Frag} {mg : Str → Option Value} {base : Heap} {n : String} {f cc cda : Addr} {name qual : Str} {params : Arguments} {scope : Scope} {oc dV kV doc pm ct : Value} {od an : Option Addr} {osl : Array (Option Value)} {p0 p1 apos pos epos q1 q2 q3 q4 q5 r1 r2 r3 r4 r5 : Pos} {pl : Env → Sem Bool} {body : List Stmt}
theorem calX1 {fld : String} (hm : mg (Str.ofString n) = some (.ref (LawT.C n))) (hi : PySem.W.findIn K (.ref (LawT.C n)) "__init__" = some (some (.ref f))) (ht : PySem.W.typeIn K (.ref f) = some (.type "function"))
    (hl : K.lookup f = some ⟨oc, od, .func (PySem.W.fnX name qual params body scope [("__class__", cc)] dV kV doc pm an (.ref cda) ct), osl⟩) (hcd : PySem.W.codeIn K (.ref cda) qual = true) (hs : supB P K (LawT.C n) [Str.ofString fld] = true)
    (cls : ∃ nm q N bs bm sn sub ab col dd k0 k1 k2 k3 k5, K.lookup (LawT.C n) = some (excClassObj nm q (LawT.C n) N bs bm true sn sub ab col dd k0 k1 k2 k3 k5 "ValueError.__new__") ∧ PySem.HandSPX.refsVE bm = true)
    (code : ∃ c1 c2 vs c3 file tf, K.lookup cda = some ⟨c1, c2, .fields vs, c3⟩ ∧ vs[2]? = some (.str file tf) ∧ ((P.main.file : Str) == file) = true) (cell : ∃ c1 c2 c3, K.lookup cc = some ⟨c1, c2, .cell (some (.ref (LawT.C n))), c3⟩)
    (hsup : mg "super" = none) (sc : scXB ["self", Str.ofString fld] scope = true) (hb : body = De.body1 p0 p1 apos pos epos q1 q2 q3 q4 q5 (Str.ofString fld)) (arg : ∃ ar : Arg, (params.posonlyargs ++ params.args).head? = some ar ∧ ar.arg = "self")
    (bnd : ∀ us : List Value, us.length = 2 → bindArgs (PySem.W.fnX name qual params body scope [("__class__", cc)] dV kV doc pm an (.ref cda) ct) ⟨us, []⟩ = pure ((["self", Str.ofString fld] : List Str).zip us))
    (he : ∀ env, eval (.Call (.Attribute (.Call (.Name "super" p0) [] [] p1) "__init__" apos) [.Name (Str.ofString fld) q1] [] pos) env = (do
      let ov ← attributeBase (.Call (.Name "super" p0) [] [] p1) "__init__" env (eval (.Call (.Name "super" p0) [] [] p1) env)
      standAt apos.atName
      let (f, first) ← holding [ov] (getMethod ov "__init__" (pl env))
      callWith pos f first (backTo pos (starEach [.Name (Str.ofString fld) q1] env)) []))
    (hdb : (Str.ofString fld == ("__debug__" : Str)) = false) (hcd2 : (Str.ofString fld == ("__classdict__" : Str)) = false) : CalX P w K mg base 1 (Str.ofString n) n [fld] := by
  subst hb
  haveI : LawS := ⟨[], [], fun _ _ => false⟩
  obtain ⟨T, hf⟩ := supB_ok (fd := PySem.W.fnX name qual params (De.body1 p0 p1 apos pos epos q1 q2 q3 q4 q5 (Str.ofString fld)) scope [("__class__", cc)] dV kV doc pm an (.ref cda) ct) (first := "self") hs cls ⟨_, _, _, hl⟩ arg code cell
  exact ⟨f, _, _, T.ox, hi, ht, fnX1 (De.exc_fn1 T hcd (scXB_ok sc) hsup (hf _ (by simp)) hdb hcd2 he), Binds.all bnd, hm⟩
end
end Dl
/-! partings, in plain Lean -/
namespace Cm
section
variable {α : Type} [DecidableEq α]
def memC (k : α) (l : List α) : Bool := l.any fun j => decide (j = k)
theorem memC_iff {k : α} {l : List α} : memC k l = true ↔ k ∈ l := by
  unfold memC
  rw [List.any_eq_true]
  exact ⟨fun ⟨j, hj, e⟩ => of_decide_eq_true e ▸ hj, fun h => ⟨k, h, decide_eq_true rfl⟩⟩
theorem memC_not {k : α} {l : List α} (h : memC k l = false) : k ∉ l := fun q => by rw [memC_iff.mpr q] at h; cases h
theorem memC_no {k : α} {l : List α} (h : k ∉ l) : memC k l = false := by
  cases e : memC k l with
  | false => rfl
  | true => exact absurd (memC_iff.mp e) h
def idxC (k : α) : List α → Nat
  | [] => 0
  | x :: r => if x = k then 0 else idxC k r + 1
def toldC (seen : List α) : List α → List Nat
  | [] => []
  | k :: r => if memC k seen then idxC k seen :: toldC seen r else seen.length :: toldC (seen ++ [k]) r
def addC (acc : List α) (k : α) : List α := if memC k acc then acc else acc ++ [k]
theorem idx_lt {k : α} : ∀ {l : List α}, k ∈ l → idxC k l < l.length
  | x :: r, h => by
    unfold idxC
    by_cases z : x = k
    · rw [if_pos z]; exact Nat.succ_pos _
    · rw [if_neg z]
      rcases List.mem_cons.mp h with q | q
      · exact absurd q.symm z
      · exact Nat.succ_lt_succ (idx_lt q)
theorem idx_get {k : α} : ∀ {l : List α}, k ∈ l → l[idxC k l]? = some k
  | x :: r, h => by
    unfold idxC
    by_cases z : x = k
    · rw [if_pos z, z]; rfl
    · rw [if_neg z]
      rcases List.mem_cons.mp h with q | q
      · exact absurd q.symm z
      · show r[idxC k r]? = some k
        exact idx_get q
theorem idx_app {k : α} : ∀ {s : List α} (t : List α), k ∈ s → idxC k (s ++ t) = idxC k s
  | x :: r, t, h => by
    show (if x = k then 0 else idxC k (r ++ t) + 1) = if x = k then 0 else idxC k r + 1
    by_cases z : x = k
    · rw [if_pos z, if_pos z]
    · rw [if_neg z, if_neg z]
      rcases List.mem_cons.mp h with q | q
      · exact absurd q.symm z
      · rw [idx_app t q]
theorem idx_new {k : α} : ∀ {s : List α}, k ∉ s → idxC k (s ++ [k]) = s.length
  | [], _ => by show (if k = k then 0 else _) = 0; rw [if_pos rfl]
  | x :: r, h => by
    show (if x = k then 0 else idxC k (r ++ [k]) + 1) = r.length + 1
    rw [if_neg (fun z => h (by rw [z]; exact List.mem_cons_self)), idx_new fun q => h (List.mem_cons_of_mem _ q)]
theorem fin_ext : ∀ (l seen : List α), ∃ t, l.foldl addC seen = seen ++ t
  | [], seen => ⟨[], (List.append_nil _).symm⟩
  | k :: r, seen => by
    obtain ⟨t, e⟩ := fin_ext r (addC seen k)
    rw [List.foldl_cons, e]
    unfold addC
    cases memC k seen with
    | true => exact ⟨t, rfl⟩
    | false => exact ⟨[k] ++ t, by simp⟩
theorem fin_mem : ∀ (l seen : List α), (∀ k ∈ l, k ∈ l.foldl addC seen)
  | k :: r, seen, j, h => by
    rw [List.foldl_cons]
    rcases List.mem_cons.mp h with q | q
    · obtain ⟨t, e⟩ := fin_ext r (addC seen k)
      rw [e, q]
      refine List.mem_append_left _ ?_
      unfold addC
      cases z : memC k seen with
      | true => exact memC_iff.mp z
      | false => simp
    · exact fin_mem r _ j q
theorem told_eq : ∀ (l seen : List α), toldC seen l = l.map fun k => idxC k (l.foldl addC seen)
  | [], _ => rfl
  | k :: r, seen => by
    unfold toldC
    rw [List.map_cons, List.foldl_cons]
    cases z : memC k seen with
    | true =>
      have e : addC seen k = seen := by unfold addC; rw [z]; rfl
      rw [if_pos rfl, e, told_eq r seen]
      obtain ⟨t, et⟩ := fin_ext r seen
      congr 1
      rw [et, idx_app t (memC_iff.mp z)]
    | false =>
      have e : addC seen k = seen ++ [k] := by unfold addC; rw [z]; rfl
      rw [if_neg Bool.false_ne_true, e, told_eq r (seen ++ [k])]
      obtain ⟨t, et⟩ := fin_ext r (seen ++ [k])
      congr 1
      rw [et, idx_app t (by simp), idx_new (memC_not z)]
theorem told_len (l seen : List α) : (toldC seen l).length = l.length := by rw [told_eq, List.length_map]
/-- told things are together just if their labels are equal -/
theorem told_ker {l : List α} {i j : Nat} {x y : α} (hi : l[i]? = some x) (hj : l[j]? = some y) : (toldC [] l)[i]? = (toldC [] l)[j]? ↔ x = y := by
  rw [told_eq, List.getElem?_map, List.getElem?_map, hi, hj, Option.map_some, Option.map_some]
  constructor
  · intro h
    have h := Option.some.inj h
    have a := idx_get (fin_mem l [] x (List.mem_of_getElem? hi))
    have b := idx_get (fin_mem l [] y (List.mem_of_getElem? hj))
    rw [h, b] at a
    exact (Option.some.inj a).symm
  · intro h; rw [h]
theorem told_map {β : Type} [DecidableEq β] (f : α → β) : ∀ (l seen : List α), (∀ a b, a ∈ seen ++ l → b ∈ seen ++ l → f a = f b → a = b) → toldC (seen.map f) (l.map f) = toldC seen l
  | [], _, _ => rfl
  | k :: r, seen, h => by
    have hm : memC (f k) (seen.map f) = memC k seen := by
      cases z : memC k seen with
      | true => exact memC_iff.mpr (List.mem_map.mpr ⟨k, memC_iff.mp z, rfl⟩)
      | false =>
        refine memC_no fun q => ?_
        obtain ⟨a, ha, e⟩ := List.mem_map.mp q
        have := h a k (by simp [ha]) (by simp) e
        rw [this] at ha
        exact memC_not z ha
    have hx : ∀ s : List α, (∀ a ∈ s, f a = f k → a = k) → idxC (f k) (s.map f) = idxC k s := by
      intro s
      induction s with
      | nil => intro _; rfl
      | cons x s ih =>
        intro q
        show (if f x = f k then 0 else idxC (f k) (s.map f) + 1) = if x = k then 0 else idxC k s + 1
        by_cases z : x = k
        · rw [if_pos z, if_pos (by rw [z])]
        · rw [if_neg z, if_neg fun e => z (q x List.mem_cons_self e), ih fun a ha => q a (List.mem_cons_of_mem _ ha)]
    rw [List.map_cons]
    unfold toldC
    rw [hm]
    cases memC k seen with
    | true =>
      rw [if_pos rfl, if_pos rfl, hx seen fun a ha e => h a k (by simp [ha]) (by simp) e, told_map f r seen fun a b ha hb => h a b (by simp at ha ⊢; rcases ha with q | q <;> simp [q]) (by simp at hb ⊢; rcases hb with q | q <;> simp [q])]
    | false =>
      rw [if_neg Bool.false_ne_true, if_neg Bool.false_ne_true, List.length_map]
      have z := told_map f r (seen ++ [k]) fun a b ha hb => h a b (by simpa [List.append_assoc] using ha) (by simpa [List.append_assoc] using hb)
      rw [List.map_append] at z
      congr 1
/-- the same kernel, the same parting -/
theorem told_same {β : Type} [DecidableEq β] {l : List α} {m : List β} (hl : l.length = m.length) (h : ∀ (i j : Nat) (x y : α) (u v : β), l[i]? = some x → l[j]? = some y → m[i]? = some u → m[j]? = some v → (x = y ↔ u = v)) : toldC [] l = toldC [] m := by
  have e1 : l = (l.zip m).map Prod.fst := (List.map_fst_zip (Nat.le_of_eq hl)).symm
  have e2 : m = (l.zip m).map Prod.snd := (List.map_snd_zip (Nat.le_of_eq hl.symm)).symm
  have g : ∀ p ∈ l.zip m, ∃ i, l[i]? = some p.1 ∧ m[i]? = some p.2 := fun p hp => by
    obtain ⟨i, hi⟩ := List.mem_iff_getElem?.mp hp
    exact ⟨i, List.getElem?_zip_eq_some.mp hi⟩
  have a := told_map (Prod.fst : α × β → α) (l.zip m) [] fun p q hp hq e => by
    obtain ⟨i, i1, i2⟩ := g p (by simpa using hp)
    obtain ⟨j, j1, j2⟩ := g q (by simpa using hq)
    exact Prod.ext e ((h i j _ _ _ _ i1 j1 i2 j2).mp e)
  have b := told_map (Prod.snd : α × β → β) (l.zip m) [] fun p q hp hq e => by
    obtain ⟨i, i1, i2⟩ := g p (by simpa using hp)
    obtain ⟨j, j1, j2⟩ := g q (by simpa using hq)
    exact Prod.ext ((h i j _ _ _ _ i1 j1 i2 j2).mpr e) e
  rw [← e1] at a
  rw [← e2] at b
  exact a.trans b.symm
end
/-! ### blocks numbered as they come -/
def rgC : Nat → List Nat → Bool
  | _, [] => true
  | k, n :: r => decide (n ≤ k) && rgC (max k (n + 1)) r
def blkN : List Nat → Nat
  | [] => 0
  | n :: r => max (n + 1) (blkN r)
theorem told_rg {α : Type} [DecidableEq α] : ∀ (l seen : List α), rgC seen.length (toldC seen l) = true
  | [], _ => rfl
  | k :: r, seen => by
    unfold toldC
    cases z : memC k seen with
    | true =>
      have h := idx_lt (memC_iff.mp z)
      rw [if_pos rfl]
      show (decide (idxC k seen ≤ seen.length) && rgC (max seen.length (idxC k seen + 1)) (toldC seen r)) = true
      rw [decide_eq_true (by omega : idxC k seen ≤ seen.length), show max seen.length (idxC k seen + 1) = seen.length by omega, told_rg r seen]; rfl
    | false =>
      rw [if_neg Bool.false_ne_true]
      show (decide (seen.length ≤ seen.length) && rgC (max seen.length (seen.length + 1)) (toldC (seen ++ [k]) r)) = true
      have e := told_rg r (seen ++ [k])
      rw [List.length_append, List.length_singleton] at e
      rw [decide_eq_true (Nat.le_refl _), show max seen.length (seen.length + 1) = seen.length + 1 by omega, e]; rfl
theorem told_blk {α : Type} [DecidableEq α] : ∀ (l seen : List α), max seen.length (blkN (toldC seen l)) = (l.foldl addC seen).length
  | [], seen => by show max seen.length 0 = seen.length; omega
  | k :: r, seen => by
    unfold toldC
    rw [List.foldl_cons]
    cases z : memC k seen with
    | true =>
      have h := idx_lt (memC_iff.mp z)
      have e : addC seen k = seen := by unfold addC; rw [z]; rfl
      rw [if_pos rfl, e, ← told_blk r seen]
      show max seen.length (max (idxC k seen + 1) (blkN (toldC seen r))) = _
      omega
    | false =>
      have e : addC seen k = seen ++ [k] := by unfold addC; rw [z]; rfl
      rw [if_neg Bool.false_ne_true, e, ← told_blk r (seen ++ [k]), List.length_append, List.length_singleton]
      show max seen.length (max (seen.length + 1) (blkN (toldC (seen ++ [k]) r))) = _
      omega
/-! ### what is generated -/
inductive Gen (R : Nat → Nat → Prop) : Nat → Nat → Prop where
  | rel {i j : Nat} : R i j → Gen R i j
  | refl (i : Nat) : Gen R i i
  | symm {i j : Nat} : Gen R i j → Gen R j i
  | trans {i j k : Nat} : Gen R i j → Gen R j k → Gen R i k
theorem Gen.mono {R S : Nat → Nat → Prop} (h : ∀ i j, R i j → Gen S i j) {i j : Nat} (g : Gen R i j) : Gen S i j := by
  induction g with
  | rel q => exact h _ _ q
  | refl i => exact .refl i
  | symm _ ih => exact ih.symm
  | trans _ _ a b => exact a.trans b
/-- φ tells the classes of what R generates, below n -/
structure Tells (n : Nat) (φ : Nat → Nat) (R : Nat → Nat → Prop) : Prop where
  to : ∀ i j, Gen R i j → φ i = φ j
  of : ∀ i j, i < n → j < n → φ i = φ j → Gen R i j
theorem Tells.merge {n : Nat} {φ : Nat → Nat} {R : Nat → Nat → Prop} (t : Tells n φ R) (P : Nat → Prop) (hP : ∀ p, P p → p < n) (g : Nat → Nat) (c : Nat) (h1 : ∀ p, P p → g (φ p) = c) (h2 : ∀ x, (∀ p, P p → φ p ≠ x) → g x = x) (h3 : ∀ p, P p → ∃ q, P q ∧ φ q = c) :
    Tells n (fun i => g (φ i)) fun i j => R i j ∨ (P i ∧ P j) := by
  have up : ∀ i j, Gen R i j → Gen (fun i j => R i j ∨ (P i ∧ P j)) i j := fun i j q => q.mono fun a b r => .rel (.inl r)
  refine ⟨fun i j q => ?_, fun i j hi hj e => ?_⟩
  · induction q with
    | rel r =>
      rcases r with r | ⟨a, b⟩
      · show g (φ _) = g (φ _); rw [t.to _ _ (.rel r)]
      · show g (φ _) = g (φ _); rw [h1 _ a, h1 _ b]
    | refl i => rfl
    | symm _ ih => exact ih.symm
    | trans _ _ a b => exact a.trans b
  · have e : g (φ i) = g (φ j) := e
    by_cases a : ∃ p, P p ∧ φ p = φ i
    · obtain ⟨p, hp, ep⟩ := a
      by_cases b : ∃ q, P q ∧ φ q = φ j
      · obtain ⟨q, hq, eq⟩ := b
        exact ((up _ _ (t.of i p hi (hP p hp) ep.symm)).trans (.rel (.inr ⟨hp, hq⟩))).trans (up _ _ (t.of q j (hP q hq) hj eq))
      · have z : g (φ j) = φ j := h2 _ fun q hq eq => b ⟨q, hq, eq⟩
        rw [← ep, h1 p hp, z] at e
        obtain ⟨q, hq, eq⟩ := h3 p hp
        exact absurd ⟨q, hq, eq.trans e⟩ b
    · have z : g (φ i) = φ i := h2 _ fun q hq eq => a ⟨q, hq, eq⟩
      by_cases b : ∃ q, P q ∧ φ q = φ j
      · obtain ⟨q, hq, eq⟩ := b
        rw [z, ← eq, h1 q hq] at e
        obtain ⟨q', hq', eq'⟩ := h3 q hq
        exact absurd ⟨q', hq', eq'.trans e.symm⟩ a
      · have z2 : g (φ j) = φ j := h2 _ fun q hq eq => b ⟨q, hq, eq⟩
        rw [z, z2] at e
        exact up _ _ (t.of i j hi hj e)
end Cm
namespace Cl
open PySem PySem.Spec PyProof.Rows L2 Dl Dh
def topS (i : Nat) : Stmt := PySem.Challenge.pw_anytower_k02_partings_refused.main.body.getD i (.Pass ⟨0, 0, 0, 0⟩)
instance lawS : LawS := ⟨[("BadValue", ["part"]), ("BadNumber", ["part"]), ("BadName", ["value"]), ("NoName", ["name"]), ("BadKind", ["part"]), ("BadKit", ["part"]), ("BadTower", ["part"]), ("BadFrame", ["part"]), ("BadPlan", ["part"]), ("BadSite", ["part"]), ("BadPaper", ["part"]), ("BadText", ["line", "word"]), ("BadWord", ["word"]), ("Misfit", ["part"]), ("Nothing", ["what"]), ("TooMany", ["what", "most"])], [], fun n m => n == m || m == "ValueError"⟩
variable [LawT]
abbrev s_is_integer : Stmt := topS 1
theorem sc_is_integer : FnScope ["value"] ["value"] (defScope s_is_integer) := ⟨rfl, rfl, rfl, by decide +kernel, rfl, by decide +kernel, by decide +kernel⟩
def b_is_integer : M Fl :=
  retM (andE (ops [.late 0, .code (M.ret (.ty "int"))] kIsi) (notE (ops [.late 0, .code (M.ret (.ty "bool"))] kIsi)))
def f_is_integer : Fn := runF0 1 b_is_integer
structure T_is_integer (P : Program) (w : World) (K : PySem.W.Frag) (mg : Str → Option Value) (base : Heap) : Prop where
  mk ::
  cl : ClF K
  n_bool : mg "bool" = none
  n_int : mg "int" = none
  n_isinstance : mg "isinstance" = none
theorem ok_is_integer {P : Program} {w : World} {K : PySem.W.Frag} {mg : Str → Option Value} {base : Heap} {f : Addr} {fd : FuncData} (F : Fun K "is_integer" "is_integer" s_is_integer f fd) (T : T_is_integer P w K mg base) : FnOk P w K mg base CX0 1 f fd ["value"] (spD K 1 f_is_integer) :=
  Fun.okD F sc_is_integer (by decide) fun cdv A outer s H E hr => by
    exact (dss_one (ds_ret (de_and (de_isi T.cl (by rfl) T.n_isinstance (do_late 0 (pv 0)) (do_code (dv_ty (by rfl) T.n_int (by decide +kernel)))) (de_one (de_not (de_isi T.cl (by rfl) T.n_isinstance (do_late 0 (pv 0)) (do_code (dv_ty (by rfl) T.n_bool (by decide +kernel)))))))))
abbrev s_is_between : Stmt := topS 2
theorem sc_is_between : FnScope ["value", "least", "most"] ["value", "least", "most"] (defScope s_is_between) := ⟨rfl, rfl, rfl, by decide +kernel, rfl, by decide +kernel, by decide +kernel⟩
def b_is_between : M Fl :=
  retM (andE (callM (argsM [nameV 0]) 1 f_is_integer []) (chainM (nameV 1) (nameV 0) (nameV 2) kLe kLe))
def f_is_between : Fn := runF0 3 b_is_between
structure T_is_between (P : Program) (w : World) (K : PySem.W.Frag) (mg : Str → Option Value) (base : Heap) : Prop where
  mk ::
  k_is_integer : Cal P w K mg base CX0 1 "is_integer" 1 f_is_integer []
theorem ok_is_between {P : Program} {w : World} {K : PySem.W.Frag} {mg : Str → Option Value} {base : Heap} {f : Addr} {fd : FuncData} (F : Fun K "is_between" "is_between" s_is_between f fd) (T : T_is_between P w K mg base) : FnOk P w K mg base CX0 2 f fd ["value", "least", "most"] (spD K 3 f_is_between) :=
  Fun.okD F sc_is_between (by decide) fun cdv A outer s H E hr => by
    exact (dss_one (ds_ret (de_and (de_cal T.k_is_integer (hr.mono (by decide)) pass0 (da_cons (dv_name 0 (pv 0)) (da_nil))) (de_one (de_chain locOrd locOrd opLe opLe (dv_name 1 (pv 1)) (dv_name 0 (pv 0)) (dv_name 2 (pv 2)))))))
abbrev s_is_listed : Stmt := topS 3
theorem sc_is_listed : FnScope ["value"] ["value"] (defScope s_is_listed) := ⟨rfl, rfl, rfl, by decide +kernel, rfl, by decide +kernel, by decide +kernel⟩
def b_is_listed : M Fl :=
  retM (ops [.late 0, .code (tupM (argsM [M.ret (.ty "list"), M.ret (.ty "tuple")]))] kIsi)
def f_is_listed : Fn := runF0 1 b_is_listed
structure T_is_listed (P : Program) (w : World) (K : PySem.W.Frag) (mg : Str → Option Value) (base : Heap) : Prop where
  mk ::
  cl : ClF K
  n_isinstance : mg "isinstance" = none
  n_list : mg "list" = none
  n_tuple : mg "tuple" = none
theorem ok_is_listed {P : Program} {w : World} {K : PySem.W.Frag} {mg : Str → Option Value} {base : Heap} {f : Addr} {fd : FuncData} (F : Fun K "is_listed" "is_listed" s_is_listed f fd) (T : T_is_listed P w K mg base) : FnOk P w K mg base CX0 1 f fd ["value"] (spD K 1 f_is_listed) :=
  Fun.okD F sc_is_listed (by decide) fun cdv A outer s H E hr => by
    exact (dss_one (ds_ret (de_isi T.cl (by rfl) T.n_isinstance (do_late 0 (pv 0)) (do_code (dv_tup (da_cons (dv_ty (by rfl) T.n_list (by decide +kernel)) (da_cons (dv_ty (by rfl) T.n_tuple (by decide +kernel)) (da_nil))))))))
abbrev s_ascends : Stmt := topS 4
theorem sc_ascends : FnScope ["some", "one", "other"] ["some"] (defScope s_ascends) := ⟨rfl, rfl, rfl, by decide +kernel, rfl, by decide +kernel, by decide +kernel⟩
def b_ascends : M Fl :=
  retM (ops [.code (frzM (lcM [1, 2] (M.bnd (argsM [nameV 0, frzM (slM (.late 0) (some (M.ret (.int 1))) none)]) zipK2) (tgT' 2 [tgN 1, tgN 2]) (M.ret true) (frzM (ops [.late 1, .late 2] kLt))))] kAll)
def f_ascends : Fn := runF0 3 b_ascends
structure T_ascends (P : Program) (w : World) (K : PySem.W.Frag) (mg : Str → Option Value) (base : Heap) : Prop where
  mk ::
  n_all : mg "all" = none
  n_zip : mg "zip" = none
theorem ok_ascends {P : Program} {w : World} {K : PySem.W.Frag} {mg : Str → Option Value} {base : Heap} {f : Addr} {fd : FuncData} (F : Fun K "ascends" "ascends" s_ascends f fd) (T : T_ascends P w K mg base) : FnOk P w K mg base CX0 1 f fd ["some"] (spD K 1 f_ascends) :=
  Fun.okD F sc_ascends (by decide) fun cdv A outer s H E hr => by
    exact (dss_one (ds_ret (de_all rfl (by rfl) T.n_all (do_code (dv_frz (de_lc (own := [("one", 1), ("other", 2)]) rfl sc_ascends.nd (di_zip (by rfl) T.n_zip (da_cons (dv_name 0 (pv 0)) (da_cons (dv_frz (de_slice (do_late 0 (pv 0)) (dp_some (dv_int)) dp_none)) (da_nil)))) (blkOk_by (by rfl)) (by decide) (fun _ _ _ _ _ => dg_tup rfl (dgs_cons (dg_name sc_ascends.nd rfl (.inl rfl)) (dgs_cons (dg_name sc_ascends.nd rfl (.inl rfl)) (dgs_nil)))) (fun _ _ _ _ _ => dts_nil) (fun _ _ _ _ _ => dv_frz (de_lt (do_late 1 (pv 1)) (do_late 2 (pv 2)) (nomark _)))))))))
abbrev s_are_unlike : Stmt := topS 5
theorem sc_are_unlike : FnScope ["some"] ["some"] (defScope s_are_unlike) := ⟨rfl, rfl, rfl, by decide +kernel, rfl, by decide +kernel, by decide +kernel⟩
def b_are_unlike : M Fl :=
  retM (callM (argsM [frzM (ops [.late 0] kSorted)]) 1 f_ascends [])
def f_are_unlike : Fn := runF0 1 b_are_unlike
structure T_are_unlike (P : Program) (w : World) (K : PySem.W.Frag) (mg : Str → Option Value) (base : Heap) : Prop where
  mk ::
  n_sorted : mg "sorted" = none
  k_ascends : Cal P w K mg base CX0 1 "ascends" 1 f_ascends []
theorem ok_are_unlike {P : Program} {w : World} {K : PySem.W.Frag} {mg : Str → Option Value} {base : Heap} {f : Addr} {fd : FuncData} (F : Fun K "are_unlike" "are_unlike" s_are_unlike f fd) (T : T_are_unlike P w K mg base) : FnOk P w K mg base CX0 2 f fd ["some"] (spD K 1 f_are_unlike) :=
  Fun.okD F sc_are_unlike (by decide) fun cdv A outer s H E hr => by
    exact (dss_one (ds_ret (de_cal T.k_ascends (hr.mono (by decide)) pass0 (da_cons (dv_frz (de_sorted hr (by rfl) T.n_sorted (do_late 0 (pv 0)))) (da_nil)))))
abbrev s_are_indexes : Stmt := topS 6
theorem sc_are_indexes : FnScope ["value", "many", "one"] ["value", "many"] (defScope s_are_indexes) := ⟨rfl, rfl, rfl, by decide +kernel, rfl, by decide +kernel, by decide +kernel⟩
def b_are_indexes : M Fl :=
  seqM (iteM (orM (notM (truthM (callM (argsM [nameV 0]) 1 f_is_listed []))) (notM (truthM (ops [.code (frzM (lcM [2] (itemsM (nameV 0)) (tgN 2) (M.ret true) (frzM (callM (argsM [nameV 2, M.ret (.int 0), frzM (ops [.late 1, .code (M.ret (.int 1))] kSub)]) 3 f_is_between []))))] kAll)))) (retM (imM (M.ret (.bl false)))) (M.ret .next)) (retM (callM (argsM [nameV 0]) 1 f_are_unlike []))
def f_are_indexes : Fn := runF0 3 b_are_indexes
structure T_are_indexes (P : Program) (w : World) (K : PySem.W.Frag) (mg : Str → Option Value) (base : Heap) : Prop where
  mk ::
  n_all : mg "all" = none
  k_are_unlike : Cal P w K mg base CX0 2 "are_unlike" 1 f_are_unlike []
  k_is_between : Cal P w K mg base CX0 2 "is_between" 3 f_is_between []
  k_is_listed : Cal P w K mg base CX0 1 "is_listed" 1 f_is_listed []
theorem ok_are_indexes {P : Program} {w : World} {K : PySem.W.Frag} {mg : Str → Option Value} {base : Heap} {f : Addr} {fd : FuncData} (F : Fun K "are_indexes" "are_indexes" s_are_indexes f fd) (T : T_are_indexes P w K mg base) : FnOk P w K mg base CX0 3 f fd ["value", "many"] (spD K 2 f_are_indexes) :=
  Fun.okD F sc_are_indexes (by decide) fun cdv A outer s H E hr => by
    exact (dss_cons (ds_if (dt_w (dw_or (dt_not (dt_truth (de_cal T.k_is_listed (hr.mono (by decide)) pass0 (da_cons (dv_name 0 (pv 0)) (da_nil))) (by intro _; rfl))) (dw_or1 (dt_not (dt_truth (de_all rfl (by rfl) T.n_all (do_code (dv_frz (de_lc (own := [("one", 2)]) rfl sc_are_indexes.nd (di_seq (dv_name 0 (pv 0))) (blkOk_by (by rfl)) (by decide) (fun _ _ _ _ _ => dg_name sc_are_indexes.nd rfl (.inl rfl)) (fun _ _ _ _ _ => dts_nil) (fun _ _ _ _ _ => dv_frz (de_cal T.k_is_between (hr.mono (by decide)) pass0 (da_cons (dv_name 2 (pv 2)) (da_cons (dv_int) (da_cons (dv_frz (de_sub (do_late 1 (pv 1)) (do_code (dv_int)))) (da_nil)))))))))) (by intro _; rfl)))))) (dss_one (ds_ret (de_im (dv_bl)))) (dss_nil)) (dss_one (ds_ret (de_cal T.k_are_unlike (hr.mono (by decide)) pass0 (da_cons (dv_name 0 (pv 0)) (da_nil))))))
abbrev s_is_parting : Stmt := topS 27
theorem sc_is_parting : FnScope ["value", "many", "known", "one"] ["value", "many"] (defScope s_is_parting) := ⟨rfl, rfl, rfl, by decide +kernel, rfl, by decide +kernel, by decide +kernel⟩
def b_is_parting : M Fl :=
  seqM (iteM (orM (notM (truthM (callM (argsM [nameV 0]) 1 f_is_listed []))) (andM (testM (ops [.late 1, .code (M.ret (.non))] kNotN)) (testM (ops [.code (frzM (ops [.late 0] kLen)), .late 1] kNe)))) (retM (imM (M.ret (.bl false)))) (M.ret .next)) (seqM (setM 2 (imM (M.ret (.int 0)))) (seqM (forM (itemsM (nameV 0)) (tgN 3) (seqM (iteM (notM (truthM (callM (argsM [nameV 3, M.ret (.int 0), nameV 2]) 3 f_is_between []))) (retM (imM (M.ret (.bl false)))) (M.ret .next)) (setM 2 (ops [.late 2, .code (frzM (ops [.late 3, .code (M.ret (.int 1))] kAdd))] kMax2)))) (retM (imM (M.ret (.bl true))))))
def f_is_parting : Fn := runF0 4 b_is_parting
structure T_is_parting (P : Program) (w : World) (K : PySem.W.Frag) (mg : Str → Option Value) (base : Heap) : Prop where
  mk ::
  n_len : mg "len" = none
  n_max : mg "max" = none
  k_is_between : Cal P w K mg base CX0 2 "is_between" 3 f_is_between []
  k_is_listed : Cal P w K mg base CX0 1 "is_listed" 1 f_is_listed []
theorem ok_is_parting {P : Program} {w : World} {K : PySem.W.Frag} {mg : Str → Option Value} {base : Heap} {f : Addr} {fd : FuncData} (F : FunD K "is_parting" "is_parting" (defArgs s_is_parting) (defBody s_is_parting) (defScope s_is_parting) [V.non] [] f fd) (T : T_is_parting P w K mg base) : FnOk P w K mg base CX0 3 f fd ["value", "many"] (spD K 2 f_is_parting) :=
  Dl.FunD.okD F sc_is_parting (by decide) fun cdv A outer s H E hr => by
    exact (dss_cons (ds_if (dt_w (dw_or (dt_not (dt_truth (de_cal T.k_is_listed (hr.mono (by decide)) pass0 (da_cons (dv_name 0 (pv 0)) (da_nil))) (by intro _; rfl))) (dw_or1 (dt_w (dw_and (dt_notN (do_late 1 (pv 1)) (do_code (dv_non)) (nomark _)) (dw_and1 (dt_ne hr.units (do_code (dv_frz (de_len (by rfl) T.n_len (do_late 0 (pv 0))))) (do_late 1 (pv 1)) (nomark _)))))))) (dss_one (ds_ret (de_im (dv_bl)))) (dss_nil)) (dss_cons (ds_set (i := 2) sc_is_parting.nd rfl (.inl rfl) (de_im (dv_int))) (dss_cons (ds_for PassesOwn.never rfl (di_seq (dv_name 0 (pv 0))) (dg_name sc_is_parting.nd rfl (.inl rfl)) (dss_cons (ds_if (dt_not (dt_truth (de_cal T.k_is_between (hr.mono (by decide)) pass0 (da_cons (dv_name 3 (pv 3)) (da_cons (dv_int) (da_cons (dv_name 2 (pv 2)) (da_nil))))) (by intro _; rfl))) (dss_one (ds_ret (de_im (dv_bl)))) (dss_nil)) (dss_one (ds_set (i := 2) sc_is_parting.nd rfl (.inl rfl) (de_max2 rfl (by rfl) T.n_max (do_late 2 (pv 2)) (do_code (dv_frz (de_add (do_late 3 (pv 3)) (do_code (dv_int)))))))))) (dss_one (ds_ret (de_im (dv_bl)))))))
abbrev s_need_parting : Stmt := topS 28
theorem sc_need_parting : FnScope ["part", "value", "many"] ["part", "value", "many"] (defScope s_need_parting) := ⟨rfl, rfl, rfl, by decide +kernel, rfl, by decide +kernel, by decide +kernel⟩
def b_need_parting : M Fl :=
  seqM (iteM (notM (truthM (callM (argsM [nameV 1, nameV 2]) 2 f_is_parting []))) (raiseM "BadValue" ["part"] (argsM [nameV 0])) (M.ret .next)) (retM (ops [.late 1] kTup))
def f_need_parting : Fn := runF 3 b_need_parting
structure T_need_parting (P : Program) (w : World) (K : PySem.W.Frag) (mg : Str → Option Value) (base : Heap) : Prop where
  mk ::
  x_BadValue : CalX P w K mg base 1 "BadValue" "BadValue" ["part"]
  n_tuple : mg "tuple" = none
  k_is_parting : Cal P w K mg base CX0 3 "is_parting" 2 f_is_parting []
theorem ok_need_parting {P : Program} {w : World} {K : PySem.W.Frag} {mg : Str → Option Value} {base : Heap} {f : Addr} {fd : FuncData} (F : FunD K "need_parting" "need_parting" (defArgs s_need_parting) (defBody s_need_parting) (defScope s_need_parting) [V.non] [] f fd) (T : T_need_parting P w K mg base) : FnOk P w K mg base (L2.CX P w) 4 f fd ["part", "value", "many"] (spD K 3 f_need_parting) :=
  Dl.FunD.okXD F sc_need_parting (by decide) fun cdv A outer s H E hr => by
    exact (dss_cons (ds_if (dt_not (dt_truth (de_cal T.k_is_parting (hr.mono (by decide)) pass0 (da_cons (dv_name 1 (pv 1)) (da_cons (dv_name 2 (pv 2)) (da_nil)))) (by intro _; rfl))) (dss_one (ds_raise T.x_BadValue (hr.mono (by decide)) pX rfl (da_cons (dv_name 0 (pv 0)) (da_nil)))) (dss_nil)) (dss_one (ds_ret (de_tupOf (by rfl) T.n_tuple (do_late 1 (pv 1))))))
abbrev s_need_both : Stmt := topS 29
theorem sc_need_both : FnScope ["one", "other", "mine", "its"] ["one", "other"] (defScope s_need_both) := ⟨rfl, rfl, rfl, by decide +kernel, rfl, by decide +kernel, by decide +kernel⟩
def b_need_both : M Fl :=
  seqM (par2M 2 3 (callM (argsM [M.ret (.str "one"), nameV 0]) 3 f_need_parting [.non]) (callM (argsM [M.ret (.str "other"), nameV 1]) 3 f_need_parting [.non])) (seqM (iteM (testM (ops [.code (frzM (ops [.late 2] kLen)), .code (frzM (ops [.late 3] kLen))] kNe)) (raiseM "Misfit" ["part"] (argsM [M.ret (.str "other")])) (M.ret .next)) (retM (imM (tupM (argsM [nameV 2, nameV 3])))))
def f_need_both : Fn := runF 4 b_need_both
structure T_need_both (P : Program) (w : World) (K : PySem.W.Frag) (mg : Str → Option Value) (base : Heap) : Prop where
  mk ::
  x_Misfit : CalX P w K mg base 1 "Misfit" "Misfit" ["part"]
  n_len : mg "len" = none
  k_need_parting_d1 : Cal P w K mg base (L2.CX P w) 4 "need_parting" 3 f_need_parting [.non]
theorem ok_need_both {P : Program} {w : World} {K : PySem.W.Frag} {mg : Str → Option Value} {base : Heap} {f : Addr} {fd : FuncData} (F : Fun K "need_both" "need_both" s_need_both f fd) (T : T_need_both P w K mg base) : FnOk P w K mg base (L2.CX P w) 5 f fd ["one", "other"] (spD K 2 f_need_both) :=
  Fun.okXD F sc_need_both (by decide) fun cdv A outer s H E hr => by
    exact (dss_cons (ds_par2 sc_need_both.nd rfl rfl  (by decide) rfl rfl (de_cal T.k_need_parting_d1 (hr.mono (by decide)) (passes_call pX fun _ _ _ _ h => h) (da_cons (dv_str) (da_cons (dv_name 0 (pv 0)) (da_nil)))) (de_cal T.k_need_parting_d1 (hr.mono (by decide)) (passes_call pX fun _ _ _ _ h => h) (da_cons (dv_str) (da_cons (dv_name 1 (pv 1)) (da_nil))))) (dss_cons (ds_if (dt_ne hr.units (do_code (dv_frz (de_len (by rfl) T.n_len (do_late 2 (pv 2))))) (do_code (dv_frz (de_len (by rfl) T.n_len (do_late 3 (pv 3))))) (nomark _)) (dss_one (ds_raise T.x_Misfit (hr.mono (by decide)) pX rfl (da_cons (dv_str) (da_nil)))) (dss_nil)) (dss_one (ds_ret (de_im (dv_tup (da_cons (dv_name 2 (pv 2)) (da_cons (dv_name 3 (pv 3)) (da_nil)))))))))
abbrev s_blocks_of : Stmt := topS 30
theorem sc_blocks_of : FnScope ["parting"] ["parting"] (defScope s_blocks_of) := ⟨rfl, rfl, rfl, by decide +kernel, rfl, by decide +kernel, by decide +kernel⟩
def b_blocks_of : M Fl :=
  retM (ops [.code (frzM (ops [.late 0, .code (frzM (ops [.code (M.ret (.int 1))] kNeg))] kMaxD)), .code (M.ret (.int 1))] kAdd)
def f_blocks_of : Fn := runF0 1 b_blocks_of
structure T_blocks_of (P : Program) (w : World) (K : PySem.W.Frag) (mg : Str → Option Value) (base : Heap) : Prop where
  mk ::
  n_max : mg "max" = none
theorem ok_blocks_of {P : Program} {w : World} {K : PySem.W.Frag} {mg : Str → Option Value} {base : Heap} {f : Addr} {fd : FuncData} (F : Fun K "blocks_of" "blocks_of" s_blocks_of f fd) (T : T_blocks_of P w K mg base) : FnOk P w K mg base CX0 1 f fd ["parting"] (spD K 1 f_blocks_of) :=
  Fun.okD F sc_blocks_of (by decide) fun cdv A outer s H E hr => by
    exact (dss_one (ds_ret (de_add (do_code (dv_frz (de_maxD rfl (by rfl) T.n_max (do_late 0 (pv 0)) (do_code (dv_frz (de_neg (do_code (dv_int)))))))) (do_code (dv_int)))))
abbrev s_told_by : Stmt := topS 31
theorem sc_told_by : FnScope ["labels", "numbers", "label"] ["labels"] (defScope s_told_by) := ⟨rfl, rfl, rfl, by decide +kernel, rfl, by decide +kernel, by decide +kernel⟩
def b_told_by : M Fl :=
  seqM (setM 1 (M.ret (.od []))) (retM (ops [.code (frzM (lcM [2] (itemsM (nameV 0)) (tgN 2) (M.ret true) (frzM (setdM 1 (nameV 2) (frzM (ops [.late 1] kLen))))))] kTup))
def f_told_by : Fn := runF0 3 b_told_by
structure T_told_by (P : Program) (w : World) (K : PySem.W.Frag) (mg : Str → Option Value) (base : Heap) : Prop where
  mk ::
  n_len : mg "len" = none
  n_tuple : mg "tuple" = none
theorem ok_told_by {P : Program} {w : World} {K : PySem.W.Frag} {mg : Str → Option Value} {base : Heap} {f : Addr} {fd : FuncData} (F : Fun K "told_by" "told_by" s_told_by f fd) (T : T_told_by P w K mg base) : FnOk P w K mg base CX0 1 f fd ["labels"] (spD K 1 f_told_by) :=
  Fun.okD F sc_told_by (by decide) fun cdv A outer s H E hr => by
    exact (dss_cons (ds_set (i := 1) sc_told_by.nd rfl (.inr rfl) (de_dnew)) (dss_one (ds_ret (de_tupOf (by rfl) T.n_tuple (do_code (dv_frz (de_lc (own := [("label", 2)]) rfl sc_told_by.nd (di_seq (dv_name 0 (pv 0))) (blkOk_by (by rfl)) (by decide) (fun _ _ _ _ _ => dg_name sc_told_by.nd rfl (.inl rfl)) (fun _ _ _ _ _ => dts_nil) (fun _ _ _ _ _ => dv_frz (de_setd hr (pv 1) (dv_name 2 (pv 2)) (dv_frz (de_len (by rfl) T.n_len (do_late 1 (pv 1)))))))))))))
abbrev s_is_over : Stmt := topS 32
theorem sc_is_over : FnScope ["one", "other", "found", "mine", "its"] ["one", "other"] (defScope s_is_over) := ⟨rfl, rfl, rfl, by decide +kernel, rfl, by decide +kernel, by decide +kernel⟩
def b_is_over : M Fl :=
  seqM (setM 2 (M.ret (.od []))) (retM (ops [.code (frzM (lcM [3, 4] (M.bnd (argsM [nameV 0, nameV 1]) zipK2) (tgT' 2 [tgN 3, tgN 4]) (M.ret true) (frzM (ops [.code (frzM (setdM 2 (nameV 4) (nameV 3))), .late 3] kEq))))] kAll))
def f_is_over : Fn := runF0 5 b_is_over
structure T_is_over (P : Program) (w : World) (K : PySem.W.Frag) (mg : Str → Option Value) (base : Heap) : Prop where
  mk ::
  n_all : mg "all" = none
  n_zip : mg "zip" = none
theorem ok_is_over {P : Program} {w : World} {K : PySem.W.Frag} {mg : Str → Option Value} {base : Heap} {f : Addr} {fd : FuncData} (F : Fun K "is_over" "is_over" s_is_over f fd) (T : T_is_over P w K mg base) : FnOk P w K mg base CX0 1 f fd ["one", "other"] (spD K 2 f_is_over) :=
  Fun.okD F sc_is_over (by decide) fun cdv A outer s H E hr => by
    exact (dss_cons (ds_set (i := 2) sc_is_over.nd rfl (.inr rfl) (de_dnew)) (dss_one (ds_ret (de_all rfl (by rfl) T.n_all (do_code (dv_frz (de_lc (own := [("mine", 3), ("its", 4)]) rfl sc_is_over.nd (di_zip (by rfl) T.n_zip (da_cons (dv_name 0 (pv 0)) (da_cons (dv_name 1 (pv 1)) (da_nil)))) (blkOk_by (by rfl)) (by decide) (fun _ _ _ _ _ => dg_tup rfl (dgs_cons (dg_name sc_is_over.nd rfl (.inl rfl)) (dgs_cons (dg_name sc_is_over.nd rfl (.inl rfl)) (dgs_nil)))) (fun _ _ _ _ _ => dts_nil) (fun _ _ _ _ _ => dv_frz (de_eq hr.units (do_code (dv_frz (de_setd hr (pv 2) (dv_name 4 (pv 4)) (dv_name 3 (pv 3))))) (do_late 3 (pv 3)) (nomark _))))))))))
abbrev s_joined_by : Stmt := topS 33
theorem sc_joined_by : FnScope ["one", "other", "labels", "block", "some", "label", "its"] ["one", "other"] (defScope s_joined_by) := ⟨rfl, rfl, rfl, by decide +kernel, rfl, by decide +kernel, by decide +kernel⟩
def b_joined_by : M Fl :=
  seqM (setM 2 (ops [.late 0] kList)) (seqM (forM (ops [.code (frzM (callM (argsM [nameV 1]) 1 f_blocks_of []))] rngK1) (tgN 3) (seqM (setM 4 (lcM [5, 6] (M.bnd (argsM [nameV 2, nameV 1]) zipK2) (tgT' 2 [tgN 5, tgN 6]) (testM (ops [.late 6, .late 3] kEq)) (nameV 5))) (setM 2 (lcM [5] (itemsM (nameV 2)) (tgN 5) (M.ret true) (frzM (iteM (testM (ops [.late 5, .late 4] kIn)) (ops [.late 4, .code (M.ret (.int 0))] kIx) (imM (nameV 5)))))))) (retM (callM (argsM [nameV 2]) 1 f_told_by [])))
def f_joined_by : Fn := runF0 7 b_joined_by
structure T_joined_by (P : Program) (w : World) (K : PySem.W.Frag) (mg : Str → Option Value) (base : Heap) : Prop where
  mk ::
  n_list : mg "list" = none
  n_range : mg "range" = none
  n_zip : mg "zip" = none
  k_blocks_of : Cal P w K mg base CX0 1 "blocks_of" 1 f_blocks_of []
  k_told_by : Cal P w K mg base CX0 1 "told_by" 1 f_told_by []
theorem ok_joined_by {P : Program} {w : World} {K : PySem.W.Frag} {mg : Str → Option Value} {base : Heap} {f : Addr} {fd : FuncData} (F : Fun K "joined_by" "joined_by" s_joined_by f fd) (T : T_joined_by P w K mg base) : FnOk P w K mg base CX0 2 f fd ["one", "other"] (spD K 2 f_joined_by) :=
  Fun.okD F sc_joined_by (by decide) fun cdv A outer s H E hr => by
    exact (dss_cons (ds_set (i := 2) sc_joined_by.nd rfl (.inl rfl) (de_list (by rfl) T.n_list (do_late 0 (pv 0)))) (dss_cons (ds_for PassesOwn.never rfl (di_range1 (by rfl) T.n_range (do_code (dv_frz (de_cal T.k_blocks_of (hr.mono (by decide)) pass0 (da_cons (dv_name 1 (pv 1)) (da_nil)))))) (dg_name sc_joined_by.nd rfl (.inr rfl)) (dss_cons (ds_set (i := 4) sc_joined_by.nd rfl (.inr rfl) (de_lc (own := [("label", 5), ("its", 6)]) rfl sc_joined_by.nd (di_zip (by rfl) T.n_zip (da_cons (dv_name 2 (pv 2)) (da_cons (dv_name 1 (pv 1)) (da_nil)))) (blkOk_by (by rfl)) (by decide) (fun _ _ _ _ _ => dg_tup rfl (dgs_cons (dg_name sc_joined_by.nd rfl (.inl rfl)) (dgs_cons (dg_name sc_joined_by.nd rfl (.inl rfl)) (dgs_nil)))) (fun _ _ _ _ _ => dts_one (dt_eq hr.units (do_late 6 (pv 6)) (do_late 3 (pv 3)) (nomark _))) (fun _ _ _ _ _ => dv_name 5 (pv 5)))) (dss_one (ds_setLc (i := 2) (y := "labels") (own := [("label", 5)]) rfl sc_joined_by.nd rfl rfl (sw_true rfl rfl rfl (by decide +kernel)) (di_seq (dv_name 2 (pv 2))) (blkOk_by (by rfl)) (by decide) (fun _ _ _ _ _ => dg_name sc_joined_by.nd rfl (.inl rfl)) (fun _ _ _ _ _ => dts_nil) (fun _ _ _ _ _ => dv_frz (de_ifExp (dt_in (hu65 hr) (do_late 5 (pv 5)) (do_late 4 (pv 4)) (by rfl)) (de_ix (do_late 4 (pv 4)) (do_code (dv_int)) (fun _ _ => rfl)) (de_im (dv_name 5 (pv 5))))))))) (dss_one (ds_ret (de_cal T.k_told_by (hr.mono (by decide)) pass0 (da_cons (dv_name 2 (pv 2)) (da_nil)))))))
abbrev s_partings_of : Stmt := topS 34
theorem sc_partings_of : FnScope ["many", "found", "turn", "one", "block"] ["many"] (defScope s_partings_of) := ⟨rfl, rfl, rfl, by decide +kernel, rfl, by decide +kernel, by decide +kernel⟩
def b_partings_of : M Fl :=
  seqM (setM 1 (lstM (argsM [tupM (argsM [])]))) (seqM (forM (ops [.late 0] rngK1) (tgN 2) (setM 1 (lc2M [3, 4] [4] (itemsM (nameV 1)) (tgN 3) (M.ret true) (ops [.code (frzM (ops [.code (frzM (callM (argsM [nameV 3]) 1 f_blocks_of [])), .code (M.ret (.int 1))] kAdd))] rngK1) (tgN 4) (M.ret true) (tupM (starA (nameV 3) (consA (nameV 4) (argsM []))))))) (retM (ops [.late 1] kTup)))
def f_partings_of : Fn := runF0 5 b_partings_of
structure T_partings_of (P : Program) (w : World) (K : PySem.W.Frag) (mg : Str → Option Value) (base : Heap) : Prop where
  mk ::
  n_range : mg "range" = none
  n_tuple : mg "tuple" = none
  k_blocks_of : Cal P w K mg base CX0 1 "blocks_of" 1 f_blocks_of []
theorem ok_partings_of {P : Program} {w : World} {K : PySem.W.Frag} {mg : Str → Option Value} {base : Heap} {f : Addr} {fd : FuncData} (F : Fun K "partings_of" "partings_of" s_partings_of f fd) (T : T_partings_of P w K mg base) : FnOk P w K mg base CX0 2 f fd ["many"] (spD K 1 f_partings_of) :=
  Fun.okD F sc_partings_of (by decide) fun cdv A outer s H E hr => by
    exact (dss_cons (ds_set (i := 1) sc_partings_of.nd rfl (.inl rfl) (de_lst (da_cons (dv_tup (da_nil)) (da_nil)))) (dss_cons (ds_for PassesOwn.never rfl (di_range1 (by rfl) T.n_range (do_late 0 (pv 0))) (dg_name sc_partings_of.nd rfl (.inl rfl)) (dss_one (ds_setLc2 (i := 1) (y := "found") (own := [("one", 3), ("block", 4)]) (own1 := [4]) rfl sc_partings_of.nd rfl rfl (sw_true rfl rfl rfl (by decide +kernel)) (di_seq (dv_name 1 (pv 1))) (blkOk_by (by rfl)) (by decide) (by decide) (by decide) (fun _ _ _ _ _ => dg_name sc_partings_of.nd rfl (.inl rfl)) (fun _ _ _ _ _ => dts_nil) (fun _ _ _ _ _ => di_range1 (by rfl) T.n_range (do_code (dv_frz (de_add (do_code (dv_frz (de_cal T.k_blocks_of (hr.mono (by decide)) pass0 (da_cons (dv_name 3 (pv 3)) (da_nil))))) (do_code (dv_int)))))) (fun _ _ _ _ _ => dg_name sc_partings_of.nd rfl (.inl rfl)) (fun _ _ _ _ _ => dts_nil) (fun _ _ _ _ _ => dv_tup (da_star (dv_name 3 (pv 3)) (da_consA (dv_name 4 (pv 4)) (da_nil))))))) (dss_one (ds_ret (de_tupOf (by rfl) T.n_tuple (do_late 1 (pv 1)))))))
abbrev s_all_partings : Stmt := topS 35
theorem sc_all_partings : FnScope ["n"] ["n"] (defScope s_all_partings) := ⟨rfl, rfl, rfl, by decide +kernel, rfl, by decide +kernel, by decide +kernel⟩
def b_all_partings : M Fl :=
  seqM (iteM (notM (truthM (callM (argsM [nameV 0, M.ret (.int 0), M.ret (.int 8)]) 3 f_is_between []))) (raiseM "BadNumber" ["part"] (argsM [M.ret (.str "n")])) (M.ret .next)) (retM (callM (argsM [nameV 0]) 1 f_partings_of []))
def f_all_partings : Fn := runF 1 b_all_partings
structure T_all_partings (P : Program) (w : World) (K : PySem.W.Frag) (mg : Str → Option Value) (base : Heap) : Prop where
  mk ::
  x_BadNumber : CalX P w K mg base 1 "BadNumber" "BadNumber" ["part"]
  k_is_between : Cal P w K mg base CX0 2 "is_between" 3 f_is_between []
  k_partings_of : Cal P w K mg base CX0 2 "partings_of" 1 f_partings_of []
  c_MOST_THINGS : ∃ t, mg "MOST_THINGS" = some (.int 8 t)
theorem ok_all_partings {P : Program} {w : World} {K : PySem.W.Frag} {mg : Str → Option Value} {base : Heap} {f : Addr} {fd : FuncData} (F : Fun K "all_partings" "all_partings" s_all_partings f fd) (T : T_all_partings P w K mg base) : FnOk P w K mg base (L2.CX P w) 3 f fd ["n"] (spD K 1 f_all_partings) :=
  Fun.okXD F sc_all_partings (by decide) fun cdv A outer s H E hr => by
    exact (dss_cons (ds_if (dt_not (dt_truth (de_cal T.k_is_between (hr.mono (by decide)) pass0 (da_cons (dv_name 0 (pv 0)) (da_cons (dv_int) (da_cons (dv_globI T.c_MOST_THINGS) (da_nil))))) (by intro _; rfl))) (dss_one (ds_raise T.x_BadNumber (hr.mono (by decide)) pX rfl (da_cons (dv_str) (da_nil)))) (dss_nil)) (dss_one (ds_ret (de_cal T.k_partings_of (hr.mono (by decide)) pass0 (da_cons (dv_name 0 (pv 0)) (da_nil))))))
abbrev s_parting_of : Stmt := topS 36
theorem sc_parting_of : FnScope ["labels", "one"] ["labels"] (defScope s_parting_of) := ⟨rfl, rfl, rfl, by decide +kernel, rfl, by decide +kernel, by decide +kernel⟩
def b_parting_of : M Fl :=
  seqM (iteM (orM (notM (truthM (callM (argsM [nameV 0]) 1 f_is_listed []))) (notM (truthM (ops [.code (frzM (lcM [1] (itemsM (nameV 0)) (tgN 1) (M.ret true) (frzM (orE (callM (argsM [nameV 1]) 1 f_is_integer []) (ops [.late 1, .code (M.ret (.ty "str"))] kIsi)))))] kAll)))) (raiseM "BadValue" ["part"] (argsM [M.ret (.str "labels")])) (M.ret .next)) (retM (callM (argsM [nameV 0]) 1 f_told_by []))
def f_parting_of : Fn := runF 2 b_parting_of
structure T_parting_of (P : Program) (w : World) (K : PySem.W.Frag) (mg : Str → Option Value) (base : Heap) : Prop where
  mk ::
  cl : ClF K
  x_BadValue : CalX P w K mg base 1 "BadValue" "BadValue" ["part"]
  n_all : mg "all" = none
  n_isinstance : mg "isinstance" = none
  n_str : mg "str" = none
  k_is_integer : Cal P w K mg base CX0 1 "is_integer" 1 f_is_integer []
  k_is_listed : Cal P w K mg base CX0 1 "is_listed" 1 f_is_listed []
  k_told_by : Cal P w K mg base CX0 1 "told_by" 1 f_told_by []
theorem ok_parting_of {P : Program} {w : World} {K : PySem.W.Frag} {mg : Str → Option Value} {base : Heap} {f : Addr} {fd : FuncData} (F : Fun K "parting_of" "parting_of" s_parting_of f fd) (T : T_parting_of P w K mg base) : FnOk P w K mg base (L2.CX P w) 3 f fd ["labels"] (spD K 1 f_parting_of) :=
  Fun.okXD F sc_parting_of (by decide) fun cdv A outer s H E hr => by
    exact (dss_cons (ds_if (dt_w (dw_or (dt_not (dt_truth (de_cal T.k_is_listed (hr.mono (by decide)) pass0 (da_cons (dv_name 0 (pv 0)) (da_nil))) (by intro _; rfl))) (dw_or1 (dt_not (dt_truth (de_all rfl (by rfl) T.n_all (do_code (dv_frz (de_lc (own := [("one", 1)]) rfl sc_parting_of.nd (di_seq (dv_name 0 (pv 0))) (blkOk_by (by rfl)) (by decide) (fun _ _ _ _ _ => dg_name sc_parting_of.nd rfl (.inl rfl)) (fun _ _ _ _ _ => dts_nil) (fun _ _ _ _ _ => dv_frz (de_or (de_cal T.k_is_integer (hr.mono (by decide)) pass0 (da_cons (dv_name 1 (pv 1)) (da_nil))) (de_one (de_isi T.cl (by rfl) T.n_isinstance (do_late 1 (pv 1)) (do_code (dv_ty (by rfl) T.n_str (by decide +kernel))))))))))) (by intro _; rfl)))))) (dss_one (ds_raise T.x_BadValue (hr.mono (by decide)) pX rfl (da_cons (dv_str) (da_nil)))) (dss_nil)) (dss_one (ds_ret (de_cal T.k_told_by (hr.mono (by decide)) pass0 (da_cons (dv_name 0 (pv 0)) (da_nil))))))
abbrev s_blocks_in : Stmt := topS 37
theorem sc_blocks_in : FnScope ["parting"] ["parting"] (defScope s_blocks_in) := ⟨rfl, rfl, rfl, by decide +kernel, rfl, by decide +kernel, by decide +kernel⟩
def b_blocks_in : M Fl :=
  retM (callM (argsM [frzM (callM (argsM [M.ret (.str "parting"), nameV 0]) 3 f_need_parting [.non])]) 1 f_blocks_of [])
def f_blocks_in : Fn := runF 1 b_blocks_in
structure T_blocks_in (P : Program) (w : World) (K : PySem.W.Frag) (mg : Str → Option Value) (base : Heap) : Prop where
  mk ::
  k_blocks_of : Cal P w K mg base CX0 1 "blocks_of" 1 f_blocks_of []
  k_need_parting_d1 : Cal P w K mg base (L2.CX P w) 4 "need_parting" 3 f_need_parting [.non]
theorem ok_blocks_in {P : Program} {w : World} {K : PySem.W.Frag} {mg : Str → Option Value} {base : Heap} {f : Addr} {fd : FuncData} (F : Fun K "blocks_in" "blocks_in" s_blocks_in f fd) (T : T_blocks_in P w K mg base) : FnOk P w K mg base (L2.CX P w) 5 f fd ["parting"] (spD K 1 f_blocks_in) :=
  Fun.okXD F sc_blocks_in (by decide) fun cdv A outer s H E hr => by
    exact (dss_one (ds_ret (de_cal T.k_blocks_of (hr.mono (by decide)) pass0 (da_cons (dv_frz (de_cal T.k_need_parting_d1 (hr.mono (by decide)) (passes_call pX fun _ _ _ _ h => h) (da_cons (dv_str) (da_cons (dv_name 0 (pv 0)) (da_nil))))) (da_nil)))))
abbrev s_groups_in : Stmt := topS 38
theorem sc_groups_in : FnScope ["parting", "told", "block", "at", "its"] ["parting"] (defScope s_groups_in) := ⟨rfl, rfl, rfl, by decide +kernel, rfl, by decide +kernel, by decide +kernel⟩
def b_groups_in : M Fl :=
  seqM (setM 1 (callM (argsM [M.ret (.str "parting"), nameV 0]) 3 f_need_parting [.non])) (retM (ops [.code (frzM (lcM [2] (ops [.code (frzM (callM (argsM [nameV 1]) 1 f_blocks_of []))] rngK1) (tgN 2) (M.ret true) (frzM (ops [.code (frzM (lcM [3, 4] (M.bnd (argsM [nameV 1]) enumK2) (tgT' 2 [tgN 3, tgN 4]) (testM (ops [.late 4, .late 2] kEq)) (nameV 3)))] kTup))))] kTup))
def f_groups_in : Fn := runF 5 b_groups_in
structure T_groups_in (P : Program) (w : World) (K : PySem.W.Frag) (mg : Str → Option Value) (base : Heap) : Prop where
  mk ::
  n_enumerate : mg "enumerate" = none
  n_range : mg "range" = none
  n_tuple : mg "tuple" = none
  k_blocks_of : Cal P w K mg base CX0 1 "blocks_of" 1 f_blocks_of []
  k_need_parting_d1 : Cal P w K mg base (L2.CX P w) 4 "need_parting" 3 f_need_parting [.non]
theorem ok_groups_in {P : Program} {w : World} {K : PySem.W.Frag} {mg : Str → Option Value} {base : Heap} {f : Addr} {fd : FuncData} (F : Fun K "groups_in" "groups_in" s_groups_in f fd) (T : T_groups_in P w K mg base) : FnOk P w K mg base (L2.CX P w) 5 f fd ["parting"] (spD K 1 f_groups_in) :=
  Fun.okXD F sc_groups_in (by decide) fun cdv A outer s H E hr => by
    exact (dss_cons (ds_set (i := 1) sc_groups_in.nd rfl (.inr rfl) (de_cal T.k_need_parting_d1 (hr.mono (by decide)) (passes_call pX fun _ _ _ _ h => h) (da_cons (dv_str) (da_cons (dv_name 0 (pv 0)) (da_nil))))) (dss_one (ds_ret (de_tupOf (by rfl) T.n_tuple (do_code (dv_frz (de_lc (own := [("block", 2)]) rfl sc_groups_in.nd (di_range1 (by rfl) T.n_range (do_code (dv_frz (de_cal T.k_blocks_of (hr.mono (by decide)) pass0 (da_cons (dv_name 1 (pv 1)) (da_nil)))))) (blkOk_by (by rfl)) (by decide) (fun _ _ _ _ _ => dg_name sc_groups_in.nd rfl (.inr rfl)) (fun _ _ _ _ _ => dts_nil) (fun _ _ _ _ _ => dv_frz (de_tupOf (by rfl) T.n_tuple (do_code (dv_frz (de_lc (own := [("at", 3), ("its", 4)]) rfl sc_groups_in.nd (di_enum (by rfl) T.n_enumerate (da_cons (dv_name 1 (pv 1)) (da_nil))) (blkOk_by (by rfl)) (by decide) (fun _ _ _ _ _ => dg_tup rfl (dgs_cons (dg_name sc_groups_in.nd rfl (.inl rfl)) (dgs_cons (dg_name sc_groups_in.nd rfl (.inl rfl)) (dgs_nil)))) (fun _ _ _ _ _ => dts_one (dt_eq hr.units (do_late 4 (pv 4)) (do_late 2 (pv 2)) (nomark _))) (fun _ _ _ _ _ => dv_name 3 (pv 3))))))))))))))
abbrev s_part_on : Stmt := topS 39
theorem sc_part_on : FnScope ["parting", "things", "told", "at"] ["parting", "things"] (defScope s_part_on) := ⟨rfl, rfl, rfl, by decide +kernel, rfl, by decide +kernel, by decide +kernel⟩
def b_part_on : M Fl :=
  seqM (setM 2 (callM (argsM [M.ret (.str "parting"), nameV 0]) 3 f_need_parting [.non])) (seqM (iteM (notM (truthM (callM (argsM [nameV 1, frzM (ops [.late 2] kLen)]) 2 f_are_indexes []))) (raiseM "BadValue" ["part"] (argsM [M.ret (.str "things")])) (M.ret .next)) (retM (callM (argsM [frzM (lcM [3] (itemsM (nameV 1)) (tgN 3) (M.ret true) (frzM (ops [.late 2, .late 3] kIx)))]) 1 f_told_by [])))
def f_part_on : Fn := runF 4 b_part_on
structure T_part_on (P : Program) (w : World) (K : PySem.W.Frag) (mg : Str → Option Value) (base : Heap) : Prop where
  mk ::
  x_BadValue : CalX P w K mg base 1 "BadValue" "BadValue" ["part"]
  n_len : mg "len" = none
  k_are_indexes : Cal P w K mg base CX0 3 "are_indexes" 2 f_are_indexes []
  k_need_parting_d1 : Cal P w K mg base (L2.CX P w) 4 "need_parting" 3 f_need_parting [.non]
  k_told_by : Cal P w K mg base CX0 1 "told_by" 1 f_told_by []
theorem ok_part_on {P : Program} {w : World} {K : PySem.W.Frag} {mg : Str → Option Value} {base : Heap} {f : Addr} {fd : FuncData} (F : Fun K "part_on" "part_on" s_part_on f fd) (T : T_part_on P w K mg base) : FnOk P w K mg base (L2.CX P w) 5 f fd ["parting", "things"] (spD K 2 f_part_on) :=
  Fun.okXD F sc_part_on (by decide) fun cdv A outer s H E hr => by
    exact (dss_cons (ds_set (i := 2) sc_part_on.nd rfl (.inr rfl) (de_cal T.k_need_parting_d1 (hr.mono (by decide)) (passes_call pX fun _ _ _ _ h => h) (da_cons (dv_str) (da_cons (dv_name 0 (pv 0)) (da_nil))))) (dss_cons (ds_if (dt_not (dt_truth (de_cal T.k_are_indexes (hr.mono (by decide)) pass0 (da_cons (dv_name 1 (pv 1)) (da_cons (dv_frz (de_len (by rfl) T.n_len (do_late 2 (pv 2)))) (da_nil)))) (by intro _; rfl))) (dss_one (ds_raise T.x_BadValue (hr.mono (by decide)) pX rfl (da_cons (dv_str) (da_nil)))) (dss_nil)) (dss_one (ds_ret (de_cal T.k_told_by (hr.mono (by decide)) pass0 (da_cons (dv_frz (de_lc (own := [("at", 3)]) rfl sc_part_on.nd (di_seq (dv_name 1 (pv 1))) (blkOk_by (by rfl)) (by decide) (fun _ _ _ _ _ => dg_name sc_part_on.nd rfl (.inl rfl)) (fun _ _ _ _ _ => dts_nil) (fun _ _ _ _ _ => dv_frz (de_ix (do_late 2 (pv 2)) (do_late 3 (pv 3)) (fun _ _ => rfl))))) (da_nil)))))))
abbrev s_is_coarser : Stmt := topS 40
theorem sc_is_coarser : FnScope ["one", "other", "mine", "its"] ["one", "other"] (defScope s_is_coarser) := ⟨rfl, rfl, rfl, by decide +kernel, rfl, by decide +kernel, by decide +kernel⟩
def b_is_coarser : M Fl :=
  seqM (asgM (frzM (callM (argsM [nameV 0, nameV 1]) 2 f_need_both [])) (tgT' 2 [tgN 2, tgN 3])) (retM (callM (argsM [nameV 2, nameV 3]) 2 f_is_over []))
def f_is_coarser : Fn := runF 4 b_is_coarser
structure T_is_coarser (P : Program) (w : World) (K : PySem.W.Frag) (mg : Str → Option Value) (base : Heap) : Prop where
  mk ::
  k_is_over : Cal P w K mg base CX0 1 "is_over" 2 f_is_over []
  k_need_both : Cal P w K mg base (L2.CX P w) 5 "need_both" 2 f_need_both []
theorem ok_is_coarser {P : Program} {w : World} {K : PySem.W.Frag} {mg : Str → Option Value} {base : Heap} {f : Addr} {fd : FuncData} (F : Fun K "is_coarser" "is_coarser" s_is_coarser f fd) (T : T_is_coarser P w K mg base) : FnOk P w K mg base (L2.CX P w) 6 f fd ["one", "other"] (spD K 2 f_is_coarser) :=
  Fun.okXD F sc_is_coarser (by decide) fun cdv A outer s H E hr => by
    exact (dss_cons (ds_asg (dv_frz (de_cal T.k_need_both (hr.mono (by decide)) (passes_call pX fun _ _ _ _ h => h) (da_cons (dv_name 0 (pv 0)) (da_cons (dv_name 1 (pv 1)) (da_nil))))) (dg_tup rfl (dgs_cons (dg_name sc_is_coarser.nd rfl (.inl rfl)) (dgs_cons (dg_name sc_is_coarser.nd rfl (.inl rfl)) (dgs_nil))))) (dss_one (ds_ret (de_cal T.k_is_over (hr.mono (by decide)) pass0 (da_cons (dv_name 2 (pv 2)) (da_cons (dv_name 3 (pv 3)) (da_nil)))))))
abbrev s_merged_by : Stmt := topS 41
theorem sc_merged_by : FnScope ["one", "other", "mine", "its"] ["one", "other"] (defScope s_merged_by) := ⟨rfl, rfl, rfl, by decide +kernel, rfl, by decide +kernel, by decide +kernel⟩
def b_merged_by : M Fl :=
  seqM (asgM (frzM (callM (argsM [nameV 0, nameV 1]) 2 f_need_both [])) (tgT' 2 [tgN 2, tgN 3])) (retM (callM (argsM [nameV 2, nameV 3]) 2 f_joined_by []))
def f_merged_by : Fn := runF 4 b_merged_by
structure T_merged_by (P : Program) (w : World) (K : PySem.W.Frag) (mg : Str → Option Value) (base : Heap) : Prop where
  mk ::
  k_joined_by : Cal P w K mg base CX0 2 "joined_by" 2 f_joined_by []
  k_need_both : Cal P w K mg base (L2.CX P w) 5 "need_both" 2 f_need_both []
theorem ok_merged_by {P : Program} {w : World} {K : PySem.W.Frag} {mg : Str → Option Value} {base : Heap} {f : Addr} {fd : FuncData} (F : Fun K "merged_by" "merged_by" s_merged_by f fd) (T : T_merged_by P w K mg base) : FnOk P w K mg base (L2.CX P w) 6 f fd ["one", "other"] (spD K 2 f_merged_by) :=
  Fun.okXD F sc_merged_by (by decide) fun cdv A outer s H E hr => by
    exact (dss_cons (ds_asg (dv_frz (de_cal T.k_need_both (hr.mono (by decide)) (passes_call pX fun _ _ _ _ h => h) (da_cons (dv_name 0 (pv 0)) (da_cons (dv_name 1 (pv 1)) (da_nil))))) (dg_tup rfl (dgs_cons (dg_name sc_merged_by.nd rfl (.inl rfl)) (dgs_cons (dg_name sc_merged_by.nd rfl (.inl rfl)) (dgs_nil))))) (dss_one (ds_ret (de_cal T.k_joined_by (hr.mono (by decide)) pass0 (da_cons (dv_name 2 (pv 2)) (da_cons (dv_name 3 (pv 3)) (da_nil)))))))
abbrev s_common_to : Stmt := topS 42
theorem sc_common_to : FnScope ["one", "other", "mine", "its"] ["one", "other"] (defScope s_common_to) := ⟨rfl, rfl, rfl, by decide +kernel, rfl, by decide +kernel, by decide +kernel⟩
def b_common_to : M Fl :=
  seqM (asgM (frzM (callM (argsM [nameV 0, nameV 1]) 2 f_need_both [])) (tgT' 2 [tgN 2, tgN 3])) (retM (callM (argsM [frzM (lstZipM (argsM [nameV 2, nameV 3]))]) 1 f_told_by []))
def f_common_to : Fn := runF 4 b_common_to
structure T_common_to (P : Program) (w : World) (K : PySem.W.Frag) (mg : Str → Option Value) (base : Heap) : Prop where
  mk ::
  n_list : mg "list" = none
  n_zip : mg "zip" = none
  k_need_both : Cal P w K mg base (L2.CX P w) 5 "need_both" 2 f_need_both []
  k_told_by : Cal P w K mg base CX0 1 "told_by" 1 f_told_by []
theorem ok_common_to {P : Program} {w : World} {K : PySem.W.Frag} {mg : Str → Option Value} {base : Heap} {f : Addr} {fd : FuncData} (F : Fun K "common_to" "common_to" s_common_to f fd) (T : T_common_to P w K mg base) : FnOk P w K mg base (L2.CX P w) 6 f fd ["one", "other"] (spD K 2 f_common_to) :=
  Fun.okXD F sc_common_to (by decide) fun cdv A outer s H E hr => by
    exact (dss_cons (ds_asg (dv_frz (de_cal T.k_need_both (hr.mono (by decide)) (passes_call pX fun _ _ _ _ h => h) (da_cons (dv_name 0 (pv 0)) (da_cons (dv_name 1 (pv 1)) (da_nil))))) (dg_tup rfl (dgs_cons (dg_name sc_common_to.nd rfl (.inl rfl)) (dgs_cons (dg_name sc_common_to.nd rfl (.inl rfl)) (dgs_nil))))) (dss_one (ds_ret (de_cal T.k_told_by (hr.mono (by decide)) pass0 (da_cons (dv_frz (de_listZip rfl (by rfl) T.n_list (by rfl) T.n_zip (da_cons (dv_name 2 (pv 2)) (da_cons (dv_name 3 (pv 3)) (da_nil))))) (da_nil))))))
abbrev s_coarser_ones : Stmt := topS 43
theorem sc_coarser_ones : FnScope ["parting", "told", "one", "block"] ["parting"] (defScope s_coarser_ones) := ⟨rfl, rfl, rfl, by decide +kernel, rfl, by decide +kernel, by decide +kernel⟩
def b_coarser_ones : M Fl :=
  seqM (setM 1 (callM (argsM [M.ret (.str "parting"), nameV 0]) 3 f_need_parting [.non])) (seqM (iteM (testM (ops [.code (frzM (callM (argsM [nameV 1]) 1 f_blocks_of [])), .code (M.ret (.int 8))] kGt)) (raiseM "BadValue" ["part"] (argsM [M.ret (.str "parting")])) (M.ret .next)) (retM (ops [.code (frzM (ops [.code (frzM (lcM [2] (itemsM (frzM (callM (argsM [frzM (callM (argsM [nameV 1]) 1 f_blocks_of [])]) 1 f_partings_of []))) (tgN 2) (M.ret true) (frzM (ops [.code (frzM (lcM [3] (itemsM (nameV 1)) (tgN 3) (M.ret true) (frzM (ops [.late 2, .late 3] kIx))))] kTup))))] kSorted))] kTup)))
def f_coarser_ones : Fn := runF 4 b_coarser_ones
structure T_coarser_ones (P : Program) (w : World) (K : PySem.W.Frag) (mg : Str → Option Value) (base : Heap) : Prop where
  mk ::
  x_BadValue : CalX P w K mg base 1 "BadValue" "BadValue" ["part"]
  n_sorted : mg "sorted" = none
  n_tuple : mg "tuple" = none
  k_blocks_of : Cal P w K mg base CX0 1 "blocks_of" 1 f_blocks_of []
  k_need_parting_d1 : Cal P w K mg base (L2.CX P w) 4 "need_parting" 3 f_need_parting [.non]
  k_partings_of : Cal P w K mg base CX0 2 "partings_of" 1 f_partings_of []
  c_MOST_THINGS : ∃ t, mg "MOST_THINGS" = some (.int 8 t)
theorem ok_coarser_ones {P : Program} {w : World} {K : PySem.W.Frag} {mg : Str → Option Value} {base : Heap} {f : Addr} {fd : FuncData} (F : Fun K "coarser_ones" "coarser_ones" s_coarser_ones f fd) (T : T_coarser_ones P w K mg base) : FnOk P w K mg base (L2.CX P w) 5 f fd ["parting"] (spD K 1 f_coarser_ones) :=
  Fun.okXD F sc_coarser_ones (by decide) fun cdv A outer s H E hr => by
    exact (dss_cons (ds_set (i := 1) sc_coarser_ones.nd rfl (.inr rfl) (de_cal T.k_need_parting_d1 (hr.mono (by decide)) (passes_call pX fun _ _ _ _ h => h) (da_cons (dv_str) (da_cons (dv_name 0 (pv 0)) (da_nil))))) (dss_cons (ds_if (dt_gt (do_code (dv_frz (de_cal T.k_blocks_of (hr.mono (by decide)) pass0 (da_cons (dv_name 1 (pv 1)) (da_nil))))) (do_code (dv_globI T.c_MOST_THINGS)) (nomark _)) (dss_one (ds_raise T.x_BadValue (hr.mono (by decide)) pX rfl (da_cons (dv_str) (da_nil)))) (dss_nil)) (dss_one (ds_ret (de_tupOf (by rfl) T.n_tuple (do_code (dv_frz (de_sorted hr (by rfl) T.n_sorted (do_code (dv_frz (de_lc (own := [("one", 2)]) rfl sc_coarser_ones.nd (di_seq (dv_frz (de_cal T.k_partings_of (hr.mono (by decide)) pass0 (da_cons (dv_frz (de_cal T.k_blocks_of (hr.mono (by decide)) pass0 (da_cons (dv_name 1 (pv 1)) (da_nil)))) (da_nil))))) (blkOk_by (by rfl)) (by decide) (fun _ _ _ _ _ => dg_name sc_coarser_ones.nd rfl (.inr rfl)) (fun _ _ _ _ _ => dts_nil) (fun _ _ _ _ _ => dv_frz (de_tupOf (by rfl) T.n_tuple (do_code (dv_frz (de_lc (own := [("block", 3)]) rfl sc_coarser_ones.nd (di_seq (dv_name 1 (pv 1))) (blkOk_by (by rfl)) (by decide) (fun _ _ _ _ _ => dg_name sc_coarser_ones.nd rfl (.inl rfl)) (fun _ _ _ _ _ => dts_nil) (fun _ _ _ _ _ => dv_frz (de_ix (do_late 2 (pv 2)) (do_late 3 (pv 3)) (fun _ _ => rfl)))))))))))))))))))
abbrev s_finer_ones : Stmt := topS 44
theorem sc_finer_ones : FnScope ["parting", "told", "one"] ["parting"] (defScope s_finer_ones) := ⟨rfl, rfl, rfl, by decide +kernel, rfl, by decide +kernel, by decide +kernel⟩
def b_finer_ones : M Fl :=
  seqM (setM 1 (callM (argsM [M.ret (.str "parting"), nameV 0]) 3 f_need_parting [.non])) (seqM (iteM (testM (ops [.code (frzM (ops [.late 1] kLen)), .code (M.ret (.int 8))] kGt)) (raiseM "BadValue" ["part"] (argsM [M.ret (.str "parting")])) (M.ret .next)) (retM (ops [.code (frzM (lcM [2] (itemsM (frzM (callM (argsM [frzM (ops [.late 1] kLen)]) 1 f_partings_of []))) (tgN 2) (truthM (callM (argsM [nameV 1, nameV 2]) 2 f_is_over [])) (nameV 2)))] kTup)))
def f_finer_ones : Fn := runF 3 b_finer_ones
structure T_finer_ones (P : Program) (w : World) (K : PySem.W.Frag) (mg : Str → Option Value) (base : Heap) : Prop where
  mk ::
  x_BadValue : CalX P w K mg base 1 "BadValue" "BadValue" ["part"]
  n_len : mg "len" = none
  n_tuple : mg "tuple" = none
  k_is_over : Cal P w K mg base CX0 1 "is_over" 2 f_is_over []
  k_need_parting_d1 : Cal P w K mg base (L2.CX P w) 4 "need_parting" 3 f_need_parting [.non]
  k_partings_of : Cal P w K mg base CX0 2 "partings_of" 1 f_partings_of []
  c_MOST_THINGS : ∃ t, mg "MOST_THINGS" = some (.int 8 t)
theorem ok_finer_ones {P : Program} {w : World} {K : PySem.W.Frag} {mg : Str → Option Value} {base : Heap} {f : Addr} {fd : FuncData} (F : Fun K "finer_ones" "finer_ones" s_finer_ones f fd) (T : T_finer_ones P w K mg base) : FnOk P w K mg base (L2.CX P w) 5 f fd ["parting"] (spD K 1 f_finer_ones) :=
  Fun.okXD F sc_finer_ones (by decide) fun cdv A outer s H E hr => by
    exact (dss_cons (ds_set (i := 1) sc_finer_ones.nd rfl (.inr rfl) (de_cal T.k_need_parting_d1 (hr.mono (by decide)) (passes_call pX fun _ _ _ _ h => h) (da_cons (dv_str) (da_cons (dv_name 0 (pv 0)) (da_nil))))) (dss_cons (ds_if (dt_gt (do_code (dv_frz (de_len (by rfl) T.n_len (do_late 1 (pv 1))))) (do_code (dv_globI T.c_MOST_THINGS)) (nomark _)) (dss_one (ds_raise T.x_BadValue (hr.mono (by decide)) pX rfl (da_cons (dv_str) (da_nil)))) (dss_nil)) (dss_one (ds_ret (de_tupOf (by rfl) T.n_tuple (do_code (dv_frz (de_lc (own := [("one", 2)]) rfl sc_finer_ones.nd (di_seq (dv_frz (de_cal T.k_partings_of (hr.mono (by decide)) pass0 (da_cons (dv_frz (de_len (by rfl) T.n_len (do_late 1 (pv 1)))) (da_nil))))) (blkOk_by (by rfl)) (by decide) (fun _ _ _ _ _ => dg_name sc_finer_ones.nd rfl (.inl rfl)) (fun _ _ _ _ _ => dts_one (dt_truth (de_cal T.k_is_over (hr.mono (by decide)) pass0 (da_cons (dv_name 1 (pv 1)) (da_cons (dv_name 2 (pv 2)) (da_nil)))) (by intro _; rfl))) (fun _ _ _ _ _ => dv_name 2 (pv 2))))))))))
abbrev s_law_draw : Stmt := topS 47
theorem sc_law_draw : FnScope ["pen", "many", "turn", "cell", "mixed", "rest"] ["pen", "many"] (defScope s_law_draw) := ⟨rfl, rfl, rfl, by decide +kernel, rfl, by decide +kernel, by decide +kernel⟩
def b_law_draw : M Fl :=
  seqM (iteM (testM (ops [.code (penIx 0 2), .code (M.ret (.int 0))] kGt)) (seqM (setM 5 (ops [.code (penIx 0 2)] kInt)) (seqM (penSetM 0 2 (frzM (ops [.late 5, .late 1] kDiv))) (retM (ops [.code (frzM (ops [.late 5] kInt)), .late 1] kMod)))) (M.ret .next)) (seqM (setM 2 (imM (penIx 0 1))) (seqM (penSetM 0 1 (frzM (ops [.late 2, .code (M.ret (.int 1))] kAdd))) (seqM (setM 3 (ops [.code (frzM (ops [.code (M.ret (.int 95203)), .late 2] kMul)), .code (M.ret (.int 13127))] kAdd)) (seqM (iteM (testM (ops [.code (penIx 0 0), .code (frzM (lstM (argsM [])))] kNe)) (setM 3 (ops [.code (penIx 0 0), .code (frzM (ops [.code (frzM (ops [.late 2] kInt)), .code (frzM (ops [.code (penIx 0 0)] kLen))] kMod))] kIx)) (M.ret .next)) (seqM (iteM (andM (testM (ops [.late 2, .code (frzM (ops [.code (penIx 0 0)] kLen))] kLt)) (testM (ops [.code (frzM (ops [.late 3] kAbs)), .code (frzM (ops [.code (M.ret (.int 10)), .code (M.ret (.int 18))] kPow))] kGe))) (seqM (setM 5 (ops [.code (frzM (ops [.code (M.ret (.int 2)), .code (frzM (ops [.code (frzM (ops [.late 3] kAbs)), .code (frzM (ops [.code (M.ret (.int 10)), .code (M.ret (.int 18))] kPow))] kSub))] kMul)), .code (frzM (ops [.code (frzM (ops [.late 3, .code (M.ret (.int 0))] kLt))] kInt))] kAdd)) (seqM (penSetM 0 2 (frzM (ops [.code (frzM (ops [.late 5] kInt)), .late 1] kDiv))) (retM (ops [.code (frzM (ops [.late 5] kInt)), .late 1] kMod)))) (M.ret .next)) (seqM (setM 4 (ops [.code (frzM (ops [.code (frzM (ops [.code (frzM (ops [.code (frzM (ops [.code (frzM (ops [.code (frzM (ops [.late 3] kInt)), .code (M.ret (.int 2147483549))] kMod)), .code (frzM (ops [.code (M.ret (.int 95203)), .late 2] kMul))] kAdd)), .code (M.ret (.int 13127))] kAdd)), .code (M.ret (.int 5))] kPow))] kInt)), .code (M.ret (.int 2147483629))] kMod)) (seqM (setM 4 (ops [.code (frzM (ops [.code (frzM (ops [.code (frzM (ops [.code (frzM (ops [.code (frzM (ops [.late 4, .code (frzM (ops [.code (frzM (ops [.code (M.ret (.int 2)), .late 2] kMul)), .code (M.ret (.int 7193))] kAdd))] kMul)), .code (frzM (ops [.code (frzM (ops [.code (M.ret (.int 38011)), .late 2] kMul)), .late 2] kMul))] kAdd)), .code (M.ret (.int 95203))] kAdd)), .code (M.ret (.int 3))] kPow))] kInt)), .code (M.ret (.int 2147483587))] kMod)) (retM (ops [.code (frzM (ops [.code (frzM (ops [.late 4, .code (M.ret (.int 64))] kDiv))] kInt)), .late 1] kMod)))))))))
def f_law_draw : Fn := runF0 6 b_law_draw
structure T_law_draw (P : Program) (w : World) (K : PySem.W.Frag) (mg : Str → Option Value) (base : Heap) : Prop where
  mk ::
  n_abs : mg "abs" = none
  n_int : mg "int" = none
  n_len : mg "len" = none
theorem ok_law_draw {P : Program} {w : World} {K : PySem.W.Frag} {mg : Str → Option Value} {base : Heap} {f : Addr} {fd : FuncData} (F : Fun K "_law_draw" "_law_draw" s_law_draw f fd) (T : T_law_draw P w K mg base) : FnOk P w K mg base CX0 1 f fd ["pen", "many"] (spD K 2 f_law_draw) :=
  Fun.okD F sc_law_draw (by decide) fun cdv A outer s H E hr => by
    exact (dss_cons (ds_if (dt_gt (do_code (dv_penIx (pv 0) (fun _ _ => rfl))) (do_code (dv_int)) (nomark _)) (dss_cons (ds_set (i := 5) sc_law_draw.nd rfl (.inl rfl) (de_int (by rfl) T.n_int (do_code (dv_penIx (pv 0) (fun _ _ => rfl))))) (dss_cons (ds_penSet (pv 0) (dv_frz (de_div (do_late 5 (pv 5)) (do_late 1 (pv 1))))) (dss_one (ds_ret (de_mod (do_code (dv_frz (de_int (by rfl) T.n_int (do_late 5 (pv 5))))) (do_late 1 (pv 1))))))) (dss_nil)) (dss_cons (ds_set (i := 2) sc_law_draw.nd rfl (.inl rfl) (de_im (dv_penIx (pv 0) (fun _ _ => rfl)))) (dss_cons (ds_penSet (pv 0) (dv_frz (de_add (do_late 2 (pv 2)) (do_code (dv_int))))) (dss_cons (ds_set (i := 3) sc_law_draw.nd rfl (.inl rfl) (de_add (do_code (dv_frz (de_mul (do_code (dv_int)) (do_late 2 (pv 2))))) (do_code (dv_int)))) (dss_cons (ds_if (dt_ne hr.units (do_code (dv_penIx (pv 0) (fun _ _ => rfl))) (do_code (dv_frz (de_lst (da_nil)))) (nomark _)) (dss_one (ds_set (i := 3) sc_law_draw.nd rfl (.inl rfl) (de_ix (do_code (dv_penIx (pv 0) (fun _ _ => rfl))) (do_code (dv_frz (de_mod (do_code (dv_frz (de_int (by rfl) T.n_int (do_late 2 (pv 2))))) (do_code (dv_frz (de_len (by rfl) T.n_len (do_code (dv_penIx (pv 0) (fun _ _ => rfl))))))))) (fun _ _ => rfl)))) (dss_nil)) (dss_cons (ds_if (dt_w (dw_and (dt_lt (do_late 2 (pv 2)) (do_code (dv_frz (de_len (by rfl) T.n_len (do_code (dv_penIx (pv 0) (fun _ _ => rfl)))))) (nomark _)) (dw_and1 (dt_ge (do_code (dv_frz (de_abs (by rfl) T.n_abs (do_late 3 (pv 3))))) (do_code (dv_frz (de_pow (do_code (dv_int)) (do_code (dv_int))))) (nomark _))))) (dss_cons (ds_set (i := 5) sc_law_draw.nd rfl (.inl rfl) (de_add (do_code (dv_frz (de_mul (do_code (dv_int)) (do_code (dv_frz (de_sub (do_code (dv_frz (de_abs (by rfl) T.n_abs (do_late 3 (pv 3))))) (do_code (dv_frz (de_pow (do_code (dv_int)) (do_code (dv_int))))))))))) (do_code (dv_frz (de_int (by rfl) T.n_int (do_code (dv_frz (de_lt (do_late 3 (pv 3)) (do_code (dv_int)) (nomark _))))))))) (dss_cons (ds_penSet (pv 0) (dv_frz (de_div (do_code (dv_frz (de_int (by rfl) T.n_int (do_late 5 (pv 5))))) (do_late 1 (pv 1))))) (dss_one (ds_ret (de_mod (do_code (dv_frz (de_int (by rfl) T.n_int (do_late 5 (pv 5))))) (do_late 1 (pv 1))))))) (dss_nil)) (dss_cons (ds_set (i := 4) sc_law_draw.nd rfl (.inl rfl) (de_mod (do_code (dv_frz (de_int (by rfl) T.n_int (do_code (dv_frz (de_pow (do_code (dv_frz (de_add (do_code (dv_frz (de_add (do_code (dv_frz (de_mod (do_code (dv_frz (de_int (by rfl) T.n_int (do_late 3 (pv 3))))) (do_code (dv_int))))) (do_code (dv_frz (de_mul (do_code (dv_int)) (do_late 2 (pv 2)))))))) (do_code (dv_int))))) (do_code (dv_int)))))))) (do_code (dv_int)))) (dss_cons (ds_set (i := 4) sc_law_draw.nd rfl (.inl rfl) (de_mod (do_code (dv_frz (de_int (by rfl) T.n_int (do_code (dv_frz (de_pow (do_code (dv_frz (de_add (do_code (dv_frz (de_add (do_code (dv_frz (de_mul (do_late 4 (pv 4)) (do_code (dv_frz (de_add (do_code (dv_frz (de_mul (do_code (dv_int)) (do_late 2 (pv 2))))) (do_code (dv_int)))))))) (do_code (dv_frz (de_mul (do_code (dv_frz (de_mul (do_code (dv_int)) (do_late 2 (pv 2))))) (do_late 2 (pv 2)))))))) (do_code (dv_int))))) (do_code (dv_int)))))))) (do_code (dv_int)))) (dss_one (ds_ret (de_mod (do_code (dv_frz (de_int (by rfl) T.n_int (do_code (dv_frz (de_div (do_late 4 (pv 4)) (do_code (dv_int)))))))) (do_late 1 (pv 1)))))))))))))
abbrev s_law_pick : Stmt := topS 48
theorem sc_law_pick : FnScope ["pen", "some"] ["pen", "some"] (defScope s_law_pick) := ⟨rfl, rfl, rfl, by decide +kernel, rfl, by decide +kernel, by decide +kernel⟩
def b_law_pick : M Fl :=
  retM (ops [.late 1, .code (frzM (callM (argsM [nameV 0, frzM (ops [.late 1] kLen)]) 2 f_law_draw []))] kIx)
def f_law_pick : Fn := runF0 2 b_law_pick
structure T_law_pick (P : Program) (w : World) (K : PySem.W.Frag) (mg : Str → Option Value) (base : Heap) : Prop where
  mk ::
  n_len : mg "len" = none
  k_law_draw : Cal P w K mg base CX0 1 "_law_draw" 2 f_law_draw []
theorem ok_law_pick {P : Program} {w : World} {K : PySem.W.Frag} {mg : Str → Option Value} {base : Heap} {f : Addr} {fd : FuncData} (F : Fun K "_law_pick" "_law_pick" s_law_pick f fd) (T : T_law_pick P w K mg base) : FnOk P w K mg base CX0 2 f fd ["pen", "some"] (spD K 2 f_law_pick) :=
  Fun.okD F sc_law_pick (by decide) fun cdv A outer s H E hr => by
    exact (dss_one (ds_ret (de_ix (do_late 1 (pv 1)) (do_code (dv_frz (de_cal T.k_law_draw (hr.mono (by decide)) pass0 (da_cons (dv_name 0 (pv 0)) (da_cons (dv_frz (de_len (by rfl) T.n_len (do_late 1 (pv 1)))) (da_nil)))))) (fun _ _ => rfl))))
abbrev s_law_at_told : Stmt := topS 50
theorem sc_law_at_told : FnScope ["labels", "known", "label"] ["labels"] (defScope s_law_at_told) := ⟨rfl, rfl, rfl, by decide +kernel, rfl, by decide +kernel, by decide +kernel⟩
def b_law_at_told : M Fl :=
  seqM (setM 1 (M.ret (.od []))) (retM (ops [.code (frzM (lcM [2] (itemsM (nameV 0)) (tgN 2) (M.ret true) (frzM (setdM 1 (nameV 2) (frzM (ops [.late 1] kLen))))))] kTup))
def f_law_at_told : Fn := runF0 3 b_law_at_told
structure T_law_at_told (P : Program) (w : World) (K : PySem.W.Frag) (mg : Str → Option Value) (base : Heap) : Prop where
  mk ::
  n_len : mg "len" = none
  n_tuple : mg "tuple" = none
theorem ok_law_at_told {P : Program} {w : World} {K : PySem.W.Frag} {mg : Str → Option Value} {base : Heap} {f : Addr} {fd : FuncData} (F : Fun K "_law_at_told" "_law_at_told" s_law_at_told f fd) (T : T_law_at_told P w K mg base) : FnOk P w K mg base CX0 1 f fd ["labels"] (spD K 1 f_law_at_told) :=
  Fun.okD F sc_law_at_told (by decide) fun cdv A outer s H E hr => by
    exact (dss_cons (ds_set (i := 1) sc_law_at_told.nd rfl (.inr rfl) (de_dnew)) (dss_one (ds_ret (de_tupOf (by rfl) T.n_tuple (do_code (dv_frz (de_lc (own := [("label", 2)]) rfl sc_law_at_told.nd (di_seq (dv_name 0 (pv 0))) (blkOk_by (by rfl)) (by decide) (fun _ _ _ _ _ => dg_name sc_law_at_told.nd rfl (.inl rfl)) (fun _ _ _ _ _ => dts_nil) (fun _ _ _ _ _ => dv_frz (de_setd hr (pv 1) (dv_name 2 (pv 2)) (dv_frz (de_len (by rfl) T.n_len (do_late 1 (pv 1)))))))))))))
abbrev s_law : Stmt := topS 51
abbrev q_law : Str := (envOfC "law" (defScope s_law) 0 0 .none).qual ++ "<lambda>"
abbrev s_law_at_heard : Stmt := topS 49
theorem sc_law_at_heard : FnScope ["ask", "error", "some", "words", "found", "caught", "word", "is_one"] ["ask"] (defScope s_law_at_heard) := ⟨rfl, rfl, rfl, by decide +kernel, rfl, by decide +kernel, by decide +kernel⟩
def b_law_at_heard : M Fl :=
  seqM (iteM (testM (ops [.late 5, .code (M.ret (.non))] kIsN)) (retM (lstM (argsM [nameV 4]))) (M.ret .next)) (seqM (iteM (truthM (ops [.late 5, .code (M.ret (.cls "TooMany"))] kIsi)) (retM (imM (tupM (argsM [M.ret (.str "many"), frzM (ops [.late 5] (kFld "what")), frzM (ops [.late 5] (kFld "most"))])))) (M.ret .next)) (seqM (iteM (truthM (ops [.late 5, .code (M.ret (.cls "BadText"))] kIsi)) (retM (imM (tupM (argsM [M.ret (.str "text"), frzM (ops [.late 5] (kFld "line")), frzM (ops [.late 5] (kFld "word"))])))) (M.ret .next)) (seqM (iteM (truthM (ops [.late 5, .code (M.ret (.cls "BadWord"))] kIsi)) (retM (imM (tupM (argsM [M.ret (.str "word"), frzM (ops [.late 5] (kFld "word"))])))) (M.ret .next)) (seqM (iteM (truthM (ops [.late 5, .code (M.ret (.cls "BadName"))] kIsi)) (retM (imM (tupM (argsM [M.ret (.str "name"), frzM (M.bad)])))) (M.ret .next)) (seqM (iteM (truthM (ops [.late 5, .code (M.ret (.cls "NoName"))] kIsi)) (retM (imM (tupM (argsM [M.ret (.str "noname"), frzM (M.bad)])))) (M.ret .next)) (seqM (iteM (truthM (ops [.late 5, .code (M.ret (.cls "Nothing"))] kIsi)) (retM (imM (tupM (argsM [M.ret (.str "nothing"), frzM (ops [.late 5] (kFld "what"))])))) (M.ret .next)) (seqM (setM 2 (lstM (argsM [tupM (argsM [M.ret (.str "value"), frzM (ops [.late 5, .code (M.ret (.cls "BadValue"))] kIsi)]), tupM (argsM [M.ret (.str "number"), frzM (ops [.late 5, .code (M.ret (.cls "BadNumber"))] kIsi)]), tupM (argsM [M.ret (.str "kind"), frzM (ops [.late 5, .code (M.ret (.cls "BadKind"))] kIsi)]), tupM (argsM [M.ret (.str "kit"), frzM (ops [.late 5, .code (M.ret (.cls "BadKit"))] kIsi)])]))) (seqM (setM 2 (ops [.late 2, .code (frzM (lstM (argsM [tupM (argsM [M.ret (.str "tower"), frzM (ops [.late 5, .code (M.ret (.cls "BadTower"))] kIsi)]), tupM (argsM [M.ret (.str "frame"), frzM (ops [.late 5, .code (M.ret (.cls "BadFrame"))] kIsi)]), tupM (argsM [M.ret (.str "plan"), frzM (ops [.late 5, .code (M.ret (.cls "BadPlan"))] kIsi)]), tupM (argsM [M.ret (.str "site"), frzM (ops [.late 5, .code (M.ret (.cls "BadSite"))] kIsi)])])))] kAdd)) (seqM (setM 2 (ops [.late 2, .code (frzM (lstM (argsM [tupM (argsM [M.ret (.str "paper"), frzM (ops [.late 5, .code (M.ret (.cls "BadPaper"))] kIsi)]), tupM (argsM [M.ret (.str "misfit"), frzM (ops [.late 5, .code (M.ret (.cls "Misfit"))] kIsi)])])))] kAdd)) (seqM (setM 3 (lcM [6, 7] (itemsM (nameV 2)) (tgT' 2 [tgN 6, tgN 7]) (truthM (imM (nameV 7))) (nameV 6))) (retM (iteM (testM (ops [.code (frzM (ops [.late 3] kLen)), .code (M.ret (.int 1))] kEq)) (imM (tupM (argsM [frzM (ops [.late 3, .code (M.ret (.int 0))] kIx), frzM (ops [.late 5] (kFld "part"))]))) (imM (tupM (argsM [M.ret (.str "other")])))))))))))))))
def h_heard : FOut → FOut := heardF 8 4 5 b_law_at_heard
structure T_law_at_heard (K : PySem.W.Frag) (mg : Str → Option Value) : Prop where
  mk ::
  cl : ClF K
  m_BadFrame : mg "BadFrame" = some (.ref (LawT.C "BadFrame"))
  m_BadKind : mg "BadKind" = some (.ref (LawT.C "BadKind"))
  m_BadKit : mg "BadKit" = some (.ref (LawT.C "BadKit"))
  m_BadName : mg "BadName" = some (.ref (LawT.C "BadName"))
  m_BadNumber : mg "BadNumber" = some (.ref (LawT.C "BadNumber"))
  m_BadPaper : mg "BadPaper" = some (.ref (LawT.C "BadPaper"))
  m_BadPlan : mg "BadPlan" = some (.ref (LawT.C "BadPlan"))
  m_BadSite : mg "BadSite" = some (.ref (LawT.C "BadSite"))
  m_BadText : mg "BadText" = some (.ref (LawT.C "BadText"))
  m_BadTower : mg "BadTower" = some (.ref (LawT.C "BadTower"))
  m_BadValue : mg "BadValue" = some (.ref (LawT.C "BadValue"))
  m_BadWord : mg "BadWord" = some (.ref (LawT.C "BadWord"))
  m_Misfit : mg "Misfit" = some (.ref (LawT.C "Misfit"))
  m_NoName : mg "NoName" = some (.ref (LawT.C "NoName"))
  m_Nothing : mg "Nothing" = some (.ref (LawT.C "Nothing"))
  m_TooMany : mg "TooMany" = some (.ref (LawT.C "TooMany"))
  n_isinstance : mg "isinstance" = none
  n_len : mg "len" = none
theorem dss_law_at_heard {X : Cx} {g : Addr} {cdg : Value} {s : Shared} {H : Hp} (T : T_law_at_heard X.K X.mg) (hr : Room 1 (X.A.deeper (envOfC "_law_at_heard" (defScope s_law_at_heard) s.heap.objs.size g cdg))) :
    DSs (cxOf C8.CX0 X.prog X.w X.K X.mg X.base ["ask", "error", "some", "words", "found", "caught", "word", "is_one"] "_law_at_heard" (defScope s_law_at_heard) g cdg X.A X.stack s H C8.E0).nox W0 ((defBody s_law_at_heard).drop 2) b_law_at_heard := by
  exact (dss_cons (ds_if (dt_isN (do_late 5 (pv 5)) (do_code (dv_non)) (nomark _)) (dss_one (ds_ret (de_lst (da_cons (dv_name 4 (pv 4)) (da_nil))))) (dss_nil)) (dss_cons (ds_if (dt_truth (de_isi T.cl (by rfl) T.n_isinstance (do_late 5 (pv 5)) (do_code (dv_cls T.m_TooMany))) (by intro _; rfl)) (dss_one (ds_ret (de_im (dv_tup (da_cons (dv_str) (da_cons (dv_frz (de_fld (f' := "what") T.cl (do_late 5 (pv 5)))) (da_cons (dv_frz (de_fld (f' := "most") T.cl (do_late 5 (pv 5)))) (da_nil)))))))) (dss_nil)) (dss_cons (ds_if (dt_truth (de_isi T.cl (by rfl) T.n_isinstance (do_late 5 (pv 5)) (do_code (dv_cls T.m_BadText))) (by intro _; rfl)) (dss_one (ds_ret (de_im (dv_tup (da_cons (dv_str) (da_cons (dv_frz (de_fld (f' := "line") T.cl (do_late 5 (pv 5)))) (da_cons (dv_frz (de_fld (f' := "word") T.cl (do_late 5 (pv 5)))) (da_nil)))))))) (dss_nil)) (dss_cons (ds_if (dt_truth (de_isi T.cl (by rfl) T.n_isinstance (do_late 5 (pv 5)) (do_code (dv_cls T.m_BadWord))) (by intro _; rfl)) (dss_one (ds_ret (de_im (dv_tup (da_cons (dv_str) (da_cons (dv_frz (de_fld (f' := "word") T.cl (do_late 5 (pv 5)))) (da_nil))))))) (dss_nil)) (dss_cons (ds_if (dt_truth (de_isi T.cl (by rfl) T.n_isinstance (do_late 5 (pv 5)) (do_code (dv_cls T.m_BadName))) (by intro _; rfl)) (dss_one (ds_ret (de_im (dv_tup (da_cons (dv_str) (da_cons (dv_frz (de_bad)) (da_nil))))))) (dss_nil)) (dss_cons (ds_if (dt_truth (de_isi T.cl (by rfl) T.n_isinstance (do_late 5 (pv 5)) (do_code (dv_cls T.m_NoName))) (by intro _; rfl)) (dss_one (ds_ret (de_im (dv_tup (da_cons (dv_str) (da_cons (dv_frz (de_bad)) (da_nil))))))) (dss_nil)) (dss_cons (ds_if (dt_truth (de_isi T.cl (by rfl) T.n_isinstance (do_late 5 (pv 5)) (do_code (dv_cls T.m_Nothing))) (by intro _; rfl)) (dss_one (ds_ret (de_im (dv_tup (da_cons (dv_str) (da_cons (dv_frz (de_fld (f' := "what") T.cl (do_late 5 (pv 5)))) (da_nil))))))) (dss_nil)) (dss_cons (ds_set (i := 2) sc_law_at_heard.nd rfl (.inl rfl) (de_lst (da_cons (dv_tup (da_cons (dv_str) (da_cons (dv_frz (de_isi T.cl (by rfl) T.n_isinstance (do_late 5 (pv 5)) (do_code (dv_cls T.m_BadValue)))) (da_nil)))) (da_cons (dv_tup (da_cons (dv_str) (da_cons (dv_frz (de_isi T.cl (by rfl) T.n_isinstance (do_late 5 (pv 5)) (do_code (dv_cls T.m_BadNumber)))) (da_nil)))) (da_cons (dv_tup (da_cons (dv_str) (da_cons (dv_frz (de_isi T.cl (by rfl) T.n_isinstance (do_late 5 (pv 5)) (do_code (dv_cls T.m_BadKind)))) (da_nil)))) (da_cons (dv_tup (da_cons (dv_str) (da_cons (dv_frz (de_isi T.cl (by rfl) T.n_isinstance (do_late 5 (pv 5)) (do_code (dv_cls T.m_BadKit)))) (da_nil)))) (da_nil))))))) (dss_cons (ds_set (i := 2) sc_law_at_heard.nd rfl (.inl rfl) (de_add (do_late 2 (pv 2)) (do_code (dv_frz (de_lst (da_cons (dv_tup (da_cons (dv_str) (da_cons (dv_frz (de_isi T.cl (by rfl) T.n_isinstance (do_late 5 (pv 5)) (do_code (dv_cls T.m_BadTower)))) (da_nil)))) (da_cons (dv_tup (da_cons (dv_str) (da_cons (dv_frz (de_isi T.cl (by rfl) T.n_isinstance (do_late 5 (pv 5)) (do_code (dv_cls T.m_BadFrame)))) (da_nil)))) (da_cons (dv_tup (da_cons (dv_str) (da_cons (dv_frz (de_isi T.cl (by rfl) T.n_isinstance (do_late 5 (pv 5)) (do_code (dv_cls T.m_BadPlan)))) (da_nil)))) (da_cons (dv_tup (da_cons (dv_str) (da_cons (dv_frz (de_isi T.cl (by rfl) T.n_isinstance (do_late 5 (pv 5)) (do_code (dv_cls T.m_BadSite)))) (da_nil)))) (da_nil)))))))))) (dss_cons (ds_set (i := 2) sc_law_at_heard.nd rfl (.inl rfl) (de_add (do_late 2 (pv 2)) (do_code (dv_frz (de_lst (da_cons (dv_tup (da_cons (dv_str) (da_cons (dv_frz (de_isi T.cl (by rfl) T.n_isinstance (do_late 5 (pv 5)) (do_code (dv_cls T.m_BadPaper)))) (da_nil)))) (da_cons (dv_tup (da_cons (dv_str) (da_cons (dv_frz (de_isi T.cl (by rfl) T.n_isinstance (do_late 5 (pv 5)) (do_code (dv_cls T.m_Misfit)))) (da_nil)))) (da_nil)))))))) (dss_cons (ds_setLc (i := 3) (y := "words") (own := [("word", 6), ("is_one", 7)]) rfl sc_law_at_heard.nd rfl rfl (sw_true rfl rfl rfl (by decide +kernel)) (di_seq (dv_name 2 (pv 2))) (blkOk_by (by rfl)) (by decide) (fun _ _ _ _ _ => dg_tup rfl (dgs_cons (dg_name sc_law_at_heard.nd rfl (.inl rfl)) (dgs_cons (dg_name sc_law_at_heard.nd rfl (.inl rfl)) (dgs_nil)))) (fun _ _ _ _ _ => dts_one (dt_truth (de_im (dv_name 7 (pv 7))) (by intro _; rfl))) (fun _ _ _ _ _ => dv_name 6 (pv 6))) (dss_one (ds_ret (de_ifExp (dt_eq hr.units (do_code (dv_frz (de_len (by rfl) T.n_len (do_late 3 (pv 3))))) (do_code (dv_int)) (nomark _)) (de_im (dv_tup (da_cons (dv_frz (de_ix (do_late 3 (pv 3)) (do_code (dv_int)) (fun _ _ => rfl))) (da_cons (dv_frz (de_fld (f' := "part") T.cl (do_late 5 (pv 5)))) (da_nil))))) (de_im (dv_tup (da_cons (dv_str) (da_nil))))))))))))))))))
theorem hear_ok {P : Program} {w : World} {K : PySem.W.Frag} {mg : Str → Option Value} {base : Heap} {g : Addr} {fd : FuncData} {q : Str} (F : Fun K "_law_at_heard" "_law_at_heard" s_law_at_heard g fd) (T : T_law_at_heard K mg) (hg : mg "_law_at_heard" = some (.ref g)) (hT : mg "TowerError" = some (.ref (LawT.C "TowerError"))) (hh : heardB K LawT.C = true) : HearC P w K mg base "_law_at_heard" q h_heard := by
  have B := F.binds (ps := ["ask"]) fun _ _ _ _ _ _ us hl => match us, hl with | [_], _ => rfl
  obtain ⟨⟨oc, od, kV, doc, pm, an, cdv, ct, osl, rfl, lk, hcd⟩, kp⟩ := F
  refine ⟨g, _, _, _, _, _, _, _, _, _, _, _, _, _, ["ask", "error", "some", "words", "found", "caught", "word", "is_one"], "ask", hg, kp, lk, hcd, B, sc_law_at_heard, rfl, .inl rfl, by decide, by decide, fun X e1 e2 e3 e4 e5 => ?_⟩
  subst e1 e2 e3 e4 e5
  exact heard_gives (iE := 1) (rest := (defBody s_law_at_heard).drop 2) sc_law_at_heard.nd rfl rfl rfl rfl rfl rfl rfl rfl rfl hT (heardB_ok hh) (fun _ => rfl) (fun _ => rfl) (fun _ => rfl) (fun _ => rfl) fun s H hr => dss_law_at_heard T hr
abbrev s_law_pen : Stmt := topS 46
theorem sc_law_pen : FnScope ["script", "cell"] ["script"] (defScope s_law_pen) := ⟨rfl, rfl, rfl, by decide +kernel, rfl, by decide +kernel, by decide +kernel⟩
/-- the script's numbers, in the pen -/
def spPen (K : PySem.W.Frag) : Sp := fun vs H Q _ => ∃ (a : Addr) (ns : List Int), vs = [.ref a] ∧ SqL K H a (ns.map V.int) ∧ ns.length ≤ 63 ∧ ∀ H' p l, Same H H' → H' p = some (.lst [.ref l, .int 0, .int 0]) → H' l = some (.lst (ns.map V.int)) → Q (.ref p) H'
section
variable {P : Program} {w : World} {K : PySem.W.Frag} {mg : Str → Option Value} {base : Heap}
theorem cut_all (ns : List Int) (h : ns.length ≤ 63) : cutV (ns.map V.int) none (some 63) = ns.map V.int := by
  unfold cutV
  rw [HT.sIx_none, show HT.sIx (ns.map V.int).length (ns.map V.int).length (some 63) = min 63 (ns.map V.int).length from HT.sIx_nat _ _ 63, Nat.min_eq_right (by rw [List.length_map]; exact h), List.drop_zero, Nat.sub_zero, List.take_length]
theorem ok_pen {f : Addr} {fd : FuncData} (F : Fun K "_law_pen" "_law_pen" s_law_pen f fd) (mi : mg "int" = none) : FnOk P w K mg base CX0 1 f fd ["script"] (spPen K) := by
  refine F.ok sc_law_pen (fun vs H Q E h => ?_) (fun cdv A outer s H vs Q E hr h => ?_)
  · obtain ⟨a, ns, rfl, _⟩ := h
    rfl
  · obtain ⟨a, ns, rfl, hS, hlen, q⟩ := h
    refine ⟨_, pss_one (ps_ret (pe_lst (pa_cons (pe_lc (own := [("cell", 1)]) rfl sc_law_pen.nd (pi_list (pe_slice sl_list (pv 0) po_none (po_some pe_int))) (blkOk_by (by rfl)) (fun _ _ _ _ _ => pg_name (i := 1) sc_law_pen.nd rfl (.inl rfl)) (fun _ _ _ _ _ => pts_nil)
      (fun _ _ _ _ _ => pe_callTy call_int1 (by rfl) mi (by decide +kernel) (pa_cons (pv 1) pa_nil))) (pa_cons pe_int (pa_cons pe_int pa_nil))))), ?_⟩
    refine ⟨.ref a, rfl, 63, rfl, a, ns.map V.int, rfl, hS, fun c nc => ?_⟩
    rw [cut_all ns hlen]
    have s1 : Same H (upd H c (.lst (ns.map V.int))) := upd_fresh nc
    refine ⟨c, rfl, ⟨ns.map V.int, SqL.of upd_same⟩, fun D nD => ?_⟩
    have nDc : D ≠ c := fun e => by rw [e, upd_same] at nD; cases nD
    have sm0 : Same H (upd (upd H c (.lst (ns.map V.int))) D (.lst [])) := s1.trans (upd_fresh nD)
    refine lc_it (walk_list (K := K) (a := c) (xs := ns.map V.int)) (fun i H2 => Same H H2 ∧ H2 c = some (.lst (ns.map V.int)) ∧ H2 D = some (.lst ((ns.take i).map V.int)) ∧ H D = none)
      ⟨sm0, by rw [upd_ne (Ne.symm nDc)]; exact upd_same, upd_same, by rw [upd_ne nDc] at nD; exact nD⟩ (fun i H2 _ ⟨_, h2, _⟩ => SqL.of h2) ?_ ?_
    · rintro i x H2 H3 hi ⟨q1, q2, q3, q4⟩ ⟨rfl, ex⟩
      rw [List.getElem?_map] at ex
      cases en : ns[i]? with
      | none => rw [en] at ex; cases ex
      | some n =>
        rw [en] at ex
        obtain rfl : V.int n = x := Option.some.inj ex
        refine ⟨rfl, .int n, rfl, .inl ⟨n, rfl, (ns.take i).map V.int, q3, ?_, ?_⟩⟩
        · rw [List.length_map, List.length_take, sizeLine_eq]; omega
        · refine ⟨fun b o e => ?_, ?_, ?_, q4⟩
          · rw [upd_ne (ne_of_none e q4)]; exact q1 b o e
          · rw [upd_ne (Ne.symm nDc)]; exact q2
          · rw [upd_same, List.take_add_one, en, List.map_append]; rfl
    · rintro H2 ⟨q1, q2, q3, q4⟩
      rw [List.length_map, List.take_length] at q3
      refine ⟨by show 3 ≤ sizeLine; decide, fun p np => ?_⟩
      have npD : D ≠ p := ne_of_none q3 np
      exact q _ p D (q1.trans (upd_fresh np)) upd_same (by rw [upd_ne npD]; exact q3)
end

theorem sc_law : FnScope ["script", "pen", "wrong", "turn", "heard", "longer", "things", "labels", "number", "wide", "deep", "odd", "bad", "fine", "at"] ["script"] (defScope s_law) := ⟨rfl, rfl, rfl, by decide +kernel, rfl, by decide +kernel, by decide +kernel⟩
def b_law : M Fl :=
  seqM (setM 2 (lstM (argsM [M.ret (.non), M.ret (.int 5), M.ret (.str "01"), frzM (M.ret (.od [])), tupM (argsM [M.ret (.int 1)]), tupM (argsM [M.ret (.int 0), M.ret (.int 2)]), tupM (argsM [M.ret (.int 0), frzM (ops [.code (M.ret (.int 1))] kNeg)]), tupM (argsM [M.ret (.int 0), M.ret (.bl true)]), tupM (argsM [M.ret (.int 0), M.ret (.non)]), frzM (lstM (argsM [frzM (lstM (argsM [M.ret (.int 0)]))])), tupM (argsM [M.ret (.int 0), M.ret (.int 1), M.ret (.int 3)]), tupM (argsM [M.ret (.str "0")])]))) (seqM (forM (ops [.code (M.ret (.int 5))] rngK1) (tgN 3) (seqM (asgM (tupM (argsM [frzM (callM (argsM [nameV 1, nameV 2]) 2 f_law_pick []), frzM (callM (argsM [nameV 1, nameV 2]) 2 f_law_pick []), frzM (callM (argsM [frzM (lcM [14] (ops [.code (frzM (ops [.code (M.ret (.int 1)), .code (frzM (callM (argsM [nameV 1, M.ret (.int 8)]) 2 f_law_draw []))] kAdd))] rngK1) (tgN 14) (M.ret true) (frzM (callM (argsM [nameV 1, M.ret (.int 3)]) 2 f_law_draw [])))]) 1 f_law_at_told [])])) (tgT' 3 [tgN 11, tgN 12, tgN 13])) (seqM (setM 4 (lstM (argsM [frzM (heardM [11] (callM (argsM [nameV 11]) 1 f_blocks_in []) h_heard), frzM (heardM [11] (callM (argsM [nameV 11]) 1 f_groups_in []) h_heard), frzM (heardM [11, 12] (callM (argsM [nameV 11, nameV 12]) 2 f_part_on []) h_heard), frzM (heardM [11] (callM (argsM [nameV 11]) 1 f_coarser_ones []) h_heard)]))) (seqM (dropM (appM 4 (frzM (heardM [11] (callM (argsM [nameV 11]) 1 f_finer_ones []) h_heard)))) (seqM (iteM (testM (ops [.late 4, .code (frzM (ops [.code (frzM (lstM (argsM [tupM (argsM [M.ret (.str "value"), M.ret (.str "parting")])]))), .code (M.ret (.int 5))] kMul))] kNe)) (retM (imM (M.ret (.bl false)))) (M.ret .next)) (seqM (setM 4 (lstM (argsM [frzM (heardM [11, 12] (callM (argsM [nameV 11, nameV 12]) 2 f_is_coarser []) h_heard), frzM (heardM [11, 12] (callM (argsM [nameV 11, nameV 12]) 2 f_merged_by []) h_heard), frzM (heardM [11, 12] (callM (argsM [nameV 11, nameV 12]) 2 f_common_to []) h_heard)]))) (seqM (setM 4 (ops [.late 4, .code (frzM (lstM (argsM [frzM (heardM [12, 13] (callM (argsM [nameV 13, nameV 12]) 2 f_is_coarser []) h_heard), frzM (heardM [12, 13] (callM (argsM [nameV 13, nameV 12]) 2 f_merged_by []) h_heard), frzM (heardM [12, 13] (callM (argsM [nameV 13, nameV 12]) 2 f_common_to []) h_heard)])))] kAdd)) (seqM (setM 5 (ops [.late 13, .code (tupM (argsM [M.ret (.int 0)]))] kAdd)) (seqM (setM 4 (ops [.late 4, .code (frzM (lstM (argsM [frzM (heardM [5, 13] (callM (argsM [nameV 13, nameV 5]) 2 f_is_coarser []) h_heard), frzM (heardM [5, 13] (callM (argsM [nameV 5, nameV 13]) 2 f_merged_by []) h_heard), frzM (heardM [5, 13] (callM (argsM [nameV 13, nameV 5]) 2 f_common_to []) h_heard)])))] kAdd)) (seqM (iteM (testM (ops [.late 4, .code (frzM (ops [.code (frzM (ops [.code (frzM (ops [.code (frzM (lstM (argsM [tupM (argsM [M.ret (.str "value"), M.ret (.str "one")])]))), .code (M.ret (.int 3))] kMul)), .code (frzM (ops [.code (frzM (lstM (argsM [tupM (argsM [M.ret (.str "value"), M.ret (.str "other")])]))), .code (M.ret (.int 3))] kMul))] kAdd)), .code (frzM (ops [.code (frzM (lstM (argsM [tupM (argsM [M.ret (.str "misfit"), M.ret (.str "other")])]))), .code (M.ret (.int 3))] kMul))] kAdd))] kNe)) (retM (imM (M.ret (.bl false)))) (M.ret .next)) (seqM (setM 6 (callM (argsM [nameV 1, frzM (lstM (argsM [M.ret (.non), M.ret (.int 5), M.ret (.str "0"), frzM (lstM (argsM [frzM (ops [.late 13] kLen)])), frzM (lstM (argsM [frzM (ops [.code (M.ret (.int 1))] kNeg)])), frzM (lstM (argsM [M.ret (.int 0), M.ret (.int 0)])), frzM (lstM (argsM [M.ret (.bl true)])), frzM (lstM (argsM [M.ret (.non)])), frzM (M.ret (.od [])), frzM (lstM (argsM [frzM (lstM (argsM [M.ret (.int 0)]))]))]))]) 2 f_law_pick [])) (seqM (setM 7 (callM (argsM [nameV 1, frzM (lstM (argsM [M.ret (.non), M.ret (.int 5), M.ret (.str "ab"), frzM (lstM (argsM [M.ret (.non)])), frzM (lstM (argsM [M.ret (.bl true)])), frzM (lstM (argsM [tupM (argsM [M.ret (.int 1)])])), frzM (M.ret (.od [])), frzM (lstM (argsM [M.ret (.int 1), frzM (lstM (argsM [M.ret (.int 2)]))])), frzM (lstM (argsM [M.ret (.int 1), M.ret (.str "a"), M.ret (.non)]))]))]) 2 f_law_pick [])) (seqM (setM 8 (callM (argsM [nameV 1, frzM (lstM (argsM [M.ret (.non), frzM (ops [.code (M.ret (.int 1))] kNeg), M.ret (.int 9), M.ret (.bl true), M.ret (.str "3"), tupM (argsM [M.ret (.int 2)]), frzM (ops [.code (M.ret (.int 10)), .code (M.ret (.int 30))] kPow)]))]) 2 f_law_pick [])) (seqM (setM 4 (lstM (argsM [frzM (heardM [6, 13] (callM (argsM [nameV 13, nameV 6]) 2 f_part_on []) h_heard), frzM (heardM [7] (callM (argsM [nameV 7]) 1 f_parting_of []) h_heard), frzM (heardM [8] (callM (argsM [nameV 8]) 1 f_all_partings []) h_heard)]))) (iteM (testM (ops [.late 4, .code (frzM (lstM (argsM [tupM (argsM [M.ret (.str "value"), M.ret (.str "things")]), tupM (argsM [M.ret (.str "value"), M.ret (.str "labels")]), tupM (argsM [M.ret (.str "number"), M.ret (.str "n")])])))] kNe)) (retM (imM (M.ret (.bl false)))) (M.ret .next)))))))))))))))) (seqM (asgM (tupM (argsM [frzM (tupRangeM (M.ret (.int 9))), frzM (ops [.code (tupM (argsM [M.ret (.int 0)])), .code (M.ret (.int 9))] kMul)])) (tgT' 2 [tgN 9, tgN 10])) (seqM (setM 4 (lstM (argsM [frzM (heardM [9] (callM (argsM [nameV 9]) 1 f_coarser_ones []) h_heard), frzM (heardM [10] (callM (argsM [nameV 10]) 1 f_finer_ones []) h_heard), frzM (heardM [9] (callM (argsM [nameV 9]) 1 f_finer_ones []) h_heard)]))) (retM (andE (ops [.late 4, .code (frzM (ops [.code (frzM (lstM (argsM [tupM (argsM [M.ret (.str "value"), M.ret (.str "parting")])]))), .code (M.ret (.int 3))] kMul))] kEq) (andE (ops [.code (frzM (callM (argsM [nameV 10]) 1 f_coarser_ones [])), .code (tupM (argsM [nameV 10]))] kEq) (andE (ops [.code (frzM (ops [.code (frzM (callM (argsM [frzM (ops [.code (frzM (tupRangeM (M.ret (.int 7)))), .code (tupM (argsM [M.ret (.int 0), M.ret (.int 3)]))] kAdd)]) 1 f_coarser_ones []))] kLen)), .code (M.ret (.int 877))] kEq) (ops [.code (frzM (callM (argsM [frzM (tupRangeM (M.ret (.int 8)))]) 1 f_finer_ones [])), .code (tupM (argsM [frzM (tupRangeM (M.ret (.int 8)))]))] kEq))))))))
def e_law : List Sl := .un :: .im .pen :: List.replicate 13 .un
structure T_law (P : Program) (w : World) (K : PySem.W.Frag) (mg : Str → Option Value) (base : Heap) : Prop where
  mk ::
  h_heard : HearC P w K mg base "_law_at_heard" q_law h_heard
  n_len : mg "len" = none
  n_range : mg "range" = none
  n_tuple : mg "tuple" = none
  k_law_at_told : Cal P w K mg base CX0 1 "_law_at_told" 1 f_law_at_told []
  k_law_draw : Cal P w K mg base CX0 1 "_law_draw" 2 f_law_draw []
  k_law_pick : Cal P w K mg base CX0 2 "_law_pick" 2 f_law_pick []
  k_all_partings : Cal P w K mg base (L2.CX P w) 3 "all_partings" 1 f_all_partings []
  k_blocks_in : Cal P w K mg base (L2.CX P w) 5 "blocks_in" 1 f_blocks_in []
  k_coarser_ones : Cal P w K mg base (L2.CX P w) 5 "coarser_ones" 1 f_coarser_ones []
  k_common_to : Cal P w K mg base (L2.CX P w) 6 "common_to" 2 f_common_to []
  k_finer_ones : Cal P w K mg base (L2.CX P w) 5 "finer_ones" 1 f_finer_ones []
  k_groups_in : Cal P w K mg base (L2.CX P w) 5 "groups_in" 1 f_groups_in []
  k_is_coarser : Cal P w K mg base (L2.CX P w) 6 "is_coarser" 2 f_is_coarser []
  k_merged_by : Cal P w K mg base (L2.CX P w) 6 "merged_by" 2 f_merged_by []
  k_part_on : Cal P w K mg base (L2.CX P w) 5 "part_on" 2 f_part_on []
  k_parting_of : Cal P w K mg base (L2.CX P w) 3 "parting_of" 1 f_parting_of []
def spLaw (K : PySem.W.Frag) : Sp := fun vs H Q _ => ∃ (a : Addr) (ns : List Int), vs = [.ref a] ∧ SqL K H a (ns.map V.int) ∧ ns.length ≤ 63 ∧ (∀ z ∈ ns, Builtin.Int.intBits z ≤ 1048576) ∧ LamX.Tabs LawT.T H ∧ ∀ H', Q (.bl true) H'
def LawHolds : Prop := ∀ ns : List Int, ns.length ≤ 63 → (∀ z ∈ ns, Builtin.Int.intBits z ≤ 1048576) → ∃ E' ps', b_law e_law ⟨ns, 0, 0⟩ = .ok (.ret (.im (.bl true))) E' ps'
theorem ok_law {P : Program} {w : World} {K : PySem.W.Frag} {mg : Str → Option Value} {base : Heap} {f fp c : Addr} {oc kV doc pm ct : Value} {od an : Option Addr} {osl : Array (Option Value)} {fdp : FuncData} (lk : K.lookup f = some ⟨oc, od, .func (PySem.W.fnOf "law" "law" (defArgs s_law) (defBody s_law) (defScope s_law) .none kV doc pm an (.ref c) ct), osl⟩) (hcd : PySem.W.codeIn K (.ref c) "law" = true) (T : T_law P w K mg base) (tb : TabD base mg (.ref c) q_law) (Fp : FnOk P w K mg base CX0 1 fp fdp ["script"] (spPen K)) (mp : mg "_law_pen" = some (.ref fp)) (kp : PySem.W.keepIn K (.ref fp) = true) (bp : Binds K fdp ["script"] []) (sem : LawHolds) :
    FnG P w K mg base CX0 9 f (PySem.W.fnOf "law" "law" (defArgs s_law) (defBody s_law) (defScope s_law) .none kV doc pm an (.ref c) ct) ["script"] (spLaw K) := by
  refine fnG_run lk hcd sc_law (fun vs H Q E h => ?_) (fun A outer s H vs Q E hr hgd h => ?_)
  · obtain ⟨a, ns, rfl, _⟩ := h
    rfl
  · obtain ⟨a, ns, rfl, hS, hlen, hbits, hT, q⟩ := h
    have rest : DSs (cxOf CX0 P w K mg base ["script", "pen", "wrong", "turn", "heard", "longer", "things", "labels", "number", "wide", "deep", "odd", "bad", "fine", "at"] "law" (defScope s_law) f (.ref c) A outer s H E).nox W0 ((defBody s_law).drop 1) b_law := by
      exact (dss_cons (ds_set (i := 2) sc_law.nd rfl (.inl rfl) (de_lst (da_cons (dv_non) (da_cons (dv_int) (da_cons (dv_str) (da_cons (dv_frz (de_dnew)) (da_cons (dv_tup (da_cons (dv_int) (da_nil))) (da_cons (dv_tup (da_cons (dv_int) (da_cons (dv_int) (da_nil)))) (da_cons (dv_tup (da_cons (dv_int) (da_cons (dv_frz (de_neg (do_code (dv_int)))) (da_nil)))) (da_cons (dv_tup (da_cons (dv_int) (da_cons (dv_bl) (da_nil)))) (da_cons (dv_tup (da_cons (dv_int) (da_cons (dv_non) (da_nil)))) (da_cons (dv_frz (de_lst (da_cons (dv_frz (de_lst (da_cons (dv_int) (da_nil)))) (da_nil)))) (da_cons (dv_tup (da_cons (dv_int) (da_cons (dv_int) (da_cons (dv_int) (da_nil))))) (da_cons (dv_tup (da_cons (dv_str) (da_nil))) (da_nil))))))))))))))) (dss_cons (ds_for PassesOwn.never rfl (di_range1 (by rfl) T.n_range (do_code (dv_int))) (dg_name sc_law.nd rfl (.inl rfl)) (dss_cons (ds_asg (dv_tup (da_cons (dv_frz (de_cal T.k_law_pick (hr.mono (by decide)) pass0 (da_cons (dv_name 1 (pv 1)) (da_cons (dv_name 2 (pv 2)) (da_nil))))) (da_cons (dv_frz (de_cal T.k_law_pick (hr.mono (by decide)) pass0 (da_cons (dv_name 1 (pv 1)) (da_cons (dv_name 2 (pv 2)) (da_nil))))) (da_cons (dv_frz (de_cal T.k_law_at_told (hr.mono (by decide)) pass0 (da_cons (dv_frz (de_lc (own := [("at", 14)]) rfl sc_law.nd (di_range1 (by rfl) T.n_range (do_code (dv_frz (de_add (do_code (dv_int)) (do_code (dv_frz (de_cal T.k_law_draw (hr.mono (by decide)) pass0 (da_cons (dv_name 1 (pv 1)) (da_cons (dv_int) (da_nil)))))))))) (blkOk_by (by rfl)) (by decide) (fun _ _ _ _ _ => dg_name sc_law.nd rfl (.inl rfl)) (fun _ _ _ _ _ => dts_nil) (fun _ _ _ _ _ => dv_frz (de_cal T.k_law_draw (hr.mono (by decide)) pass0 (da_cons (dv_name 1 (pv 1)) (da_cons (dv_int) (da_nil))))))) (da_nil)))) (da_nil))))) (dg_tup rfl (dgs_cons (dg_name sc_law.nd rfl (.inr rfl)) (dgs_cons (dg_name sc_law.nd rfl (.inr rfl)) (dgs_cons (dg_name sc_law.nd rfl (.inr rfl)) (dgs_nil)))))) (dss_cons (ds_set (i := 4) sc_law.nd rfl (.inl rfl) (de_lst (da_cons (dv_frz (de_hear (k := 5) T.h_heard tb [11] (hr.mono (by decide)) (.no (fun _ => rfl) fun _ _ _ _ _ _ _ => rfl) (lamD_by (by kernel_rfl)) (fun _ _ _ _ _ _ _ hr => de_cal T.k_blocks_in (hr.mono (by decide)) (passes_call pL fun _ _ _ _ h => h) (da_cons (dv_name 11 (pv 11)) (da_nil))))) (da_cons (dv_frz (de_hear (k := 5) T.h_heard tb [11] (hr.mono (by decide)) (.one "a1" 0 _ _ rfl rfl rfl fun _ _ _ _ _ _ _ _ _ => ⟨_, rfl, rfl⟩) (lamD_by (by kernel_rfl)) (fun _ _ _ _ _ _ _ hr => de_cal T.k_groups_in (hr.mono (by decide)) (passes_call pL fun _ _ _ _ h => h) (da_cons (dv_name 11 (pv 11)) (da_nil))))) (da_cons (dv_frz (de_hear (k := 5) T.h_heard tb [11, 12] (hr.mono (by decide)) (.one "a2" 0 _ _ rfl rfl rfl fun _ _ _ _ _ _ _ _ _ => ⟨_, rfl, rfl⟩) (lamD_by (by kernel_rfl)) (fun _ _ _ _ _ _ _ hr => de_cal T.k_part_on (hr.mono (by decide)) (passes_call pL fun _ _ _ _ h => h) (da_cons (dv_name 11 (pv 11)) (da_cons (dv_name 12 (pv 12)) (da_nil)))))) (da_cons (dv_frz (de_hear (k := 5) T.h_heard tb [11] (hr.mono (by decide)) (.one "a3" 0 _ _ rfl rfl rfl fun _ _ _ _ _ _ _ _ _ => ⟨_, rfl, rfl⟩) (lamD_by (by kernel_rfl)) (fun _ _ _ _ _ _ _ hr => de_cal T.k_coarser_ones (hr.mono (by decide)) (passes_call pL fun _ _ _ _ h => h) (da_cons (dv_name 11 (pv 11)) (da_nil))))) (da_nil))))))) (dss_cons (ds_expr (de_append (pv 4) (dv_frz (de_hear (k := 5) T.h_heard tb [11] (hr.mono (by decide)) (.no (fun _ => rfl) fun _ _ _ _ _ _ _ => rfl) (lamD_by (by kernel_rfl)) (fun _ _ _ _ _ _ _ hr => de_cal T.k_finer_ones (hr.mono (by decide)) (passes_call pL fun _ _ _ _ h => h) (da_cons (dv_name 11 (pv 11)) (da_nil))))))) (dss_cons (ds_if (dt_ne hr.units (do_late 4 (pv 4)) (do_code (dv_frz (de_mul (do_code (dv_frz (de_lst (da_cons (dv_tup (da_cons (dv_str) (da_cons (dv_str) (da_nil)))) (da_nil))))) (do_code (dv_int))))) (nomark _)) (dss_one (ds_ret (de_im (dv_bl)))) (dss_nil)) (dss_cons (ds_set (i := 4) sc_law.nd rfl (.inl rfl) (de_lst (da_cons (dv_frz (de_hear (k := 6) T.h_heard tb [11, 12] (hr.mono (by decide)) (.no (fun _ => rfl) fun _ _ _ _ _ _ _ => rfl) (lamD_by (by kernel_rfl)) (fun _ _ _ _ _ _ _ hr => de_cal T.k_is_coarser (hr.mono (by decide)) (passes_call pL fun _ _ _ _ h => h) (da_cons (dv_name 11 (pv 11)) (da_cons (dv_name 12 (pv 12)) (da_nil)))))) (da_cons (dv_frz (de_hear (k := 6) T.h_heard tb [11, 12] (hr.mono (by decide)) (.one "a1" 0 _ _ rfl rfl rfl fun _ _ _ _ _ _ _ _ _ => ⟨_, rfl, rfl⟩) (lamD_by (by kernel_rfl)) (fun _ _ _ _ _ _ _ hr => de_cal T.k_merged_by (hr.mono (by decide)) (passes_call pL fun _ _ _ _ h => h) (da_cons (dv_name 11 (pv 11)) (da_cons (dv_name 12 (pv 12)) (da_nil)))))) (da_cons (dv_frz (de_hear (k := 6) T.h_heard tb [11, 12] (hr.mono (by decide)) (.one "a2" 0 _ _ rfl rfl rfl fun _ _ _ _ _ _ _ _ _ => ⟨_, rfl, rfl⟩) (lamD_by (by kernel_rfl)) (fun _ _ _ _ _ _ _ hr => de_cal T.k_common_to (hr.mono (by decide)) (passes_call pL fun _ _ _ _ h => h) (da_cons (dv_name 11 (pv 11)) (da_cons (dv_name 12 (pv 12)) (da_nil)))))) (da_nil)))))) (dss_cons (ds_set (i := 4) sc_law.nd rfl (.inl rfl) (de_add (do_late 4 (pv 4)) (do_code (dv_frz (de_lst (da_cons (dv_frz (de_hear (k := 6) T.h_heard tb [12, 13] (hr.mono (by decide)) (.no (fun _ => rfl) fun _ _ _ _ _ _ _ => rfl) (lamD_by (by kernel_rfl)) (fun _ _ _ _ _ _ _ hr => de_cal T.k_is_coarser (hr.mono (by decide)) (passes_call pL fun _ _ _ _ h => h) (da_cons (dv_name 13 (pv 13)) (da_cons (dv_name 12 (pv 12)) (da_nil)))))) (da_cons (dv_frz (de_hear (k := 6) T.h_heard tb [12, 13] (hr.mono (by decide)) (.one "a1" 0 _ _ rfl rfl rfl fun _ _ _ _ _ _ _ _ _ => ⟨_, rfl, rfl⟩) (lamD_by (by kernel_rfl)) (fun _ _ _ _ _ _ _ hr => de_cal T.k_merged_by (hr.mono (by decide)) (passes_call pL fun _ _ _ _ h => h) (da_cons (dv_name 13 (pv 13)) (da_cons (dv_name 12 (pv 12)) (da_nil)))))) (da_cons (dv_frz (de_hear (k := 6) T.h_heard tb [12, 13] (hr.mono (by decide)) (.one "a2" 0 _ _ rfl rfl rfl fun _ _ _ _ _ _ _ _ _ => ⟨_, rfl, rfl⟩) (lamD_by (by kernel_rfl)) (fun _ _ _ _ _ _ _ hr => de_cal T.k_common_to (hr.mono (by decide)) (passes_call pL fun _ _ _ _ h => h) (da_cons (dv_name 13 (pv 13)) (da_cons (dv_name 12 (pv 12)) (da_nil)))))) (da_nil))))))))) (dss_cons (ds_set (i := 5) sc_law.nd rfl (.inr rfl) (de_add (do_late 13 (pv 13)) (do_code (dv_tup (da_cons (dv_int) (da_nil)))))) (dss_cons (ds_set (i := 4) sc_law.nd rfl (.inl rfl) (de_add (do_late 4 (pv 4)) (do_code (dv_frz (de_lst (da_cons (dv_frz (de_hear (k := 6) T.h_heard tb [5, 13] (hr.mono (by decide)) (.no (fun _ => rfl) fun _ _ _ _ _ _ _ => rfl) (lamD_by (by kernel_rfl)) (fun _ _ _ _ _ _ _ hr => de_cal T.k_is_coarser (hr.mono (by decide)) (passes_call pL fun _ _ _ _ h => h) (da_cons (dv_name 13 (pv 13)) (da_cons (dv_name 5 (pv 5)) (da_nil)))))) (da_cons (dv_frz (de_hear (k := 6) T.h_heard tb [5, 13] (hr.mono (by decide)) (.one "a1" 0 _ _ rfl rfl rfl fun _ _ _ _ _ _ _ _ _ => ⟨_, rfl, rfl⟩) (lamD_by (by kernel_rfl)) (fun _ _ _ _ _ _ _ hr => de_cal T.k_merged_by (hr.mono (by decide)) (passes_call pL fun _ _ _ _ h => h) (da_cons (dv_name 5 (pv 5)) (da_cons (dv_name 13 (pv 13)) (da_nil)))))) (da_cons (dv_frz (de_hear (k := 6) T.h_heard tb [5, 13] (hr.mono (by decide)) (.one "a2" 0 _ _ rfl rfl rfl fun _ _ _ _ _ _ _ _ _ => ⟨_, rfl, rfl⟩) (lamD_by (by kernel_rfl)) (fun _ _ _ _ _ _ _ hr => de_cal T.k_common_to (hr.mono (by decide)) (passes_call pL fun _ _ _ _ h => h) (da_cons (dv_name 13 (pv 13)) (da_cons (dv_name 5 (pv 5)) (da_nil)))))) (da_nil))))))))) (dss_cons (ds_if (dt_ne hr.units (do_late 4 (pv 4)) (do_code (dv_frz (de_add (do_code (dv_frz (de_add (do_code (dv_frz (de_mul (do_code (dv_frz (de_lst (da_cons (dv_tup (da_cons (dv_str) (da_cons (dv_str) (da_nil)))) (da_nil))))) (do_code (dv_int))))) (do_code (dv_frz (de_mul (do_code (dv_frz (de_lst (da_cons (dv_tup (da_cons (dv_str) (da_cons (dv_str) (da_nil)))) (da_nil))))) (do_code (dv_int)))))))) (do_code (dv_frz (de_mul (do_code (dv_frz (de_lst (da_cons (dv_tup (da_cons (dv_str) (da_cons (dv_str) (da_nil)))) (da_nil))))) (do_code (dv_int)))))))) (nomark _)) (dss_one (ds_ret (de_im (dv_bl)))) (dss_nil)) (dss_cons (ds_set (i := 6) sc_law.nd rfl (.inr rfl) (de_cal T.k_law_pick (hr.mono (by decide)) pass0 (da_cons (dv_name 1 (pv 1)) (da_cons (dv_frz (de_lst (da_cons (dv_non) (da_cons (dv_int) (da_cons (dv_str) (da_cons (dv_frz (de_lst (da_cons (dv_frz (de_len (by rfl) T.n_len (do_late 13 (pv 13)))) (da_nil)))) (da_cons (dv_frz (de_lst (da_cons (dv_frz (de_neg (do_code (dv_int)))) (da_nil)))) (da_cons (dv_frz (de_lst (da_cons (dv_int) (da_cons (dv_int) (da_nil))))) (da_cons (dv_frz (de_lst (da_cons (dv_bl) (da_nil)))) (da_cons (dv_frz (de_lst (da_cons (dv_non) (da_nil)))) (da_cons (dv_frz (de_dnew)) (da_cons (dv_frz (de_lst (da_cons (dv_frz (de_lst (da_cons (dv_int) (da_nil)))) (da_nil)))) (da_nil))))))))))))) (da_nil))))) (dss_cons (ds_set (i := 7) sc_law.nd rfl (.inr rfl) (de_cal T.k_law_pick (hr.mono (by decide)) pass0 (da_cons (dv_name 1 (pv 1)) (da_cons (dv_frz (de_lst (da_cons (dv_non) (da_cons (dv_int) (da_cons (dv_str) (da_cons (dv_frz (de_lst (da_cons (dv_non) (da_nil)))) (da_cons (dv_frz (de_lst (da_cons (dv_bl) (da_nil)))) (da_cons (dv_frz (de_lst (da_cons (dv_tup (da_cons (dv_int) (da_nil))) (da_nil)))) (da_cons (dv_frz (de_dnew)) (da_cons (dv_frz (de_lst (da_cons (dv_int) (da_cons (dv_frz (de_lst (da_cons (dv_int) (da_nil)))) (da_nil))))) (da_cons (dv_frz (de_lst (da_cons (dv_int) (da_cons (dv_str) (da_cons (dv_non) (da_nil)))))) (da_nil)))))))))))) (da_nil))))) (dss_cons (ds_set (i := 8) sc_law.nd rfl (.inr rfl) (de_cal T.k_law_pick (hr.mono (by decide)) pass0 (da_cons (dv_name 1 (pv 1)) (da_cons (dv_frz (de_lst (da_cons (dv_non) (da_cons (dv_frz (de_neg (do_code (dv_int)))) (da_cons (dv_int) (da_cons (dv_bl) (da_cons (dv_str) (da_cons (dv_tup (da_cons (dv_int) (da_nil))) (da_cons (dv_frz (de_pow (do_code (dv_int)) (do_code (dv_int)))) (da_nil)))))))))) (da_nil))))) (dss_cons (ds_set (i := 4) sc_law.nd rfl (.inl rfl) (de_lst (da_cons (dv_frz (de_hear (k := 5) T.h_heard tb [6, 13] (hr.mono (by decide)) (.no (fun _ => rfl) fun _ _ _ _ _ _ _ => rfl) (lamD_by (by kernel_rfl)) (fun _ _ _ _ _ _ _ hr => de_cal T.k_part_on (hr.mono (by decide)) (passes_call pL fun _ _ _ _ h => h) (da_cons (dv_name 13 (pv 13)) (da_cons (dv_name 6 (pv 6)) (da_nil)))))) (da_cons (dv_frz (de_hear (k := 3) T.h_heard tb [7] (hr.mono (by decide)) (.one "a1" 0 _ _ rfl rfl rfl fun _ _ _ _ _ _ _ _ _ => ⟨_, rfl, rfl⟩) (lamD_by (by kernel_rfl)) (fun _ _ _ _ _ _ _ hr => de_cal T.k_parting_of (hr.mono (by decide)) (passes_call pL fun _ _ _ _ h => h) (da_cons (dv_name 7 (pv 7)) (da_nil))))) (da_cons (dv_frz (de_hear (k := 3) T.h_heard tb [8] (hr.mono (by decide)) (.one "a2" 0 _ _ rfl rfl rfl fun _ _ _ _ _ _ _ _ _ => ⟨_, rfl, rfl⟩) (lamD_by (by kernel_rfl)) (fun _ _ _ _ _ _ _ hr => de_cal T.k_all_partings (hr.mono (by decide)) (passes_call pL fun _ _ _ _ h => h) (da_cons (dv_name 8 (pv 8)) (da_nil))))) (da_nil)))))) (dss_one (ds_if (dt_ne hr.units (do_late 4 (pv 4)) (do_code (dv_frz (de_lst (da_cons (dv_tup (da_cons (dv_str) (da_cons (dv_str) (da_nil)))) (da_cons (dv_tup (da_cons (dv_str) (da_cons (dv_str) (da_nil)))) (da_cons (dv_tup (da_cons (dv_str) (da_cons (dv_str) (da_nil)))) (da_nil))))))) (nomark _)) (dss_one (ds_ret (de_im (dv_bl)))) (dss_nil))))))))))))))))) (dss_cons (ds_asg (dv_tup (da_cons (dv_frz (de_tupRange rfl (by rfl) T.n_tuple (by rfl) T.n_range (dv_int))) (da_cons (dv_frz (de_mul (do_code (dv_tup (da_cons (dv_int) (da_nil)))) (do_code (dv_int)))) (da_nil)))) (dg_tup rfl (dgs_cons (dg_name sc_law.nd rfl (.inr rfl)) (dgs_cons (dg_name sc_law.nd rfl (.inr rfl)) (dgs_nil))))) (dss_cons (ds_set (i := 4) sc_law.nd rfl (.inl rfl) (de_lst (da_cons (dv_frz (de_hear (k := 5) T.h_heard tb [9] (hr.mono (by decide)) (.no (fun _ => rfl) fun _ _ _ _ _ _ _ => rfl) (lamD_by (by kernel_rfl)) (fun _ _ _ _ _ _ _ hr => de_cal T.k_coarser_ones (hr.mono (by decide)) (passes_call pL fun _ _ _ _ h => h) (da_cons (dv_name 9 (pv 9)) (da_nil))))) (da_cons (dv_frz (de_hear (k := 5) T.h_heard tb [10] (hr.mono (by decide)) (.one "a1" 0 _ _ rfl rfl rfl fun _ _ _ _ _ _ _ _ _ => ⟨_, rfl, rfl⟩) (lamD_by (by kernel_rfl)) (fun _ _ _ _ _ _ _ hr => de_cal T.k_finer_ones (hr.mono (by decide)) (passes_call pL fun _ _ _ _ h => h) (da_cons (dv_name 10 (pv 10)) (da_nil))))) (da_cons (dv_frz (de_hear (k := 5) T.h_heard tb [9] (hr.mono (by decide)) (.one "a2" 0 _ _ rfl rfl rfl fun _ _ _ _ _ _ _ _ _ => ⟨_, rfl, rfl⟩) (lamD_by (by kernel_rfl)) (fun _ _ _ _ _ _ _ hr => de_cal T.k_finer_ones (hr.mono (by decide)) (passes_call pL fun _ _ _ _ h => h) (da_cons (dv_name 9 (pv 9)) (da_nil))))) (da_nil)))))) (dss_one (ds_ret (de_and (de_eq hr.units (do_late 4 (pv 4)) (do_code (dv_frz (de_mul (do_code (dv_frz (de_lst (da_cons (dv_tup (da_cons (dv_str) (da_cons (dv_str) (da_nil)))) (da_nil))))) (do_code (dv_int))))) (nomark _)) (de_and (de_eq hr.units (do_code (dv_frz (de_cal T.k_coarser_ones (hr.mono (by decide)) passX0 (da_cons (dv_name 10 (pv 10)) (da_nil))))) (do_code (dv_tup (da_cons (dv_name 10 (pv 10)) (da_nil)))) (nomark _)) (de_and (de_eq hr.units (do_code (dv_frz (de_len (by rfl) T.n_len (do_code (dv_frz (de_cal T.k_coarser_ones (hr.mono (by decide)) passX0 (da_cons (dv_frz (de_add (do_code (dv_frz (de_tupRange rfl (by rfl) T.n_tuple (by rfl) T.n_range (dv_int)))) (do_code (dv_tup (da_cons (dv_int) (da_cons (dv_int) (da_nil))))))) (da_nil)))))))) (do_code (dv_int)) (nomark _)) (de_one (de_eq hr.units (do_code (dv_frz (de_cal T.k_finer_ones (hr.mono (by decide)) passX0 (da_cons (dv_frz (de_tupRange rfl (by rfl) T.n_tuple (by rfl) T.n_range (dv_int))) (da_nil))))) (do_code (dv_tup (da_cons (dv_frz (de_tupRange rfl (by rfl) T.n_tuple (by rfl) T.n_range (dv_int))) (da_nil)))) (nomark _))))))))))))
    refine ⟨_, (pss_cons (st := (defBody s_law).headD (.Pass ⟨0, 0, 0, 0⟩)) (ps_set (i := 1) sc_law.nd rfl (.inr rfl) (pe_call Fp (hr.mono (by decide)) (by rfl) mp kp bp .nil pass0 (pa_cons (pv 0) pa_nil))) rest).nox, ?_⟩
    refine ⟨.ref a, rfl, a, ns, rfl, hS, hlen, fun H' p l sm hp hl => ?_⟩
    obtain ⟨c, S, hK, t⟩ := pen_start (K := K) (E := e_law) (σ := (L2.start ["script", "pen", "wrong", "turn", "heard", "longer", "things", "labels", "number", "wide", "deep", "odd", "bad", "fine", "at"] [V.ref a]).set 1 (some (.ref p))) hp hl rfl (hT.ext sm) (fun i s e n => by
      match i, e with
      | 0, e => exact absurd (Option.some.inj e).symm n
      | 1, e => exact ⟨(Option.some.inj e).symm, rfl⟩
      | i + 2, e =>
        have e2 : (List.replicate 13 Sl.un)[i]? = some s := e
        exact absurd (List.eq_of_mem_replicate (List.mem_of_getElem? e2)) n)
    refine ⟨c, S, e_law, ⟨ns, 0, 0⟩, hK, t, ?_⟩
    obtain ⟨E', ps', eq⟩ := sem ns hlen hbits
    rw [eq]
    intro σ' S' H2 sm2 t2 v n ok
    have ok : v = .bl true := ok
    subst ok
    exact q H2
end Cl
namespace Cl
open PySem PySem.Spec PyProof.Rows L2 Dl Dh
local instance : LawT := ⟨[], fun _ => 0⟩
theorem run_fnX {N : Nat} {body : M Fl} {args : List D} {r : Sl} {E' : List Sl} {ps ps' : Pn} (h : body (envF N args) ps = .ok (.ret r) E' ps') : runF N body args ps = .ok r ps' := by
  unfold runF
  rw [h]; rfl
/-! ### ints and sequences -/
theorem is_integer_int (i : Int) (ps : Pn) : f_is_integer [.int i] ps = .ok (.im (.bl true)) ps := by rfl
theorem is_integer_str (i : Str) (ps : Pn) : f_is_integer [.str i] ps = .ok (.im (.bl false)) ps := by rfl
theorem is_between_int (a b c : Int) (ps : Pn) : f_is_between [.int a, .int b, .int c] ps = .ok (.im (.bl (decide (b ≤ a) && decide (a ≤ c)))) ps := by
  show calmF (outF (b_is_between [.im (.int a), .im (.int b), .im (.int c)] ps)) = _
  have e : b_is_between [.im (.int a), .im (.int b), .im (.int c)] ps = .ok (.ret (.im (.bl (decide (b ≤ a) && decide (a ≤ c))))) [.im (.int a), .im (.int b), .im (.int c)] ps := by
    by_cases h : b ≤ a
    · simp [b_is_between, retM, andE, callM, argsM, M.bnd, M.ret, nameV, applyF, is_integer_int, asB, chainM, kLe, kOrd, im1, h]
    · simp [b_is_between, retM, andE, callM, argsM, M.bnd, M.ret, nameV, applyF, is_integer_int, asB, chainM, kLe, kOrd, im1, h]
  rw [e]; rfl
theorem is_listed_tup (xs : List D) (ps : Pn) : f_is_listed [.tup xs] ps = .ok (.im (.bl true)) ps := by rfl
theorem is_listed_lst (xs : List D) (ps : Pn) : f_is_listed [.lst xs] ps = .ok (.im (.bl true)) ps := by rfl
/-! ### numbers by first meeting -/
def idxD {α : Type} [DecidableEq α] (k : α) : List α → Nat
  | [] => 0
  | x :: r => if x = k then 0 else idxD k r + 1
def toldG {α : Type} [DecidableEq α] (seen : List α) : List α → List Nat
  | [] => []
  | k :: r => if memD k seen then idxD k seen :: toldG seen r else seen.length :: toldG (seen ++ [k]) r
def toldL {α : Type} [DecidableEq α] (l : List α) : List Nat := toldG [] l
def kvsF : Nat → List D → List (D × D)
  | _, [] => []
  | n, d :: r => (d, dN n) :: kvsF (n + 1) r
theorem kvsF_len : ∀ (n : Nat) (ds : List D), (kvsF n ds).length = ds.length
  | _, [] => rfl
  | n, d :: r => by
    show (kvsF (n + 1) r).length + 1 = r.length + 1
    rw [kvsF_len]
theorem kvsF_snoc : ∀ (n : Nat) (ds : List D) (d : D), kvsF n (ds ++ [d]) = kvsF n ds ++ [(d, dN (n + ds.length))]
  | n, [], d => rfl
  | n, x :: r, d => by
    show (x, dN n) :: kvsF (n + 1) (r ++ [d]) = _
    rw [kvsF_snoc (n + 1) r d, List.length_cons]
    show _ = (x, dN n) :: (kvsF (n + 1) r ++ _)
    rw [show n + 1 + r.length = n + (r.length + 1) by omega]
theorem dAt_kvsF : ∀ (n : Nat) (ds : List D) (ks : List KD) (k : KD), ds.map kD = ks.map some → dAt (kvsF n ds) k = if memD k ks then some (dN (n + idxD k ks)) else none
  | n, [], ks, k, e => by
    have : ks = [] := by
      have z := congrArg List.length e
      rw [List.length_map, List.length_map] at z
      exact List.eq_nil_of_length_eq_zero z.symm
    subst this
    rfl
  | n, d :: r, [], k, e => by cases e
  | n, d :: r, j :: ks, k, e => by
    rw [List.map_cons, List.map_cons] at e
    injection e with e1 e2
    show (if kD d = some k then some (dN n) else dAt (kvsF (n + 1) r) k) = _
    rw [e1, dAt_kvsF (n + 1) r ks k e2]
    have em : memD k (j :: ks) = (decide (j = k) || memD k ks) := List.any_cons
    have ei : idxD k (j :: ks) = if j = k then 0 else idxD k ks + 1 := rfl
    rw [em, ei]
    by_cases z : j = k
    · subst z
      rw [if_pos rfl, if_pos rfl, decide_eq_true rfl, Bool.true_or, if_pos rfl, Nat.add_zero]
    · rw [if_neg (fun q => z (Option.some.inj q)), if_neg z, decide_eq_false z, Bool.false_or, show n + 1 + idxD k ks = n + (idxD k ks + 1) by omega]
/-- labels that are keys of one kind -/
def Keyed1 (ds : List D) (ks : List KD) : Prop := ds.map kD = ks.map some ∧ ((∀ k ∈ ks, ∃ x, k = .inl x) ∨ ∀ k ∈ ks, ∃ x, k = .inr x)
theorem all_kvsF {k : KD} {P : D → Bool} : ∀ (n : Nat) (ds : List D), (∀ d ∈ ds, P d = true) → (kvsF n ds).all (fun q => P q.1) = true
  | _, [], _ => rfl
  | n, d :: r, h => by
    show (P d && (kvsF (n + 1) r).all _) = true
    rw [h d List.mem_cons_self, all_kvsF (k := k) (n + 1) r fun x hx => h x (List.mem_cons_of_mem _ hx)]
    rfl
/-- one setdefault -/
theorem setd_step {seen : List D} {ks : List KD} {d : D} {k : KD} (e : seen.map kD = ks.map some) (ek : kD d = some k) (same : ∀ x ∈ seen, okKey k x = true) (hl : seen.length + 1 ≤ 16777216) :
    setdF d (dN seen.length) (kvsF 0 seen) = some (if memD k ks then (kvsF 0 seen, dN (idxD k ks)) else (kvsF 0 (seen ++ [d]), dN seen.length)) := by
  unfold setdF
  rw [ek]
  simp only
  rw [all_kvsF (k := k) 0 seen same, kvsF_len, fits_of hl, dAt_kvsF 0 seen ks k e]
  simp only [Bool.and_self, if_true]
  cases memD k ks with
  | true => simp
  | false => simp [kvsF_snoc]
abbrev Seen := List (D × KD)
def stpT (s : Seen) (d : D) : Option D × Seen := match kD d with
  | some k => if memD k (s.map (·.2)) then (some (dN (idxD k (s.map (·.2)))), s) else (some (dN s.length), s ++ [(d, k)])
  | none => (none, s)
def Kind1 (ks : List KD) : Prop := (∀ k ∈ ks, ∃ x, k = .inl x) ∨ ∀ k ∈ ks, ∃ x, k = .inr x
def okT (s : Seen) (r : List D) : Prop := (∀ q ∈ s, kD q.1 = some q.2) ∧ (∃ kr, r.map kD = kr.map some ∧ Kind1 (s.map (·.2) ++ kr)) ∧ s.length + r.length ≤ 1000
theorem okKey_same {k : KD} {ks : List KD} (h : Kind1 (ks ++ [k])) {d : D} {j : KD} (e : kD d = some j) (hj : j ∈ ks) : okKey k d = true := by
  unfold okKey
  rw [e]
  rcases h with h | h
  · obtain ⟨x, rfl⟩ := h k (by simp)
    obtain ⟨y, rfl⟩ := h j (by simp [hj])
    rfl
  · obtain ⟨x, rfl⟩ := h k (by simp)
    obtain ⟨y, rfl⟩ := h j (by simp [hj])
    rfl
theorem out_told : ∀ (r : List D) (kr : List KD) (s : Seen), r.map kD = kr.map some → outL stpT s r = (toldG (s.map (·.2)) kr).map dN
  | [], [], s, _ => rfl
  | [], _ :: _, s, e => by cases e
  | _ :: _, [], s, e => by cases e
  | d :: r, k :: kr, s, e => by
    rw [List.map_cons, List.map_cons] at e
    injection e with e1 e2
    show (stpT s d).1.toList ++ outL stpT (stpT s d).2 r = _
    unfold stpT toldG
    rw [e1]
    simp only
    cases h : memD k (s.map (·.2)) with
    | true =>
      simp only [if_true]
      have z := out_told r kr s e2
      unfold stpT at z
      rw [z]; rfl
    | false =>
      simp only [Bool.false_eq_true, if_false]
      have z := out_told r kr (s ++ [(d, k)]) e2
      unfold stpT at z
      rw [z, List.map_append, List.length_map]; rfl
theorem Kind1.sub {a b : List KD} (h : Kind1 b) (s : ∀ k ∈ a, k ∈ b) : Kind1 a := h.imp (fun z k hk => z k (s k hk)) fun z k hk => z k (s k hk)
theorem stpT_ok {s : Seen} {d : D} {r : List D} (h : okT s (d :: r)) : okT (stpT s d).2 r := by
  obtain ⟨h1, ⟨kr, h2, h3⟩, h4⟩ := h
  cases kr with
  | nil => cases h2
  | cons k kr =>
    rw [List.map_cons, List.map_cons] at h2
    injection h2 with e1 e2
    rw [List.length_cons] at h4
    unfold stpT
    rw [e1]
    simp only
    cases hm : memD k (s.map (·.2)) with
    | true => exact ⟨h1, ⟨kr, e2, h3.sub fun j hj => by simp at hj ⊢; rcases hj with q | q <;> simp [q]⟩, by show s.length + r.length ≤ 1000; omega⟩
    | false =>
      show okT (s ++ [(d, k)]) r
      refine ⟨fun q hq => ?_, ⟨kr, e2, ?_⟩, ?_⟩
      · rcases List.mem_append.mp hq with z | z
        · exact h1 q z
        · rw [List.mem_singleton.mp z]; exact e1
      · rw [List.map_append, List.append_assoc]; exact h3
      · show (s ++ [(d, k)]).length + r.length ≤ 1000
        rw [List.length_append, List.length_singleton]; omega
theorem itemsM_name {k : Nat} {E : List Sl} {ps : Pn} {d : D} {ds : List D} (e : E[k]? = some (.im d)) (h : seqD d = some ds) : itemsM (nameV k) E ps = .ok ds E ps := by
  unfold itemsM M.bnd nameV
  rw [e]
  cases d <;> first | (cases h; rfl) | cases h
theorem told_step (d0 : D) (ps : Pn) (s : Seen) (d : D) (r acc : List D) (h : okT s (d :: r)) (hf : fits (acc.length + 1) = true) (rest : List D → M (List D)) :
    M.bnd (tgN 2 d) (fun _ => lcK [2] (M.ret true) (frzM (setdM 1 (nameV 2) (frzM (ops [.late 1] kLen)))) rest acc) [.im d0, .od (kvsF 0 (s.map (·.1))), .un] ps =
      rest (acc ++ (stpT s d).1.toList) [.im d0, .od (kvsF 0 ((stpT s d).2.map (·.1))), .un] ps := by
  obtain ⟨h1, ⟨kr, h2, h3⟩, h4⟩ := h
  cases kr with
  | nil => cases h2
  | cons k kr =>
    rw [List.map_cons, List.map_cons] at h2
    injection h2 with e1 e2
    rw [List.length_cons] at h4
    have em : (s.map (·.1)).map kD = (s.map (·.2)).map some := by
      rw [List.map_map, List.map_map]
      exact List.map_congr_left fun q hq => h1 q hq
    have st := setd_step (seen := s.map (·.1)) (ks := s.map (·.2)) (d := d) (k := k) em e1 (fun x hx => by
      obtain ⟨q, hq, rfl⟩ := List.mem_map.mp hx
      exact okKey_same (ks := s.map (·.2)) (h3.sub fun j hj => by simp at hj ⊢; rcases hj with q | q <;> simp [q]) (h1 q hq) (List.mem_map.mpr ⟨q, hq, rfl⟩)) (by rw [List.length_map]; omega)
    have ev : frzM (setdM 1 (nameV 2) (frzM (ops [.late 1] kLen))) [.im d0, .od (kvsF 0 (s.map (·.1))), .im d] ps = .ok (if memD k (s.map (·.2)) then dN (idxD k (s.map (·.2))) else dN s.length) [.im d0, .od (if memD k (s.map (·.2)) then kvsF 0 (s.map (·.1)) else kvsF 0 (s.map (·.1) ++ [d])), .im d] ps := by
      have len : frzM (ops [.late 1] kLen) [.im d0, .od (kvsF 0 (s.map (·.1))), .im d] ps = .ok (dN s.length) [.im d0, .od (kvsF 0 (s.map (·.1))), .im d] ps := by
        refine (run_frz ((run_l1 (s := .od (kvsF 0 (s.map (·.1)))) rfl (fun z => by cases z)).trans (show _ = Out.ok (Sl.im (D.int ((kvsF 0 (s.map (·.1))).length : Nat))) _ _ from rfl))).trans ?_
        rw [kvsF_len, List.length_map]; rfl
      refine run_frz (r := .im (if memD k (s.map (·.2)) then dN (idxD k (s.map (·.2))) else dN s.length)) ?_
      show M.bnd (frzM (ops [.late 1] kLen)) (fun z => modD 1 (setdF d z)) [.im d0, .od (kvsF 0 (s.map (·.1))), .im d] ps = _
      rw [bnd_ok len]
      show (match setdF d (dN s.length) (kvsF 0 (s.map (·.1))) with
        | some (ys, r) => Out.ok (Sl.im r) [.im d0, .od ys, .im d] ps
        | none => .bad) = _
      rw [List.length_map] at st
      rw [st]
      cases memD k (s.map (·.2)) <;> rfl
    refine (run_lck (own := [2]) (rest := rest) hf ev).trans ?_
    unfold stpT
    rw [e1]
    simp only
    cases memD k (s.map (·.2)) with
    | true => rfl
    | false => simp only [Bool.false_eq_true, if_false, List.map_append]; rfl
theorem told_sem {d : D} {ds : List D} {ks : List KD} (hd : seqD d = some ds) (e : ds.map kD = ks.map some) (hk : Kind1 ks) (hl : ds.length ≤ 1000) (ps : Pn) : f_told_by [d] ps = .ok (.im (.tup ((toldL ks).map dN))) ps := by
  have z := lcG_fold (own := [2]) (tg := tgN 2) (tt := M.ret true) (te := frzM (setdM 1 (nameV 2) (frzM (ops [.late 1] kLen)))) (fun s : Seen => [.im d, .od (kvsF 0 (s.map (·.1))), .un]) (fun _ => ps) stpT okT
    (fun s d' r acc h hf => ⟨told_step d ps s d' r acc h hf, stpT_ok h⟩) ds [] [] ⟨(fun q hq => by cases hq), ⟨ks, e, hk⟩, by simpa using hl⟩ (by simp; omega)
  rw [out_told ds ks [] e] at z
  have y := lcM_of (own := [2]) (gi := itemsM (nameV 0)) (E := [.im d, .od [], .un]) (itemsM_name (ps := ps) (by rfl) hd) (by rfl) z
  exact run_fn ((run_seq (run_set rfl)).trans (run_ret ((run_c1 (run_frz y)).trans rfl)))
end Cl
namespace Cl
open PySem PySem.Spec PyProof.Rows L2 Dl Dh Cm
local instance : LawT := ⟨[], fun _ => 0⟩
/-! ### partings -/
def pD (l : List Nat) : D := .tup (l.map dN)
def IsP (l : List Nat) : Prop := rgC 0 l = true
theorem between_n {n k : Nat} (h : n ≤ k) (ps : Pn) : f_is_between [dN n, .int 0, dN k] ps = .ok (.im (.bl true)) ps := by
  rw [show f_is_between [dN n, .int 0, dN k] ps = _ from is_between_int (n : Int) 0 (k : Int) ps]
  rw [decide_eq_true (by omega : (0 : Int) ≤ (n : Int)), decide_eq_true (by omega : (n : Int) ≤ (k : Int))]
  rfl
def embP (d : D) (s : Nat × Sl) : List Sl := [.im d, .im .non, .im (dN s.1), s.2]
def stpP (s : Nat × Sl) (x : D) : Nat × Sl := match x with
  | .int i => (max s.1 (i.toNat + 1), .im x)
  | _ => s
theorem isP_step (d : D) (ps : Pn) (s : Nat × Sl) (n : Nat) (h : n ≤ s.1) (k : M Fl) :
    M.bnd (tgN 3 (dN n)) (fun _ => M.bnd (seqM (iteM (notM (truthM (callM (argsM [nameV 3, M.ret (.int 0), nameV 2]) 3 f_is_between []))) (retM (imM (M.ret (.bl false)))) (M.ret .next)) (setM 2 (ops [.late 2, .code (frzM (ops [.late 3, .code (M.ret (.int 1))] kAdd))] kMax2))) (afterK k)) (embP d s) ps = k (embP d (stpP s (dN n))) ps := by
  obtain ⟨kn, x⟩ := s
  refine run_tgN.trans (run_afterN (E' := embP d (stpP (kn, x) (dN n))) ?_)
  refine (run_seq (run_iteF (run_not (run_truth (run_call (ds := [dN n, .int 0, dN kn]) (run_args (run_name rfl) (run_args rfl (run_args (run_name rfl) run_args0))) rfl (between_n h ps) im_ne))))).trans ?_
  refine (run_set ((run_lc (s := .im (dN kn)) rfl im_ne (run_frz ((run_lc (s := .im (dN n)) rfl im_ne rfl rfl im_ne).trans rfl)) (s' := .im (dN kn)) rfl im_ne).trans (show kMax2 [D.int (kn : Int), D.int ((n : Int) + 1)] _ _ = Out.ok (Sl.im (D.int (if (n : Int) + 1 > (kn : Int) then (n : Int) + 1 else (kn : Int)))) _ _ from rfl))).trans ?_
  have e : (if (n : Int) + 1 > (kn : Int) then (n : Int) + 1 else (kn : Int)) = ((max kn (n + 1) : Nat) : Int) := by
    split <;> omega
  rw [e]
  rfl
theorem isP_loop (d : D) (ps : Pn) : ∀ (l : List Nat) (s : Nat × Sl), rgC s.1 l = true → forG (tgN 3) (seqM (iteM (notM (truthM (callM (argsM [nameV 3, M.ret (.int 0), nameV 2]) 3 f_is_between []))) (retM (imM (M.ret (.bl false)))) (M.ret .next)) (setM 2 (ops [.late 2, .code (frzM (ops [.late 3, .code (M.ret (.int 1))] kAdd))] kMax2))) (l.map dN) (embP d s) ps = .ok .next (embP d ((l.map dN).foldl stpP s)) ps
  | [], s, _ => rfl
  | n :: r, s, h => by
    have h : (decide (n ≤ s.1) && rgC (max s.1 (n + 1)) r) = true := h
    rw [Bool.and_eq_true] at h
    refine (isP_step d ps s n (of_decide_eq_true h.1) _).trans ?_
    exact isP_loop d ps r (stpP s (dN n)) h.2
theorem is_parting_sem {d : D} {l : List Nat} (hd : seqD d = some (l.map dN)) (h : IsP l) (ps : Pn) : f_is_parting [d, .non] ps = .ok (.im (.bl true)) ps := by
  refine run_fn (E' := embP d ((l.map dN).foldl stpP (0, .un))) ?_
  have hl : f_is_listed [d] ps = .ok (.im (.bl true)) ps := by
    cases d <;> first | rfl | cases hd
  refine (run_seq (run_iteF (run_orF (run_not (run_truth (run_call (ds := [d]) (run_args (run_name rfl) run_args0) rfl hl im_ne))) |>.trans (run_andF (run_test ((run_lc (s := .im .non) rfl im_ne rfl (s' := .im .non) rfl im_ne).trans rfl)))))).trans ?_
  refine (run_seq (run_set (r := .im (.int 0)) rfl)).trans ?_
  refine (run_seq ((run_for (ds := l.map dN) (itemsM_name rfl hd)).trans (isP_loop d ps l (0, .un) h))).trans ?_
  rfl
theorem need_parting_sem {d x : D} {l : List Nat} (hd : seqD d = some (l.map dN)) (h : IsP l) (ps : Pn) : f_need_parting [x, d, .non] ps = .ok (.im (pD l)) ps := by
  refine run_fnX (E' := [.im x, .im d, .im .non]) ?_
  refine (run_seq (run_iteF (run_not (run_truth (run_call (ds := [d, .non]) (run_args (run_name rfl) (run_args (run_name rfl) run_args0)) rfl (is_parting_sem hd h ps) im_ne))))).trans ?_
  refine run_ret ((run_l1 (s := .im d) rfl im_ne).trans ?_)
  cases d <;> first | (cases hd; rfl) | cases hd
theorem need_both_sem {d d' : D} {l l' : List Nat} (hd : seqD d = some (l.map dN)) (h : IsP l) (hd' : seqD d' = some (l'.map dN)) (h' : IsP l') (e : l.length = l'.length) (ps : Pn) : f_need_both [d, d'] ps = .ok (.im (.tup [pD l, pD l'])) ps := by
  refine run_fnX (E' := [.im d, .im d', .im (pD l), .im (pD l')]) ?_
  have p1 : par2M 2 3 (callM (argsM [M.ret (.str "one"), nameV 0]) 3 f_need_parting [.non]) (callM (argsM [M.ret (.str "other"), nameV 1]) 3 f_need_parting [.non]) [.im d, .im d', .un, .un] ps = .ok .next [.im d, .im d', .im (pD l), .im (pD l')] ps := by
    refine (bnd_ok (run_call (ds := [.str "one", d]) (run_args rfl (run_args (run_name rfl) run_args0)) rfl (need_parting_sem hd h ps) im_ne)).trans ?_
    exact (bnd_ok (run_call (ds := [.str "other", d']) (run_args rfl (run_args (run_name rfl) run_args0)) rfl (need_parting_sem hd' h' ps) im_ne)).trans rfl
  refine (run_seq p1).trans ?_
  have t1 : testM (ops [.code (frzM (ops [.late 2] kLen)), .code (frzM (ops [.late 3] kLen))] kNe) [.im d, .im d', .im (pD l), .im (pD l')] ps = .ok false [.im d, .im d', .im (pD l), .im (pD l')] ps := by
    refine run_test ((run_cc (run_frz ((run_l1 (s := .im (pD l)) rfl im_ne).trans (show _ = Out.ok (Sl.im (D.int ((l.map dN).length : Nat))) _ _ from rfl))) (run_frz ((run_l1 (s := .im (pD l')) rfl im_ne).trans (show _ = Out.ok (Sl.im (D.int ((l'.map dN).length : Nat))) _ _ from rfl)))).trans ?_)
    rw [List.length_map, List.length_map, e]
    exact (kNe_n l'.length l'.length _ _).trans (by rw [beq_self_eq_true]; rfl)
  refine (run_seq (run_iteF t1)).trans ?_
  exact run_ret (run_im (run_tup (run_args (run_name rfl) (run_args (run_name rfl) run_args0)) (by rfl)))
end Cl
namespace Cl
open PySem PySem.Spec PyProof.Rows L2 Dl Dh Cm
local instance : LawT := ⟨[], fun _ => 0⟩
/-! ### blocks -/
theorem maxL_blk : ∀ (n : Nat) (r : List Nat), maxL ((n :: r).map fun n : Nat => (n : Int)) + 1 = (blkN (n :: r) : Nat)
  | n, [] => by show (n : Int) + 1 = ((max (n + 1) 0 : Nat) : Int); omega
  | n, m :: r => by
    have ih := maxL_blk m r
    have e : blkN (n :: m :: r) = max (n + 1) (blkN (m :: r)) := rfl
    rw [e]
    show (if maxL ((m :: r).map fun n : Nat => (n : Int)) > (n : Int) then maxL ((m :: r).map fun n : Nat => (n : Int)) else (n : Int)) + 1 = _
    split <;> omega
theorem blocks_sem (l : List Nat) (ps : Pn) : f_blocks_of [pD l] ps = .ok (.im (dN (blkN l))) ps := by
  have h1 : frzM (ops [.late 0, .code (frzM (ops [.code (M.ret (.int 1))] kNeg))] kMaxD) [.im (pD l)] ps = .ok (.int (((blkN l : Nat) : Int) - 1)) [.im (pD l)] ps := by
    refine (run_frz ((run_lc (s := .im (pD l)) (d := .int (-1)) rfl im_ne rfl (s' := .im (pD l)) rfl im_ne).trans (show maxDO (asIs (l.map dN)) (-1) [.im (pD l)] ps = .ok (.im (.int (((blkN l : Nat) : Int) - 1))) [.im (pD l)] ps from ?_))).trans rfl
    rw [asIs_dN]
    cases l with
    | nil => rfl
    | cons n r =>
      have z := maxL_blk n r
      show im1 (.int (maxL ((n :: r).map fun n : Nat => (n : Int)))) _ _ = _
      rw [show maxL ((n :: r).map fun n : Nat => (n : Int)) = ((blkN (n :: r) : Nat) : Int) - 1 by omega]
      rfl
  refine run_fn (E' := [.im (pD l)]) (run_ret ((run_cc (e := .int 1) (E2 := [.im (pD l)]) (ps2 := ps) h1 rfl).trans (show im1 (.int (((blkN l : Nat) : Int) - 1 + 1)) _ _ = _ from ?_)))
  rw [show ((blkN l : Nat) : Int) - 1 + 1 = ((blkN l : Nat) : Int) by omega]
  rfl
/-! ### over -/
def seeC (t : Nat) : List (Nat × Nat) → Option Nat
  | [] => none
  | (k, v) :: r => if k = t then some v else seeC t r
def overG (s : List (Nat × Nat)) : List (Nat × Nat) → List Bool
  | [] => []
  | (m, t) :: r => match seeC t s with
    | some v => (v == m) :: overG s r
    | none => true :: overG (s ++ [(t, m)]) r
def overC (a b : List Nat) : Bool := (overG [] (a.zip b)).all id
def nnD (q : Nat × Nat) : D × D := (dN q.1, dN q.2)
def zpD (q : Nat × Nat) : D := .tup [dN q.1, dN q.2]
theorem zipL_n : ∀ (a b : List Nat), zipL (a.map dN) (b.map dN) = (a.zip b).map zpD
  | [], _ => rfl
  | _ :: _, [] => rfl
  | x :: a, y :: b => by
    show D.tup [dN x, dN y] :: zipL (a.map dN) (b.map dN) = _
    rw [zipL_n a b]; rfl
theorem dAt_nn (t : Nat) : ∀ s : List (Nat × Nat), dAt (s.map nnD) (.inl (.inl (t : Int))) = (seeC t s).map dN
  | [] => rfl
  | (k, v) :: r => by
    show (if kD (dN k) = some (.inl (.inl (t : Int))) then some (dN v) else dAt (r.map nnD) _) = ((if k = t then some v else seeC t r).map dN)
    rw [dAt_nn t r]
    have e : kD (dN k) = some (.inl (.inl (k : Int))) := rfl
    rw [e]
    by_cases h : k = t
    · rw [if_pos (by rw [h]), if_pos h]; rfl
    · rw [if_neg (fun z => h (by injection z with z; injection z with z; injection z with z; omega)), if_neg h]
theorem setd_nn (t m : Nat) (s : List (Nat × Nat)) (hl : s.length + 1 ≤ 16777216) : setdF (dN t) (dN m) (s.map nnD) = some (match seeC t s with
    | some v => (s.map nnD, dN v)
    | none => ((s ++ [(t, m)]).map nnD, dN m)) := by
  unfold setdF
  have e : kD (dN t) = some (.inl (.inl (t : Int))) := rfl
  rw [e]
  simp only
  have al : (s.map nnD).all (fun q => okKey (.inl (.inl (t : Int))) q.1) = true := by
    rw [List.all_eq_true]
    intro q hq
    obtain ⟨x, _, rfl⟩ := List.mem_map.mp hq
    rfl
  rw [al, List.length_map, fits_of hl, dAt_nn t s]
  simp only [Bool.and_self, if_true]
  cases seeC t s with
  | some v => rfl
  | none => simp [nnD]
def ovE (a b : List Nat) (s : List (Nat × Nat)) : List Sl := [.im (pD a), .im (pD b), .od (s.map nnD), .un, .un]
def ovS (s : List (Nat × Nat)) (q : Nat × Nat) : Bool × List (Nat × Nat) := match seeC q.2 s with
  | some v => (v == q.1, s)
  | none => (true, s ++ [(q.2, q.1)])
theorem over_step (a b : List Nat) (ps : Pn) (s : List (Nat × Nat)) (q : Nat × Nat) (hl : s.length + 1 ≤ 16777216) (acc : List D) (hf : fits (acc.length + 1) = true) (rest : List D → M (List D)) :
    M.bnd (tgT' 2 [tgN 3, tgN 4] (zpD q)) (fun _ => lcK [3, 4] (M.ret true) (frzM (ops [.code (frzM (setdM 2 (nameV 4) (nameV 3))), .late 3] kEq)) rest acc) (ovE a b s) ps = rest (acc ++ [.bl (ovS s q).1]) (ovE a b (ovS s q).2) ps := by
  obtain ⟨m, t⟩ := q
  have st := setd_nn t m s hl
  have ev : setdM 2 (nameV 4) (nameV 3) [.im (pD a), .im (pD b), .od (s.map nnD), .im (dN m), .im (dN t)] ps = .ok (.im (match seeC t s with | some v => dN v | none => dN m)) [.im (pD a), .im (pD b), .od ((ovS s (m, t)).2.map nnD), .im (dN m), .im (dN t)] ps := by
    show (match setdF (dN t) (dN m) (s.map nnD) with
      | some (ys, r) => Out.ok (Sl.im r) [.im (pD a), .im (pD b), .od ys, .im (dN m), .im (dN t)] ps
      | none => .bad) = _
    rw [st]
    unfold ovS
    simp only
    cases seeC t s <;> rfl
  have ev2 : frzM (ops [.code (frzM (setdM 2 (nameV 4) (nameV 3))), .late 3] kEq) [.im (pD a), .im (pD b), .od (s.map nnD), .im (dN m), .im (dN t)] ps = .ok (.bl (ovS s (m, t)).1) [.im (pD a), .im (pD b), .od ((ovS s (m, t)).2.map nnD), .im (dN m), .im (dN t)] ps := by
    refine (run_frz ((run_cl (run_frz ev) (s' := .im (dN m)) rfl im_ne).trans (show _ = Out.ok (Sl.im (.bl (ovS s (m, t)).1)) _ _ from ?_))).trans rfl
    unfold ovS
    simp only
    cases seeC t s with
    | some v => exact kEq_n v m _ ps
    | none => exact (kEq_n m m _ ps).trans (by rw [beq_self_eq_true])
  exact (run_lck (own := [3, 4]) (rest := rest) hf ev2).trans rfl
theorem over_loop (a b : List Nat) (ps : Pn) : ∀ (z : List (Nat × Nat)) (s : List (Nat × Nat)) (acc : List D), s.length + z.length ≤ 16777216 → acc.length + z.length ≤ 16777216 →
    ∃ s', lcG [3, 4] (tgT' 2 [tgN 3, tgN 4]) (M.ret true) (frzM (ops [.code (frzM (setdM 2 (nameV 4) (nameV 3))), .late 3] kEq)) (z.map zpD) acc (ovE a b s) ps = .ok (acc ++ (overG s z).map .bl) (ovE a b s') ps
  | [], s, acc, _, _ => ⟨s, by rw [show (overG s []).map D.bl = [] from rfl, List.append_nil]; rfl⟩
  | q :: r, s, acc, h1, h2 => by
    rw [List.length_cons] at h1 h2
    have hl : (ovS s q).2.length ≤ s.length + 1 := by
      unfold ovS
      cases seeC q.2 s <;> simp
    obtain ⟨s', e⟩ := over_loop a b ps r (ovS s q).2 (acc ++ [.bl (ovS s q).1]) (by omega) (by rw [List.length_append]; simp; omega)
    refine ⟨s', ?_⟩
    show M.bnd (tgT' 2 [tgN 3, tgN 4] (zpD q)) (fun _ => lcK [3, 4] (M.ret true) (frzM (ops [.code (frzM (setdM 2 (nameV 4) (nameV 3))), .late 3] kEq)) (lcG [3, 4] (tgT' 2 [tgN 3, tgN 4]) (M.ret true) (frzM (ops [.code (frzM (setdM 2 (nameV 4) (nameV 3))), .late 3] kEq)) (r.map zpD)) acc) (ovE a b s) ps = _
    rw [over_step a b ps s q (by omega) acc (fits_of (by omega)), e, List.append_assoc]
    have eg : overG s (q :: r) = (ovS s q).1 :: overG (ovS s q).2 r := by
      obtain ⟨m, t⟩ := q
      show (match seeC t s with
        | some v => (v == m) :: overG s r
        | none => true :: overG (s ++ [(t, m)]) r) = _
      unfold ovS
      simp only
      cases seeC t s <;> rfl
    rw [eg]; rfl
theorem is_over_sem (a b : List Nat) (hl : a.length ≤ 1000) (ps : Pn) : f_is_over [pD a, pD b] ps = .ok (.im (.bl (overC a b))) ps := by
  have hz : (a.zip b).length ≤ 1000 := by rw [List.length_zip]; omega
  obtain ⟨s', z⟩ := over_loop a b ps (a.zip b) [] [] (by simp; omega) (by simp; omega)
  rw [← zipL_n] at z
  have y := lcM_of (own := [3, 4]) (gi := M.bnd (argsM [nameV 0, nameV 1]) zipK2) (E := ovE a b []) (ps := ps) (ds := zipL (a.map dN) (b.map dN)) (E1 := ovE a b []) (ps1 := ps) rfl rfl z
  exact run_fn ((run_seq (run_set rfl)).trans (run_ret ((run_c1 (run_frz y)).trans (allO_n _ _ _))))
/-- what over says -/
theorem seeC_app {t : Nat} {v : Nat} : ∀ {s : List (Nat × Nat)} (r : List (Nat × Nat)), seeC t s = some v → seeC t (s ++ r) = some v
  | (k, w) :: s, r, h => by
    unfold seeC at h
    show (if k = t then some w else seeC t (s ++ r)) = _
    by_cases z : k = t
    · rw [if_pos z] at h ⊢; exact h
    · rw [if_neg z] at h ⊢; exact seeC_app r h
theorem seeC_new {t m : Nat} : ∀ {s : List (Nat × Nat)}, seeC t s = none → seeC t (s ++ [(t, m)]) = some m
  | [], _ => by show (if t = t then some m else none) = _; rw [if_pos rfl]
  | (k, w) :: s, h => by
    unfold seeC at h
    show (if k = t then some w else seeC t (s ++ [(t, m)])) = _
    by_cases z : k = t
    · rw [if_pos z] at h; cases h
    · rw [if_neg z] at h ⊢; exact seeC_new h
theorem seeC_other {t k m : Nat} (hn : k ≠ t) : ∀ {s : List (Nat × Nat)}, seeC t (s ++ [(k, m)]) = seeC t s
  | [] => by show (if k = t then some m else none) = none; rw [if_neg hn]
  | (j, w) :: s => by
    show (if j = t then some w else seeC t (s ++ [(k, m)])) = if j = t then some w else seeC t s
    by_cases z : j = t
    · rw [if_pos z, if_pos z]
    · rw [if_neg z, if_neg z]; exact seeC_other hn
theorem overG_iff : ∀ (z s : List (Nat × Nat)), (overG s z).all id = true ↔ (∀ q ∈ z, ∀ v, seeC q.2 s = some v → v = q.1) ∧ ∀ q ∈ z, ∀ q' ∈ z, q.2 = q'.2 → q.1 = q'.1
  | [], s => by simp [overG]
  | (m, t) :: r, s => by
    unfold overG
    cases e : seeC t s with
    | some v =>
      simp only
      rw [List.all_cons, Bool.and_eq_true, overG_iff r s]
      show (v == m) = true ∧ _ ↔ _
      rw [beq_iff_eq]
      constructor
      · rintro ⟨rfl, h1, h2⟩
        refine ⟨fun q hq w hw => ?_, fun q hq q' hq' e2 => ?_⟩
        · rcases List.mem_cons.mp hq with rfl | hq
          · rw [e] at hw; exact (Option.some.inj hw).symm
          · exact h1 q hq w hw
        · rcases List.mem_cons.mp hq with rfl | hq
          · rcases List.mem_cons.mp hq' with rfl | hq'
            · rfl
            · exact h1 q' hq' _ (by rw [← e2]; exact e)
          · rcases List.mem_cons.mp hq' with rfl | hq'
            · exact (h1 q hq _ (by rw [e2]; exact e)).symm
            · exact h2 q hq q' hq' e2
      · rintro ⟨h1, h2⟩
        exact ⟨h1 (m, t) List.mem_cons_self v e, fun q hq => h1 q (List.mem_cons_of_mem _ hq), fun q hq q' hq' => h2 q (List.mem_cons_of_mem _ hq) q' (List.mem_cons_of_mem _ hq')⟩
    | none =>
      simp only
      rw [List.all_cons, Bool.and_eq_true, overG_iff r (s ++ [(t, m)])]
      show true = true ∧ _ ↔ _
      constructor
      · rintro ⟨-, h1, h2⟩
        refine ⟨fun q hq w hw => ?_, fun q hq q' hq' e2 => ?_⟩
        · rcases List.mem_cons.mp hq with rfl | hq
          · rw [e] at hw; cases hw
          · exact h1 q hq w (seeC_app _ hw)
        · rcases List.mem_cons.mp hq with rfl | hq
          · rcases List.mem_cons.mp hq' with rfl | hq'
            · rfl
            · exact h1 q' hq' _ (by rw [← e2]; exact seeC_new e)
          · rcases List.mem_cons.mp hq' with rfl | hq'
            · exact (h1 q hq _ (by rw [e2]; exact seeC_new e)).symm
            · exact h2 q hq q' hq' e2
      · rintro ⟨h1, h2⟩
        refine ⟨rfl, fun q hq w hw => ?_, fun q hq q' hq' => h2 q (List.mem_cons_of_mem _ hq) q' (List.mem_cons_of_mem _ hq')⟩
        by_cases z : t = q.2
        · rw [← z, seeC_new e] at hw
          rw [← Option.some.inj hw]
          exact h2 (m, t) List.mem_cons_self q (List.mem_cons_of_mem _ hq) z
        · rw [seeC_other z] at hw
          exact h1 q (List.mem_cons_of_mem _ hq) w hw
theorem overC_iff (a b : List Nat) : overC a b = true ↔ ∀ q ∈ a.zip b, ∀ q' ∈ a.zip b, q.2 = q'.2 → q.1 = q'.1 := by
  unfold overC
  rw [overG_iff]
  exact ⟨fun h => h.2, fun h => ⟨fun q hq v hv => (by cases hv), h⟩⟩
end Cl
namespace Cl
open PySem PySem.Spec PyProof.Rows L2 Dl Dh Cm
local instance : LawT := ⟨[], fun _ => 0⟩
/-! ### told of numbers -/
theorem toldG_C {α : Type} [DecidableEq α] : ∀ (l s : List α), toldG s l = toldC s l
  | [], _ => rfl
  | k :: r, s => by
    have e : ∀ l : List α, idxD k l = idxC k l := by
      intro l
      induction l with
      | nil => rfl
      | cons x l ih => show (if x = k then 0 else idxD k l + 1) = if x = k then 0 else idxC k l + 1; rw [ih]
    show (if memD k s then idxD k s :: toldG s r else s.length :: toldG (s ++ [k]) r) = if memC k s then idxC k s :: toldC s r else s.length :: toldC (s ++ [k]) r
    rw [toldG_C r s, toldG_C r (s ++ [k]), e]
    rfl
def kN (n : Nat) : KD := .inl (.inl (n : Int))
theorem toldL_n (l : List Nat) : toldL (l.map kN) = toldC [] l := by
  unfold toldL
  rw [toldG_C]
  exact told_map kN l [] fun a b _ _ e => by injection e with e; injection e with e; omega
theorem told_n {d : D} {l : List Nat} (hd : seqD d = some (l.map dN)) (hl : l.length ≤ 1000) (ps : Pn) : f_told_by [d] ps = .ok (.im (pD (toldC [] l))) ps := by
  have z := told_sem (d := d) (ds := l.map dN) (ks := l.map kN) hd (by rw [List.map_map, List.map_map]; rfl) (.inl fun k hk => by obtain ⟨n, _, rfl⟩ := List.mem_map.mp hk; exact ⟨_, rfl⟩) (by rwa [List.length_map]) ps
  rw [toldL_n] at z
  exact z
theorem told_at {d : D} {l : List Nat} (hd : seqD d = some (l.map dN)) (hl : l.length ≤ 1000) (ps : Pn) : f_law_at_told [d] ps = .ok (.im (pD (toldC [] l))) ps := told_n hd hl ps
/-! ### joined -/
theorem kIn_n (x : Nat) (so : List Nat) (E : List Sl) (ps : Pn) : kIn [dN x, .lst (so.map dN)] E ps = .ok (.im (.bl (memC x so))) E ps := by
  show imO (inL (dN x) (so.map dN)) E ps = _
  have f : (so.map dN).all flatD = true := by rw [List.all_map]; exact List.all_eq_true.mpr fun y _ => rfl
  unfold inL
  rw [f]
  have e : inF (dN x) (so.map dN) = memC x so := by
    unfold inF memC
    rw [List.any_map]
    congr 1
    funext y
    show ((y : Int) == (x : Int)) = decide (y = x)
    by_cases h : y = x
    · subst h; simp
    · rw [decide_eq_false h, beq_eq_false_iff_ne.mpr (by omega)]
  show imO (if (true && true) = true then some (inF (dN x) (so.map dN)) else _) E ps = _
  rw [e]; rfl
def jSome (b : List Nat) (t : Nat) (ls : List Nat) : List Nat := ((ls.zip b).filter fun q => q.2 == t).map (·.1)
def jOne (so : List Nat) (x : Nat) : Nat := if memC x so then so.headD 0 else x
def jStep (b : List Nat) (ls : List Nat) (t : Nat) : List Nat := ls.map (jOne (jSome b t ls))
theorem jStep_len (b ls : List Nat) (t : Nat) : (jStep b ls t).length = ls.length := by unfold jStep; rw [List.length_map]
def joinC (a b : List Nat) : List Nat := toldC [] ((List.range (blkN b)).foldl (jStep b) a)
structure JS where
  ls : List Nat
  x : Sl
  y : Sl
def jE (a b : List Nat) (s : JS) : List Sl := [.im (pD a), .im (pD b), .ol (s.ls.map dN), s.x, s.y, .un, .un]
def jS (b : List Nat) (s : JS) (t : Nat) : JS := ⟨jStep b s.ls t, .im (dN t), .ol ((jSome b t s.ls).map dN)⟩
theorem join_step (a b : List Nat) (ps : Pn) (s : JS) (t : Nat) (hl : s.ls.length ≤ 1000) (k : M Fl) :
    M.bnd (tgN 3 (dN t)) (fun _ => M.bnd (seqM (setM 4 (lcM [5, 6] (M.bnd (argsM [nameV 2, nameV 1]) zipK2) (tgT' 2 [tgN 5, tgN 6]) (testM (ops [.late 6, .late 3] kEq)) (nameV 5))) (setM 2 (lcM [5] (itemsM (nameV 2)) (tgN 5) (M.ret true) (frzM (iteM (testM (ops [.late 5, .late 4] kIn)) (ops [.late 4, .code (M.ret (.int 0))] kIx) (imM (nameV 5))))))) (afterK k)) (jE a b s) ps = k (jE a b (jS b s t)) ps := by
  obtain ⟨ls, x, y⟩ := s
  have hl : ls.length ≤ 1000 := hl
  have hz : (ls.zip b).length ≤ 1000 := by rw [List.length_zip]; omega
  refine run_tgN.trans (run_afterN (E' := jE a b (jS b ⟨ls, x, y⟩ t)) ?_)
  have g1 : M.bnd (argsM [nameV 2, nameV 1]) zipK2 [.im (pD a), .im (pD b), .ol (ls.map dN), .im (dN t), y, .un, .un] ps = .ok ((ls.zip b).map zpD) [.im (pD a), .im (pD b), .im (.lst (ls.map dN)), .im (dN t), y, .un, .un] ps := by
    rw [← zipL_n]; rfl
  have c1 := lcM_flt (own := [5, 6]) (tg := tgT' 2 [tgN 5, tgN 6]) (tt := testM (ops [.late 6, .late 3] kEq)) (te := nameV 5) zpD (fun q => q.2 == t) (fun q => dN q.1) g1 rfl (by simp) (by omega) fun q _ acc rest hf => by
    show lcK [5, 6] (testM (ops [.late 6, .late 3] kEq)) (nameV 5) rest acc [.im (pD a), .im (pD b), .im (.lst (ls.map dN)), .im (dN t), y, .im (dN q.1), .im (dN q.2)] ps = _
    exact (run_flt (run_test ((run_ll (s := .im (dN q.2)) rfl im_ne (s' := .im (dN t)) rfl im_ne).trans (kEq_n q.2 t _ ps))) hf (run_name rfl) rfl rfl).trans rfl
  have e1 : (((ls.zip b).filter fun q => q.2 == t).map fun q => dN q.1) = (jSome b t ls).map dN := by unfold jSome; rw [List.map_map]; rfl
  rw [e1] at c1
  refine (run_seq (run_set c1)).trans ?_
  have c2 := lcM_map (own := [5]) (gi := itemsM (nameV 2)) (tg := tgN 5) (te := frzM (iteM (testM (ops [.late 5, .late 4] kIn)) (ops [.late 4, .code (M.ret (.int 0))] kIx) (imM (nameV 5)))) (E := [.im (pD a), .im (pD b), .im (.lst (ls.map dN)), .im (dN t), .ol ((jSome b t ls).map dN), .un, .un]) (ps := ps) (l := ls) dN (fun n => dN (jOne (jSome b t ls) n)) (itemsM_name rfl rfl) rfl (by simp) (by omega) fun n _ acc rest hf => by
    refine run_tgN.trans ?_
    have ht : testM (ops [.late 5, .late 4] kIn) [.im (pD a), .im (pD b), .im (.lst (ls.map dN)), .im (dN t), .ol ((jSome b t ls).map dN), .im (dN n), .un] ps = .ok (memC n (jSome b t ls)) [.im (pD a), .im (pD b), .im (.lst (ls.map dN)), .im (dN t), .ol ((jSome b t ls).map dN), .im (dN n), .un] ps :=
      run_test ((run_ll (s := .im (dN n)) rfl im_ne (s' := .ol ((jSome b t ls).map dN)) rfl ol_ne).trans (kIn_n n (jSome b t ls) _ ps))
    have ev : frzM (iteM (testM (ops [.late 5, .late 4] kIn)) (ops [.late 4, .code (M.ret (.int 0))] kIx) (imM (nameV 5))) [.im (pD a), .im (pD b), .im (.lst (ls.map dN)), .im (dN t), .ol ((jSome b t ls).map dN), .im (dN n), .un] ps = .ok (dN (jOne (jSome b t ls) n)) [.im (pD a), .im (pD b), .im (.lst (ls.map dN)), .im (dN t), .ol ((jSome b t ls).map dN), .im (dN n), .un] ps := by
      refine run_frz (r := .im (dN (jOne (jSome b t ls) n))) ((run_ite ht).trans ?_)
      unfold jOne
      cases hm : memC n (jSome b t ls) with
      | false => rfl
      | true =>
        show ops [.late 4, .code (M.ret (.int 0))] kIx _ ps = _
        refine (run_lc (s := .ol ((jSome b t ls).map dN)) rfl ol_ne (d := dN 0) rfl (s' := .ol ((jSome b t ls).map dN)) rfl ol_ne).trans ?_
        have he : ((jSome b t ls).map dN)[0]? = some (dN ((jSome b t ls).headD 0)) := by
          cases q : jSome b t ls with
          | nil => rw [q] at hm; cases hm
          | cons => rfl
        exact kIx_lst he _ ps
    exact (run_lck hf ev).trans rfl
  exact (run_set c2).trans (by unfold jE jS jStep; rw [List.map_map]; rfl)
theorem joined_sem (a b : List Nat) (hl : a.length ≤ 1000) (hb : blkN b ≤ 1000) (ps : Pn) : f_joined_by [pD a, pD b] ps = .ok (.im (pD (joinC a b))) ps := by
  obtain ⟨z, i⟩ := forG_l (tg := tgN 3) (body := seqM (setM 4 (lcM [5, 6] (M.bnd (argsM [nameV 2, nameV 1]) zipK2) (tgT' 2 [tgN 5, tgN 6]) (testM (ops [.late 6, .late 3] kEq)) (nameV 5))) (setM 2 (lcM [5] (itemsM (nameV 2)) (tgN 5) (M.ret true) (frzM (iteM (testM (ops [.late 5, .late 4] kIn)) (ops [.late 4, .code (M.ret (.int 0))] kIx) (imM (nameV 5))))))) dN (jE a b) (fun _ => ps) (jS b) (fun s => s.ls.length ≤ 1000) (List.range (blkN b)) ⟨a, .un, .un⟩ hl fun s t _ h => ⟨join_step a b ps s t h, by show (jStep b s.ls t).length ≤ 1000; rw [jStep_len]; exact h⟩
  have e : ∀ (l : List Nat) (s : JS), (l.foldl (jS b) s).ls = l.foldl (jStep b) s.ls := by
    intro l
    induction l with
    | nil => intro s; rfl
    | cons t l ih => intro s; rw [List.foldl_cons, List.foldl_cons, ih]; rfl
  generalize hs : (List.range (blkN b)).foldl (jS b) ⟨a, .un, .un⟩ = s at z i
  have es : s.ls = (List.range (blkN b)).foldl (jStep b) a := by rw [← hs]; exact e _ _
  have g : ops [.code (frzM (callM (argsM [nameV 1]) 1 f_blocks_of []))] rngK1 (jE a b ⟨a, .un, .un⟩) ps = .ok ((List.range (blkN b)).map dN) (jE a b ⟨a, .un, .un⟩) ps :=
    (run_c1 (run_frz (run_call (ds := [pD b]) (run_args (run_name rfl) run_args0) rfl (blocks_sem b ps) im_ne))).trans (rngK1_n (by omega) _ ps)
  refine run_fn (r := .im (pD (joinC a b))) (E' := [.im (pD a), .im (pD b), .im (.lst (s.ls.map dN)), s.x, s.y, .un, .un]) ?_
  refine (run_seq (run_set (r := .ol (a.map dN)) rfl)).trans ?_
  refine (run_seq ((run_for g).trans z)).trans ?_
  refine run_ret (run_call (ds := [.lst (s.ls.map dN)]) (run_args (run_nameO rfl) run_args0) rfl ?_ im_ne)
  have t := told_n (d := .lst (s.ls.map dN)) rfl i ps
  rw [es] at t ⊢
  exact t
end Cl
namespace Dl
open PySem PySem.Spec PyProof.Rows L2 Dh
local instance : LawT := ⟨[], fun _ => 0⟩
theorem eqD_tup0 {n L : Nat} {ds : List D} (h : Nice n L (.tup ds)) (hn : n ≤ 64) : eqD (.tup ds) (.tup []) = some ds.isEmpty := by
  obtain ⟨y, h1, h2, h3, _⟩ := h
  show eqP (.tup ds) (.tup []) = _
  unfold eqP
  unfold toPy at h1
  cases e : toPys ds with
  | none => rw [e] at h1; cases h1
  | some ys =>
    rw [e] at h1
    have h1 : some (PyData.tuple ys) = some y := h1
    cases h1
    have t : toPy (.tup ds) = some (.tuple ys) := by unfold toPy; rw [e]; rfl
    rw [t]
    have s : SeqAt.shaped (.tuple ys) = true := by unfold SeqAt.shaped; rw [h2, decide_eq_true (by omega : (PyData.tuple ys).depth ≤ 64)]; rfl
    have s0 : SeqAt.shaped (.tuple []) = true := by decide
    show (if SeqAt.shaped (.tuple ys) && SeqAt.shaped (.tuple []) then some (PyData.eqv (.tuple ys) (.tuple [])) else none) = _
    rw [s, s0]
    cases ds with
    | nil => cases e; rfl
    | cons d ds =>
      unfold toPys at e
      split at e
      · cases e; rfl
      · cases e
def niceN (k : Fin 16) : Bool := (PyData.int (k.1 : Int)).canLay0 && decide ((PyData.int (k.1 : Int)).depth ≤ 1) && (PyData.int (k.1 : Int)).showable && decide ((PyData.int (k.1 : Int)).shown.length ≤ 2)
theorem niceN_all : ∀ k : Fin 16, niceN k = true := by decide +kernel
theorem nice_dN {n : Nat} (h : n < 16) : Nice 1 2 (dN n) := by
  have z := niceN_all ⟨n, h⟩
  unfold niceN at z
  rw [Bool.and_eq_true, Bool.and_eq_true, Bool.and_eq_true] at z
  obtain ⟨⟨⟨a, b⟩, c⟩, d⟩ := z
  exact ⟨.int (n : Int), rfl, a, of_decide_eq_true b, c, of_decide_eq_true d⟩
section
variable {α : Type}
theorem lc2G_fm (emb : α → D) (f : α → List D) {own own1 : List Nat} {tg tg1 : Tg} {tt tt1 : M Bool} {gi1 : M (List D)} {te : M D} {E0 : List Sl} {ps : Pn} : ∀ (l : List α) (acc : List D),
    (∀ a ∈ l, ∀ (acc : List D) (rest : List D → M (List D)), acc.length + (f a).length ≤ 16777216 → M.bnd (tg (emb a)) (fun _ => lc2T own own1 tt gi1 tg1 tt1 te rest acc) E0 ps = rest (acc ++ f a) E0 ps) →
    acc.length + (l.flatMap f).length ≤ 16777216 → lc2G own own1 tg tt gi1 tg1 tt1 te (l.map emb) acc E0 ps = .ok (acc ++ l.flatMap f) E0 ps
  | [], acc, _, _ => by rw [show ([] : List α).flatMap f = [] from rfl, List.append_nil]; rfl
  | a :: r, acc, hs, hl => by
    rw [List.flatMap_cons, List.length_append] at hl
    show M.bnd (tg (emb a)) (fun _ => lc2T own own1 tt gi1 tg1 tt1 te (lc2G own own1 tg tt gi1 tg1 tt1 te (r.map emb)) acc) E0 ps = _
    rw [hs a List.mem_cons_self acc _ (by omega), lc2G_fm emb f r (acc ++ f a) (fun x hx => hs x (List.mem_cons_of_mem _ hx)) (by rw [List.length_append]; omega), List.append_assoc]
    rfl
theorem lc2M_fm (emb : α → D) (f : α → List D) {own own1 : List Nat} {gi : M (List D)} {tg tg1 : Tg} {tt tt1 : M Bool} {gi1 : M (List D)} {te : M D} {E E1 : List Sl} {ps ps1 : Pn} {l : List α} (hg : gi E ps = .ok (l.map emb) E1 ps1) (hn : noOwn own E1 = true) (hb : ∀ i ∈ own, i < E1.length) (hl : (l.flatMap f).length ≤ 16777216)
    (hs : ∀ a ∈ l, ∀ (acc : List D) (rest : List D → M (List D)), acc.length + (f a).length ≤ 16777216 → M.bnd (tg (emb a)) (fun _ => lc2T own own1 tt gi1 tg1 tt1 te rest acc) (wipeE own E1) ps1 = rest (acc ++ f a) (wipeE own E1) ps1) :
    lc2M own own1 gi tg tt gi1 tg1 tt1 te E ps = .ok (.ol (l.flatMap f)) E1 ps1 := by
  have z := lc2G_fm emb f l [] hs (by simpa using hl)
  rw [List.nil_append] at z
  show M.bnd gi (fun ds => fun E ps => if noOwn own E then lcEnd own E (lc2G own own1 tg tt gi1 tg1 tt1 te ds [] (wipeE own E) ps) else .bad) E ps = _
  rw [bnd_ok hg, if_pos hn, z]
  show Out.ok (Sl.ol (l.flatMap f)) (resto own E1 (wipeE own E1)) ps1 = _
  rw [resto_wipe own E1 _ hb (wipeE_length own E1) fun i hi => lcM_pure.wipe_out' own E1 i hi]
/-- the second clause's loop -/
theorem run_lc2K {own own1 : List Nat} {gi1 : M (List D)} {tg1 : Tg} {te : M D} {rest : List D → M (List D)} {acc : List D} {E E1 : List Sl} {ps ps1 : Pn} {l : List α} (emb : α → D) (g : α → D) (hg : gi1 E ps = .ok (l.map emb) E1 ps1) (hl : acc.length + l.length ≤ 16777216)
    (hs : ∀ a ∈ l, ∀ (acc : List D) (rest : List D → M (List D)), fits (acc.length + 1) = true → M.bnd (tg1 (emb a)) (fun _ => lcK own1 (M.ret true) te rest acc) (wipeE own1 E1) ps1 = rest (acc ++ [g a]) (wipeE own1 E1) ps1) :
    lc2T own own1 (M.ret true) gi1 tg1 (M.ret true) te rest acc E ps = rest (acc ++ l.map g) (wipeE own (wipeE own1 E1)) ps1 := by
  have z := lcG_fm (own := own1) (tg := tg1) (tt := M.ret true) (te := te) (E0 := wipeE own1 E1) (ps := ps1) emb (fun a => [g a]) l acc (fun a ha => ⟨Nat.le_refl _, hs a ha⟩) hl
  rw [flatMap_one] at z
  show M.bnd gi1 (fun ds => fun E ps => match lcG own1 tg1 (M.ret true) te ds acc (wipeE own1 E) ps with
    | .ok acc' E' ps' => rest acc' (wipeE own E') ps'
    | _ => .bad) E ps = _
  rw [bnd_ok hg, z]
end
end Dl
namespace Cl
open PySem PySem.Spec PyProof.Rows L2 Dl Dh Cm
local instance : LawT := ⟨[], fun _ => 0⟩
/-! ### all partings -/
def stepP (found : List (List Nat)) : List (List Nat) := found.flatMap fun one => (List.range (blkN one + 1)).map fun b => one ++ [b]
def partsL : Nat → List (List Nat)
  | 0 => [[]]
  | n + 1 => stepP (partsL n)
theorem partsL_le : ∀ k : Fin 9, (partsL k.1).length ≤ 4140 := by decide +kernel
theorem partsL_len : ∀ (n : Nat) (l : List Nat), l ∈ partsL n → l.length = n
  | 0, l, h => by rw [List.mem_singleton.mp h]; rfl
  | n + 1, l, h => by
    obtain ⟨one, h1, h2⟩ := List.mem_flatMap.mp (show l ∈ stepP (partsL n) from h)
    obtain ⟨b, _, rfl⟩ := List.mem_map.mp h2
    rw [List.length_append, partsL_len n one h1]; rfl
theorem blkN_snoc (b : Nat) : ∀ l : List Nat, blkN (l ++ [b]) = max (blkN l) (b + 1)
  | [] => by show max (b + 1) 0 = max 0 (b + 1); omega
  | n :: r => by
    show max (n + 1) (blkN (r ++ [b])) = max (max (n + 1) (blkN r)) (b + 1)
    rw [blkN_snoc b r]; omega
theorem rgC_snoc (b : Nat) : ∀ (l : List Nat) (k : Nat), rgC k (l ++ [b]) = (rgC k l && decide (b ≤ max k (blkN l)))
  | [], k => by
    show (decide (b ≤ k) && true) = (true && decide (b ≤ max k 0))
    rw [show max k 0 = k by omega, Bool.and_comm]
  | n :: r, k => by
    show (decide (n ≤ k) && rgC (max k (n + 1)) (r ++ [b])) = ((decide (n ≤ k) && rgC (max k (n + 1)) r) && decide (b ≤ max k (max (n + 1) (blkN r))))
    rw [rgC_snoc b r, Bool.and_assoc, show max (max k (n + 1)) (blkN r) = max k (max (n + 1) (blkN r)) by omega]
theorem partsL_mem : ∀ (n : Nat) (l : List Nat), l ∈ partsL n ↔ l.length = n ∧ rgC 0 l = true
  | 0, l => by
    constructor
    · intro h; rw [List.mem_singleton.mp h]; exact ⟨rfl, rfl⟩
    · rintro ⟨h, _⟩; rw [List.eq_nil_of_length_eq_zero h]; exact List.mem_singleton.mpr rfl
  | n + 1, l => by
    constructor
    · intro h
      obtain ⟨one, h1, h2⟩ := List.mem_flatMap.mp (show l ∈ stepP (partsL n) from h)
      obtain ⟨b, hb, rfl⟩ := List.mem_map.mp h2
      obtain ⟨a1, a2⟩ := (partsL_mem n one).mp h1
      refine ⟨by rw [List.length_append, a1]; rfl, ?_⟩
      rw [rgC_snoc, a2]
      have := List.mem_range.mp hb
      rw [decide_eq_true (by omega)]; rfl
    · rintro ⟨h, hr⟩
      have hne : l ≠ [] := fun z => by rw [z] at h; cases h
      have e := List.dropLast_concat_getLast hne
      rw [← e, rgC_snoc, Bool.and_eq_true] at hr
      have hb := of_decide_eq_true hr.2
      refine List.mem_flatMap.mpr ⟨l.dropLast, (partsL_mem n _).mpr ⟨by rw [List.length_dropLast]; omega, hr.1⟩, List.mem_map.mpr ⟨l.getLast hne, List.mem_range.mpr (by omega), e⟩⟩
structure PS where
  j : Nat
  x : Sl
def psE (n : Nat) (s : PS) : List Sl := [.im (dN n), .ol ((partsL s.j).map pD), s.x, .un, .un]
theorem parts_step (n : Nat) (ps : Pn) (s : PS) (d : D) (hj : s.j + 1 ≤ 8) (k : M Fl) :
    M.bnd (tgN 2 d) (fun _ => M.bnd (setM 1 (lc2M [3, 4] [4] (itemsM (nameV 1)) (tgN 3) (M.ret true) (ops [.code (frzM (ops [.code (frzM (callM (argsM [nameV 3]) 1 f_blocks_of [])), .code (M.ret (.int 1))] kAdd))] rngK1) (tgN 4) (M.ret true) (tupM (starA (nameV 3) (consA (nameV 4) (argsM [])))))) (afterK k)) (psE n s) ps = k (psE n ⟨s.j + 1, .im d⟩) ps := by
  refine run_tgN.trans (run_afterN (E' := psE n ⟨s.j + 1, .im d⟩) ?_)
  have hlen : (partsL (s.j + 1)).length ≤ 4140 := partsL_le ⟨s.j + 1, by omega⟩
  have ef : (partsL s.j).flatMap (fun one => ((List.range (blkN one + 1)).map fun b => pD (one ++ [b]))) = (partsL (s.j + 1)).map pD := by
    show _ = (stepP (partsL s.j)).map pD
    unfold stepP
    rw [List.map_flatMap]
    simp only [List.map_map]
    rfl
  have c := lc2M_fm (own := [3, 4]) (own1 := [4]) (gi := itemsM (nameV 1)) (tg := tgN 3) (tt := M.ret true) (gi1 := ops [.code (frzM (ops [.code (frzM (callM (argsM [nameV 3]) 1 f_blocks_of [])), .code (M.ret (.int 1))] kAdd))] rngK1) (tg1 := tgN 4) (tt1 := M.ret true) (te := tupM (starA (nameV 3) (consA (nameV 4) (argsM [])))) (E := [.im (dN n), .ol ((partsL s.j).map pD), .im d, .un, .un]) (E1 := [.im (dN n), .im (.lst ((partsL s.j).map pD)), .im d, .un, .un]) (ps := ps) (ps1 := ps) (l := partsL s.j) pD (fun one => (List.range (blkN one + 1)).map fun b => pD (one ++ [b])) rfl rfl (by simp) (by rw [ef, List.length_map]; omega) fun one h1 acc rest hf => by
    rw [List.length_map, List.length_range] at hf
    refine run_tgN.trans ?_
    have g1 : ops [.code (frzM (ops [.code (frzM (callM (argsM [nameV 3]) 1 f_blocks_of [])), .code (M.ret (.int 1))] kAdd))] rngK1 [.im (dN n), .im (.lst ((partsL s.j).map pD)), .im d, .im (pD one), .un] ps = .ok ((List.range (blkN one + 1)).map dN) [.im (dN n), .im (.lst ((partsL s.j).map pD)), .im d, .im (pD one), .un] ps := by
      refine (run_c1 (d := dN (blkN one + 1)) ((run_frz ((run_cc (run_frz (run_call (ds := [pD one]) (run_args (run_name rfl) run_args0) rfl (blocks_sem one ps) im_ne)) (e := .int 1) (ps2 := ps) rfl).trans (show _ = Out.ok (Sl.im (dN (blkN one + 1))) [.im (dN n), .im (.lst ((partsL s.j).map pD)), .im d, .im (pD one), .un] ps from rfl))).trans rfl)).trans (rngK1_n (by omega) _ ps)
    refine (run_lc2K dN (fun b => pD (one ++ [b])) g1 (by rw [List.length_range]; exact hf) fun b _ acc rest hf => ?_).trans rfl
    refine run_tgN.trans ?_
    have ev : tupM (starA (nameV 3) (consA (nameV 4) (argsM []))) [.im (dN n), .im (.lst ((partsL s.j).map pD)), .im d, .im (pD one), .im (dN b)] ps = .ok (pD (one ++ [b])) [.im (dN n), .im (.lst ((partsL s.j).map pD)), .im d, .im (pD one), .im (dN b)] ps := by
      refine (run_tup (ds := one.map dN ++ [dN b]) rfl (fits_of ?_)).trans (by unfold pD; rw [List.map_append]; rfl)
      rw [List.length_append, List.length_map, partsL_len _ _ h1]
      show s.j + 1 ≤ _
      omega
    exact (run_lck (own := [4]) (rest := rest) hf ev).trans rfl
  rw [ef] at c
  exact (run_set c).trans rfl
theorem partings_of_sem {n : Nat} (hn : n ≤ 8) (ps : Pn) : f_partings_of [dN n] ps = .ok (.im (.tup ((partsL n).map pD))) ps := by
  have z := forG_fold (tg := tgN 2) (body := setM 1 (lc2M [3, 4] [4] (itemsM (nameV 1)) (tgN 3) (M.ret true) (ops [.code (frzM (ops [.code (frzM (callM (argsM [nameV 3]) 1 f_blocks_of [])), .code (M.ret (.int 1))] kAdd))] rngK1) (tgN 4) (M.ret true) (tupM (starA (nameV 3) (consA (nameV 4) (argsM [])))))) (psE n) (fun _ => ps) (fun s d => ⟨s.j + 1, .im d⟩) (fun s r => s.j + r.length ≤ 8) (fun s d r h => ⟨parts_step n ps s d (by rw [List.length_cons] at h; omega), by rw [List.length_cons] at h; show s.j + 1 + r.length ≤ 8; omega⟩) ((List.range n).map dN) ⟨0, .un⟩ (by rw [List.length_map, List.length_range]; show 0 + n ≤ 8; omega)
  have e : ∀ (l : List D) (s : PS), (l.foldl (fun s d => (⟨s.j + 1, .im d⟩ : PS)) s).j = s.j + l.length := by
    intro l
    induction l with
    | nil => intro s; rfl
    | cons t l ih => intro s; rw [List.foldl_cons, ih, List.length_cons]; show s.j + 1 + l.length = _; omega
  generalize hs : ((List.range n).map dN).foldl (fun s d => (⟨s.j + 1, .im d⟩ : PS)) ⟨0, .un⟩ = s at z
  have es : s.j = n := by rw [← hs, e, List.length_map, List.length_range]; show 0 + n = n; omega
  refine run_fn (r := .im (.tup ((partsL n).map pD))) (E' := psE n s) ?_
  refine (run_seq (run_set (r := .ol [.tup []]) rfl)).trans ?_
  have g : ops [.late 0] rngK1 (psE n ⟨0, .un⟩) ps = .ok ((List.range n).map dN) (psE n ⟨0, .un⟩) ps := (run_l1 (s := .im (dN n)) rfl im_ne).trans (rngK1_n (by omega) _ ps)
  refine (run_seq ((run_for g).trans z)).trans ?_
  refine run_ret ((run_l1 (s := .ol ((partsL s.j).map pD)) rfl ol_ne).trans ?_)
  rw [es]; rfl
theorem all_partings_sem {n : Nat} (hn : n ≤ 8) (ps : Pn) : f_all_partings [dN n] ps = .ok (.im (.tup ((partsL n).map pD))) ps := by
  refine run_fnX (E' := [.im (dN n)]) ?_
  refine (run_seq (run_iteF (run_not (run_truth (run_call (ds := [dN n, .int 0, .int 8]) rfl rfl (between_n (k := 8) hn ps) im_ne))))).trans ?_
  exact run_ret (run_call (ds := [dN n]) (run_args (run_name rfl) run_args0) rfl (partings_of_sem hn ps) im_ne)
end Cl
namespace Cl
open PySem PySem.Spec PyProof.Rows L2 Dl Dh Cm
local instance : LawT := ⟨[], fun _ => 0⟩
/-! ### labels -/
def labD : Nat → D
  | 0 => .int 0
  | 1 => .int 1
  | 2 => .str "a"
  | 3 => .str "b"
  | 4 => .str "zz"
  | 5 => .int 100000000000000000000
  | _ => .int (-3)
def labK : Nat → KD
  | 0 => .inl (.inl 0)
  | 1 => .inl (.inl 1)
  | 2 => .inl (.inr "a")
  | 3 => .inl (.inr "b")
  | 4 => .inl (.inr "zz")
  | 5 => .inl (.inl 100000000000000000000)
  | _ => .inl (.inl (-3))
theorem kD_lab : ∀ n : Nat, kD (labD n) = some (labK n)
  | 0 | 1 | 2 | 3 | 4 | 5 => rfl
  | _ + 6 => rfl
theorem labK_inl : ∀ n : Nat, ∃ x, labK n = .inl x
  | 0 | 1 | 2 | 3 | 4 | 5 => ⟨_, rfl⟩
  | _ + 6 => ⟨_, rfl⟩
theorem labK_inj : ∀ a b : Fin 7, labK a.1 = labK b.1 → a = b := by decide +kernel
theorem toldL_lab {l : List Nat} (h : ∀ x ∈ l, x < 7) : toldL (l.map labK) = toldC [] l := by
  unfold toldL
  rw [toldG_C]
  refine told_map labK l [] fun a b ha hb e => ?_
  have z := labK_inj ⟨a, h a (by simpa using ha)⟩ ⟨b, h b (by simpa using hb)⟩ e
  exact congrArg Fin.val z
theorem told_lab {d : D} {l : List Nat} (hd : seqD d = some (l.map labD)) (hl : l.length ≤ 1000) (h : ∀ x ∈ l, x < 7) (ps : Pn) : f_told_by [d] ps = .ok (.im (pD (toldC [] l))) ps := by
  have z := told_sem (d := d) (ds := l.map labD) (ks := l.map labK) hd (by rw [List.map_map, List.map_map]; exact List.map_congr_left fun n _ => kD_lab n) (.inl fun k hk => by obtain ⟨n, _, rfl⟩ := List.mem_map.mp hk; exact labK_inl n) (by rwa [List.length_map]) ps
  rw [toldL_lab h] at z
  exact z
theorem lab_ok (E : List Sl) (d : D) (ps : Pn) : ∀ n : Nat, frzM (orE (callM (argsM [nameV 1]) 1 f_is_integer []) (ops [.late 1, .code (M.ret (.ty "str"))] kIsi)) [.im d, .im (labD n)] ps = .ok (.bl true) [.im d, .im (labD n)] ps
  | 0 | 1 | 2 | 3 | 4 | 5 => rfl
  | _ + 6 => rfl
theorem listed_of {d : D} {ds : List D} (hd : seqD d = some ds) (ps : Pn) : f_is_listed [d] ps = .ok (.im (.bl true)) ps := by cases d <;> first | rfl | cases hd
theorem parting_of_sem {d : D} {l : List Nat} (hd : seqD d = some (l.map labD)) (hl : l.length ≤ 1000) (h : ∀ x ∈ l, x < 7) (ps : Pn) : f_parting_of [d] ps = .ok (.im (pD (toldC [] l))) ps := by
  refine run_fnX (E' := [.im d, .un]) ?_
  have c := lcM_map (own := [1]) (gi := itemsM (nameV 0)) (tg := tgN 1) (te := frzM (orE (callM (argsM [nameV 1]) 1 f_is_integer []) (ops [.late 1, .code (M.ret (.ty "str"))] kIsi))) (E := [.im d, .un]) (ps := ps) (l := l) labD (fun _ => .bl true) (itemsM_name rfl hd) rfl (by simp) (by omega) fun n _ acc rest hf => by
    refine run_tgN.trans ?_
    exact (run_lck (own := [1]) (rest := rest) hf (lab_ok [] d ps n)).trans rfl
  have e : (l.map fun _ => D.bl true) = (l.map fun _ => true).map D.bl := by rw [List.map_map]; rfl
  rw [e] at c
  have al : (l.map fun _ => true).all id = true := by rw [List.all_map]; exact List.all_eq_true.mpr fun _ _ => rfl
  refine (run_seq (run_iteF (run_orF (run_not (run_truth (run_call (ds := [d]) (run_args (run_name rfl) run_args0) rfl (listed_of hd ps) im_ne))) |>.trans (run_not (run_truth ((run_c1 (run_frz c)).trans ((allO_n _ _ ps).trans (by rw [al])))))))).trans ?_
  exact run_ret (run_call (ds := [d]) (run_args (run_name rfl) run_args0) rfl (told_lab hd hl h ps) im_ne)
/-! ### blocks, groups -/
theorem blocks_in_sem {d : D} {l : List Nat} (hd : seqD d = some (l.map dN)) (h : IsP l) (ps : Pn) : f_blocks_in [d] ps = .ok (.im (dN (blkN l))) ps := by
  refine run_fnX (E' := [.im d]) (run_ret (run_call (ds := [pD l]) ?_ rfl (blocks_sem l ps) im_ne))
  exact run_args (run_frz (run_call (ds := [.str "parting", d]) (run_args rfl (run_args (run_name rfl) run_args0)) rfl (need_parting_sem hd h ps) im_ne)) run_args0
def groupC (l : List Nat) (b : Nat) : List Nat := (List.range l.length).filter fun i => l.getD i 0 == b
def groupsD (l : List Nat) : D := .tup ((List.range (blkN l)).map fun b => pD (groupC l b))
theorem enumL_n (l : List Nat) : enumL (l.map dN) = (List.range l.length).map fun i => zpD (i, l.getD i 0) := by
  unfold enumL
  apply List.ext_getElem?
  intro i
  rw [List.getElem?_mapIdx, List.getElem?_map, List.getElem?_map]
  by_cases h : i < l.length
  · rw [List.getElem?_range h, List.getElem?_eq_getElem h]
    simp only [Option.map_some, List.getD_eq_getElem?_getD, List.getElem?_eq_getElem h, Option.getD_some]
    rfl
  · rw [List.getElem?_eq_none (by omega), List.getElem?_eq_none (by rw [List.length_range]; omega)]; rfl
theorem groups_in_sem {d : D} {l : List Nat} (hd : seqD d = some (l.map dN)) (h : IsP l) (hl : l.length ≤ 8) (hb : blkN l ≤ 8) (ps : Pn) : f_groups_in [d] ps = .ok (.im (groupsD l)) ps := by
  refine run_fnX (E' := [.im d, .im (pD l), .un, .un, .un]) ?_
  refine (run_seq (run_set (run_call (ds := [.str "parting", d]) (run_args rfl (run_args (run_name rfl) run_args0)) rfl (need_parting_sem hd h ps) im_ne))).trans ?_
  have g : ops [.code (frzM (callM (argsM [nameV 1]) 1 f_blocks_of []))] rngK1 [.im d, .im (pD l), .un, .un, .un] ps = .ok ((List.range (blkN l)).map dN) [.im d, .im (pD l), .un, .un, .un] ps :=
    (run_c1 (run_frz (run_call (ds := [pD l]) (run_args (run_name rfl) run_args0) rfl (blocks_sem l ps) im_ne))).trans (rngK1_n (by omega) _ ps)
  have c := lcM_map (own := [2]) (tg := tgN 2) (te := frzM (ops [.code (frzM (lcM [3, 4] (M.bnd (argsM [nameV 1]) enumK2) (tgT' 2 [tgN 3, tgN 4]) (testM (ops [.late 4, .late 2] kEq)) (nameV 3)))] kTup)) dN (fun b => pD (groupC l b)) g rfl (by simp) (by rw [List.length_range]; omega) fun b _ acc rest hf => by
    refine run_tgN.trans ?_
    have g2 : M.bnd (argsM [nameV 1]) enumK2 [.im d, .im (pD l), .im (dN b), .un, .un] ps = .ok ((List.range l.length).map fun i => zpD (i, l.getD i 0)) [.im d, .im (pD l), .im (dN b), .un, .un] ps := by
      rw [← enumL_n]; rfl
    have c2 := lcM_flt (own := [3, 4]) (tg := tgT' 2 [tgN 3, tgN 4]) (tt := testM (ops [.late 4, .late 2] kEq)) (te := nameV 3) (fun i => zpD (i, l.getD i 0)) (fun i => l.getD i 0 == b) dN g2 rfl (by simp) (by rw [List.length_range]; omega) fun i _ acc rest hf => by
      show lcK [3, 4] (testM (ops [.late 4, .late 2] kEq)) (nameV 3) rest acc [.im d, .im (pD l), .im (dN b), .im (dN i), .im (dN (l.getD i 0))] ps = _
      exact (run_flt (run_test ((run_ll (s := .im (dN (l.getD i 0))) rfl im_ne (s' := .im (dN b)) rfl im_ne).trans (kEq_n (l.getD i 0) b _ ps))) hf (run_name rfl) rfl rfl).trans rfl
    have ev : frzM (ops [.code (frzM (lcM [3, 4] (M.bnd (argsM [nameV 1]) enumK2) (tgT' 2 [tgN 3, tgN 4]) (testM (ops [.late 4, .late 2] kEq)) (nameV 3)))] kTup) [.im d, .im (pD l), .im (dN b), .un, .un] ps = .ok (pD (groupC l b)) [.im d, .im (pD l), .im (dN b), .un, .un] ps :=
      run_frz (r := .im (pD (groupC l b))) ((run_c1 (run_frz c2)).trans rfl)
    exact (run_lck (own := [2]) (rest := rest) hf ev).trans rfl
  exact run_ret ((run_c1 (run_frz c)).trans rfl)
/-! ### of two -/
theorem both_run {d d' : D} {l l' : List Nat} (hd : seqD d = some (l.map dN)) (h : IsP l) (hd' : seqD d' = some (l'.map dN)) (h' : IsP l') (e : l.length = l'.length) (ps : Pn) :
    asgM (frzM (callM (argsM [nameV 0, nameV 1]) 2 f_need_both [])) (tgT' 2 [tgN 2, tgN 3]) [.im d, .im d', .un, .un] ps = .ok .next [.im d, .im d', .im (pD l), .im (pD l')] ps := by
  refine (bnd_ok (run_frz (run_call (ds := [d, d']) (run_args (run_name rfl) (run_args (run_name rfl) run_args0)) rfl (need_both_sem hd h hd' h' e ps) im_ne))).trans rfl
theorem is_coarser_sem {d d' : D} {l l' : List Nat} (hd : seqD d = some (l.map dN)) (h : IsP l) (hd' : seqD d' = some (l'.map dN)) (h' : IsP l') (e : l.length = l'.length) (hl : l.length ≤ 1000) (ps : Pn) : f_is_coarser [d, d'] ps = .ok (.im (.bl (overC l l'))) ps :=
  run_fnX ((run_seq (both_run hd h hd' h' e ps)).trans (run_ret (run_call (ds := [pD l, pD l']) (run_args (run_name rfl) (run_args (run_name rfl) run_args0)) rfl (is_over_sem l l' hl ps) im_ne)))
theorem merged_by_sem {d d' : D} {l l' : List Nat} (hd : seqD d = some (l.map dN)) (h : IsP l) (hd' : seqD d' = some (l'.map dN)) (h' : IsP l') (e : l.length = l'.length) (hl : l.length ≤ 1000) (hb : blkN l' ≤ 1000) (ps : Pn) : f_merged_by [d, d'] ps = .ok (.im (pD (joinC l l'))) ps :=
  run_fnX ((run_seq (both_run hd h hd' h' e ps)).trans (run_ret (run_call (ds := [pD l, pD l']) (run_args (run_name rfl) (run_args (run_name rfl) run_args0)) rfl (joined_sem l l' hl hb ps) im_ne)))
def kNN (q : Nat × Nat) : KD := .inr [.inl (q.1 : Int), .inl (q.2 : Int)]
theorem told_z {z : List (Nat × Nat)} (hl : z.length ≤ 1000) (ps : Pn) : f_told_by [.lst (z.map zpD)] ps = .ok (.im (pD (toldC [] z))) ps := by
  have t := told_sem (d := .lst (z.map zpD)) (ds := z.map zpD) (ks := z.map kNN) rfl (by rw [List.map_map, List.map_map]; rfl) (.inr fun k hk => by obtain ⟨n, _, rfl⟩ := List.mem_map.mp hk; exact ⟨_, rfl⟩) (by rwa [List.length_map]) ps
  have e : toldL (z.map kNN) = toldC [] z := by
    unfold toldL
    rw [toldG_C]
    exact told_map kNN z [] fun a b _ _ e => by
      unfold kNN at e
      injection e with e
      injection e with e1 e2
      injection e2 with e2 e3
      injection e1 with e1
      injection e2 with e2
      exact Prod.ext (by omega) (by omega)
  rw [e] at t
  exact t
theorem common_to_sem {d d' : D} {l l' : List Nat} (hd : seqD d = some (l.map dN)) (h : IsP l) (hd' : seqD d' = some (l'.map dN)) (h' : IsP l') (e : l.length = l'.length) (hl : l.length ≤ 1000) (ps : Pn) : f_common_to [d, d'] ps = .ok (.im (pD (toldC [] (l.zip l')))) ps := by
  have z : lstZipM (argsM [nameV 2, nameV 3]) [.im d, .im d', .im (pD l), .im (pD l')] ps = .ok (.ol ((l.zip l').map zpD)) [.im d, .im d', .im (pD l), .im (pD l')] ps := by
    rw [← zipL_n]; rfl
  exact run_fnX ((run_seq (both_run hd h hd' h' e ps)).trans (run_ret (run_call (ds := [.lst ((l.zip l').map zpD)]) (run_args (run_frz z) run_args0) rfl (told_z (by rw [List.length_zip]; omega) ps) im_ne)))
end Cl
namespace Cl
open PySem PySem.Spec PyProof.Rows L2 Dl Dh Cm
local instance : LawT := ⟨[], fun _ => 0⟩
/-! ### sorted, ascending -/
theorem insB_map {α β : Type} {lt : α → α → Bool} {lt' : β → β → Bool} (f : α → β) (h : ∀ a b, lt' (f a) (f b) = lt a b) (x : α) : ∀ l : List α, insB lt' (f x) (l.map f) = (insB lt x l).map f
  | [] => rfl
  | y :: ys => by
    show (if lt' (f y) (f x) then f y :: insB lt' (f x) (ys.map f) else f x :: f y :: ys.map f) = (if lt y x then y :: insB lt x ys else x :: y :: ys).map f
    rw [h, insB_map f h x ys]
    cases lt y x <;> rfl
theorem isort_map {α β : Type} {lt : α → α → Bool} {lt' : β → β → Bool} (f : α → β) (h : ∀ a b, lt' (f a) (f b) = lt a b) : ∀ l : List α, isort lt' (l.map f) = (isort lt l).map f
  | [] => rfl
  | x :: xs => by
    show insB lt' (f x) (isort lt' (xs.map f)) = (insB lt x (isort lt xs)).map f
    rw [isort_map f h xs, insB_map f h]
def ltN (a b : Nat) : Bool := decide (a < b)
theorem swo_ltN : SrtO.Swo ltN := ⟨fun x y h => decide_eq_false (by have := of_decide_eq_true h; omega), fun x y z h1 h2 => decide_eq_false (by have a := of_decide_eq_false h1; have b := of_decide_eq_false h2; omega)⟩
theorem ltZ_N (a b : Nat) : ltZ (a : Int) (b : Int) = ltN a b := by
  unfold ltZ ltN
  by_cases h : a < b
  · rw [decide_eq_true h, decide_eq_true (by omega)]
  · rw [decide_eq_false h, decide_eq_false (by omega)]
theorem sortD_n (l : List Nat) : sortD (l.map dN) = some ((isort ltN l).map dN) := by
  unfold sortD
  rw [asIs_dN]
  show some ((isort ltZ (l.map fun n : Nat => (n : Int))).map D.int) = _
  rw [isort_map (lt := ltN) (fun n : Nat => (n : Int)) ltZ_N, List.map_map]
  rfl
def upC (l : List Nat) : Bool := (l.zip (l.drop 1)).all fun q => decide (q.1 < q.2)
theorem upC_of : ∀ {l : List Nat}, l.Pairwise (· < ·) → upC l = true
  | [], _ => rfl
  | [_], _ => rfl
  | a :: b :: r, h => by
    have h1 := List.pairwise_cons.mp h
    show (decide (a < b) && upC (b :: r)) = true
    rw [decide_eq_true (h1.1 b List.mem_cons_self), upC_of h1.2]; rfl
theorem up_sorted {l : List Nat} (h : l.Nodup) : upC (isort ltN l) = true := by
  have a := isort_srtd swo_ltN l
  have b := (isort_perm (lt := ltN) l).nodup_iff.mpr h
  refine upC_of ((List.pairwise_and_iff.mpr ⟨a, b⟩).imp fun {x y} z => ?_)
  have z1 := of_decide_eq_false z.1
  have z2 : x ≠ y := z.2
  omega
theorem ascends_sem (l : List Nat) (hl : l.length ≤ 1000) (ps : Pn) : f_ascends [.lst (l.map dN)] ps = .ok (.im (.bl (upC l))) ps := by
  refine run_fn (E' := [.im (.lst (l.map dN)), .un, .un]) ?_
  have sl : slM (.late 0) (some (M.ret (.int 1))) none [.im (.lst (l.map dN)), .un, .un] ps = .ok (.ol ((l.drop 1).map dN)) [.im (.lst (l.map dN)), .un, .un] ps := by
    show Out.ok (Sl.ol (((l.map dN).drop (HT.sIx (l.map dN).length 0 (some ((1 : Nat) : Int)))).take (HT.sIx (l.map dN).length (l.map dN).length none - HT.sIx (l.map dN).length 0 (some ((1 : Nat) : Int))))) _ ps = _
    rw [HT.sIx_nat, HT.sIx_none, List.length_map]
    cases l with
    | nil => rfl
    | cons x r =>
      rw [show min 1 (x :: r).length = 1 by rw [List.length_cons]; omega]
      show Out.ok (Sl.ol ((r.map dN).take (r.length + 1 - 1))) _ ps = _
      rw [List.take_of_length_le (by rw [List.length_map]; omega)]
      rfl
  have g : M.bnd (argsM [nameV 0, frzM (slM (.late 0) (some (M.ret (.int 1))) none)]) zipK2 [.im (.lst (l.map dN)), .un, .un] ps = .ok ((l.zip (l.drop 1)).map zpD) [.im (.lst (l.map dN)), .un, .un] ps := by
    rw [bnd_ok (run_args (run_name rfl) (run_args (run_frz sl) run_args0)), ← zipL_n]; rfl
  have c := lcM_map (own := [1, 2]) (tg := tgT' 2 [tgN 1, tgN 2]) (te := frzM (ops [.late 1, .late 2] kLt)) zpD (fun q => .bl (decide (q.1 < q.2))) g rfl (by simp) (by rw [List.length_zip]; omega) fun q _ acc rest hf => by
    show lcK [1, 2] (M.ret true) (frzM (ops [.late 1, .late 2] kLt)) rest acc [.im (.lst (l.map dN)), .im (dN q.1), .im (dN q.2)] ps = _
    have ev : frzM (ops [.late 1, .late 2] kLt) [.im (.lst (l.map dN)), .im (dN q.1), .im (dN q.2)] ps = .ok (.bl (decide (q.1 < q.2))) [.im (.lst (l.map dN)), .im (dN q.1), .im (dN q.2)] ps := by
      refine run_frz (r := .im (.bl (decide (q.1 < q.2)))) ((run_ll (s := .im (dN q.1)) rfl im_ne (s' := .im (dN q.2)) rfl im_ne).trans ?_)
      show im1 (.bl (ltZ (q.1 : Int) (q.2 : Int))) _ ps = _
      rw [ltZ_N]; rfl
    exact (run_lck (own := [1, 2]) (rest := rest) hf ev).trans rfl
  have e : ((l.zip (l.drop 1)).map fun q => D.bl (decide (q.1 < q.2))) = ((l.zip (l.drop 1)).map fun q => decide (q.1 < q.2)).map D.bl := by rw [List.map_map]; rfl
  rw [e] at c
  refine run_ret ((run_c1 (run_frz c)).trans ((allO_n _ _ ps).trans ?_))
  rw [List.all_map]; rfl
theorem are_unlike_sem {d : D} {l : List Nat} (hd : seqD d = some (l.map dN)) (hl : l.length ≤ 1000) (h : l.Nodup) (ps : Pn) : f_are_unlike [d] ps = .ok (.im (.bl true)) ps := by
  refine run_fn (E' := [.im d]) (run_ret (run_call (ds := [.lst ((isort ltN l).map dN)]) ?_ rfl ((ascends_sem _ (by rw [(isort_perm l).length_eq]; exact hl) ps).trans (by rw [up_sorted h])) im_ne))
  refine run_args (run_frz (r := .ol ((isort ltN l).map dN)) ((run_l1 (s := .im d) rfl im_ne).trans ?_)) run_args0
  show M.bnd (optM (seqD d)) (fun ds => olO (sortD ds)) _ ps = _
  rw [hd]
  show olO (sortD (l.map dN)) _ ps = _
  rw [sortD_n]; rfl
theorem are_indexes_sem {d : D} {l : List Nat} {n : Nat} (hd : seqD d = some (l.map dN)) (hl : l.length ≤ 1000) (h : l.Nodup) (hn : ∀ x ∈ l, x < n) (ps : Pn) : f_are_indexes [d, dN n] ps = .ok (.im (.bl true)) ps := by
  refine run_fn (E' := [.im d, .im (dN n), .un]) ?_
  have c := lcM_map (own := [2]) (gi := itemsM (nameV 0)) (tg := tgN 2) (te := frzM (callM (argsM [nameV 2, M.ret (.int 0), frzM (ops [.late 1, .code (M.ret (.int 1))] kSub)]) 3 f_is_between [])) (E := [.im d, .im (dN n), .un]) (ps := ps) (l := l) dN (fun _ => .bl true) (itemsM_name rfl hd) rfl (by simp) (by omega) fun x hx acc rest hf => by
    refine run_tgN.trans ?_
    have hx := hn x hx
    have bt : f_is_between [dN x, .int 0, .int ((n : Int) - 1)] ps = .ok (.im (.bl true)) ps := by
      rw [show f_is_between [dN x, .int 0, .int ((n : Int) - 1)] ps = _ from is_between_int (x : Int) 0 ((n : Int) - 1) ps]
      rw [decide_eq_true (by omega : (0 : Int) ≤ (x : Int)), decide_eq_true (by omega : (x : Int) ≤ (n : Int) - 1)]
      rfl
    have ev : frzM (callM (argsM [nameV 2, M.ret (.int 0), frzM (ops [.late 1, .code (M.ret (.int 1))] kSub)]) 3 f_is_between []) [.im d, .im (dN n), .im (dN x)] ps = .ok (.bl true) [.im d, .im (dN n), .im (dN x)] ps :=
      run_frz (r := .im (.bl true)) (run_call (ds := [dN x, .int 0, .int ((n : Int) - 1)]) rfl rfl bt im_ne)
    exact (run_lck (own := [2]) (rest := rest) hf ev).trans rfl
  have e : (l.map fun _ => D.bl true) = (l.map fun _ => true).map D.bl := by rw [List.map_map]; rfl
  rw [e] at c
  have al : (l.map fun _ => true).all id = true := by rw [List.all_map]; exact List.all_eq_true.mpr fun _ _ => rfl
  refine (run_seq (run_iteF (run_orF (run_not (run_truth (run_call (ds := [d]) (run_args (run_name rfl) run_args0) rfl (listed_of hd ps) im_ne))) |>.trans (run_not (run_truth ((run_c1 (run_frz c)).trans ((allO_n _ _ ps).trans (by rw [al])))))))).trans ?_
  exact run_ret (run_call (ds := [d]) (run_args (run_name rfl) run_args0) rfl (are_unlike_sem hd hl h ps) im_ne)
theorem getN {l : List Nat} {i : Nat} (h : i < l.length) : (l.map dN)[i]? = some (dN (l.getD i 0)) := by
  rw [List.getElem?_map, List.getD_eq_getElem?_getD, List.getElem?_eq_getElem h]; rfl
theorem part_on_sem {d t : D} {l s : List Nat} (hd : seqD d = some (l.map dN)) (h : IsP l) (ht : seqD t = some (s.map dN)) (hl : s.length ≤ 1000) (hs : s.Nodup) (hn : ∀ x ∈ s, x < l.length) (ps : Pn) : f_part_on [d, t] ps = .ok (.im (pD (toldC [] (s.map fun i => l.getD i 0)))) ps := by
  refine run_fnX (E' := [.im d, .im t, .im (pD l), .un]) ?_
  refine (run_seq (run_set (run_call (ds := [.str "parting", d]) (run_args rfl (run_args (run_name rfl) run_args0)) rfl (need_parting_sem hd h ps) im_ne))).trans ?_
  have ln : frzM (ops [.late 2] kLen) [.im d, .im t, .im (pD l), .un] ps = .ok (dN l.length) [.im d, .im t, .im (pD l), .un] ps := by
    refine run_frz (r := .im (dN l.length)) ((run_l1 (s := .im (pD l)) rfl im_ne).trans ?_)
    show Out.ok (Sl.im (D.int ((l.map dN).length : Nat))) _ ps = _
    rw [List.length_map]; rfl
  refine (run_seq (run_iteF (run_not (run_truth (run_call (ds := [t, dN l.length]) (run_args (run_name rfl) (run_args ln run_args0)) rfl (are_indexes_sem ht hl hs hn ps) im_ne))))).trans ?_
  have c := lcM_map (own := [3]) (gi := itemsM (nameV 1)) (tg := tgN 3) (te := frzM (ops [.late 2, .late 3] kIx)) (E := [.im d, .im t, .im (pD l), .un]) (ps := ps) (l := s) dN (fun i => dN (l.getD i 0)) (itemsM_name rfl ht) rfl (by simp) (by omega) fun x hx acc rest hf => by
    refine run_tgN.trans ?_
    have ev : frzM (ops [.late 2, .late 3] kIx) [.im d, .im t, .im (pD l), .im (dN x)] ps = .ok (dN (l.getD x 0)) [.im d, .im t, .im (pD l), .im (dN x)] ps :=
      run_frz (r := .im (dN (l.getD x 0))) ((run_ll (s := .im (pD l)) rfl im_ne (s' := .im (dN x)) rfl im_ne).trans (kIx_tup (getN (hn x hx)) _ ps))
    exact (run_lck (own := [3]) (rest := rest) hf ev).trans rfl
  have e : (s.map fun i => dN (l.getD i 0)) = (s.map fun i => l.getD i 0).map dN := by rw [List.map_map]; rfl
  rw [e] at c
  refine run_ret (run_call (ds := [.lst ((s.map fun i => l.getD i 0).map dN)]) (run_args (run_frz c) run_args0) rfl (told_n rfl (by rwa [List.length_map]) ps) im_ne)
end Cl
namespace Cl
open PySem PySem.Spec PyProof.Rows L2 Dl Dh Cm
local instance : LawT := ⟨[], fun _ => 0⟩
/-! ### how many are different -/
theorem onceL_add {α : Type} [DecidableEq α] (l : List α) : onceL l = l.foldl addC [] := by
  unfold onceL
  have e : (addN : List α → α → List α) = addC := by
    funext acc k
    unfold addN addC
    by_cases h : k ∈ acc
    · rw [if_pos h, memC_iff.mpr h]; rfl
    · rw [if_neg h, memC_no h]; rfl
  rw [e]
theorem once_len {α β : Type} [DecidableEq α] [DecidableEq β] (f : α → β) (l : List α) (h : ∀ a b, a ∈ l → b ∈ l → f a = f b → a = b) : (onceL (l.map f)).length = blkN (toldC [] l) := by
  have t : toldC [] (l.map f) = toldC [] l := told_map f l [] fun a b ha hb => h a b (by simpa using ha) (by simpa using hb)
  rw [onceL_add, ← told_blk, t]
  show max 0 _ = _
  omega
def labY : Nat → Key
  | 0 => .inl 0
  | 1 => .inl 1
  | 2 => .inr "a"
  | 3 => .inr "b"
  | 4 => .inr "zz"
  | 5 => .inl 100000000000000000000
  | _ => .inl (-3)
theorem keyD_lab : ∀ n : Nat, keyD (labD n) = some (labY n)
  | 0 | 1 | 2 | 3 | 4 | 5 => rfl
  | _ + 6 => rfl
theorem labY_inj : ∀ a b : Fin 7, labY a.1 = labY b.1 → a = b := by decide +kernel
theorem keysD_map {α : Type} (f : α → D) (g : α → Key) (h : ∀ a, keyD (f a) = some (g a)) : ∀ l : List α, keysD (l.map f) = some (l.map g)
  | [] => rfl
  | a :: r => by
    show (match keyD (f a), keysD (r.map f) with
      | some k, some ks => some (k :: ks)
      | _, _ => none) = _
    rw [h, keysD_map f g h r]; rfl
theorem lenSet_lab {l : List Nat} (hl : l.length ≤ 1000) (h : ∀ x ∈ l, x < 7) : lenSetD (l.map labD) = some (blkN (toldC [] l)) := by
  unfold lenSetD
  rw [keysD_map labD labY keyD_lab]
  simp only
  rw [List.length_map, if_pos (by omega), once_len labY l fun a b ha hb e => congrArg Fin.val (labY_inj ⟨a, h a ha⟩ ⟨b, h b hb⟩ e)]
theorem lenSet_n {l : List Nat} (hl : l.length ≤ 1000) : lenSetD (l.map dN) = some (blkN (toldC [] l)) := by
  unfold lenSetD
  rw [keysD_map dN (fun n => .inl (n : Int)) fun _ => rfl]
  simp only
  rw [List.length_map, if_pos (by omega), once_len (fun n : Nat => (Sum.inl (n : Int) : Key)) l fun a b ha hb e => by injection e with e; omega]
theorem tupIs0_z : ∀ z : List (Nat × Nat), tupIs0 (z.map zpD) = some (z.map fun q => [(q.1 : Int), (q.2 : Int)])
  | [] => rfl
  | q :: r => by
    show (match asIs [dN q.1, dN q.2], tupIs0 (r.map zpD) with
      | some ns, some nss => some (ns :: nss)
      | _, _ => none) = _
    rw [tupIs0_z r]; rfl
theorem lenSet_z {z : List (Nat × Nat)} (hl : z.length ≤ 8) : lenSetD (z.map zpD) = some (blkN (toldC [] z)) := by
  cases z with
  | nil => rfl
  | cons q r =>
    unfold lenSetD
    have k : keysD ((q :: r).map zpD) = none := rfl
    rw [k]
    simp only
    rw [tupIs0_z]
    simp only
    rw [List.length_map, if_pos (by omega), once_len (fun q : Nat × Nat => [(q.1 : Int), (q.2 : Int)]) (q :: r) fun a b ha hb e => by
      injection e with e1 e2
      injection e2 with e2 e3
      exact Prod.ext (by omega) (by omega)]
theorem kLenSet_of {d : D} {ds : List D} {n : Nat} (hd : seqD d = some ds) (h : lenSetD ds = some n) (E : List Sl) (ps : Pn) : kLenSet [d] E ps = .ok (.im (dN n)) E ps := by
  show M.bnd (optM (seqD d)) (fun ds => natO (lenSetD ds)) E ps = _
  rw [hd]
  show natO (lenSetD ds) E ps = _
  rw [h]; rfl
/-! ### the law's over -/
def bOver (a b : List Nat) : Bool := blkN (toldC [] (a.zip b)) == blkN (toldC [] b)
def lexN : List Nat → List Nat → Bool
  | [], [] => false
  | [], _ :: _ => true
  | _ :: _, [] => false
  | x :: xs, y :: ys => if x = y then lexN xs ys else decide (x < y)
theorem lexI_N : ∀ a b : List Nat, lexI (a.map fun n : Nat => (n : Int)) (b.map fun n : Nat => (n : Int)) = lexN a b
  | [], [] => rfl
  | [], _ :: _ => rfl
  | _ :: _, [] => rfl
  | x :: xs, y :: ys => by
    show (if (x : Int) = (y : Int) then lexI (xs.map fun n : Nat => (n : Int)) (ys.map fun n : Nat => (n : Int)) else decide ((x : Int) < (y : Int))) = if x = y then lexN xs ys else decide (x < y)
    rw [lexI_N xs ys]
    by_cases h : x = y
    · rw [if_pos h, if_pos (by omega)]
    · rw [if_neg h, if_neg (by omega)]
      by_cases q : x < y
      · rw [decide_eq_true q, decide_eq_true (by omega)]
      · rw [decide_eq_false q, decide_eq_false (by omega)]
theorem tupIs_n : ∀ ls : List (List Nat), (∀ l ∈ ls, l ≠ []) → tupIs (ls.map pD) = some (ls.map fun l => l.map fun n : Nat => (n : Int))
  | [], _ => rfl
  | l :: r, h => by
    show (match asIs (l.map dN), tupIs (r.map pD) with
      | some (n :: ns), some nss => some ((n :: ns) :: nss)
      | _, _ => none) = _
    rw [asIs_dN, tupIs_n r fun x hx => h x (List.mem_cons_of_mem _ hx)]
    cases l with
    | nil => exact absurd rfl (h [] List.mem_cons_self)
    | cons n ns => rfl
theorem sortD_ls {ls : List (List Nat)} (h : ∀ l ∈ ls, l ≠ []) (hn : ls ≠ []) : sortD (ls.map pD) = some ((isort lexN ls).map pD) := by
  have a : asIs (ls.map pD) = none := by
    cases ls with
    | nil => exact absurd rfl hn
    | cons l r => rfl
  have b : tupIs1 (ls.map pD) = some (ls.map fun l => l.map fun n : Nat => (n : Int)) := by
    rw [← tupIs_n ls h]
    cases ls with
    | nil => rfl
    | cons l r =>
      cases l with
      | nil => exact absurd rfl (h [] List.mem_cons_self)
      | cons n ns => rfl
  unfold sortD
  rw [a, b]
  show some ((isort lexI (ls.map fun l => l.map fun n : Nat => (n : Int))).map tupOf) = _
  rw [isort_map (lt := lexN) (fun l : List Nat => l.map fun n : Nat => (n : Int)) lexI_N, List.map_map]
  congr 1
  refine List.map_congr_left fun l _ => ?_
  show D.tup ((l.map fun n : Nat => (n : Int)).map D.int) = D.tup (l.map dN)
  rw [List.map_map]; rfl
def compC (l one : List Nat) : List Nat := l.map fun b => one.getD b 0
def coarserC (l : List Nat) : List (List Nat) := isort lexN ((partsL (blkN l)).map (compC l))
theorem lt_blk : ∀ {l : List Nat} {b : Nat}, b ∈ l → b < blkN l
  | n :: r, b, h => by
    show b < max (n + 1) (blkN r)
    rcases List.mem_cons.mp h with rfl | h
    · omega
    · have := lt_blk h; omega
theorem coarser_ones_sem {d : D} {l : List Nat} (hd : seqD d = some (l.map dN)) (h : IsP l) (hl : l.length ≤ 9) (hb : blkN l ≤ 8) (hn : l ≠ []) (ps : Pn) : f_coarser_ones [d] ps = .ok (.im (.tup ((coarserC l).map pD))) ps := by
  refine run_fnX (E' := [.im d, .im (pD l), .un, .un]) ?_
  refine (run_seq (run_set (run_call (ds := [.str "parting", d]) (run_args rfl (run_args (run_name rfl) run_args0)) rfl (need_parting_sem hd h ps) im_ne))).trans ?_
  have bl : callM (argsM [nameV 1]) 1 f_blocks_of [] [.im d, .im (pD l), .un, .un] ps = .ok (.im (dN (blkN l))) [.im d, .im (pD l), .un, .un] ps := run_call (ds := [pD l]) (run_args (run_name rfl) run_args0) rfl (blocks_sem l ps) im_ne
  have t1 : testM (ops [.code (frzM (callM (argsM [nameV 1]) 1 f_blocks_of [])), .code (M.ret (.int 8))] kGt) [.im d, .im (pD l), .un, .un] ps = .ok false [.im d, .im (pD l), .un, .un] ps := by
    refine run_test ((run_cc (e := .int 8) (ps2 := ps) (run_frz bl) rfl).trans ?_)
    show im1 (.bl (decide ((8 : Int) < (blkN l : Nat)))) _ ps = _
    rw [decide_eq_false (by omega)]; rfl
  refine (run_seq (run_iteF t1)).trans ?_
  have g : itemsM (frzM (callM (argsM [frzM (callM (argsM [nameV 1]) 1 f_blocks_of [])]) 1 f_partings_of [])) [.im d, .im (pD l), .un, .un] ps = .ok ((partsL (blkN l)).map pD) [.im d, .im (pD l), .un, .un] ps := by
    have q : frzM (callM (argsM [frzM (callM (argsM [nameV 1]) 1 f_blocks_of [])]) 1 f_partings_of []) [.im d, .im (pD l), .un, .un] ps = .ok (.tup ((partsL (blkN l)).map pD)) [.im d, .im (pD l), .un, .un] ps :=
      run_frz (r := .im (.tup _)) (run_call (ds := [dN (blkN l)]) (run_args (run_frz bl) run_args0) rfl (partings_of_sem hb ps) im_ne)
    unfold itemsM
    rw [bnd_ok q]; rfl
  have hlen : (partsL (blkN l)).length ≤ 4140 := partsL_le ⟨blkN l, by omega⟩
  have c := lcM_map (own := [2]) (tg := tgN 2) (te := frzM (ops [.code (frzM (lcM [3] (itemsM (nameV 1)) (tgN 3) (M.ret true) (frzM (ops [.late 2, .late 3] kIx))))] kTup)) pD (fun one => pD (compC l one)) g rfl (by simp) (by omega) fun one ho acc rest hf => by
    refine run_tgN.trans ?_
    have c2 := lcM_map (own := [3]) (gi := itemsM (nameV 1)) (tg := tgN 3) (te := frzM (ops [.late 2, .late 3] kIx)) (E := [.im d, .im (pD l), .im (pD one), .un]) (ps := ps) (l := l) dN (fun b => dN (one.getD b 0)) (itemsM_name rfl rfl) rfl (by simp) (by omega) fun b hb' acc rest hf => by
      refine run_tgN.trans ?_
      have lt : b < one.length := by rw [partsL_len _ _ ho]; exact lt_blk hb'
      have ev : frzM (ops [.late 2, .late 3] kIx) [.im d, .im (pD l), .im (pD one), .im (dN b)] ps = .ok (dN (one.getD b 0)) [.im d, .im (pD l), .im (pD one), .im (dN b)] ps :=
        run_frz (r := .im (dN (one.getD b 0))) ((run_ll (s := .im (pD one)) rfl im_ne (s' := .im (dN b)) rfl im_ne).trans (kIx_tup (getN lt) _ ps))
      exact (run_lck (own := [3]) (rest := rest) hf ev).trans rfl
    have e : (l.map fun b => dN (one.getD b 0)) = (compC l one).map dN := by unfold compC; rw [List.map_map]; rfl
    rw [e] at c2
    have ev : frzM (ops [.code (frzM (lcM [3] (itemsM (nameV 1)) (tgN 3) (M.ret true) (frzM (ops [.late 2, .late 3] kIx))))] kTup) [.im d, .im (pD l), .im (pD one), .un] ps = .ok (pD (compC l one)) [.im d, .im (pD l), .im (pD one), .un] ps :=
      run_frz (r := .im (pD (compC l one))) ((run_c1 (run_frz c2)).trans rfl)
    exact (run_lck (own := [2]) (rest := rest) hf ev).trans rfl
  have e : ((partsL (blkN l)).map fun one => pD (compC l one)) = ((partsL (blkN l)).map (compC l)).map pD := by rw [List.map_map]; rfl
  rw [e] at c
  have so : sortD (((partsL (blkN l)).map (compC l)).map pD) = some ((coarserC l).map pD) := by
    refine sortD_ls (fun x hx => ?_) fun z => ?_
    · obtain ⟨one, _, rfl⟩ := List.mem_map.mp hx
      unfold compC
      exact fun z => hn (List.map_eq_nil_iff.mp z)
    · have z := List.map_eq_nil_iff.mp z
      have : ∀ k : Nat, partsL k ≠ [] := by
        intro k
        induction k with
        | zero => simp [partsL]
        | succ k ih =>
          intro z
          have z : (partsL k).flatMap (fun one => (List.range (blkN one + 1)).map fun b => one ++ [b]) = [] := z
          cases q : partsL k with
          | nil => exact ih q
          | cons o r =>
            rw [q, List.flatMap_cons, List.append_eq_nil_iff] at z
            have := congrArg List.length z.1
            rw [List.length_map, List.length_range] at this
            cases this
      exact this _ z
  refine run_ret ((run_c1 (run_frz (r := .ol ((coarserC l).map pD)) ((run_c1 (run_frz c)).trans ?_))).trans rfl)
  show olO (sortD (((partsL (blkN l)).map (compC l)).map pD)) _ ps = _
  rw [so]; rfl
def finerC (l : List Nat) : List (List Nat) := (partsL l.length).filter (overC l)
theorem finer_ones_sem {d : D} {l : List Nat} (hd : seqD d = some (l.map dN)) (h : IsP l) (hl : l.length ≤ 8) (ps : Pn) : f_finer_ones [d] ps = .ok (.im (.tup ((finerC l).map pD))) ps := by
  refine run_fnX (E' := [.im d, .im (pD l), .un]) ?_
  refine (run_seq (run_set (run_call (ds := [.str "parting", d]) (run_args rfl (run_args (run_name rfl) run_args0)) rfl (need_parting_sem hd h ps) im_ne))).trans ?_
  have ln : frzM (ops [.late 1] kLen) [.im d, .im (pD l), .un] ps = .ok (dN l.length) [.im d, .im (pD l), .un] ps := by
    refine run_frz (r := .im (dN l.length)) ((run_l1 (s := .im (pD l)) rfl im_ne).trans ?_)
    show Out.ok (Sl.im (D.int ((l.map dN).length : Nat))) _ ps = _
    rw [List.length_map]; rfl
  have t1 : testM (ops [.code (frzM (ops [.late 1] kLen)), .code (M.ret (.int 8))] kGt) [.im d, .im (pD l), .un] ps = .ok false [.im d, .im (pD l), .un] ps := by
    refine run_test ((run_cc (e := .int 8) (ps2 := ps) ln rfl).trans ?_)
    show im1 (.bl (decide ((8 : Int) < (l.length : Nat)))) _ ps = _
    rw [decide_eq_false (by omega)]; rfl
  refine (run_seq (run_iteF t1)).trans ?_
  have g : itemsM (frzM (callM (argsM [frzM (ops [.late 1] kLen)]) 1 f_partings_of [])) [.im d, .im (pD l), .un] ps = .ok ((partsL l.length).map pD) [.im d, .im (pD l), .un] ps := by
    have q : frzM (callM (argsM [frzM (ops [.late 1] kLen)]) 1 f_partings_of []) [.im d, .im (pD l), .un] ps = .ok (.tup ((partsL l.length).map pD)) [.im d, .im (pD l), .un] ps :=
      run_frz (r := .im (.tup _)) (run_call (ds := [dN l.length]) (run_args ln run_args0) rfl (partings_of_sem hl ps) im_ne)
    unfold itemsM
    rw [bnd_ok q]; rfl
  have hlen : (partsL l.length).length ≤ 4140 := partsL_le ⟨l.length, by omega⟩
  have c := lcM_flt (own := [2]) (tg := tgN 2) (tt := truthM (callM (argsM [nameV 1, nameV 2]) 2 f_is_over [])) (te := nameV 2) pD (overC l) pD g rfl (by simp) (by omega) fun one ho acc rest hf => by
    refine run_tgN.trans ?_
    exact (run_flt (run_truth (run_call (ds := [pD l, pD one]) (run_args (run_name rfl) (run_args (run_name rfl) run_args0)) rfl (is_over_sem l one (by omega) ps) im_ne)) hf (run_name rfl) rfl rfl).trans rfl
  exact run_ret ((run_c1 (run_frz c)).trans rfl)
end Cl
namespace Cl
open PySem PySem.Spec PyProof.Rows L2 Dl Dh Cm
local instance : LawT := ⟨[], fun _ => 0⟩
theorem erase_perm {α : Type} : ∀ (l : List α) (n : Nat) (h : n < l.length), (l[n] :: l.eraseIdx n).Perm l
  | x :: r, 0, _ => .refl _
  | x :: r, n + 1, h => by
    have h' : n < r.length := by rw [List.length_cons] at h; omega
    show (r[n] :: x :: r.eraseIdx n).Perm (x :: r)
    exact (List.Perm.swap x _ _).trans (List.Perm.cons x (erase_perm r n h'))
theorem erase_map {α β : Type} (f : α → β) : ∀ (l : List α) (n : Nat), (l.map f).eraseIdx n = (l.eraseIdx n).map f
  | [], _ => rfl
  | _ :: _, 0 => rfl
  | x :: r, n + 1 => by
    show f x :: (r.map f).eraseIdx n = f x :: (r.eraseIdx n).map f
    rw [erase_map f r n]
theorem peekL_run {β : Type} {k : Nat} {f : Unit → M β} {E : List Sl} {ps : Pn} {xs : List D} (e : E[k]? = some (.ol xs)) : M.bnd (peekL k) f E ps = f () E ps := by
  have z : peekL k E ps = .ok () E ps := by unfold peekL; rw [e]
  exact bnd_ok z
theorem modL_run {k : Nat} {f : List D → Option (List D × D)} {E : List Sl} {ps : Pn} {xs ys : List D} {r : D} (e : E[k]? = some (.ol xs)) (h : f xs = some (ys, r)) : modL k f E ps = .ok (.im r) (E.set k (.ol ys)) ps := by
  unfold modL
  rw [e]
  simp only
  rw [h]
section
variable {ns : List Int} (hb : ∀ z ∈ ns, Builtin.Int.intBits z ≤ 1048576)
include hb
theorem law_draw {m T : Nat} (h1 : 0 < m) (h2 : m ≤ 1000) (hT : T ≤ 99999) {ps : Pn} (h : PI ns T ps) : ∃ n ps', n < m ∧ PI ns (T + 1) ps' ∧ f_law_draw [.pen, dN m] ps = .ok (.im (dN n)) ps' := draw_sem hb h1 h2 hT h
theorem law_pick {ds : List D} {T : Nat} (h1 : 0 < ds.length) (h2 : ds.length ≤ 1000) (hT : T ≤ 99999) {ps : Pn} (h : PI ns T ps) : ∃ (n : Nat) (d : D) (ps' : Pn), ds[n]? = some d ∧ PI ns (T + 1) ps' ∧ f_law_pick [.pen, .lst ds] ps = .ok (.im d) ps' := by
  obtain ⟨n, ps', hn, hp, e⟩ := law_draw hb h1 h2 hT h
  refine ⟨n, ds[n], ps', List.getElem?_eq_getElem hn, hp, run_fn (E' := [.im .pen, .im (.lst ds)]) (run_ret ?_)⟩
  have a : argsM [nameV 0, frzM (ops [.late 1] kLen)] [.im .pen, .im (.lst ds)] ps = .ok [.pen, dN ds.length] [.im .pen, .im (.lst ds)] ps := run_args (run_name rfl) (run_args (run_frz (r := .im (dN ds.length)) ((run_l1 (s := .im (.lst ds)) rfl im_ne).trans rfl)) run_args0)
  exact (run_lc (s := .im (.lst ds)) (s' := .im (.lst ds)) (d := dN n) rfl im_ne (run_frz (run_call a rfl e im_ne)) rfl im_ne).trans (kIx_lst (List.getElem?_eq_getElem hn) _ _)
end
end Cl
namespace Cl
open PySem PySem.Spec PyProof.Rows L2 Dl Dh Cm

/-- wrong = [None, 5, '01', {}, (1,), (0, 2), (0, -1), (0, True), (0, None), [[0]], (0, 1, 3), -/
def q1 : M Fl := setM 2 (lstM (argsM [M.ret (.non), M.ret (.int 5), M.ret (.str "01"), frzM (M.ret (.od [])), tupM (argsM [M.ret (.int 1)]), tupM (argsM [M.ret (.int 0), M.ret (.int 2)]), tupM (argsM [M.ret (.int 0), frzM (ops [.code (M.ret (.int 1))] kNeg)]), tupM (argsM [M.ret (.int 0), M.ret (.bl true)]), tupM (argsM [M.ret (.int 0), M.ret (.non)]), frzM (lstM (argsM [frzM (lstM (argsM [M.ret (.int 0)]))])), tupM (argsM [M.ret (.int 0), M.ret (.int 1), M.ret (.int 3)]), tupM (argsM [M.ret (.str "0")])]))
/-- odd, bad, fine = (_law_pick(pen, wrong), _law_pick(pen, wrong), _law_at_told([_law_draw(pe -/
def q2 : M Fl := asgM (tupM (argsM [frzM (callM (argsM [nameV 1, nameV 2]) 2 f_law_pick []), frzM (callM (argsM [nameV 1, nameV 2]) 2 f_law_pick []), frzM (callM (argsM [frzM (lcM [14] (ops [.code (frzM (ops [.code (M.ret (.int 1)), .code (frzM (callM (argsM [nameV 1, M.ret (.int 8)]) 2 f_law_draw []))] kAdd))] rngK1) (tgN 14) (M.ret true) (frzM (callM (argsM [nameV 1, M.ret (.int 3)]) 2 f_law_draw [])))]) 1 f_law_at_told [])])) (tgT' 3 [tgN 11, tgN 12, tgN 13])
/-- heard = [_law_at_heard(lambda: blocks_in(odd)), _law_at_heard(lambda a1=0: groups_in(odd)) -/
def q3 : M Fl := setM 4 (lstM (argsM [frzM (heardM [11] (callM (argsM [nameV 11]) 1 f_blocks_in []) h_heard), frzM (heardM [11] (callM (argsM [nameV 11]) 1 f_groups_in []) h_heard), frzM (heardM [11, 12] (callM (argsM [nameV 11, nameV 12]) 2 f_part_on []) h_heard), frzM (heardM [11] (callM (argsM [nameV 11]) 1 f_coarser_ones []) h_heard)]))
/-- heard.append(_law_at_heard(lambda: finer_ones(odd))) -/
def q4 : M Fl := dropM (appM 4 (frzM (heardM [11] (callM (argsM [nameV 11]) 1 f_finer_ones []) h_heard)))
/-- if heard != [('value', 'parting')] * 5: -/
def q5 : M Fl := iteM (testM (ops [.late 4, .code (frzM (ops [.code (frzM (lstM (argsM [tupM (argsM [M.ret (.str "value"), M.ret (.str "parting")])]))), .code (M.ret (.int 5))] kMul))] kNe)) (retM (imM (M.ret (.bl false)))) (M.ret .next)
/-- heard = [_law_at_heard(lambda: is_coarser(odd, bad)), _law_at_heard(lambda a1=0: merged_by -/
def q6 : M Fl := setM 4 (lstM (argsM [frzM (heardM [11, 12] (callM (argsM [nameV 11, nameV 12]) 2 f_is_coarser []) h_heard), frzM (heardM [11, 12] (callM (argsM [nameV 11, nameV 12]) 2 f_merged_by []) h_heard), frzM (heardM [11, 12] (callM (argsM [nameV 11, nameV 12]) 2 f_common_to []) h_heard)]))
/-- heard = heard + [_law_at_heard(lambda: is_coarser(fine, bad)), _law_at_heard(lambda a1=0:  -/
def q7 : M Fl := setM 4 (ops [.late 4, .code (frzM (lstM (argsM [frzM (heardM [12, 13] (callM (argsM [nameV 13, nameV 12]) 2 f_is_coarser []) h_heard), frzM (heardM [12, 13] (callM (argsM [nameV 13, nameV 12]) 2 f_merged_by []) h_heard), frzM (heardM [12, 13] (callM (argsM [nameV 13, nameV 12]) 2 f_common_to []) h_heard)])))] kAdd)
/-- longer = fine + (0,) -/
def q8 : M Fl := setM 5 (ops [.late 13, .code (tupM (argsM [M.ret (.int 0)]))] kAdd)
/-- heard = heard + [_law_at_heard(lambda: is_coarser(fine, longer)), _law_at_heard(lambda a1= -/
def q9 : M Fl := setM 4 (ops [.late 4, .code (frzM (lstM (argsM [frzM (heardM [5, 13] (callM (argsM [nameV 13, nameV 5]) 2 f_is_coarser []) h_heard), frzM (heardM [5, 13] (callM (argsM [nameV 5, nameV 13]) 2 f_merged_by []) h_heard), frzM (heardM [5, 13] (callM (argsM [nameV 13, nameV 5]) 2 f_common_to []) h_heard)])))] kAdd)
/-- if heard != [('value', 'one')] * 3 + [('value', 'other')] * 3 + [('misfit', 'other')] * 3: -/
def q10 : M Fl := iteM (testM (ops [.late 4, .code (frzM (ops [.code (frzM (ops [.code (frzM (ops [.code (frzM (lstM (argsM [tupM (argsM [M.ret (.str "value"), M.ret (.str "one")])]))), .code (M.ret (.int 3))] kMul)), .code (frzM (ops [.code (frzM (lstM (argsM [tupM (argsM [M.ret (.str "value"), M.ret (.str "other")])]))), .code (M.ret (.int 3))] kMul))] kAdd)), .code (frzM (ops [.code (frzM (lstM (argsM [tupM (argsM [M.ret (.str "misfit"), M.ret (.str "other")])]))), .code (M.ret (.int 3))] kMul))] kAdd))] kNe)) (retM (imM (M.ret (.bl false)))) (M.ret .next)
/-- things = _law_pick(pen, [None, 5, '0', [len(fine)], [-1], [0, 0], [True], [None], {}, [[0] -/
def q11 : M Fl := setM 6 (callM (argsM [nameV 1, frzM (lstM (argsM [M.ret (.non), M.ret (.int 5), M.ret (.str "0"), frzM (lstM (argsM [frzM (ops [.late 13] kLen)])), frzM (lstM (argsM [frzM (ops [.code (M.ret (.int 1))] kNeg)])), frzM (lstM (argsM [M.ret (.int 0), M.ret (.int 0)])), frzM (lstM (argsM [M.ret (.bl true)])), frzM (lstM (argsM [M.ret (.non)])), frzM (M.ret (.od [])), frzM (lstM (argsM [frzM (lstM (argsM [M.ret (.int 0)]))]))]))]) 2 f_law_pick [])
/-- labels = _law_pick(pen, [None, 5, 'ab', [None], [True], [(1,)], {}, [1, [2]], [1, 'a', Non -/
def q12 : M Fl := setM 7 (callM (argsM [nameV 1, frzM (lstM (argsM [M.ret (.non), M.ret (.int 5), M.ret (.str "ab"), frzM (lstM (argsM [M.ret (.non)])), frzM (lstM (argsM [M.ret (.bl true)])), frzM (lstM (argsM [tupM (argsM [M.ret (.int 1)])])), frzM (M.ret (.od [])), frzM (lstM (argsM [M.ret (.int 1), frzM (lstM (argsM [M.ret (.int 2)]))])), frzM (lstM (argsM [M.ret (.int 1), M.ret (.str "a"), M.ret (.non)]))]))]) 2 f_law_pick [])
/-- number = _law_pick(pen, [None, -1, 9, True, '3', (2,), 10 ** 30]) -/
def q13 : M Fl := setM 8 (callM (argsM [nameV 1, frzM (lstM (argsM [M.ret (.non), frzM (ops [.code (M.ret (.int 1))] kNeg), M.ret (.int 9), M.ret (.bl true), M.ret (.str "3"), tupM (argsM [M.ret (.int 2)]), frzM (ops [.code (M.ret (.int 10)), .code (M.ret (.int 30))] kPow)]))]) 2 f_law_pick [])
/-- heard = [_law_at_heard(lambda: part_on(fine, things)), _law_at_heard(lambda a1=0: parting_ -/
def q14 : M Fl := setM 4 (lstM (argsM [frzM (heardM [6, 13] (callM (argsM [nameV 13, nameV 6]) 2 f_part_on []) h_heard), frzM (heardM [7] (callM (argsM [nameV 7]) 1 f_parting_of []) h_heard), frzM (heardM [8] (callM (argsM [nameV 8]) 1 f_all_partings []) h_heard)]))
/-- if heard != [('value', 'things'), ('value', 'labels'), ('number', 'n')]: -/
def q15 : M Fl := iteM (testM (ops [.late 4, .code (frzM (lstM (argsM [tupM (argsM [M.ret (.str "value"), M.ret (.str "things")]), tupM (argsM [M.ret (.str "value"), M.ret (.str "labels")]), tupM (argsM [M.ret (.str "number"), M.ret (.str "n")])])))] kNe)) (retM (imM (M.ret (.bl false)))) (M.ret .next)
def q16 : M Fl := seqM q2 (seqM q3 (seqM q4 (seqM q5 (seqM q6 (seqM q7 (seqM q8 (seqM q9 (seqM q10 (seqM q11 (seqM q12 (seqM q13 (seqM q14 (q15)))))))))))))
def q17 : M Fl := forM (ops [.code (M.ret (.int 5))] rngK1) (tgN 3) q16
/-- wide, deep = (tuple(range(9)), (0,) * 9) -/
def q18 : M Fl := asgM (tupM (argsM [frzM (tupRangeM (M.ret (.int 9))), frzM (ops [.code (tupM (argsM [M.ret (.int 0)])), .code (M.ret (.int 9))] kMul)])) (tgT' 2 [tgN 9, tgN 10])
/-- heard = [_law_at_heard(lambda: coarser_ones(wide)), _law_at_heard(lambda a1=0: finer_ones( -/
def q19 : M Fl := setM 4 (lstM (argsM [frzM (heardM [9] (callM (argsM [nameV 9]) 1 f_coarser_ones []) h_heard), frzM (heardM [10] (callM (argsM [nameV 10]) 1 f_finer_ones []) h_heard), frzM (heardM [9] (callM (argsM [nameV 9]) 1 f_finer_ones []) h_heard)]))
/-- return heard == [('value', 'parting')] * 3 and coarser_ones(deep) == (deep,) and (len(coar -/
def q20 : M Fl := retM (andE (ops [.late 4, .code (frzM (ops [.code (frzM (lstM (argsM [tupM (argsM [M.ret (.str "value"), M.ret (.str "parting")])]))), .code (M.ret (.int 3))] kMul))] kEq) (andE (ops [.code (frzM (callM (argsM [nameV 10]) 1 f_coarser_ones [])), .code (tupM (argsM [nameV 10]))] kEq) (andE (ops [.code (frzM (ops [.code (frzM (callM (argsM [frzM (ops [.code (frzM (tupRangeM (M.ret (.int 7)))), .code (tupM (argsM [M.ret (.int 0), M.ret (.int 3)]))] kAdd)]) 1 f_coarser_ones []))] kLen)), .code (M.ret (.int 877))] kEq) (ops [.code (frzM (callM (argsM [frzM (tupRangeM (M.ret (.int 8)))]) 1 f_finer_ones [])), .code (tupM (argsM [frzM (tupRangeM (M.ret (.int 8)))]))] kEq))))
theorem b_law_eq : b_law = seqM q1 (seqM q17 (seqM q18 (seqM q19 (q20)))) := rfl
end Cl
namespace Cl
open PySem PySem.Spec PyProof.Rows L2 Dl Dh Cm
local instance : LawT := ⟨[], fun _ => 0⟩
/-! ### what raises -/
section
variable {E E' E2 : List Sl} {ps ps' ps2 : Pn} {x : Xn}
theorem bnd_err {α β : Type} {m : M α} {k : α → M β} (h : m E ps = .err x ps') : M.bnd m k E ps = .err x ps' := by unfold M.bnd; rw [h]
theorem run_fnE {N : Nat} {body : M Fl} {args : List D} (h : body (envF N args) ps = .err x ps') : runF N body args ps = .err x ps' := by unfold runF; rw [h]; rfl
theorem run_callE {gs : M (List D)} {n : Nat} {f : Fn} {dd ds : List D} (h : gs E ps = .ok ds E' ps') (hn : (ds ++ dd).length = n) (hf : f (ds ++ dd) ps' = .err x ps2) : callM gs n f dd E ps = .err x ps2 := by
  unfold callM
  refine (bnd_ok h).trans ?_
  show (if (ds ++ dd).length = n then applyF f (ds ++ dd) else M.bad) E' ps' = _
  rw [if_pos hn]
  unfold applyF
  rw [hf]
theorem run_argsE {g : M D} {gs : List (M D)} {d : D} (h : g E ps = .ok d E' ps') (t : argsM gs E' ps' = .err x ps2) : argsM (g :: gs) E ps = .err x ps2 := by
  show M.bnd g (fun d => M.bnd (argsM gs) fun ds => M.ret (d :: ds)) E ps = _
  rw [bnd_ok h, bnd_err t]
theorem run_argsE0 {g : M D} {gs : List (M D)} (h : g E ps = .err x ps') : argsM (g :: gs) E ps = .err x ps' := bnd_err h
theorem run_callE0 {gs : M (List D)} {n : Nat} {f : Fn} {dd : List D} (h : gs E ps = .err x ps') : callM gs n f dd E ps = .err x ps' := bnd_err h
theorem run_frzE {g : M Sl} (h : g E ps = .err x ps') : frzM g E ps = .err x ps' := bnd_err h
theorem run_seqE {f g : M Fl} (h : f E ps = .err x ps') : seqM f g E ps = .err x ps' := bnd_err h
theorem run_retE {g : M Sl} (h : g E ps = .err x ps') : retM g E ps = .err x ps' := bnd_err h
theorem run_setE {i : Nat} {g : M Sl} (h : g E ps = .err x ps') : setM i g E ps = .err x ps' := bnd_err h
theorem run_raise {n : String} {fl : List String} {gs : M (List D)} {ds : List D} (h : gs E ps = .ok ds E' ps') (hl : ds.length = fl.length ∧ ds.length ≤ 1000) : raiseM n fl gs E ps = .err ⟨n, excFs fl ds⟩ ps' := by
  unfold raiseM
  refine (bnd_ok h).trans ?_
  unfold errM
  rw [if_pos hl]
end
/-- the exceptions of this text -/
def bv (n x : String) : Xn := ⟨n, excFs ["part"] [.str x]⟩
theorem hear_val (x : String) (ps : Pn) : h_heard (.err (bv "BadValue" x) ps) = .ok (.im (.tup [.str "value", .str x])) ps := by kernel_rfl
theorem hear_num (x : String) (ps : Pn) : h_heard (.err (bv "BadNumber" x) ps) = .ok (.im (.tup [.str "number", .str x])) ps := by kernel_rfl
theorem hear_mis (x : String) (ps : Pn) : h_heard (.err (bv "Misfit" x) ps) = .ok (.im (.tup [.str "misfit", .str x])) ps := by kernel_rfl
/-! ### a lambda, heard -/
theorem frz1_im {k : Nat} {E : List Sl} {d : D} (e : E[k]? = some (.im d)) : frz1 k E = E := by
  unfold frz1
  rw [e]
  obtain ⟨h, q⟩ := List.getElem?_eq_some_iff.mp e
  show E.set k (.im d) = E
  rw [← q]
  exact List.set_getElem_self h
theorem capE_at {ks : List Nat} {k : Nat} {E : List Sl} {d : D} (e : E[k]? = some (.im d)) (h : ks.contains k = true) : (capE ks E)[k]? = some (.im d) := by
  unfold capE
  rw [List.getElem?_mapIdx, e, h]
  rfl
theorem heardM_of {ks : List Nat} {g : M Sl} {hf : FOut → FOut} {E : List Sl} {ps ps' ps2 : Pn} {x : Xn} {d : D} (he : frzE ks E = E) (hg : g (capE ks E) ps = .err x ps') (hh : hf (.err x ps') = .ok (.im d) ps2) : heardM ks g hf E ps = .ok (.im d) E ps2 := by
  unfold heardM
  rw [he]
  have e : lamF g (capE ks E) ps = .err x ps' := by unfold lamF; rw [hg]
  rw [e, hh]
  rfl
theorem hear1 {k : Nat} {f : Fn} {E : List Sl} {ps : Pn} {x : Xn} {a d : D} (e : E[k]? = some (.im a)) (hf : f [a] ps = .err x ps) (hh : h_heard (.err x ps) = .ok (.im d) ps) : frzM (heardM [k] (callM (argsM [nameV k]) 1 f []) h_heard) E ps = .ok d E ps :=
  run_frz (r := .im d) (heardM_of (frz1_im e) (run_callE (ds := [a]) (run_args (run_name (capE_at e (by simp))) run_args0) rfl hf) hh)
theorem hear2 {k l i j : Nat} {f : Fn} {E : List Sl} {ps : Pn} {x : Xn} {a b d : D} (e : E[i]? = some (.im a)) (e' : E[j]? = some (.im b)) (hk : (k = i ∧ l = j) ∨ (k = j ∧ l = i)) (hf : f [a, b] ps = .err x ps) (hh : h_heard (.err x ps) = .ok (.im d) ps) : frzM (heardM [k, l] (callM (argsM [nameV i, nameV j]) 2 f []) h_heard) E ps = .ok d E ps := by
  refine run_frz (r := .im d) (heardM_of (x := x) (ps' := ps) ?_ (run_callE (ds := [a, b]) (run_args (run_name (capE_at e ?_)) (run_args (run_name (capE_at e' ?_)) run_args0)) rfl hf) hh)
  · rcases hk with ⟨rfl, rfl⟩ | ⟨rfl, rfl⟩
    · show frz1 _ (frz1 _ E) = E
      rw [frz1_im e, frz1_im e']
    · show frz1 _ (frz1 _ E) = E
      rw [frz1_im e', frz1_im e]
  · rcases hk with ⟨rfl, rfl⟩ | ⟨rfl, rfl⟩ <;> simp
  · rcases hk with ⟨rfl, rfl⟩ | ⟨rfl, rfl⟩ <;> simp
end Cl
namespace Cl
open PySem PySem.Spec PyProof.Rows L2 Dl Dh Cm
local instance : LawT := ⟨[], fun _ => 0⟩
/-- what is no parting -/
def wrongL : List D := [.non, .int 5, .str "01", .dic [], .tup [.int 1], .tup [.int 0, .int 2], .tup [.int 0, .int (-1)], .tup [.int 0, .bl true], .tup [.int 0, .non], .lst [.lst [.int 0]], .tup [.int 0, .int 1, .int 3], .tup [.str "0"]]
def NoP (d : D) : Prop := ∀ ps : Pn, f_is_parting [d, .non] ps = .ok (.im (.bl false)) ps
theorem wrong_np {n : Nat} {d : D} (h : wrongL[n]? = some d) : NoP d := by
  have hn : n < 12 := (List.getElem?_eq_some_iff.mp h).1
  intro ps
  match n, hn with
  | 0, _ | 1, _ | 2, _ | 3, _ | 4, _ | 5, _ | 6, _ | 7, _ | 8, _ | 9, _ | 10, _ | 11, _ =>
    cases h
    kernel_rfl
theorem need_bad {d : D} (h : NoP d) (x : String) (ps : Pn) : f_need_parting [.str x, d, .non] ps = .err (bv "BadValue" x) ps := by
  refine run_fnE (run_seqE ((run_iteT (run_not (run_truth (run_call (ds := [d, .non]) (run_args (run_name (E := [.im (.str x), .im d, .im .non]) rfl) (run_args (run_name rfl) run_args0)) rfl (h ps) im_ne)))).trans ?_))
  exact run_raise (ds := [.str x]) (run_args (run_name rfl) run_args0) ⟨rfl, by simp⟩
theorem blocks_in_bad {d : D} (h : NoP d) (ps : Pn) : f_blocks_in [d] ps = .err (bv "BadValue" "parting") ps :=
  run_fnE (run_retE (run_callE0 (run_argsE0 (run_frzE (run_callE (ds := [.str "parting", d]) (run_args rfl (run_args (run_name (E := [.im d]) rfl) run_args0)) rfl (need_bad h "parting" ps))))))
theorem groups_in_bad {d : D} (h : NoP d) (ps : Pn) : f_groups_in [d] ps = .err (bv "BadValue" "parting") ps :=
  run_fnE (run_seqE (run_setE (run_callE (ds := [.str "parting", d]) (run_args rfl (run_args (run_name rfl) run_args0)) rfl (need_bad h "parting" ps))))
theorem coarser_bad {d : D} (h : NoP d) (ps : Pn) : f_coarser_ones [d] ps = .err (bv "BadValue" "parting") ps :=
  run_fnE (run_seqE (run_setE (run_callE (ds := [.str "parting", d]) (run_args rfl (run_args (run_name rfl) run_args0)) rfl (need_bad h "parting" ps))))
theorem finer_bad {d : D} (h : NoP d) (ps : Pn) : f_finer_ones [d] ps = .err (bv "BadValue" "parting") ps :=
  run_fnE (run_seqE (run_setE (run_callE (ds := [.str "parting", d]) (run_args rfl (run_args (run_name rfl) run_args0)) rfl (need_bad h "parting" ps))))
theorem part_on_bad {d t : D} (h : NoP d) (ps : Pn) : f_part_on [d, t] ps = .err (bv "BadValue" "parting") ps :=
  run_fnE (run_seqE (run_setE (run_callE (ds := [.str "parting", d]) (run_args rfl (run_args (run_name rfl) run_args0)) rfl (need_bad h "parting" ps))))
theorem both_bad1 {d t : D} (h : NoP d) (ps : Pn) : f_need_both [d, t] ps = .err (bv "BadValue" "one") ps :=
  run_fnE (run_seqE (bnd_err (run_callE (ds := [.str "one", d]) (run_args rfl (run_args (run_name rfl) run_args0)) rfl (need_bad h "one" ps))))
theorem both_bad2 {d t : D} {l : List Nat} (hd : seqD d = some (l.map dN)) (hl : IsP l) (h : NoP t) (ps : Pn) : f_need_both [d, t] ps = .err (bv "BadValue" "other") ps :=
  run_fnE (run_seqE ((bnd_ok (run_call (ds := [.str "one", d]) (run_args rfl (run_args (run_name rfl) run_args0)) rfl (need_parting_sem hd hl ps) im_ne)).trans (bnd_err (run_callE (ds := [.str "other", t]) (run_args rfl (run_args (run_name rfl) run_args0)) rfl (need_bad h "other" ps)))))
theorem both_bad3 {d d' : D} {l l' : List Nat} (hd : seqD d = some (l.map dN)) (h : IsP l) (hd' : seqD d' = some (l'.map dN)) (h' : IsP l') (ne : l.length ≠ l'.length) (ps : Pn) : f_need_both [d, d'] ps = .err (bv "Misfit" "other") ps := by
  have p1 : par2M 2 3 (callM (argsM [M.ret (.str "one"), nameV 0]) 3 f_need_parting [.non]) (callM (argsM [M.ret (.str "other"), nameV 1]) 3 f_need_parting [.non]) [.im d, .im d', .un, .un] ps = .ok .next [.im d, .im d', .im (pD l), .im (pD l')] ps := by
    refine (bnd_ok (run_call (ds := [.str "one", d]) (run_args rfl (run_args (run_name rfl) run_args0)) rfl (need_parting_sem hd h ps) im_ne)).trans ?_
    exact (bnd_ok (run_call (ds := [.str "other", d']) (run_args rfl (run_args (run_name rfl) run_args0)) rfl (need_parting_sem hd' h' ps) im_ne)).trans rfl
  have t1 : testM (ops [.code (frzM (ops [.late 2] kLen)), .code (frzM (ops [.late 3] kLen))] kNe) [.im d, .im d', .im (pD l), .im (pD l')] ps = .ok true [.im d, .im d', .im (pD l), .im (pD l')] ps := by
    refine run_test ((run_cc (run_frz ((run_l1 (s := .im (pD l)) rfl im_ne).trans (show _ = Out.ok (Sl.im (D.int ((l.map dN).length : Nat))) _ _ from rfl))) (run_frz ((run_l1 (s := .im (pD l')) rfl im_ne).trans (show _ = Out.ok (Sl.im (D.int ((l'.map dN).length : Nat))) _ _ from rfl)))).trans ?_)
    rw [List.length_map, List.length_map]
    exact (kNe_n l.length l'.length _ _).trans (by rw [beq_eq_false_iff_ne.mpr ne]; rfl)
  refine run_fnE ((run_seq p1).trans (run_seqE ((run_iteT t1).trans ?_)))
  exact run_raise (ds := [.str "other"]) rfl ⟨rfl, by decide⟩
/-- what asks for both first -/
theorem is_coarser_bad {d t : D} {x : Xn} {ps : Pn} (h : f_need_both [d, t] ps = .err x ps) : f_is_coarser [d, t] ps = .err x ps :=
  run_fnE (run_seqE (bnd_err (run_frzE (run_callE (ds := [d, t]) (run_args (run_name rfl) (run_args (run_name rfl) run_args0)) rfl h))))
theorem merged_by_bad {d t : D} {x : Xn} {ps : Pn} (h : f_need_both [d, t] ps = .err x ps) : f_merged_by [d, t] ps = .err x ps :=
  run_fnE (run_seqE (bnd_err (run_frzE (run_callE (ds := [d, t]) (run_args (run_name rfl) (run_args (run_name rfl) run_args0)) rfl h))))
theorem common_to_bad {d t : D} {x : Xn} {ps : Pn} (h : f_need_both [d, t] ps = .err x ps) : f_common_to [d, t] ps = .err x ps :=
  run_fnE (run_seqE (bnd_err (run_frzE (run_callE (ds := [d, t]) (run_args (run_name rfl) (run_args (run_name rfl) run_args0)) rfl h))))
def labelL : List D := [.non, .int 5, .str "ab", .lst [.non], .lst [.bl true], .lst [.tup [.int 1]], .dic [], .lst [.int 1, .lst [.int 2]], .lst [.int 1, .str "a", .non]]
def numL : List D := [.non, .int (-1), .int 9, .bl true, .str "3", .tup [.int 2], .int (10 ^ 30)]
def thingL (n : Nat) : List D := [.non, .int 5, .str "0", .lst [dN n], .lst [.int (-1)], .lst [.int 0, .int 0], .lst [.bl true], .lst [.non], .dic [], .lst [.lst [.int 0]]]
theorem labels_bad {n : Nat} {d : D} (h : labelL[n]? = some d) (ps : Pn) : f_parting_of [d] ps = .err (bv "BadValue" "labels") ps := by
  have hn : n < 9 := (List.getElem?_eq_some_iff.mp h).1
  match n, hn with
  | 0, _ | 1, _ | 2, _ | 3, _ | 4, _ | 5, _ | 6, _ | 7, _ | 8, _ =>
    cases h
    kernel_rfl
theorem num_bad {n : Nat} {d : D} (h : numL[n]? = some d) (ps : Pn) : f_all_partings [d] ps = .err (bv "BadNumber" "n") ps := by
  have hn : n < 7 := (List.getElem?_eq_some_iff.mp h).1
  match n, hn with
  | 0, _ | 1, _ | 2, _ | 3, _ | 4, _ | 5, _ | 6, _ =>
    cases h
    kernel_rfl
theorem thing_idx {n m : Nat} {d : D} (hm : 0 < m ∧ m ≤ 8) (h : (thingL m)[n]? = some d) (ps : Pn) : f_are_indexes [d, dN m] ps = .ok (.im (.bl false)) ps := by
  have hn : n < 10 := (List.getElem?_eq_some_iff.mp h).1
  obtain ⟨h1, h2⟩ := hm
  have h2 : m < 9 := by omega
  match m, h2 with
  | 0, _ => exact absurd h1 (by decide)
  | 1, _ | 2, _ | 3, _ | 4, _ | 5, _ | 6, _ | 7, _ | 8, _ =>
    match n, hn with
    | 0, _ | 1, _ | 2, _ | 3, _ | 4, _ | 5, _ | 6, _ | 7, _ | 8, _ | 9, _ =>
      cases h
      kernel_rfl
theorem things_bad {n : Nat} {d : D} {l : List Nat} (hl : IsP l) (hm : 0 < l.length ∧ l.length ≤ 8) (h : (thingL l.length)[n]? = some d) (ps : Pn) : f_part_on [pD l, d] ps = .err (bv "BadValue" "things") ps := by
  refine run_fnE ((run_seq (run_set (run_call (ds := [.str "parting", pD l]) (run_args rfl (run_args (run_name rfl) run_args0)) rfl (need_parting_sem (d := pD l) rfl hl ps) im_ne))).trans (run_seqE ?_))
  have lb : frzM (ops [.late 2] kLen) [.im (pD l), .im d, .im (pD l), .un] ps = .ok (dN l.length) [.im (pD l), .im d, .im (pD l), .un] ps := by
    refine run_frz (r := .im (dN l.length)) ((run_l1 (s := .im (pD l)) rfl im_ne).trans ?_)
    show Out.ok (Sl.im (D.int ((l.map dN).length : Nat))) _ ps = _
    rw [List.length_map]; rfl
  refine (run_iteT (run_not (run_truth (run_call (ds := [d, dN l.length]) (run_args (run_name rfl) (run_args lb run_args0)) rfl (thing_idx hm h ps) im_ne)))).trans ?_
  exact run_raise (ds := [.str "things"]) rfl ⟨rfl, by decide⟩
end Cl
namespace Cl
open PySem PySem.Spec PyProof.Rows L2 Dl Dh Cm
local instance : LawT := ⟨[], fun _ => 0⟩
/-! ### the law's slots -/
structure LS where
  x2 : Sl
  x3 : Sl
  x4 : Sl
  x5 : Sl
  x6 : Sl
  x7 : Sl
  x8 : Sl
  x9 : Sl
  x10 : Sl
  x11 : Sl
  x12 : Sl
  x13 : Sl
def LS.e (s : LS) : List Sl := [.un, .im .pen, s.x2, s.x3, s.x4, s.x5, s.x6, s.x7, s.x8, s.x9, s.x10, s.x11, s.x12, s.x13, .un]
section
variable {ns : List Int} (hb : ∀ z ∈ ns, Builtin.Int.intBits z ≤ 1048576)
include hb
/-- a list of what is drawn -/
theorem lc_drawn {own : List Nat} {tg : Tg} {te : M D} {E0 : List Sl} (emb : Nat → D) (B : Nat) : ∀ (ds : List D) (acc : List D) (T : Nat) (ps : Pn), T + ds.length ≤ 99999 → acc.length + ds.length ≤ 1000 → PI ns T ps →
    (∀ d ∈ ds, ∀ (T : Nat) (ps : Pn), T ≤ 99999 → PI ns T ps → ∃ (n : Nat) (ps' : Pn), n < B ∧ PI ns (T + 1) ps' ∧ ∀ (acc : List D) (rest : List D → M (List D)), fits (acc.length + 1) = true → M.bnd (tg d) (fun _ => lcK own (M.ret true) te rest acc) E0 ps = rest (acc ++ [emb n]) E0 ps') →
    ∃ (l : List Nat) (ps' : Pn), l.length = ds.length ∧ (∀ x ∈ l, x < B) ∧ PI ns (T + ds.length) ps' ∧ lcG own tg (M.ret true) te ds acc E0 ps = .ok (acc ++ l.map emb) E0 ps'
  | [], acc, T, ps, _, _, h, _ => ⟨[], ps, rfl, fun x hx => absurd hx (by simp), h, by rw [List.map_nil, List.append_nil]; rfl⟩
  | d :: r, acc, T, ps, hT, hl, h, hs => by
    rw [List.length_cons] at hT hl
    obtain ⟨n, ps1, hn, hp, e⟩ := hs d List.mem_cons_self T ps (by omega) h
    obtain ⟨l, ps', l1, l2, l3, l4⟩ := lc_drawn emb B r (acc ++ [emb n]) (T + 1) ps1 (by omega) (by rw [List.length_append]; simp; omega) hp fun x hx => hs x (List.mem_cons_of_mem _ hx)
    refine ⟨n :: l, ps', by rw [List.length_cons, List.length_cons, l1], fun x hx => ?_, l3.mono (by rw [List.length_cons]; omega), ?_⟩
    · rcases List.mem_cons.mp hx with rfl | hx
      · exact hn
      · exact l2 x hx
    · show M.bnd (tg d) (fun _ => lcK own (M.ret true) te (lcG own tg (M.ret true) te r) acc) E0 ps = _
      rw [e acc _ (fits_of (by omega)), l4, List.append_assoc]
      rfl
/-- a pick as a statement -/
theorem pick_run {ds : List D} {g : M D} {E : List Sl} {T : Nat} {ps : Pn} (h1 : 0 < ds.length) (h2 : ds.length ≤ 1000) (hE : E[1]? = some (.im .pen)) (hT : T ≤ 99999) (h : PI ns T ps) (hg : g E ps = .ok (.lst ds) E ps) : ∃ (n : Nat) (d : D) (ps' : Pn), ds[n]? = some d ∧ PI ns (T + 1) ps' ∧ callM (argsM [nameV 1, g]) 2 f_law_pick [] E ps = .ok (.im d) E ps' := by
  obtain ⟨n, d, ps', e1, e2, e3⟩ := law_pick hb h1 h2 hT h
  exact ⟨n, d, ps', e1, e2, run_call (ds := [.pen, .lst ds]) (run_args (run_name hE) (run_args hg run_args0)) rfl e3 im_ne⟩
def W2 (x : Sl) : Prop := x = .ol wrongL ∨ x = .im (.lst wrongL)
theorem law_q2 (s : LS) (hw : W2 s.x2) {T : Nat} (hT : T ≤ 90000) {ps : Pn} (h : PI ns T ps) : ∃ (a b : D) (l : List Nat) (ps' : Pn), NoP a ∧ NoP b ∧ (0 < l.length ∧ l.length ≤ 8) ∧ PI ns (T + 11) ps' ∧ q2 s.e ps = .ok .next ({ s with x2 := .im (.lst wrongL), x11 := .im a, x12 := .im b, x13 := .im (pD (toldC [] l)) } : LS).e ps' := by
  have hs : ∃ s' : LS, s' = { s with x2 := .im (.lst wrongL) } ∧ nameV 2 s.e ps = .ok (.lst wrongL) s'.e ps := by
    refine ⟨_, rfl, ?_⟩
    obtain ⟨x2, x3, x4, x5, x6, x7, x8, x9, x10, x11, x12, x13⟩ := s
    rcases hw with z | z
    · have z : x2 = .ol wrongL := z
      subst z; exact run_nameO rfl
    · have z : x2 = .im (.lst wrongL) := z
      subst z; exact run_name rfl
  obtain ⟨s', es, n2⟩ := hs
  have g2 : s'.e[2]? = some (.im (.lst wrongL)) := by rw [es]; rfl
  have g1 : ∀ s : LS, s.e[1]? = some (.im .pen) := fun s => rfl
  obtain ⟨n, a, ps1, e1, p1, c1⟩ := law_pick hb (ds := wrongL) (by decide) (by decide) (T := T) (by omega) h
  have c1 : frzM (callM (argsM [nameV 1, nameV 2]) 2 f_law_pick []) s.e ps = .ok a s'.e ps1 := run_frz (r := .im a) (run_call (ds := [.pen, .lst wrongL]) (run_args (run_name (g1 s)) (run_args n2 run_args0)) rfl c1 im_ne)
  obtain ⟨m, b, ps2, e2, p2, c2⟩ := pick_run hb (E := s'.e) (ds := wrongL) (g := nameV 2) (by decide) (by decide) rfl (T := T + 1) (by omega) p1 (run_name g2)
  obtain ⟨k, ps3, hk, p3, c3⟩ := law_draw hb (m := 8) (by omega) (by omega) (T := T + 1 + 1) (by omega) p2
  have g : ops [.code (frzM (ops [.code (M.ret (.int 1)), .code (frzM (callM (argsM [nameV 1, M.ret (.int 8)]) 2 f_law_draw []))] kAdd))] rngK1 s'.e ps2 = .ok ((List.range (k + 1)).map dN) s'.e ps3 := by
    have e : frzM (ops [.code (M.ret (.int 1)), .code (frzM (callM (argsM [nameV 1, M.ret (.int 8)]) 2 f_law_draw []))] kAdd) s'.e ps2 = .ok (dN (k + 1)) s'.e ps3 := run_frz (r := .im (dN (k + 1))) ((run_cc (d := .int 1) (e := dN k) (E' := s'.e) (ps' := ps2) (E2 := s'.e) (ps2 := ps3) rfl (run_frz (run_call (ds := [.pen, dN 8]) rfl rfl c3 im_ne))).trans (by
      show im1 (.int (1 + (k : Int))) s'.e ps3 = _
      rw [show 1 + (k : Int) = ((k + 1 : Nat) : Int) by omega]; rfl))
    exact (run_c1 e).trans (rngK1_n (by omega) _ ps3)
  obtain ⟨l, ps4, l1, l2, l3, l4⟩ := lc_drawn hb (own := [14]) (tg := tgN 14) (te := frzM (callM (argsM [nameV 1, M.ret (.int 3)]) 2 f_law_draw [])) (E0 := s'.e) dN 3 ((List.range (k + 1)).map dN) [] (T + 1 + 1 + 1) ps3 (by simp; omega) (by simp; omega) p3 fun d hd T ps hT hp => by
    obtain ⟨i, ps', e1, e2, e3⟩ := law_draw hb (m := 3) (by decide) (by decide) hT hp
    refine ⟨i, ps', e1, e2, fun acc rest hf => ?_⟩
    refine run_tgN.trans ((run_lck (own := [14]) (rest := rest) (E' := s'.e.set 14 (.im d)) (ps' := ps') hf (run_frz (r := .im (dN i)) (run_call (ds := [.pen, dN 3]) rfl rfl e3 im_ne))).trans rfl)
  rw [List.length_map, List.length_range] at l1 l3
  have c := lcM_of (own := [14]) g rfl l4
  have c4 : frzM (callM (argsM [frzM (lcM [14] (ops [.code (frzM (ops [.code (M.ret (.int 1)), .code (frzM (callM (argsM [nameV 1, M.ret (.int 8)]) 2 f_law_draw []))] kAdd))] rngK1) (tgN 14) (M.ret true) (frzM (callM (argsM [nameV 1, M.ret (.int 3)]) 2 f_law_draw [])))]) 1 f_law_at_told []) s'.e ps2 = .ok (pD (toldC [] l)) s'.e ps4 := run_frz (r := .im _) (run_call (ds := [.lst (l.map dN)]) (run_args (run_frz (c.trans rfl)) run_args0) rfl (told_at rfl (by omega) ps4) im_ne)
  refine ⟨a, b, l, ps4, wrong_np e1, wrong_np e2, by omega, l3.mono (by omega), ?_⟩
  subst es
  exact (bnd_ok (run_tup (ds := [a, b, pD (toldC [] l)]) (run_args c1 (run_args (run_frz (r := .im b) c2) (run_args c4 run_args0))) rfl)).trans rfl
end
end Cl
namespace Cl
open PySem PySem.Spec PyProof.Rows L2 Dl Dh Cm
local instance : LawT := ⟨[], fun _ => 0⟩
def tw (a b : String) : D := .tup [.str a, .str b]
section
variable (s : LS) {a b : D} (ps : Pn)
theorem law_q3 (h11 : s.x11 = .im a) (h12 : s.x12 = .im b) (na : NoP a) : q3 s.e ps = .ok .next ({ s with x4 := .ol [tw "value" "parting", tw "value" "parting", tw "value" "parting", tw "value" "parting"] } : LS).e ps := by
  have g11 : s.e[11]? = some (.im a) := congrArg some h11
  have g12 : s.e[12]? = some (.im b) := congrArg some h12
  exact (run_set (r := .ol _) (run_lst (run_args (hear1 g11 (blocks_in_bad na ps) (hear_val _ ps)) (run_args (hear1 g11 (groups_in_bad na ps) (hear_val _ ps)) (run_args (hear2 g11 g12 (.inl ⟨rfl, rfl⟩) (part_on_bad na ps) (hear_val _ ps)) (run_args (hear1 g11 (coarser_bad na ps) (hear_val _ ps)) run_args0)))) rfl)).trans rfl
theorem law_q4 (h4 : s.x4 = .ol [tw "value" "parting", tw "value" "parting", tw "value" "parting", tw "value" "parting"]) (h11 : s.x11 = .im a) (na : NoP a) : q4 s.e ps = .ok .next ({ s with x4 := .ol [tw "value" "parting", tw "value" "parting", tw "value" "parting", tw "value" "parting", tw "value" "parting"] } : LS).e ps := by
  have g11 : s.e[11]? = some (.im a) := congrArg some h11
  have g4 : s.e[4]? = some (.ol [tw "value" "parting", tw "value" "parting", tw "value" "parting", tw "value" "parting"]) := congrArg some h4
  refine run_drop (r := .im .non) ?_
  unfold appM
  refine (peekL_run g4).trans ?_
  refine (bnd_ok (hear1 g11 (finer_bad na ps) (hear_val _ ps))).trans ?_
  exact modL_run g4 rfl
theorem law_q5 (h4 : s.x4 = .ol [tw "value" "parting", tw "value" "parting", tw "value" "parting", tw "value" "parting", tw "value" "parting"]) : q5 s.e ps = .ok .next s.e ps := by
  have g4 : s.e[4]? = some (.ol [tw "value" "parting", tw "value" "parting", tw "value" "parting", tw "value" "parting", tw "value" "parting"]) := congrArg some h4
  refine (run_iteF (run_test ((run_lc (s := .ol _) (s' := .ol _) (d := .lst [tw "value" "parting", tw "value" "parting", tw "value" "parting", tw "value" "parting", tw "value" "parting"]) (E' := s.e) (ps' := ps) g4 ol_ne rfl g4 ol_ne).trans ?_))).trans rfl
  kernel_rfl
theorem law_q6 (h11 : s.x11 = .im a) (h12 : s.x12 = .im b) (na : NoP a) : q6 s.e ps = .ok .next ({ s with x4 := .ol [tw "value" "one", tw "value" "one", tw "value" "one"] } : LS).e ps := by
  have g11 : s.e[11]? = some (.im a) := congrArg some h11
  have g12 : s.e[12]? = some (.im b) := congrArg some h12
  exact (run_set (r := .ol _) (run_lst (run_args (hear2 g11 g12 (.inl ⟨rfl, rfl⟩) (is_coarser_bad (both_bad1 na ps)) (hear_val _ ps)) (run_args (hear2 g11 g12 (.inl ⟨rfl, rfl⟩) (merged_by_bad (both_bad1 na ps)) (hear_val _ ps)) (run_args (hear2 g11 g12 (.inl ⟨rfl, rfl⟩) (common_to_bad (both_bad1 na ps)) (hear_val _ ps)) run_args0))) rfl)).trans rfl
theorem law_q7 {l : List Nat} (hl : IsP l) (h4 : s.x4 = .ol [tw "value" "one", tw "value" "one", tw "value" "one"]) (h12 : s.x12 = .im b) (h13 : s.x13 = .im (pD l)) (nb : NoP b) : q7 s.e ps = .ok .next ({ s with x4 := .ol [tw "value" "one", tw "value" "one", tw "value" "one", tw "value" "other", tw "value" "other", tw "value" "other"] } : LS).e ps := by
  have g4 : s.e[4]? = some (.ol [tw "value" "one", tw "value" "one", tw "value" "one"]) := congrArg some h4
  have g12 : s.e[12]? = some (.im b) := congrArg some h12
  have g13 : s.e[13]? = some (.im (pD l)) := congrArg some h13
  have z : f_need_both [pD l, b] ps = .err (bv "BadValue" "other") ps := both_bad2 (d := pD l) rfl hl nb ps
  have c := run_frz (r := .ol _) (run_lst (run_args (hear2 g13 g12 (.inr ⟨rfl, rfl⟩) (is_coarser_bad z) (hear_val _ ps)) (run_args (hear2 g13 g12 (.inr ⟨rfl, rfl⟩) (merged_by_bad z) (hear_val _ ps)) (run_args (hear2 g13 g12 (.inr ⟨rfl, rfl⟩) (common_to_bad z) (hear_val _ ps)) run_args0))) rfl)
  exact (run_set (r := .ol _) ((run_lc (s := .ol _) (s' := .ol _) g4 ol_ne c g4 ol_ne).trans rfl)).trans rfl
theorem law_q8 {l : List Nat} (hl : l.length ≤ 8) (h13 : s.x13 = .im (pD l)) : q8 s.e ps = .ok .next ({ s with x5 := .im (pD (l ++ [0])) } : LS).e ps := by
  have g13 : s.e[13]? = some (.im (pD l)) := congrArg some h13
  have c : ops [.late 13, .code (tupM (argsM [M.ret (.int 0)]))] kAdd s.e ps = .ok (.im (pD (l ++ [0]))) s.e ps := by
    refine (run_lc (s := .im (pD l)) (s' := .im (pD l)) (d := .tup [.int 0]) (E' := s.e) (ps' := ps) g13 im_ne rfl g13 im_ne).trans ?_
    show (if fits ((l.map dN).length + 1) then im1 (.tup (l.map dN ++ [.int 0])) else M.bad) s.e ps = _
    rw [if_pos (fits_of (by rw [List.length_map]; omega))]
    show Out.ok (Sl.im (.tup (l.map dN ++ [.int 0]))) s.e ps = Out.ok (Sl.im (.tup ((l ++ [0]).map dN))) s.e ps
    rw [List.map_append]
    rfl
  exact (run_set c).trans rfl
theorem isP_app : ∀ (l : List Nat) (k : Nat), rgC k l = true → rgC k (l ++ [0]) = true
  | [], k, _ => by show (decide (0 ≤ k) && true) = true; rw [decide_eq_true (Nat.zero_le k)]; rfl
  | n :: r, k, h => by
    have h : (decide (n ≤ k) && rgC (max k (n + 1)) r) = true := h
    rw [Bool.and_eq_true] at h
    show (decide (n ≤ k) && rgC (max k (n + 1)) (r ++ [0])) = true
    rw [h.1, isP_app r _ h.2]; rfl
def nineL : List D := [tw "value" "one", tw "value" "one", tw "value" "one", tw "value" "other", tw "value" "other", tw "value" "other", tw "misfit" "other", tw "misfit" "other", tw "misfit" "other"]
theorem law_q9 {l : List Nat} (hl : IsP l) (h4 : s.x4 = .ol [tw "value" "one", tw "value" "one", tw "value" "one", tw "value" "other", tw "value" "other", tw "value" "other"]) (h5 : s.x5 = .im (pD (l ++ [0]))) (h13 : s.x13 = .im (pD l)) : q9 s.e ps = .ok .next ({ s with x4 := .ol nineL } : LS).e ps := by
  have g4 : s.e[4]? = some (.ol [tw "value" "one", tw "value" "one", tw "value" "one", tw "value" "other", tw "value" "other", tw "value" "other"]) := congrArg some h4
  have g5 : s.e[5]? = some (.im (pD (l ++ [0]))) := congrArg some h5
  have g13 : s.e[13]? = some (.im (pD l)) := congrArg some h13
  have ne : l.length ≠ (l ++ [0]).length := by rw [List.length_append]; simp
  have z : f_need_both [pD l, pD (l ++ [0])] ps = .err (bv "Misfit" "other") ps := both_bad3 (d := pD l) (d' := pD (l ++ [0])) rfl hl rfl (isP_app l 0 hl) ne ps
  have z2 : f_need_both [pD (l ++ [0]), pD l] ps = .err (bv "Misfit" "other") ps := both_bad3 (d := pD (l ++ [0])) (d' := pD l) rfl (isP_app l 0 hl) rfl hl (Ne.symm ne) ps
  have c := run_frz (r := .ol _) (run_lst (run_args (hear2 g13 g5 (.inr ⟨rfl, rfl⟩) (is_coarser_bad z) (hear_mis _ ps)) (run_args (hear2 g5 g13 (.inl ⟨rfl, rfl⟩) (merged_by_bad z2) (hear_mis _ ps)) (run_args (hear2 g13 g5 (.inr ⟨rfl, rfl⟩) (common_to_bad z) (hear_mis _ ps)) run_args0))) rfl)
  exact (run_set (r := .ol _) ((run_lc (s := .ol _) (s' := .ol _) g4 ol_ne c g4 ol_ne).trans rfl)).trans rfl
theorem law_q10 (h4 : s.x4 = .ol nineL) : q10 s.e ps = .ok .next s.e ps := by
  have g4 : s.e[4]? = some (.ol nineL) := congrArg some h4
  refine (run_iteF (run_test ((run_lc (s := .ol _) (s' := .ol _) (d := .lst nineL) (E' := s.e) (ps' := ps) g4 ol_ne rfl g4 ol_ne).trans ?_))).trans rfl
  kernel_rfl
theorem law_q14 {l : List Nat} {n m k : Nat} {x y z : D} (hl : IsP l) (hm : 0 < l.length ∧ l.length ≤ 8) (hx : (thingL l.length)[n]? = some x) (hy : labelL[m]? = some y) (hz : numL[k]? = some z) (h6 : s.x6 = .im x) (h7 : s.x7 = .im y) (h8 : s.x8 = .im z) (h13 : s.x13 = .im (pD l)) : q14 s.e ps = .ok .next ({ s with x4 := .ol [tw "value" "things", tw "value" "labels", tw "number" "n"] } : LS).e ps := by
  have g6 : s.e[6]? = some (.im x) := congrArg some h6
  have g7 : s.e[7]? = some (.im y) := congrArg some h7
  have g8 : s.e[8]? = some (.im z) := congrArg some h8
  have g13 : s.e[13]? = some (.im (pD l)) := congrArg some h13
  exact (run_set (r := .ol _) (run_lst (run_args (hear2 g13 g6 (.inr ⟨rfl, rfl⟩) (things_bad hl hm hx ps) (hear_val _ ps)) (run_args (hear1 g7 (labels_bad hy ps) (hear_val _ ps)) (run_args (hear1 g8 (num_bad hz ps) (hear_num _ ps)) run_args0))) rfl)).trans rfl
theorem law_q15 (h4 : s.x4 = .ol [tw "value" "things", tw "value" "labels", tw "number" "n"]) : q15 s.e ps = .ok .next s.e ps := by
  have g4 : s.e[4]? = some (.ol [tw "value" "things", tw "value" "labels", tw "number" "n"]) := congrArg some h4
  refine (run_iteF (run_test ((run_lc (s := .ol _) (s' := .ol _) (d := .lst [tw "value" "things", tw "value" "labels", tw "number" "n"]) (E' := s.e) (ps' := ps) g4 ol_ne rfl g4 ol_ne).trans ?_))).trans rfl
  kernel_rfl
end
section
variable {ns : List Int} (hb : ∀ z ∈ ns, Builtin.Int.intBits z ≤ 1048576)
include hb
theorem law_q11 (s : LS) {l : List Nat} (h13 : s.x13 = .im (pD l)) {T : Nat} (hT : T ≤ 90000) {ps : Pn} (h : PI ns T ps) : ∃ (n : Nat) (d : D) (ps' : Pn), (thingL l.length)[n]? = some d ∧ PI ns (T + 1) ps' ∧ q11 s.e ps = .ok .next ({ s with x6 := .im d } : LS).e ps' := by
  have g13 : s.e[13]? = some (.im (pD l)) := congrArg some h13
  have lb : frzM (ops [.late 13] kLen) s.e ps = .ok (dN l.length) s.e ps := by
    refine run_frz (r := .im (dN l.length)) ((run_l1 g13 im_ne).trans ?_)
    show Out.ok (Sl.im (D.int ((l.map dN).length : Nat))) _ ps = _
    rw [List.length_map]; rfl
  have l1 : frzM (lstM (argsM [frzM (ops [.late 13] kLen)])) s.e ps = .ok (.lst [dN l.length]) s.e ps := run_frz (r := .ol _) (run_lst (run_args lb run_args0) rfl)
  obtain ⟨n, d, ps', e1, e2, e3⟩ := pick_run hb (E := s.e) (ds := thingL l.length) (g := frzM (lstM (argsM [M.ret (.non), M.ret (.int 5), M.ret (.str "0"), frzM (lstM (argsM [frzM (ops [.late 13] kLen)])), frzM (lstM (argsM [frzM (ops [.code (M.ret (.int 1))] kNeg)])), frzM (lstM (argsM [M.ret (.int 0), M.ret (.int 0)])), frzM (lstM (argsM [M.ret (.bl true)])), frzM (lstM (argsM [M.ret (.non)])), frzM (M.ret (.od [])), frzM (lstM (argsM [frzM (lstM (argsM [M.ret (.int 0)]))]))]))) (by simp [thingL]) (by simp [thingL]) rfl (T := T) (by omega) h
    (run_frz (r := .ol _) (run_lst (ds := thingL l.length) (run_args rfl (run_args rfl (run_args rfl (run_args l1 (E' := s.e) (ps' := ps) (E2 := s.e) (ps2 := ps) rfl)))) rfl))
  exact ⟨n, d, ps', e1, e2, (run_set e3).trans rfl⟩
theorem law_q12 (s : LS) {T : Nat} (hT : T ≤ 90000) {ps : Pn} (h : PI ns T ps) : ∃ (n : Nat) (d : D) (ps' : Pn), labelL[n]? = some d ∧ PI ns (T + 1) ps' ∧ q12 s.e ps = .ok .next ({ s with x7 := .im d } : LS).e ps' := by
  obtain ⟨n, d, ps', e1, e2, e3⟩ := pick_run hb (E := s.e) (ds := labelL) (g := _) (by decide) (by decide) rfl (T := T) (by omega) h rfl
  exact ⟨n, d, ps', e1, e2, (run_set e3).trans rfl⟩
theorem law_q13 (s : LS) {T : Nat} (hT : T ≤ 90000) {ps : Pn} (h : PI ns T ps) : ∃ (n : Nat) (d : D) (ps' : Pn), numL[n]? = some d ∧ PI ns (T + 1) ps' ∧ q13 s.e ps = .ok .next ({ s with x8 := .im d } : LS).e ps' := by
  obtain ⟨n, d, ps', e1, e2, e3⟩ := law_pick hb (ds := numL) (by decide) (by decide) (T := T) (by omega) h
  exact ⟨n, d, ps', e1, e2, (run_set (run_call (ds := [.pen, .lst numL]) rfl rfl e3 im_ne)).trans rfl⟩
end
end Cl
namespace Cl
open PySem PySem.Spec PyProof.Rows L2 Dl Dh Cm
local instance : LawT := ⟨[], fun _ => 0⟩
theorem isP_told2 {α : Type} [DecidableEq α] (l : List α) : IsP (toldC [] l) := told_rg l []
section
variable {ns : List Int} (hb : ∀ z ∈ ns, Builtin.Int.intBits z ≤ 1048576)
include hb
theorem law_turn (s : LS) (hw : W2 s.x2) {T : Nat} (hT : T ≤ 80000) {ps : Pn} (h : PI ns T ps) : ∃ (s' : LS) (ps' : Pn), W2 s'.x2 ∧ PI ns (T + 14) ps' ∧ q16 s.e ps = .ok .next s'.e ps' := by
  obtain ⟨a, b, l, ps1, na, nb, hl, p1, e2⟩ := law_q2 hb s hw (by omega) h
  have ip : IsP (toldC [] l) := isP_told2 l
  have tl : (toldC [] l).length = l.length := told_len l []
  rw [← tl] at hl
  generalize toldC [] l = t at *
  generalize es : ({ s with x2 := .im (.lst wrongL), x11 := .im a, x12 := .im b, x13 := .im (pD t) } : LS) = s1 at e2
  have w1 : s1.x2 = .im (.lst wrongL) := by rw [← es]
  have h11 : s1.x11 = .im a := by rw [← es]
  have h12 : s1.x12 = .im b := by rw [← es]
  have h13 : s1.x13 = .im (pD t) := by rw [← es]
  clear es
  have e3 := law_q3 s1 ps1 h11 h12 na
  have e4 := law_q4 ({ s1 with x4 := .ol [tw "value" "parting", tw "value" "parting", tw "value" "parting", tw "value" "parting"] } : LS) ps1 rfl h11 na
  have e5 := law_q5 ({ s1 with x4 := .ol [tw "value" "parting", tw "value" "parting", tw "value" "parting", tw "value" "parting", tw "value" "parting"] } : LS) ps1 rfl
  have e6 := law_q6 ({ s1 with x4 := .ol [tw "value" "parting", tw "value" "parting", tw "value" "parting", tw "value" "parting", tw "value" "parting"] } : LS) ps1 h11 h12 na
  have e7 := law_q7 ({ s1 with x4 := .ol [tw "value" "one", tw "value" "one", tw "value" "one"] } : LS) ps1 ip rfl h12 h13 nb
  have e8 := law_q8 ({ s1 with x4 := .ol [tw "value" "one", tw "value" "one", tw "value" "one", tw "value" "other", tw "value" "other", tw "value" "other"] } : LS) ps1 hl.2 h13
  have e9 := law_q9 ({ s1 with x4 := .ol [tw "value" "one", tw "value" "one", tw "value" "one", tw "value" "other", tw "value" "other", tw "value" "other"], x5 := .im (pD (t ++ [0])) } : LS) ps1 ip rfl rfl h13
  have e10 := law_q10 ({ s1 with x4 := .ol nineL, x5 := .im (pD (t ++ [0])) } : LS) ps1 rfl
  obtain ⟨n1, d1, ps2, f1, p2, e11⟩ := law_q11 hb ({ s1 with x4 := .ol nineL, x5 := .im (pD (t ++ [0])) } : LS) (l := t) h13 (T := T + 11) (by omega) p1
  obtain ⟨n2, d2, ps3, f2, p3, e12⟩ := law_q12 hb ({ s1 with x4 := .ol nineL, x5 := .im (pD (t ++ [0])), x6 := .im d1 } : LS) (T := T + 11 + 1) (by omega) p2
  obtain ⟨n3, d3, ps4, f3, p4, e13⟩ := law_q13 hb ({ s1 with x4 := .ol nineL, x5 := .im (pD (t ++ [0])), x6 := .im d1, x7 := .im d2 } : LS) (T := T + 11 + 1 + 1) (by omega) p3
  have e14 := law_q14 ({ s1 with x4 := .ol nineL, x5 := .im (pD (t ++ [0])), x6 := .im d1, x7 := .im d2, x8 := .im d3 } : LS) ps4 ip hl f1 f2 f3 rfl rfl rfl h13
  have e15 := law_q15 ({ s1 with x4 := .ol [tw "value" "things", tw "value" "labels", tw "number" "n"], x5 := .im (pD (t ++ [0])), x6 := .im d1, x7 := .im d2, x8 := .im d3 } : LS) ps4 rfl
  refine ⟨{ s1 with x4 := .ol [tw "value" "things", tw "value" "labels", tw "number" "n"], x5 := .im (pD (t ++ [0])), x6 := .im d1, x7 := .im d2, x8 := .im d3 }, ps4, .inr w1, p4.mono (by omega), ?_⟩
  exact (run_seq e2).trans ((run_seq e3).trans ((run_seq e4).trans ((run_seq e5).trans ((run_seq e6).trans ((run_seq e7).trans ((run_seq e8).trans ((run_seq e9).trans ((run_seq e10).trans ((run_seq e11).trans ((run_seq e12).trans ((run_seq e13).trans ((run_seq e14).trans e15))))))))))))
theorem law_loop : ∀ (ds : List D) (s : LS) (T : Nat) (ps : Pn), W2 s.x2 → T + 14 * ds.length ≤ 80000 → PI ns T ps → ∃ (s' : LS) (ps' : Pn), forG (tgN 3) q16 ds s.e ps = .ok .next s'.e ps'
  | [], s, T, ps, _, _, _ => ⟨s, ps, rfl⟩
  | d :: r, s, T, ps, hw, hT, h => by
    rw [List.length_cons] at hT
    obtain ⟨s1, ps1, w1, p1, e1⟩ := law_turn hb ({ s with x3 := .im d } : LS) hw (T := T) (by omega) h
    obtain ⟨s2, ps2, e2⟩ := law_loop r s1 (T + 14) ps1 w1 (by omega) p1
    refine ⟨s2, ps2, ?_⟩
    show M.bnd (tgN 3 d) (fun _ => M.bnd q16 (afterK (forG (tgN 3) q16 r))) s.e ps = _
    exact run_tgN.trans ((run_afterN e1).trans e2)
end
theorem law_q1 (s : LS) (ps : Pn) : q1 s.e ps = .ok .next ({ s with x2 := .ol wrongL } : LS).e ps := rfl
theorem law_q18 (s : LS) (ps : Pn) : q18 s.e ps = .ok .next ({ s with x9 := .im (pD (List.range 9)), x10 := .im (pD (List.replicate 9 0)) } : LS).e ps := rfl
theorem wide_c (ps : Pn) : f_coarser_ones [pD (List.range 9)] ps = .err (bv "BadValue" "parting") ps := by kernel_rfl
theorem wide_f (ps : Pn) : f_finer_ones [pD (List.range 9)] ps = .err (bv "BadValue" "parting") ps := by kernel_rfl
theorem deep_f (ps : Pn) : f_finer_ones [pD (List.replicate 9 0)] ps = .err (bv "BadValue" "parting") ps := by kernel_rfl
theorem deep_c : coarserC (List.replicate 9 0) = [List.replicate 9 0] := by decide +kernel
theorem seven_c : (coarserC [0, 1, 2, 3, 4, 5, 6, 0, 3]).length = 877 := by
  unfold coarserC
  rw [(isort_perm _).length_eq, List.length_map]
  decide +kernel
theorem eight_f : finerC (List.range 8) = [List.range 8] := by decide +kernel
theorem law_q19 (s : LS) (ps : Pn) (h9 : s.x9 = .im (pD (List.range 9))) (h10 : s.x10 = .im (pD (List.replicate 9 0))) : q19 s.e ps = .ok .next ({ s with x4 := .ol [tw "value" "parting", tw "value" "parting", tw "value" "parting"] } : LS).e ps := by
  have g9 : s.e[9]? = some (.im (pD (List.range 9))) := congrArg some h9
  have g10 : s.e[10]? = some (.im (pD (List.replicate 9 0))) := congrArg some h10
  exact (run_set (r := .ol _) (run_lst (run_args (hear1 g9 (wide_c ps) (hear_val _ ps)) (run_args (hear1 g10 (deep_f ps) (hear_val _ ps)) (run_args (hear1 g9 (wide_f ps) (hear_val _ ps)) run_args0))) rfl)).trans rfl
theorem law_q20 (s : LS) (ps : Pn) (h4 : s.x4 = .ol [tw "value" "parting", tw "value" "parting", tw "value" "parting"]) (h10 : s.x10 = .im (pD (List.replicate 9 0))) : q20 s.e ps = .ok (.ret (.im (.bl true))) s.e ps := by
  have g4 : s.e[4]? = some (.ol [tw "value" "parting", tw "value" "parting", tw "value" "parting"]) := congrArg some h4
  have g10 : s.e[10]? = some (.im (pD (List.replicate 9 0))) := congrArg some h10
  refine run_ret ((run_andET (E' := s.e) (ps' := ps) ((run_lc (s := .ol _) (s' := .ol _) (d := .lst [tw "value" "parting", tw "value" "parting", tw "value" "parting"]) (E' := s.e) (ps' := ps) g4 ol_ne rfl g4 ol_ne).trans ?_)).trans ?_)
  · kernel_rfl
  have c1 : frzM (callM (argsM [nameV 10]) 1 f_coarser_ones []) s.e ps = .ok (.tup [pD (List.replicate 9 0)]) s.e ps := by
    have e := coarser_ones_sem (d := pD (List.replicate 9 0)) (l := List.replicate 9 0) rfl (show rgC 0 _ = true by decide) (by decide) (by decide) (by decide) ps
    rw [deep_c] at e
    exact run_frz (r := .im _) (run_call (ds := [pD (List.replicate 9 0)]) (run_args (run_name g10) run_args0) rfl e im_ne)
  have c2 : tupM (argsM [nameV 10]) s.e ps = .ok (.tup [pD (List.replicate 9 0)]) s.e ps := run_tup (run_args (run_name g10) run_args0) rfl
  refine (run_andET (E' := s.e) (ps' := ps) ((run_cc c1 c2).trans ?_)).trans ?_
  · kernel_rfl
  have c3 : frzM (ops [.code (frzM (callM (argsM [frzM (ops [.code (frzM (tupRangeM (M.ret (.int 7)))), .code (tupM (argsM [M.ret (.int 0), M.ret (.int 3)]))] kAdd)]) 1 f_coarser_ones []))] kLen) s.e ps = .ok (.int 877) s.e ps := by
    have e := coarser_ones_sem (d := pD [0, 1, 2, 3, 4, 5, 6, 0, 3]) (l := [0, 1, 2, 3, 4, 5, 6, 0, 3]) rfl (show rgC 0 _ = true by decide) (by decide) (by decide) (by decide) ps
    have c : frzM (callM (argsM [frzM (ops [.code (frzM (tupRangeM (M.ret (.int 7)))), .code (tupM (argsM [M.ret (.int 0), M.ret (.int 3)]))] kAdd)]) 1 f_coarser_ones []) s.e ps = .ok (.tup ((coarserC [0, 1, 2, 3, 4, 5, 6, 0, 3]).map pD)) s.e ps := run_frz (r := .im _) (run_call (ds := [pD [0, 1, 2, 3, 4, 5, 6, 0, 3]]) rfl rfl e im_ne)
    refine run_frz (r := .im (.int 877)) ((run_c1 c).trans ?_)
    show Out.ok (Sl.im (D.int (((coarserC [0, 1, 2, 3, 4, 5, 6, 0, 3]).map pD).length : Nat))) _ ps = _
    rw [List.length_map, seven_c]
    rfl
  refine (run_andET (E' := s.e) (ps' := ps) ((run_cc (e := .int 877) (E2 := s.e) (ps2 := ps) c3 rfl).trans ?_)).trans ?_
  · kernel_rfl
  have c4 : frzM (callM (argsM [frzM (tupRangeM (M.ret (.int 8)))]) 1 f_finer_ones []) s.e ps = .ok (.tup [pD (List.range 8)]) s.e ps := by
    have e := finer_ones_sem (d := pD (List.range 8)) (l := List.range 8) rfl (show rgC 0 _ = true by decide) (by decide) ps
    rw [eight_f] at e
    exact run_frz (r := .im _) (run_call (ds := [pD (List.range 8)]) rfl rfl e im_ne)
  refine (run_cc (e := .tup [pD (List.range 8)]) (E2 := s.e) (ps2 := ps) c4 rfl).trans ?_
  kernel_rfl
theorem law_holds : LawHolds := by
  intro ns hl hb
  let s0 : LS := ⟨.un, .un, .un, .un, .un, .un, .un, .un, .un, .un, .un, .un⟩
  have p0 : PI ns 0 ⟨ns, 0, 0⟩ := ⟨rfl, Int.le_refl _, Int.le_refl _⟩
  obtain ⟨s', ps', e⟩ := law_loop hb ((List.range 5).map dN) ({ s0 with x2 := .ol wrongL } : LS) 0 ⟨ns, 0, 0⟩ (.inl rfl) (by decide) p0
  rw [b_law_eq]
  refine ⟨_, ps', (run_seq (law_q1 s0 ⟨ns, 0, 0⟩)).trans ((run_seq ((run_for (ds := (List.range 5).map dN) ((run_c1 (d := dN 5) rfl).trans (rngK1_n (by decide) _ _))).trans e)).trans ((run_seq (law_q18 s' ps')).trans ((run_seq (law_q19 ({ s' with x9 := .im (pD (List.range 9)), x10 := .im (pD (List.replicate 9 0)) } : LS) ps' rfl rfl)).trans (law_q20 ({ s' with x9 := .im (pD (List.range 9)), x10 := .im (pD (List.replicate 9 0)), x4 := .ol [tw "value" "parting", tw "value" "parting", tw "value" "parting"] } : LS) ps' rfl rfl))))⟩
end Cl
namespace Cl
open PySem PySem.Spec PyProof.Rows L2 Dl Dh
abbrev i_BadNumber : Stmt := clsDef (topS 10) 0
abbrev i_BadValue : Stmt := clsDef (topS 9) 0
abbrev i_Misfit : Stmt := clsDef (topS 22) 0
theorem all_mk {l : PySem.W.OpenLaw} {w : World} {q : Program} {loose : List Str} {mean : ExcName → Option Value} {K : PySem.W.Frag} {h : Heap} {mg mb : Str → Option Value} {fa : Addr} (sem : LawHolds) (X : K.In h) (TT : Top q loose mean mg mb h) (G : h.Ns mainGlobals mg) (hfa : mg "law" = some (.ref fa))
    {f0 : Addr} {od0 an0 : Option Addr} {sl0 : Array (Option Value)} {oc0 kV0 dc0 pm0 ct0 : Value} {cd0 : Value}
    {f1 : Addr} {od1 an1 : Option Addr} {sl1 : Array (Option Value)} {oc1 kV1 dc1 pm1 ct1 : Value} {cd1 : Value}
    {f2 : Addr} {od2 an2 : Option Addr} {sl2 : Array (Option Value)} {oc2 kV2 dc2 pm2 ct2 : Value} {cd2 : Value}
    {f3 : Addr} {od3 an3 : Option Addr} {sl3 : Array (Option Value)} {oc3 kV3 dc3 pm3 ct3 : Value} {cd3 : Value}
    {f4 : Addr} {od4 an4 : Option Addr} {sl4 : Array (Option Value)} {oc4 kV4 dc4 pm4 ct4 : Value} {cd4 : Value}
    {f5 : Addr} {od5 an5 : Option Addr} {sl5 : Array (Option Value)} {oc5 kV5 dc5 pm5 ct5 : Value} {cd5 : Value}
    {f6 : Addr} {od6 an6 : Option Addr} {sl6 : Array (Option Value)} {oc6 kV6 dc6 pm6 ct6 : Value} {cd6 : Value}
    {t6 : Addr} {tc6 : Value} {td6 : Option Addr} {tn6 : Nat} {ts6 : Array (Option Value)}
    {f7 : Addr} {od7 an7 : Option Addr} {sl7 : Array (Option Value)} {oc7 kV7 dc7 pm7 ct7 : Value} {cd7 : Value}
    {t7 : Addr} {tc7 : Value} {td7 : Option Addr} {tn7 : Nat} {ts7 : Array (Option Value)}
    {f8 : Addr} {od8 an8 : Option Addr} {sl8 : Array (Option Value)} {oc8 kV8 dc8 pm8 ct8 : Value} {cd8 : Value}
    {f9 : Addr} {od9 an9 : Option Addr} {sl9 : Array (Option Value)} {oc9 kV9 dc9 pm9 ct9 : Value} {cd9 : Value}
    {f10 : Addr} {od10 an10 : Option Addr} {sl10 : Array (Option Value)} {oc10 kV10 dc10 pm10 ct10 : Value} {cd10 : Value}
    {f11 : Addr} {od11 an11 : Option Addr} {sl11 : Array (Option Value)} {oc11 kV11 dc11 pm11 ct11 : Value} {cd11 : Value}
    {f12 : Addr} {od12 an12 : Option Addr} {sl12 : Array (Option Value)} {oc12 kV12 dc12 pm12 ct12 : Value} {cd12 : Value}
    {f13 : Addr} {od13 an13 : Option Addr} {sl13 : Array (Option Value)} {oc13 kV13 dc13 pm13 ct13 : Value} {cd13 : Value}
    {f14 : Addr} {od14 an14 : Option Addr} {sl14 : Array (Option Value)} {oc14 kV14 dc14 pm14 ct14 : Value} {cd14 : Value}
    {f15 : Addr} {od15 an15 : Option Addr} {sl15 : Array (Option Value)} {oc15 kV15 dc15 pm15 ct15 : Value} {cd15 : Value}
    {f16 : Addr} {od16 an16 : Option Addr} {sl16 : Array (Option Value)} {oc16 kV16 dc16 pm16 ct16 : Value} {cd16 : Value}
    {f17 : Addr} {od17 an17 : Option Addr} {sl17 : Array (Option Value)} {oc17 kV17 dc17 pm17 ct17 : Value} {cd17 : Value}
    {f18 : Addr} {od18 an18 : Option Addr} {sl18 : Array (Option Value)} {oc18 kV18 dc18 pm18 ct18 : Value} {cd18 : Value}
    {f19 : Addr} {od19 an19 : Option Addr} {sl19 : Array (Option Value)} {oc19 kV19 dc19 pm19 ct19 : Value} {cd19 : Value}
    {f20 : Addr} {od20 an20 : Option Addr} {sl20 : Array (Option Value)} {oc20 kV20 dc20 pm20 ct20 : Value} {cd20 : Value}
    {f21 : Addr} {od21 an21 : Option Addr} {sl21 : Array (Option Value)} {oc21 kV21 dc21 pm21 ct21 : Value} {cd21 : Value}
    {f22 : Addr} {od22 an22 : Option Addr} {sl22 : Array (Option Value)} {oc22 kV22 dc22 pm22 ct22 : Value} {cd22 : Value}
    {f23 : Addr} {od23 an23 : Option Addr} {sl23 : Array (Option Value)} {oc23 kV23 dc23 pm23 ct23 : Value} {cd23 : Value}
    {f24 : Addr} {od24 an24 : Option Addr} {sl24 : Array (Option Value)} {oc24 kV24 dc24 pm24 ct24 : Value} {cd24 : Value}
    {f25 : Addr} {od25 an25 : Option Addr} {sl25 : Array (Option Value)} {oc25 kV25 dc25 pm25 ct25 : Value} {cd25 : Value}
    {f26 : Addr} {od26 an26 : Option Addr} {sl26 : Array (Option Value)} {oc26 kV26 dc26 pm26 ct26 : Value} {cd26 : Value}
    {f27 : Addr} {od27 an27 : Option Addr} {sl27 : Array (Option Value)} {oc27 kV27 dc27 pm27 ct27 : Value} {cd27 : Value}
    {f28 : Addr} {od28 an28 : Option Addr} {sl28 : Array (Option Value)} {oc28 kV28 dc28 pm28 ct28 : Value} {cd28 : Value}
    {f29 : Addr} {od29 an29 : Option Addr} {sl29 : Array (Option Value)} {oc29 kV29 dc29 pm29 ct29 : Value} {cd29 : Addr}
    {u_MOST_THINGS : Tok}
    {cl_BadFrame : Addr}
    {cl_BadKind : Addr}
    {cl_BadKit : Addr}
    {cl_BadName : Addr}
    {cl_BadNumber : Addr}
    {cl_BadPaper : Addr}
    {cl_BadPlan : Addr}
    {cl_BadSite : Addr}
    {cl_BadText : Addr}
    {cl_BadTower : Addr}
    {cl_BadValue : Addr}
    {cl_BadWord : Addr}
    {cl_Misfit : Addr}
    {cl_NoName : Addr}
    {cl_Nothing : Addr}
    {cl_TooMany : Addr}
    {cl_TowerError : Addr}
    {fx_BadNumber cc_BadNumber cx_BadNumber : Addr} {oc_BadNumber kV_BadNumber dc_BadNumber pm_BadNumber ct_BadNumber : Value} {od_BadNumber an_BadNumber : Option Addr} {os_BadNumber : Array (Option Value)}
    {xn_BadNumber xq_BadNumber : Str} {xN_BadNumber : Addr} {xb_BadNumber xm_BadNumber xs_BadNumber : List Value} {xl_BadNumber : List Str} {xa_BadNumber : Bool} {xc_BadNumber : Option Bool} {xd_BadNumber : Option Addr} {y0_BadNumber y1_BadNumber y2_BadNumber y3_BadNumber y5_BadNumber : Option Value}
    {w1_BadNumber : Value} {w2_BadNumber : Option Addr} {wv_BadNumber : Array Value} {w3_BadNumber : Array (Option Value)} {wf_BadNumber : Str} {wt_BadNumber : Tok}
    {d1_BadNumber : Value} {d2_BadNumber : Option Addr} {d3_BadNumber : Array (Option Value)}
    {fx_BadValue cc_BadValue cx_BadValue : Addr} {oc_BadValue kV_BadValue dc_BadValue pm_BadValue ct_BadValue : Value} {od_BadValue an_BadValue : Option Addr} {os_BadValue : Array (Option Value)}
    {xn_BadValue xq_BadValue : Str} {xN_BadValue : Addr} {xb_BadValue xm_BadValue xs_BadValue : List Value} {xl_BadValue : List Str} {xa_BadValue : Bool} {xc_BadValue : Option Bool} {xd_BadValue : Option Addr} {y0_BadValue y1_BadValue y2_BadValue y3_BadValue y5_BadValue : Option Value}
    {w1_BadValue : Value} {w2_BadValue : Option Addr} {wv_BadValue : Array Value} {w3_BadValue : Array (Option Value)} {wf_BadValue : Str} {wt_BadValue : Tok}
    {d1_BadValue : Value} {d2_BadValue : Option Addr} {d3_BadValue : Array (Option Value)}
    {fx_Misfit cc_Misfit cx_Misfit : Addr} {oc_Misfit kV_Misfit dc_Misfit pm_Misfit ct_Misfit : Value} {od_Misfit an_Misfit : Option Addr} {os_Misfit : Array (Option Value)}
    {xn_Misfit xq_Misfit : Str} {xN_Misfit : Addr} {xb_Misfit xm_Misfit xs_Misfit : List Value} {xl_Misfit : List Str} {xa_Misfit : Bool} {xc_Misfit : Option Bool} {xd_Misfit : Option Addr} {y0_Misfit y1_Misfit y2_Misfit y3_Misfit y5_Misfit : Option Value}
    {w1_Misfit : Value} {w2_Misfit : Option Addr} {wv_Misfit : Array Value} {w3_Misfit : Array (Option Value)} {wf_Misfit : Str} {wt_Misfit : Tok}
    {d1_Misfit : Value} {d2_Misfit : Option Addr} {d3_Misfit : Array (Option Value)}
    {dl : DefRec}
    (a0 : PySem.W.nsIn K mainGlobals "is_integer" = some (some (.ref f0)))
    (l0 : K.lookup f0 = some ⟨oc0, od0, .func (PySem.W.fnOf "is_integer" "is_integer" (defArgs s_is_integer) (defBody s_is_integer) (defScope s_is_integer) .none kV0 dc0 pm0 an0 cd0 ct0), sl0⟩)
    (c0 : PySem.W.codeIn K cd0 "is_integer" = true)
    (k0 : PySem.W.keepIn K (.ref f0) = true)
    (a1 : PySem.W.nsIn K mainGlobals "is_between" = some (some (.ref f1)))
    (l1 : K.lookup f1 = some ⟨oc1, od1, .func (PySem.W.fnOf "is_between" "is_between" (defArgs s_is_between) (defBody s_is_between) (defScope s_is_between) .none kV1 dc1 pm1 an1 cd1 ct1), sl1⟩)
    (c1 : PySem.W.codeIn K cd1 "is_between" = true)
    (k1 : PySem.W.keepIn K (.ref f1) = true)
    (a2 : PySem.W.nsIn K mainGlobals "is_listed" = some (some (.ref f2)))
    (l2 : K.lookup f2 = some ⟨oc2, od2, .func (PySem.W.fnOf "is_listed" "is_listed" (defArgs s_is_listed) (defBody s_is_listed) (defScope s_is_listed) .none kV2 dc2 pm2 an2 cd2 ct2), sl2⟩)
    (c2 : PySem.W.codeIn K cd2 "is_listed" = true)
    (k2 : PySem.W.keepIn K (.ref f2) = true)
    (a3 : PySem.W.nsIn K mainGlobals "ascends" = some (some (.ref f3)))
    (l3 : K.lookup f3 = some ⟨oc3, od3, .func (PySem.W.fnOf "ascends" "ascends" (defArgs s_ascends) (defBody s_ascends) (defScope s_ascends) .none kV3 dc3 pm3 an3 cd3 ct3), sl3⟩)
    (c3 : PySem.W.codeIn K cd3 "ascends" = true)
    (k3 : PySem.W.keepIn K (.ref f3) = true)
    (a4 : PySem.W.nsIn K mainGlobals "are_unlike" = some (some (.ref f4)))
    (l4 : K.lookup f4 = some ⟨oc4, od4, .func (PySem.W.fnOf "are_unlike" "are_unlike" (defArgs s_are_unlike) (defBody s_are_unlike) (defScope s_are_unlike) .none kV4 dc4 pm4 an4 cd4 ct4), sl4⟩)
    (c4 : PySem.W.codeIn K cd4 "are_unlike" = true)
    (k4 : PySem.W.keepIn K (.ref f4) = true)
    (a5 : PySem.W.nsIn K mainGlobals "are_indexes" = some (some (.ref f5)))
    (l5 : K.lookup f5 = some ⟨oc5, od5, .func (PySem.W.fnOf "are_indexes" "are_indexes" (defArgs s_are_indexes) (defBody s_are_indexes) (defScope s_are_indexes) .none kV5 dc5 pm5 an5 cd5 ct5), sl5⟩)
    (c5 : PySem.W.codeIn K cd5 "are_indexes" = true)
    (k5 : PySem.W.keepIn K (.ref f5) = true)
    (a6 : PySem.W.nsIn K mainGlobals "is_parting" = some (some (.ref f6)))
    (l6 : K.lookup f6 = some ⟨oc6, od6, .func (PySem.W.fnOf "is_parting" "is_parting" (defArgs s_is_parting) (defBody s_is_parting) (defScope s_is_parting) (.ref t6) kV6 dc6 pm6 an6 cd6 ct6), sl6⟩)
    (c6 : PySem.W.codeIn K cd6 "is_parting" = true)
    (k6 : PySem.W.keepIn K (.ref f6) = true)
    (d6 : K.lookup t6 = some ⟨tc6, td6, .seq #[Value.none] tn6, ts6⟩)
    (a7 : PySem.W.nsIn K mainGlobals "need_parting" = some (some (.ref f7)))
    (l7 : K.lookup f7 = some ⟨oc7, od7, .func (PySem.W.fnOf "need_parting" "need_parting" (defArgs s_need_parting) (defBody s_need_parting) (defScope s_need_parting) (.ref t7) kV7 dc7 pm7 an7 cd7 ct7), sl7⟩)
    (c7 : PySem.W.codeIn K cd7 "need_parting" = true)
    (k7 : PySem.W.keepIn K (.ref f7) = true)
    (d7 : K.lookup t7 = some ⟨tc7, td7, .seq #[Value.none] tn7, ts7⟩)
    (a8 : PySem.W.nsIn K mainGlobals "need_both" = some (some (.ref f8)))
    (l8 : K.lookup f8 = some ⟨oc8, od8, .func (PySem.W.fnOf "need_both" "need_both" (defArgs s_need_both) (defBody s_need_both) (defScope s_need_both) .none kV8 dc8 pm8 an8 cd8 ct8), sl8⟩)
    (c8 : PySem.W.codeIn K cd8 "need_both" = true)
    (k8 : PySem.W.keepIn K (.ref f8) = true)
    (a9 : PySem.W.nsIn K mainGlobals "blocks_of" = some (some (.ref f9)))
    (l9 : K.lookup f9 = some ⟨oc9, od9, .func (PySem.W.fnOf "blocks_of" "blocks_of" (defArgs s_blocks_of) (defBody s_blocks_of) (defScope s_blocks_of) .none kV9 dc9 pm9 an9 cd9 ct9), sl9⟩)
    (c9 : PySem.W.codeIn K cd9 "blocks_of" = true)
    (k9 : PySem.W.keepIn K (.ref f9) = true)
    (a10 : PySem.W.nsIn K mainGlobals "told_by" = some (some (.ref f10)))
    (l10 : K.lookup f10 = some ⟨oc10, od10, .func (PySem.W.fnOf "told_by" "told_by" (defArgs s_told_by) (defBody s_told_by) (defScope s_told_by) .none kV10 dc10 pm10 an10 cd10 ct10), sl10⟩)
    (c10 : PySem.W.codeIn K cd10 "told_by" = true)
    (k10 : PySem.W.keepIn K (.ref f10) = true)
    (a11 : PySem.W.nsIn K mainGlobals "is_over" = some (some (.ref f11)))
    (l11 : K.lookup f11 = some ⟨oc11, od11, .func (PySem.W.fnOf "is_over" "is_over" (defArgs s_is_over) (defBody s_is_over) (defScope s_is_over) .none kV11 dc11 pm11 an11 cd11 ct11), sl11⟩)
    (c11 : PySem.W.codeIn K cd11 "is_over" = true)
    (k11 : PySem.W.keepIn K (.ref f11) = true)
    (a12 : PySem.W.nsIn K mainGlobals "joined_by" = some (some (.ref f12)))
    (l12 : K.lookup f12 = some ⟨oc12, od12, .func (PySem.W.fnOf "joined_by" "joined_by" (defArgs s_joined_by) (defBody s_joined_by) (defScope s_joined_by) .none kV12 dc12 pm12 an12 cd12 ct12), sl12⟩)
    (c12 : PySem.W.codeIn K cd12 "joined_by" = true)
    (k12 : PySem.W.keepIn K (.ref f12) = true)
    (a13 : PySem.W.nsIn K mainGlobals "partings_of" = some (some (.ref f13)))
    (l13 : K.lookup f13 = some ⟨oc13, od13, .func (PySem.W.fnOf "partings_of" "partings_of" (defArgs s_partings_of) (defBody s_partings_of) (defScope s_partings_of) .none kV13 dc13 pm13 an13 cd13 ct13), sl13⟩)
    (c13 : PySem.W.codeIn K cd13 "partings_of" = true)
    (k13 : PySem.W.keepIn K (.ref f13) = true)
    (a14 : PySem.W.nsIn K mainGlobals "all_partings" = some (some (.ref f14)))
    (l14 : K.lookup f14 = some ⟨oc14, od14, .func (PySem.W.fnOf "all_partings" "all_partings" (defArgs s_all_partings) (defBody s_all_partings) (defScope s_all_partings) .none kV14 dc14 pm14 an14 cd14 ct14), sl14⟩)
    (c14 : PySem.W.codeIn K cd14 "all_partings" = true)
    (k14 : PySem.W.keepIn K (.ref f14) = true)
    (a15 : PySem.W.nsIn K mainGlobals "parting_of" = some (some (.ref f15)))
    (l15 : K.lookup f15 = some ⟨oc15, od15, .func (PySem.W.fnOf "parting_of" "parting_of" (defArgs s_parting_of) (defBody s_parting_of) (defScope s_parting_of) .none kV15 dc15 pm15 an15 cd15 ct15), sl15⟩)
    (c15 : PySem.W.codeIn K cd15 "parting_of" = true)
    (k15 : PySem.W.keepIn K (.ref f15) = true)
    (a16 : PySem.W.nsIn K mainGlobals "blocks_in" = some (some (.ref f16)))
    (l16 : K.lookup f16 = some ⟨oc16, od16, .func (PySem.W.fnOf "blocks_in" "blocks_in" (defArgs s_blocks_in) (defBody s_blocks_in) (defScope s_blocks_in) .none kV16 dc16 pm16 an16 cd16 ct16), sl16⟩)
    (c16 : PySem.W.codeIn K cd16 "blocks_in" = true)
    (k16 : PySem.W.keepIn K (.ref f16) = true)
    (a17 : PySem.W.nsIn K mainGlobals "groups_in" = some (some (.ref f17)))
    (l17 : K.lookup f17 = some ⟨oc17, od17, .func (PySem.W.fnOf "groups_in" "groups_in" (defArgs s_groups_in) (defBody s_groups_in) (defScope s_groups_in) .none kV17 dc17 pm17 an17 cd17 ct17), sl17⟩)
    (c17 : PySem.W.codeIn K cd17 "groups_in" = true)
    (k17 : PySem.W.keepIn K (.ref f17) = true)
    (a18 : PySem.W.nsIn K mainGlobals "part_on" = some (some (.ref f18)))
    (l18 : K.lookup f18 = some ⟨oc18, od18, .func (PySem.W.fnOf "part_on" "part_on" (defArgs s_part_on) (defBody s_part_on) (defScope s_part_on) .none kV18 dc18 pm18 an18 cd18 ct18), sl18⟩)
    (c18 : PySem.W.codeIn K cd18 "part_on" = true)
    (k18 : PySem.W.keepIn K (.ref f18) = true)
    (a19 : PySem.W.nsIn K mainGlobals "is_coarser" = some (some (.ref f19)))
    (l19 : K.lookup f19 = some ⟨oc19, od19, .func (PySem.W.fnOf "is_coarser" "is_coarser" (defArgs s_is_coarser) (defBody s_is_coarser) (defScope s_is_coarser) .none kV19 dc19 pm19 an19 cd19 ct19), sl19⟩)
    (c19 : PySem.W.codeIn K cd19 "is_coarser" = true)
    (k19 : PySem.W.keepIn K (.ref f19) = true)
    (a20 : PySem.W.nsIn K mainGlobals "merged_by" = some (some (.ref f20)))
    (l20 : K.lookup f20 = some ⟨oc20, od20, .func (PySem.W.fnOf "merged_by" "merged_by" (defArgs s_merged_by) (defBody s_merged_by) (defScope s_merged_by) .none kV20 dc20 pm20 an20 cd20 ct20), sl20⟩)
    (c20 : PySem.W.codeIn K cd20 "merged_by" = true)
    (k20 : PySem.W.keepIn K (.ref f20) = true)
    (a21 : PySem.W.nsIn K mainGlobals "common_to" = some (some (.ref f21)))
    (l21 : K.lookup f21 = some ⟨oc21, od21, .func (PySem.W.fnOf "common_to" "common_to" (defArgs s_common_to) (defBody s_common_to) (defScope s_common_to) .none kV21 dc21 pm21 an21 cd21 ct21), sl21⟩)
    (c21 : PySem.W.codeIn K cd21 "common_to" = true)
    (k21 : PySem.W.keepIn K (.ref f21) = true)
    (a22 : PySem.W.nsIn K mainGlobals "coarser_ones" = some (some (.ref f22)))
    (l22 : K.lookup f22 = some ⟨oc22, od22, .func (PySem.W.fnOf "coarser_ones" "coarser_ones" (defArgs s_coarser_ones) (defBody s_coarser_ones) (defScope s_coarser_ones) .none kV22 dc22 pm22 an22 cd22 ct22), sl22⟩)
    (c22 : PySem.W.codeIn K cd22 "coarser_ones" = true)
    (k22 : PySem.W.keepIn K (.ref f22) = true)
    (a23 : PySem.W.nsIn K mainGlobals "finer_ones" = some (some (.ref f23)))
    (l23 : K.lookup f23 = some ⟨oc23, od23, .func (PySem.W.fnOf "finer_ones" "finer_ones" (defArgs s_finer_ones) (defBody s_finer_ones) (defScope s_finer_ones) .none kV23 dc23 pm23 an23 cd23 ct23), sl23⟩)
    (c23 : PySem.W.codeIn K cd23 "finer_ones" = true)
    (k23 : PySem.W.keepIn K (.ref f23) = true)
    (a24 : PySem.W.nsIn K mainGlobals "_law_draw" = some (some (.ref f24)))
    (l24 : K.lookup f24 = some ⟨oc24, od24, .func (PySem.W.fnOf "_law_draw" "_law_draw" (defArgs s_law_draw) (defBody s_law_draw) (defScope s_law_draw) .none kV24 dc24 pm24 an24 cd24 ct24), sl24⟩)
    (c24 : PySem.W.codeIn K cd24 "_law_draw" = true)
    (k24 : PySem.W.keepIn K (.ref f24) = true)
    (a25 : PySem.W.nsIn K mainGlobals "_law_pick" = some (some (.ref f25)))
    (l25 : K.lookup f25 = some ⟨oc25, od25, .func (PySem.W.fnOf "_law_pick" "_law_pick" (defArgs s_law_pick) (defBody s_law_pick) (defScope s_law_pick) .none kV25 dc25 pm25 an25 cd25 ct25), sl25⟩)
    (c25 : PySem.W.codeIn K cd25 "_law_pick" = true)
    (k25 : PySem.W.keepIn K (.ref f25) = true)
    (a26 : PySem.W.nsIn K mainGlobals "_law_at_told" = some (some (.ref f26)))
    (l26 : K.lookup f26 = some ⟨oc26, od26, .func (PySem.W.fnOf "_law_at_told" "_law_at_told" (defArgs s_law_at_told) (defBody s_law_at_told) (defScope s_law_at_told) .none kV26 dc26 pm26 an26 cd26 ct26), sl26⟩)
    (c26 : PySem.W.codeIn K cd26 "_law_at_told" = true)
    (k26 : PySem.W.keepIn K (.ref f26) = true)
    (a27 : PySem.W.nsIn K mainGlobals "_law_at_heard" = some (some (.ref f27)))
    (l27 : K.lookup f27 = some ⟨oc27, od27, .func (PySem.W.fnOf "_law_at_heard" "_law_at_heard" (defArgs s_law_at_heard) (defBody s_law_at_heard) (defScope s_law_at_heard) .none kV27 dc27 pm27 an27 cd27 ct27), sl27⟩)
    (c27 : PySem.W.codeIn K cd27 "_law_at_heard" = true)
    (k27 : PySem.W.keepIn K (.ref f27) = true)
    (a28 : PySem.W.nsIn K mainGlobals "_law_pen" = some (some (.ref f28)))
    (l28 : K.lookup f28 = some ⟨oc28, od28, .func (PySem.W.fnOf "_law_pen" "_law_pen" (defArgs s_law_pen) (defBody s_law_pen) (defScope s_law_pen) .none kV28 dc28 pm28 an28 cd28 ct28), sl28⟩)
    (c28 : PySem.W.codeIn K cd28 "_law_pen" = true)
    (k28 : PySem.W.keepIn K (.ref f28) = true)
    (a29 : PySem.W.nsIn K mainGlobals "law" = some (some (.ref f29)))
    (l29 : K.lookup f29 = some ⟨oc29, od29, .func (PySem.W.fnOf "law" "law" (defArgs s_law) (defBody s_law) (defScope s_law) .none kV29 dc29 pm29 an29 (.ref cd29) ct29), sl29⟩)
    (c29 : PySem.W.codeIn K (.ref cd29) "law" = true)
    (k29 : PySem.W.keepIn K (.ref f29) = true)
    (z_abs : PySem.W.nsIn K mainGlobals "abs" = some none)
    (z_all : PySem.W.nsIn K mainGlobals "all" = some none)
    (z_bool : PySem.W.nsIn K mainGlobals "bool" = some none)
    (z_enumerate : PySem.W.nsIn K mainGlobals "enumerate" = some none)
    (z_int : PySem.W.nsIn K mainGlobals "int" = some none)
    (z_isinstance : PySem.W.nsIn K mainGlobals "isinstance" = some none)
    (z_len : PySem.W.nsIn K mainGlobals "len" = some none)
    (z_list : PySem.W.nsIn K mainGlobals "list" = some none)
    (z_max : PySem.W.nsIn K mainGlobals "max" = some none)
    (z_range : PySem.W.nsIn K mainGlobals "range" = some none)
    (z_sorted : PySem.W.nsIn K mainGlobals "sorted" = some none)
    (z_str : PySem.W.nsIn K mainGlobals "str" = some none)
    (z_super : PySem.W.nsIn K mainGlobals "super" = some none)
    (z_tuple : PySem.W.nsIn K mainGlobals "tuple" = some none)
    (z_zip : PySem.W.nsIn K mainGlobals "zip" = some none)
    (y_MOST_THINGS : PySem.W.nsIn K mainGlobals "MOST_THINGS" = some (some (.int 8 u_MOST_THINGS)))
    (hc_BadFrame : PySem.W.nsIn K mainGlobals (Str.ofString "BadFrame") = some (some (.ref cl_BadFrame)))
    (hc_BadKind : PySem.W.nsIn K mainGlobals (Str.ofString "BadKind") = some (some (.ref cl_BadKind)))
    (hc_BadKit : PySem.W.nsIn K mainGlobals (Str.ofString "BadKit") = some (some (.ref cl_BadKit)))
    (hc_BadName : PySem.W.nsIn K mainGlobals (Str.ofString "BadName") = some (some (.ref cl_BadName)))
    (hc_BadNumber : PySem.W.nsIn K mainGlobals (Str.ofString "BadNumber") = some (some (.ref cl_BadNumber)))
    (hc_BadPaper : PySem.W.nsIn K mainGlobals (Str.ofString "BadPaper") = some (some (.ref cl_BadPaper)))
    (hc_BadPlan : PySem.W.nsIn K mainGlobals (Str.ofString "BadPlan") = some (some (.ref cl_BadPlan)))
    (hc_BadSite : PySem.W.nsIn K mainGlobals (Str.ofString "BadSite") = some (some (.ref cl_BadSite)))
    (hc_BadText : PySem.W.nsIn K mainGlobals (Str.ofString "BadText") = some (some (.ref cl_BadText)))
    (hc_BadTower : PySem.W.nsIn K mainGlobals (Str.ofString "BadTower") = some (some (.ref cl_BadTower)))
    (hc_BadValue : PySem.W.nsIn K mainGlobals (Str.ofString "BadValue") = some (some (.ref cl_BadValue)))
    (hc_BadWord : PySem.W.nsIn K mainGlobals (Str.ofString "BadWord") = some (some (.ref cl_BadWord)))
    (hc_Misfit : PySem.W.nsIn K mainGlobals (Str.ofString "Misfit") = some (some (.ref cl_Misfit)))
    (hc_NoName : PySem.W.nsIn K mainGlobals (Str.ofString "NoName") = some (some (.ref cl_NoName)))
    (hc_Nothing : PySem.W.nsIn K mainGlobals (Str.ofString "Nothing") = some (some (.ref cl_Nothing)))
    (hc_TooMany : PySem.W.nsIn K mainGlobals (Str.ofString "TooMany") = some (some (.ref cl_TooMany)))
    (hc_TowerError : PySem.W.nsIn K mainGlobals (Str.ofString "TowerError") = some (some (.ref cl_TowerError)))
    (hi_BadNumber : PySem.W.findIn K (.ref cl_BadNumber) "__init__" = some (some (.ref fx_BadNumber)))
    (ht_BadNumber : PySem.W.typeIn K (.ref fx_BadNumber) = some (.type "function"))
    (hl_BadNumber : K.lookup fx_BadNumber = some ⟨oc_BadNumber, od_BadNumber, .func (PySem.W.fnX "__init__" "BadNumber.__init__" (defArgs i_BadNumber) (defBody i_BadNumber) (defScope i_BadNumber) [("__class__", cc_BadNumber)] .none kV_BadNumber dc_BadNumber pm_BadNumber an_BadNumber (.ref cx_BadNumber) ct_BadNumber), os_BadNumber⟩)
    (hd_BadNumber : PySem.W.codeIn K (.ref cx_BadNumber) "BadNumber.__init__" = true)
    (ho_BadNumber : K.lookup cl_BadNumber = some (excClassObj xn_BadNumber xq_BadNumber cl_BadNumber xN_BadNumber xb_BadNumber xm_BadNumber true xl_BadNumber xs_BadNumber xa_BadNumber xc_BadNumber xd_BadNumber y0_BadNumber y1_BadNumber y2_BadNumber y3_BadNumber y5_BadNumber "ValueError.__new__"))
    (hr_BadNumber : PySem.HandSPX.refsVE xm_BadNumber = true)
    (hk_BadNumber : K.lookup cx_BadNumber = some ⟨w1_BadNumber, w2_BadNumber, .fields wv_BadNumber, w3_BadNumber⟩)
    (hv_BadNumber : wv_BadNumber[2]? = some (.str wf_BadNumber wt_BadNumber))
    (hz_BadNumber : ((l.prog.main.file : Str) == wf_BadNumber) = true)
    (he_BadNumber : K.lookup cc_BadNumber = some ⟨d1_BadNumber, d2_BadNumber, .cell (some (.ref cl_BadNumber)), d3_BadNumber⟩)
    (hs_BadNumber : supB l.prog K cl_BadNumber [Str.ofString "part"] = true)
    (hi_BadValue : PySem.W.findIn K (.ref cl_BadValue) "__init__" = some (some (.ref fx_BadValue)))
    (ht_BadValue : PySem.W.typeIn K (.ref fx_BadValue) = some (.type "function"))
    (hl_BadValue : K.lookup fx_BadValue = some ⟨oc_BadValue, od_BadValue, .func (PySem.W.fnX "__init__" "BadValue.__init__" (defArgs i_BadValue) (defBody i_BadValue) (defScope i_BadValue) [("__class__", cc_BadValue)] .none kV_BadValue dc_BadValue pm_BadValue an_BadValue (.ref cx_BadValue) ct_BadValue), os_BadValue⟩)
    (hd_BadValue : PySem.W.codeIn K (.ref cx_BadValue) "BadValue.__init__" = true)
    (ho_BadValue : K.lookup cl_BadValue = some (excClassObj xn_BadValue xq_BadValue cl_BadValue xN_BadValue xb_BadValue xm_BadValue true xl_BadValue xs_BadValue xa_BadValue xc_BadValue xd_BadValue y0_BadValue y1_BadValue y2_BadValue y3_BadValue y5_BadValue "ValueError.__new__"))
    (hr_BadValue : PySem.HandSPX.refsVE xm_BadValue = true)
    (hk_BadValue : K.lookup cx_BadValue = some ⟨w1_BadValue, w2_BadValue, .fields wv_BadValue, w3_BadValue⟩)
    (hv_BadValue : wv_BadValue[2]? = some (.str wf_BadValue wt_BadValue))
    (hz_BadValue : ((l.prog.main.file : Str) == wf_BadValue) = true)
    (he_BadValue : K.lookup cc_BadValue = some ⟨d1_BadValue, d2_BadValue, .cell (some (.ref cl_BadValue)), d3_BadValue⟩)
    (hs_BadValue : supB l.prog K cl_BadValue [Str.ofString "part"] = true)
    (hi_Misfit : PySem.W.findIn K (.ref cl_Misfit) "__init__" = some (some (.ref fx_Misfit)))
    (ht_Misfit : PySem.W.typeIn K (.ref fx_Misfit) = some (.type "function"))
    (hl_Misfit : K.lookup fx_Misfit = some ⟨oc_Misfit, od_Misfit, .func (PySem.W.fnX "__init__" "Misfit.__init__" (defArgs i_Misfit) (defBody i_Misfit) (defScope i_Misfit) [("__class__", cc_Misfit)] .none kV_Misfit dc_Misfit pm_Misfit an_Misfit (.ref cx_Misfit) ct_Misfit), os_Misfit⟩)
    (hd_Misfit : PySem.W.codeIn K (.ref cx_Misfit) "Misfit.__init__" = true)
    (ho_Misfit : K.lookup cl_Misfit = some (excClassObj xn_Misfit xq_Misfit cl_Misfit xN_Misfit xb_Misfit xm_Misfit true xl_Misfit xs_Misfit xa_Misfit xc_Misfit xd_Misfit y0_Misfit y1_Misfit y2_Misfit y3_Misfit y5_Misfit "ValueError.__new__"))
    (hr_Misfit : PySem.HandSPX.refsVE xm_Misfit = true)
    (hk_Misfit : K.lookup cx_Misfit = some ⟨w1_Misfit, w2_Misfit, .fields wv_Misfit, w3_Misfit⟩)
    (hv_Misfit : wv_Misfit[2]? = some (.str wf_Misfit wt_Misfit))
    (hz_Misfit : ((l.prog.main.file : Str) == wf_Misfit) = true)
    (he_Misfit : K.lookup cc_Misfit = some ⟨d1_Misfit, d2_Misfit, .cell (some (.ref cl_Misfit)), d3_Misfit⟩)
    (hs_Misfit : supB l.prog K cl_Misfit [Str.ofString "part"] = true)
    (hcl : clfB K (clsC K) = true)
    (hhd : heardB K (clsC K) = true)
    (htab : PySem.W.tabIn K "law" = some (cd29, tabP K "law"))
    (hnt : K.lookup (tabP K "law") = none)
    (hrec : (recsOf q).find? (fun e => e.name == ("law" : Str)) = some dl) :
    LawGT l w K CX0 9 63 "script" mg fa h := by
  have e := hfa.symm.trans (PySem.W.mg_of X G a29)
  cases e
  obtain rfl : cl_BadFrame = clsC K "BadFrame" := (clsA_of hc_BadFrame).symm
  obtain rfl : cl_BadKind = clsC K "BadKind" := (clsA_of hc_BadKind).symm
  obtain rfl : cl_BadKit = clsC K "BadKit" := (clsA_of hc_BadKit).symm
  obtain rfl : cl_BadName = clsC K "BadName" := (clsA_of hc_BadName).symm
  obtain rfl : cl_BadNumber = clsC K "BadNumber" := (clsA_of hc_BadNumber).symm
  obtain rfl : cl_BadPaper = clsC K "BadPaper" := (clsA_of hc_BadPaper).symm
  obtain rfl : cl_BadPlan = clsC K "BadPlan" := (clsA_of hc_BadPlan).symm
  obtain rfl : cl_BadSite = clsC K "BadSite" := (clsA_of hc_BadSite).symm
  obtain rfl : cl_BadText = clsC K "BadText" := (clsA_of hc_BadText).symm
  obtain rfl : cl_BadTower = clsC K "BadTower" := (clsA_of hc_BadTower).symm
  obtain rfl : cl_BadValue = clsC K "BadValue" := (clsA_of hc_BadValue).symm
  obtain rfl : cl_BadWord = clsC K "BadWord" := (clsA_of hc_BadWord).symm
  obtain rfl : cl_Misfit = clsC K "Misfit" := (clsA_of hc_Misfit).symm
  obtain rfl : cl_NoName = clsC K "NoName" := (clsA_of hc_NoName).symm
  obtain rfl : cl_Nothing = clsC K "Nothing" := (clsA_of hc_Nothing).symm
  obtain rfl : cl_TooMany = clsC K "TooMany" := (clsA_of hc_TooMany).symm
  obtain rfl : cl_TowerError = clsC K "TowerError" := (clsA_of hc_TowerError).symm
  letI I : LawT := ⟨[(tabP K "law", q_law)], clsC K⟩
  refine ⟨PySem.W.fnOf "law" "law" (defArgs s_law) (defBody s_law) (defScope s_law) .none kV29 dc29 pm29 an29 (.ref cd29) ct29, [(cd29, tabP K "law")], spLaw K, ?_, ?_, fun s v => .of_eq rfl, ?_, fun base _ _ TB => ?_⟩
  · intro p hp; rw [List.mem_singleton.mp hp]; exact PySem.W.tab_of TT X hrec htab
  · intro p hp; rw [List.mem_singleton.mp hp]; exact hnt
  · intro H a ns hl hb hH hS; exact ⟨a, ns, rfl, hS, hl, hb, tabs1 (hH _ (List.mem_singleton.mpr rfl)), fun _ => rfl⟩
  have CL : ClF K := clfB_ok hcl
  have M_BadFrame : mg "BadFrame" = some (.ref (LawT.C "BadFrame")) := PySem.W.mg_of X G hc_BadFrame
  have M_BadKind : mg "BadKind" = some (.ref (LawT.C "BadKind")) := PySem.W.mg_of X G hc_BadKind
  have M_BadKit : mg "BadKit" = some (.ref (LawT.C "BadKit")) := PySem.W.mg_of X G hc_BadKit
  have M_BadName : mg "BadName" = some (.ref (LawT.C "BadName")) := PySem.W.mg_of X G hc_BadName
  have M_BadNumber : mg "BadNumber" = some (.ref (LawT.C "BadNumber")) := PySem.W.mg_of X G hc_BadNumber
  have M_BadPaper : mg "BadPaper" = some (.ref (LawT.C "BadPaper")) := PySem.W.mg_of X G hc_BadPaper
  have M_BadPlan : mg "BadPlan" = some (.ref (LawT.C "BadPlan")) := PySem.W.mg_of X G hc_BadPlan
  have M_BadSite : mg "BadSite" = some (.ref (LawT.C "BadSite")) := PySem.W.mg_of X G hc_BadSite
  have M_BadText : mg "BadText" = some (.ref (LawT.C "BadText")) := PySem.W.mg_of X G hc_BadText
  have M_BadTower : mg "BadTower" = some (.ref (LawT.C "BadTower")) := PySem.W.mg_of X G hc_BadTower
  have M_BadValue : mg "BadValue" = some (.ref (LawT.C "BadValue")) := PySem.W.mg_of X G hc_BadValue
  have M_BadWord : mg "BadWord" = some (.ref (LawT.C "BadWord")) := PySem.W.mg_of X G hc_BadWord
  have M_Misfit : mg "Misfit" = some (.ref (LawT.C "Misfit")) := PySem.W.mg_of X G hc_Misfit
  have M_NoName : mg "NoName" = some (.ref (LawT.C "NoName")) := PySem.W.mg_of X G hc_NoName
  have M_Nothing : mg "Nothing" = some (.ref (LawT.C "Nothing")) := PySem.W.mg_of X G hc_Nothing
  have M_TooMany : mg "TooMany" = some (.ref (LawT.C "TooMany")) := PySem.W.mg_of X G hc_TooMany
  have M_TowerError : mg "TowerError" = some (.ref (LawT.C "TowerError")) := PySem.W.mg_of X G hc_TowerError
  have X_BadNumber : CalX l.prog w K mg base 1 "BadNumber" "BadNumber" ["part"] := calX1 M_BadNumber hi_BadNumber ht_BadNumber hl_BadNumber hd_BadNumber hs_BadNumber ⟨_, _, _, _, _, _, _, _, _, _, _, _, _, _, _, ho_BadNumber, hr_BadNumber⟩ ⟨_, _, _, _, _, _, hk_BadNumber, hv_BadNumber, hz_BadNumber⟩ ⟨_, _, _, he_BadNumber⟩ (PySem.W.mg_none_of X G z_super) (by decide +kernel) rfl ⟨_, rfl, rfl⟩ (fun us hl => match us, hl with | [_, _], _ => rfl) (fun _ => rfl) (by decide +kernel) (by decide +kernel)
  have X_BadValue : CalX l.prog w K mg base 1 "BadValue" "BadValue" ["part"] := calX1 M_BadValue hi_BadValue ht_BadValue hl_BadValue hd_BadValue hs_BadValue ⟨_, _, _, _, _, _, _, _, _, _, _, _, _, _, _, ho_BadValue, hr_BadValue⟩ ⟨_, _, _, _, _, _, hk_BadValue, hv_BadValue, hz_BadValue⟩ ⟨_, _, _, he_BadValue⟩ (PySem.W.mg_none_of X G z_super) (by decide +kernel) rfl ⟨_, rfl, rfl⟩ (fun us hl => match us, hl with | [_, _], _ => rfl) (fun _ => rfl) (by decide +kernel) (by decide +kernel)
  have X_Misfit : CalX l.prog w K mg base 1 "Misfit" "Misfit" ["part"] := calX1 M_Misfit hi_Misfit ht_Misfit hl_Misfit hd_Misfit hs_Misfit ⟨_, _, _, _, _, _, _, _, _, _, _, _, _, _, _, ho_Misfit, hr_Misfit⟩ ⟨_, _, _, _, _, _, hk_Misfit, hv_Misfit, hz_Misfit⟩ ⟨_, _, _, he_Misfit⟩ (PySem.W.mg_none_of X G z_super) (by decide +kernel) rfl ⟨_, rfl, rfl⟩ (fun us hl => match us, hl with | [_, _], _ => rfl) (fun _ => rfl) (by decide +kernel) (by decide +kernel)
  have F0 := fun_mk (st := s_is_integer) l0 c0 k0
  have B0 := F0.binds (ps := ["value"]) fun _ _ _ _ _ _ us hl => match us, hl with | [_], _ => rfl
  have O0 := ok_is_integer (P := l.prog) (w := w) (mg := mg) (base := base) F0 { cl := CL, n_bool := PySem.W.mg_none_of X G z_bool, n_int := PySem.W.mg_none_of X G z_int, n_isinstance := PySem.W.mg_none_of X G z_isinstance }
  have F1 := fun_mk (st := s_is_between) l1 c1 k1
  have B1 := F1.binds (ps := ["value", "least", "most"]) fun _ _ _ _ _ _ us hl => match us, hl with | [_, _, _], _ => rfl
  have O1 := ok_is_between (P := l.prog) (w := w) (mg := mg) (base := base) F1 { k_is_integer := ⟨_, _, _, [], [], O0, PySem.W.mg_of X G a0, k0, B0, .nil, fun _ _ _ => rfl⟩ }
  have F2 := fun_mk (st := s_is_listed) l2 c2 k2
  have B2 := F2.binds (ps := ["value"]) fun _ _ _ _ _ _ us hl => match us, hl with | [_], _ => rfl
  have O2 := ok_is_listed (P := l.prog) (w := w) (mg := mg) (base := base) F2 { cl := CL, n_isinstance := PySem.W.mg_none_of X G z_isinstance, n_list := PySem.W.mg_none_of X G z_list, n_tuple := PySem.W.mg_none_of X G z_tuple }
  have F3 := fun_mk (st := s_ascends) l3 c3 k3
  have B3 := F3.binds (ps := ["some"]) fun _ _ _ _ _ _ us hl => match us, hl with | [_], _ => rfl
  have O3 := ok_ascends (P := l.prog) (w := w) (mg := mg) (base := base) F3 { n_all := PySem.W.mg_none_of X G z_all, n_zip := PySem.W.mg_none_of X G z_zip }
  have F4 := fun_mk (st := s_are_unlike) l4 c4 k4
  have B4 := F4.binds (ps := ["some"]) fun _ _ _ _ _ _ us hl => match us, hl with | [_], _ => rfl
  have O4 := ok_are_unlike (P := l.prog) (w := w) (mg := mg) (base := base) F4 { n_sorted := PySem.W.mg_none_of X G z_sorted, k_ascends := ⟨_, _, _, [], [], O3, PySem.W.mg_of X G a3, k3, B3, .nil, fun _ _ _ => rfl⟩ }
  have F5 := fun_mk (st := s_are_indexes) l5 c5 k5
  have B5 := F5.binds (ps := ["value", "many"]) fun _ _ _ _ _ _ us hl => match us, hl with | [_, _], _ => rfl
  have O5 := ok_are_indexes (P := l.prog) (w := w) (mg := mg) (base := base) F5 { n_all := PySem.W.mg_none_of X G z_all, k_are_unlike := ⟨_, _, _, [], [], O4, PySem.W.mg_of X G a4, k4, B4, .nil, fun _ _ _ => rfl⟩, k_is_between := ⟨_, _, _, [], [], O1, PySem.W.mg_of X G a1, k1, B1, .nil, fun _ _ _ => rfl⟩, k_is_listed := ⟨_, _, _, [], [], O2, PySem.W.mg_of X G a2, k2, B2, .nil, fun _ _ _ => rfl⟩ }
  have F6 : FunD K "is_parting" "is_parting" (defArgs s_is_parting) (defBody s_is_parting) (defScope s_is_parting) [V.non] [] f6 _ := ⟨⟨_, _, _, _, _, _, _, _, _, _, rfl, l6, c6, .inr ⟨(by simp), t6, _, [Value.none], tn6, rfl, d6, rfl, (.cons rfl .nil)⟩, .inl rfl⟩, k6⟩
  have B6_0 := F6.binds1 (ps := ["value", "many"]) 2 1 (by simp) rfl fun _ _ _ _ _ _ _ us its h1 h2 => match us, its, h1, h2 with | [_, _], [_], _, _ => ⟨_, rfl, rfl⟩
  have B6_1 := F6.binds1 (ps := ["value", "many"]) 1 0 (by simp) rfl fun _ _ _ _ _ _ _ us its h1 h2 => match us, its, h1, h2 with | [_], [_], _, _ => ⟨_, rfl, rfl⟩
  have O6 := ok_is_parting (P := l.prog) (w := w) (mg := mg) (base := base) F6 { n_len := PySem.W.mg_none_of X G z_len, n_max := PySem.W.mg_none_of X G z_max, k_is_between := ⟨_, _, _, [], [], O1, PySem.W.mg_of X G a1, k1, B1, .nil, fun _ _ _ => rfl⟩, k_is_listed := ⟨_, _, _, [], [], O2, PySem.W.mg_of X G a2, k2, B2, .nil, fun _ _ _ => rfl⟩ }
  have F7 : FunD K "need_parting" "need_parting" (defArgs s_need_parting) (defBody s_need_parting) (defScope s_need_parting) [V.non] [] f7 _ := ⟨⟨_, _, _, _, _, _, _, _, _, _, rfl, l7, c7, .inr ⟨(by simp), t7, _, [Value.none], tn7, rfl, d7, rfl, (.cons rfl .nil)⟩, .inl rfl⟩, k7⟩
  have B7_0 := F7.binds1 (ps := ["part", "value", "many"]) 3 1 (by simp) rfl fun _ _ _ _ _ _ _ us its h1 h2 => match us, its, h1, h2 with | [_, _, _], [_], _, _ => ⟨_, rfl, rfl⟩
  have B7_1 := F7.binds1 (ps := ["part", "value", "many"]) 2 0 (by simp) rfl fun _ _ _ _ _ _ _ us its h1 h2 => match us, its, h1, h2 with | [_, _], [_], _, _ => ⟨_, rfl, rfl⟩
  have O7 := ok_need_parting (P := l.prog) (w := w) (mg := mg) (base := base) F7 { x_BadValue := X_BadValue, n_tuple := PySem.W.mg_none_of X G z_tuple, k_is_parting := B6_0.elim fun ds q => ⟨_, _, _, ds, _, O6, PySem.W.mg_of X G a6, k6, q.2, q.1, fun _ _ _ => rfl⟩ }
  have F8 := fun_mk (st := s_need_both) l8 c8 k8
  have B8 := F8.binds (ps := ["one", "other"]) fun _ _ _ _ _ _ us hl => match us, hl with | [_, _], _ => rfl
  have O8 := ok_need_both (P := l.prog) (w := w) (mg := mg) (base := base) F8 { x_Misfit := X_Misfit, n_len := PySem.W.mg_none_of X G z_len, k_need_parting_d1 := B7_1.elim fun ds q => ⟨_, _, _, ds, _, O7, PySem.W.mg_of X G a7, k7, q.2, q.1, fun _ _ _ => ⟨_, _, rfl, rfl, rfl⟩⟩ }
  have F9 := fun_mk (st := s_blocks_of) l9 c9 k9
  have B9 := F9.binds (ps := ["parting"]) fun _ _ _ _ _ _ us hl => match us, hl with | [_], _ => rfl
  have O9 := ok_blocks_of (P := l.prog) (w := w) (mg := mg) (base := base) F9 { n_max := PySem.W.mg_none_of X G z_max }
  have F10 := fun_mk (st := s_told_by) l10 c10 k10
  have B10 := F10.binds (ps := ["labels"]) fun _ _ _ _ _ _ us hl => match us, hl with | [_], _ => rfl
  have O10 := ok_told_by (P := l.prog) (w := w) (mg := mg) (base := base) F10 { n_len := PySem.W.mg_none_of X G z_len, n_tuple := PySem.W.mg_none_of X G z_tuple }
  have F11 := fun_mk (st := s_is_over) l11 c11 k11
  have B11 := F11.binds (ps := ["one", "other"]) fun _ _ _ _ _ _ us hl => match us, hl with | [_, _], _ => rfl
  have O11 := ok_is_over (P := l.prog) (w := w) (mg := mg) (base := base) F11 { n_all := PySem.W.mg_none_of X G z_all, n_zip := PySem.W.mg_none_of X G z_zip }
  have F12 := fun_mk (st := s_joined_by) l12 c12 k12
  have B12 := F12.binds (ps := ["one", "other"]) fun _ _ _ _ _ _ us hl => match us, hl with | [_, _], _ => rfl
  have O12 := ok_joined_by (P := l.prog) (w := w) (mg := mg) (base := base) F12 { n_list := PySem.W.mg_none_of X G z_list, n_range := PySem.W.mg_none_of X G z_range, n_zip := PySem.W.mg_none_of X G z_zip, k_blocks_of := ⟨_, _, _, [], [], O9, PySem.W.mg_of X G a9, k9, B9, .nil, fun _ _ _ => rfl⟩, k_told_by := ⟨_, _, _, [], [], O10, PySem.W.mg_of X G a10, k10, B10, .nil, fun _ _ _ => rfl⟩ }
  have F13 := fun_mk (st := s_partings_of) l13 c13 k13
  have B13 := F13.binds (ps := ["many"]) fun _ _ _ _ _ _ us hl => match us, hl with | [_], _ => rfl
  have O13 := ok_partings_of (P := l.prog) (w := w) (mg := mg) (base := base) F13 { n_range := PySem.W.mg_none_of X G z_range, n_tuple := PySem.W.mg_none_of X G z_tuple, k_blocks_of := ⟨_, _, _, [], [], O9, PySem.W.mg_of X G a9, k9, B9, .nil, fun _ _ _ => rfl⟩ }
  have F14 := fun_mk (st := s_all_partings) l14 c14 k14
  have B14 := F14.binds (ps := ["n"]) fun _ _ _ _ _ _ us hl => match us, hl with | [_], _ => rfl
  have O14 := ok_all_partings (P := l.prog) (w := w) (mg := mg) (base := base) F14 { x_BadNumber := X_BadNumber, k_is_between := ⟨_, _, _, [], [], O1, PySem.W.mg_of X G a1, k1, B1, .nil, fun _ _ _ => rfl⟩, k_partings_of := ⟨_, _, _, [], [], O13, PySem.W.mg_of X G a13, k13, B13, .nil, fun _ _ _ => rfl⟩, c_MOST_THINGS := ⟨_, PySem.W.mg_of X G y_MOST_THINGS⟩ }
  have F15 := fun_mk (st := s_parting_of) l15 c15 k15
  have B15 := F15.binds (ps := ["labels"]) fun _ _ _ _ _ _ us hl => match us, hl with | [_], _ => rfl
  have O15 := ok_parting_of (P := l.prog) (w := w) (mg := mg) (base := base) F15 { cl := CL, x_BadValue := X_BadValue, n_all := PySem.W.mg_none_of X G z_all, n_isinstance := PySem.W.mg_none_of X G z_isinstance, n_str := PySem.W.mg_none_of X G z_str, k_is_integer := ⟨_, _, _, [], [], O0, PySem.W.mg_of X G a0, k0, B0, .nil, fun _ _ _ => rfl⟩, k_is_listed := ⟨_, _, _, [], [], O2, PySem.W.mg_of X G a2, k2, B2, .nil, fun _ _ _ => rfl⟩, k_told_by := ⟨_, _, _, [], [], O10, PySem.W.mg_of X G a10, k10, B10, .nil, fun _ _ _ => rfl⟩ }
  have F16 := fun_mk (st := s_blocks_in) l16 c16 k16
  have B16 := F16.binds (ps := ["parting"]) fun _ _ _ _ _ _ us hl => match us, hl with | [_], _ => rfl
  have O16 := ok_blocks_in (P := l.prog) (w := w) (mg := mg) (base := base) F16 { k_blocks_of := ⟨_, _, _, [], [], O9, PySem.W.mg_of X G a9, k9, B9, .nil, fun _ _ _ => rfl⟩, k_need_parting_d1 := B7_1.elim fun ds q => ⟨_, _, _, ds, _, O7, PySem.W.mg_of X G a7, k7, q.2, q.1, fun _ _ _ => ⟨_, _, rfl, rfl, rfl⟩⟩ }
  have F17 := fun_mk (st := s_groups_in) l17 c17 k17
  have B17 := F17.binds (ps := ["parting"]) fun _ _ _ _ _ _ us hl => match us, hl with | [_], _ => rfl
  have O17 := ok_groups_in (P := l.prog) (w := w) (mg := mg) (base := base) F17 { n_enumerate := PySem.W.mg_none_of X G z_enumerate, n_range := PySem.W.mg_none_of X G z_range, n_tuple := PySem.W.mg_none_of X G z_tuple, k_blocks_of := ⟨_, _, _, [], [], O9, PySem.W.mg_of X G a9, k9, B9, .nil, fun _ _ _ => rfl⟩, k_need_parting_d1 := B7_1.elim fun ds q => ⟨_, _, _, ds, _, O7, PySem.W.mg_of X G a7, k7, q.2, q.1, fun _ _ _ => ⟨_, _, rfl, rfl, rfl⟩⟩ }
  have F18 := fun_mk (st := s_part_on) l18 c18 k18
  have B18 := F18.binds (ps := ["parting", "things"]) fun _ _ _ _ _ _ us hl => match us, hl with | [_, _], _ => rfl
  have O18 := ok_part_on (P := l.prog) (w := w) (mg := mg) (base := base) F18 { x_BadValue := X_BadValue, n_len := PySem.W.mg_none_of X G z_len, k_are_indexes := ⟨_, _, _, [], [], O5, PySem.W.mg_of X G a5, k5, B5, .nil, fun _ _ _ => rfl⟩, k_need_parting_d1 := B7_1.elim fun ds q => ⟨_, _, _, ds, _, O7, PySem.W.mg_of X G a7, k7, q.2, q.1, fun _ _ _ => ⟨_, _, rfl, rfl, rfl⟩⟩, k_told_by := ⟨_, _, _, [], [], O10, PySem.W.mg_of X G a10, k10, B10, .nil, fun _ _ _ => rfl⟩ }
  have F19 := fun_mk (st := s_is_coarser) l19 c19 k19
  have B19 := F19.binds (ps := ["one", "other"]) fun _ _ _ _ _ _ us hl => match us, hl with | [_, _], _ => rfl
  have O19 := ok_is_coarser (P := l.prog) (w := w) (mg := mg) (base := base) F19 { k_is_over := ⟨_, _, _, [], [], O11, PySem.W.mg_of X G a11, k11, B11, .nil, fun _ _ _ => rfl⟩, k_need_both := ⟨_, _, _, [], [], O8, PySem.W.mg_of X G a8, k8, B8, .nil, fun _ _ _ => rfl⟩ }
  have F20 := fun_mk (st := s_merged_by) l20 c20 k20
  have B20 := F20.binds (ps := ["one", "other"]) fun _ _ _ _ _ _ us hl => match us, hl with | [_, _], _ => rfl
  have O20 := ok_merged_by (P := l.prog) (w := w) (mg := mg) (base := base) F20 { k_joined_by := ⟨_, _, _, [], [], O12, PySem.W.mg_of X G a12, k12, B12, .nil, fun _ _ _ => rfl⟩, k_need_both := ⟨_, _, _, [], [], O8, PySem.W.mg_of X G a8, k8, B8, .nil, fun _ _ _ => rfl⟩ }
  have F21 := fun_mk (st := s_common_to) l21 c21 k21
  have B21 := F21.binds (ps := ["one", "other"]) fun _ _ _ _ _ _ us hl => match us, hl with | [_, _], _ => rfl
  have O21 := ok_common_to (P := l.prog) (w := w) (mg := mg) (base := base) F21 { n_list := PySem.W.mg_none_of X G z_list, n_zip := PySem.W.mg_none_of X G z_zip, k_need_both := ⟨_, _, _, [], [], O8, PySem.W.mg_of X G a8, k8, B8, .nil, fun _ _ _ => rfl⟩, k_told_by := ⟨_, _, _, [], [], O10, PySem.W.mg_of X G a10, k10, B10, .nil, fun _ _ _ => rfl⟩ }
  have F22 := fun_mk (st := s_coarser_ones) l22 c22 k22
  have B22 := F22.binds (ps := ["parting"]) fun _ _ _ _ _ _ us hl => match us, hl with | [_], _ => rfl
  have O22 := ok_coarser_ones (P := l.prog) (w := w) (mg := mg) (base := base) F22 { x_BadValue := X_BadValue, n_sorted := PySem.W.mg_none_of X G z_sorted, n_tuple := PySem.W.mg_none_of X G z_tuple, k_blocks_of := ⟨_, _, _, [], [], O9, PySem.W.mg_of X G a9, k9, B9, .nil, fun _ _ _ => rfl⟩, k_need_parting_d1 := B7_1.elim fun ds q => ⟨_, _, _, ds, _, O7, PySem.W.mg_of X G a7, k7, q.2, q.1, fun _ _ _ => ⟨_, _, rfl, rfl, rfl⟩⟩, k_partings_of := ⟨_, _, _, [], [], O13, PySem.W.mg_of X G a13, k13, B13, .nil, fun _ _ _ => rfl⟩, c_MOST_THINGS := ⟨_, PySem.W.mg_of X G y_MOST_THINGS⟩ }
  have F23 := fun_mk (st := s_finer_ones) l23 c23 k23
  have B23 := F23.binds (ps := ["parting"]) fun _ _ _ _ _ _ us hl => match us, hl with | [_], _ => rfl
  have O23 := ok_finer_ones (P := l.prog) (w := w) (mg := mg) (base := base) F23 { x_BadValue := X_BadValue, n_len := PySem.W.mg_none_of X G z_len, n_tuple := PySem.W.mg_none_of X G z_tuple, k_is_over := ⟨_, _, _, [], [], O11, PySem.W.mg_of X G a11, k11, B11, .nil, fun _ _ _ => rfl⟩, k_need_parting_d1 := B7_1.elim fun ds q => ⟨_, _, _, ds, _, O7, PySem.W.mg_of X G a7, k7, q.2, q.1, fun _ _ _ => ⟨_, _, rfl, rfl, rfl⟩⟩, k_partings_of := ⟨_, _, _, [], [], O13, PySem.W.mg_of X G a13, k13, B13, .nil, fun _ _ _ => rfl⟩, c_MOST_THINGS := ⟨_, PySem.W.mg_of X G y_MOST_THINGS⟩ }
  have F24 := fun_mk (st := s_law_draw) l24 c24 k24
  have B24 := F24.binds (ps := ["pen", "many"]) fun _ _ _ _ _ _ us hl => match us, hl with | [_, _], _ => rfl
  have O24 := ok_law_draw (P := l.prog) (w := w) (mg := mg) (base := base) F24 { n_abs := PySem.W.mg_none_of X G z_abs, n_int := PySem.W.mg_none_of X G z_int, n_len := PySem.W.mg_none_of X G z_len }
  have F25 := fun_mk (st := s_law_pick) l25 c25 k25
  have B25 := F25.binds (ps := ["pen", "some"]) fun _ _ _ _ _ _ us hl => match us, hl with | [_, _], _ => rfl
  have O25 := ok_law_pick (P := l.prog) (w := w) (mg := mg) (base := base) F25 { n_len := PySem.W.mg_none_of X G z_len, k_law_draw := ⟨_, _, _, [], [], O24, PySem.W.mg_of X G a24, k24, B24, .nil, fun _ _ _ => rfl⟩ }
  have F26 := fun_mk (st := s_law_at_told) l26 c26 k26
  have B26 := F26.binds (ps := ["labels"]) fun _ _ _ _ _ _ us hl => match us, hl with | [_], _ => rfl
  have O26 := ok_law_at_told (P := l.prog) (w := w) (mg := mg) (base := base) F26 { n_len := PySem.W.mg_none_of X G z_len, n_tuple := PySem.W.mg_none_of X G z_tuple }
  have F27 := fun_mk (st := s_law_at_heard) l27 c27 k27
  have HH : HearC l.prog w K mg base "_law_at_heard" q_law h_heard := hear_ok F27 { cl := CL, m_BadFrame := M_BadFrame, m_BadKind := M_BadKind, m_BadKit := M_BadKit, m_BadName := M_BadName, m_BadNumber := M_BadNumber, m_BadPaper := M_BadPaper, m_BadPlan := M_BadPlan, m_BadSite := M_BadSite, m_BadText := M_BadText, m_BadTower := M_BadTower, m_BadValue := M_BadValue, m_BadWord := M_BadWord, m_Misfit := M_Misfit, m_NoName := M_NoName, m_Nothing := M_Nothing, m_TooMany := M_TooMany, n_isinstance := PySem.W.mg_none_of X G z_isinstance, n_len := PySem.W.mg_none_of X G z_len } (PySem.W.mg_of X G a27) M_TowerError hhd
  have F28 := fun_mk (st := s_law_pen) l28 c28 k28
  have B28 := F28.binds (ps := ["script"]) fun _ _ _ _ _ _ us hl => match us, hl with | [_], _ => rfl
  have tb : TabD base mg (.ref cd29) q_law := ⟨cd29, tabP K "law", rfl, TB _ (List.mem_singleton.mpr rfl), List.mem_singleton.mpr rfl, fun p hp _ => by rw [List.mem_singleton.mp hp]⟩
  exact ok_law l29 c29 { h_heard := HH, n_len := PySem.W.mg_none_of X G z_len, n_range := PySem.W.mg_none_of X G z_range, n_tuple := PySem.W.mg_none_of X G z_tuple, k_law_at_told := ⟨_, _, _, [], [], O26, PySem.W.mg_of X G a26, k26, B26, .nil, fun _ _ _ => rfl⟩, k_law_draw := ⟨_, _, _, [], [], O24, PySem.W.mg_of X G a24, k24, B24, .nil, fun _ _ _ => rfl⟩, k_law_pick := ⟨_, _, _, [], [], O25, PySem.W.mg_of X G a25, k25, B25, .nil, fun _ _ _ => rfl⟩, k_all_partings := ⟨_, _, _, [], [], O14, PySem.W.mg_of X G a14, k14, B14, .nil, fun _ _ _ => rfl⟩, k_blocks_in := ⟨_, _, _, [], [], O16, PySem.W.mg_of X G a16, k16, B16, .nil, fun _ _ _ => rfl⟩, k_coarser_ones := ⟨_, _, _, [], [], O22, PySem.W.mg_of X G a22, k22, B22, .nil, fun _ _ _ => rfl⟩, k_common_to := ⟨_, _, _, [], [], O21, PySem.W.mg_of X G a21, k21, B21, .nil, fun _ _ _ => rfl⟩, k_finer_ones := ⟨_, _, _, [], [], O23, PySem.W.mg_of X G a23, k23, B23, .nil, fun _ _ _ => rfl⟩, k_groups_in := ⟨_, _, _, [], [], O17, PySem.W.mg_of X G a17, k17, B17, .nil, fun _ _ _ => rfl⟩, k_is_coarser := ⟨_, _, _, [], [], O19, PySem.W.mg_of X G a19, k19, B19, .nil, fun _ _ _ => rfl⟩, k_merged_by := ⟨_, _, _, [], [], O20, PySem.W.mg_of X G a20, k20, B20, .nil, fun _ _ _ => rfl⟩, k_part_on := ⟨_, _, _, [], [], O18, PySem.W.mg_of X G a18, k18, B18, .nil, fun _ _ _ => rfl⟩, k_parting_of := ⟨_, _, _, [], [], O15, PySem.W.mg_of X G a15, k15, B15, .nil, fun _ _ _ => rfl⟩ } tb (ok_pen F28 (PySem.W.mg_none_of X G z_int)) (PySem.W.mg_of X G a28) k28 B28 sem
end Cl
open PySem PySem.W PyProof.Rows
set_option maxHeartbeats 0 in
theorem PySem.Challenge.cw_anytower_k02_partings_refused_holds : PySem.Challenge.rw_anytower_k02_partings_refused.Holds := by
  w_on; o_law; k_head; (case hw => w_witness2)
  k_fill
  refine Dl.walk_GT (l := PySem.Challenge.rw_anytower_k02_partings_refused) (n := 63) (k := 9) (x := "script") (CX := fun _ => L2.CX0) rfl (by decide) rfl ⟨rfl, by decide, by decide⟩ (fun w h Y => by first | exact PySem.W.kIn_of Y | exact PySem.W.km_in_of Y) ?F (fun _ _ _ _ _ h => h)
  case F =>
    intro w mean mg mb fa h KX TT G hmg
    refine' Cl.all_mk Cl.law_holds KX TT G hmg ?a0 ?l0 ?c0 ?k0 ?a1 ?l1 ?c1 ?k1 ?a2 ?l2 ?c2 ?k2 ?a3 ?l3 ?c3 ?k3 ?a4 ?l4 ?c4 ?k4 ?a5 ?l5 ?c5 ?k5 ?a6 ?l6 ?c6 ?k6 ?d6 ?a7 ?l7 ?c7 ?k7 ?d7 ?a8 ?l8 ?c8 ?k8 ?a9 ?l9 ?c9 ?k9 ?a10 ?l10 ?c10 ?k10 ?a11 ?l11 ?c11 ?k11 ?a12 ?l12 ?c12 ?k12 ?a13 ?l13 ?c13 ?k13 ?a14 ?l14 ?c14 ?k14 ?a15 ?l15 ?c15 ?k15 ?a16 ?l16 ?c16 ?k16 ?a17 ?l17 ?c17 ?k17 ?a18 ?l18 ?c18 ?k18 ?a19 ?l19 ?c19 ?k19 ?a20 ?l20 ?c20 ?k20 ?a21 ?l21 ?c21 ?k21 ?a22 ?l22 ?c22 ?k22 ?a23 ?l23 ?c23 ?k23 ?a24 ?l24 ?c24 ?k24 ?a25 ?l25 ?c25 ?k25 ?a26 ?l26 ?c26 ?k26 ?a27 ?l27 ?c27 ?k27 ?a28 ?l28 ?c28 ?k28 ?a29 ?l29 ?c29 ?k29 ?z_abs ?z_all ?z_bool ?z_enumerate ?z_int ?z_isinstance ?z_len ?z_list ?z_max ?z_range ?z_sorted ?z_str ?z_super ?z_tuple ?z_zip ?y_MOST_THINGS ?hc_BadFrame ?hc_BadKind ?hc_BadKit ?hc_BadName ?hc_BadNumber ?hc_BadPaper ?hc_BadPlan ?hc_BadSite ?hc_BadText ?hc_BadTower ?hc_BadValue ?hc_BadWord ?hc_Misfit ?hc_NoName ?hc_Nothing ?hc_TooMany ?hc_TowerError ?hi_BadNumber ?ht_BadNumber ?hl_BadNumber ?hd_BadNumber ?ho_BadNumber ?hr_BadNumber ?hk_BadNumber ?hv_BadNumber ?hz_BadNumber ?he_BadNumber ?hs_BadNumber ?hi_BadValue ?ht_BadValue ?hl_BadValue ?hd_BadValue ?ho_BadValue ?hr_BadValue ?hk_BadValue ?hv_BadValue ?hz_BadValue ?he_BadValue ?hs_BadValue ?hi_Misfit ?ht_Misfit ?hl_Misfit ?hd_Misfit ?ho_Misfit ?hr_Misfit ?hk_Misfit ?hv_Misfit ?hz_Misfit ?he_Misfit ?hs_Misfit ?hcl ?hhd ?htab ?hnt ?hrec
    (case a0 => k_is); (case l0 => k_is); (case c0 => k_is); (case k0 => k_is); (case a1 => k_is); (case l1 => k_is); (case c1 => k_is); (case k1 => k_is); (case a2 => k_is); (case l2 => k_is); (case c2 => k_is); (case k2 => k_is); (case a3 => k_is); (case l3 => k_is); (case c3 => k_is); (case k3 => k_is); (case a4 => k_is); (case l4 => k_is); (case c4 => k_is); (case k4 => k_is); (case a5 => k_is); (case l5 => k_is); (case c5 => k_is); (case k5 => k_is); (case a6 => k_is); (case l6 => k_is); (case c6 => k_is); (case k6 => k_is); (case d6 => k_is); (case a7 => k_is); (case l7 => k_is); (case c7 => k_is); (case k7 => k_is); (case d7 => k_is); (case a8 => k_is); (case l8 => k_is); (case c8 => k_is); (case k8 => k_is); (case a9 => k_is); (case l9 => k_is); (case c9 => k_is); (case k9 => k_is); (case a10 => k_is); (case l10 => k_is); (case c10 => k_is); (case k10 => k_is); (case a11 => k_is); (case l11 => k_is); (case c11 => k_is); (case k11 => k_is); (case a12 => k_is); (case l12 => k_is); (case c12 => k_is); (case k12 => k_is); (case a13 => k_is); (case l13 => k_is); (case c13 => k_is); (case k13 => k_is); (case a14 => k_is); (case l14 => k_is); (case c14 => k_is); (case k14 => k_is); (case a15 => k_is); (case l15 => k_is); (case c15 => k_is); (case k15 => k_is); (case a16 => k_is); (case l16 => k_is); (case c16 => k_is); (case k16 => k_is); (case a17 => k_is); (case l17 => k_is); (case c17 => k_is); (case k17 => k_is); (case a18 => k_is); (case l18 => k_is); (case c18 => k_is); (case k18 => k_is); (case a19 => k_is); (case l19 => k_is); (case c19 => k_is); (case k19 => k_is); (case a20 => k_is); (case l20 => k_is); (case c20 => k_is); (case k20 => k_is); (case a21 => k_is); (case l21 => k_is); (case c21 => k_is); (case k21 => k_is); (case a22 => k_is); (case l22 => k_is); (case c22 => k_is); (case k22 => k_is); (case a23 => k_is); (case l23 => k_is); (case c23 => k_is); (case k23 => k_is); (case a24 => k_is); (case l24 => k_is); (case c24 => k_is); (case k24 => k_is); (case a25 => k_is); (case l25 => k_is); (case c25 => k_is); (case k25 => k_is); (case a26 => k_is); (case l26 => k_is); (case c26 => k_is); (case k26 => k_is); (case a27 => k_is); (case l27 => k_is); (case c27 => k_is); (case k27 => k_is); (case a28 => k_is); (case l28 => k_is); (case c28 => k_is); (case k28 => k_is); (case a29 => k_is); (case l29 => k_is); (case c29 => k_is); (case k29 => k_is); (case z_abs => k_is); (case z_all => k_is); (case z_bool => k_is); (case z_enumerate => k_is); (case z_int => k_is); (case z_isinstance => k_is); (case z_len => k_is); (case z_list => k_is); (case z_max => k_is); (case z_range => k_is); (case z_sorted => k_is); (case z_str => k_is); (case z_super => k_is); (case z_tuple => k_is); (case z_zip => k_is); (case y_MOST_THINGS => k_is); (case hc_BadFrame => k_is); (case hc_BadKind => k_is); (case hc_BadKit => k_is); (case hc_BadName => k_is); (case hc_BadNumber => k_is); (case hc_BadPaper => k_is); (case hc_BadPlan => k_is); (case hc_BadSite => k_is); (case hc_BadText => k_is); (case hc_BadTower => k_is); (case hc_BadValue => k_is); (case hc_BadWord => k_is); (case hc_Misfit => k_is); (case hc_NoName => k_is); (case hc_Nothing => k_is); (case hc_TooMany => k_is); (case hc_TowerError => k_is); (case hi_BadNumber => k_is); (case ht_BadNumber => k_is); (case hl_BadNumber => k_is); (case hd_BadNumber => k_is); (case ho_BadNumber => k_is); (case hr_BadNumber => kernel_rfl); (case hk_BadNumber => k_is); (case hv_BadNumber => rfl); (case hz_BadNumber => kernel_rfl); (case he_BadNumber => k_is); (case hs_BadNumber => kernel_rfl); (case hi_BadValue => k_is); (case ht_BadValue => k_is); (case hl_BadValue => k_is); (case hd_BadValue => k_is); (case ho_BadValue => k_is); (case hr_BadValue => kernel_rfl); (case hk_BadValue => k_is); (case hv_BadValue => rfl); (case hz_BadValue => kernel_rfl); (case he_BadValue => k_is); (case hs_BadValue => kernel_rfl); (case hi_Misfit => k_is); (case ht_Misfit => k_is); (case hl_Misfit => k_is); (case hd_Misfit => k_is); (case ho_Misfit => k_is); (case hr_Misfit => kernel_rfl); (case hk_Misfit => k_is); (case hv_Misfit => rfl); (case hz_Misfit => kernel_rfl); (case he_Misfit => k_is); (case hs_Misfit => kernel_rfl); (case hcl => kernel_rfl); (case hhd => kernel_rfl); (case htab => kernel_rfl); (case hnt => kernel_rfl); (case hrec => rfl)
