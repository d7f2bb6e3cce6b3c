import PyProof.Rows.All
import Wide.All
import OpenK.AllK
import Wide.FinOn
import KE.KStateDown
import Lean
import KE.KExcLine
import HandS.ForMost
import HandS.ForExc
import HandS.HeadWalk
import HandS.ExcValue
import HandS.ExcField
import HandS.ExcIs
import HandS.IsInst
import KE.KExcIs
import HandS.TryMany
import PySem.Value
import HandS.Text
import HandS.Flow
import HandS.TupAny
import HandS.Star
import HandS.Deep
import HandS.Dict
import HandS.Style
import HandS.OwnEq
import HandS.SlotsOwn
import PyProof.NeKinds
import HandS.SortInts
import HandS.RaiseMore
import HandS.WordsDict
import HandS.Walk
import HandS.TryOnly
import HandS.Zip
import HandS.ExcOwn
import HandS.HeadHook2
import KE.KExcMore
import HandS.Ends
import HandS.HeadEnd
import HandS.Head0
import HandS.Head1
import HandS.Head2
import HandS.Words
import PySem.Challenge.RW_risingday_k99_errors_and_wrong_kinds
section
/-! An own exception made: __init__ says super().__init__(x); self.f = x. -/
set_option Elab.async false
set_option linter.all false
set_option maxRecDepth 100000
set_option maxHeartbeats 1000000
namespace DV
open PySem PySem.W PySem.Calls PySem.Spec PyProof.Rows L2 Builtin.ObjectAttr
/-- super().__init__(x); self.f = x -/
inductive IsInit (f x : Str) : List Stmt → Prop
  | mk {p0 p1 p2 p3 p4 p5 p6 p7 p8 p9 : Pos} : (p2.endLine == p4.line) = true → IsInit f x [.Expr (.Call (.Attribute (.Call (.Name "super" p0) [] [] p1) "__init__" p2) [.Name x p3] [] p4) p5, .Assign [.Attribute (.Name "self" p6) f p7] (.Name x p8) p9]
/-- the def at fI, whose class is C -/
structure InitAt (prog : Program) (K : Frag) (C fI : Addr) (f x : Str) (fd : FuncData) : Prop where
  def_ : ∃ (oc : Value) (od : Option Addr) (osl : Array (Option Value)) (name qual : Str) (params : Arguments) (body : List Stmt) (scope : Scope) (dV kV doc pm : Value) (an : Option Addr) (cda : Addr) (ct : Value) (cc : Addr) (ar : Arg),
    fd = ksFn name qual params body scope dV kV doc pm an (.ref cda) ct cc ∧ K.lookup fI = some ⟨oc, od, .func fd, osl⟩ ∧ codeIn K (.ref cda) qual = true ∧ IsInit f x body ∧
    (params.posonlyargs ++ params.args).head? = some ar ∧ ar.arg = ("self" : Str) ∧
    (∃ ccl cdd vs ccs file tf, K.lookup cda = some ⟨ccl, cdd, .fields vs, ccs⟩ ∧ vs[2]? = some (.str file tf) ∧ ((prog.main.file : Str) == file) = true) ∧
    (∃ cl cld csl, K.lookup cc = some ⟨cl, cld, .cell (some (.ref C)), csl⟩) ∧
    scope.kind = .function ∧ scope.isCoroutine = false ∧ scope.isGenerator = false ∧ (∀ y ∈ scope.names, y.2 ≠ .cell) ∧
    scope.names.lookup ("super" : Str) = some .globalImplicit ∧ scope.names.lookup ("__class__" : Str) = some .free ∧ scope.names.lookup ("self" : Str) = some .local ∧ scope.names.lookup x = some .local
  ne : (x == ("self" : Str)) = false
  nd : (x == ("__debug__" : Str)) = false
/-- what the written part says of the class -/
structure XcC (prog : Program) (K : Frag) (C : Addr) (f : Str) : Prop where
  base : ∃ (B newId initId : String) (bmB : List Value), ExcBaseFacts B newId initId bmB ∧ KxsFacts B initId ∧ StoreFacts B bmB "object.__setattr__" "object" ∧ excInitIn K C bmB newId = true ∧ excOver K C bmB = true ∧
    subIn K (.ref C) (.type B) = some true ∧ ks_superIn K C C "__init__" = some (some (.builtin initId))
  sa : findIn K (.ref C) "__setattr__" = some (some (.builtin "object.__setattr__"))
  hd : hasDictIn K C = true
  tk : takerIn K C f = some none
  sub : mroIn K C (.ref C) = some true
  op : nsIn K cStatics "thirdparty.any" = some none
  top : (prog.main.scope.names.lookup ("super" : Str)).isSome = false
section
variable {prog : Program} {w : World} {A : Around} {E : Value → Shared → Prop} {R : Result → Shared → Prop} {hp : Heap} {g : Array GenState} {d : Drawn} {t : Nat} {os : OsState}
theorem xc_osa {B : String} {bmB : List Value} {K : Frag} {name : Str} {tk : Tok} {v : Value} {x C : Addr} {fv : Array Value} (SF : StoreFacts B bmB "object.__setattr__" "object")
    (X : K.In hp) (hx : hp.get? x = some { cls := .ref C, data := .fields fv }) (hov : excOver K C bmB = true) (ht : takerIn K C name = some none) (hh : hasDictIn K C = true)
    (hq : ∀ h' tk' dx, (∀ b o, b ≠ x → hp.get? b = some o → h'.get? b = some o) → hp.objs.size ≤ dx → dx ≠ x → h'.get? x = some { cls := .ref C, dict := some dx, data := .fields fv } →
      h'.Ns1 dx (fun y => if y = name then some v else none) → R (.ok (.ret .none)) ⟨h', g, d, tk', os⟩) :
    codeAny (model prog w) A (.call (.builtin "object.__setattr__") ⟨[.ref x, .str name tk, v], []⟩) R ⟨hp, g, d, t, os⟩ := by
  have hxs : x ≠ hp.objs.size := Nat.ne_of_lt (Heap.lt_size hx)
  refine osa_openX (od := none) SF X ⟨hx, rfl, rfl, trivial⟩ hov ht fun b => ?_
  obtain ⟨cd, hcd, hh'⟩ := any_some hh
  have hcls : Looks (model prog w) hp (classData C) cd := looks_clsIn X hcd
  show wpAny _ _ (storeInOwnDict (.ref x) (.ref C) (.str name tk) name v b) _ _ _
  obtain ⟨nm, bs, mro, ns, qn, hd, sn, sb, ab, col, del⟩ := cd
  dsimp only at hh'
  subst hh'
  unfold storeInOwnDict ownDictForStores
  repeat (first | with_reducible refine HandSPX.store_in_new ?_ ?_ | with_reducible refine wpAny_loadPart_at hx ?_ | with_reducible refine hcls.at ?_ | wp_step)
  · exact ⟨_, #[], _, (Heap.get?_update_ne _ _ _ _ hxs.symm).trans (Heap.get?_push_at rfl rfl), rfl, fun e he => absurd he (by simp), fun _ => rfl⟩
  · intro h' tk' hn' hs
    have hx₁ : (hp.push { cls := .type "dict", data := .dict #[] }).get? x = some { cls := .ref C, data := .fields fv } := Heap.get?_push_of_some _ hx
    refine hq h' tk' hp.objs.size (fun b o hb ho => ?_) (Nat.le_refl _) hxs.symm ?_ hn'
    · exact (hs.2 b (Nat.ne_of_lt (Heap.lt_size ho))).trans ((Heap.get?_update_ne _ _ _ _ hb).trans (Heap.get?_push_of_some _ ho))
    · exact (hs.2 x hxs).trans (Heap.get?_update_self _ hx₁ rfl)
/-- the built-in __init__ bound to the object, called -/
theorem xc_callmw {B newId initId : String} {bmB : List Value} {K : Frag} {u e t0 C : Addr} {rest : List Value} {Q : Value → Shared → Prop} (FB : ExcBaseFacts B newId initId bmB) (X : K.In hp) (q : excInitIn K C bmB newId = true)
    (hu : hp.get? u = some (kxs_mw initId e)) (he : hp.get? e = some (excObj C t0 none .none)) (hz : rest.length ≤ sizeLine)
    (hq : ∀ h' t1, (∀ b o, b ≠ e → hp.get? b = some o → h'.get? b = some o) → h'.get? e = some (excObj C t1 none .none) → Q .none ⟨h', g, d, t, os⟩) :
    wpAny (model prog w) A (call (.ref u) rest) Q E ⟨hp, g, d, t, os⟩ := by
  obtain ⟨nm, N', qn, bs, bm, hdct, sn, sub, ab, col, dd, k0, k1, k2, k3, k5, hC, hT⟩ := excInit_of X q
  refine wpAny_call (codeAny_of_tree ?_)
  show wpAny _ A.in1 (callAny (.ref u) ⟨rest, []⟩) _ _ _
  simp only [callAny]
  refine wpAny_bind (wpAny_load hu ?_)
  simp only [kxs_mw, show (Value.type "method-wrapper" == Value.type "method" || Value.type "method-wrapper" == Value.type "builtin_function_or_method" || Value.type "method-wrapper" == Value.type "method-wrapper") = true by decide, if_true]
  refine KFB.if_so (by decide) ?_
  refine wpAny_bind (check_bound_init FB.toExcCallFacts hC he rfl ?_)
  refine wpAny_bind (wpAny_pure (wpAny_pure ?_))
  refine ⟨plainId_quiet FB.init.plain _, codeAny_builtin FB.initEntry ?_⟩
  exact exc_init_tree (cls := .ref C) (t0 := t0) (dv := none) (c2 := .none) (c3 := .none) (b4 := .bool false) he hz fun h' k e' t' => hq h' _ k e'
end
end DV
end
section
/-! The own __init__ run. -/
set_option Elab.async false
set_option linter.all false
set_option maxRecDepth 100000
set_option maxHeartbeats 1000000
namespace DV
open PySem PySem.W PySem.Calls PySem.Spec PyProof.Rows L2 Builtin.ObjectAttr
section
variable {prog : Program} {w : World} {A : Around} {R : Result → Shared → Prop} {s : Shared}
theorem xc_init {K : Frag} {C fI e t0 : Addr} {f x : Str} {fd : FuncData} {u : Value} {mg : Str → Option Value} {args : Args} (T : XcC prog K C f) (I : InitAt prog K C fI f x fd) (KX : K.In s.heap) (lim : s.heap.NoLimit)
    (glob : s.heap.Ns mainGlobals mg) (blt : ∃ mb, s.heap.Ns builtinsNs mb ∧ ∀ x : Str, x ≠ "__name__" → mb x = bootBuiltins x) (hm : mg "super" = none) (hroom : A.depth < recursionLimit)
    (he : s.heap.get? e = some (excObj C t0 none .none)) (hKe : K.lookup e = none) (hb : BindsTo s fd args [("self", .ref e), (x, u)])
    (hq : ∀ h' tk' dx t1, (∀ b o, b ≠ e → s.heap.get? b = some o → h'.get? b = some o) → s.heap.objs.size ≤ dx → dx ≠ e → h'.get? e = some (excObj C t1 (some dx) .none) → h'.Ns1 dx (fun y => if y = f then some u else none) →
      R (.ok (.ret .none)) ⟨h', s.gens, s.drawn, tk', s.os⟩) :
    codeAny (model prog w) A (.call (.ref fI) args) R s := by
  obtain ⟨⟨oc, od, osl, name, qual, params, body, scope, dV, kV, doc, pm, an, cda, ct, cc, ar, rfl, lk, hcd, hbody, hpar, harg, ⟨ccl, cdd, vs, ccs, file, tf, hcode, hvs, hfile⟩, ⟨cl, cld, csl, hcell⟩, hk, hco, hgen, hnc, hks, hkc, hka, hkx⟩, hne, hnd⟩ := I
  obtain ⟨⟨B, newId, initId, bmB, FB, KF, SF, q1, q2, hB, hsup⟩, hsa, hhd, htk, hsub, hop, htop⟩ := T
  obtain ⟨mb, hmb, hmb2⟩ := blt
  obtain ⟨cdC, hcC, _⟩ := any_some hhd
  have hxs : ((("self" : Str)) == x) = false := by
    cases z : (("self" : Str) == x) with
    | false => rfl
    | true => rw [beq_iff_eq.mp z] at hne; simp at hne
  refine ks_codeAny_call_defAt (fd := ksFn name qual params body scope dV kV doc pm an (.ref cda) ct cc) (body := body) (binds := [("self", .ref e), (x, u)]) hroom (KX _ _ lk) rfl lim (codeRec_of KX hcd) rfl hb hnc ?_ (fun h₁ hns keep => ?_) hco hgen hk
  · intro y hy
    rcases List.mem_cons.mp hy with rfl | hy
    · exact hka
    · rcases List.mem_cons.mp hy with rfl | hy
      · exact hkx
      · cases hy
  have lself : ∀ {M : Model} {A' : Around} {E : Value → Shared → Prop} {s' : Shared} {Q : Value → Shared → Prop}, s'.heap.Ns s.heap.objs.size (fun y => [((("self" : Str)), Value.ref e), (x, u)].reverse.lookup y) → Q (.ref e) s' → wpAny M A' (loadName (callEnv (ksFn name qual params body scope dV kV doc pm an (.ref cda) ct cc) s.heap.objs.size fI) "self") Q E s' := fun {M A' E s' Q} n q =>
    wpAny_loadName_local hk hka n (by
      show (([(x, u), (("self" : Str), Value.ref e)] : List (Str × Value))).lookup ("self" : Str) = _
      simp [List.lookup, hxs]) q
  have lx : ∀ {M : Model} {A' : Around} {E : Value → Shared → Prop} {s' : Shared} {Q : Value → Shared → Prop}, s'.heap.Ns s.heap.objs.size (fun y => [((("self" : Str)), Value.ref e), (x, u)].reverse.lookup y) → Q u s' → wpAny M A' (loadName (callEnv (ksFn name qual params body scope dV kV doc pm an (.ref cda) ct cc) s.heap.objs.size fI) x) Q E s' := fun {M A' E s' Q} n q =>
    wpAny_loadName_local hk hkx n (by
      show (([(x, u), (("self" : Str), Value.ref e)] : List (Str × Value))).lookup x = _
      simp [List.lookup]) q
  generalize henv : callEnv (ksFn name qual params body scope dV kV doc pm an (.ref cda) ct cc) s.heap.objs.size fI = env at *
  have hesc : env.scope = scope := by rw [← henv]; rfl
  obtain ⟨p0, p1, p2, p3, p4, p5, p6, p7, p8, p9, hline, rfl⟩ : ∃ p0 p1 p2 p3 p4 p5 p6 p7 p8 p9, (Pos.endLine p2 == Pos.line p4) = true ∧ body = [.Expr (.Call (.Attribute (.Call (.Name "super" p0) [] [] p1) "__init__" p2) [.Name x p3] [] p4) p5, .Assign [.Attribute (.Name "self" p6) f p7] (.Name x p8) p9] := by
    cases hbody with
    | mk h => exact ⟨_, _, _, _, _, _, _, _, _, _, h, rfl⟩
  have K1 : K.In h₁ := KX.keeps keep
  have e1 : h₁.get? e = some (excObj C t0 none .none) := keep _ _ he
  have glob1 : h₁.Ns mainGlobals mg := glob.keeps keep
  have blt1 : h₁.Ns builtinsNs mb := hmb.keeps keep
  have heg : env.globals = mainGlobals := by rw [← henv]; rfl
  have heb : env.builtins = builtinsNs := by rw [← henv]; rfl
  have hef : env.func = some fI := by rw [← henv]; rfl
  have hec : env.code = .ref cda := by rw [← henv]; rfl
  have hel : env.locals = s.heap.objs.size := by rw [← henv]; rfl
  have hecl : env.cells.lookup ("__class__" : Str) = some cc := by rw [← henv]; rfl
  have hint : interactive env = false := by
    unfold interactive
    rw [hesc, hk]; rfl
  have I1 : InstAt h₁ e (excObj C t0 none .none) C none := ⟨e1, rfl, rfl, trivial⟩
  obtain ⟨oD, hD1, hD2⟩ : ∃ oD, h₁.get? C = some oD ∧ oD.data = .cls cdC := by
    have hcC' := hcC
    unfold clsIn at hcC'
    split at hcC'
    · rename_i ho
      cases hcC'
      exact ⟨_, K1 _ _ ho, rfl⟩
    · cases hcC'
  have mc : eval (.Call (.Attribute (.Call (.Name "super" p0) [] [] p1) "__init__" p2) [.Name x p3] [] p4) env = (do
      let ov ← attributeBase (.Call (.Name "super" p0) [] [] p1) "__init__" env (eval (.Call (.Name "super" p0) [] [] p1) env)
      standAt p2.atName
      let (f, first) ← holding [ov] (getMethod ov "__init__" (L2.plainOf (.Call (.Name "super" p0) [] [] p1) env))
      callWith p4 f first (backTo p4 (starEach [.Name x p3] env)) []) := by
    have e : eval (.Call (.Attribute (.Call (.Name "super" p0) [] [] p1) "__init__" p2) [.Name x p3] [] p4) env = (do
      let ov ← attributeBase (.Call (.Name "super" p0) [] [] p1) "__init__" env (eval (.Call (.Name "super" p0) [] [] p1) env)
      standAt p2.atName
      methodCall (.Call (.Name "super" p0) [] [] p1) "__init__" p2 p4 env ov 1 (backTo p4 (starEach [.Name x p3] env)) []) := rfl
    rw [e]
    simp only [L2.mcall_line (show methodCallForm 1 (backTo p4 (starEach [.Name x p3] env)) [] = true from rfl) hline]
  refine ks_wpAt_execs_cons (ks_wpAt_Expr_any (ks_wpAt_MethodCall (pl := L2.plainOf (.Call (.Name "super" p0) [] [] p1) env) ?_ mc) hint rfl)
  refine ks_wpAt_super_base (env := env) (by show env.scope.names.lookup _ = _; rw [hesc]; exact hks) (by show env.scope.names.lookup _ = _; rw [hesc]; exact hkc) rfl hef (K1 _ _ lk) rfl hpar hec (K1 _ _ hcode) rfl hvs hfile htop ?_
  refine ks_loadName_global (by rw [hesc]; exact hk) (by show env.scope.names.lookup _ = _; rw [hesc]; exact hks) (loadGlobal_builtin (env := env) (by rw [heg]; exact glob1) hm (by rw [heb]; exact blt1) ((hmb2 _ (by decide +kernel)).trans (by decide +kernel : bootBuiltins "super" = some (.type "super"))) ⟨rfl, ?_⟩)
  refine wpAny_loadName_free (by rw [hesc]; exact hk) (by show env.scope.names.lookup _ = _; rw [hesc]; exact hkc) hecl ⟨_, K1 _ _ hcell, rfl⟩ ?_
  rw [harg]
  refine lself hns ?_
  refine ks_wpAny_isType_cls hD1 hD2 ⟨rfl, ?_⟩
  refine ks_wpAny_call_super hD1 hD2 I1.at_ I1.cls (fun c z => by cases z) (looks_mroIn K1 hsub) fun h2 so2 k2 => ?_
  have K2 : K.In h2 := K1.keeps k2
  have e2 := k2 _ _ e1
  have I2 : InstAt h2 e (excObj C t0 none .none) C none := ⟨e2, rfl, rfl, trivial⟩
  have hsup' := hsup
  unfold ks_superIn at hsup'
  rw [hcC] at hsup'
  refine kxs_getMethod KF so2 (looks_opaque K2 hop) (l₀ := cdC.mro) ?_ rfl K2 hsup' (I2.type.andThen (looks_subIn K2 hB)) (ks_ne K2 I2 hcC) rfl ?_
  · exact fun A Q E s k q => wpAny_bind ((looks_clsIn K2 hcC) A _ E s k (wpAny_pure q))
  have k3 : ∀ b o, h2.get? b = some o → (h2.push (kxs_mw initId e)).get? b = some o := fun b o z => Heap.get?_push_of_some _ z
  have n3 : (h2.push (kxs_mw initId e)).Ns s.heap.objs.size (fun y => [((("self" : Str)), Value.ref e), (x, u)].reverse.lookup y) := (hns.keeps k2).keeps k3
  have u3 : (h2.push (kxs_mw initId e)).get? h2.objs.size = some (kxs_mw initId e) := Heap.get?_push_at rfl rfl
  have e3 := k3 _ _ e2
  have K3 : K.In (h2.push (kxs_mw initId e)) := K2.keeps k3
  have hst : starEach [.Name x p3] env = [(false, eval (.Name x p3) env)] := rfl
  rw [hst]
  refine kxs_callWith (i := initId) (x := e) rfl (evalArgs_plain (spliced_cons (wpAny_Name (lx n3 (spliced_nil ⟨u3, ?_⟩)) hnd)))
  refine xc_callmw FB K3 q1 u3 e3 (by show 1 ≤ sizeLine; rw [sizeLine_eq]; omega) fun h4 t1 k4 e4 => ?_
  have k34 : ∀ b o, b ≠ e → s.heap.get? b = some o → h4.get? b = some o := fun b o hb z => k4 b o hb (k3 b o (k2 b o (keep b o z)))
  have K4 : K.In h4 := fun b o z => k4 b o (fun y => by
    rw [y, hKe] at z
    cases z) (K3 _ _ z)
  have n4 : h4.Ns s.heap.objs.size (fun y => [((("self" : Str)), Value.ref e), (x, u)].reverse.lookup y) := by
    obtain ⟨o, es, ep, ho, r⟩ := n3
    exact ⟨o, es, ep, k4 _ _ (fun y => by
      have z := Heap.lt_size he
      rw [← y] at z
      exact absurd z (Nat.lt_irrefl _)) ho, r⟩
  show _root_.PySem.wpAt _ _ _ (execs [.Assign [.Attribute (.Name "self" p6) f p7] (.Name x p8) p9] env) _ _ _
  refine ks_wpAt_execs_cons (ks_wpAt_Assign_Attr (wpAt_of_wpAny (wpAny_Name (lx n4 (wpAny_Name (lself n4 ?_) (by decide))) hnd)) rfl)
  refine set_plain K4 (ox := excObj C t1 none .none) (od := none) ⟨e4, rfl, rfl, trivial⟩ hsa ?_
  refine xc_osa SF K4 e4 q2 htk hhd fun h5 tk5 dx k5 d5 ne5 e5 n5 => ?_
  have sz : s.heap.objs.size ≤ h4.objs.size := by
    obtain ⟨o, es, ep, ho, r⟩ := n4
    exact Nat.le_of_lt (Heap.lt_size ho)
  show _root_.PySem.wpAt _ _ _ (execs [] env) _ _ _
  exact wpAt_of_wpAny (wpAny_execs_nil (hq h5 tk5 dx t1 (fun b o hb z => k5 b o hb (k34 b o hb z)) (Nat.le_trans sz d5) ne5 e5 n5))
end
end DV
end
section
/-! An own exception made: the rules. -/
set_option Elab.async false
set_option linter.all false
set_option maxRecDepth 100000
set_option maxHeartbeats 1000000
namespace DV
open PySem PySem.Spec PyProof.Rows L2
/-- an exception of the class C, its dict at d -/
def EV (a C d : Addr) : HO := .ext fun h => ∃ (oe : Obj) (vs : Array Value), h.get? a = some oe ∧ oe.cls = .ref C ∧ oe.dict = some d ∧ oe.data = .fields vs
theorem EV.ok {P : Program} {w : World} {H : Hp} {h : Heap} {a C d : Addr} {oe : Obj} {vs : Array Value} (e : h.get? a = some oe) (c : oe.cls = .ref C) (z : oe.dict = some d) (f : oe.data = .fields vs) : ObjOk P w H h a (EV a C d) :=
  ⟨⟨oe, vs, e, c, z, f⟩, ⟨oe, e⟩, fun _ _ ⟨o, v, q, r⟩ k => ⟨o, v, k o q, r⟩⟩
theorem EV.at_ {P : Program} {w : World} {H : Hp} {h : Heap} {a C d : Addr} (k : HOk P w H h) (e : H a = some (EV a C d)) : ∃ (oe : Obj) (vs : Array Value), h.get? a = some oe ∧ oe.cls = .ref C ∧ oe.dict = some d ∧ oe.data = .fields vs := by
  have x : ObjOk P w H h a (EV a C d) := k a _ e
  exact x.1
theorem xd_ok {P : Program} {w : World} {H : Hp} {h : Heap} {dx : Addr} {fs : List (Str × V)} {mA : Str → Option Value} (hn : h.Ns1 dx mA) (r : ∀ f, RelO (fs.lookup f) (mA f)) : ObjOk P w H h dx (.xd fs) := ⟨mA, hn, r⟩
/-- an own exception class: where it stands, its field, the name of its __init__'s parameter -/
structure XCls (prog : Program) (K : PySem.W.Frag) (C : Addr) (f x : Str) : Prop where
  c : XcC prog K C f
  i : ∃ fI fd, InitAt prog K C fI f x fd ∧ PySem.W.findIn K (.ref C) "__init__" = some (some (.ref fI)) ∧ PySem.W.typeIn K (.ref fI) = some (.type "function") ∧ Binds K fd ["self", x] [] ∧
    ∀ (s : Shared) (a u : Value), BindsTo s fd ⟨[a], [(x, u)]⟩ [("self", a), (x, u)]
  k : PySem.W.keepIn K (.ref C) = true
  ex : PySem.W.subIn K (.ref C) (.type "BaseException") = some true
  ty : PySem.W.typeIn K (.ref C) = some (.type "type")
section
variable {X : Cx} {pins : List (Addr × Obj)} {σ : L2.St} {H : Hp} {s : Shared}
/-- behind the call of the class: the exception at a, its dict at dx, G the heap without it -/
structure Made (X : Cx) (pins : List (Addr × Obj)) (σ : L2.St) (H : Hp) (C : Addr) (f : Str) (v : V) (a dx : Addr) (G h' : Heap) (g : Array GenState) (d : Drawn) (t : Nat) (os : OsState) : Prop where
  inv : Inv X pins σ (upd H dx (.xd [(f, v)])) ⟨G, g, d, t, os⟩
  keep : ∀ b o, G.get? b = some o → h'.get? b = some o
  gone : G.get? a = none
  at_ : ∃ t1, h'.get? a = some ({ cls := .ref C, dict := some dx, data := .fields #[.ref t1, .none, .none, .none, .bool false, .none] } : Obj)
  na : upd H dx (.xd [(f, v)]) a = none
  nd : H dx = none
  bare : AllBare g
theorem run_xc {C : Addr} {f x : Str} {v : V} {u : Value} {Q : Value → Shared → Prop} {E : Value → Shared → Prop} (T : XCls X.prog X.K C f x) (hms : X.mg "super" = none) (hr : X.A.depth + 1 < recursionLimit) (I : Inv X pins σ H s) (ru : RelV v u)
    (hq : ∀ a dx G h' tk, Made X pins σ H C f v a dx G h' s.gens s.drawn tk s.os → Q (.ref a) ⟨h', s.gens, s.drawn, tk, s.os⟩) :
    wpAny (model X.prog X.w) X.A (call (.ref C) [u]) Q E s := by
  obtain ⟨fI, fd, TI, iC, tI, hb, _⟩ := T.i
  obtain ⟨B, newId, initId, bmB, FB, KF, SF, q1, q2, hB, hsup⟩ := T.c.base
  obtain ⟨nm, N', qn, bs, bm, hdct, sn, sub, ab, col, dd, k0, k1, k2, k3, k5, hC, hT⟩ := PySem.W.excInit_of I.kIn q1
  have hKe : X.K.lookup (s.heap.objs.size + 1) = none := by
    cases z : X.K.lookup (s.heap.objs.size + 1) with
    | none => rfl
    | some o =>
      have := Heap.lt_size (I.kIn _ _ z)
      exact absurd (Nat.lt_of_succ_lt this) (Nat.lt_irrefl _)
  have e0 := I.env0
  obtain ⟨hp, g, dr, tk, os⟩ := s
  have kk : ∀ b o, hp.get? b = some o → ((hp.push (PySem.W.kdv_tup [u])).push (PySem.HandSPX.excO C hp.objs.size)).get? b = some o := fun b o e => Heap.get?_push_of_some _ (Heap.get?_push_of_some _ e)
  have kb : ∀ b o, X.base.get? b = some o → ((hp.push (PySem.W.kdv_tup [u])).push (PySem.HandSPX.excO C hp.objs.size)).get? b = some o := fun b o e => kk b o (e0.bs b o e).1
  have hget : ((hp.push (PySem.W.kdv_tup [u])).push (PySem.HandSPX.excO C hp.objs.size)).get? (hp.objs.size + 1) = some (PySem.HandSPX.excO C hp.objs.size) := by heap_get
  obtain ⟨mb, hmb, hmb2⟩ := e0.mod.blt
  refine wpAny_call (PySem.HandSPX.call_own FB hT hC (PySem.W.looks_findIn I.kIn iC) (fun self => PySem.W.bind_fn I.kIn self tI) (by show 1 ≤ sizeLine; rw [sizeLine_eq]; omega)
    (xc_init T.c TI (e := hp.objs.size + 1) (t0 := hp.objs.size) (u := u) (e0.mod.kin.keeps kb) (e0.mod.nolimit.keeps kb) (e0.mod.glob.keeps kb) ⟨mb, hmb.keeps kb, hmb2⟩ hms (by rw [make_depth]; exact hr) hget hKe (hb _ [.ref (hp.objs.size + 1), u] (e0.mod.kin.keeps kb) rfl)
      fun h' tk' dx t1 k' d' ne' e' n' => ?_))
  show Value.none = .none ∧ _
  refine ⟨rfl, ?_⟩
  have hne : ∀ {b : Addr} {o : Obj}, hp.get? b = some o → b ≠ hp.objs.size + 1 := fun {b o} z y => by
    have := Heap.lt_size z
    rw [y] at this
    exact absurd (Nat.lt_of_succ_lt this) (Nat.lt_irrefl _)
  obtain ⟨G, g1, g2⟩ := restrict h' fun b => decide (b ≠ hp.objs.size + 1)
  have gk : ∀ b, b ≠ hp.objs.size + 1 → G.get? b = h'.get? b := fun b hb => g1 b (decide_eq_true hb)
  have ge : G.get? (hp.objs.size + 1) = none := g2 _ (by simp)
  have sz : hp.objs.size ≤ dx := by
    have h1 : ((hp.push (PySem.W.kdv_tup [u])).push (PySem.HandSPX.excO C hp.objs.size)).objs.size ≤ dx := d'
    rw [Heap.size_push, Heap.size_push] at h1
    exact Nat.le_trans (Nat.le_add_right _ 2) h1
  have hnd : H dx = none := I.hok.fresh sz
  have hna : H (hp.objs.size + 1) = none := I.hok.fresh (Nat.le_succ _)
  have hpd : hp.get? dx = none := Heap.get?_none_of_le sz
  refine hq _ dx G h' tk' ⟨?_, fun b o z => ?_, ge, ⟨t1, e'⟩, by rw [upd_ne (Ne.symm ne')]; exact hna, hnd, I.bare⟩
  · refine Inv.laidN (s := ⟨hp, g, dr, tk, os⟩) I (fun b o z => ?_) hpd hnd ?_
    · rw [gk b (hne z)]
      exact k' b o (hne z) (kk b o z)
    · refine xd_ok (n'.at fun o y => (gk dx ne').trans y) fun y => ?_
      show RelO (List.lookup y [(f, v)]) _
      by_cases hy : y = f
      · subst hy
        simp only [List.lookup, beq_self_eq_true, if_true]
        exact ru
      · have : (y == f) = false := by simpa using hy
        simp only [List.lookup, this, if_neg hy]
        exact True.intro
  · by_cases hba : b = hp.objs.size + 1
    · rw [hba, ge] at z; cases z
    · exact (gk b hba).symm.trans z
/-- X(e) as what is raised -/
theorem pmk_xc {C : Addr} {f x n : Str} {e : Expr} {ta : TA} {p pos : Pos} (T : XCls X.prog X.K C f x) (hms : X.mg "super" = none) (hr : X.A.depth + 1 < recursionLimit) (hg : Gl X n) (hm : X.mg n = some (.ref C)) (ha : PA X [e] ta)
    (hdb : (n == ("__debug__" : Str)) = false := by decide) (he : starEach [e] X.env = (false, eval e X.env) :: starEach [] X.env := by rfl) :
    PMk X (.Call (.Name n p) [e] [] pos) (fun σ H Q => ta σ H fun vs H1 => ∃ v, vs = [v] ∧ ∀ d, H1 d = none → Q (.ref C) (some d) (upd H1 d (.xd [(f, v)]))) := by
  intro pins s σ H Q I h
  refine wpAny_Call_Name_kw (ld_glob I hg hm ?_ hdb)
  refine PySem.W.callWith_K (h₀ := X.base) I.ok.mod.kin T.k (thn (ha.run pos pins s σ H _ I h) fun us s1 ⟨vs, H1, I1, r1, v, hv, q1⟩ => ⟨I1.kIn, ?_⟩) he rfl
  subst hv
  cases r1 with
  | @cons _ u _ ur ra rw' =>
    cases rw'
    refine run_xc T hms hr I1 ra fun a dx G h' tk m => ?_
    obtain ⟨t1, at1⟩ := m.at_
    exact ⟨a, _, _, _, _, .ref C, some dx, rfl, m.inv, m.keep, m.gone, at1, ⟨rfl, rfl⟩, rfl, rfl, m.na, rfl, m.bare, raises_own T.ex T.ty, q1 dx m.nd⟩
/-- .. as a value -/
theorem pe_xc {C : Addr} {f x n : Str} {e : Expr} {ta : TA} {p pos : Pos} (T : XCls X.prog X.K C f x) (hms : X.mg "super" = none) (hr : X.A.depth + 1 < recursionLimit) (hg : Gl X n) (hm : X.mg n = some (.ref C)) (ha : PA X [e] ta)
    (hdb : (n == ("__debug__" : Str)) = false := by decide) (he : starEach [e] X.env = (false, eval e X.env) :: starEach [] X.env := by rfl) :
    PE X (.Call (.Name n p) [e] [] pos) (fun σ H Q => ta σ H fun vs H1 => ∃ v, vs = [v] ∧ ∀ d a, H1 d = none → upd H1 d (.xd [(f, v)]) a = none → Q (.ref a) (upd (upd H1 d (.xd [(f, v)])) a (EV a C d))) := by
  refine ⟨fun pins s σ H Q I h => ?_⟩
  refine wpAny_Call_Name_kw (ld_glob I hg hm ?_ hdb)
  refine PySem.W.callWith_K (h₀ := X.base) I.ok.mod.kin T.k (thn (ha.run pos pins s σ H _ I h) fun us s1 ⟨vs, H1, I1, r1, v, hv, q1⟩ => ⟨I1.kIn, ?_⟩) he rfl
  subst hv
  cases r1 with
  | @cons _ u _ ur ra rw' =>
    cases rw'
    refine run_xc T hms hr I1 ra fun a dx G h' tk m => ?_
    obtain ⟨t1, at1⟩ := m.at_
    have J := Inv.laidN (o := EV a C dx) (h' := h') (t' := tk) m.inv m.keep m.gone m.na (EV.ok at1 rfl rfl rfl)
    exact ⟨.ref a, _, J, rfl, q1 dx a m.nd m.na⟩
theorem PE.or {e : Expr} {t1 t2 : TE} (h1 : PE X e t1) (h2 : PE X e t2) : PE X e (fun σ H Q => t1 σ H Q ∨ t2 σ H Q) := ⟨fun pins s σ H Q I q => q.elim (h1.run pins s σ H Q I) (h2.run pins s σ H Q I)⟩
/-- a field of an exception -/
theorem pe_evf {e : Expr} {te : TE} {pos : Pos} {n : Str} (he : PE X e te) (hb : attributeBase e n X.env (eval e X.env) = eval e X.env) :
    PE X (.Attribute e n pos) (fun σ H Q => te σ H fun x H1 => ∃ (a C d : Addr) (fs : List (Str × V)) (v : V), x = .ref a ∧ XfC X.K C ∧ PySem.W.findIn X.K (.ref C) n = some none ∧ H1 a = some (EV a C d) ∧ H1 d = some (.xd fs) ∧ fs.lookup n = some v ∧ Q v H1) := by
  refine ⟨fun pins s σ H Q I h => ?_⟩
  refine attr_of hb (thn (he.run pins s σ H _ I h) fun u s1 hh => ?_)
  obtain ⟨x, H1, I1, rx, a, C, d, fs, v, ex, T, hno, ea, ed, l, q⟩ := hh
  subst ex
  obtain rfl : u = Value.ref a := rx
  obtain ⟨oe, vs, h1, h2, h3, h4⟩ := EV.at_ I1.hok ea
  have hx : ObjOk X.prog X.w H1 s1.heap d (.xd fs) := I1.hok d _ ed
  obtain ⟨mA, hns, hr⟩ := hx
  obtain ⟨od, ho, hl⟩ := lookIn_ns hns
  obtain ⟨u, hu, ru⟩ := RelO.some_of (v := v) (o := mA n) (by rw [← l]; exact hr n)
  have J : PySem.W.InstAt s1.heap a oe C (some od) := ⟨h1, h2, by unfold PySem.W.notCls; rw [h4] <;> rfl, by rw [h3]; exact ho⟩
  exact HandSPX.exc_get I1.kIn J T.ga T.gg T.exC (PySem.W.findObj_own T.hdC hno rfl (by rw [hl, hu])) (handed_of ru) ⟨v, H1, I1.tok _, ru, q⟩
theorem XfC.of {K : PySem.W.Frag} {C : Addr} (h : ExcC K C) : XfC K C := ⟨h.hg, h.hk, h.hs, h.hd⟩
/-- isinstance(e, c) of an exception -/
def rIsEV (K : PySem.W.Frag) : List V → Hp → VK → Prop := fun xs H Q => ∃ (a C d : Addr) (fs : List (Str × V)) (c : V) (cv : Value) (b : Bool), xs = [.ref a, c] ∧ ExcC K C ∧ H a = some (EV a C d) ∧ H d = some (.xd fs) ∧ ClsV c cv ∧ PySem.W.kitOne K (.ref C) cv = some b ∧ Q (.bl b) H
theorem call_isEV : CallR X (.builtin "isinstance") (rIsEV X.K) := by
  intro pins s σ H xs us Q I r h
  obtain ⟨a, C, d, fs, c, cv, b, rfl, T, ea, ed, hcv, e, q⟩ := h
  cases r with
  | cons rx rr =>
    cases rr with
    | cons rt rr =>
      cases rr
      cases rx
      have ec := hcv.eq rt
      subst ec
      obtain ⟨oe, vs, h1, h2, h3, h4⟩ := EV.at_ I.hok ea
      have hx : ObjOk X.prog X.w H s.heap d (.xd fs) := I.hok d _ ed
      obtain ⟨mA, hns, hr⟩ := hx
      obtain ⟨od, ho, hl⟩ := lookIn_ns hns
      have J : PySem.W.InstAt s.heap a oe C (some od) := ⟨h1, h2, by unfold PySem.W.notCls; rw [h4] <;> rfl, by rw [h3]; exact ho⟩
      obtain ⟨cd, hc, _⟩ := PySem.W.any_some T.hd
      exact PySem.W.kia_one (PySem.W.kitx_exc (by rw [hc]; rfl) T.hg T.hk T.hs T.ha T.hn T.ht T.hm) I.kIn J e (fun z => nomatch z) fun tk => ⟨.bl b, H, I.kept (t' := tk) fun _ _ z => z, rfl, q⟩
end
end DV
end
section
/-! try .. except: the caught exception is tracked in the suite. -/
set_option Elab.async false
set_option linter.all false
set_option maxRecDepth 100000
set_option maxHeartbeats 1000000
namespace DV
open PySem PySem.Spec PyProof.Rows L2
/-- what a clause names: a class, a tuple of classes -/
inductive CS where
  | one (c : Value) | tup (cs : List Value)
def exmS (K : PySem.W.Frag) (cls : Value) : CS → Option Bool
  | .one c => PySem.W.exmOne K cls c
  | .tup cs => PySem.W.exmAny K cls cs
structure Cl where
  c : CS
  i : Option Nat
  ts : TS
def unE (i : Option Nat) (D : Ends) : Ends := match i with
  | none => D
  | some i => { nx := fun σ H => D.nx (σ.set i none) H, rt := D.rt, bk := fun σ H => D.bk (σ.set i none) H, ct := fun σ H => D.ct (σ.set i none) H }
def inE (i : Option Nat) (a : Addr) (σ : L2.St) : L2.St := match i with
  | none => σ
  | some i => σ.set i (some (.ref a))
/-- what the clauses wish of an exception of the body -/
def wEv (K : PySem.W.Frag) (Wout : WX) (D : Ends) : List Cl → WX
  | [] => Wout
  | q :: r => fun cls d σ H => ∃ b, exmS K cls q.c = some b ∧ (b = true → ∀ a, H a = none → ∃ C dd, cls = .ref C ∧ d = some dd ∧ q.ts (unE q.i D) (inE q.i a σ) (upd H a (EV a C dd))) ∧ (b = false → wEv K Wout D r cls d σ H)
/-- the clause's test as it is written -/
inductive TstOk (X : Cx) : Expr → CS → Prop
  | one {x : Str} {c : Value} {p : Pos} : Names X x c → TstOk X (.Name x p) (.one c)
  | two {x1 x2 : Str} {c1 c2 : Value} {p1 p2 p : Pos} {k : Nat} : Names X x1 c1 → Names X x2 c2 → TstOk X (.Tuple [.Name x1 p1, .Name x2 p2] k p) (.tup [c1, c2])
  | three {x1 x2 x3 : Str} {c1 c2 c3 : Value} {p1 p2 p3 p : Pos} {k : Nat} : Names X x1 c1 → Names X x2 c2 → Names X x3 c3 → TstOk X (.Tuple [.Name x1 p1, .Name x2 p2, .Name x3 p3] k p) (.tup [c1, c2, c3])
  | four {x1 x2 x3 x4 : Str} {c1 c2 c3 c4 : Value} {p1 p2 p3 p4 p : Pos} {k : Nat} : Names X x1 c1 → Names X x2 c2 → Names X x3 c3 → Names X x4 c4 → TstOk X (.Tuple [.Name x1 p1, .Name x2 p2, .Name x3 p3, .Name x4 p4] k p) (.tup [c1, c2, c3, c4])
inductive HdsE (X : Cx) : List ExceptHandler → List Cl → Prop
  | nil : HdsE X [] []
  | as_ {t : Expr} {n : Str} {i : Nat} {c : CS} {ts : TS} {b₀ : Stmt} {suite : List Stmt} {pos' : Pos} {hds : List ExceptHandler} {l : List Cl} (ht : TstOk X t c) (hi : X.N[i]? = some n) (hl : X.env.kindOf n = some .local)
      (hsu : ∀ (a : Addr) (pn : List (Addr × Obj)), PSs (X.suite a pn) (b₀ :: suite) ts) (r : HdsE X hds l) : HdsE X (.ExceptHandler (some t) (some n) (b₀ :: suite) pos' :: hds) (⟨c, some i, ts⟩ :: l)
  | only {t : Expr} {c : CS} {ts : TS} {b₀ : Stmt} {suite : List Stmt} {pos' : Pos} {hds : List ExceptHandler} {l : List Cl} (ht : TstOk X t c)
      (hsu : ∀ (a : Addr) (pn : List (Addr × Obj)), PSs (X.suite a pn) (b₀ :: suite) ts) (r : HdsE X hds l) : HdsE X (.ExceptHandler (some t) none (b₀ :: suite) pos' :: hds) (⟨c, none, ts⟩ :: l)
section
variable {X : Cx} {pins : List (Addr × Obj)} {σ : L2.St} {H : Hp} {s s' sI : Shared} {B : Heap}
theorem toSuite (I : Inv X pins σ H s) (a : Addr) : Inv (X.suite a (X.pn ++ pins)) [] σ H s :=
  ⟨I.ok.suite _ _, I.os, I.bare, I.base, I.loc, I.cell, I.free, I.freeC, fun p hp => I.pin p (by rw [List.append_nil] at hp; exact hp), I.hok, I.len⟩
/-- a name of the module, of the built-ins, in a state of ours -/
theorem ld_nm {a : Addr} {x : Str} {c : Value} {p : Pos} {Q : Value → Shared → Prop} {E : Value → Shared → Prop} (hc : Names X x c) (I : Inv X pins σ H s) (q : Q c s) : wpAny (model X.prog X.w) (X.A.mark (some (.ref a))) (eval (.Name x p) X.env) Q E s := by
  obtain ⟨hg, hdbg, hm | ⟨hm, hv, hnn⟩⟩ := hc
  · exact ld_glob (X := X.suite a (X.pn ++ pins)) (toSuite I a) hg hm q hdbg
  · exact ld_blt (X := X.suite a (X.pn ++ pins)) (toSuite I a) hg hm hv q hnn hdbg
theorem tst_ok {t : Expr} {c : CS} {a : Addr} {cls : Value} {b : Bool} {Q : Bool → Shared → Prop} {E : Value → Shared → Prop} (ht : TstOk X t c) (I : Inv X pins σ H s) (LT : PySem.W.Looks (model X.prog X.w) s.heap (typeOf (.ref a)) cls) (hb : exmS X.K cls c = some b)
    (q : ∀ h', (∀ b o, s.heap.get? b = some o → h'.get? b = some o) → Q b { s with heap := h' }) : wpAny (model X.prog X.w) (X.A.mark (some (.ref a))) (eval t X.env) (fun c s₁ => wpAny (model X.prog X.w) (X.A.mark (some (.ref a))) (excMatches (.ref a) c) Q E s₁) E s := by
  cases ht with
  | one h1 => exact ld_nm h1 I ((PySem.W.exm_one (M := model X.prog X.w) I.kIn LT hb).here (q s.heap fun _ _ z => z))
  | @two x1 x2 c1 c2 p1 p2 p k h1 h2 =>
    refine wpAny_Tuple ?_
    refine wpAny_items_cons (ld_nm h1 I ?_)
    refine wpAny_items_cons (ld_nm h2 I ?_)
    refine wpAny_items_nil ⟨by show 2 ≤ sizeLine; rw [sizeLine_eq]; omega, ?_⟩
    have kp : ∀ q o, s.heap.get? q = some o → (s.heap.push { cls := .type "tuple", data := .seq [c1, c2].toArray }).get? q = some o := fun _ _ z => Heap.get?_push_of_some _ z
    exact (PySem.W.exm_tup2 (I.kIn.keeps kp) (LT.keeps kp) (Heap.get?_push_size s.heap rfl) hb).here (q _ kp)
  | @three x1 x2 x3 c1 c2 c3 p1 p2 p3 p k h1 h2 h3 =>
    refine wpAny_Tuple ?_
    refine wpAny_items_cons (ld_nm h1 I ?_)
    refine wpAny_items_cons (ld_nm h2 I ?_)
    refine wpAny_items_cons (ld_nm h3 I ?_)
    refine wpAny_items_nil ⟨by show 3 ≤ sizeLine; rw [sizeLine_eq]; omega, ?_⟩
    have kp : ∀ q o, s.heap.get? q = some o → (s.heap.push { cls := .type "tuple", data := .seq [c1, c2, c3].toArray }).get? q = some o := fun _ _ z => Heap.get?_push_of_some _ z
    exact (PySem.W.exm_tup3 (I.kIn.keeps kp) (LT.keeps kp) (Heap.get?_push_size s.heap rfl) hb).here (q _ kp)
  | @four x1 x2 x3 x4 c1 c2 c3 c4 p1 p2 p3 p4 p k h1 h2 h3 h4 =>
    refine wpAny_Tuple ?_
    refine wpAny_items_cons (ld_nm h1 I ?_)
    refine wpAny_items_cons (ld_nm h2 I ?_)
    refine wpAny_items_cons (ld_nm h3 I ?_)
    refine wpAny_items_cons (ld_nm h4 I ?_)
    refine wpAny_items_nil ⟨by show 4 ≤ sizeLine; rw [sizeLine_eq]; omega, ?_⟩
    have kp : ∀ q o, s.heap.get? q = some o → (s.heap.push { cls := .type "tuple", data := .seq [c1, c2, c3, c4].toArray }).get? q = some o := fun _ _ z => Heap.get?_push_of_some _ z
    exact (PySem.W.exm_tup4 (I.kIn.keeps kp) (LT.keeps kp) (Heap.get?_push_size s.heap rfl) hb).here (q _ kp)
/-- back on the ground, the exception tracked -/
theorem landedEV {a C dd : Addr} {oe : Obj} {vs : Array Value} (I : Inv X pins σ H sI) (hx : X.ex = []) (nb : ∀ b o, sI.heap.get? b = some o → b ∉ frs X.stack → B.get? b = some o) (st : B.StaysIn s'.heap) (up : sI.heap.UpToSlots s'.heap) (os : s'.os = sI.os) (ag : AllBare s'.gens)
    (hB : B.get? a = none) (nfr : a ∉ frs X.stack) (na : H a = none) (ha : s'.heap.get? a = some oe) (hc : oe.cls = .ref C) (hd : oe.dict = some dd) (hf : oe.data = .fields vs) : Inv X pins σ (upd H a (EV a C dd)) s' := by
  have gone : sI.heap.get? a = none := by
    cases z : sI.heap.get? a with
    | none => rfl
    | some o => rw [nb a o z nfr] at hB; cases hB
  have ne : ∀ {b : Addr} {o : Obj}, sI.heap.get? b = some o → b ≠ a := fun {b o} z y => by rw [y, gone] at z; cases z
  have nf : ∀ b ∈ frs X.stack, ∀ o, sI.heap.get? b = some o → ∃ sl, s'.heap.get? b = some { o with slots := sl } := fun b hb o e => by
    obtain ⟨_, o', e', hd⟩ := I.stack.mem hb
    rw [e] at e'; cases e'
    exact up b o e hd
  have J := I.call (ch := []) (h' := s'.heap) (g' := s'.gens) (t' := s'.toks) (d' := s'.drawn) (H' := upd H a (EV a C dd))
    ⟨fun b o e _ hb _ => st b o (nb b o e hb), fun b o e _ hb _ => nf b hb o e, fun b o e n _ => by rw [upd_ne (ne e)]; exact n, fun b o e _ => by
      by_cases hb : b ∈ frs X.stack
      · obtain ⟨sl, q⟩ := nf b hb o e
        exact ⟨_, q⟩
      · exact ⟨o, st b o (nb b o e hb)⟩, fun b xs e => by rw [upd_ne (ne_of_none e na)]; exact e, fun b o u e => by rw [upd_ne (ne_of_none e na)]; exact e, fun b ps e => ⟨#[], by rw [upd_ne (ne_of_none e na), e]; simp⟩⟩
    (fun b o e => by
      by_cases hb : b = a
      · subst hb
        rw [upd_same] at e
        cases e
        exact EV.ok ha hc hd hf
      · rw [upd_ne hb] at e
        exact (((I.inGround nb).kept st) b o e).stay (fun _ _ _ q => q) (fun c q => by rw [upd_ne (ne_of_none q na)]; exact q) fun c xs q => by rw [upd_ne (ne_of_none q na)]; exact q) ag (fun _ z => nomatch z)
  obtain ⟨a1, a2, a3, a4, a5⟩ := s'
  have e5 : a5 = sI.os := os
  subst e5
  exact J
theorem unSuite {a : Addr} {pn' : List (Addr × Obj)} (I : Inv (X.suite a (X.pn ++ pins)) pn' σ H s) (ok : X.Ok) : Inv X pins σ H s :=
  ⟨ok, I.os, I.bare, I.base, I.loc, I.cell, I.free, I.freeC, fun p hp => I.pin p (List.mem_append_left _ hp), I.hok, I.len⟩
end
theorem flying_keep {B : Heap} {l : List PySem.Env} {a : Addr} {Z : Obj → Prop} {h h' : Heap} (x : HandSPX.FlyingZ B l a Z h) (k : ∀ b o, h.get? b = some o → h'.get? b = some o) : HandSPX.FlyingZ B l a Z h' := by
  obtain ⟨h1, h2, h3, oe, vs, T, oT, ts, he, hz, hd, q1, q2, q3, q4, q5⟩ := x
  exact ⟨fun b o z => k b o (h1 b o z), h2, h3.of_keeps fun b o z _ => ⟨o, k b o z, rfl⟩, oe, vs, T, oT, ts, k _ _ he, hz, hd, q1, q2, q3, k _ _ q4, q5⟩
end DV
end
section
/-! try .. except. -/
set_option Elab.async false
set_option linter.all false
set_option maxRecDepth 100000
set_option maxHeartbeats 1000000
namespace DV
open PySem PySem.Spec PyProof.Rows L2
section
variable {X : Cx} {body : List Stmt} {h₀ : ExceptHandler} {hds : List ExceptHandler} {l : List Cl} {pos : Pos} {tb : WX → TS} {Wout : WX}
theorem ps_try_ev (hs : X.stack = X.env :: X.outer) (hf : X.env.frame = some X.env.locals) (hex : X.ex = []) (hN : X.N.Nodup) (tk : Takes X Wout)
    (hb : ∀ (W : WX) (pn : List (Addr × Obj)) (xe : Value → Shared → Prop), Takes (X.tr pn xe) W → PassesOwn (model X.prog X.w) X.A X.env xe → PSs (X.tr pn xe) body (tb W))
    (hh : HdsE X (h₀ :: hds) l) : PS X (.Try body (h₀ :: hds) [] [] pos) (fun D σ H => tb (wEv X.K Wout D l) D σ H) := by
  refine ⟨fun pins s σ H D I h => ?_⟩
  have ok := I.ok
  have hfr : X.A.frames = some (X.env :: X.outer) := by rw [ok.frames, hs]
  refine wpAny_Try_except ?_
  refine wpAny_mono ((hb (wEv X.K Wout D l) (X.pn ++ pins) (fun e s₁ => wpAny (model X.prog X.w) X.A (noteFrame e X.env) (fun _ s₂ => wpAny (model X.prog X.w) X.A (setFlight e none) (fun _ s₃ =>
    wpAny (model X.prog X.w) X.A (handleBy e X.env (h₀ :: hds)) (SP X pins D) X.xe s₃) X.xe s₂) X.xe s₁) (fun u s' xx => ?_) PassesOwn.looking).run [] s σ H D (I.toTry _) h) (fun f s1 hsp => ?_) (fun e s1 he => he)
  · -- the catch
    obtain ⟨a, B, sI, pins', σ', H', cls, d, rfl, J', nb, up, sky, na, os, ag, w⟩ := xx
    have J : Inv X pins σ' H' sI := J'.ofTry ok
    have sky' : Sky B (X.env :: X.outer) a (Zc cls d) X.env.locals s'.heap := by rw [← hs]; exact sky
    show wpAny (model X.prog X.w) X.A (noteFrame (.ref a) X.env) _ _ _
    refine Sky.land Zc.steady hfr hf sky' fun h3 fl3 up3 => ?_
    have notFr : ∀ {h : Heap} {o : Obj} {vs : Array Value}, h.FunFrames B (X.env :: X.outer) → h.get? a = some o → o.data = .fields vs → a ∉ frs X.stack := fun {h o vs} ff e dd hm => by
      rw [hs] at hm
      obtain ⟨_, o', e', hnf⟩ := ff.mem hm
      rw [e] at e'; cases e'
      exact hnf _ dd
    have nfr : a ∉ frs X.stack := by
      obtain ⟨oe3, vs3, he3, hz3, hd3⟩ := fl3.there
      exact notFr fl3.2.2.1 he3 hd3
    have hBa : B.get? a = none := fl3.2.1
    -- clause after clause, at a heap behind which nothing is forgotten
    have go : ∀ {hds' : List ExceptHandler} {l' : List Cl}, HdsE X hds' l' → ∀ (h4 : Heap), HandSPX.FlyingZ B (X.env :: X.outer) a (Zc cls d) h4 → sI.heap.UpToSlots h4 → wEv X.K Wout D l' cls d σ' H' →
        wpAny (model X.prog X.w) X.A (handleBy (.ref a) X.env hds') (SP X pins D) X.xe { s' with heap := h4 } := by
      intro hds' l' hk
      have end_ : ∀ {i : Nat} {n : Str} {pos' : Pos} {σ6 : L2.St} {H6 : Hp} {Q : Shared → Prop} {s6 : Shared}, X.N[i]? = some n → X.env.kindOf n = some .local → Inv (X.suite a (X.pn ++ pins)) [] σ6 H6 s6 → (∀ s7, Inv X pins (σ6.set i none) H6 s7 → Q s7) →
          wpAny (model X.prog X.w) X.A (do bindName X.env n .none; unbindBehindTheSuite X.env n pos') (fun _ s7 => Q s7) X.xe s6 := fun {i n pos' σ6 H6 Q s6} hi hln S6 hq => gone_ok (unSuite S6 ok) hN hi hln hq
      induction hk with
      | nil =>
        intro h4 fl4 up4 w
        refine wpAny_handleBy_nil ?_
        obtain ⟨k1, k2, k3, oe, vs, T, oT, ts', he, hz, hd, h1, hr⟩ := id fl4
        unfold PySem.passOn
        refine wpAny_bind (wpAny_field he hd h1 ?_)
        rw [if_neg (show ¬ ((Value.ref T == Value.none) = true) from by simp)]
        have fin : wpAny (model X.prog X.w) X.A (setFlight (.ref a) X.env.frame) (fun _ s4 => wpAny (model X.prog X.w) X.A (throw (.ref a) : Sem Flow) (SP X pins D) X.xe s4) X.xe { s' with heap := h4 } := by
          rw [hf]
          refine HandSPX.setFlight_upZ fl4 fun h5 hh5 up5 => wpAny_throw (tk _ _ ?_)
          exact ⟨a, B, sI, pins, σ', H', cls, d, rfl, J, nb, up4.trans up5, .inr (.inr (by rw [hs]; exact hh5)), na, os, ag, w⟩
        first
          | exact wpAny_bind (wpAny_pure (wpAny_bind fin))
          | exact wpAny_bind fin
      | @as_ t n i c ts b₀ suite pos' hds2 l2 ht hi hln hsu r ih =>
        intro h4 fl4 up4 w
        obtain ⟨b, hb1, hyes, hno⟩ := w
        refine wpAny_handleBy_cons (codeAny_handlers_test ?_) (by intro q; cases q)
        have J4 : Inv X pins σ' H' { s' with heap := h4 } := J.landed nb fl4.1 up4 os ag
        obtain ⟨oe4, vs4, he4, hz4, hd4⟩ := fl4.there
        have LT : PySem.W.Looks (model X.prog X.w) h4 (typeOf (.ref a)) cls := fun A Q E s k q => wpAny_typeOf_ref (k _ _ he4) (by rw [hz4.1]; exact q)
        refine tst_ok ht J4 LT hb1 fun h5 k5 => ?_
        have fl5 := flying_keep fl4 k5
        have up5 : sI.heap.UpToSlots h5 := up4.trans (Heap.UpToSlots.of_keeps k5)
        cases b with
        | true =>
          refine codeAny_handlers_suite_as ?_
          refine HandSPX.lands_againZ fl5 fun h6 fl6 up6 => ?_
          obtain ⟨oe6, vs6, he6, hz6, hd6⟩ := fl6.there
          obtain ⟨C, dd, rfl, rfl, q⟩ := hyes rfl a na
          have J6 : Inv X pins σ' (upd H' a (EV a C dd)) { s' with heap := h6 } := landedEV J hex nb fl6.1 (up5.trans up6) os ag hBa nfr na he6 hz6.1 hz6.2 hd6
          refine store_ok (X := X.suite a (X.pn ++ pins)) (v := .ref a) (toSuite J6 a) hN hi (.inl hln) rfl (fun s7 S7 => ?_) (.inr hln)
          refine wpAny_mono ((hsu a (X.pn ++ pins)).run [] s7 _ _ _ S7 q) (fun f s8 hsp => ?_) (fun _ _ z => False.elim z)
          cases f with
          | next =>
            obtain ⟨σ6, H6, S6, q6⟩ := hsp
            exact end_ hi hln S6 fun s7 J7 => ⟨_, _, J7, q6⟩
          | brk =>
            obtain ⟨σ6, H6, S6, q6⟩ := hsp
            exact end_ hi hln S6 fun s7 J7 => ⟨_, _, J7, q6⟩
          | cont =>
            obtain ⟨σ6, H6, S6, q6⟩ := hsp
            exact end_ hi hln S6 fun s7 J7 => ⟨_, _, J7, q6⟩
          | ret u =>
            obtain ⟨v6, σ6, H6, S6, r6, q6⟩ := hsp
            exact end_ hi hln S6 fun s7 J7 => ⟨_, _, _, J7, r6, q6⟩
        | false =>
          show wpAny _ X.A (handleBy (.ref a) X.env hds2) _ _ _
          exact ih h5 fl5 up5 (hno rfl)
      | @only t c ts b₀ suite pos' hds2 l2 ht hsu r ih =>
        intro h4 fl4 up4 w
        obtain ⟨b, hb1, hyes, hno⟩ := w
        refine wpAny_handleBy_cons (codeAny_handlers_test ?_) (by intro q; cases q)
        have J4 : Inv X pins σ' H' { s' with heap := h4 } := J.landed nb fl4.1 up4 os ag
        obtain ⟨oe4, vs4, he4, hz4, hd4⟩ := fl4.there
        have LT : PySem.W.Looks (model X.prog X.w) h4 (typeOf (.ref a)) cls := fun A Q E s k q => wpAny_typeOf_ref (k _ _ he4) (by rw [hz4.1]; exact q)
        refine tst_ok ht J4 LT hb1 fun h5 k5 => ?_
        have fl5 := flying_keep fl4 k5
        have up5 : sI.heap.UpToSlots h5 := up4.trans (Heap.UpToSlots.of_keeps k5)
        cases b with
        | true =>
          refine codeAny_handlers_suite ?_
          refine HandSPX.lands_againZ fl5 fun h6 fl6 up6 => ?_
          obtain ⟨oe6, vs6, he6, hz6, hd6⟩ := fl6.there
          obtain ⟨C, dd, rfl, rfl, q⟩ := hyes rfl a na
          have J6 : Inv X pins σ' (upd H' a (EV a C dd)) { s' with heap := h6 } := landedEV J hex nb fl6.1 (up5.trans up6) os ag hBa nfr na he6 hz6.1 hz6.2 hd6
          refine wpAny_mono ((hsu a (X.pn ++ pins)).run [] _ _ _ _ (toSuite J6 a) q) (fun f s8 hsp => ?_) (fun _ _ z => False.elim z)
          cases f with
          | next =>
            obtain ⟨σ6, H6, S6, q6⟩ := hsp
            exact ⟨_, _, unSuite S6 ok, q6⟩
          | brk =>
            obtain ⟨σ6, H6, S6, q6⟩ := hsp
            exact ⟨_, _, unSuite S6 ok, q6⟩
          | cont =>
            obtain ⟨σ6, H6, S6, q6⟩ := hsp
            exact ⟨_, _, unSuite S6 ok, q6⟩
          | ret u =>
            obtain ⟨v6, σ6, H6, S6, r6, q6⟩ := hsp
            exact ⟨_, _, _, unSuite S6 ok, r6, q6⟩
        | false =>
          show wpAny _ X.A (handleBy (.ref a) X.env hds2) _ _ _
          exact ih h5 fl5 up5 (hno rfl)
    exact go hh h3 fl3 (up.trans up3) w
  · cases f with
    | next =>
      obtain ⟨σ', H', J', q⟩ := hsp
      exact wpAny_execs_nil ⟨σ', H', J'.ofTry ok, q⟩
    | brk =>
      obtain ⟨σ', H', J', q⟩ := hsp
      exact ⟨σ', H', J'.ofTry ok, q⟩
    | cont =>
      obtain ⟨σ', H', J', q⟩ := hsp
      exact ⟨σ', H', J'.ofTry ok, q⟩
    | ret u =>
      obtain ⟨v, σ', H', J', r, q⟩ := hsp
      exact ⟨v, σ', H', J'.ofTry ok, r, q⟩
end
end DV
end
section
/-! Values as trees, a small language for the defs of the program, its evaluator. -/
set_option Elab.async false
set_option linter.all false
namespace DV
open PySem

/-- a value as a tree; `loc` a cell of the store (a list, a dict, an instance that is still changed) -/
inductive D where
  | non | bl (b : Bool) | int (i : Int) | str (x : Str)
  | tup (ds : List D) | ctup (ds : List D) | lst (ds : List D) | dct (t : Bool) (kvs : List (D × D))
  | ins (c : Nat) (fs : List (Nat × D)) | exo (c : Nat) (fs : List (Nat × D))
  | fn (f : Nat) | loc (n : Nat) | scr (ns : List Int)
  deriving Inhabited

mutual
def D.same : D → D → Bool
  | .non, .non => true
  | .bl a, .bl b => a == b
  | .int a, .int b => a == b
  | .str a, .str b => a == b
  | .tup a, .tup b => sames a b
  | .ctup a, .ctup b => sames a b
  | .lst a, .lst b => sames a b
  | .dct t a, .dct u b => t == u && sameKs a b
  | .ins c a, .ins d b => c == d && sameFs a b
  | .exo c a, .exo d b => c == d && sameFs a b
  | .fn a, .fn b => a == b
  | .loc a, .loc b => a == b
  | .scr a, .scr b => a == b
  | _, _ => false
def sames : List D → List D → Bool
  | [], [] => true
  | a :: l, b :: r => a.same b && sames l r
  | _, _ => false
def sameKs : List (D × D) → List (D × D) → Bool
  | [], [] => true
  | (k, a) :: l, (j, b) :: r => k.same j && a.same b && sameKs l r
  | _, _ => false
def sameFs : List (Nat × D) → List (Nat × D) → Bool
  | [], [] => true
  | (k, a) :: l, (j, b) :: r => k == j && a.same b && sameFs l r
  | _, _ => false
end

inductive Cell where
  | lst (ds : List D) | dct (t : Bool) (kvs : List (D × D)) | ins (c : Nat) (fs : List (Nat × D)) | lck (t : Bool) (kvs : List (D × D))
  deriving Inhabited
abbrev Store := List Cell
abbrev Env := List (Option D)

inductive Res (α : Type) where
  | ok (a : α) (S : Store)
  | exc (c : Nat) (fs : List (Nat × D)) (S : Store)
  | bad
def Res.bind {α β : Type} (r : Res α) (f : α → Store → Res β) : Res β :=
  match r with
  | .ok a S => f a S
  | .exc c fs S => .exc c fs S
  | .bad => .bad
def ofO {α : Type} (o : Option α) (S : Store) : Res α :=
  match o with
  | some a => .ok a S
  | none => .bad

/-! ### the language -/
inductive BO where | add | sub | mul | mod | fdiv | pow | or | and | shr
  deriving DecidableEq
inductive CO where | eq | ne | lt | le | gt | ge | isN | notN | isT | isin | notin
  deriving DecidableEq
inductive Ty where | int | str | bool | lst | tup | dct | cls (c : Nat) | xcl (c : Nat) | vErr
  deriving DecidableEq
inductive BF where | len | int | str | abs | max2 | min2 | max | min | sum | all | any | list | tuple | dict | sorted | repr
  deriving DecidableEq
inductive BM where | append | extend | get | join | split | pop | remove | insert | index | count | partition | clear
  deriving DecidableEq
inductive IT where | nm (i : Nat) | tp (ts : List IT)

inductive IE where
  | var (i : Nat) | cst (d : D) | gc (g : Nat) | gf (f : Nat)
  | star (e : IE)
  | tup (es : List IE) | lst (m : Bool) (es : List IE) | dct (m t : Bool) (ks vs : List IE)
  | bin (op : BO) (a b : IE) | neg (a : IE) | not (a : IE)
  | cmp (op : CO) (a b : IE) | chn (op op' : CO) (a b c : IE)
  | and (a b : IE) | or (a b : IE) | ite (c a b : IE)
  | fld (a : IE) (f : Nat) | ix (a i : IE) | sl (a : IE) (lo hi : List IE) | rev (a : IE)
  | call (f : Nat) (as : List IE) | callv (i : Nat) (as : List IE)
  | meth (m : Nat) (o : IE) (as : List IE) | bm (m : BM) (o : IE) (as : List IE)
  | mk (c : Nat) (m : Bool) (as : List IE) | xmk (c : Nat) (a : IE) | b (f : BF) (as : List IE) | isi (a : IE) (ts : List Ty)
  | rng (as : List IE) | enm (a : IE) | zip (as : List IE) | items (a : IE) | vals (a : IE) | keys (i : Nat) | it (a : IE)
  | lc (m : Bool) (vs : List Nat) (tg : IT) (it : IE) (cs : List IE) (e : IE)
  | lc2 (m : Bool) (vs : List Nat) (tg : IT) (it : IE) (tg' : IT) (it' : IE) (e : IE)
  | dc (m t : Bool) (vs : List Nat) (tg : IT) (it : IE) (cs : List IE) (k e : IE)
  | fs (es : List IE)
  | no

/-- what a statement stores to -/
inductive ST where
  | nm (i : Nat) | tp (ts : List ST) | ix (o i : IE) | fd (o : IE) (f : Nat)
inductive IS where
  | asg (t : ST) (e : IE) | ex (e : IE)
  | ite (c : IE) (a b : List IS)
  | loop (t : IT) (it : IE) (body : List IS) | whl (c : IE) (body : List IS)
  | ret (e : IE) | rse (c : Nat) (e : IE)
  | try_ (body : List IS) (hs : List (List Nat × Option Nat × List IS))
  | mtch (e : IE) (cs : List (Option Str × List IS))
  | pass | brk | cnt | no

structure DefI where
  np : Nat
  ns : Nat
  dfl : List D
  keep : Bool
  body : List IS
structure ClsI where
  init : Option Nat
  meths : List (Nat × Nat)
  eqm : Option Nat
  sup : List Nat
  fld : Option Nat
  ve : Bool := false
structure Prog where
  defs : List DefI
  cls : List ClsI
  consts : List D
  /-- the method ids of __call__, __le__, __rshift__, __or__, __and__, __len__ -/
  ops : Nat → Option Nat

/-! ### views -/
/-- a list of the law's own making -/
def seqX (S : Store) : D → Option (List D)
  | .lst ds => some ds
  | .loc n => match S[n]? with
    | some (.lst ds) => some ds
    | _ => none
  | _ => none
/-- .. or the script -/
def seqV (S : Store) : D → Option (List D)
  | .scr ns => some (ns.map D.int)
  | d => seqX S d
def dctV (S : Store) : D → Option (Bool × List (D × D))
  | .dct t kvs => some (t, kvs)
  | .loc n => match S[n]? with
    | some (.dct t kvs) => some (t, kvs)
    | some (.lck t kvs) => some (t, kvs)
    | _ => none
  | _ => none
def insV (S : Store) : D → Option (Nat × List (Nat × D))
  | .ins c fs => some (c, fs)
  | .loc n => match S[n]? with
    | some (.ins c fs) => some (c, fs)
    | _ => none
  | _ => none
/-- the fields of an instance, of an exception -/
def fldV (S : Store) : D → Option (List (Nat × D))
  | .exo _ fs => some fs
  | d => (insV S d).map (·.2)
/-- a list or a tuple -/
def anyV (S : Store) : D → Option (List D)
  | .tup ds => some ds
  | .ctup ds => some ds
  | d => seqV S d
def look {α : Type} (f : Nat) : List (Nat × α) → Option α
  | [] => none
  | (g, a) :: r => if g == f then some a else look f r
def lim : Nat := 1000000
def okLen {α : Type} (l : List α) : Bool := l.length ≤ lim
def truD (S : Store) : D → Option Bool
  | .non => some false
  | .bl b => some b
  | .int i => some (i != 0)
  | .str x => if x.length ≤ lim then some (x.length != 0) else none
  | .tup ds => some (!ds.isEmpty)
  | .ctup ds => some (!ds.isEmpty)
  | d => match seqV S d with
    | some ds => some (!ds.isEmpty)
    | none => none
def putF (f : Nat) (v : D) : List (Nat × D) → List (Nat × D)
  | [] => [(f, v)]
  | (g, a) :: r => if g == f then (g, v) :: r else (g, a) :: putF f v r
def wipeE (E : Env) : List Nat → Env
  | [] => E
  | v :: vs => (wipeE E vs).set v none
/-- keys: ints and texts; tuples of them -/
def isKey0 : D → Bool
  | .int _ => true
  | .str _ => true
  | _ => false
def isKey (t : Bool) : D → Bool
  | .tup ds => t && ds.all isKey0
  | d => !t && isKey0 d
def dget (k : D) : List (D × D) → Option D
  | [] => none
  | (j, a) :: r => if j.same k then some a else dget k r
def dput (k v : D) (kvs : List (D × D)) : List (D × D) :=
  if kvs.any fun p => p.1.same k then kvs.map fun p => if p.1.same k then (p.1, v) else p else kvs ++ [(k, v)]

structure Ctx where
  P : Prog
  call : Nat → List D → Store → Res D
  wf : Nat

/-! ### == -/
mutual
/-- plain data -/
def pd : D → Option PyData
  | .non => some .none
  | .bl b => some (.bool b)
  | .int i => some (.int i)
  | .str x => some (.str x)
  | .tup ds => (pds ds).map .tuple
  | .ctup ds => (pds ds).map .tuple
  | .lst ds => (pds ds).map .list
  | .scr ns => some (.list (ns.map .int))
  | _ => none
def pds : List D → Option (List PyData)
  | [] => some []
  | d :: r => match pd d, pds r with
    | some a, some l => some (a :: l)
    | _, _ => none
end
/-- .. or a cell of plain data -/
def pdS (S : Store) : D → Option PyData
  | .loc n => match S[n]? with
    | some (.lst ds) => (pds ds).map .list
    | _ => none
  | d => pd d
def Cell.same : Cell → Cell → Bool
  | .lst a, .lst b => sames a b
  | .dct t a, .dct u b => t == u && sameKs a b
  | .lck t a, .lck u b => t == u && sameKs a b
  | .ins c a, .ins d b => c == d && sameFs a b
  | _, _ => false
def sameSt : Store → Store → Bool
  | [], [] => true
  | a :: l, b :: r => a.same b && sameSt l r
  | _, _ => false
def eqmOf (P : Prog) (c : Nat) : Option Nat := (P.cls[c]?).bind (·.eqm)
mutual
/-- surely equal; n: how deep it may go -/
def eqT (C : Ctx) (S : Store) : Nat → D → D → Bool
  | n, .tup a, y => match n, y with
    | n + 1, .tup b => eqTs C S n a b
    | _, _ => false
  | n, .lst a, y => match n, y with
    | n + 1, .lst b => eqTs C S n a b
    | _, _ => false
  | _, .ins c fs, y => match y, eqmOf C.P c with
    | .ins d gs, some m => match C.call m [.ins c fs, .ins d gs] S with
      | .ok (.bl true) S' => c == d && sameSt S S'
      | _ => false
    | _, _ => false
  | _, x, y => match pd x, pd y with
    | some a, some b => SeqAt.shaped a && SeqAt.shaped b && PyData.eqv a b
    | _, _ => false
def eqTs (C : Ctx) (S : Store) : Nat → List D → List D → Bool
  | _, [], r => r.isEmpty
  | n, a :: l, r => match r with
    | b :: r => eqT C S n a b && eqTs C S n l r
    | [] => false
end
/-- an operator that an own class defines (k: its place in ops); both of this class -/
def insOp2 (C : Ctx) (S : Store) (m : Nat → Option Nat) (x y : D) : Res D :=
  match insV S x, insV S y with
  | some (c, _), some (d, _) => if c == d then (match m c with
    | some f => C.call f [x, y] S
    | none => .bad) else .bad
  | _, _ => .bad
/-- x == y, known at once -/
def eqD (C : Ctx) (S : Store) (x y : D) : Option Bool :=
  match pdS S x, pdS S y with
  | some a, some b => if SeqAt.shaped a && SeqAt.shaped b then some (PyData.eqv a b) else none
  | _, _ => match x, y with
    | .tup a, .tup b => if eqTs C S 3 a b then some true else none
    | x, y => match seqX S x, seqX S y with
      | some a, some b => if a.length != b.length then some false else none
      | _, _ => none

/-! ### operations -/
def lexI : List Int → List Int → Bool
  | [], [] => false
  | [], _ :: _ => true
  | _ :: _, [] => false
  | a :: l, b :: r => if a == b then lexI l r else a < b
def ltS (a b : Str) : Bool := a.cps.toList < b.cps.toList
def methOf (P : Prog) (c m : Nat) : Option Nat := (P.cls[c]?).bind fun k => look m k.meths
/-- an operator that an own class defines (k: its place in ops) -/
def opOf (P : Prog) (k c : Nat) : Option Nat := (P.ops k).bind (methOf P c)
def insOp (C : Ctx) (S : Store) (k : Nat) (x : D) (as : List D) : Res D :=
  match insV S x with
  | some (c, _) => match opOf C.P k c with
    | some f => C.call f (x :: as) S
    | none => .bad
  | none => .bad
def addD (S : Store) : D → D → Res D
  | .int i, .int j => .ok (.int (i + j)) S
  | .str a, .str b => if a.length + b.length ≤ lim then .ok (.str (a ++ b)) S else .bad
  | .tup a, .tup b => if a.length + b.length ≤ lim then .ok (.tup (a ++ b)) S else .bad
  | x, y => match seqX S x, seqX S y with
    | some a, some b => if a.length + b.length ≤ lim then .ok (.lst (a ++ b)) S else .bad
    | _, _ => .bad
def mulD (S : Store) : D → D → Res D
  | .int i, .int j => if (-(2 ^ 64) < i ∧ i < 2 ^ 64) ∨ (-(2 ^ 64) < j ∧ j < 2 ^ 64) then .ok (.int (i * j)) S else .bad
  | .str a, .int j => if 2 ≤ j ∧ j ≤ 1000 ∧ 1 ≤ a.length ∧ a.length ≤ 1000 then .ok (.str ⟨(List.replicate j.toNat a.cps).foldl (· ++ ·) #[]⟩) S else .bad
  | x, .int j => match seqX S x with
    | some a => if j.natAbs ≤ 1000 ∧ a.length ≤ 1000 then .ok (.lst (List.replicate j.toNat a).flatten) S else .bad
    | none => .bad
  | _, _ => .bad
def binD (C : Ctx) (S : Store) (op : BO) (x y : D) : Res D :=
  match op with
  | .add => addD S x y
  | .mul => mulD S x y
  | .sub => match x, y with
    | .int i, .int j => .ok (.int (i - j)) S
    | _, _ => .bad
  | .mod => match x, y with
    | .int i, .int j => if 0 < j then .ok (.int (i % j)) S else .bad
    | _, _ => .bad
  | .fdiv => match x, y with
    | .int i, .int j => if 0 < j ∧ j < 1073741824 then .ok (.int (i / j)) S else .bad
    | _, _ => .bad
  | .pow => match x, y with
    | .int i, .int j => if 0 ≤ j ∧ j ≤ 1000000 ∧ i.natAbs < 2 ^ 64 then .ok (.int (i ^ j.toNat)) S else .bad
    | _, _ => .bad
  | .or => insOp2 C S (opOf C.P 3) x y
  | .and => insOp2 C S (opOf C.P 4) x y
  | .shr => insOp2 C S (opOf C.P 2) x y
def subStr (b a : Str) : Bool := !(Builtin.Str.occurrences b a 0 b.length 1).isEmpty
def isinD (S : Store) (x y : D) : Option Bool :=
  match y with
  | .str b => match x with
    | .str a => some (subStr b a)
    | _ => none
  | _ => match pdS S x, pdS S y with
    | some d, some (.list ds) => if SeqAt.shaped d && SeqAt.shaped (.list ds) then some (ds.any fun z => PyData.eqv z d) else none
    | some d, some (.tuple ds) => if SeqAt.shaped d && SeqAt.shaped (.tuple ds) then some (ds.any fun z => PyData.eqv z d) else none
    | _, _ => match dctV S y with
      | some (t, kvs) => if isKey t x then some (dget x kvs).isSome else none
      | none => none
def isNonD : D → Bool
  | .non => true
  | _ => false
def cmpD (C : Ctx) (S : Store) (op : CO) (x y : D) : Res D :=
  match op with
  | .eq => match eqD C S x y with
    | some b => .ok (.bl b) S
    | none => insOp2 C S (eqmOf C.P) x y
  | .ne => match eqD C S x y with
    | some b => .ok (.bl (!b)) S
    | none => .bad
  | .lt => match x, y with
    | .int i, .int j => .ok (.bl (decide (i < j))) S
    | .str a, .str b => .ok (.bl (ltS a b)) S
    | _, _ => .bad
  | .le => match x, y with
    | .int i, .int j => .ok (.bl (decide (i ≤ j))) S
    | x, y => insOp2 C S (opOf C.P 1) x y
  | .gt => match x, y with
    | .int i, .int j => .ok (.bl (decide (j < i))) S
    | _, _ => .bad
  | .ge => match x, y with
    | .int i, .int j => .ok (.bl (decide (j ≤ i))) S
    | _, _ => .bad
  | .isN => match y with
    | .non => .ok (.bl (isNonD x)) S
    | _ => .bad
  | .notN => match y with
    | .non => .ok (.bl (!isNonD x)) S
    | _ => .bad
  | .isT => match x, y with
    | .bl a, .bl b => .ok (.bl (a == b)) S
    | _, _ => .bad
  | .isin => match isinD S x y with
    | some b => .ok (.bl b) S
    | none => .bad
  | .notin => match isinD S x y with
    | some b => .ok (.bl (!b)) S
    | none => .bad
def ixD (S : Store) (x i : D) : Res D :=
  match x, i with
  | .str a, .int j => if a.length ≤ lim then (match L2.atI a.cps.toList j with
    | some c => .ok (.str ⟨#[c]⟩) S
    | none => .bad) else .bad
  | x, .int j => match anyV S x with
    | some ds => match L2.atI ds j with
      | some d => .ok d S
      | none => .bad
    | none => match dctV S x with
      | some (t, kvs) => if isKey t i then ofO (dget i kvs) S else .bad
      | none => .bad
  | x, i => match dctV S x with
    | some (t, kvs) => if isKey t i then ofO (dget i kvs) S else .bad
    | none => .bad
def cutD {α : Type} (xs : List α) (lo hi : Option Int) : List α := (xs.drop (HT.sIx xs.length 0 lo)).take (HT.sIx xs.length xs.length hi - HT.sIx xs.length 0 lo)
def partD : List D → Option (Option Int)
  | [] => some none
  | [.int i] => some (some i)
  | _ => none
def slD (S : Store) (x : D) (lo hi : Option Int) : Res D :=
  match x with
  | .tup ds => .ok (.tup (cutD ds lo hi)) S
  | .str a => if a.length ≤ lim then .ok (.str ⟨(cutD a.cps.toList lo hi).toArray⟩) S else .bad
  | x => match seqV S x with
    | some ds => .ok (.lst (cutD ds lo hi)) S
    | none => .bad
def intsD : List D → Option (List Int)
  | [] => some []
  | .int i :: r => (intsD r).map (i :: ·)
  | _ => none
def strsD : List D → Option (List Str)
  | [] => some []
  | .str i :: r => (strsD r).map (i :: ·)
  | _ => none
/-- what kind a value is of (none within: None's) -/
def kindD (S : Store) (d : D) : Option (Option Ty) := match d with
  | .non => some none
  | .bl _ => some (some .bool)
  | .int _ => some (some .int)
  | .str _ => some (some .str)
  | .tup _ => some (some .tup)
  | .ctup _ => some (some .tup)
  | .exo c _ => some (some (.xcl c))
  | d => match seqV S d with
    | some _ => some (some .lst)
    | none => match insV S d with
      | some (c, _) => some (some (.cls c))
      | none => none
def isT (P : Prog) : Option Ty → Ty → Bool
  | none, _ => false
  | some .bool, .int => true
  | some (.cls c), .cls e => match P.cls[c]? with
    | some q => q.sup.contains e
    | none => false
  | some (.xcl c), .xcl e => match P.cls[c]? with
    | some q => q.sup.contains e
    | none => false
  | some (.xcl c), .vErr => match P.cls[c]? with
    | some q => q.ve
    | none => false
  | some a, b => decide (a = b)
/-- an exception's class is asked for alone -/
def isiOk : Option Ty → List Ty → Bool
  | some (.xcl _), ts => ts.length == 1
  | _, _ => true
def blsD : List D → Option (List Bool)
  | [] => some []
  | .bl i :: r => (blsD r).map (i :: ·)
  | _ => none
def digs (i : Int) : Str := Str.ofString (toString i)
def dictOf (t : Bool) : List D → List (D × D) → Option (List (D × D))
  | [], acc => some acc
  | .tup [k, v] :: r, acc => if isKey t k then dictOf t r (dput k v acc) else none
  | _, _ => none
def bfD (S : Store) : BF → List D → Res D
  | .len, [d] => match d with
    | .str x => if x.length ≤ lim then .ok (.int x.length) S else .bad
    | d => match anyV S d with
      | some ds => .ok (.int ds.length) S
      | none => match dctV S d with
        | some (t, kvs) => if t then .bad else .ok (.int kvs.length) S
        | none => .bad
  | .int, [d] => match d with
    | .int i => .ok (.int i) S
    | .bl b => .ok (.int (if b then 1 else 0)) S
    | .str x => if x.length ≤ 640 then (match PySem.intText? x with
      | some n => .ok (.int n) S
      | none => .bad) else .bad
    | _ => .bad
  | .str, [d] => match d with
    | .int i => if i.natAbs.log2 < 1920 then .ok (.str (digs i)) S else .bad
    | .str x => .ok (.str x) S
    | _ => .bad
  | .abs, [.int i] => .ok (.int (if i < 0 then -i else i)) S
  | .max2, [.int i, .int j] => .ok (.int (if j > i then j else i)) S
  | .min2, [.int i, .int j] => .ok (.int (if j < i then j else i)) S
  | .sum, [d] => match (seqV S d).bind intsD with
    | some ns => .ok (.int ns.sum) S
    | none => .bad
  | .all, [d] => match (seqV S d).bind blsD with
    | some bs => .ok (.bl (bs.all id)) S
    | none => .bad
  | .any, [d] => match (seqV S d).bind blsD with
    | some bs => .ok (.bl (bs.any id)) S
    | none => .bad
  | .list, [d] => match anyV S d with
    | some ds => .ok (.lst ds) S
    | none => .bad
  | .tuple, [d] => match d with
    | .tup ds => .ok (.tup ds) S
    | .ctup ds => .ok (.ctup ds) S
    | d => match seqV S d with
      | some ds => .ok (.tup ds) S
      | none => .bad
  | .sorted, [d] => match (seqV S d).bind intsD with
    | some ns => .ok (.lst ((ns.mergeSort (· ≤ ·)).map D.int)) S
    | none => .bad
  | .repr, [d] => match pdS S d with
    | some p => if p.showable && !p.hasDict && SeqAt.shaped p && okLen p.shown.cps.toList then .ok (.str p.shown) S else .bad
    | none => .bad
  | _, _ => .bad
/-- the receiver's kind -/
def bmTy (S : Store) (m : BM) (x : D) : Bool := match m with
  | .append => (seqX S x).isSome
  | .extend => (seqX S x).isSome
  | .pop => (seqX S x).isSome
  | .join => match x with | .str _ => true | _ => false
  | .split => match x with | .str _ => true | _ => false
  | _ => false
def bmD (S : Store) : BM → D → List D → Res D
  | .append, .loc n, [d] => match S[n]? with
    | some (.lst ds) => if ds.length < lim then .ok .non (S.set n (.lst (ds ++ [d]))) else .bad
    | _ => .bad
  | .extend, .loc n, [d] => match S[n]?, seqX S d with
    | some (.lst ds), some es => if ds.length + es.length ≤ lim then .ok .non (S.set n (.lst (ds ++ es))) else .bad
    | _, _ => .bad
  | .join, .str a, [d] => match (anyV S d).bind strsD with
    | some l => if (l.map (·.length)).sum + l.length * a.length ≤ lim then .ok (.str (Txt.join a l)) S else .bad
    | none => .bad
  | .split, .str a, [.str b] => if b.length != 0 && decide (a.length ≤ lim) then .ok (.lst ((Txt.split a b).map D.str)) S else .bad
  | _, _, _ => .bad

def asgD (S : Store) : IT → D → Env → Option Env
  | .nm i, d, E => if i < E.length then some (E.set i (some d)) else none
  | .tp ts, d, E => match anyV S d with
    | some ds => go ts ds E
    | none => none
where go : List IT → List D → Env → Option Env
  | [], [], E => some E
  | t :: ts, d :: ds, E => match asgD S t d E with
    | some E' => go ts ds E'
    | none => none
  | _, _, _ => none

/-- what is walked: items; a list that is a cell (as it stands at each turn); a dict that is a cell, locked -/
inductive Src where
  | items (ds : List D) | cell (n k : Nat) | lock (n : Nat) (ds : List D)
/-- the items as they stand -/
def Src.cur (src : Src) (S : Store) : Option (List D) := match src with
  | .items ds => some ds
  | .cell n k => match S[n]? with
    | some (.lst ds) => if ds.length == k then some ds else none
    | _ => none
  | .lock n ks => match S[n]? with
    | some (.lck _ kvs) => if sames (kvs.map (·.1)) ks then some ks else none
    | _ => none
def Src.len : Src → Nat
  | .items ds => ds.length
  | .cell _ k => k
  | .lock _ ks => ks.length
/-- m turns are left, the next is the i-th -/
def foldC {α : Type} (src : Src) (f : D → α → Store → Res α) : Nat → Nat → α → Store → Res α
  | 0, _, acc, S => match src.cur S with
    | some _ => .ok acc S
    | none => .bad
  | m + 1, i, acc, S => match src.cur S with
    | some ds => match ds[i]? with
      | some x => (f x acc S).bind fun acc' S' => foldC src f m (i + 1) acc' S'
      | none => .bad
    | none => .bad
def lockS (n : Nat) (S : Store) : Option Store := match S[n]? with
  | some (.dct t kvs) => some (S.set n (.lck t kvs))
  | _ => none
def unlock (n : Nat) (S : Store) : Option Store := match S[n]? with
  | some (.lck t kvs) => some (S.set n (.dct t kvs))
  | _ => none
def walk {α : Type} (f : D → α → Store → Res α) (src : Src) (acc : α) (S : Store) : Res α :=
  match src with
  | .lock n ks => match lockS n S with
    | some S' => (foldC src f ks.length 0 acc S').bind fun acc' S2 => ofO ((unlock n S2).map fun _ => acc') ((unlock n S2).getD [])
    | none => .bad
  | src => foldC src f src.len 0 acc S
def srcSeq (S : Store) : D → Option Src
  | .tup ds => some (.items ds)
  | .ctup ds => some (.items ds)
  | .lst ds => some (.items ds)
  | .loc n => match S[n]? with
    | some (.lst ds) => some (.cell n ds.length)
    | _ => none
  | .scr ns => some (.items (ns.map D.int))
  | .str z => some (.items (z.cps.toList.map fun c => .str ⟨#[c]⟩))
  | _ => none
def noExc {α : Type} (r : Res α) : Res α := match r with
  | .ok a S => .ok a S
  | _ => .bad
def alloc (c : Cell) (S : Store) : Res D := .ok (.loc S.length) (S ++ [c])

/-! ### cells become trees -/
mutual
def D.under (n : Nat) : D → Bool
  | .loc m => m < n
  | .tup ds => belows n ds
  | .ctup ds => belows n ds
  | .lst ds => belows n ds
  | .dct _ kvs => belowK n kvs
  | .ins _ fs => belowF n fs
  | .exo _ fs => belowF n fs
  | _ => true
def belows (n : Nat) : List D → Bool
  | [] => true
  | d :: r => d.under n && belows n r
def belowK (n : Nat) : List (D × D) → Bool
  | [] => true
  | (k, d) :: r => k.under n && d.under n && belowK n r
def belowF (n : Nat) : List (Nat × D) → Bool
  | [] => true
  | (_, d) :: r => d.under n && belowF n r
end
def Cell.under (n : Nat) : Cell → Bool
  | .lst ds => belows n ds
  | .dct _ kvs => belowK n kvs
  | .ins _ fs => belowF n fs
  | .lck _ kvs => belowK n kvs
mutual
def frz (C : Nat → Option D) (n : Nat) : D → Option D
  | .loc m => if m < n then some (.loc m) else C m
  | .tup ds => (frzs C n ds).map .tup
  | .ctup ds => (frzs C n ds).map .ctup
  | .lst ds => (frzs C n ds).map .lst
  | .dct t kvs => (frzK C n kvs).map (.dct t)
  | .ins c fs => (frzF C n fs).map (.ins c)
  | .exo c fs => (frzF C n fs).map (.exo c)
  | d => some d
def frzs (C : Nat → Option D) (n : Nat) : List D → Option (List D)
  | [] => some []
  | d :: r => match frz C n d, frzs C n r with
    | some a, some b => some (a :: b)
    | _, _ => none
def frzK (C : Nat → Option D) (n : Nat) : List (D × D) → Option (List (D × D))
  | [] => some []
  | (k, d) :: r => match frz C n d, frzK C n r with
    | some a, some b => some ((k, a) :: b)
    | _, _ => none
def frzF (C : Nat → Option D) (n : Nat) : List (Nat × D) → Option (List (Nat × D))
  | [] => some []
  | (k, d) :: r => match frz C n d, frzF C n r with
    | some a, some b => some ((k, a) :: b)
    | _, _ => none
end
/-- the cell at m as a tree, cells below n as they are -/
def frzC (S : Store) (n : Nat) : Nat → Nat → Option D
  | 0, _ => none
  | k + 1, m => match S[m]? with
    | some (.lst ds) => (frzs (frzC S n k) n ds).map .lst
    | some (.dct t kvs) => (frzK (frzC S n k) n kvs).map (.dct t)
    | some (.ins c fs) => (frzF (frzC S n k) n fs).map (.ins c)
    | _ => none
def freeze (n : Nat) (d : D) (S : Store) : Res D :=
  if S.length == n then .ok d S
  else if (S.take n).all (Cell.under n) then ofO (frz (frzC S n 5) n d) (S.take n) else .bad
/-- range -/
def rngR : List D → Option Src
    | [.int n] => if n ≤ lim ∧ -(lim : Int) ≤ n then some (.items ((List.range n.toNat).map fun (i : Nat) => D.int (i : Int))) else none
    | [.int a, .int n] => if a.natAbs ≤ lim ∧ n.natAbs ≤ lim then some (.items ((List.range (n - a).toNat).map fun (i : Nat) => D.int (a + (i : Int)))) else none
    | [.int a, .int n, .int k] => if k ≠ 0 ∧ k.natAbs < 1073741824 ∧ Builtin.Range.small a n k = true ∧ 0 ≤ Builtin.Range.rangeSize a n k then some (.items ((List.range (Builtin.Range.rangeSize a n k).toNat).map fun (i : Nat) => D.int (a + (i : Int) * k))) else none
    | _ => none
/-- what an item of an argument list gives -/
def spread (S : Store) (e : IE) (x : D) : Option (List D) := match e with
  | .star _ => anyV S x
  | _ => some [x]
mutual
def ev (C : Ctx) : IE → Env → Store → Res D
  | .var i, E, S => match E[i]? with
    | some (some d) => .ok d S
    | _ => .bad
  | .cst d, _, S => .ok d S
  | .gc g, _, S => ofO (C.P.consts[g]?) S
  | .gf f, _, S => .ok (.fn f) S
  | .star e, E, S => ev C e E S
  | .tup es, E, S => (evs C es E S).bind fun ds S' => if okLen ds then .ok (.tup ds) S' else .bad
  | .lst m es, E, S => (evs C es E S).bind fun ds S' => if okLen ds then (if m then alloc (.lst ds) S' else .ok (.lst ds) S') else .bad
  | .dct m t ks vs, E, S => (evs C ks E S).bind fun kd S' => (evs C vs E S').bind fun vd S'' =>
      match dictOf t ((kd.zip vd).map fun p => .tup [p.1, p.2]) [] with
      | some kvs => if kvs.length ≤ 15 then (if m then alloc (.dct t kvs) S'' else .ok (.dct t kvs) S'') else .bad
      | none => .bad
  | .bin op a b, E, S => (ev C a E S).bind fun x S' => (ev C b E S').bind fun y S'' => binD C S'' op x y
  | .neg a, E, S => (ev C a E S).bind fun x S' => match x with
    | .int i => .ok (.int (-i)) S'
    | _ => .bad
  | .not a, E, S => (ev C a E S).bind fun x S' => match truD S' x with
    | some b => .ok (.bl (!b)) S'
    | none => .bad
  | .cmp op a b, E, S => (ev C a E S).bind fun x S' => (ev C b E S').bind fun y S'' => cmpD C S'' op x y
  | .chn op op' a b c, E, S => (ev C a E S).bind fun x S' => (ev C b E S').bind fun y S'' => (cmpD C S'' op x y).bind fun z S3 =>
      match z with
      | .bl true => (ev C c E S3).bind fun w S4 => cmpD C S4 op' y w
      | .bl false => .ok (.bl false) S3
      | _ => .bad
  | .and a b, E, S => (ev C a E S).bind fun x S' => match truD S' x with
    | some true => ev C b E S'
    | some false => .ok x S'
    | none => .bad
  | .or a b, E, S => (ev C a E S).bind fun x S' => match truD S' x with
    | some true => .ok x S'
    | some false => ev C b E S'
    | none => .bad
  | .ite c a b, E, S => (ev C c E S).bind fun x S' => match truD S' x with
    | some true => ev C a E S'
    | some false => ev C b E S'
    | none => .bad
  | .fld a f, E, S => (ev C a E S).bind fun x S' => match fldV S' x with
    | some fs => ofO (look f fs) S'
    | none => .bad
  | .ix a i, E, S => (ev C a E S).bind fun x S' => (ev C i E S').bind fun y S'' => ixD S'' x y
  | .sl a lo hi, E, S => (ev C a E S).bind fun x S' => ((evs C lo E S').bind fun l S1 => ofO (partD l) S1).bind fun o S1 =>
      ((evs C hi E S1).bind fun h S2 => ofO (partD h) S2).bind fun u S2 => slD S2 x o u
  | .rev a, E, S => (ev C a E S).bind fun x S' => match seqV S' x with
    | some ds => .ok (.lst ds.reverse) S'
    | none => .bad
  | .call f as, E, S => (evs C as E S).bind fun ds S' => C.call f ds S'
  | .callv i as, E, S => match E[i]? with
    | some (some (.fn f)) => (evs C as E S).bind fun ds S' => C.call f ds S'
    | _ => .bad
  | .meth m o as, E, S => (ev C o E S).bind fun x S' => match insV S' x with
    | some (c, fs) => if (look m fs).isNone then (match methOf C.P c m with
      | some f => (evs C as E S').bind fun ds S'' => C.call f (x :: ds) S''
      | none => .bad) else .bad
    | none => .bad
  | .bm m o as, E, S => (ev C o E S).bind fun x S' => if bmTy S' m x then (evs C as E S').bind fun ds S'' => bmD S'' m x ds else .bad
  | .mk c m as, E, S => (evs C as E S).bind fun ds S' => match (C.P.cls[c]?).bind (·.init) with
    | some f => (C.call f (.loc S'.length :: ds) (S' ++ [.ins c []])).bind fun r S'' => if isNonD r then (if m then .ok (.loc S'.length) S'' else freeze S'.length (.loc S'.length) S'') else .bad
    | none => .bad
  | .xmk c a, E, S => (ev C a E S).bind fun x S' => match (C.P.cls[c]?).bind (·.fld) with
    | some f => .ok (.exo c [(f, x)]) S'
    | none => .bad
  | .b f as, E, S => (evs C as E S).bind fun ds S' => bfD S' f ds
  | .isi a ts, E, S => (ev C a E S).bind fun x S' => match kindD S' x with
    | some kd => if isiOk kd ts then .ok (.bl (ts.any (isT C.P kd))) S' else .bad
    | none => .bad
  | .rng _, _, _ => .bad
  | .enm _, _, _ => .bad
  | .zip _, _, _ => .bad
  | .items _, _, _ => .bad
  | .vals _, _, _ => .bad
  | .keys _, _, _ => .bad
  | .it _, _, _ => .bad
  | .lc m vs tg it cs e, E, S => (evI C it E S).bind fun ds S' =>
      (noExc (walk (fun x acc S1 => match asgD S1 tg x (wipeE E vs) with
        | some E' => (evC C cs E' S1).bind fun b S2 => if b then (ev C e E' S2).bind fun y S3 => if acc.length < lim then .ok (acc ++ [y]) S3 else .bad else .ok acc S2
        | none => .bad) ds [] S')).bind fun acc S'' => if m then alloc (.lst acc) S'' else .ok (.lst acc) S''
  | .lc2 m vs tg it tg' it' e, E, S => (evI C it E S).bind fun ds S' =>
      (noExc (walk (fun x acc S1 => match asgD S1 tg x (wipeE E vs) with
        | some E' => (evI C it' E' S1).bind fun ds2 S2 => walk (fun x2 acc2 S3 => match asgD S3 tg' x2 E' with
          | some E2 => (ev C e E2 S3).bind fun y S4 => if acc2.length < lim then .ok (acc2 ++ [y]) S4 else .bad
          | none => .bad) ds2 acc S2
        | none => .bad) ds [] S')).bind fun acc S'' => if m then alloc (.lst acc) S'' else .ok (.lst acc) S''
  | .dc m t vs tg it cs k e, E, S => (evI C it E S).bind fun ds S' =>
      (noExc (walk (fun x acc S1 => match asgD S1 tg x (wipeE E vs) with
        | some E' => (evC C cs E' S1).bind fun b S2 => if b then (ev C k E' S2).bind fun y S3 => (ev C e E' S3).bind fun z S4 => if acc.length < lim then .ok (acc ++ [.tup [y, z]]) S4 else .bad else .ok acc S2
        | none => .bad) ds [] S')).bind fun acc S'' => match dictOf t acc [] with
          | some kvs => if m then alloc (.dct t kvs) S'' else .ok (.dct t kvs) S''
          | none => .bad
  | .fs es, E, S => (evs C es E S).bind fun ds S' => match ds.mapM (fun d => match d with
      | .str x => some x
      | .int i => some (digs i)
      | _ => none) with
    | some l => .ok (.str (l.foldl (· ++ ·) Str.empty)) S'
    | none => .bad
  | .no, _, _ => .bad
def evs (C : Ctx) : List IE → Env → Store → Res (List D)
  | [], _, S => .ok [] S
  | e :: r, E, S => (ev C e E S).bind fun x S' => match spread S' e x with
    | some ds => (evs C r E S').bind fun rs S'' => .ok (ds ++ rs) S''
    | none => .bad
/-- the tests of a comprehension -/
def evC (C : Ctx) : List IE → Env → Store → Res Bool
  | [], _, S => .ok true S
  | c :: r, E, S => (ev C c E S).bind fun x S' => match truD S' x with
    | some true => evC C r E S'
    | some false => .ok false S'
    | none => .bad
/-- what is walked -/
def evI (C : Ctx) : IE → Env → Store → Res Src
  | .rng as, E, S => (evs C as E S).bind fun ds S' => ofO (rngR ds) S'
  | .enm a, E, S => (ev C a E S).bind fun x S' => match anyV S' x with
    | some ds => .ok (.items (ds.zipIdx.map fun p => .tup [.int p.2, p.1])) S'
    | none => .bad
  | .zip as, E, S => (evs C as E S).bind fun xs S' => match xs with
    | [x, y] => match anyV S' x, anyV S' y with
      | some l, some r => .ok (.items ((l.zip r).map fun p => .tup [p.1, p.2])) S'
      | _, _ => .bad
    | [x, y, z] => match anyV S' x, anyV S' y, anyV S' z with
      | some l, some r, some q => .ok (.items ((l.zip (r.zip q)).map fun p => .tup [p.1, p.2.1, p.2.2])) S'
      | _, _, _ => .bad
    | _ => .bad
  | .items a, E, S => (ev C a E S).bind fun x S' => match dctV S' x with
    | some (_, kvs) => .ok (.items (kvs.map fun p => .tup [p.1, p.2])) S'
    | none => .bad
  | .vals a, E, S => (ev C a E S).bind fun x S' => match dctV S' x with
    | some (_, kvs) => .ok (.items (kvs.map (·.2))) S'
    | none => .bad
  | .keys i, E, S => match E[i]? with
    | some (some (.loc n)) => match S[n]? with
      | some (.dct _ kvs) => .ok (.lock n (kvs.map (·.1))) S
      | _ => .bad
    | _ => .bad
  | .it e, E, S => (ev C e E S).bind fun x S' => ofO (srcSeq S' x) S'
  | _, _, _ => .bad
end

/-! ### statements -/
inductive SRes where
  | nx (E : Env) (S : Store) | ret (d : D) (S : Store) | brk (E : Env) (S : Store) | cnt (E : Env) (S : Store)
  | exc (c : Nat) (fs : List (Nat × D)) (E : Env) (S : Store) | bad
/-- an expression ahead of the rest of a statement -/
def toS (E : Env) (r : Res D) (f : D → Store → SRes) : SRes :=
  match r with
  | .ok a S => f a S
  | .exc c fs S => .exc c fs E S
  | .bad => .bad
def SRes.seq (r : SRes) (f : Env → Store → SRes) : SRes :=
  match r with
  | .nx E S => f E S
  | r => r
/-- a loop's turns -/
def loopC (src : Src) (t : IT) (body : Env → Store → SRes) : Nat → Nat → Env → Store → SRes
  | 0, _, E, S => match src.cur S with
    | some _ => .nx E S
    | none => .bad
  | m + 1, i, E, S => match src.cur S with
    | some ds => match ds[i]? with
      | some x => match asgD S t x E with
        | some E' => match body E' S with
          | .nx E2 S2 => loopC src t body m (i + 1) E2 S2
          | .cnt E2 S2 => loopC src t body m (i + 1) E2 S2
          | .brk E2 S2 => .nx E2 S2
          | q => q
        | none => .bad
      | none => .bad
    | none => .bad
def SRes.unlock (n : Nat) : SRes → SRes
  | .nx E S => match DV.unlock n S with
    | some S' => .nx E S'
    | none => .bad
  | .ret d S => match DV.unlock n S with
    | some S' => .ret d S'
    | none => .bad
  | _ => .bad
/-- nothing is raised -/
def SRes.calm : SRes → SRes
  | .exc _ _ _ _ => .bad
  | r => r
/-- nothing is called -/
def Ctx.quiet (C : Ctx) : Ctx := { C with call := fun _ _ _ => .bad }
/-- behind an except clause: its name is no more -/
def SRes.unset (j : Nat) : SRes → SRes
  | .nx E S => .nx (E.set j none) S
  | .ret d S => .ret d S
  | .brk E S => .brk (E.set j none) S
  | .cnt E S => .cnt (E.set j none) S
  | .exc c fs E S => .exc c fs (E.set j none) S
  | .bad => .bad
def walkS (t : IT) (body : Env → Store → SRes) (src : Src) (E : Env) (S : Store) : SRes :=
  match src with
  | .lock n ks => match lockS n S with
    | some S' => (loopC src t body ks.length 0 E S').unlock n
    | none => .bad
  | src => loopC src t body src.len 0 E S
def whileR (test : Env → Store → Res Bool) (body : Env → Store → SRes) : Nat → Env → Store → SRes
  | 0, _, _ => .bad
  | m + 1, E, S => match test E S with
    | .ok true S1 => match body E S1 with
      | .nx E2 S2 => whileR test body m E2 S2
      | .cnt E2 S2 => whileR test body m E2 S2
      | .brk E2 S2 => .nx E2 S2
      | q => q
    | .ok false S1 => .nx E S1
    | .exc c fs S1 => .exc c fs E S1
    | .bad => .bad
def findM (x : Str) : List (Option Str × List IS) → Option (List IS)
  | [] => some []
  | (none, b) :: _ => some b
  | (some y, b) :: r => if x == y then some b else findM x r

def ixS (x k d : D) (E : Env) (S : Store) : SRes := match x with
      | .loc n => match S[n]? with
        | some (.lst ds) => match k with
          | .int j => match L2.ixN ds.length j with
            | some p => .nx E (S.set n (.lst (ds.set p d)))
            | none => .bad
          | _ => .bad
        | some (.dct t kvs) => if isKey t k && okLen kvs && decide (kvs.length < lim) then .nx E (S.set n (.dct t (dput k d kvs))) else .bad
        | _ => .bad
      | _ => .bad
def fdS (f : Nat) (x d : D) (E : Env) (S : Store) : SRes := match x with
      | .loc n => match S[n]? with
        | some (.ins c fs) => if fs.length < 1000 then .nx E (S.set n (.ins c (putF f d fs))) else .bad
        | _ => .bad
      | _ => .bad
def nmS (i : Nat) (d : D) (E : Env) (S : Store) : SRes := if i < E.length then .nx (E.set i (some d)) S else .bad
def tpS (n : Nat) (f : List D → Env → Store → SRes) (d : D) (E : Env) (S : Store) : SRes := match anyV S d with
  | some ds => if ds.length == n then f ds E S else .bad
  | none => .bad
mutual
def asgS (C : Ctx) : ST → D → Env → Store → SRes
  | .nm i, d, E, S => nmS i d E S
  | .tp ts, d, E, S => tpS ts.length (asgSs C ts) d E S
  | .ix o i, d, E, S => toS E (ev C o E S) fun x S2 => toS E (ev C i E S2) fun k S3 => ixS x k d E S3
  | .fd o f, d, E, S => toS E (ev C o E S) fun x S2 => fdS f x d E S2
def asgSs (C : Ctx) : List ST → List D → Env → Store → SRes
  | [], ds, E, S => match ds with
    | [] => .nx E S
    | _ => .bad
  | t :: ts, ds, E, S => match ds with
    | d :: ds => (asgS C t d E S).seq fun E' S' => asgSs C ts ds E' S'
    | [] => .bad
end
mutual
def exec (C : Ctx) : IS → Env → Store → SRes
  | .asg t e, E, S => toS E (ev C e E S) fun d S' => asgS C t d E S'
  | .ex e, E, S => toS E (ev C e E S) fun _ S' => .nx E S'
  | .ite c a b, E, S => toS E (ev C c E S) fun x S' => match truD S' x with
    | some true => execs C a E S'
    | some false => execs C b E S'
    | none => .bad
  | .loop t it body, E, S => match evI C it E S with
    | .ok src S' => walkS t (execs C body) src E S'
    | .exc c fs S' => .exc c fs E S'
    | .bad => .bad
  | .whl c body, E, S => whileR (fun E S => (ev C c E S).bind fun x S' => ofO (truD S' x) S') (execs C body) C.wf E S
  | .ret e, E, S => toS E (ev C e E S) .ret
  | .rse c e, E, S => toS E (ev C e E S) fun d S' => match (C.P.cls[c]?).bind (·.fld) with
    | some f => .exc c [(f, d)] E S'
    | none => .bad
  | .try_ body hs, E, S => match execs C body E S with
    | .exc c fs E' S' => execsH C hs c fs E' S'
    | r => r
  | .mtch e cs, E, S => toS E (ev C e E S) fun x S' => match x with
    | .str z => execsM C cs z E S'
    | _ => .bad
  | .pass, E, S => .nx E S
  | .brk, E, S => .brk E S
  | .cnt, E, S => .cnt E S
  | .no, _, _ => .bad
def execs (C : Ctx) : List IS → Env → Store → SRes
  | [], E, S => .nx E S
  | s :: r, E, S => (exec C s E S).seq (execs C r)
def execsH (C : Ctx) : List (List Nat × Option Nat × List IS) → Nat → List (Nat × D) → Env → Store → SRes
  | [], c, fs, E, S => .exc c fs E S
  | (cs, i, b) :: r, c, fs, E, S => match C.P.cls[c]? with
    | some q => if cs.any fun k => q.sup.contains k then (match i with
      | none => (execs C.quiet b E S).calm
      | some j => if j < E.length then ((execs C.quiet b (E.set j (some (.exo c fs))) S).calm).unset j else .bad) else execsH C r c fs E S
    | none => .bad
def execsM (C : Ctx) : List (Option Str × List IS) → Str → Env → Store → SRes
  | [], _, E, S => .nx E S
  | (none, b) :: _, _, E, S => execs C b E S
  | (some y, b) :: r, x, E, S => if x == y then execs C b E S else execsM C r x E S
end

def leave (keep : Bool) (n : Nat) (r : SRes) : Res D :=
  match r with
  | .ret d S => if keep then .ok d S else freeze n d S
  | .nx _ S => if keep then .ok .non S else freeze n .non S
  | .exc c fs _ S => if keep then .exc c fs S else if S.length == n then .exc c fs S
      else if (S.take n).all (Cell.under n) then match frzF (frzC S n 5) n fs with
        | some fs' => .exc c fs' (S.take n)
        | none => .bad
      else .bad
  | _ => .bad
def run (P : Prog) (wf : Nat) : Nat → Nat → List D → Store → Res D
  | 0, _, _, _ => .bad
  | n + 1, f, as, S => match P.defs[f]? with
    | some d =>
      if as.length == d.np then
        leave d.keep S.length (execs ⟨P, run P wf n, wf⟩ d.body (as.map some ++ List.replicate (d.ns - d.np) none) S)
      else .bad
    | none => .bad
end DV
end
section
/-! What a tree stands for in the heap; what is wanted behind an expression, a block. -/
set_option Elab.async false
set_option linter.all false
set_option maxRecDepth 100000
namespace DV
open PySem L2

/-- where the classes and defs stand; the names of fields and methods -/
structure Tab where
  K : PySem.W.Frag
  fa : Nat → Option Addr
  ca : Nat → Option Addr
  /-- classes of exceptions -/
  xa : Nat → Option Addr
  nm : Nat → Str
  /-- the script's address, where it is none of the module's own -/
  sc : Option Addr := none

def isD : HO → Bool
  | .dK _ => true
  | .dT _ => true
  | _ => false
def isDy : HO → Bool
  | .frz _ u => isD u
  | u => isD u
/-- what is known stays; a dict may be locked or unlocked -/
structure Gle (G G' : Hp) : Prop where
  st : ∀ a u, isDy u = false → G a = some u → G' a = some u
  dc : ∀ a u, isD u = true → Rd G a u → Rd G' a u
theorem Gle.refl (G : Hp) : Gle G G := ⟨fun _ _ _ h => h, fun _ _ _ h => h⟩
theorem Gle.trans {G G1 G2 : Hp} (a : Gle G G1) (b : Gle G1 G2) : Gle G G2 := ⟨fun x u d h => b.st x u d (a.st x u d h), fun x u d h => b.dc x u d (a.dc x u d h)⟩
theorem Gle.of {G G' : Hp} (h : ∀ a u, G a = some u → G' a = some u) : Gle G G' :=
  ⟨fun a u _ e => h a u e, fun a u _ e => e.elim (fun q => .inl (h a _ q)) fun ⟨o, q⟩ => .inr ⟨o, h a _ q⟩⟩
/-- what is known is there -/
theorem Gle.there {G G' : Hp} (g : Gle G G') {a : Addr} (h : G' a = none) : G a = none := by
  cases e : G a with
  | none => rfl
  | some u =>
    cases d : isDy u with
    | false => rw [g.st a u d e] at h; cases h
    | true =>
      cases u with
      | frz o v =>
        rcases g.dc a v d (.inr ⟨o, e⟩) with q | ⟨o', q⟩ <;> (rw [q] at h; cases h)
      | dK x => rcases g.dc a _ rfl (.inl e) with q | ⟨o', q⟩ <;> (rw [q] at h; cases h)
      | dT x => rcases g.dc a _ rfl (.inl e) with q | ⟨o', q⟩ <;> (rw [q] at h; cases h)
      | _ => cases d
theorem Gle.new {G : Hp} {p : Addr} {o : HO} (h : G p = none) : Gle G (upd G p o) := Gle.of fun a u e => by
  rw [upd_ne (ne_of_none e h)]; exact e
/-- the heap behind a store to an address that is not known -/
theorem Gle.write {G H : Hp} {p : Addr} {o : HO} (g : Gle G H) (h : G p = none) : Gle G (upd H p o) := by
  refine ⟨fun a u d e => ?_, fun a u d e => ?_⟩
  · rw [upd_ne (ne_of_none e h)]; exact g.st a u d e
  · have ne : a ≠ p := by
      rintro rfl
      rcases e with e | ⟨_, e⟩ <;> (rw [h] at e; cases e)
    rcases g.dc a u d e with q | ⟨o', q⟩
    · exact .inl (by rw [upd_ne ne]; exact q)
    · exact .inr ⟨o', by rw [upd_ne ne]; exact q⟩
theorem Gle.both {G H : Hp} {p : Addr} {o : HO} (g : Gle G H) (h : H p = none) : Gle (upd G p o) (upd H p o) := by
  refine ⟨fun a u d e => ?_, fun a u d e => ?_⟩
  · by_cases ne : a = p
    · subst ne; rw [upd_same] at e ⊢; exact e
    · rw [upd_ne ne] at e ⊢; exact g.st a u d e
  · by_cases ne : a = p
    · subst ne
      rcases e with e | ⟨o', e⟩
      · rw [upd_same] at e; exact .inl (by rw [upd_same]; exact e)
      · rw [upd_same] at e; exact .inr ⟨o', by rw [upd_same]; exact e⟩
    · have e' : Rd G a u := by
        rcases e with e | ⟨o', e⟩
        · rw [upd_ne ne] at e; exact .inl e
        · rw [upd_ne ne] at e; exact .inr ⟨o', e⟩
      rcases g.dc a u d e' with q | ⟨o', q⟩
      · exact .inl (by rw [upd_ne ne]; exact q)
      · exact .inr ⟨o', by rw [upd_ne ne]; exact q⟩
theorem Gle.rd {G H : Hp} (g : Gle G H) {a : Addr} {u : HO} (hu : isDy u = false) (h : Rd G a u) : Rd H a u := by
  rcases h with h | ⟨o, h⟩
  · exact .inl (g.st a u hu h)
  · refine .inr ⟨o, g.st a _ ?_ h⟩
    cases u <;> first | rfl | (cases hu; done) | exact hu
theorem Gle.sqL {K : PySem.W.Frag} {G H : Hp} (g : Gle G H) {a : Addr} {xs : List V} (h : SqL K G a xs) : SqL K H a xs := h.elim (fun h => .inl (g.rd rfl h)) .inr
theorem Gle.sqT {K : PySem.W.Frag} {G H : Hp} (g : Gle G H) {a : Addr} {xs : List V} (h : SqT K G a xs) : SqT K H a xs := h.elim (fun h => .inl (g.rd rfl h)) .inr

/-- the cells' addresses; what stays as it is -/
structure Wd where
  μ : List Addr
  G : Hp
structure Wd.le (w w' : Wd) : Prop where
  μ : w.μ <+: w'.μ
  G : Gle w.G w'.G
theorem Wd.le.refl (w : Wd) : Wd.le w w := ⟨List.prefix_refl _, Gle.refl _⟩
theorem Wd.le.trans {a b c : Wd} (h : Wd.le a b) (q : Wd.le b c) : Wd.le a c := ⟨h.μ.trans q.μ, h.G.trans q.G⟩
theorem pre_get {α : Type} {l r : List α} (h : l <+: r) {n : Nat} {a : α} (e : l[n]? = some a) : r[n]? = some a := by
  obtain ⟨t, rfl⟩ := h
  rw [List.getElem?_append_left (List.getElem?_eq_some_iff.mp e).1]; exact e

/-- a list of the module -/
def KL (K : PySem.W.Frag) (a : Addr) (xs : List V) : Prop :=
  ∃ (o : Obj) (its : Array Value) (n : Nat), K.lookup a = some o ∧ o.cls = .type "list" ∧ o.dict = none ∧ o.data = .seq its n ∧ its.size ≤ sizeLine ∧ Vals xs its.toList
theorem sqL_of {K : PySem.W.Frag} {H : Hp} {a : Addr} {xs : List V} (h : H a = some (.lst xs) ∨ KL K a xs) : SqL K H a xs := h.elim (fun h => .inl (.inl h)) .inr
theorem scr_L {K : PySem.W.Frag} {G H : Hp} {sc : Option Addr} {a : Addr} {xs : List V} (g : Gle G H) (h : (sc = some a ∧ Rd G a (.lst xs)) ∨ KL K a xs) : SqL K H a xs := h.elim (fun h => .inl (g.rd rfl h.2)) .inr
theorem Gle.kl {K : PySem.W.Frag} {G H : Hp} (g : Gle G H) {a : Addr} {xs : List V} (h : G a = some (.lst xs) ∨ KL K a xs) : H a = some (.lst xs) ∨ KL K a xs := h.elim (fun h => .inl (g.st a _ rfl h)) .inr
/-- the keys of a dict -/
def keyD : D → Option Key
  | .int i => some (.inl i)
  | .str x => some (.inr x)
  | _ => none
def keysD : List D → Option (List Key)
  | [] => some []
  | d :: r => match keyD d, keysD r with
    | some k, some ks => some (k :: ks)
    | _, _ => none
def keyT : D → Option (List Key)
  | .tup ds => keysD ds
  | _ => none
section
variable (T : Tab) (w : Wd)
mutual
def Rep : D → V → Prop
  | .non, v => v = .non
  | .bl b, v => v = .bl b
  | .int i, v => v = .int i
  | .str x, v => v = .str x
  | .tup ds, v => ∃ a xs, v = .ref a ∧ w.G a = some (.tup xs) ∧ Reps ds xs
  | .ctup ds, v => ∃ a xs, v = .ref a ∧ SqT T.K w.G a xs ∧ Reps ds xs
  | .lst ds, v => ∃ a xs, v = .ref a ∧ w.G a = some (.lst xs) ∧ Reps ds xs
  | .dct t kvs, v => ∃ a, v = .ref a ∧ ((t = true ∧ ∃ hs, Rd w.G a (.dT hs) ∧ RepT kvs hs) ∨ (t = false ∧ ∃ hs, Rd w.G a (.dK hs) ∧ RepK kvs hs))
  | .ins c fs, v => ∃ a C dx hs, v = .ref a ∧ T.ca c = some C ∧ w.G a = some (.ins C dx hs) ∧ RepF fs hs
  | .exo c fs, v => ∃ a C d hs, v = .ref a ∧ T.xa c = some C ∧ w.G a = some (EV a C d) ∧ w.G d = some (.xd hs) ∧ RepF fs hs
  | .fn f, v => ∃ a, v = .ref a ∧ T.fa f = some a
  | .loc n, v => ∃ a, v = .ref a ∧ w.μ[n]? = some a
  | .scr ns, v => ∃ a, v = .ref a ∧ ((T.sc = some a ∧ Rd w.G a (.lst (ns.map V.int))) ∨ KL T.K a (ns.map V.int))
def Reps : List D → List V → Prop
  | [], vs => vs = []
  | d :: ds, vs => ∃ x r, vs = x :: r ∧ Rep d x ∧ Reps ds r
def RepK : List (D × D) → List (Key × V) → Prop
  | [], hs => hs = []
  | (k, d) :: r, hs => ∃ hk x q, hs = (hk, x) :: q ∧ keyD k = some hk ∧ Rep d x ∧ RepK r q
def RepT : List (D × D) → List (List Key × V) → Prop
  | [], hs => hs = []
  | (k, d) :: r, hs => ∃ hk x q, hs = (hk, x) :: q ∧ keyT k = some hk ∧ Rep d x ∧ RepT r q
def RepF : List (Nat × D) → List (Str × V) → Prop
  | [], hs => hs = []
  | (f, d) :: r, hs => ∃ x q, hs = (T.nm f, x) :: q ∧ Rep d x ∧ RepF r q
end
end
section
variable {T : Tab} {w w' : Wd}
mutual
theorem Rep.mono (l : Wd.le w w') : ∀ {d : D} {v : V}, Rep T w d v → Rep T w' d v
  | .non, _, h => by simpa only [Rep] using h
  | .bl _, _, h => by simpa only [Rep] using h
  | .int _, _, h => by simpa only [Rep] using h
  | .str _, _, h => by simpa only [Rep] using h
  | .tup ds, _, h => by
    simp only [Rep] at h ⊢
    obtain ⟨a, xs, e, s, r⟩ := h
    exact ⟨a, xs, e, l.G.st _ _ rfl s, Reps.mono l r⟩
  | .ctup ds, _, h => by
    simp only [Rep] at h ⊢
    obtain ⟨a, xs, e, s, r⟩ := h
    exact ⟨a, xs, e, l.G.sqT s, Reps.mono l r⟩
  | .lst ds, _, h => by
    simp only [Rep] at h ⊢
    obtain ⟨a, xs, e, s, r⟩ := h
    exact ⟨a, xs, e, l.G.st _ _ rfl s, Reps.mono l r⟩
  | .dct t kvs, _, h => by
    simp only [Rep] at h ⊢
    obtain ⟨a, e, ⟨ht, hs, r, q⟩ | ⟨ht, hs, r, q⟩⟩ := h
    · exact ⟨a, e, .inl ⟨ht, hs, l.G.dc _ _ rfl r, RepT.mono l q⟩⟩
    · exact ⟨a, e, .inr ⟨ht, hs, l.G.dc _ _ rfl r, RepK.mono l q⟩⟩
  | .ins c fs, _, h => by
    simp only [Rep] at h ⊢
    obtain ⟨a, C, dx, hs, e, hc, r, q⟩ := h
    exact ⟨a, C, dx, hs, e, hc, l.G.st _ _ rfl r, RepF.mono l q⟩
  | .exo c fs, _, h => by
    simp only [Rep] at h ⊢
    obtain ⟨a, C, d, hs, e, hc, r, r2, q⟩ := h
    exact ⟨a, C, d, hs, e, hc, l.G.st _ _ rfl r, l.G.st _ _ rfl r2, RepF.mono l q⟩
  | .fn f, _, h => by simpa only [Rep] using h
  | .loc n, _, h => by
    simp only [Rep] at h ⊢
    obtain ⟨a, e, q⟩ := h
    exact ⟨a, e, pre_get l.μ q⟩
  | .scr n, _, h => by
    simp only [Rep] at h ⊢
    obtain ⟨a, e, q⟩ := h
    exact ⟨a, e, q.elim (fun q => .inl ⟨q.1, l.G.rd rfl q.2⟩) .inr⟩
theorem Reps.mono (l : Wd.le w w') : ∀ {ds : List D} {vs : List V}, Reps T w ds vs → Reps T w' ds vs
  | [], _, h => by simpa only [Reps] using h
  | d :: ds, _, h => by
    simp only [Reps] at h ⊢
    obtain ⟨x, r, e, a, b⟩ := h
    exact ⟨x, r, e, Rep.mono l a, Reps.mono l b⟩
theorem RepK.mono (l : Wd.le w w') : ∀ {ds : List (D × D)} {vs : List (Key × V)}, RepK T w ds vs → RepK T w' ds vs
  | [], _, h => by simpa only [RepK] using h
  | (k, d) :: ds, _, h => by
    simp only [RepK] at h ⊢
    obtain ⟨hk, x, r, e, a, b, c⟩ := h
    exact ⟨hk, x, r, e, a, Rep.mono l b, RepK.mono l c⟩
theorem RepT.mono (l : Wd.le w w') : ∀ {ds : List (D × D)} {vs : List (List Key × V)}, RepT T w ds vs → RepT T w' ds vs
  | [], _, h => by simpa only [RepT] using h
  | (k, d) :: ds, _, h => by
    simp only [RepT] at h ⊢
    obtain ⟨hk, x, r, e, a, b, c⟩ := h
    exact ⟨hk, x, r, e, a, Rep.mono l b, RepT.mono l c⟩
theorem RepF.mono (l : Wd.le w w') : ∀ {ds : List (Nat × D)} {vs : List (Str × V)}, RepF T w ds vs → RepF T w' ds vs
  | [], _, h => by simpa only [RepF] using h
  | (k, d) :: ds, _, h => by
    simp only [RepF] at h ⊢
    obtain ⟨x, r, e, b, c⟩ := h
    exact ⟨x, r, e, Rep.mono l b, RepF.mono l c⟩
end
end
end DV
end
section
/-! The store held, what is wanted behind, expressions. -/
set_option Elab.async false
set_option linter.all false
set_option maxRecDepth 100000
namespace DV
open PySem L2
section
variable (T : Tab)
def CellOk (w : Wd) (H : Hp) (a : Addr) : Cell → Prop
  | .lst ds => ∃ xs, H a = some (.lst xs) ∧ Reps T w ds xs
  | .dct t kvs => (t = true ∧ ∃ hs, H a = some (.dT hs) ∧ RepT T w kvs hs) ∨ (t = false ∧ ∃ hs, H a = some (.dK hs) ∧ RepK T w kvs hs)
  | .lck t kvs => ∃ o, (t = true ∧ ∃ hs, H a = some (.frz o (.dT hs)) ∧ RepT T w kvs hs) ∨ (t = false ∧ ∃ hs, H a = some (.frz o (.dK hs)) ∧ RepK T w kvs hs)
  | .ins c fs => ∃ C dx hs, T.ca c = some C ∧ H a = some (.ins C dx hs) ∧ RepF T w fs hs
structure StoreOk (S : Store) (w : Wd) (H : Hp) : Prop where
  G : Gle w.G H
  len : w.μ.length = S.length
  nd : w.μ.Nodup
  free : ∀ a ∈ w.μ, w.G a = none
  cell : ∀ (n : Nat) (a : Addr) (c : Cell), w.μ[n]? = some a → S[n]? = some c → CellOk T w H a c
  sc : ∀ a, T.sc = some a → w.G a ≠ none
structure EnvOk (w : Wd) (σ : St) (E : Env) : Prop where
  len : σ.length = E.length
  at_ : ∀ (i : Nat) (d : D), E[i]? = some (some d) → ∃ v, σ[i]? = some (some v) ∧ Rep T w d v
def XRep (w : Wd) (c : Nat) (fs : List (Nat × D)) (cls : Value) (dx : Option Addr) : Prop :=
  ∃ C d hs, T.xa c = some C ∧ cls = .ref C ∧ dx = some d ∧ w.G d = some (.xd hs) ∧ RepF T w fs hs
/-- what is wanted behind: R tells what stands for what -/
def Post {α β : Type} (R : Wd → α → β → Prop) (W : WX) (σ : St) (w : Wd) (Q : β → Hp → Prop) : Res α → Prop
  | .ok d S => ∀ v H w', Wd.le w w' → StoreOk T S w' H → R w' d v → Q v H
  | .exc c fs S => ∀ cls dx H w', Wd.le w w' → StoreOk T S w' H → XRep T w' c fs cls dx → W cls dx σ H
  | .bad => False
abbrev RV := fun (w : Wd) (d : D) (v : V) => Rep T w d v
abbrev RVs := fun (w : Wd) (ds : List D) (vs : List V) => Reps T w ds vs
abbrev RB := fun (_ : Wd) (a b : Bool) => b = a
def tR {α β : Type} (R : Wd → α → β → Prop) (W : WX) (r : Env → Store → Res α) : St → Hp → (β → Hp → Prop) → Prop := fun σ H Q =>
  ∃ E S w, EnvOk T w σ E ∧ StoreOk T S w H ∧ Post T R W σ w Q (r E S)
abbrev tE (W : WX) (r : Env → Store → Res D) : TE := tR T (RV T) W r
abbrev tA (W : WX) (r : Env → Store → Res (List D)) : TA := tR T (RVs T) W r
abbrev tT (W : WX) (r : Env → Store → Res Bool) : TT := tR T RB W r
end
section
variable {T : Tab} {w w' : Wd} {H H' : Hp} {S S' : Store} {σ : St} {E : Env} {W : WX}
theorem CellOk.mono {a : Addr} {c : Cell} (l : Wd.le w w') (h : CellOk T w H a c) : CellOk T w' H a c := by
  cases c with
  | lst ds => obtain ⟨xs, e, r⟩ := h; exact ⟨xs, e, r.mono l⟩
  | dct t kvs =>
    rcases h with ⟨e, hs, q, r⟩ | ⟨e, hs, q, r⟩
    · exact .inl ⟨e, hs, q, r.mono l⟩
    · exact .inr ⟨e, hs, q, r.mono l⟩
  | lck t kvs =>
    obtain ⟨o, ⟨e, hs, q, r⟩ | ⟨e, hs, q, r⟩⟩ := h
    · exact ⟨o, .inl ⟨e, hs, q, r.mono l⟩⟩
    · exact ⟨o, .inr ⟨e, hs, q, r.mono l⟩⟩
  | ins c fs => obtain ⟨C, dx, hs, e, q, r⟩ := h; exact ⟨C, dx, hs, e, q, r.mono l⟩
theorem CellOk.at_ {a : Addr} {c : Cell} (e : H' a = H a) (h : CellOk T w H a c) : CellOk T w H' a c := by
  cases c with
  | lst ds => obtain ⟨xs, q, r⟩ := h; exact ⟨xs, e.trans q, r⟩
  | dct t kvs =>
    rcases h with ⟨z, hs, q, r⟩ | ⟨z, hs, q, r⟩
    · exact .inl ⟨z, hs, e.trans q, r⟩
    · exact .inr ⟨z, hs, e.trans q, r⟩
  | lck t kvs =>
    obtain ⟨o, ⟨z, hs, q, r⟩ | ⟨z, hs, q, r⟩⟩ := h
    · exact ⟨o, .inl ⟨z, hs, e.trans q, r⟩⟩
    · exact ⟨o, .inr ⟨z, hs, e.trans q, r⟩⟩
  | ins c fs => obtain ⟨C, dx, hs, z, q, r⟩ := h; exact ⟨C, dx, hs, z, e.trans q, r⟩
theorem CellOk.some {a : Addr} {c : Cell} (h : CellOk T w H a c) : H a ≠ none := by
  cases c with
  | lst ds => obtain ⟨xs, q, r⟩ := h; rw [q]; simp
  | dct t kvs => rcases h with ⟨z, hs, q, r⟩ | ⟨z, hs, q, r⟩ <;> (rw [q]; simp)
  | lck t kvs => obtain ⟨o, ⟨z, hs, q, r⟩ | ⟨z, hs, q, r⟩⟩ := h <;> (rw [q]; simp)
  | ins c fs => obtain ⟨C, dx, hs, z, q, r⟩ := h; rw [q]; simp
theorem StoreOk.get (h : StoreOk T S w H) {n : Nat} {c : Cell} (e : S[n]? = some c) : ∃ a, w.μ[n]? = some a ∧ w.G a = none ∧ CellOk T w H a c := by
  have hl : n < w.μ.length := by rw [h.len]; exact (List.getElem?_eq_some_iff.mp e).1
  exact ⟨w.μ[n], by simp [hl], h.free _ (List.getElem_mem hl), h.cell n _ c (by simp [hl]) e⟩
/-- an address that is new is none of the cells' -/
theorem StoreOk.notin (h : StoreOk T S w H) {p : Addr} (hp : H p = none) : p ∉ w.μ := fun hm => by
  obtain ⟨n, hn, e⟩ := List.mem_iff_getElem.mp hm
  have hs : n < S.length := by rw [← h.len]; exact hn
  have := (h.cell n p S[n] (by simp [hn, e]) (by simp [hs])).some
  exact this hp
/-- a new object that stays as it is -/
theorem StoreOk.new (h : StoreOk T S w H) {p : Addr} {o : HO} (hp : H p = none) : StoreOk T S ⟨w.μ, upd w.G p o⟩ (upd H p o) ∧ Wd.le w ⟨w.μ, upd w.G p o⟩ := by
  have l : Wd.le w ⟨w.μ, upd w.G p o⟩ := ⟨List.prefix_refl _, Gle.new (h.G.there hp)⟩
  refine ⟨⟨h.G.both hp, h.len, h.nd, fun a ha => ?_, fun n a c e1 e2 => ?_, fun a e q => h.sc a e (l.G.there q)⟩, l⟩
  · have ne : a ≠ p := fun z => h.notin hp (z ▸ ha)
    show upd w.G p o a = none
    rw [upd_ne ne]; exact h.free a ha
  · have ne : a ≠ p := fun z => h.notin hp (z ▸ List.mem_of_getElem? e1)
    exact ((h.cell n a c e1 e2).at_ (H' := upd H p o) (upd_ne ne)).mono l
/-- a new cell -/
theorem StoreOk.alloc (h : StoreOk T S w H) {p : Addr} {o : HO} {c : Cell} (hp : H p = none) (hc : CellOk T w (upd H p o) p c) : StoreOk T (S ++ [c]) ⟨w.μ ++ [p], w.G⟩ (upd H p o) ∧ Wd.le w ⟨w.μ ++ [p], w.G⟩ := by
  have l : Wd.le w ⟨w.μ ++ [p], w.G⟩ := ⟨List.prefix_append _ _, Gle.refl _⟩
  refine ⟨⟨h.G.write (h.G.there hp), by simp [h.len], ?_, fun a ha => ?_, fun n a d e1 e2 => ?_, h.sc⟩, l⟩
  · exact List.nodup_append.mpr ⟨h.nd, by simp, fun a ha b hb => by
      have e : b = p := by simpa using hb
      rw [e]; rintro rfl; exact h.notin hp ha⟩
  · rcases List.mem_append.mp ha with ha | ha
    · exact h.free a ha
    · have e : a = p := by simpa using ha
      rw [e]; exact h.G.there hp
  · by_cases hn : n < S.length
    · rw [List.getElem?_append_left (by rw [h.len]; exact hn)] at e1
      rw [List.getElem?_append_left hn] at e2
      have ne : a ≠ p := fun z => h.notin hp (z ▸ List.mem_of_getElem? e1)
      exact ((h.cell n a d e1 e2).at_ (H' := upd H p o) (upd_ne ne)).mono l
    · rw [List.getElem?_append_right (by rw [h.len]; omega)] at e1
      rw [List.getElem?_append_right (by omega)] at e2
      have e3 : n - S.length = 0 := by
        cases q : n - S.length with
        | zero => rfl
        | succ k => rw [q] at e2; simp at e2
      rw [h.len, e3] at e1
      rw [e3] at e2
      simp at e1 e2
      subst e1; subst e2
      exact hc.mono l
/-- a store to a cell -/
theorem StoreOk.put (h : StoreOk T S w H) {n : Nat} {a : Addr} {o : HO} {c : Cell} (e : w.μ[n]? = some a) (hc : CellOk T w (upd H a o) a c) : StoreOk T (S.set n c) w (upd H a o) := by
  have fr : w.G a = none := h.free a (List.mem_of_getElem? e)
  refine ⟨h.G.write fr, by simp [h.len], h.nd, h.free, fun m b d e1 e2 => ?_, h.sc⟩
  have hn : n < S.length := by rw [← h.len]; exact (List.getElem?_eq_some_iff.mp e).1
  by_cases hm : m = n
  · subst hm
    rw [List.getElem?_set_self hn] at e2
    cases e2
    rw [e] at e1; cases e1
    exact hc
  · rw [List.getElem?_set_ne (Ne.symm hm)] at e2
    have ne : b ≠ a := fun z => by
      subst z
      have h1 := List.getElem?_eq_some_iff.mp e
      have h2 := List.getElem?_eq_some_iff.mp e1
      obtain ⟨i1, q1⟩ := h1
      obtain ⟨i2, q2⟩ := h2
      exact hm ((List.getElem_inj h.nd).mp (q2.trans q1.symm))
    exact (h.cell m b d e1 e2).at_ (H' := upd H a o) (upd_ne ne)
theorem EnvOk.mono (l : Wd.le w w') (h : EnvOk T w σ E) : EnvOk T w' σ E := ⟨h.len, fun i d e => let ⟨v, q, r⟩ := h.at_ i d e; ⟨v, q, r.mono l⟩⟩
theorem Post.mono {α β : Type} {R : Wd → α → β → Prop} {Q : β → Hp → Prop} {r : Res α} (l : Wd.le w w') (h : Post T R W σ w Q r) : Post T R W σ w' Q r := by
  cases r with
  | ok d S => exact fun v H w2 l2 => h v H w2 (l.trans l2)
  | exc c fs S => exact fun cls dx H w2 l2 => h cls dx H w2 (l.trans l2)
  | bad => exact h
theorem Post.bind {α β γ δ : Type} {R : Wd → α → β → Prop} {R' : Wd → γ → δ → Prop} {Q : δ → Hp → Prop} {r : Res α} {f : α → Store → Res γ} (h : Post T R' W σ w Q (r.bind f)) :
    Post T R W σ w (fun v H => ∃ d S w1, Wd.le w w1 ∧ StoreOk T S w1 H ∧ R w1 d v ∧ Post T R' W σ w1 Q (f d S)) r := by
  cases r with
  | ok d S => exact fun v H w1 l so rep => ⟨d, S, w1, l, so, rep, Post.mono l h⟩
  | exc c fs S => exact h
  | bad => exact h
theorem PE.imp {X : Cx} {e : Expr} {t t' : TE} (h : PE X e t) (i : ∀ σ H Q, t' σ H Q → t σ H Q) : PE X e t' := ⟨fun pins s σ H Q I q => h.run pins s σ H Q I (i σ H Q q)⟩
theorem PT.imp {X : Cx} {e : Expr} {t t' : TT} (h : PT X e t) (i : ∀ σ H Q, t' σ H Q → t σ H Q) : PT X e t' := ⟨fun pins s σ H Q I q => h.run pins s σ H Q I (i σ H Q q)⟩
theorem PA.imp {X : Cx} {e : List Expr} {t t' : TA} (h : PA X e t) (i : ∀ σ H Q, t' σ H Q → t σ H Q) : PA X e t' := ⟨fun pos pins s σ H Q I q => h.run pos pins s σ H Q I (i σ H Q q)⟩
/-- what is wanted may be weakened -/
theorem tR.mono {α β : Type} {R : Wd → α → β → Prop} {r : Env → Store → Res α} {Q Q' : β → Hp → Prop} (h : tR T R W r σ H Q) (i : ∀ v H', Q v H' → Q' v H') : tR T R W r σ H Q' := by
  obtain ⟨E, S, w, eo, so, p⟩ := h
  refine ⟨E, S, w, eo, so, ?_⟩
  cases q : r E S with
  | ok d S' => rw [q] at p; exact fun v H w1 l so rep => i _ _ (p v H w1 l so rep)
  | exc c fs S' => rw [q] at p; exact p
  | bad => rw [q] at p; exact p
/-- first r, then what follows it -/
theorem tR.bind {α β γ δ : Type} {R : Wd → α → β → Prop} {R' : Wd → γ → δ → Prop} {Q : δ → Hp → Prop} {r : Env → Store → Res α} {f : Env → α → Store → Res γ} (h : tR T R' W (fun E S => (r E S).bind (f E)) σ H Q) :
    tR T R W r σ H (fun v H1 => ∃ E d S w, EnvOk T w σ E ∧ StoreOk T S w H1 ∧ R w d v ∧ Post T R' W σ w Q (f E d S)) := by
  obtain ⟨E, S, w, eo, so, p⟩ := h
  refine ⟨E, S, w, eo, so, ?_⟩
  have q := Post.bind (R := R) p
  cases z : r E S with
  | ok d S' =>
    rw [z] at q
    refine fun v H w1 l so rep => ?_
    obtain ⟨d', S'', w2, l2, so2, rep2, p2⟩ := q v H w1 l so rep
    exact ⟨E, d', S'', w2, eo.mono l2, so2, rep2, p2⟩
  | exc c fs S' => rw [z] at q; exact q
  | bad => rw [z] at q; exact q
/-- the way behind r chosen by what r gives -/
theorem tR_split {α β γ δ : Type} {R : Wd → α → β → Prop} {R' : Wd → γ → δ → Prop} {Q : δ → Hp → Prop} {r : Env → Store → Res α} {f : α → Store → Res γ} {K1 K2 : β → Hp → Prop} (p : α → Store → Prop) (h : tR T R' W (fun E S => (r E S).bind f) σ H Q)
    (h1 : ∀ v H1 d S w, p d S → StoreOk T S w H1 → R w d v → Post T R' W σ w Q (f d S) → K1 v H1) (h2 : ∀ v H1 d S w, ¬ p d S → StoreOk T S w H1 → R w d v → Post T R' W σ w Q (f d S) → K2 v H1) :
    tR T R W r σ H K1 ∨ tR T R W r σ H K2 := by
  obtain ⟨E, S, w, eo, so, p0⟩ := h
  cases z : r E S with
  | exc c fs S' =>
    have p0 : Post T R' W σ w Q ((r E S).bind f) := p0
    rw [z] at p0
    exact .inl ⟨E, S, w, eo, so, by rw [z]; exact p0⟩
  | bad =>
    have p0 : Post T R' W σ w Q ((r E S).bind f) := p0
    rw [z] at p0
    exact p0.elim
  | ok d S' =>
    have p0 : Post T R' W σ w Q ((r E S).bind f) := p0
    rw [z] at p0
    by_cases hp : p d S'
    · exact .inl ⟨E, S, w, eo, so, by rw [z]; exact fun v H1 w1 l so1 rd => h1 v H1 d S' w1 hp so1 rd (Post.mono l p0)⟩
    · exact .inr ⟨E, S, w, eo, so, by rw [z]; exact fun v H1 w1 l so1 rd => h2 v H1 d S' w1 hp so1 rd (Post.mono l p0)⟩
end
end DV
end
section
/-! Operations on values: the machine's, by what the trees say. -/
set_option Elab.async false
set_option linter.all false
set_option maxRecDepth 100000
set_option maxHeartbeats 1000000
namespace DV
open PySem L2
theorem lim_le {n : Nat} (h : n ≤ lim) : n ≤ sizeLine := Nat.le_trans h (by rw [sizeLine_eq]; decide)
section
variable {T : Tab} {w : Wd} {S : Store} {H : Hp}
theorem Reps.length : ∀ {ds : List D} {vs : List V}, Reps T w ds vs → vs.length = ds.length
  | [], _, h => by simp only [Reps] at h; subst h; rfl
  | d :: ds, _, h => by
    simp only [Reps] at h
    obtain ⟨x, r, e, _, b⟩ := h
    subst e
    simp [Reps.length b]
theorem Reps.get : ∀ {ds : List D} {vs : List V} {i : Nat} {d : D}, Reps T w ds vs → ds[i]? = some d → ∃ v, vs[i]? = some v ∧ Rep T w d v
  | [], _, _, _, _, e => by simp at e
  | d :: ds, _, 0, _, h, e => by
    simp only [Reps] at h
    obtain ⟨x, r, e', a, b⟩ := h
    subst e'
    simp at e; subst e
    exact ⟨x, rfl, a⟩
  | d :: ds, _, i + 1, _, h, e => by
    simp only [Reps] at h
    obtain ⟨x, r, e', a, b⟩ := h
    subst e'
    exact Reps.get (i := i) b (by simpa using e)
theorem Reps.append : ∀ {ds es : List D} {vs us : List V}, Reps T w ds vs → Reps T w es us → Reps T w (ds ++ es) (vs ++ us)
  | [], _, _, _, h, q => by simp only [Reps] at h; subst h; exact q
  | d :: ds, _, _, _, h, q => by
    simp only [Reps] at h
    obtain ⟨x, r, e', a, b⟩ := h
    subst e'
    show Reps T w (d :: (ds ++ _)) (x :: (r ++ _))
    simp only [Reps]
    exact ⟨x, _, rfl, a, Reps.append b q⟩
theorem Reps.take : ∀ {ds : List D} {vs : List V} (n : Nat), Reps T w ds vs → Reps T w (ds.take n) (vs.take n)
  | _, _, 0, _ => by simp [Reps]
  | [], _, n + 1, h => by simp only [Reps] at h; subst h; simp [Reps]
  | d :: ds, _, n + 1, h => by
    simp only [Reps] at h
    obtain ⟨x, r, e', a, b⟩ := h
    subst e'
    simp only [List.take_succ_cons, Reps]
    exact ⟨x, _, rfl, a, Reps.take n b⟩
theorem Reps.drop : ∀ {ds : List D} {vs : List V} (n : Nat), Reps T w ds vs → Reps T w (ds.drop n) (vs.drop n)
  | _, _, 0, h => by simpa using h
  | [], _, n + 1, h => by simp only [Reps] at h; subst h; simp [Reps]
  | d :: ds, _, n + 1, h => by
    simp only [Reps] at h
    obtain ⟨x, r, e', a, b⟩ := h
    subst e'
    simp only [List.drop_succ_cons]
    exact Reps.drop n b
theorem Reps.set : ∀ {ds : List D} {vs : List V} {d : D} {v : V} (n : Nat), Reps T w ds vs → Rep T w d v → Reps T w (ds.set n d) (vs.set n v)
  | [], _, _, _, _, h, _ => by simp only [Reps] at h; subst h; simp [Reps]
  | d :: ds, _, _, _, 0, h, q => by
    simp only [Reps] at h
    obtain ⟨x, r, e', a, b⟩ := h
    subst e'
    simp only [List.set_cons_zero, Reps]
    exact ⟨_, _, rfl, q, b⟩
  | d :: ds, _, _, _, n + 1, h, q => by
    simp only [Reps] at h
    obtain ⟨x, r, e', a, b⟩ := h
    subst e'
    simp only [List.set_cons_succ, Reps]
    exact ⟨_, _, rfl, a, Reps.set n b q⟩
theorem Reps.reverse : ∀ {ds : List D} {vs : List V}, Reps T w ds vs → Reps T w ds.reverse vs.reverse
  | [], _, h => by simp only [Reps] at h; subst h; simp [Reps]
  | d :: ds, _, h => by
    simp only [Reps] at h
    obtain ⟨x, r, e', a, b⟩ := h
    subst e'
    rw [List.reverse_cons, List.reverse_cons]
    exact (Reps.reverse b).append (by simp only [Reps]; exact ⟨x, [], rfl, a, rfl⟩)
theorem Reps.rep {ds : List D} {vs : List V} (h : Reps T w ds vs) : ∀ k : Nat, Reps T w (List.replicate k ds).flatten (List.replicate k vs).flatten
  | 0 => by simp [Reps]
  | k + 1 => by
    rw [List.replicate_succ, List.replicate_succ, List.flatten_cons, List.flatten_cons]
    exact h.append (Reps.rep h k)
theorem Reps.one {d : D} {v : V} (h : Rep T w d v) : Reps T w [d] [v] := by simp only [Reps]; exact ⟨v, [], rfl, h, rfl⟩
theorem Reps.nil : Reps T w [] [] := by simp only [Reps]
theorem Reps.cons {d : D} {v : V} {ds : List D} {vs : List V} (h : Rep T w d v) (r : Reps T w ds vs) : Reps T w (d :: ds) (v :: vs) := by simp only [Reps]; exact ⟨v, vs, rfl, h, r⟩
theorem Reps.uncons {d : D} {ds : List D} {vs : List V} (h : Reps T w (d :: ds) vs) : ∃ v r, vs = v :: r ∧ Rep T w d v ∧ Reps T w ds r := by simpa only [Reps] using h
theorem Reps.nil_iff {ds : List D} {vs : List V} (h : Reps T w ds vs) : vs.isEmpty = ds.isEmpty := by
  have := h.length
  cases ds <;> cases vs <;> simp_all

/-- a list, as a value or a cell -/
theorem seqX_rep (so : StoreOk T S w H) {d : D} {v : V} {ds : List D} (r : Rep T w d v) (e : seqX S d = some ds) : ∃ a xs, v = .ref a ∧ H a = some (.lst xs) ∧ Reps T w ds xs := by
  cases d with
  | lst es =>
    simp only [seqX, Option.some.injEq] at e
    subst e
    simp only [Rep] at r
    obtain ⟨a, xs, rfl, s, q⟩ := r
    exact ⟨a, xs, rfl, so.G.st _ _ rfl s, q⟩
  | loc n =>
    simp only [seqX] at e
    simp only [Rep] at r
    obtain ⟨a, rfl, q⟩ := r
    split at e
    · rename_i es he
      cases e
      obtain ⟨xs, h1, h2⟩ := so.cell n a _ q he
      exact ⟨a, xs, rfl, h1, h2⟩
    · cases e
  | _ => simp [seqX] at e
theorem reps_int : ∀ ns : List Int, Reps T w (ns.map D.int) (ns.map V.int)
  | [] => Reps.nil
  | n :: r => Reps.cons (by simp only [Rep]) (reps_int r)
/-- .. or the script -/
theorem seq_rep (so : StoreOk T S w H) {d : D} {v : V} {ds : List D} (r : Rep T w d v) (e : seqV S d = some ds) : ∃ a xs, v = .ref a ∧ SqL T.K H a xs ∧ Reps T w ds xs := by
  cases d with
  | scr ns =>
    simp only [seqV, Option.some.injEq] at e
    subst e
    simp only [Rep] at r
    obtain ⟨a, rfl, s⟩ := r
    exact ⟨a, _, rfl, scr_L so.G s, reps_int ns⟩
  | _ =>
    obtain ⟨a, xs, e, s, q⟩ := seqX_rep so r e
    exact ⟨a, xs, e, SqL.of s, q⟩
theorem tup_rep' (so : StoreOk T S w H) {v : V} {ds : List D} (r : Rep T w (.tup ds) v) : ∃ a xs, v = .ref a ∧ H a = some (.tup xs) ∧ Reps T w ds xs := by
  simp only [Rep] at r
  obtain ⟨a, xs, rfl, s, q⟩ := r
  exact ⟨a, xs, rfl, so.G.st _ _ rfl s, q⟩
theorem tup_rep (so : StoreOk T S w H) {v : V} {ds : List D} (r : Rep T w (.tup ds) v) : ∃ a xs, v = .ref a ∧ SqT T.K H a xs ∧ Reps T w ds xs := by
  obtain ⟨a, xs, e, h, q⟩ := tup_rep' so r
  exact ⟨a, xs, e, SqT.of h, q⟩
theorem ctup_rep (so : StoreOk T S w H) {v : V} {ds : List D} (r : Rep T w (.ctup ds) v) : ∃ a xs, v = .ref a ∧ SqT T.K H a xs ∧ Reps T w ds xs := by
  simp only [Rep] at r
  obtain ⟨a, xs, rfl, s, q⟩ := r
  exact ⟨a, xs, rfl, so.G.sqT s, q⟩
theorem any_rep (so : StoreOk T S w H) {d : D} {v : V} {ds : List D} (r : Rep T w d v) (e : anyV S d = some ds) : ∃ a xs, v = .ref a ∧ (SqL T.K H a xs ∨ SqT T.K H a xs) ∧ Reps T w ds xs := by
  cases d with
  | tup es =>
    simp only [anyV, Option.some.injEq] at e
    subst e
    obtain ⟨a, xs, e, s, q⟩ := tup_rep so r
    exact ⟨a, xs, e, .inr s, q⟩
  | ctup es =>
    simp only [anyV, Option.some.injEq] at e
    subst e
    obtain ⟨a, xs, e, s, q⟩ := ctup_rep so r
    exact ⟨a, xs, e, .inr s, q⟩
  | _ =>
    obtain ⟨a, xs, e, s, q⟩ := seq_rep so r e
    exact ⟨a, xs, e, .inl s, q⟩
/-- the two roads to a new list, a new tuple -/
theorem new_lst (so : StoreOk T S w H) {Q : VK} {W : WX} {σ : L2.St} {ds : List D} {xs : List V} (r : Reps T w ds xs) (p : Post T (RV T) W σ w Q (.ok (.lst ds) S)) : ∀ a, H a = none → Q (.ref a) (upd H a (.lst xs)) := fun a ha => by
  obtain ⟨so', l⟩ := so.new (o := .lst xs) ha
  refine p _ _ _ l so' ?_
  simp only [RV, Rep]
  exact ⟨a, xs, rfl, upd_same, r.mono l⟩
theorem new_tup (so : StoreOk T S w H) {Q : VK} {W : WX} {σ : L2.St} {ds : List D} {xs : List V} (r : Reps T w ds xs) (p : Post T (RV T) W σ w Q (.ok (.tup ds) S)) : ∀ a, H a = none → Q (.ref a) (upd H a (.tup xs)) := fun a ha => by
  obtain ⟨so', l⟩ := so.new (o := .tup xs) ha
  refine p _ _ _ l so' ?_
  simp only [RV, Rep]
  exact ⟨a, xs, rfl, upd_same, r.mono l⟩
theorem new_cell (so : StoreOk T S w H) {Q : VK} {W : WX} {σ : L2.St} {ds : List D} {xs : List V} (r : Reps T w ds xs) (p : Post T (RV T) W σ w Q (alloc (.lst ds) S)) : ∀ a, H a = none → Q (.ref a) (upd H a (.lst xs)) := fun a ha => by
  obtain ⟨so', l⟩ := so.alloc (o := .lst xs) (c := .lst ds) ha ⟨xs, upd_same, r⟩
  refine p _ _ _ l so' ?_
  simp only [RV, Rep]
  exact ⟨a, rfl, by rw [← so.len]; simp⟩
theorem ret_val (so : StoreOk T S w H) {Q : VK} {W : WX} {σ : L2.St} {d : D} {v : V} (r : Rep T w d v) (p : Post T (RV T) W σ w Q (.ok d S)) : Q v H := p v H w (Wd.le.refl w) so r
end

section
variable {T : Tab} {X : Cx} {W : WX}
/-- an operation on two values: f what the trees say -/
def BinOk (T : Tab) (X : Cx) (W : WX) (m : Value → Value → Sem Value) (f : D → D → Store → Res D) : Prop :=
  ∀ (pins : List (Addr × Obj)) (s : Shared) (σ : L2.St) (H : Hp) (x y : V) (v u : Value) (Q : VK) (d e : D) (S : Store) (w : Wd), Inv X pins σ H s → RelV x v → RelV y u → StoreOk T S w H → Rep T w d x → Rep T w e y →
    Post T (RV T) W σ w Q (f d e S) → wpAny (model X.prog X.w) X.A (m v u) (EP X pins σ Q) X.xe s
/-- an expression runs, what is wanted behind it is wanted of the rest -/
theorem run1 {α β : Type} {R' : Wd → α → β → Prop} {a : Expr} {ra : Env → Store → Res D} {f : D → Store → Res α} (ha : PE X a (tE T W ra)) {pins : List (Addr × Obj)} {s : Shared} {σ : L2.St} {H : Hp} {E : Env} {S : Store} {w : Wd} {Q : β → Hp → Prop} (I : Inv X pins σ H s)
    (eo : EnvOk T w σ E) (so : StoreOk T S w H) (p : Post T R' W σ w Q ((ra E S).bind f)) :
    wpAny (model X.prog X.w) X.A (eval a X.env) (fun u s' => ∃ v H' d S' w', Inv X pins σ H' s' ∧ RelV v u ∧ Wd.le w w' ∧ StoreOk T S' w' H' ∧ Rep T w' d v ∧ EnvOk T w' σ E ∧ Post T R' W σ w' Q (f d S')) X.xe s := by
  refine thn (ha.run pins s σ H (fun v H' => ∃ d S' w', Wd.le w w' ∧ StoreOk T S' w' H' ∧ Rep T w' d v ∧ Post T R' W σ w' Q (f d S')) I ⟨E, S, w, eo, so, Post.bind p⟩) fun u s' ⟨v, H', I', rv, d, S', w', l, so', rd, p'⟩ => ?_
  exact ⟨v, H', d, S', w', I', rv, l, so', rd, eo.mono l, p'⟩
theorem runT {α β : Type} {R' : Wd → α → β → Prop} {a : Expr} {ra : Env → Store → Res Bool} {f : Bool → Store → Res α} (ha : PT X a (tT T W ra)) {pins : List (Addr × Obj)} {s : Shared} {σ : L2.St} {H : Hp} {E : Env} {S : Store} {w : Wd} {Q : β → Hp → Prop} (I : Inv X pins σ H s)
    (eo : EnvOk T w σ E) (so : StoreOk T S w H) (p : Post T R' W σ w Q ((ra E S).bind f)) :
    wpAny (model X.prog X.w) X.A (isTrue a X.env (eval a X.env)) (fun b s' => ∃ H' S' w', Inv X pins σ H' s' ∧ Wd.le w w' ∧ StoreOk T S' w' H' ∧ EnvOk T w' σ E ∧ Post T R' W σ w' Q (f b S')) X.xe s := by
  refine thn (ha.run pins s σ H (fun b H' => ∃ d S' w', Wd.le w w' ∧ StoreOk T S' w' H' ∧ b = d ∧ Post T R' W σ w' Q (f d S')) I ⟨E, S, w, eo, so, Post.bind (R := RB) p⟩) fun b s' ⟨H', I', d, S', w', l, so', rd, p'⟩ => ?_
  subst rd
  exact ⟨H', S', w', I', l, so', eo.mono l, p'⟩
theorem two_run {a b : Expr} {ra rb : Env → Store → Res D} {f : D → D → Store → Res D} {m : Value → Value → Sem Value} (hf : BinOk T X W m f) (ha : PE X a (tE T W ra)) (hb : PE X b (tE T W rb)) {pins : List (Addr × Obj)} {s : Shared} {σ : L2.St} {H : Hp} {Q : VK} (I : Inv X pins σ H s)
    (h : tE T W (fun E S => (ra E S).bind fun x S' => (rb E S').bind fun y S'' => f x y S'') σ H Q) :
    wpAny (model X.prog X.w) X.A (eval a X.env) (fun v s₁ => wpAny (model X.prog X.w) X.A (eval b X.env) (fun u s₂ => wpAny (model X.prog X.w) X.A (m v u) (EP X pins σ Q) X.xe s₂) X.xe s₁) X.xe s := by
  obtain ⟨E, S, w, eo, so, p⟩ := h
  refine thn (run1 ha I eo so p) fun v s1 ⟨x, H1, d, S1, w1, I1, r1, l1, so1, rd, eo1, p1⟩ => ?_
  refine thn (run1 hb I1 eo1 so1 p1) fun u s2 ⟨y, H2, e, S2, w2, I2, r2, l2, so2, re, eo2, p2⟩ => ?_
  exact hf pins s2 σ H2 x y v u Q d e S2 w2 I2 r1 r2 so2 (rd.mono l2) re p2
variable {a b c : Expr} {ra rb rc : Env → Store → Res D} {pos : Pos}
theorem de_bin {op : Operator} {f : D → D → Store → Res D} (hf : BinOk T X W (binaryOp op) f) (ha : PE X a (tE T W ra)) (hb : PE X b (tE T W rb)) :
    PE X (.BinOp a op b pos) (tE T W fun E S => (ra E S).bind fun x S' => (rb E S').bind fun y S'' => f x y S'') := ⟨fun pins s σ H Q I h => wpAny_BinOp (two_run hf ha hb I h)⟩
theorem de_cmp {op : CmpOp} {f : D → D → Store → Res D} (hf : BinOk T X W (compareOp op) f) (ha : PE X a (tE T W ra)) (hb : PE X b (tE T W rb)) (hm : behindInMarks op b = false) :
    PE X (.Compare a [op] [b] pos) (tE T W fun E S => (ra E S).bind fun x S' => (rb E S').bind fun y S'' => f x y S'') := ⟨fun pins s σ H Q I h => wpAny_Compare1 (two_run hf ha hb I h) hm⟩
end

section
variable {T : Tab} {X : Cx} {W : WX}
open PyProof.Rows
theorem ok_add (hK : X.K = T.K) : BinOk T X W (binaryOp .Add) (fun x y S => addD S x y) := by
  intro pins s σ H x y v u Q d e S w I rx ry so rd re p
  have go : ∀ a b, seqX S d = some a → seqX S e = some b → Post T (RV T) W σ w Q (if a.length + b.length ≤ lim then .ok (.lst (a ++ b)) S else .bad) → wpAny (model X.prog X.w) X.A (binaryOp .Add v u) (EP X pins σ Q) X.xe s := fun a b ea eb p => by
    split at p
    · rename_i hl
      obtain ⟨l1, xs, rfl, s1, q1⟩ := seqX_rep so rd ea
      obtain ⟨l2, zs, rfl, s2, q2⟩ := seqX_rep so re eb
      exact op_cat pins s σ H _ _ v u Q I rx ry ⟨l1, l2, xs, zs, rfl, rfl, s1, s2, by rw [q1.length, q2.length]; exact lim_le hl, new_lst so (q1.append q2) p⟩
    · exact p.elim
  have gen : addD S d e = (match seqX S d, seqX S e with
    | some a, some b => if a.length + b.length ≤ lim then Res.ok (D.lst (a ++ b)) S else .bad
    | _, _ => .bad) → wpAny (model X.prog X.w) X.A (binaryOp .Add v u) (EP X pins σ Q) X.xe s := fun q => by
    have p : Post T (RV T) W σ w Q (addD S d e) := p
    rw [q] at p
    cases ea : seqX S d with
    | none => rw [ea] at p; exact p.elim
    | some a =>
      cases eb : seqX S e with
      | none => rw [ea, eb] at p; exact p.elim
      | some b => rw [ea, eb] at p; exact go a b ea eb p
  cases d with
  | int i =>
    cases e with
    | int j =>
      simp only [Rep] at rd re
      subst rd; subst re
      exact op_add pins s σ H _ _ v u Q I rx ry ⟨i, j, rfl, rfl, ret_val so (by simp only [Rep]) p⟩
    | _ => exact gen rfl
  | str i =>
    cases e with
    | str j =>
      simp only [Rep] at rd re
      subst rd; subst re
      simp only [addD] at p
      split at p
      · rename_i hl
        exact op_add_str pins s σ H _ _ v u Q I rx ry ⟨i, j, rfl, rfl, lim_le hl, ret_val so (by simp only [Rep]) p⟩
      · exact p.elim
    | _ => exact gen rfl
  | tup a =>
    cases e with
    | tup b =>
      simp only [addD] at p
      split at p
      · rename_i hl
        obtain ⟨l1, xs, rfl, s1, q1⟩ := tup_rep so rd
        obtain ⟨l2, zs, rfl, s2, q2⟩ := tup_rep so re
        have n1 := q1.length
        have n2 := q2.length
        refine op_catA pins s σ H _ _ v u Q I rx ry ⟨l1, l2, xs, zs, rfl, rfl, by rw [hK]; exact s1, by rw [hK]; exact s2, by rw [n1, n2]; exact lim_le hl, fun e1 => ?_, fun _ e2 => ?_, fun _ _ => new_tup so (q1.append q2) p⟩
        · have ea : a = [] := List.length_eq_zero_iff.mp (by rw [← n1, e1]; rfl)
          subst ea
          exact ret_val so re p
        · have eb : b = [] := List.length_eq_zero_iff.mp (by rw [← n2, e2]; rfl)
          subst eb
          rw [List.append_nil] at p
          exact ret_val so rd p
      · exact p.elim
    | _ => exact gen rfl
  | _ => cases e <;> exact gen rfl
theorem ok_int2 {op : Operator} {C : Int → Int → Prop} [DecidableRel C] {g : Int → Int → Int} {m : Value → Value → Sem Value} (h : OpR X m (rI C fun i j => .int (g i j))) {f : D → D → Store → Res D}
    (hf : ∀ d e S, f d e S = match d, e with
      | .int i, .int j => if C i j then .ok (.int (g i j)) S else .bad
      | _, _ => .bad) : BinOk T X W m f := by
  intro pins s σ H x y v u Q d e S w I rx ry so rd re p
  rw [hf] at p
  cases d with
  | int i =>
    cases e with
    | int j =>
      simp only at p
      split at p
      · rename_i hc
        simp only [Rep] at rd re
        subst rd; subst re
        exact h pins s σ H _ _ v u Q I rx ry ⟨i, j, rfl, rfl, hc, ret_val so (by simp only [Rep]) p⟩
      · exact p.elim
    | _ => exact p.elim
  | _ => exact p.elim
theorem ok_sub : BinOk T X W (binaryOp .Sub) (fun x y S => match x, y with
    | .int i, .int j => .ok (.int (i - j)) S
    | _, _ => .bad) := ok_int2 (op := .Sub) (C := fun _ _ => True) (g := fun i j => i - j) (fun pins s σ H x y v u Q I rx ry ⟨i, j, a, b, _, q⟩ => op_sub pins s σ H x y v u Q I rx ry ⟨i, j, a, b, q⟩) (fun d e S => by
  cases d <;> first | rfl | (cases e <;> first | rfl | simp))
theorem ok_mod : BinOk T X W (binaryOp .Mod) (fun x y S => match x, y with
    | .int i, .int j => if 0 < j then .ok (.int (i % j)) S else .bad
    | _, _ => .bad) := ok_int2 (op := .Mod) (C := fun _ j => 0 < j) op_mod fun d e S => by cases d <;> first | rfl | (cases e <;> rfl)
instance : DecidableRel CDiv := fun i j => by unfold CDiv; infer_instance
instance : DecidableRel CPow := fun i j => by unfold CPow; infer_instance
instance : DecidableRel CMul := fun i j => by unfold CMul; infer_instance
theorem ok_fdiv : BinOk T X W (binaryOp .FloorDiv) (fun x y S => match x, y with
    | .int i, .int j => if 0 < j ∧ j < 1073741824 then .ok (.int (i / j)) S else .bad
    | _, _ => .bad) := ok_int2 (op := .FloorDiv) (C := CDiv) op_fdiv fun d e S => by
  cases d <;> first | rfl | (cases e <;> first | rfl | (simp only [CDiv]))
theorem ok_pow : BinOk T X W (binaryOp .Pow) (fun x y S => match x, y with
    | .int i, .int j => if 0 ≤ j ∧ j ≤ 1000000 ∧ i.natAbs < 2 ^ 64 then .ok (.int (i ^ j.toNat)) S else .bad
    | _, _ => .bad) := ok_int2 (op := .Pow) (C := CPow) op_pow fun d e S => by
  cases d <;> first | rfl | (cases e <;> first | rfl | (simp only [CPow]))
theorem rep_size (a : Array Nat) : ∀ (n : Nat) (acc : Array Nat), ((List.replicate n a).foldl (· ++ ·) acc).size = acc.size + n * a.size
  | 0, acc => by simp
  | n + 1, acc => by
    rw [List.replicate_succ, List.foldl_cons, rep_size a n, Array.size_append, Nat.succ_mul]
    omega
theorem ok_mul : BinOk T X W (binaryOp .Mult) (fun x y S => mulD S x y) := by
  intro pins s σ H x y v u Q d e S w I rx ry so rd re p
  have p : Post T (RV T) W σ w Q (mulD S d e) := p
  have lst : ∀ j, e = .int j → mulD S d e = (match seqX S d with
    | some a => if j.natAbs ≤ 1000 ∧ a.length ≤ 1000 then Res.ok (D.lst (List.replicate j.toNat a).flatten) S else .bad
    | none => .bad) → wpAny (model X.prog X.w) X.A (binaryOp .Mult v u) (EP X pins σ Q) X.xe s := fun j ej q => by
    rw [q] at p
    cases ea : seqX S d with
    | none => rw [ea] at p; exact p.elim
    | some a =>
      rw [ea] at p
      have p2 : Post T (RV T) W σ w Q (if j.natAbs ≤ 1000 ∧ a.length ≤ 1000 then Res.ok (D.lst (List.replicate j.toNat a).flatten) S else .bad) := p
      split at p2
      · rename_i hl
        subst ej
        obtain ⟨l1, xs, rfl, s1, q1⟩ := seqX_rep so rd ea
        simp only [Rep] at re
        subst re
        have n1 := q1.length
        have m : xs.length * j.toNat ≤ 1000 * 1000 := Nat.mul_le_mul (by omega) (by omega)
        exact op_rep pins s σ H _ _ v u Q I rx ry ⟨l1, j, xs, rfl, rfl, s1, by omega, by omega, lim_le m, new_lst so (q1.rep _) p2⟩
      · exact p2.elim
  cases e with
  | int j =>
    cases d with
    | int i =>
      simp only [mulD] at p
      split at p
      · rename_i hc
        simp only [Rep] at rd re
        subst rd; subst re
        exact op_mul pins s σ H _ _ v u Q I rx ry ⟨i, j, rfl, rfl, hc, ret_val so (by simp only [Rep]) p⟩
      · exact p.elim
    | str a =>
      simp only [mulD] at p
      split at p
      · rename_i hl
        simp only [Rep] at rd re
        subst rd; subst re
        obtain ⟨t, rfl⟩ := rx
        obtain ⟨t', rfl⟩ := ry
        have hm : a.length * j.toNat ≤ 1000 * 1000 := Nat.mul_le_mul (by omega) (by omega)
        refine PySem.P.mul_str (by
          have h1 : ¬ j < -(2 ^ 63 : Int) := by omega
          have h2 : ¬ j ≥ 2 ^ 63 := by omega
          rw [decide_eq_false h1, decide_eq_false h2]; rfl) (fun _ _ => ?_) (fun _ _ => ?_) ?_
        · have : (1000 : Int) ≤ (2 ^ 63 - 1) / j := by
            have h3 : (1000 : Int) * j ≤ 2 ^ 63 - 1 := by omega
            exact (Int.le_ediv_iff_mul_le (by omega)).mpr h3
          omega
        · have hs := sizeLine_eq
          first
            | (unfold Builtin.Str.tooLong; exact decide_eq_false (by omega))
            | (show Builtin.Str.tooLong _ = false; simp [Builtin.Str.tooLong]; omega)
        · rw [if_neg (by omega), if_neg (by
            have h1 : ¬ j = 1 := by omega
            have h2 : ¬ a.length = 0 := by omega
            simp [h1, h2])]
          have q := ret_val so (d := .str ⟨(List.replicate j.toNat a.cps).foldl (· ++ ·) #[]⟩) (v := .str ⟨(List.replicate j.toNat a.cps).foldl (· ++ ·) #[]⟩) (by simp only [Rep]) p
          first
            | exact ⟨.str _, H, I.tok _, ⟨_, rfl⟩, q⟩
            | exact ⟨by (show Array.size _ ≤ sizeLine); rw [rep_size, Nat.mul_comm]; exact lim_le (by have e0 : (#[] : Array Nat).size = 0 := rfl; rw [e0, Nat.zero_add]; exact hm), ⟨.str _, H, I.tok _, ⟨_, rfl⟩, q⟩⟩
      · exact p.elim
    | _ => exact lst j rfl rfl
  | _ => cases d <;> exact p.elim
end
end DV
end
section
/-! Names, constants, truth, and, or, not, tests, displays, arguments. -/
set_option Elab.async false
set_option linter.all false
set_option maxRecDepth 100000
set_option maxHeartbeats 400000
namespace DV
open PySem L2 PyProof.Rows
section
variable {T : Tab} {X : Cx} {W : WX}
theorem de_var {i : Nat} {x : Str} {pos : Pos} (hN : X.N[i]? = some x) (hv : Vis X.env.scope x) (hd : (x == ("__debug__" : Str)) = false) (hcd : (x == ("__classdict__" : Str)) = false) :
    PE X (.Name x pos) (tE T W fun E S => match E[i]? with | some (some d) => .ok d S | _ => .bad) := by
  refine PE.imp (pe_var hN hv hd hcd) fun σ H Q ⟨E, S, w, eo, so, p⟩ => ?_
  simp only at p
  split at p
  · rename_i d e
    obtain ⟨v, h1, h2⟩ := eo.at_ i d e
    exact ⟨v, h1, ret_val so h2 p⟩
  · exact p.elim
/-- a value that is known beforehand -/
theorem de_known {e : Expr} {v : V} {d : D} (h : PE X e (tC v)) (hr : ∀ w, Rep T w d v) : PE X e (tE T W fun _ S => .ok d S) :=
  PE.imp h fun σ H Q ⟨E, S, w, eo, so, p⟩ => ret_val so (hr w) p
theorem ok_truth {pins : List (Addr × Obj)} {s : Shared} {σ : L2.St} {H : Hp} {x : V} {v : Value} {d : D} {S : Store} {w : Wd} {b : Bool} {Q : Bool → Shared → Prop} (hK : X.K = T.K) (I : Inv X pins σ H s) (rv : RelV x v) (so : StoreOk T S w H) (rd : Rep T w d x) (e : truD S d = some b)
    (h : ∀ s', Inv X pins σ H s' → Q b s') : wpAny (model X.prog X.w) X.A (truthy v) Q X.xe s := by
  refine thn (tru_ok pins s σ H x v (fun c H2 => c = b ∧ H2 = H) I rv ⟨b, ?_, rfl, rfl⟩) fun c s2 ⟨H2, I2, e1, e2⟩ => ?_
  · have seq : ∀ ds, seqV S d = some ds → b = !ds.isEmpty → TruV X.K x H b := fun ds e1 e2 => by
      obtain ⟨a, xs, rfl, h1, h2⟩ := seq_rep so rd e1
      exact .inl ⟨xs, by rw [hK]; exact h1, by rw [e2, h2.nil_iff]⟩
    cases d with
    | non => simp only [Rep] at rd; subst rd; simpa [truD, TruV] using e.symm
    | bl k => simp only [Rep] at rd; subst rd; simpa [truD, TruV] using e.symm
    | int i => simp only [Rep] at rd; subst rd; simpa [truD, TruV] using e.symm
    | str z =>
      simp only [Rep] at rd
      subst rd
      simp only [truD] at e
      split at e
      · rename_i hl
        refine ⟨lim_le hl, ?_⟩
        have e' := (Option.some.inj e).symm
        rw [e']
        cases hz : z.length <;> simp
        omega
      · cases e
    | tup ds =>
      obtain ⟨a, xs, rfl, h1, h2⟩ := tup_rep so rd
      refine .inr (.inl ⟨xs, by rw [hK]; exact h1, ?_⟩)
      rw [h2.nil_iff]; simpa [truD] using e.symm
    | ctup ds =>
      obtain ⟨a, xs, rfl, h1, h2⟩ := ctup_rep so rd
      refine .inr (.inl ⟨xs, by rw [hK]; exact h1, ?_⟩)
      rw [h2.nil_iff]; simpa [truD] using e.symm
    | lst ds => exact seq ds rfl (by simpa [truD, seqV, seqX] using e.symm)
    | scr ns => exact seq _ rfl (by simpa [truD, seqV] using e.symm)
    | loc n =>
      simp only [truD] at e
      cases es : seqV S (.loc n) with
      | some ds => rw [es] at e; exact seq ds es (Option.some.inj e).symm
      | none => rw [es] at e; cases e
    | _ => simp [truD, seqV, seqX] at e
  · rw [e2] at I2; rw [e1]; exact h s2 I2

/-- the truth of what r gives -/
def truR (r : Env → Store → Res D) : Env → Store → Res Bool := fun E S => (r E S).bind fun x S' => ofO (truD S' x) S'
variable {a b c : Expr} {ra rb rc : Env → Store → Res D} {pos : Pos}
theorem ok_test {pins : List (Addr × Obj)} {s : Shared} {σ : L2.St} {H : Hp} {x : V} {v : Value} {d : D} {S : Store} {w : Wd} {Q : Bool → Hp → Prop} (hK : X.K = T.K) (I : Inv X pins σ H s) (rv : RelV x v) (so : StoreOk T S w H) (rd : Rep T w d x)
    (p : Post T RB W σ w Q (ofO (truD S d) S)) : wpAny (model X.prog X.w) X.A (truthy v) (TP X pins σ Q) X.xe s := by
  cases e : truD S d with
  | none => rw [e] at p; exact p.elim
  | some b =>
    rw [e] at p
    exact ok_truth hK I rv so rd e fun s' I' => ⟨H, I', p b H w (Wd.le.refl w) so rfl⟩
theorem dt_plain (hK : X.K = T.K) (ha : PE X a (tE T W ra)) (he : ∀ whole, isTrue a X.env whole = (do let v ← whole; standAt a.pos; holding [v] (truthy v))) : PT X a (tT T W (truR ra)) :=
  ⟨fun pins s σ H Q I ⟨E, S, w, eo, so, p⟩ => isTrue_plain (thn (run1 ha I eo so p) fun v s1 ⟨x, H1, d, S1, w1, I1, r1, l1, so1, rd, eo1, p1⟩ => ok_test hK I1 r1 so1 rd p1) (he _)⟩
/-- and, or as values -/
def andR (ra rb : Env → Store → Res D) : Env → Store → Res D := fun E S => (ra E S).bind fun x S' => match truD S' x with
    | some true => rb E S'
    | some false => .ok x S'
    | none => .bad
def orR (ra rb : Env → Store → Res D) : Env → Store → Res D := fun E S => (ra E S).bind fun x S' => match truD S' x with
    | some true => .ok x S'
    | some false => rb E S'
    | none => .bad
theorem de_and {rest : List Expr} (hK : X.K = T.K) (ha : PE X a (tE T W ra)) (hb : PE X (.BoolOp .And (b :: rest) pos) (tE T W rb)) : PE X (.BoolOp .And (a :: b :: rest) pos) (tE T W (andR ra rb)) := by
  refine ⟨fun pins s σ H Q I ⟨E, S, w, eo, so, p⟩ => ?_⟩
  refine BoolOp_and (thn (run1 ha I eo so p) fun v s1 ⟨x, H1, d, S1, w1, I1, r1, l1, so1, rd, eo1, p1⟩ => ?_)
  cases e : truD S1 d with
  | none => rw [e] at p1; exact p1.elim
  | some k =>
    rw [e] at p1
    refine ok_truth hK I1 r1 so1 rd e fun s2 I2 => ?_
    cases k with
    | true => exact hb.run pins s2 σ H1 Q I2 ⟨E, S1, w1, eo1, so1, p1⟩
    | false => exact ⟨x, H1, I2, r1, ret_val so1 rd p1⟩
theorem de_or {rest : List Expr} (hK : X.K = T.K) (ha : PE X a (tE T W ra)) (hb : PE X (.BoolOp .Or (b :: rest) pos) (tE T W rb)) : PE X (.BoolOp .Or (a :: b :: rest) pos) (tE T W (orR ra rb)) := by
  refine ⟨fun pins s σ H Q I ⟨E, S, w, eo, so, p⟩ => ?_⟩
  refine BoolOp_or (thn (run1 ha I eo so p) fun v s1 ⟨x, H1, d, S1, w1, I1, r1, l1, so1, rd, eo1, p1⟩ => ?_)
  cases e : truD S1 d with
  | none => rw [e] at p1; exact p1.elim
  | some k =>
    rw [e] at p1
    refine ok_truth hK I1 r1 so1 rd e fun s2 I2 => ?_
    cases k with
    | false => exact hb.run pins s2 σ H1 Q I2 ⟨E, S1, w1, eo1, so1, p1⟩
    | true => exact ⟨x, H1, I2, r1, ret_val so1 rd p1⟩
theorem de_not (hK : X.K = T.K) (ha : PE X a (tE T W ra)) : PE X (.UnaryOp .Not a pos) (tE T W fun E S => (ra E S).bind fun x S' => match truD S' x with
    | some b => .ok (.bl (!b)) S'
    | none => .bad) := by
  refine ⟨fun pins s σ H Q I ⟨E, S, w, eo, so, p⟩ => ?_⟩
  refine UnaryOp_ (thn (run1 ha I eo so p) fun v s1 ⟨x, H1, d, S1, w1, I1, r1, l1, so1, rd, eo1, p1⟩ => ?_)
  cases e : truD S1 d with
  | none => rw [e] at p1; exact p1.elim
  | some k =>
    rw [e] at p1
    exact not_of (ok_truth hK I1 r1 so1 rd e fun s2 I2 => ⟨.bl (!k), H1, I2, rfl, ret_val so1 (by simp only [Rep]) p1⟩)
theorem de_ite (hc : PT X c (tT T W (truR rc))) (ha : PE X a (tE T W ra)) (hb : PE X b (tE T W rb)) : PE X (.IfExp c a b pos) (tE T W fun E S => (rc E S).bind fun x S' => match truD S' x with
    | some true => ra E S'
    | some false => rb E S'
    | none => .bad) := by
  refine ⟨fun pins s σ H Q I ⟨E, S, w, eo, so, p⟩ => ?_⟩
  have p' : Post T (RV T) W σ w Q ((truR rc E S).bind fun b S' => if b = true then ra E S' else rb E S') := by
    unfold truR
    simp only at p
    cases h : rc E S with
    | ok x S' =>
      rw [h] at p
      simp only [Res.bind] at p ⊢
      cases e : truD S' x with
      | none => rw [e] at p; exact p.elim
      | some k => rw [e] at p; cases k <;> exact p
    | exc c fs S' => rw [h] at p; exact p
    | bad => rw [h] at p; exact p
  refine wpAny_IfExp (thn (runT hc I eo so p') fun k s1 ⟨H1, S1, w1, I1, l1, so1, eo1, p1⟩ => ?_)
  cases k with
  | true => exact ha.run pins s1 σ H1 Q I1 ⟨E, S1, w1, eo1, so1, p1⟩
  | false => exact hb.run pins s1 σ H1 Q I1 ⟨E, S1, w1, eo1, so1, p1⟩
/-! tests -/
theorem dt_not (ha : PT X a (tT T W (truR ra))) : PT X (.UnaryOp .Not a pos) (tT T W (truR fun E S => (ra E S).bind fun x S' => match truD S' x with
    | some b => .ok (.bl (!b)) S'
    | none => .bad)) := by
  refine ⟨fun pins s σ H Q I ⟨E, S, w, eo, so, p⟩ => ?_⟩
  have p' : Post T RB W σ w Q ((truR ra E S).bind fun b S' => .ok (!b) S') := by
    unfold truR at p ⊢
    simp only at p ⊢
    cases h : ra E S with
    | ok x S' =>
      rw [h] at p
      simp only [Res.bind] at p ⊢
      cases e : truD S' x with
      | none => rw [e] at p; exact p.elim
      | some k => rw [e] at p; exact p
    | exc c fs S' => rw [h] at p; exact p
    | bad => rw [h] at p; exact p
  refine isTrue_not (thn (runT ha I eo so p') fun k s1 ⟨H1, S1, w1, I1, l1, so1, eo1, p1⟩ => ⟨H1, I1, p1 (!k) H1 w1 (Wd.le.refl _) so1 rfl⟩)
theorem dt_ite (hc : PT X c (tT T W (truR rc))) (ha : PT X a (tT T W (truR ra))) (hb : PT X b (tT T W (truR rb))) : PT X (.IfExp c a b pos) (tT T W (truR fun E S => (rc E S).bind fun x S' => match truD S' x with
    | some true => ra E S'
    | some false => rb E S'
    | none => .bad)) := by
  refine ⟨fun pins s σ H Q I ⟨E, S, w, eo, so, p⟩ => ?_⟩
  have p' : Post T RB W σ w Q ((truR rc E S).bind fun b S' => if b = true then truR ra E S' else truR rb E S') := by
    unfold truR at p ⊢
    simp only at p ⊢
    cases h : rc E S with
    | ok x S' =>
      rw [h] at p
      simp only [Res.bind] at p ⊢
      cases e : truD S' x with
      | none => rw [e] at p; exact p.elim
      | some k => rw [e] at p; cases k <;> exact p
    | exc c fs S' => rw [h] at p; exact p
    | bad => rw [h] at p; exact p
  show wpAny (model X.prog X.w) X.A (do if ← isTrue c X.env (eval c X.env) then isTrue a X.env (eval a X.env) else isTrue b X.env (eval b X.env)) _ _ s
  refine wpAny_bind (thn (runT hc I eo so p') fun k s1 ⟨H1, S1, w1, I1, l1, so1, eo1, p1⟩ => ?_)
  cases k with
  | true => exact ha.run pins s1 σ H1 Q I1 ⟨E, S1, w1, eo1, so1, p1⟩
  | false => exact hb.run pins s1 σ H1 Q I1 ⟨E, S1, w1, eo1, so1, p1⟩
/-- a test whatever its whole is -/
theorem pw_one {op} {t : TT} (ha : PT X a t) : PW X (.BoolOp op [a] pos) t := by
  cases op with
  | And => exact pw_and1 ha
  | Or => exact pw_or1 ha
theorem dw_and {rest : List Expr} (ha : PT X a (tT T W (truR ra))) (hb : PW X (.BoolOp .And (b :: rest) pos) (tT T W (truR rb))) : PW X (.BoolOp .And (a :: b :: rest) pos) (tT T W (truR (andR ra rb))) := by
  refine ⟨fun wh pins s σ H Q I ⟨E, S, w, eo, so, p⟩ => ?_⟩
  have p' : Post T RB W σ w Q ((truR ra E S).bind fun b S' => if b = true then truR rb E S' else .ok false S') := by
    unfold truR andR at p
    unfold truR
    cases h : ra E S with
    | ok x S' =>
      rw [h] at p
      simp only [Res.bind] at p ⊢
      cases e : truD S' x with
      | none => rw [e] at p; exact p.elim
      | some k =>
        rw [e] at p
        cases k with
        | true => exact p
        | false => simp only [e] at p; exact p
    | exc c fs S' => rw [h] at p; exact p
    | bad => rw [h] at p; exact p
  refine isTrue_and (thn (runT ha I eo so p') fun k s1 ⟨H1, S1, w1, I1, l1, so1, eo1, p1⟩ => ?_)
  cases k with
  | true => exact hb.run wh pins s1 σ H1 Q I1 ⟨E, S1, w1, eo1, so1, p1⟩
  | false => exact ⟨H1, I1, p1 false H1 w1 (Wd.le.refl _) so1 rfl⟩
theorem dw_or {rest : List Expr} (ha : PT X a (tT T W (truR ra))) (hb : PW X (.BoolOp .Or (b :: rest) pos) (tT T W (truR rb))) : PW X (.BoolOp .Or (a :: b :: rest) pos) (tT T W (truR (orR ra rb))) := by
  refine ⟨fun wh pins s σ H Q I ⟨E, S, w, eo, so, p⟩ => ?_⟩
  have p' : Post T RB W σ w Q ((truR ra E S).bind fun b S' => if b = true then .ok true S' else truR rb E S') := by
    unfold truR orR at p
    unfold truR
    cases h : ra E S with
    | ok x S' =>
      rw [h] at p
      simp only [Res.bind] at p ⊢
      cases e : truD S' x with
      | none => rw [e] at p; exact p.elim
      | some k =>
        rw [e] at p
        cases k with
        | false => exact p
        | true => simp only [e] at p; exact p
    | exc c fs S' => rw [h] at p; exact p
    | bad => rw [h] at p; exact p
  refine isTrue_or (thn (runT ha I eo so p') fun k s1 ⟨H1, S1, w1, I1, l1, so1, eo1, p1⟩ => ?_)
  cases k with
  | false => exact hb.run wh pins s1 σ H1 Q I1 ⟨E, S1, w1, eo1, so1, p1⟩
  | true => exact ⟨H1, I1, p1 true H1 w1 (Wd.le.refl _) so1 rfl⟩
end
end DV
end
section
/-! Argument lists, displays, subscripts, slices, fields. -/
set_option Elab.async false
set_option linter.all false
set_option maxRecDepth 100000
set_option maxHeartbeats 400000
namespace DV
open PySem L2 PyProof.Rows
section
variable {T : Tab} {X : Cx} {W : WX} {e a b : Expr} {es : List Expr} {re ra rb : Env → Store → Res D} {rs : Env → Store → Res (List D)} {pos : Pos}
theorem runA {α β : Type} {R' : Wd → α → β → Prop} {f : List D → Store → Res α} (ha : PA X es (tA T W rs)) {pos : Pos} {pins : List (Addr × Obj)} {s : Shared} {σ : L2.St} {H : Hp} {E : Env} {S : Store} {w : Wd} {Q : β → Hp → Prop} (I : Inv X pins σ H s)
    (eo : EnvOk T w σ E) (so : StoreOk T S w H) (p : Post T R' W σ w Q ((rs E S).bind f)) :
    wpAny (model X.prog X.w) X.A (spliced (backTo pos (starEach es X.env))) (fun us s' => ∃ vs H' ds S' w', Inv X pins σ H' s' ∧ Vals vs us ∧ Wd.le w w' ∧ StoreOk T S' w' H' ∧ Reps T w' ds vs ∧ EnvOk T w' σ E ∧ Post T R' W σ w' Q (f ds S')) X.xe s := by
  refine thn (ha.run pos pins s σ H (fun vs H' => ∃ d S' w', Wd.le w w' ∧ StoreOk T S' w' H' ∧ Reps T w' d vs ∧ Post T R' W σ w' Q (f d S')) I ⟨E, S, w, eo, so, Post.bind p⟩) fun u s' ⟨v, H', I', rv, d, S', w', l, so', rd, p'⟩ => ?_
  exact ⟨v, H', d, S', w', I', rv, l, so', rd, eo.mono l, p'⟩
theorem da_nil : PA X [] (tA T W fun _ S => .ok [] S) := PA.imp pa_nil fun σ H Q ⟨E, S, w, eo, so, p⟩ => p [] H w (Wd.le.refl w) so Reps.nil
theorem da_cons (he : PE X e (tE T W re)) (hr : PA X es (tA T W rs)) (hs : starEach (e :: es) X.env = (false, eval e X.env) :: starEach es X.env) :
    PA X (e :: es) (tA T W fun E S => (re E S).bind fun x S' => (rs E S').bind fun l S'' => .ok (x :: l) S'') := by
  refine ⟨fun pos pins s σ H Q I ⟨E, S, w, eo, so, p⟩ => ?_⟩
  rw [hs]
  show wpAny _ _ (spliced ((false, eval e X.env) :: backTo pos (starEach es X.env))) _ _ s
  refine Calls.spliced_cons (thn (run1 he I eo so p) fun v s1 ⟨x, H1, d, S1, w1, I1, r1, l1, so1, rd, eo1, p1⟩ => ?_)
  refine thn (runA hr I1 eo1 so1 p1) fun us s2 ⟨vs, H2, ds, S2, w2, I2, r2, l2, so2, rd2, eo2, p2⟩ => ?_
  exact ⟨x :: vs, H2, I2, .cons r1 r2, p2 _ H2 w2 (Wd.le.refl w2) so2 (Reps.cons (rd.mono l2) rd2)⟩
theorem da_star {p : Pos} (hK : X.K = T.K) (he : PE X e (tE T W re)) (hr : PA X es (tA T W rs)) :
    PA X (.Starred e p :: es) (tA T W fun E S => (re E S).bind fun x S' => match anyV S' x with
      | some ds => (rs E S').bind fun l S'' => .ok (ds ++ l) S''
      | none => .bad) := by
  refine PA.imp (StX.pa_star he hr) fun σ H Q ⟨E, S, w, eo, so, p⟩ => ?_
  refine ⟨E, S, w, eo, so, ?_⟩
  have q := Post.bind (R := RV T) p
  cases z : re E S with
  | exc c fs S' => rw [z] at q; exact q
  | bad => rw [z] at q; exact q
  | ok d S' =>
    rw [z] at q
    refine fun v H1 w1 l1 so1 rd => ?_
    obtain ⟨d', S2, w2, l2, so2, rd2, p2⟩ := q v H1 w1 l1 so1 rd
    cases ea : anyV S2 d' with
    | none => rw [ea] at p2; exact p2.elim
    | some ds =>
      rw [ea] at p2
      obtain ⟨a, xs, rfl, h1, h2⟩ := any_rep so2 rd2 ea
      refine ⟨a, xs, rfl, by rw [hK]; exact h1.symm, ?_⟩
      refine ⟨E, S2, w2, eo.mono l2, so2, ?_⟩
      have q2 := Post.bind (R := RVs T) p2
      cases z2 : rs E S2 with
      | exc c fs S' => rw [z2] at q2; exact q2
      | bad => rw [z2] at q2; exact q2
      | ok l S3 =>
        rw [z2] at q2
        refine fun vs H3 w3 l3 so3 rd3 => ?_
        obtain ⟨l', S4, w4, l4, so4, rd4, p4⟩ := q2 vs H3 w3 l3 so3 rd3
        exact p4 _ H3 w4 (Wd.le.refl w4) so4 ((h2.mono l4).append rd4)
/-- displays -/
theorem de_tup {k : Nat} (h : PA X es (tA T W rs)) : PE X (.Tuple es k pos) (tE T W fun E S => (rs E S).bind fun ds S' => if okLen ds then .ok (.tup ds) S' else .bad) := by
  refine PE.imp (pe_tup h) fun σ H Q ⟨E, S, w, eo, so, p⟩ => ?_
  refine ⟨E, S, w, eo, so, ?_⟩
  have q := Post.bind (R := RVs T) p
  cases z : rs E S with
  | exc c fs S' => rw [z] at q; exact q
  | bad => rw [z] at q; exact q
  | ok l S' =>
    rw [z] at q
    refine fun vs H1 w1 l1 so1 rd => ?_
    obtain ⟨d', S2, w2, l2, so2, rd2, p2⟩ := q vs H1 w1 l1 so1 rd
    split at p2
    · rename_i hl
      exact ⟨by rw [rd2.length]; exact lim_le (by simpa [okLen] using hl), new_tup so2 rd2 p2⟩
    · exact p2.elim
theorem de_lst {m : Bool} (h : PA X es (tA T W rs)) : PE X (.List es pos) (tE T W fun E S => (rs E S).bind fun ds S' => if okLen ds then (if m then alloc (.lst ds) S' else .ok (.lst ds) S') else .bad) := by
  refine PE.imp (pe_lst h) fun σ H Q ⟨E, S, w, eo, so, p⟩ => ?_
  refine ⟨E, S, w, eo, so, ?_⟩
  have q := Post.bind (R := RVs T) p
  cases z : rs E S with
  | exc c fs S' => rw [z] at q; exact q
  | bad => rw [z] at q; exact q
  | ok l S' =>
    rw [z] at q
    refine fun vs H1 w1 l1 so1 rd => ?_
    obtain ⟨d', S2, w2, l2, so2, rd2, p2⟩ := q vs H1 w1 l1 so1 rd
    split at p2
    · rename_i hl
      refine ⟨by rw [rd2.length]; exact lim_le (by simpa [okLen] using hl), ?_⟩
      cases m with
      | true => exact new_cell so2 rd2 p2
      | false => exact new_lst so2 rd2 p2
    · exact p2.elim
/-- a field -/
theorem ins_rep {w : Wd} {S : Store} {H : Hp} (so : StoreOk T S w H) {d : D} {v : V} {c : Nat} {fs : List (Nat × D)} (r : Rep T w d v) (e : insV S d = some (c, fs)) : ∃ a C dx hs, v = .ref a ∧ T.ca c = some C ∧ H a = some (.ins C dx hs) ∧ RepF T w fs hs := by
  cases d with
  | ins c' fs' =>
    simp only [insV, Option.some.injEq, Prod.mk.injEq] at e
    obtain ⟨rfl, rfl⟩ := e
    simp only [Rep] at r
    obtain ⟨a, C, dx, hs, rfl, h1, h2, h3⟩ := r
    exact ⟨a, C, dx, hs, rfl, h1, so.G.st _ _ rfl h2, h3⟩
  | loc n =>
    simp only [insV] at e
    simp only [Rep] at r
    obtain ⟨a, rfl, q⟩ := r
    split at e
    · rename_i c' fs' he
      cases e
      obtain ⟨C, dx, hs, h1, h2, h3⟩ := so.cell n a _ q he
      exact ⟨a, C, dx, hs, rfl, h1, h2, h3⟩
    · cases e
  | _ => simp [insV] at e
theorem look_rep {w : Wd} (inj : ∀ f g, T.nm f = T.nm g → f = g) : ∀ {fs : List (Nat × D)} {hs : List (Str × V)} {f : Nat}, RepF T w fs hs → (∀ d, look f fs = some d → ∃ v, hs.lookup (T.nm f) = some v ∧ Rep T w d v) ∧ (look f fs = none → hs.lookup (T.nm f) = none)
  | [], _, f, h => by
    simp only [RepF] at h
    subst h
    exact ⟨fun d e => by simp [look] at e, fun _ => rfl⟩
  | (g, a) :: r, _, f, h => by
    simp only [RepF] at h
    obtain ⟨x, q, rfl, h1, h2⟩ := h
    have ih := look_rep inj (f := f) h2
    by_cases e : g = f
    · subst e
      refine ⟨fun d e => ?_, fun e => by simp [look] at e⟩
      simp only [look, beq_self_eq_true, if_true, Option.some.injEq] at e
      subst e
      exact ⟨x, by simp [List.lookup], h1⟩
    · have e1 : (g == f) = false := by simpa using e
      have e2 : (T.nm f == T.nm g) = false := by
        cases z : (T.nm f == T.nm g) with
        | false => rfl
        | true => exact absurd (inj _ _ (beq_iff_eq.mp z)).symm e
      constructor
      · intro d hd
        simp only [look, e1] at hd
        obtain ⟨v, q1, q2⟩ := ih.1 d (by simpa using hd)
        exact ⟨v, by simp only [List.lookup, e2]; exact q1, q2⟩
      · intro hd
        simp only [look, e1] at hd
        simp only [List.lookup, e2]
        exact ih.2 (by simpa using hd)
theorem fldV_ins {S : Store} {d : D} {fs : List (Nat × D)} (e : fldV S d = some fs) (h : ¬ ∃ c fs', d = .exo c fs') : ∃ c, insV S d = some (c, fs) := by
  have gen : (insV S d).map (·.2) = some fs → ∃ c, insV S d = some (c, fs) := fun e => by
    obtain ⟨⟨c, fs'⟩, h1, h2⟩ := Option.map_eq_some_iff.mp e
    cases h2
    exact ⟨c, h1⟩
  cases d with
  | exo c fs' => exact absurd ⟨c, fs', rfl⟩ h
  | _ => exact gen e
theorem de_fld {f : Nat} {x : Str} (inj : ∀ f g, T.nm f = T.nm g → f = g) (hx : T.nm f = x) (hc : ∀ c C, T.ca c = some C → Cls X.K C ∧ NoAttr X.K C x) (hxc : ∀ c C, T.xa c = some C → XfC X.K C ∧ PySem.W.findIn X.K (.ref C) x = some none) (ha : PE X a (tE T W ra)) (hb : attributeBase a x X.env (eval a X.env) = eval a X.env) :
    PE X (.Attribute a x pos) (tE T W fun E S => (ra E S).bind fun x S' => match fldV S' x with
    | some fs => ofO (look f fs) S'
    | none => .bad) := by
  have hpe := PE.or (pe_fld (pos := pos) ha hb) (pe_evf (pos := pos) ha hb)
  refine PE.imp hpe fun σ H Q ⟨E, S, w, eo, so, p⟩ => ?_
  have q := Post.bind (R := RV T) p
  cases z : ra E S with
  | exc c fs S' => rw [z] at q; exact .inl ⟨E, S, w, eo, so, by rw [z]; exact q⟩
  | bad => rw [z] at q; exact q.elim
  | ok l S' =>
    rw [z] at q
    have p0 : Post T (RV T) W σ w Q (match fldV S' l with
      | some fs => ofO (look f fs) S'
      | none => .bad) := by
      have p : Post T (RV T) W σ w Q ((ra E S).bind fun x S' => match fldV S' x with
        | some fs => ofO (look f fs) S'
        | none => .bad) := p
      rw [z] at p
      exact p
    cases ei : fldV S' l with
    | none => rw [ei] at p0; exact p0.elim
    | some fs =>
      rw [ei] at p0
      cases el : look f fs with
      | none => simp only [el] at p0; exact p0.elim
      | some d =>
        simp only [el] at p0
        by_cases hex : ∃ c fs', l = .exo c fs'
        · refine .inr ⟨E, S, w, eo, so, by
            rw [z]
            refine fun vs H1 w1 l1 so1 rd => ?_
            obtain ⟨c0, fs0, rfl⟩ := hex
            simp only [fldV, Option.some.injEq] at ei
            subst ei
            simp only [Rep] at rd
            obtain ⟨a, C, dx, hs, rfl, h1, h2, h3, h4⟩ := rd
            obtain ⟨v, q1, q2⟩ := (look_rep inj h4).1 d el
            rw [hx] at q1
            exact ⟨a, C, dx, hs, v, rfl, (hxc _ C h1).1, (hxc _ C h1).2, so1.G.st _ _ rfl h2, so1.G.st _ _ rfl h3, q1, ret_val so1 q2 (Post.mono l1 p0)⟩⟩
        · refine .inl ⟨E, S, w, eo, so, by
            rw [z]
            refine fun vs H1 w1 l1 so1 rd => ?_
            obtain ⟨c, hi⟩ := fldV_ins ei hex
            obtain ⟨a, C, dx, hs, rfl, h1, h2, h3⟩ := ins_rep so1 rd hi
            obtain ⟨v, q1, q2⟩ := (look_rep inj h3).1 d el
            rw [hx] at q1
            exact ⟨a, C, dx, hs, v, rfl, h2, (hc _ C h1).1, (hc _ C h1).2, q1, ret_val so1 q2 (Post.mono l1 p0)⟩⟩
end
end DV
end
section
/-! Plain data, keys, comparisons, subscripts, slices. -/
set_option Elab.async false
set_option linter.all false
set_option maxRecDepth 100000
set_option maxHeartbeats 400000
namespace DV
open PySem L2 PyProof.Rows
section
variable {T : Tab} {w : Wd} {S : Store} {H : Hp}
theorem omap_some {α β : Type} {o : Option α} {f : α → β} {b : β} (h : o.map f = some b) : ∃ a, o = some a ∧ f a = b := by
  cases o with
  | none => cases h
  | some a => exact ⟨a, rfl, Option.some.inj h⟩
theorem dpAll_int : ∀ ns : List Int, DpAll T.K H (ns.map V.int) (ns.map PyData.int)
  | [] => .nil
  | n :: r => .cons (.int n) (dpAll_int r)
mutual
theorem pd_rep (so : StoreOk T S w H) : ∀ {d : D} {v : V} {p : PyData}, pd d = some p → Rep T w d v → Dp T.K H v p
  | .non, _, _, e, r => by simp only [pd, Option.some.injEq] at e; simp only [Rep] at r; subst e; subst r; exact .non
  | .bl b, _, _, e, r => by simp only [pd, Option.some.injEq] at e; simp only [Rep] at r; subst e; subst r; exact .bl b
  | .int b, _, _, e, r => by simp only [pd, Option.some.injEq] at e; simp only [Rep] at r; subst e; subst r; exact .int b
  | .str b, _, _, e, r => by simp only [pd, Option.some.injEq] at e; simp only [Rep] at r; subst e; subst r; exact .str b
  | .tup ds, _, _, e, r => by
    simp only [pd] at e
    obtain ⟨ps, e1, rfl⟩ := omap_some e
    obtain ⟨a, xs, rfl, h, q⟩ := tup_rep so r
    exact .tup h (pds_rep so e1 q)
  | .ctup ds, _, _, e, r => by
    simp only [pd] at e
    obtain ⟨ps, e1, rfl⟩ := omap_some e
    obtain ⟨a, xs, rfl, h, q⟩ := ctup_rep so r
    exact .tup h (pds_rep so e1 q)
  | .lst ds, _, _, e, r => by
    simp only [pd] at e
    obtain ⟨ps, e1, rfl⟩ := omap_some e
    simp only [Rep] at r
    obtain ⟨a, xs, rfl, h, q⟩ := r
    exact .lst (SqL.of (so.G.st _ _ rfl h)) (pds_rep so e1 q)
  | .scr ns, _, _, e, r => by
    simp only [pd, Option.some.injEq] at e
    subst e
    simp only [Rep] at r
    obtain ⟨a, rfl, h⟩ := r
    exact .lst (scr_L so.G h) (dpAll_int ns)
  | .dct _ _, _, _, e, _ => by simp [pd] at e
  | .ins _ _, _, _, e, _ => by simp [pd] at e
  | .fn _, _, _, e, _ => by simp [pd] at e
  | .loc _, _, _, e, _ => by simp [pd] at e
theorem pds_rep (so : StoreOk T S w H) : ∀ {ds : List D} {vs : List V} {ps : List PyData}, pds ds = some ps → Reps T w ds vs → DpAll T.K H vs ps
  | [], _, _, e, r => by simp only [pds, Option.some.injEq] at e; simp only [Reps] at r; subst e; subst r; exact .nil
  | d :: ds, _, _, e, r => by
    simp only [pds] at e
    obtain ⟨v, vs, rfl, r1, r2⟩ := r.uncons
    cases e1 : pd d with
    | none => rw [e1] at e; cases e
    | some a =>
      cases e2 : pds ds with
      | none => rw [e1, e2] at e; cases e
      | some l =>
        rw [e1, e2] at e
        cases e
        exact .cons (pd_rep so e1 r1) (pds_rep so e2 r2)
end
theorem pdS_rep (so : StoreOk T S w H) {d : D} {v : V} {p : PyData} (e : pdS S d = some p) (r : Rep T w d v) : Dp T.K H v p := by
  cases d with
  | loc n =>
    simp only [pdS] at e
    split at e
    · rename_i ds he
      obtain ⟨ps, e1, rfl⟩ := omap_some e
      obtain ⟨a, xs, rfl, h, q⟩ := seqX_rep so (d := .loc n) (ds := ds) r (by simp only [seqX, he])
      exact .lst (SqL.of h) (pds_rep so e1 q)
    · cases e
  | _ => exact pd_rep so e r
/-! keys -/
theorem key_rep {d : D} {v : V} (r : Rep T w d v) (h : isKey0 d = true) : ∃ k, keyD d = some k ∧ v = kV k := by
  cases d with
  | int i => simp only [Rep] at r; exact ⟨.inl i, rfl, r⟩
  | str i => simp only [Rep] at r; exact ⟨.inr i, rfl, r⟩
  | _ => simp [isKey0] at h
theorem keys_rep : ∀ {ds : List D} {vs : List V}, Reps T w ds vs → ds.all isKey0 = true → ∃ ks, keysD ds = some ks ∧ vs = ks.map kV
  | [], _, r, _ => by simp only [Reps] at r; exact ⟨[], rfl, r⟩
  | d :: ds, _, r, h => by
    obtain ⟨v, vs, rfl, r1, r2⟩ := r.uncons
    rw [List.all_cons, Bool.and_eq_true] at h
    obtain ⟨k, e1, rfl⟩ := key_rep r1 h.1
    obtain ⟨ks, e2, rfl⟩ := keys_rep r2 h.2
    exact ⟨k :: ks, by simp only [keysD, e1, e2], rfl⟩
theorem same_key {j k : D} {a b : Key} (hj : keyD j = some a) (hk : keyD k = some b) : j.same k = true ↔ a = b := by
  cases j <;> simp only [keyD, Option.some.injEq] at hj <;> first | (cases hj; done) | skip
  all_goals
    cases k <;> simp only [keyD, Option.some.injEq] at hk <;> first | (cases hk; done) | skip
  all_goals
    subst hj; subst hk
    simp [D.same]
theorem same_keys : ∀ {j k : List D} {a b : List Key}, keysD j = some a → keysD k = some b → (sames j k = true ↔ a = b)
  | [], [], _, _, h1, h2 => by simp only [keysD, Option.some.injEq] at h1 h2; subst h1; subst h2; simp [sames]
  | [], y :: ys, _, _, h1, h2 => by
    simp only [keysD, Option.some.injEq] at h1 h2; subst h1
    split at h2
    · cases h2; simp [sames]
    · cases h2
  | y :: ys, [], _, _, h1, h2 => by
    simp only [keysD, Option.some.injEq] at h1 h2; subst h2
    split at h1
    · cases h1; simp [sames]
    · cases h1
  | x :: xs, y :: ys, _, _, h1, h2 => by
    simp only [keysD] at h1 h2
    split at h1
    · rename_i k ks e1 e2
      split at h2
      · rename_i k' ks' e3 e4
        cases h1; cases h2
        simp only [sames, Bool.and_eq_true, same_key e1 e3, same_keys e2 e4, List.cons.injEq]
      · cases h2
    · cases h1
theorem same_keyT {j k : D} {a b : List Key} (hj : keyT j = some a) (hk : keyT k = some b) : j.same k = true ↔ a = b := by
  cases j <;> first | (cases hj; done) | skip
  cases k <;> first | (cases hk; done) | skip
  simp only [keyT] at hj hk
  simp only [D.same]
  exact same_keys hj hk
/-- a stored value, by the tree and by the heap -/
def AtV (T : Tab) (w : Wd) (o : Option D) (p : Option V) : Prop := match o, p with
  | none, none => True
  | some d, some v => Rep T w d v
  | _, _ => False
theorem AtV.some {d : D} {p : Option V} (h : AtV T w (some d) p) : ∃ v, p = .some v ∧ Rep T w d v := by
  cases p with
  | none => exact h.elim
  | some v => exact ⟨v, rfl, h⟩
theorem AtV.isSome {o : Option D} {p : Option V} (h : AtV T w o p) : p.isSome = o.isSome := by
  cases o <;> cases p <;> first | rfl | exact h.elim
theorem AtV.getD {o : Option D} {p : Option V} {d : D} {v : V} (h : AtV T w o p) (r : Rep T w d v) : Rep T w (o.getD d) (p.getD v) := by
  cases o <;> cases p <;> first | exact r | exact h.elim | exact h
theorem dget_K {k : D} {hk : Key} (e : keyD k = some hk) : ∀ {kvs : List (D × D)} {hs : List (Key × V)}, RepK T w kvs hs → AtV T w (dget k kvs) (valV hs hk)
  | [], _, r => by simp only [RepK] at r; subst r; exact True.intro
  | (j, a) :: kvs, _, r => by
    simp only [RepK] at r
    obtain ⟨hj, x, q, rfl, e1, r1, r2⟩ := r
    have s := same_key e1 e
    simp only [dget]
    by_cases z : hj = hk
    · rw [if_pos (s.mpr z), valV_pos (p := (hj, x)) z]; exact r1
    · rw [if_neg (fun q => z (s.mp q)), valV_neg (p := (hj, x)) z]; exact dget_K e r2
theorem dget_T {k : D} {hk : List Key} (e : keyT k = some hk) : ∀ {kvs : List (D × D)} {hs : List (List Key × V)}, RepT T w kvs hs → AtV T w (dget k kvs) (valV hs hk)
  | [], _, r => by simp only [RepT] at r; subst r; exact True.intro
  | (j, a) :: kvs, _, r => by
    simp only [RepT] at r
    obtain ⟨hj, x, q, rfl, e1, r1, r2⟩ := r
    have s := same_keyT e1 e
    simp only [dget]
    by_cases z : hj = hk
    · rw [if_pos (s.mpr z), valV_pos (p := (hj, x)) z]; exact r1
    · rw [if_neg (fun q => z (s.mp q)), valV_neg (p := (hj, x)) z]; exact dget_T e r2
theorem dct_rep (so : StoreOk T S w H) {d : D} {v : V} {t : Bool} {kvs : List (D × D)} (r : Rep T w d v) (e : dctV S d = some (t, kvs)) :
    ∃ a, v = .ref a ∧ ((t = true ∧ ∃ hs, Rd H a (.dT hs) ∧ RepT T w kvs hs) ∨ (t = false ∧ ∃ hs, Rd H a (.dK hs) ∧ RepK T w kvs hs)) := by
  cases d with
  | dct t' k' =>
    simp only [dctV, Option.some.injEq, Prod.mk.injEq] at e
    obtain ⟨rfl, rfl⟩ := e
    simp only [Rep] at r
    obtain ⟨a, rfl, ⟨z, hs, h, q⟩ | ⟨z, hs, h, q⟩⟩ := r
    · exact ⟨a, rfl, .inl ⟨z, hs, so.G.dc _ _ rfl h, q⟩⟩
    · exact ⟨a, rfl, .inr ⟨z, hs, so.G.dc _ _ rfl h, q⟩⟩
  | loc n =>
    simp only [dctV] at e
    simp only [Rep] at r
    obtain ⟨a, rfl, q⟩ := r
    split at e
    · rename_i t' k' he
      cases e
      rcases so.cell n a _ q he with ⟨z, hs, h, q⟩ | ⟨z, hs, h, q⟩
      · exact ⟨a, rfl, .inl ⟨z, hs, .inl h, q⟩⟩
      · exact ⟨a, rfl, .inr ⟨z, hs, .inl h, q⟩⟩
    · rename_i t' k' he
      cases e
      obtain ⟨o, ⟨z, hs, h, q⟩ | ⟨z, hs, h, q⟩⟩ := so.cell n a _ q he
      · exact ⟨a, rfl, .inl ⟨z, hs, .inr ⟨o, h⟩, q⟩⟩
      · exact ⟨a, rfl, .inr ⟨z, hs, .inr ⟨o, h⟩, q⟩⟩
    · cases e
  | _ => simp [dctV] at e
theorem dget_rep (so : StoreOk T S w H) {d k : D} {v y : V} {t : Bool} {kvs : List (D × D)} (r : Rep T w d v) (e : dctV S d = some (t, kvs)) (rk : Rep T w k y) (hk : isKey t k = true) :
    ∃ a o, v = .ref a ∧ DGet H a y o ∧ AtV T w (dget k kvs) o := by
  obtain ⟨a, rfl, ⟨rfl, hs, h, q⟩ | ⟨rfl, hs, h, q⟩⟩ := dct_rep so r e
  · cases k with
    | tup ds =>
      have hk' : ds.all isKey0 = true := by simpa only [isKey, Bool.true_and] using hk
      obtain ⟨b, xs, rfl, hb, rs⟩ := tup_rep' so rk
      obtain ⟨ks, e1, rfl⟩ := keys_rep rs hk'
      exact ⟨a, _, rfl, .inr ⟨hs, ks, b, h, rfl, hb, rfl⟩, dget_T (k := .tup ds) e1 q⟩
    | _ => simp [isKey, isKey0] at hk
  · have hk' : isKey0 k = true := by cases k <;> simpa [isKey, isKey0] using hk
    obtain ⟨kk, e1, rfl⟩ := key_rep rk hk'
    exact ⟨a, _, rfl, .inl ⟨hs, kk, h, rfl, rfl⟩, dget_K e1 q⟩
end

section
variable {T : Tab} {X : Cx} {W : WX}
/-- comparisons -/
theorem ok_cmpI {g : Int → Int → Bool} {m : Value → Value → Sem Value} (h : OpR X m (rI0 fun i j => .bl (g i j))) : BinOk T X W m (fun x y S => match x, y with
    | .int i, .int j => .ok (.bl (g i j)) S
    | _, _ => .bad) := by
  intro pins s σ H x y v u Q d e S w I rx ry so rd re p
  cases d with
  | int i =>
    cases e with
    | int j =>
      simp only [Rep] at rd re
      subst rd; subst re
      exact h pins s σ H _ _ v u Q I rx ry ⟨i, j, rfl, rfl, ret_val so (by simp only [Rep]) p⟩
    | _ => exact p.elim
  | _ => exact p.elim
theorem ok_isN : BinOk T X W (compareOp .Is) (fun x y S => match y with
    | .non => .ok (.bl (isNonD x)) S
    | _ => .bad) := by
  intro pins s σ H x y v u Q d e S w I rx ry so rd re p
  cases e with
  | non =>
    simp only [Rep] at re
    subst re
    have q : Q (.bl (decide (x = .non))) H := by
      have e : decide (x = V.non) = isNonD d := by
        cases d <;> simp only [Rep] at rd <;> first
          | (subst rd; rfl)
          | (obtain ⟨_, rfl, _⟩ := rd; rfl)
          | (obtain ⟨_, _, rfl, _⟩ := rd; rfl)
          | (obtain ⟨_, _, _, _, rfl, _⟩ := rd; rfl)
      rw [e]
      exact ret_val so (by simp only [Rep]) p
    exact op_isN pins s σ H x _ v u Q I rx ry ⟨rfl, q⟩
  | _ => exact p.elim
theorem ok_notN : BinOk T X W (compareOp .IsNot) (fun x y S => match y with
    | .non => .ok (.bl (!isNonD x)) S
    | _ => .bad) := by
  intro pins s σ H x y v u Q d e S w I rx ry so rd re p
  cases e with
  | non =>
    simp only [Rep] at re
    subst re
    have q : Q (.bl (!decide (x = .non))) H := by
      have e : (!decide (x = V.non)) = (!isNonD d) := by
        cases d <;> simp only [Rep] at rd <;> first
          | (subst rd; rfl)
          | (obtain ⟨_, rfl, _⟩ := rd; rfl)
          | (obtain ⟨_, _, rfl, _⟩ := rd; rfl)
          | (obtain ⟨_, _, _, _, rfl, _⟩ := rd; rfl)
      rw [e]
      exact ret_val so (by simp only [Rep]) p
    exact op_notN pins s σ H x _ v u Q I rx ry ⟨rfl, q⟩
  | _ => exact p.elim
theorem ok_isT : BinOk T X W (compareOp .Is) (fun x y S => match x, y with
    | .bl a, .bl b => .ok (.bl (a == b)) S
    | _, _ => .bad) := by
  intro pins s σ H x y v u Q d e S w I rx ry so rd re p
  cases d with
  | bl i =>
    cases e with
    | bl j =>
      simp only [Rep] at rd re
      subst rd; subst re
      refine op_isBl pins s σ H _ _ v u Q I rx ry ⟨i, j, rfl, rfl, ?_⟩
      have q := ret_val so (d := .bl (i == j)) (v := .bl (i == j)) (by simp only [Rep]) p
      have e : (i == j) = decide (i = j) := by cases i <;> cases j <;> rfl
      rw [← e]; exact q
    | _ => exact p.elim
  | _ => exact p.elim
theorem ok_lt : BinOk T X W (compareOp .Lt) (fun x y S => match x, y with
    | .int i, .int j => .ok (.bl (decide (i < j))) S
    | .str a, .str b => .ok (.bl (ltS a b)) S
    | _, _ => .bad) := by
  intro pins s σ H x y v u Q d e S w I rx ry so rd re p
  cases d with
  | int i =>
    cases e with
    | int j =>
      simp only [Rep] at rd re
      subst rd; subst re
      exact op_lt pins s σ H _ _ v u Q I rx ry ⟨i, j, rfl, rfl, ret_val so (by simp only [Rep]) p⟩
    | _ => exact p.elim
  | str i =>
    cases e with
    | str j =>
      simp only [Rep] at rd re
      subst rd; subst re
      exact op_lt_str pins s σ H _ _ v u Q I rx ry ⟨i, j, rfl, rfl, ret_val so (d := .bl (ltS i j)) (by simp only [Rep, ltS]) p⟩
    | _ => exact p.elim
  | _ => exact p.elim
theorem ok_in (hK : X.K = T.K) (hu : X.A.units + 65 < cLine) : BinOk T X W (compareOp .In) (fun x y S => match isinD S x y with
    | some b => .ok (.bl b) S
    | none => .bad) := by
  intro pins s σ H x y v u Q d e S w I rx ry so rd re p
  replace p : Post T (RV T) W σ w Q (match isinD S d e with | some b => .ok (.bl b) S | none => .bad) := p
  cases ei : isinD S d e with
  | none => rw [ei] at p; exact p.elim
  | some b =>
    rw [ei] at p
    have q : Q (.bl b) H := ret_val so (by simp only [Rep]) p
    have gen : (match pdS S d, pdS S e with
    | some d, some (.list ds) => if SeqAt.shaped d && SeqAt.shaped (.list ds) then some (ds.any fun z => PyData.eqv z d) else none
    | some d, some (.tuple ds) => if SeqAt.shaped d && SeqAt.shaped (.tuple ds) then some (ds.any fun z => PyData.eqv z d) else none
    | _, _ => match dctV S e with
      | some (t, kvs) => if isKey t d then some (dget d kvs).isSome else none
      | none => none) = some b → wpAny (model X.prog X.w) X.A (compareOp .In v u) (EP X pins σ Q) X.xe s := fun ei => by
      split at ei
      · rename_i pd' ds e1 e2
        split at ei
        · rename_i hs
          cases ei
          rw [Bool.and_eq_true] at hs
          exact op_inD hu pins s σ H x y v u Q I rx ry ⟨_, ds, by rw [hK]; exact pdS_rep so e1 rd, by rw [hK]; exact pdS_rep so e2 re, hs.1, hs.2, q⟩
        · cases ei
      · rename_i pd' ds e1 e2
        split at ei
        · rename_i hs
          cases ei
          rw [Bool.and_eq_true] at hs
          have h1 := pdS_rep so e1 rd
          have h2 := pdS_rep so e2 re
          rw [← hK] at h1 h2
          obtain ⟨as, r1⟩ := Dp.reads I _ x v h1 rx
          obtain ⟨bs, r2⟩ := Dp.reads I (.tuple ds) y u h2 ry
          refine SeqAt.in_tuple_reads r2 r1 (SeqAt.canLay_of_shaped hs.2) (SeqAt.canLay_of_shaped hs.1) ?_ ⟨.bl _, H, I, rfl, q⟩
          have := SeqAt.depth_of_shaped hs.1
          have := Nat.min_le_right (PyData.depthAll ds) pd'.depth
          omega
        · cases ei
      · split at ei
        · rename_i t kvs ed
          split at ei
          · rename_i hk
            cases ei
            obtain ⟨a, o, rfl, g, av⟩ := dget_rep so re ed rd hk
            cases ry
            rw [← av.isSome] at q
            exact d_in (by omega) I g rx fun s' I' => ⟨.bl o.isSome, H, I', rfl, q⟩
          · cases ei
        · cases ei
    cases e with
    | str j =>
      cases d with
      | str i =>
        simp only [isinD, Option.some.injEq] at ei
        simp only [Rep] at rd re
        subst rd; subst re
        exact op_in_str pins s σ H _ _ v u Q I rx ry ⟨i, j, rfl, rfl, by rw [← ei] at q; exact q⟩
      | _ => simp [isinD] at ei
    | _ => exact gen ei
theorem ok_notin (hK : X.K = T.K) (hu : X.A.units + 65 < cLine) : BinOk T X W (compareOp .NotIn) (fun x y S => match isinD S x y with
    | some b => .ok (.bl (!b)) S
    | none => .bad) := by
  intro pins s σ H x y v u Q d e S w I rx ry so rd re p
  replace p : Post T (RV T) W σ w Q (match isinD S d e with | some b => .ok (.bl (!b)) S | none => .bad) := p
  cases ei : isinD S d e with
  | none => rw [ei] at p; exact p.elim
  | some b =>
    rw [ei] at p
    have q : Q (.bl (!b)) H := ret_val so (by simp only [Rep]) p
    have gen : (match pdS S d, pdS S e with
    | some d, some (.list ds) => if SeqAt.shaped d && SeqAt.shaped (.list ds) then some (ds.any fun z => PyData.eqv z d) else none
    | some d, some (.tuple ds) => if SeqAt.shaped d && SeqAt.shaped (.tuple ds) then some (ds.any fun z => PyData.eqv z d) else none
    | _, _ => match dctV S e with
      | some (t, kvs) => if isKey t d then some (dget d kvs).isSome else none
      | none => none) = some b → wpAny (model X.prog X.w) X.A (compareOp .NotIn v u) (EP X pins σ Q) X.xe s := fun ei => by
      split at ei
      · rename_i pd' ds e1 e2
        split at ei
        · rename_i hs
          cases ei
          rw [Bool.and_eq_true] at hs
          exact op_notInD hu pins s σ H x y v u Q I rx ry ⟨_, ds, by rw [hK]; exact pdS_rep so e1 rd, by rw [hK]; exact pdS_rep so e2 re, hs.1, hs.2, q⟩
        · cases ei
      · rename_i pd' ds e1 e2
        split at ei
        · rename_i hs
          cases ei
          rw [Bool.and_eq_true] at hs
          have h1 := pdS_rep so e1 rd
          have h2 := pdS_rep so e2 re
          rw [← hK] at h1 h2
          obtain ⟨as, r1⟩ := Dp.reads I _ x v h1 rx
          obtain ⟨bs, r2⟩ := Dp.reads I (.tuple ds) y u h2 ry
          refine SeqAt.notIn_tuple_reads r2 r1 (SeqAt.canLay_of_shaped hs.2) (SeqAt.canLay_of_shaped hs.1) ?_ ⟨.bl _, H, I, rfl, q⟩
          have := SeqAt.depth_of_shaped hs.1
          have := Nat.min_le_right (PyData.depthAll ds) pd'.depth
          omega
        · cases ei
      · split at ei
        · rename_i t kvs ed
          split at ei
          · rename_i hk
            cases ei
            obtain ⟨a, o, rfl, g, av⟩ := dget_rep so re ed rd hk
            cases ry
            rw [← av.isSome] at q
            exact d_notIn (by omega) I g rx fun s' I' => ⟨.bl (!o.isSome), H, I', rfl, q⟩
          · cases ei
        · cases ei
    cases e with
    | str j =>
      cases d with
      | str i =>
        simp only [isinD, Option.some.injEq] at ei
        simp only [Rep] at rd re
        subst rd; subst re
        exact op_notin_str pins s σ H _ _ v u Q I rx ry ⟨i, j, rfl, rfl, by rw [← ei] at q; exact q⟩
      | _ => simp [isinD] at ei
    | _ => exact gen ei
/-! subscripts -/
/-- d[y] as a rule on values -/
theorem ix_dict (hu : X.A.units + 1 < cLine) : IxR X (fun x y H Q => ∃ a v, x = .ref a ∧ DGet H a y (some v) ∧ Q v H) := by
  intro value slice pins s σ H x y v u Q I rx ry h hs
  obtain ⟨a, z, rfl, g, q⟩ := h
  cases rx
  have hT := dict_typeIs I g
  unfold subscriptTail
  refine wpAny_bind ?_
  rw [getitemInPython_of_ne hT.not_modules]
  refine wpAny_bind (wpAny_specialOf hT PySem.F.slot_dict_getitem.lookup ?_)
  have fin : wpAny (model X.prog X.w) X.A (subscripted slice false (.ref a) u) (fun r s₃ => wpAny (model X.prog X.w) X.A (letTemporaryGo value (.ref a) r >>= fun _ => pure r) (EP X pins σ Q) X.xe s₃) X.xe s := by
    rw [hs]
    exact wpAny_operating (d_getItem hu I g ry fun w' s3 I3 rw' => wpAny_bind (wpAny_letTemporaryGo (wpAny_pure ⟨z, H, I3, rw', q⟩)))
  first
    | exact wpAny_pure (wpAny_bind fin)
    | exact wpAny_bind (wpAny_pure (wpAny_bind fin))
    | exact wpAny_bind fin
end
end DV
end
section
/-! Subscripts, slices, minus, chains. -/
set_option Elab.async false
set_option linter.all false
set_option maxRecDepth 100000
set_option maxHeartbeats 400000
namespace DV
open PySem L2 PyProof.Rows
section
variable {T : Tab} {X : Cx} {W : WX} {a b c i : Expr} {ra rb rc ri : Env → Store → Res D} {pos : Pos}
theorem Reps.atI {w : Wd} {ds : List D} {vs : List V} {j : Int} {d : D} (h : Reps T w ds vs) (e : L2.atI ds j = some d) : ∃ v, L2.atI vs j = some v ∧ Rep T w d v := by
  unfold L2.atI at e ⊢
  rw [h.length]
  cases z : ixN ds.length j with
  | none => rw [z] at e; cases e
  | some k => rw [z] at e; exact h.get e
theorem Reps.cut {w : Wd} {ds : List D} {vs : List V} (h : Reps T w ds vs) (lo hi : Option Int) : Reps T w (cutD ds lo hi) (cutV vs lo hi) := by
  unfold cutD cutV
  rw [h.length]
  exact (h.drop _).take _
def IxOk (T : Tab) (X : Cx) (W : WX) (f : D → D → Store → Res D) : Prop :=
  ∀ (value slice : Expr) (pins : List (Addr × Obj)) (s : Shared) (σ : L2.St) (H : Hp) (x y : V) (v u : Value) (Q : VK) (d e : D) (S : Store) (w : Wd), Inv X pins σ H s → RelV x v → RelV y u → StoreOk T S w H → Rep T w d x → Rep T w e y →
    Post T (RV T) W σ w Q (f d e S) → subscripted slice false v u = operate [v, u] (getItem v u) → wpAny (model X.prog X.w) X.A (subscriptTail value slice v u) (EP X pins σ Q) X.xe s
theorem de_ix {f : D → D → Store → Res D} (hf : IxOk T X W f) (ha : PE X a (tE T W ra)) (hb : PE X b (tE T W rb)) (hs : PlainIx b) :
    PE X (.Subscript a b pos) (tE T W fun E S => (ra E S).bind fun x S' => (rb E S').bind fun y S'' => f x y S'') := by
  refine ⟨fun pins s σ H Q I ⟨E, S, w, eo, so, p⟩ => ?_⟩
  refine Subscript_ (thn (run1 ha I eo so p) fun v s1 ⟨x, H1, d, S1, w1, I1, r1, l1, so1, rd, eo1, p1⟩ => ?_)
  refine thn (run1 hb I1 eo1 so1 p1) fun u s2 ⟨y, H2, e, S2, w2, I2, r2, l2, so2, re, eo2, p2⟩ => ?_
  exact hf a b pins s2 σ H2 x y v u Q d e S2 w2 I2 r1 r2 so2 (rd.mono l2) re p2 (hs _ _)
theorem ok_ix (hK : X.K = T.K) (hu : X.A.units + 1 < cLine) : IxOk T X W (fun x y S => ixD S x y) := by
  intro value slice pins s σ H x y v u Q d e S w I rx ry so rd re p hs
  replace p : Post T (RV T) W σ w Q (ixD S d e) := p
  have dct : ∀ t kvs, dctV S d = some (t, kvs) → Post T (RV T) W σ w Q (if isKey t e then ofO (dget e kvs) S else .bad) → wpAny (model X.prog X.w) X.A (subscriptTail value slice v u) (EP X pins σ Q) X.xe s := fun t kvs ed p => by
    split at p
    · rename_i hk
      obtain ⟨a, o, rfl, g, av⟩ := dget_rep so rd ed re hk
      cases z : dget e kvs with
      | none => rw [z] at p; exact p.elim
      | some d' =>
        rw [z] at p av
        obtain ⟨vv, rfl, r⟩ := av.some
        exact ix_dict hu value slice pins s σ H _ _ v u Q I rx ry ⟨a, vv, rfl, g, ret_val so r p⟩ hs
    · exact p.elim
  have gen : Post T (RV T) W σ w Q (match dctV S d with
      | some (t, kvs) => if isKey t e then ofO (dget e kvs) S else .bad
      | none => .bad) → wpAny (model X.prog X.w) X.A (subscriptTail value slice v u) (EP X pins σ Q) X.xe s := fun p => by
    cases z : dctV S d with
    | none => rw [z] at p; exact p.elim
    | some tk => obtain ⟨t, kvs⟩ := tk; rw [z] at p; exact dct t kvs z p
  have seq : ∀ j, e = .int j → Post T (RV T) W σ w Q (match anyV S d with
      | some ds => match L2.atI ds j with
        | some d => .ok d S
        | none => .bad
      | none => match dctV S d with
        | some (t, kvs) => if isKey t e then ofO (dget e kvs) S else .bad
        | none => .bad) → wpAny (model X.prog X.w) X.A (subscriptTail value slice v u) (EP X pins σ Q) X.xe s := fun j ej p => by
    cases z : anyV S d with
    | none => rw [z] at p; exact gen p
    | some ds =>
      rw [z] at p
      subst ej
      simp only [Rep] at re
      subst re
      obtain ⟨a, xs, rfl, h, r⟩ := any_rep so rd z
      cases z2 : L2.atI ds j with
      | none => simp only [z2] at p; exact p.elim
      | some d' =>
        simp only [z2] at p
        obtain ⟨vv, h1, h2⟩ := r.atI z2
        have q := ret_val so h2 p
        rw [← hK] at h
        rcases h with h | h
        · exact ix_list value slice pins s σ H _ _ v u Q I rx ry ⟨a, xs, j, vv, rfl, rfl, h, h1, q⟩ hs
        · exact ix_tup value slice pins s σ H _ _ v u Q I rx ry ⟨a, xs, j, vv, rfl, rfl, h, h1, q⟩ hs
  cases e with
  | int j =>
    cases d with
    | str z =>
      simp only [ixD] at p
      simp only [Rep] at rd re
      subst rd; subst re
      split at p
      · rename_i hl
        cases z2 : L2.atI z.cps.toList j with
        | none => rw [z2] at p; exact p.elim
        | some c =>
          rw [z2] at p
          exact ix_str value slice pins s σ H _ _ v u Q I rx ry ⟨z, j, c, rfl, rfl, lim_le hl, z2, ret_val so (by simp only [Rep]) p⟩ hs
      · exact p.elim
    | _ => exact seq j rfl p
  | _ => cases d <;> exact gen p
/-! slices -/
abbrev ROpt := fun (_ : Wd) (a b : Option Int) => b = a
def partR (r : Env → Store → Res (List D)) : Env → Store → Res (Option Int) := fun E S => (r E S).bind fun l S' => ofO (partD l) S'
theorem do_none : PO X none (tR T ROpt W (partR fun _ S => .ok [] S)) := ⟨fun pins s σ H Q I ⟨E, S, w, eo, so, p⟩ => po_none.run pins s σ H Q I (p none H w (Wd.le.refl w) so rfl)⟩
theorem tR_step {α β γ δ : Type} {R : Wd → α → β → Prop} {R' : Wd → γ → δ → Prop} {r : Env → Store → Res α} {f : α → Store → Res γ} {σ : L2.St} {H : Hp} {Q : δ → Hp → Prop} (h : tR T R' W (fun E S => (r E S).bind f) σ H Q) :
    tR T R W r σ H (fun v H1 => ∃ d S w, StoreOk T S w H1 ∧ R w d v ∧ Post T R' W σ w Q (f d S)) := by
  refine (tR.bind (R := R) (f := fun _ => f) h).mono fun v H' ⟨E, d, S, w, _, so, rd, p⟩ => ⟨d, S, w, so, rd, p⟩
theorem do_some (ha : PE X a (tE T W ra)) : PO X (some a) (tR T ROpt W (partR fun E S => (ra E S).bind fun x S' => .ok [x] S')) := by
  refine ⟨fun pins s σ H Q I h => ?_⟩
  obtain ⟨E, S, w, eo, so, p⟩ := h
  have p' : Post T ROpt W σ w Q ((ra E S).bind fun x S' => ofO (partD [x]) S') := by
    unfold partR at p
    simp only at p
    cases z : ra E S with
    | ok d S' => rw [z] at p; exact p
    | exc c fs S' => rw [z] at p; exact p
    | bad => rw [z] at p; exact p
  refine (po_some ha).run pins s σ H Q I ?_
  refine (tR_step (R := RV T) (r := ra) (f := fun x S' => ofO (partD [x]) S') ⟨E, S, w, eo, so, p'⟩).mono fun v H1 ⟨d, S1, w1, so1, rd, p1⟩ => ?_
  cases d with
  | int j =>
    simp only [Rep] at rd
    exact ⟨j, rd, p1 _ H1 w1 (Wd.le.refl w1) so1 rfl⟩
  | _ => exact p1.elim
def SlOk (T : Tab) (X : Cx) (W : WX) (f : D → Option Int → Option Int → Store → Res D) : Prop :=
  ∀ (σ : L2.St) (H : Hp) (x : V) (lo hi : Option Int) (Q : VK) (d : D) (S : Store) (w : Wd), StoreOk T S w H → Rep T w d x → Post T (RV T) W σ w Q (f d lo hi S) →
    (rSlA X.K x lo hi H Q ∨ rSlL X.K x lo hi H Q) ∨ rSlS x lo hi H Q
theorem ok_sl (hK : X.K = T.K) : SlOk T X W (fun d lo hi S => slD S d lo hi) := by
  intro σ H x lo hi Q d S w so rd p
  replace p : Post T (RV T) W σ w Q (slD S d lo hi) := p
  have seq : Post T (RV T) W σ w Q (match seqV S d with
    | some ds => .ok (.lst (cutD ds lo hi)) S
    | none => .bad) → (rSlA X.K x lo hi H Q ∨ rSlL X.K x lo hi H Q) ∨ rSlS x lo hi H Q := fun p => by
    cases z : seqV S d with
    | none => rw [z] at p; exact p.elim
    | some ds =>
      rw [z] at p
      obtain ⟨a, xs, rfl, h, r⟩ := seq_rep so rd z
      exact .inl (.inr ⟨a, xs, rfl, by rw [hK]; exact h, new_lst so (r.cut lo hi) p⟩)
  cases d with
  | tup ds =>
    simp only [slD] at p
    obtain ⟨a, xs, rfl, h, r⟩ := tup_rep so rd
    refine .inl (.inl ⟨a, xs, rfl, by rw [hK]; exact h, fun ⟨h1, h2⟩ => ?_, fun _ => new_tup so (r.cut lo hi) p⟩)
    have e : cutD ds lo hi = ds := by
      unfold cutD
      rw [← r.length, h1, h2]
      simp [r.length]
    rw [e] at p
    exact ret_val so rd p
  | str z =>
    simp only [slD] at p
    split at p
    · rename_i hl
      simp only [Rep] at rd
      subst rd
      refine .inr ⟨z, rfl, lim_le hl, ?_⟩
      refine ret_val so (d := .str ⟨(cutD z.cps.toList lo hi).toArray⟩) ?_ p
      simp only [Rep, cutS, cutD]
      have : z.cps.toList.length = z.length := by simp [Str.length]
      rw [this]
    · exact p.elim
  | _ => exact seq p
theorem de_sl {lo hi : Option Expr} {rl rh : Env → Store → Res (Option Int)} {p2 : Pos} (hK : X.K = T.K) (ha : PE X a (tE T W ra)) (hl : PO X lo (tR T ROpt W rl)) (hh : PO X hi (tR T ROpt W rh)) :
    PE X (.Subscript a (.Slice lo hi none p2) pos) (tE T W fun E S => (ra E S).bind fun x S' => (rl E S').bind fun o S1 => (rh E S1).bind fun u S2 => slD S2 x o u) := by
  refine PE.imp (pe_slice (r := fun x lo hi H Q => (rSlA X.K x lo hi H Q ∨ rSlL X.K x lo hi H Q) ∨ rSlS x lo hi H Q) ((sl_tupA.or sl_list).or sl_str) ha hl hh) fun σ H Q h => ?_
  refine (tR.bind (R := RV T) (r := ra) (R' := RV T) (f := fun E x S' => (rl E S').bind fun o S1 => (rh E S1).bind fun u S2 => slD S2 x o u) h).mono fun v H1 ⟨E1, d, S1, w1, eo1, so1, rd, p1⟩ => ?_
  refine ⟨E1, S1, w1, eo1, so1, ?_⟩
  have q := Post.bind (R := ROpt) p1
  cases z : rl E1 S1 with
  | exc c fs S' => rw [z] at q; exact q
  | bad => rw [z] at q; exact q
  | ok o S' =>
    rw [z] at q
    refine fun o' H2 w2 l2 so2 eo' => ?_
    obtain ⟨o2, S3, w3, l3, so3, eo3, p3⟩ := q o' H2 w2 l2 so2 eo'
    refine ⟨E1, S3, w3, eo1.mono l3, so3, ?_⟩
    have q2 := Post.bind (R := ROpt) p3
    cases z2 : rh E1 S3 with
    | exc c fs S' => rw [z2] at q2; exact q2
    | bad => rw [z2] at q2; exact q2
    | ok u S' =>
      rw [z2] at q2
      refine fun u' H4 w4 l4 so4 eu' => ?_
      obtain ⟨u2, S5, w5, l5, so5, eu5, p5⟩ := q2 u' H4 w4 l4 so4 eu'
      subst eo3; subst eu5
      exact ok_sl hK σ H4 v _ _ Q d S5 w5 so5 (rd.mono (l3.trans l5)) p5
/-! the rest of one-operand operations -/
theorem de_un {f : D → Store → Res D} {e' : Expr} (t : TE → TE) (h : PE X e' (t (tE T W ra)))
    (hi : ∀ σ H Q, tR T (RV T) W ra σ H (fun v H1 => ∃ d S w, StoreOk T S w H1 ∧ Rep T w d v ∧ Post T (RV T) W σ w Q (f d S)) → t (tE T W ra) σ H Q) :
    PE X e' (tE T W fun E S => (ra E S).bind f) := PE.imp h fun σ H Q p => hi σ H Q (tR_step (R := RV T) (R' := RV T) (r := ra) (f := f) p)
theorem de_neg (ha : PE X a (tE T W ra)) : PE X (.UnaryOp .USub a pos) (tE T W fun E S => (ra E S).bind fun x S' => match x with
      | .int i => .ok (.int (-i)) S'
      | _ => .bad) := by
  refine de_un (ra := ra) (fun t => tUn (rU fun i => .int (-i)) t) (pe_un un_neg ha) fun σ H Q h => h.mono fun v H1 ⟨d, S, w, so, rd, p⟩ => ?_
  cases d with
  | int i =>
    simp only [Rep] at rd
    exact ⟨i, rd, ret_val so (by simp only [Rep]) p⟩
  | _ => exact p.elim
theorem de_rev {k : Nat} {p1 p2 p3 : Pos} (hK : X.K = T.K) (ha : PE X a (tE T W ra)) : PE X (.Subscript a (.Slice none none (some (.UnaryOp .USub (.Constant (.int 1) k p1) p2)) p3) pos) (tE T W fun E S => (ra E S).bind fun x S' => match seqV S' x with
    | some ds => .ok (.lst ds.reverse) S'
    | none => .bad) := by
  refine de_un (ra := ra) (fun t => tRevL X.K t) (pe_revL ha) fun σ H Q h => h.mono fun v H1 ⟨d, S, w, so, rd, p⟩ => ?_
  cases z : seqV S d with
  | none => rw [z] at p; exact p.elim
  | some ds =>
    rw [z] at p
    obtain ⟨a', xs, rfl, h, r⟩ := seq_rep so rd z
    exact ⟨a', xs, rfl, by rw [hK]; exact h, new_lst so r.reverse p⟩
end
end DV
end
section
/-! Tests by comparisons, chains, the operators together. -/
set_option Elab.async false
set_option linter.all false
set_option maxRecDepth 100000
set_option maxHeartbeats 400000
namespace DV
open PySem L2 PyProof.Rows
theorem Res.bind_assoc {α β γ : Type} (r : Res α) (f : α → Store → Res β) (g : β → Store → Res γ) : (r.bind f).bind g = r.bind fun a S => (f a S).bind g := by
  cases r <;> rfl
section
variable {T : Tab} {X : Cx} {W : WX} {a b c i : Expr} {ra rb rc ri : Env → Store → Res D} {pos : Pos}
theorem dt_cmp {op : CmpOp} {f : D → D → Store → Res D} (hK : X.K = T.K) (hf : BinOk T X W (compareOp op) f) (ha : PE X a (tE T W ra)) (hb : PE X b (tE T W rb)) (hm : behindInMarks op b = false) :
    PT X (.Compare a [op] [b] pos) (tT T W (truR fun E S => (ra E S).bind fun x S' => (rb E S').bind fun y S'' => f x y S'')) := by
  refine ⟨fun pins s σ H Q I ⟨E, S, w, eo, so, p⟩ => ?_⟩
  unfold truR at p
  simp only [Res.bind_assoc] at p
  refine wpAny_isTrue_Compare1 (thn (run1 ha I eo so p) fun v s1 ⟨x, H1, d, S1, w1, I1, r1, l1, so1, rd, eo1, p1⟩ => ?_) hm
  refine thn (run1 hb I1 eo1 so1 p1) fun u s2 ⟨y, H2, e, S2, w2, I2, r2, l2, so2, re, eo2, p2⟩ => ?_
  refine thn (hf pins s2 σ H2 x y v u _ d e S2 w2 I2 r1 r2 so2 (rd.mono l2) re (Post.bind (R := RV T) p2)) fun c s3 ⟨z, H3, I3, r3, d3, S3, w3, l3, so3, rd3, p3⟩ => ?_
  exact ok_test hK I3 r3 so3 rd3 p3
def chnR (f g : D → D → Store → Res D) (ra rb rc : Env → Store → Res D) : Env → Store → Res D := fun E S => (ra E S).bind fun x S' => (rb E S').bind fun y S'' => (f x y S'').bind fun z S3 =>
      match z with
      | .bl true => (rc E S3).bind fun w S4 => g y w S4
      | .bl false => .ok (.bl false) S3
      | _ => .bad
theorem de_chn {op op' : CmpOp} {f g : D → D → Store → Res D} (hf : BinOk T X W (compareOp op) f) (hg : BinOk T X W (compareOp op') g) (ha : PE X a (tE T W ra)) (hb : PE X b (tE T W rb)) (hc : PE X c (tE T W rc)) (hm : lastMarks [op, op'] [b, c] = false) :
    PE X (.Compare a [op, op'] [b, c] pos) (tE T W (chnR f g ra rb rc)) := by
  refine ⟨fun pins s σ H Q I ⟨E, S, w, eo, so, p⟩ => ?_⟩
  unfold chnR at p
  refine Compare_chain (thn (run1 ha I eo so p) fun v s1 ⟨x, H1, d, S1, w1, I1, r1, l1, so1, rd, eo1, p1⟩ => chain_link (thn (run1 hb I1 eo1 so1 p1) fun u s2 ⟨y, H2, e, S2, w2, I2, r2, l2, so2, re, eo2, p2⟩ => 
    thn (hf pins s2 σ H2 x y v u _ d e S2 w2 I2 r1 r2 so2 (rd.mono l2) re (Post.bind (R := RV T) p2)) fun c s3 ⟨z, H3, I3, r3, d3, S3, w3, l3, so3, rd3, p3⟩ => ?_)) hm
  cases d3 with
  | bl k =>
    simp only [RV, Rep] at rd3
    subst rd3
    cases r3
    refine wpAny_truthy_bool ?_
    cases k with
    | false => exact ite_ff ⟨.bl false, H3, I3, rfl, ret_val so3 (by simp only [Rep]) p3⟩
    | true =>
      refine ite_tt (chain_last (thn (run1 hc I3 (eo2.mono l3) so3 p3) fun w' s4 ⟨z', H4, d4, S4, w4, I4, r4, l4, so4, rd4, eo4, p4⟩ => ?_))
      exact hg pins s4 σ H4 y z' u w' Q e d4 S4 w4 I4 r2 r4 so4 (re.mono (l3.trans l4)) rd4 p4
  | _ => exact p3.elim
theorem dt_chn {op op' : CmpOp} {f g : D → D → Store → Res D} (hK : X.K = T.K) (hf : BinOk T X W (compareOp op) f) (hg : BinOk T X W (compareOp op') g) (ha : PE X a (tE T W ra)) (hb : PE X b (tE T W rb)) (hc : PE X c (tE T W rc)) (hm : lastMarks [op, op'] [b, c] = false) :
    PT X (.Compare a [op, op'] [b, c] pos) (tT T W (truR (chnR f g ra rb rc))) := by
  refine ⟨fun pins s σ H Q I ⟨E, S, w, eo, so, p⟩ => ?_⟩
  unfold truR chnR at p
  simp only [Res.bind_assoc] at p
  refine isTrue_chain (thn (run1 ha I eo so p) fun v s1 ⟨x, H1, d, S1, w1, I1, r1, l1, so1, rd, eo1, p1⟩ => test_link (thn (run1 hb I1 eo1 so1 p1) fun u s2 ⟨y, H2, e, S2, w2, I2, r2, l2, so2, re, eo2, p2⟩ => 
    thn (hf pins s2 σ H2 x y v u _ d e S2 w2 I2 r1 r2 so2 (rd.mono l2) re (Post.bind (R := RV T) p2)) fun c s3 ⟨z, H3, I3, r3, d3, S3, w3, l3, so3, rd3, p3⟩ => ?_)) hm
  cases d3 with
  | bl k =>
    simp only [RV, Rep] at rd3
    subst rd3
    cases r3
    refine wpAny_truthy_bool ?_
    cases k with
    | false => exact ite_ff ⟨H3, I3, p3 false H3 w3 (Wd.le.refl w3) so3 rfl⟩
    | true =>
      simp only [Res.bind_assoc] at p3
      refine ite_tt (test_last (thn (run1 hc I3 (eo2.mono l3) so3 p3) fun w' s4 ⟨z', H4, d4, S4, w4, I4, r4, l4, so4, rd4, eo4, p4⟩ => ?_))
      refine thn (hg pins s4 σ H4 y z' u w' _ e d4 S4 w4 I4 r2 r4 so4 (re.mono (l3.trans l4)) rd4 (Post.bind (R := RV T) p4)) fun c s5 ⟨z5, H5, I5, r5, d5, S5, w5, l5, so5, rd5, p5⟩ => ?_
      exact ok_test hK I5 r5 so5 rd5 p5
  | _ => exact p3.elim
end
end DV
end
section
/-! Calls by address; own operators; equality. -/
set_option Elab.async false
set_option linter.all false
set_option maxRecDepth 100000
set_option maxHeartbeats 400000
namespace DV
open PySem L2 PyProof.Rows
/-- what the operators are called -/
def opName : Nat → Str
  | 0 => "__call__"
  | 1 => "__le__"
  | 2 => "__rshift__"
  | 3 => "__or__"
  | 4 => "__and__"
  | _ => "__len__"
/-- room for k calls, one in another -/
structure Rm (k : Nat) (A : Around) : Prop where
  dp : A.depth + 3 * k + 5 < recursionLimit
  un : A.units + 16 * k + 200 < cLine
theorem Rm.mono {j k : Nat} {A : Around} (r : Rm k A) (h : j ≤ k) : Rm j A := ⟨by have := r.dp; omega, by have := r.un; omega⟩
theorem Rm.in1 {k : Nat} {A : Around} (r : Rm (k + 1) A) : Rm k A.in1 :=
  ⟨by have := r.dp; show A.depth + 3 * k + 5 < _; omega, by have := r.un; show A.units + 1 + 16 * k + 200 < _; omega⟩
theorem Rm.make {k : Nat} {A : Around} (r : Rm (k + 1) A) (C : Addr) (us : List Value) (kw : List (Str × Value)) : Rm k (A.under (.builtin "type.__call__" ⟨.ref C :: us, kw⟩)) :=
  ⟨by have := r.dp; rw [make_depth]; omega, by have := r.un; rw [make_units]; omega⟩
theorem Rm.units0 {k : Nat} {A : Around} (r : Rm k A) : A.units < cLine := by have := r.un; omega
theorem Rm.of {k : Nat} {A : Around} (r : Room k A) : Rm k A := ⟨r.dp, r.un⟩
theorem Rm.room {k : Nat} {A : Around} (r : Rm k A) (h : A.handled = none) : Room k A := ⟨h, r.dp, r.un⟩
/-- somewhere below the running body X, with room -/
structure Sb (X : Cx) (n : Nat) (A : Around) : Prop where
  room : Rm n A
  fr : A.frames = X.A.frames
  hd : A.handled = X.A.handled
theorem Sb.in1 {X : Cx} {n : Nat} {A : Around} (s : Sb X (n + 1) A) : Sb X n A.in1 := ⟨s.room.in1, s.fr, s.hd⟩
theorem Sb.mono {X : Cx} {n m : Nat} {A : Around} (s : Sb X n A) (h : m ≤ n) : Sb X m A := ⟨s.room.mono h, s.fr, s.hd⟩
/-- how a call ends -/
def CRes (X : Cx) (pins : List (Addr × Obj)) (σ : L2.St) (Q : VK) (r : Result) (s' : Shared) : Prop := match r with
  | .ok (.ret v) => EP X pins σ Q v s'
  | .ok _ => False
  | .error e => X.xe e s'
/-- a def by its address -/
def CallOk (T : Tab) (X : Cx) (W : WX) (C : Ctx) (k : Nat) : Prop :=
  ∀ (A : Around), Sb X k A → A.guards = X.A.guards → ∀ (pins : List (Addr × Obj)) (s : Shared) (σ : L2.St) (H : Hp) (Q : VK) (vs : List V) (us : List Value) (ds : List D) (S : Store) (w : Wd) (f : Nat) (a : Addr), Inv X pins σ H s → Vals vs us → Reps T w ds vs → StoreOk T S w H → T.fa f = some a →
    Post T (RV T) W σ w Q (C.call f ds S) → codeAny (model X.prog X.w) A (.call (.ref a) ⟨us, []⟩) (CRes X pins σ Q) s
/-- a kind's class -/
def tyVal (T : Tab) : Option Ty → Option Value
  | none => some (.type "NoneType")
  | some .int => some (.type "int")
  | some .str => some (.type "str")
  | some .bool => some (.type "bool")
  | some .lst => some (.type "list")
  | some .tup => some (.type "tuple")
  | some .dct => some (.type "dict")
  | some (.cls c) => (T.ca c).map .ref
  | some (.xcl c) => (T.xa c).map .ref
  | some .vErr => some (.type "ValueError")
/-- what is known of the classes -/
structure TabOk (T : Tab) (P : Prog) : Prop where
  inj : ∀ f g, T.nm f = T.nm g → f = g
  cls : ∀ c a, T.ca c = some a → Cls T.K a ∧ PySem.W.selfFirst T.K a = true
  meth : ∀ c a m f, T.ca c = some a → methOf P c m = some f → ∃ g, T.fa f = some g ∧ Meth T.K a (T.nm m) g
  ops : ∀ j m, P.ops j = some m → T.nm m = opName j
  eqm : ∀ c a f, T.ca c = some a → eqmOf P c = some f → ∃ g, T.fa f = some g ∧ PySem.W.findIn T.K (.ref a) "__eq__" = some (some (.ref g)) ∧ PySem.W.isFn T.K (.ref g) = true
  kit : ∀ (kd : Option Ty) (t : Ty) (u v : Value), tyVal T kd = some u → tyVal T (some t) = some v → PySem.W.kitOne T.K u v = some (isT P kd t)
  own : ∀ c a, T.ca c = some a → PySem.W.findIn T.K (.ref a) "__class__" = some (some (.builtin "object.__class__")) ∧ PySem.W.specialIn T.K (.builtin "object.__class__") "__get__" = some (some (.builtin "getset_descriptor.__get__")) ∧
    PySem.W.takesIn T.K (.builtin "object.__class__") = some true ∧ PySem.W.mroIn T.K a (.type "object") = some true
  exc : ∀ c a, T.xa c = some a → ExcC T.K a
structure Hy (T : Tab) (X : Cx) (W : WX) (C : Ctx) (k : Nat) : Prop where
  hK : X.K = T.K
  tab : TabOk T C.P
  room : Rm (k + 4) X.A
  call : CallOk T X W C k
  gd : X.A.guards = some []
section
variable {T : Tab} {X : Cx} {W : WX} {C : Ctx} {k : Nat} {S : Store}
theorem Hy.sub (h : Hy T X W C k) (n : Nat) (hn : n ≤ 4) : Sb X (k + n) X.A := ⟨h.room.mono (by omega), rfl, rfl⟩
theorem Hy.run (h : Hy T X W C k) (A : Around) (sb : Sb X k A) (hg : A.guards = X.A.guards) (pins : List (Addr × Obj)) (s : Shared) (σ : L2.St) (H : Hp) (Q : VK) (vs : List V) (us : List Value) (ds : List D) (S : Store) (w : Wd) (f : Nat) (a : Addr) (I : Inv X pins σ H s) (r : Vals vs us) (rd : Reps T w ds vs) (so : StoreOk T S w H) (ha : T.fa f = some a)
    (p : Post T (RV T) W σ w Q (C.call f ds S)) : wpAny (model X.prog X.w) A (PySem.call (.ref a) us) (EP X pins σ Q) X.xe s :=
  wpAny_call (codeAny_mono (h.call A sb hg pins s σ H Q vs us ds S w f a I r rd so ha p) fun r s' hq => by
    cases r with
    | error e => exact hq
    | ok fl => cases fl <;> first | exact hq | exact False.elim hq)
theorem Hy.u65 (h : Hy T X W C k) : X.A.units + 65 < cLine := by have := h.room.un; omega
/-! same cells -/
mutual
theorem D.same_eq : ∀ {a b : D}, a.same b = true → a = b
  | .non, b, h => by cases b <;> first | rfl | (simp [D.same] at h; done)
  | .bl _, b, h => by cases b <;> first | (simp [D.same] at h; done) | (simp [D.same] at h; rw [h])
  | .int _, b, h => by cases b <;> first | (simp [D.same] at h; done) | (simp [D.same] at h; rw [h])
  | .str _, b, h => by cases b <;> first | (simp [D.same] at h; done) | (simp [D.same] at h; rw [h])
  | .fn _, b, h => by cases b <;> first | (simp [D.same] at h; done) | (simp [D.same] at h; rw [h])
  | .loc _, b, h => by cases b <;> first | (simp [D.same] at h; done) | (simp [D.same] at h; rw [h])
  | .scr _, b, h => by cases b <;> first | (simp [D.same] at h; done) | (simp [D.same] at h; rw [h])
  | .tup l, b, h => by cases b <;> first | (simp [D.same] at h; done) | (simp only [D.same] at h; rw [sames_eq h])
  | .ctup l, b, h => by cases b <;> first | (simp [D.same] at h; done) | (simp only [D.same] at h; rw [sames_eq h])
  | .lst l, b, h => by cases b <;> first | (simp [D.same] at h; done) | (simp only [D.same] at h; rw [sames_eq h])
  | .dct t l, b, h => by
    cases b <;> first | (simp [D.same] at h; done) | (simp only [D.same, Bool.and_eq_true, beq_iff_eq] at h; rw [h.1, sameKs_eq h.2])
  | .exo t l, b, h => by
    cases b <;> first | (simp [D.same] at h; done) | (simp only [D.same, Bool.and_eq_true, beq_iff_eq] at h; rw [h.1, sameFs_eq h.2])
  | .ins t l, b, h => by
    cases b <;> first | (simp [D.same] at h; done) | (simp only [D.same, Bool.and_eq_true, beq_iff_eq] at h; rw [h.1, sameFs_eq h.2])
theorem sames_eq : ∀ {a b : List D}, sames a b = true → a = b
  | [], b, h => by cases b <;> first | rfl | (simp [sames] at h; done)
  | x :: a, b, h => by
    cases b with
    | nil => simp [sames] at h
    | cons y b => simp only [sames, Bool.and_eq_true] at h; rw [D.same_eq h.1, sames_eq h.2]
theorem sameKs_eq : ∀ {a b : List (D × D)}, sameKs a b = true → a = b
  | [], b, h => by cases b <;> first | rfl | (simp [sameKs] at h; done)
  | (k, x) :: a, b, h => by
    cases b with
    | nil => simp [sameKs] at h
    | cons y b => obtain ⟨j, y⟩ := y; simp only [sameKs, Bool.and_eq_true] at h; rw [D.same_eq h.1.1, D.same_eq h.1.2, sameKs_eq h.2]
theorem sameFs_eq : ∀ {a b : List (Nat × D)}, sameFs a b = true → a = b
  | [], b, h => by cases b <;> first | rfl | (simp [sameFs] at h; done)
  | (k, x) :: a, b, h => by
    cases b with
    | nil => simp [sameFs] at h
    | cons y b => obtain ⟨j, y⟩ := y; simp only [sameFs, Bool.and_eq_true, beq_iff_eq] at h; rw [h.1.1, D.same_eq h.1.2, sameFs_eq h.2]
end
theorem Cell.same_eq {a b : Cell} (h : a.same b = true) : a = b := by
  cases a <;> cases b <;> first | (simp [Cell.same] at h; done) | skip
  · simp only [Cell.same] at h; rw [sames_eq h]
  · simp only [Cell.same, Bool.and_eq_true, beq_iff_eq] at h; rw [h.1, sameKs_eq h.2]
  · simp only [Cell.same, Bool.and_eq_true, beq_iff_eq] at h; rw [h.1, sameFs_eq h.2]
  · simp only [Cell.same, Bool.and_eq_true, beq_iff_eq] at h; rw [h.1, sameKs_eq h.2]
theorem sameSt_eq : ∀ {a b : Store}, sameSt a b = true → a = b
  | [], b, h => by cases b <;> first | rfl | (simp [sameSt] at h; done)
  | x :: a, b, h => by
    cases b with
    | nil => simp [sameSt] at h
    | cons y b => simp only [sameSt, Bool.and_eq_true] at h; rw [Cell.same_eq h.1, sameSt_eq h.2]
/-- what an own == does: nothing but new objects -/
def EqEnd (T : Tab) (X : Cx) (S : Store) (pins : List (Addr × Obj)) (σ : L2.St) (w : Wd) (s' : Shared) : Prop := ∃ H' w', Inv X pins σ H' s' ∧ Wd.le w w' ∧ StoreOk T S w' H'
def EqOk (T : Tab) (X : Cx) (S : Store) (n : Nat) (x y : D) : Prop :=
  ∀ (A : Around) (pins : List (Addr × Obj)) (s : Shared) (σ : L2.St) (H : Hp) (v u : V) (v' u' : Value) (w : Wd), Sb X n A → A.guards = X.A.guards → Inv X pins σ H s → RelV v v' → RelV u u' → StoreOk T S w H → Rep T w x v → Rep T w y u →
    wpAny (model X.prog X.w) A (eqBool v' u') (fun r s' => r = true ∧ EqEnd T X S pins σ w s') X.xe s
theorem EqEnd.trans {pins : List (Addr × Obj)} {σ : L2.St} {w w' : Wd} {s' : Shared} (l : Wd.le w w') (h : EqEnd T X S pins σ w' s') : EqEnd T X S pins σ w s' :=
  let ⟨H', w2, I, l2, so⟩ := h; ⟨H', w2, I, l.trans l2, so⟩
theorem eq_plain (hK : X.K = T.K) {n : Nat} {x y : D} {p q : PyData} (hp : pd x = some p) (hq : pd y = some q) (h : (SeqAt.shaped p && SeqAt.shaped q && PyData.eqv p q) = true) : EqOk T X S n x y := by
  intro A pins s σ H v u v' u' w sb hg0 I rv ru so rx ry
  simp only [Bool.and_eq_true] at h
  have h1 := pd_rep so hp rx
  have h2 := pd_rep so hq ry
  rw [← hK] at h1 h2
  obtain ⟨as, r1⟩ := Dp.reads I p v v' h1 rv
  obtain ⟨bs, r2⟩ := Dp.reads I q u u' h2 ru
  have hu : A.units + 64 < cLine := by have := sb.room.un; omega
  have z := SeqAt.eqAt_reads p q A s v' u' as bs r1 r2 (SeqAt.canLay_of_shaped h.1.1) (SeqAt.canLay_of_shaped h.1.2) (SeqAt.room_of_shaped h.1.1 hu)
  rw [h.2] at z
  exact z X.prog X.w X.xe _ ⟨rfl, H, w, I, Wd.le.refl w, so⟩
/-- the items, one after the other -/
theorem turn_ok {n : Nat} {A : Around} (sb : Sb X (n + 1) A) (hg0 : A.guards = X.A.guards) {pins : List (Addr × Obj)} {σ : L2.St} {w : Wd} {a b : List D} {xs ys : List V} {its its2 : List Value} (hd : ∀ (i : Nat) x y, a[i]? = some x → b[i]? = some y → EqOk T X S n x y)
    (ra : Reps T w a xs) (rb : Reps T w b ys) (r : Vals xs its) (r2 : Vals ys its2) (i : Nat) (h1 : i < its.toArray.size) (h2 : i < its2.toArray.size) (s' : Shared) (l : EqEnd T X S pins σ w s') :
    wpAny (model X.prog X.w) A.in1 (eqBool its.toArray[i] its2.toArray[i]) (fun r s2 => r = true ∧ EqEnd T X S pins σ w s2) X.xe s' := by
  obtain ⟨H1, w1, I1, l1, so1⟩ := l
  have g1 : its[i]? = some its.toArray[i] := by
    have h1' : i < its.length := by simpa using h1
    rw [List.getElem?_eq_getElem h1'] <;> simp
  have g2 : its2[i]? = some its2.toArray[i] := by
    have h2' : i < its2.length := by simpa using h2
    rw [List.getElem?_eq_getElem h2'] <;> simp
  have k1 : i < xs.length := by rw [r.length]; simpa using h1
  have k2 : i < ys.length := by rw [r2.length]; simpa using h2
  have j1 : i < a.length := by rw [← ra.length]; exact k1
  have j2 : i < b.length := by rw [← rb.length]; exact k2
  obtain ⟨x, hx, rx⟩ := ra.get (List.getElem?_eq_getElem j1)
  obtain ⟨y, hy, ry⟩ := rb.get (List.getElem?_eq_getElem j2)
  obtain ⟨u, hu, ru⟩ := r.get hx
  obtain ⟨v, hv, rv⟩ := r2.get hy
  rw [g1] at hu
  rw [g2] at hv
  rw [Option.some.inj hu, Option.some.inj hv]
  refine wpAny_mono (hd i _ _ (List.getElem?_eq_getElem j1) (List.getElem?_eq_getElem j2) A.in1 pins s' σ H1 x y u v w1 sb.in1 hg0 I1 ru rv so1 (rx.mono l1) (ry.mono l1)) (fun r s2 q => ?_) fun _ _ x => x
  exact ⟨q.1, q.2.trans l1⟩
mutual
theorem eqT_ok (hy : Hy T X W C k) : ∀ (n : Nat) (x y : D), eqT C S n x y = true → EqOk T X S (k + n) x y
  | 0, .tup a, y, h => by simp [eqT] at h
  | n + 1, .tup a, y, h => by
    cases y with
    | tup b =>
      simp only [eqT] at h
      obtain ⟨hl, hd⟩ := eqTs_ok hy n a b h
      intro A pins s σ H v u v' u' w sb hg0 I rv ru so rx ry
      obtain ⟨p, xs, rfl, hp, rxs⟩ := tup_rep so rx
      obtain ⟨q, ys, rfl, hq, rys⟩ := tup_rep so ry
      cases rv; cases ru
      by_cases e : p = q
      · subst e
        exact SeqAt.EqAt.same (A := A) (s := s) (.ref p) X.prog X.w X.xe _ ⟨rfl, H, w, I, Wd.le.refl w, so⟩
      · rw [← hy.hK] at hp hq
        obtain ⟨its, r, e1, z⟩ := I.tuple hp
        obtain ⟨its2, r2, e2, z2⟩ := I.tuple hq
        have hsz : its.toArray.size = its2.toArray.size := by rw [List.size_toArray, List.size_toArray, ← r.length, ← r2.length, rxs.length, rys.length]; exact hl
        exact GQ.eqBool_refG e (GQ.rc_tupG hsz sb.room.units0 (fun _ s' => EqEnd T X S pins σ w s') e1 e2 (fun i h1 h2 s' q => turn_ok sb hg0 hd rxs rys r r2 i h1 h2 s' q) (fun s' q => ⟨true, rfl, rfl, q⟩) ⟨H, w, I, Wd.le.refl w, so⟩)
    | _ => simp [eqT] at h
  | 0, .lst a, y, h => by simp [eqT] at h
  | n + 1, .lst a, y, h => by
    cases y with
    | lst b =>
      simp only [eqT] at h
      obtain ⟨hl, hd⟩ := eqTs_ok hy n a b h
      intro A pins s σ H v u v' u' w sb hg0 I rv ru so rx ry
      simp only [Rep] at rx ry
      obtain ⟨p, xs, rfl, hp, rxs⟩ := rx
      obtain ⟨q, ys, rfl, hq, rys⟩ := ry
      cases rv; cases ru
      by_cases e : p = q
      · subst e
        exact SeqAt.EqAt.same (A := A) (s := s) (.ref p) X.prog X.w X.xe _ ⟨rfl, H, w, I, Wd.le.refl w, so⟩
      · refine GQ.eqBool_refG e (GQ.rc_listG (N := xs.length) sb.room.units0 (fun _ s' => EqEnd T X S pins σ w s') (fun i s' z => ?_) (fun s' q => ⟨true, rfl, rfl, q⟩) ⟨H, w, I, Wd.le.refl w, so⟩)
        obtain ⟨H1, w1, I1, l1, so1⟩ := id z
        obtain ⟨_, its, m, r, e1⟩ := I1.hok p _ (so1.G.st _ _ rfl (l1.G.st _ _ rfl hp))
        obtain ⟨_, its2, m2, r2, e2⟩ := I1.hok q _ (so1.G.st _ _ rfl (l1.G.st _ _ rfl hq))
        refine ⟨its.toArray, its2.toArray, m, m2, e1, e2, by rw [List.size_toArray, ← r.length], by rw [List.size_toArray, ← r2.length, rys.length, rxs.length, hl], fun h1 h2 => ?_⟩
        exact turn_ok sb hg0 hd rxs rys r r2 i h1 h2 s' z
    | _ => simp [eqT] at h
  | n, .ins c fs, y, h => by
    cases y with
    | ins d gs =>
      simp only [eqT] at h
      cases em : eqmOf C.P c with
      | none => rw [em] at h; simp at h
      | some m =>
        rw [em] at h
        simp only at h
        split at h
        · rename_i S' ec
          rw [Bool.and_eq_true, beq_iff_eq] at h
          obtain ⟨rfl, hS⟩ := h
          have hS := sameSt_eq hS
          subst hS
          intro A pins s σ H v u v' u' w sb hg0 I rv ru so rx ry
          have rx0 := rx
          have ry0 := ry
          simp only [Rep] at rx ry
          obtain ⟨a, Ca, dx, hs, rfl, hc, ha, rf⟩ := rx
          obtain ⟨b, Cb, dy, hs2, rfl, hc2, hb, rf2⟩ := ry
          rw [hc] at hc2
          cases hc2
          cases rv; cases ru
          by_cases e : a = b
          · subst e
            exact SeqAt.EqAt.same (A := A) (s := s) (.ref a) X.prog X.w X.xe _ ⟨rfl, H, w, I, Wd.le.refl w, so⟩
          · refine GQ.eqBool_refG e ?_
            obtain ⟨g, hg, hs, hf⟩ := hy.tab.eqm c Ca m hc em
            obtain ⟨mA, J, _⟩ := ins_get I.hok (so.G.st _ _ rfl ha)
            obtain ⟨mB, J', _⟩ := ins_get I.hok (so.G.st _ _ rfl hb)
            obtain ⟨od, J, _⟩ := J.look
            obtain ⟨od', J', _⟩ := J'.look
            obtain ⟨m, hF⟩ := I.fr
            rw [← hy.hK] at hs hf
            refine PySem.W.cmp_K (op := .Eq) (tb := .ref Ca) sb.room.units0 hF I.ok.mod.kin J J'.type (by simp [PySem.W.notFirst]) hs hf ?_
            refine wpAny_mono (hy.run A (sb.mono (Nat.le_add_right _ _)) hg0 pins s σ H (fun v H' => v = .bl true ∧ ∃ w', Wd.le w w' ∧ StoreOk T S w' H') [.ref a, .ref b] [.ref a, .ref b] [.ins c fs, .ins c gs] S w _ g I (.cons rfl (.cons rfl .nil))
              (Reps.cons rx0 (Reps.one ry0)) so hg (by
                rw [ec]
                intro v H' w' l so' rd
                simp only [RV, Rep] at rd
                exact ⟨rd, w', l, so'⟩)) (fun r s' q => ?_) fun _ _ x => x
            obtain ⟨v, H', I', rv, rfl, w', l, so'⟩ := q
            exact SlX.cmpback rv (by
              cases (show r = Value.bool true from rv)
              exact ⟨true, rfl, rfl, H', w', I', l, so'⟩)
        · simp at h
    | _ => simp [eqT] at h
  | n, .non, y, h => by
    simp only [eqT] at h
    split at h
    · rename_i a b e1 e2; exact eq_plain hy.hK e1 e2 h
    · simp at h
  | n, .bl _, y, h => by
    simp only [eqT] at h
    split at h
    · rename_i a b e1 e2; exact eq_plain hy.hK e1 e2 h
    · simp at h
  | n, .int _, y, h => by
    simp only [eqT] at h
    split at h
    · rename_i a b e1 e2; exact eq_plain hy.hK e1 e2 h
    · simp at h
  | n, .str _, y, h => by
    simp only [eqT] at h
    split at h
    · rename_i a b e1 e2; exact eq_plain hy.hK e1 e2 h
    · simp at h
  | n, .ctup _, y, h => by
    simp only [eqT] at h
    split at h
    · rename_i a b e1 e2; exact eq_plain hy.hK e1 e2 h
    · simp at h
  | n, .dct _ _, y, h => by
    simp only [eqT] at h
    split at h
    · rename_i a b e1 e2; exact eq_plain hy.hK e1 e2 h
    · simp at h
  | n, .fn _, y, h => by
    simp only [eqT] at h
    split at h
    · rename_i a b e1 e2; exact eq_plain hy.hK e1 e2 h
    · simp at h
  | n, .loc _, y, h => by
    simp only [eqT] at h
    split at h
    · rename_i a b e1 e2; exact eq_plain hy.hK e1 e2 h
    · simp at h
  | n, .scr _, y, h => by
    simp only [eqT] at h
    split at h
    · rename_i a b e1 e2; exact eq_plain hy.hK e1 e2 h
    · simp at h
theorem eqTs_ok (hy : Hy T X W C k) : ∀ (n : Nat) (a b : List D), eqTs C S n a b = true → a.length = b.length ∧ ∀ (i : Nat) x y, a[i]? = some x → b[i]? = some y → EqOk T X S (k + n) x y
  | n, [], b, h => by
    cases b with
    | nil => exact ⟨rfl, fun i x y h => by simp at h⟩
    | cons y b => simp [eqTs] at h
  | n, x :: a, b, h => by
    cases b with
    | nil => simp [eqTs] at h
    | cons y b =>
      simp only [eqTs, Bool.and_eq_true] at h
      have h1 := eqT_ok hy n x y h.1
      obtain ⟨hl, h2⟩ := eqTs_ok hy n a b h.2
      refine ⟨by simp [hl], fun i x' y' e1 e2 => ?_⟩
      cases i with
      | zero => simp at e1 e2; subst e1; subst e2; exact h1
      | succ i => simp at e1 e2; exact h2 i x' y' e1 e2
end
end
end DV
end
section
/-! == and != as expressions, own operators. -/
set_option Elab.async false
set_option linter.all false
set_option maxRecDepth 100000
set_option maxHeartbeats 400000
namespace DV.N
open PySem PySem.SeqAt
open AutoSeq1 (wpAny_loadPart')
open MeetsSeq MeetsSeq2 MeetsSeq3 SeqRoads2
section
variable {prog : Program} {w : World} {A : Around} {R : Result → Shared → Prop}
/-- != of two tuples whose items are equal -/
theorem tuple_neG (l b : Addr) (items items2 : Array Value) (n n2 : Nat) (dd dd2 : Option Addr) (sl sl2 : Array (Option Value)) (hsz : items.size = items2.size) (I : Nat → Shared → Prop)
    (turn : ∀ i (h1 : i < items.size) (h2 : i < items2.size) s, I i s → wpAny (model prog w) A.in1 (eqBool items[i] items2[i]) (fun r s' => r = true ∧ I (i + 1) s') (fun e s' => R (.error e) s') s)
    (fin : ∀ s, I items.size s → R (.ok (.ret (.bool false))) s) {s : Shared} (hl1 : s.heap.get? l = some { cls := .type "tuple", dict := dd, data := .seq items n, slots := sl }) (hb1 : s.heap.get? b = some { cls := .type "tuple", dict := dd2, data := .seq items2 n2, slots := sl2 }) (h : I 0 s) :
    wpAny (model prog w) A.in1 (Builtin.«tuple.__ne__» ⟨[.ref l, .ref b], []⟩) (GQ.FinOf prog w A R) (fun e s' => R (.error e) s') s := by
  have f2 := AutoSeq1.sub_tuple_tuple
  have hZ : (items.toList.zip items2.toList).length = items.size := by simp [hsz]
  have h0 := h
  obtain ⟨hp, g, d, tk, os⟩ := s
  wp_walk using wpAny_loadPart' hl1, wpAny_loadPart' hb1, wpAny_forIn_list _ (fun rest b s' => b.1 = none ∧ ∃ i, rest = (items.toList.zip items2.toList).drop i ∧ i ≤ items.size ∧ I i s') _
  case turn =>
    rintro ⟨y, x⟩ rest b s' ⟨hb', i, hz, hi, hI⟩
    have hlt : i < (items.toList.zip items2.toList).length := by
      rcases Nat.lt_or_ge i (items.toList.zip items2.toList).length with h' | h'
      · exact h'
      · rw [List.drop_of_length_le h'] at hz; cases hz
    have h1 : i < items.size := hZ ▸ hlt
    have h2 : i < items2.size := hsz ▸ h1
    rw [List.drop_eq_getElem_cons hlt] at hz
    injection hz with hyx hrest
    have hy : y = items[i] := by have := congrArg Prod.fst hyx; simpa using this
    have hx : x = items2[i] := by have := congrArg Prod.snd hyx; simpa using this
    subst hy hx
    refine wpAny_bind (wpAny_mono (turn i h1 h2 s' hI) (fun r s2 q2 => ?_) fun _ _ x => x)
    obtain ⟨hr, q2⟩ := q2
    subst hr
    wp_walk
    exact ⟨rfl, i + 1, hrest, h1, q2⟩
  case fin =>
    rintro ⟨b1, b2⟩ s' ⟨hb', i, hz, hi, hI⟩
    simp only at hb'
    subst hb'
    have hge : items.size ≤ i := by
      rcases Nat.lt_or_ge i (items.toList.zip items2.toList).length with h' | h'
      · rw [List.drop_eq_getElem_cons h'] at hz; cases hz
      · exact hZ ▸ h'
    have hi' : i = items.size := by omega
    have hR : R (.ok (.ret (.bool false))) s' := fin s' (hi' ▸ hI)
    wp_walk
    simpa [Builtin.Tuple.tupleCompareSizes, hsz] using hR
  case h =>
    exact ⟨rfl, 0, rfl, Nat.zero_le _, h0⟩
end
section
variable {prog : Program} {w : World} {A : Around} {E : Value → Shared → Prop} {s : Shared}
theorem rc_neG {l b : Addr} {items items2 : Array Value} {Q : Value → Shared → Prop} (hsz : items.size = items2.size) (hu : A.units < cLine) (I : Nat → Shared → Prop)
    (hl : s.heap.IsTuple l items) (hb : s.heap.IsTuple b items2)
    (turn : ∀ i (h1 : i < items.size) (h2 : i < items2.size) s, I i s → wpAny (model prog w) A.in1 (eqBool items[i] items2[i]) (fun r s' => r = true ∧ I (i + 1) s') E s)
    (fin : ∀ s, I items.size s → Q (.bool false) s) (h : I 0 s) : wpAny (model prog w) A (richCompare .NotEq (.ref l) (.ref b)) Q E s := by
  obtain ⟨⟨cls, dd, data, sl⟩, ho, hc, n, hd⟩ := id hl
  obtain ⟨⟨cls2, dd2, data2, sl2⟩, ho2, hc2, n2, hd2⟩ := id hb
  simp only at hc hd hc2 hd2
  subst hc hd hc2 hd2
  refine wpAny_richCompare_same_room (op := .NotEq) ⟨_, ho, rfl⟩ ⟨_, ho2, rfl⟩ F.slot_tuple_ne (GQ.call_here F.slot_tuple_ne ⟨_, ho, rfl⟩ F.entry_tuple_ne (F.args_tuple_ne_2 _ _) ?_) hu
  exact tuple_neG (R := wants (fun v s' => v ≠ .notImplemented ∧ Q v s') E) l b items items2 n n2 dd dd2 sl sl2 hsz I turn (fun s' q => ⟨(fun x => nomatch x), fin s' q⟩) ho ho2 h
end
end DV.N
namespace DV
open PySem L2 PyProof.Rows
section
variable {T : Tab} {X : Cx} {W : WX} {C : Ctx} {k : Nat}
/-- own operators: two instances of one class -/
theorem ins2_rep {m : Nat → Option Nat} {S : Store} {x y : D} {w : Wd} {H : Hp} {v u : V} {σ : L2.St} {Q : VK} (so : StoreOk T S w H) (rx : Rep T w x v) (ry : Rep T w y u) (p : Post T (RV T) W σ w Q (insOp2 C S m x y)) :
    ∃ c Ca f a b dx dy hs hs2, T.ca c = some Ca ∧ m c = some f ∧ v = .ref a ∧ u = .ref b ∧ H a = some (.ins Ca dx hs) ∧ H b = some (.ins Ca dy hs2) ∧ Post T (RV T) W σ w Q (C.call f [x, y] S) := by
  unfold insOp2 at p
  split at p
  · rename_i c fs d gs e1 e2
    split at p
    · rename_i hcd
      have hcd := beq_iff_eq.mp hcd
      subst hcd
      split at p
      · rename_i f hf
        obtain ⟨a, Ca, dx, hs, rfl, hc, ha, _⟩ := ins_rep so rx e1
        obtain ⟨b, Cb, dy, hs2, rfl, hc2, hb, _⟩ := ins_rep so ry e2
        rw [hc] at hc2
        cases hc2
        exact ⟨c, Ca, f, a, b, dx, dy, hs, hs2, hc, hf, rfl, rfl, ha, hb, p⟩
      · exact p.elim
    · exact p.elim
  · exact p.elim
theorem ok_own {op : CmpOp} (hop : ∀ a b, compareOp op a b = richCompare op a b) (hy : Hy T X W C k) {m : Nat → Option Nat} (hm : ∀ c a f, T.ca c = some a → m c = some f → ∃ g, T.fa f = some g ∧ PySem.W.findIn T.K (.ref a) (cmpInfo op).2.1 = some (some (.ref g)) ∧ PySem.W.isFn T.K (.ref g) = true) :
    BinOk T X W (compareOp op) (fun x y S => insOp2 C S m x y) := by
  intro pins s σ H x y v u Q d e S w I rx ry so rd re p
  obtain ⟨c, Ca, f, a, b, dx, dy, hs, hs2, hc, hf, rfl, rfl, ha, hb, p⟩ := ins2_rep so rd re p
  obtain ⟨g, hg, hfi, hfn⟩ := hm c Ca f hc hf
  cases rx; cases ry
  obtain ⟨mA, J, _⟩ := ins_get I.hok ha
  obtain ⟨mB, J', _⟩ := ins_get I.hok hb
  obtain ⟨od, J, _⟩ := J.look
  obtain ⟨od', J', _⟩ := J'.look
  obtain ⟨m, hF⟩ := I.fr
  rw [hop]
  rw [← hy.hK] at hfi hfn
  refine PySem.W.cmp_K (op := op) (tb := .ref Ca) hy.room.units0 hF I.ok.mod.kin J J'.type (by simp [PySem.W.notFirst]) hfi hfn ?_
  refine wpAny_mono (hy.run X.A (hy.sub 0 (by omega)) rfl pins s σ H Q [.ref a, .ref b] [.ref a, .ref b] [d, e] S w f g I (.cons rfl (.cons rfl .nil)) (Reps.cons rd (Reps.one re)) so hg p) (fun r s' q => ?_) fun _ _ x => x
  obtain ⟨z, H', I', rz, q⟩ := q
  exact SlX.cmpback rz ⟨z, H', I', rz, q⟩
theorem ok_ownB {op : Operator} {j : Nat} (hj : opName j = PySem.dunder op.info.2) (hy : Hy T X W C k) : BinOk T X W (binaryOp op) (fun x y S => insOp2 C S (opOf C.P j) x y) := by
  intro pins s σ H x y v u Q d e S w I rx ry so rd re p
  obtain ⟨c, Ca, f, a, b, dx, dy, hs, hs2, hc, hf, rfl, rfl, ha, hb, p⟩ := ins2_rep so rd re p
  unfold opOf at hf
  cases ho : C.P.ops j with
  | none => rw [ho] at hf; cases hf
  | some m =>
    rw [ho] at hf
    obtain ⟨g, hg, hm⟩ := hy.tab.meth c Ca m f hc hf
    have hn := hy.tab.ops j m ho
    rw [hn, hj] at hm
    cases rx; cases ry
    obtain ⟨mA, J, _⟩ := ins_get I.hok ha
    obtain ⟨mB, J', _⟩ := ins_get I.hok hb
    obtain ⟨od, J, _⟩ := J.look
    obtain ⟨od', J', _⟩ := J'.look
    obtain ⟨_, hF⟩ := I.fr
    have hfi := hm.at_
    have hfn := hm.fn
    have hsf := (hy.tab.cls c Ca hc).2
    rw [← hy.hK] at hfi hfn hsf
    refine PySem.W.binop_K hF I.ok.mod.kin J J'.type hsf hfi hfn ?_
    refine wpAny_mono (hy.run X.A (hy.sub 0 (by omega)) rfl pins s σ H Q [.ref a, .ref b] [.ref a, .ref b] [d, e] S w f g I (.cons rfl (.cons rfl .nil)) (Reps.cons rd (Reps.one re)) so hg p) (fun r s' q => ?_) fun _ _ x => x
    obtain ⟨z, H', I', rz, q⟩ := q
    exact SlX.cmpback rz ⟨z, H', I', rz, q⟩
/-- known at once -/
theorem eqD_run (hy : Hy T X W C k) {ne : Bool} {pins : List (Addr × Obj)} {s : Shared} {σ : L2.St} {H : Hp} {x y : V} {v u : Value} {Q : VK} {d e : D} {S : Store} {w : Wd} {b : Bool} (I : Inv X pins σ H s) (rx : RelV x v) (ry : RelV y u) (so : StoreOk T S w H) (rd : Rep T w d x) (re : Rep T w e y)
    (h : eqD C S d e = some b) (q : Post T (RV T) W σ w Q (.ok (.bl (if ne then !b else b)) S)) : wpAny (model X.prog X.w) X.A (compareOp (if ne then .NotEq else .Eq) v u) (EP X pins σ Q) X.xe s := by
  have fin : ∀ s' H' w', Inv X pins σ H' s' → Wd.le w w' → StoreOk T S w' H' → EP X pins σ Q (.bool (if ne then !b else b)) s' := fun s' H' w' I' l so' => ⟨.bl _, H', I', rfl, q _ H' w' l so' (by simp only [RV, Rep])⟩
  have fin0 := fin s H w I (Wd.le.refl w) so
  unfold eqD at h
  split at h
  · rename_i p1 p2 e1 e2
    split at h
    · rename_i hs
      rw [Bool.and_eq_true] at hs
      have h' := Option.some.inj h
      have h1 := pdS_rep so e1 rd
      have h2 := pdS_rep so e2 re
      rw [← hy.hK] at h1 h2
      have hu : X.A.units + 64 < cLine := by have := hy.room.un; omega
      cases ne with
      | false => exact op_eqD hu pins s σ H x y v u Q I rx ry ⟨p1, p2, h1, h2, hs.1, hs.2, by rw [h']; exact ret_val so (by simp only [Rep]; rfl) q⟩
      | true => exact op_neD hu pins s σ H x y v u Q I rx ry ⟨p1, p2, h1, h2, hs.1, hs.2, by rw [h']; exact ret_val so (by simp only [Rep]; rfl) q⟩
    · cases h
  · split at h
    · rename_i a b' _
      split at h
      · rename_i ht
        have h' := Option.some.inj h
        subst h'
        obtain ⟨hl, hd⟩ := eqTs_ok hy 3 a b' ht
        obtain ⟨l1, xs, rfl, s1, q1⟩ := tup_rep so rd
        obtain ⟨l2, ys, rfl, s2, q2⟩ := tup_rep so re
        rw [← hy.hK] at s1 s2
        cases rx; cases ry
        obtain ⟨its, r, e1, z⟩ := I.tuple s1
        obtain ⟨its2, r2, e2, z2⟩ := I.tuple s2
        have hsz : its.toArray.size = its2.toArray.size := by rw [List.size_toArray, List.size_toArray, ← r.length, ← r2.length, q1.length, q2.length]; exact hl
        have sb : Sb X (k + 3 + 1) X.A := hy.sub 4 (by omega)
        cases ne with
        | false => exact GQ.rc_tupG hsz hy.room.units0 (fun _ s' => EqEnd T X S pins σ w s') e1 e2 (fun i h1 h2 s' q => turn_ok sb rfl hd q1 q2 r r2 i h1 h2 s' q) (fun s' ⟨H', w', I', l', so'⟩ => fin s' H' w' I' l' so') ⟨H, w, I, Wd.le.refl w, so⟩
        | true => exact N.rc_neG hsz hy.room.units0 (fun _ s' => EqEnd T X S pins σ w s') e1 e2 (fun i h1 h2 s' q => turn_ok sb rfl hd q1 q2 r r2 i h1 h2 s' q) (fun s' ⟨H', w', I', l', so'⟩ => fin s' H' w' I' l' so') ⟨H, w, I, Wd.le.refl w, so⟩
      · cases h
    · split at h
      · rename_i a b' e1 e2
        split at h
        · rename_i hl
          have h' := Option.some.inj h
          subst h'
          obtain ⟨l1, xs, rfl, s1, q1⟩ := seqX_rep so rd e1
          obtain ⟨l2, ys, rfl, s2, q2⟩ := seqX_rep so re e2
          cases rx; cases ry
          obtain ⟨its, r, pl, _⟩ := I.list (SqL.of s1)
          obtain ⟨its2, r2, pl2, _⟩ := I.list (SqL.of s2)
          have hsz : (its.toArray.size != its2.toArray.size) = true := by
            rw [List.size_toArray, List.size_toArray, ← r.length, ← r2.length, q1.length, q2.length]; exact hl
          cases ne with
          | false => exact SeqAt.eq_list_lengthsAt pl.isList pl2.isList hsz hy.room.units0 fin0
          | true => exact SeqAt.RcNeAt.lists_lengths pl.isList pl2.isList hsz hy.room.units0 X.prog X.w X.xe _ fin0
        · cases h
      · cases h
theorem ok_eq (hy : Hy T X W C k) : BinOk T X W (compareOp .Eq) (fun x y S => cmpD C S .eq x y) := by
  intro pins s σ H x y v u Q d e S w I rx ry so rd re p
  replace p : Post T (RV T) W σ w Q (match eqD C S d e with
    | some b => .ok (.bl b) S
    | none => insOp2 C S (eqmOf C.P) d e) := p
  cases z : eqD C S d e with
  | some b => rw [z] at p; exact eqD_run (ne := false) hy I rx ry so rd re z p
  | none =>
    rw [z] at p
    exact ok_own (op := .Eq) (fun _ _ => rfl) hy (fun c a f hc hf => hy.tab.eqm c a f hc hf) pins s σ H x y v u Q d e S w I rx ry so rd re p
theorem ok_ne (hy : Hy T X W C k) : BinOk T X W (compareOp .NotEq) (fun x y S => cmpD C S .ne x y) := by
  intro pins s σ H x y v u Q d e S w I rx ry so rd re p
  replace p : Post T (RV T) W σ w Q (match eqD C S d e with
    | some b => .ok (.bl (!b)) S
    | none => .bad) := p
  cases z : eqD C S d e with
  | some b => rw [z] at p; exact eqD_run (ne := true) hy I rx ry so rd re z p
  | none => rw [z] at p; exact p.elim
theorem ok_le (hy : Hy T X W C k) : BinOk T X W (compareOp .LtE) (fun x y S => cmpD C S .le x y) := by
  intro pins s σ H x y v u Q d e S w I rx ry so rd re p
  have own : Post T (RV T) W σ w Q (insOp2 C S (opOf C.P 1) d e) → wpAny (model X.prog X.w) X.A (compareOp .LtE v u) (EP X pins σ Q) X.xe s := fun p =>
    ok_own (op := .LtE) (fun _ _ => rfl) hy (fun c a f hc hf => by
      unfold opOf at hf
      cases ho : C.P.ops 1 with
      | none => rw [ho] at hf; cases hf
      | some m =>
        rw [ho] at hf
        obtain ⟨g, hg, hm⟩ := hy.tab.meth c a m f hc hf
        have hn := hy.tab.ops 1 m ho
        rw [hn] at hm
        exact ⟨g, hg, hm.at_, hm.fn⟩) pins s σ H x y v u Q d e S w I rx ry so rd re p
  cases d with
  | int i =>
    cases e with
    | int j =>
      simp only [Rep] at rd re
      subst rd; subst re
      exact op_le pins s σ H _ _ v u Q I rx ry ⟨i, j, rfl, rfl, ret_val so (by simp only [Rep]) p⟩
    | _ => exact own p
  | _ => exact own p
/-- all of them -/
def coOp : CO → CmpOp
  | .eq => .Eq | .ne => .NotEq | .lt => .Lt | .le => .LtE | .gt => .Gt | .ge => .GtE | .isN => .Is | .notN => .IsNot | .isT => .Is | .isin => .In | .notin => .NotIn
def boOp : BO → Operator
  | .add => .Add | .sub => .Sub | .mul => .Mult | .mod => .Mod | .fdiv => .FloorDiv | .pow => .Pow | .or => .BitOr | .and => .BitAnd | .shr => .RShift
theorem ok_cmp (hy : Hy T X W C k) (op : CO) : BinOk T X W (compareOp (coOp op)) (fun x y S => cmpD C S op x y) := by
  cases op with
  | eq => exact ok_eq hy
  | ne => exact ok_ne hy
  | lt => exact ok_lt
  | le => exact ok_le hy
  | gt => exact ok_cmpI op_gt
  | ge => exact ok_cmpI op_ge
  | isN => exact ok_isN
  | notN => exact ok_notN
  | isT => exact ok_isT
  | isin => exact ok_in hy.hK hy.u65
  | notin => exact ok_notin hy.hK hy.u65
theorem ok_bin (hy : Hy T X W C k) (op : BO) : BinOk T X W (binaryOp (boOp op)) (fun x y S => binD C S op x y) := by
  cases op with
  | add => exact ok_add hy.hK
  | sub => exact ok_sub
  | mul => exact ok_mul
  | mod => exact ok_mod
  | fdiv => exact ok_fdiv
  | pow => exact ok_pow
  | or => exact ok_ownB rfl hy
  | and => exact ok_ownB rfl hy
  | shr => exact ok_ownB rfl hy
end
end DV
end
section
/-! Built-in functions and methods. -/
set_option Elab.async false
set_option linter.all false
set_option maxRecDepth 100000
set_option maxHeartbeats 400000
namespace DV
open PySem L2 PyProof.Rows
def bfName : BF → Str
  | .len => "len" | .int => "int" | .str => "str" | .abs => "abs" | .max2 => "max" | .min2 => "min" | .max => "max" | .min => "min" | .sum => "sum" | .all => "all" | .any => "any" | .list => "list" | .tuple => "tuple" | .dict => "dict" | .sorted => "sorted" | .repr => "repr"
def bfVal : BF → Value
  | .len => .builtin "len" | .int => .type "int" | .str => .type "str" | .abs => .builtin "abs" | .max2 => .builtin "max" | .min2 => .builtin "min" | .max => .builtin "max" | .min => .builtin "min" | .sum => .builtin "sum" | .all => .builtin "all" | .any => .builtin "any"
  | .list => .type "list" | .tuple => .type "tuple" | .dict => .type "dict" | .sorted => .builtin "sorted" | .repr => .builtin "repr"
/-- what wants no exception handled -/
def bfCalm : BF → Bool
  | .max2 => true | .min2 => true | .sum => true | .all => true | .any => true | _ => false
def BfOk (T : Tab) (X : Cx) (W : WX) (f : Value) (g : List D → Store → Res D) : Prop :=
  ∀ (pins : List (Addr × Obj)) (s : Shared) (σ : L2.St) (H : Hp) (vs : List V) (us : List Value) (Q : VK) (ds : List D) (S : Store) (w : Wd), Inv X pins σ H s → Vals vs us → StoreOk T S w H → Reps T w ds vs →
    Post T (RV T) W σ w Q (g ds S) → wpAny (model X.prog X.w) X.A (call f us) (EP X pins σ Q) X.xe s
section
variable {T : Tab} {X : Cx} {W : WX} {C : Ctx} {k : Nat}
theorem Reps.one_inv {w : Wd} {d : D} {vs : List V} (h : Reps T w [d] vs) : ∃ v, vs = [v] ∧ Rep T w d v := by
  obtain ⟨v, r, rfl, h1, h2⟩ := h.uncons
  simp only [Reps] at h2
  subst h2
  exact ⟨v, rfl, h1⟩
theorem ints_rep {w : Wd} : ∀ {ds : List D} {vs : List V} {ns : List Int}, Reps T w ds vs → intsD ds = some ns → vs = ns.map V.int
  | [], _, _, h, e => by simp only [Reps] at h; simp only [intsD, Option.some.injEq] at e; subst e; subst h; rfl
  | d :: ds, _, _, h, e => by
    obtain ⟨v, r, rfl, h1, h2⟩ := h.uncons
    cases d with
    | int i =>
      simp only [intsD] at e
      obtain ⟨l, e1, rfl⟩ := omap_some e
      simp only [Rep] at h1
      rw [h1, ints_rep h2 e1]; rfl
    | _ => simp [intsD] at e
theorem strs_rep {w : Wd} : ∀ {ds : List D} {vs : List V} {ns : List Str}, Reps T w ds vs → strsD ds = some ns → vs = ns.map V.str
  | [], _, _, h, e => by simp only [Reps] at h; simp only [strsD, Option.some.injEq] at e; subst e; subst h; rfl
  | d :: ds, _, _, h, e => by
    obtain ⟨v, r, rfl, h1, h2⟩ := h.uncons
    cases d with
    | str i =>
      simp only [strsD] at e
      obtain ⟨l, e1, rfl⟩ := omap_some e
      simp only [Rep] at h1
      rw [h1, strs_rep h2 e1]; rfl
    | _ => simp [strsD] at e
theorem bls_rep {w : Wd} : ∀ {ds : List D} {vs : List V} {ns : List Bool}, Reps T w ds vs → blsD ds = some ns → vs = ns.map V.bl
  | [], _, _, h, e => by simp only [Reps] at h; simp only [blsD, Option.some.injEq] at e; subst e; subst h; rfl
  | d :: ds, _, _, h, e => by
    obtain ⟨v, r, rfl, h1, h2⟩ := h.uncons
    cases d with
    | bl i =>
      simp only [blsD] at e
      obtain ⟨l, e1, rfl⟩ := omap_some e
      simp only [Rep] at h1
      rw [h1, bls_rep h2 e1]; rfl
    | _ => simp [blsD] at e
theorem reps_int' {w : Wd} : ∀ ns : List Int, Reps T w (ns.map D.int) (ns.map V.int) := reps_int
theorem reps_str {w : Wd} : ∀ ns : List Str, Reps T w (ns.map D.str) (ns.map V.str)
  | [] => Reps.nil
  | n :: r => Reps.cons (by simp only [Rep]) (reps_str r)
theorem one_arg {g : List D → Store → Res D} {f : Value} (hg : ∀ ds S, (∀ d, ds ≠ [d]) → g ds S = .bad) (h : ∀ (pins : List (Addr × Obj)) (s : Shared) (σ : L2.St) (H : Hp) (v : V) (u : Value) (Q : VK) (d : D) (S : Store) (w : Wd), Inv X pins σ H s → RelV v u → StoreOk T S w H → Rep T w d v →
    Post T (RV T) W σ w Q (g [d] S) → wpAny (model X.prog X.w) X.A (call f [u]) (EP X pins σ Q) X.xe s) : BfOk T X W f g := by
  intro pins s σ H vs us Q ds S w I r so rd p
  by_cases hd : ∃ d, ds = [d]
  · obtain ⟨d, rfl⟩ := hd
    obtain ⟨v, rfl, rd1⟩ := Reps.one_inv rd
    obtain ⟨u, rfl, ru⟩ := vals1 r
    exact h pins s σ H v u Q d S w I ru so rd1 p
  · rw [hg ds S (fun d e => hd ⟨d, e⟩)] at p
    exact p.elim
theorem not_one {α : Type} {ds : List D} {f : D → α} {b : α} (h : ∀ d, ds ≠ [d]) : (match ds with | [d] => f d | _ => b) = b := by
  match ds, h with
  | [], _ => rfl
  | [d], h => exact absurd rfl (h d)
  | _ :: _ :: _, _ => rfl
theorem ok_len (hK : X.K = T.K) : BfOk T X W (.builtin "len") (fun ds S => bfD S .len ds) := by
  refine one_arg (fun ds S h => ?_) fun pins s σ H v u Q d S w I ru so rd p => ?_
  · match ds, h with
    | [], _ => rfl
    | [d], h => exact absurd rfl (h d)
    | _ :: _ :: _, _ => rfl
  · have any : ∀ ds, anyV S d = some ds → Post T (RV T) W σ w Q (.ok (.int ds.length) S) → wpAny (model X.prog X.w) X.A (call (.builtin "len") [u]) (EP X pins σ Q) X.xe s := fun ds e p => by
      obtain ⟨a, xs, rfl, h, r⟩ := any_rep so rd e
      rw [← hK] at h
      refine call_len pins s σ H [.ref a] [u] Q I (.cons ru .nil) ⟨.ref a, xs.length, rfl, h.elim (fun h => .inl ⟨xs, h, rfl⟩) (fun h => .inr ⟨xs, h, rfl⟩), ?_⟩
      rw [r.length]
      exact ret_val so (by simp only [Rep]) p
    have gen : Post T (RV T) W σ w Q (match anyV S d with
      | some ds => .ok (.int ds.length) S
      | none => match dctV S d with
        | some (t, kvs) => if t then .bad else .ok (.int kvs.length) S
        | none => .bad) → wpAny (model X.prog X.w) X.A (call (.builtin "len") [u]) (EP X pins σ Q) X.xe s := fun p => by
      cases z : anyV S d with
      | some ds => rw [z] at p; exact any ds z p
      | none =>
        rw [z] at p
        simp only at p
        cases z2 : dctV S d with
        | none => rw [z2] at p; exact p.elim
        | some tk =>
          obtain ⟨t, kvs⟩ := tk
          rw [z2] at p
          simp only at p
          obtain ⟨a, rfl, ⟨rfl, hs, h, q⟩ | ⟨rfl, hs, h, q⟩⟩ := dct_rep so rd z2
          · exact p.elim
          · cases ru
            have hl : ∀ {kvs : List (D × D)} {hs : List (Key × V)}, RepK T w kvs hs → hs.length = kvs.length := by
              intro kvs
              induction kvs with
              | nil => intro hs h; simp only [RepK] at h; subst h; rfl
              | cons x kvs ih =>
                obtain ⟨x1, x2⟩ := x
                intro hs h
                simp only [RepK] at h
                obtain ⟨_, _, _, rfl, _, _, h⟩ := h
                simp [ih h]
            refine d_len I h fun t s' I' => ⟨.int hs.length, H, I', ⟨t, rfl⟩, ?_⟩
            rw [hl q]
            exact ret_val so (by simp only [Rep]) p
    cases d with
    | str z =>
      simp only [bfD] at p
      split at p
      · rename_i hl
        simp only [Rep] at rd
        subst rd
        exact call_len pins s σ H [.str z] [u] Q I (.cons ru .nil) ⟨.str z, z.length, rfl, ⟨lim_le hl, rfl⟩, ret_val so (by simp only [Rep]) p⟩
      · exact p.elim
    | _ => exact gen p
theorem ok_int : BfOk T X W (.type "int") (fun ds S => bfD S .int ds) := by
  refine one_arg (fun ds S h => ?_) fun pins s σ H v u Q d S w I ru so rd p => ?_
  · match ds, h with
    | [], _ => rfl
    | [d], h => exact absurd rfl (h d)
    | _ :: _ :: _, _ => rfl
  · cases d with
    | int i =>
      simp only [Rep] at rd; subst rd
      exact call_int1 pins s σ H [.int i] [u] Q I (.cons ru .nil) (.inl ⟨i, rfl, ret_val so (by simp only [Rep]) p⟩)
    | bl i =>
      simp only [Rep] at rd; subst rd
      exact call_int1 pins s σ H [.bl i] [u] Q I (.cons ru .nil) (.inr ⟨i, rfl, ret_val so (by simp only [Rep]) p⟩)
    | str z =>
      simp only [bfD] at p
      split at p
      · rename_i hl
        split at p
        · rename_i n hn
          simp only [Rep] at rd; subst rd
          exact call_int_str pins s σ H [.str z] [u] Q I (.cons ru .nil) ⟨z, n, rfl, hn, hl, ret_val so (by simp only [Rep]) p⟩
        · exact p.elim
      · exact p.elim
    | _ => exact p.elim
theorem ok_str : BfOk T X W (.type "str") (fun ds S => bfD S .str ds) := by
  refine one_arg (fun ds S h => ?_) fun pins s σ H v u Q d S w I ru so rd p => ?_
  · match ds, h with
    | [], _ => rfl
    | [d], h => exact absurd rfl (h d)
    | _ :: _ :: _, _ => rfl
  · cases d with
    | int i =>
      simp only [bfD] at p
      split at p
      · rename_i hl
        simp only [Rep] at rd; subst rd
        exact call_str_int pins s σ H [.int i] [u] Q I (.cons ru .nil) ⟨i, rfl, hl, ret_val so (d := .str (digs i)) (by simp only [Rep, digs]) p⟩
      · exact p.elim
    | str z =>
      simp only [Rep] at rd; subst rd
      exact SkE.call_str_str pins s σ H [.str z] [u] Q I (.cons ru .nil) ⟨z, rfl, ret_val so (by simp only [Rep]) p⟩
    | _ => exact p.elim
theorem ok_abs : BfOk T X W (.builtin "abs") (fun ds S => bfD S .abs ds) := by
  refine one_arg (fun ds S h => ?_) fun pins s σ H v u Q d S w I ru so rd p => ?_
  · match ds, h with
    | [], _ => rfl
    | [d], h => exact absurd rfl (h d)
    | _ :: _ :: _, _ => simp [bfD]
  · cases d with
    | int i =>
      simp only [Rep] at rd; subst rd
      exact call_abs pins s σ H [.int i] [u] Q I (.cons ru .nil) ⟨i, rfl, ret_val so (by simp only [Rep]) p⟩
    | _ => exact p.elim
theorem ok_sum (hK : X.K = T.K) (hc : X.calm = true) : BfOk T X W (.builtin "sum") (fun ds S => bfD S .sum ds) := by
  refine one_arg (fun ds S h => ?_) fun pins s σ H v u Q d S w I ru so rd p => ?_
  · match ds, h with
    | [], _ => rfl
    | [d], h => exact absurd rfl (h d)
    | _ :: _ :: _, _ => simp [bfD]
  · simp only [bfD] at p
    split at p
    · rename_i ns e
      obtain ⟨ds, e1, e2⟩ := Option.bind_eq_some_iff.mp e
      obtain ⟨a, xs, rfl, h, r⟩ := seq_rep so rd e1
      rw [← hK, ints_rep r e2] at h
      exact cr_sum hc pins s σ H [.ref a] [u] Q I (.cons ru .nil) ⟨a, ns, rfl, h, ret_val so (by simp only [Rep]) p⟩
    · exact p.elim
theorem ok_all (hK : X.K = T.K) (hc : X.calm = true) : BfOk T X W (.builtin "all") (fun ds S => bfD S .all ds) := by
  refine one_arg (fun ds S h => ?_) fun pins s σ H v u Q d S w I ru so rd p => ?_
  · match ds, h with
    | [], _ => rfl
    | [d], h => exact absurd rfl (h d)
    | _ :: _ :: _, _ => simp [bfD]
  · simp only [bfD] at p
    split at p
    · rename_i ns e
      obtain ⟨ds, e1, e2⟩ := Option.bind_eq_some_iff.mp e
      obtain ⟨a, xs, rfl, h, r⟩ := seq_rep so rd e1
      rw [← hK, bls_rep r e2] at h
      exact cr_all hc pins s σ H [.ref a] [u] Q I (.cons ru .nil) ⟨a, ns, rfl, h, ret_val so (by simp only [Rep]) p⟩
    · exact p.elim
theorem ok_any (hK : X.K = T.K) (hc : X.calm = true) : BfOk T X W (.builtin "any") (fun ds S => bfD S .any ds) := by
  refine one_arg (fun ds S h => ?_) fun pins s σ H v u Q d S w I ru so rd p => ?_
  · match ds, h with
    | [], _ => rfl
    | [d], h => exact absurd rfl (h d)
    | _ :: _ :: _, _ => simp [bfD]
  · simp only [bfD] at p
    split at p
    · rename_i ns e
      obtain ⟨ds, e1, e2⟩ := Option.bind_eq_some_iff.mp e
      obtain ⟨a, xs, rfl, h, r⟩ := seq_rep so rd e1
      rw [← hK, bls_rep r e2] at h
      exact cr_any hc pins s σ H [.ref a] [u] Q I (.cons ru .nil) ⟨a, ns, rfl, h, ret_val so (by simp only [Rep]) p⟩
    · exact p.elim
theorem ok_list (hK : X.K = T.K) : BfOk T X W (.type "list") (fun ds S => bfD S .list ds) := by
  refine one_arg (fun ds S h => ?_) fun pins s σ H v u Q d S w I ru so rd p => ?_
  · match ds, h with
    | [], _ => rfl
    | [d], h => exact absurd rfl (h d)
    | _ :: _ :: _, _ => simp [bfD]
  · simp only [bfD] at p
    split at p
    · rename_i ds e
      obtain ⟨a, xs, rfl, h, r⟩ := any_rep so rd e
      rw [← hK] at h
      exact call_list_of pins s σ H [.ref a] [u] Q I (.cons ru .nil) ⟨a, xs, rfl, h, new_lst so r p⟩
    · exact p.elim
theorem ok_tuple (hK : X.K = T.K) : BfOk T X W (.type "tuple") (fun ds S => bfD S .tuple ds) := by
  refine one_arg (fun ds S h => ?_) fun pins s σ H v u Q d S w I ru so rd p => ?_
  · match ds, h with
    | [], _ => rfl
    | [d], h => exact absurd rfl (h d)
    | _ :: _ :: _, _ => simp [bfD]
  · have gen : Post T (RV T) W σ w Q (match seqV S d with
      | some ds => .ok (.tup ds) S
      | none => .bad) → wpAny (model X.prog X.w) X.A (call (.type "tuple") [u]) (EP X pins σ Q) X.xe s := fun p => by
      cases z : seqV S d with
      | none => rw [z] at p; exact p.elim
      | some ds =>
        rw [z] at p
        obtain ⟨a, xs, rfl, h, r⟩ := seq_rep so rd z
        rw [← hK] at h
        exact call_tuple_of pins s σ H [.ref a] [u] Q I (.cons ru .nil) ⟨a, xs, rfl, .inl ⟨h, new_tup so r p⟩⟩
    cases d with
    | tup ds =>
      obtain ⟨a, xs, rfl, h, r⟩ := tup_rep so rd
      rw [← hK] at h
      exact call_tuple_of pins s σ H [.ref a] [u] Q I (.cons ru .nil) ⟨a, xs, rfl, .inr ⟨h, ret_val so rd p⟩⟩
    | ctup ds =>
      obtain ⟨a, xs, rfl, h, r⟩ := ctup_rep so rd
      rw [← hK] at h
      exact call_tuple_of pins s σ H [.ref a] [u] Q I (.cons ru .nil) ⟨a, xs, rfl, .inr ⟨h, ret_val so rd p⟩⟩
    | _ => exact gen p
theorem sort_uniq {ns ns' : List Int} (h : ns'.Perm ns) (hs : ns'.Pairwise (· ≤ ·)) : ns' = ns.mergeSort (· ≤ ·) := by
  have h1 : (ns.mergeSort (· ≤ ·)).Perm ns := List.mergeSort_perm _ _
  have h2 : (ns.mergeSort (fun a b => decide (a ≤ b))).Pairwise (fun a b => decide (a ≤ b) = true) := List.pairwise_mergeSort (fun a b c => by simp; omega) (fun a b => by simp; omega) ns
  have h3 : (ns.mergeSort (· ≤ ·)).Pairwise (· ≤ ·) := h2.imp fun h => by simpa using h
  exact (h.trans h1.symm).eq_of_pairwise (fun a b _ _ x y => Int.le_antisymm x y) hs h3
theorem ok_sorted (hK : X.K = T.K) : BfOk T X W (.builtin "sorted") (fun ds S => bfD S .sorted ds) := by
  refine one_arg (fun ds S h => ?_) fun pins s σ H v u Q d S w I ru so rd p => ?_
  · match ds, h with
    | [], _ => rfl
    | [d], h => exact absurd rfl (h d)
    | _ :: _ :: _, _ => simp [bfD]
  · simp only [bfD] at p
    split at p
    · rename_i ns e
      obtain ⟨ds, e1, e2⟩ := Option.bind_eq_some_iff.mp e
      obtain ⟨a, xs, rfl, h, r⟩ := seq_rep so rd e1
      rw [← hK, ints_rep r e2] at h
      refine cr_sortedI pins s σ H [.ref a] [u] Q I (.cons ru .nil) ⟨a, ns, rfl, h, fun ns' p' h1 h2 h3 => ?_⟩
      rw [sort_uniq h1 h2]
      exact new_lst so (reps_int _) p p' h3
    · exact p.elim
theorem ok_mm {f : BF} {nm : Str} {g : Int → Int → Int} (id : String) (hc : CallR X (.builtin id) (fun xs H Q => ∃ i j, xs = [.int i, .int j] ∧ Q (.int (g i j)) H)) (hg : ∀ ds S, bfD S f ds = match ds with
    | [.int i, .int j] => .ok (.int (g i j)) S
    | _ => .bad) : BfOk T X W (.builtin id) (fun ds S => bfD S f ds) := by
  intro pins s σ H vs us Q ds S w I r so rd p
  replace p : Post T (RV T) W σ w Q (bfD S f ds) := p
  rw [hg] at p
  split at p
  · rename_i i j
    obtain ⟨v, vs, rfl, h1, h2⟩ := rd.uncons
    obtain ⟨v2, vs, rfl, h2, h3⟩ := h2.uncons
    simp only [Reps] at h3
    simp only [Rep] at h1 h2
    subst h1 h2 h3
    exact hc pins s σ H _ us Q I r ⟨i, j, rfl, ret_val so (by simp only [Rep]) p⟩
  · exact p.elim
theorem ok_repr (hK : X.K = T.K) (hg : X.A.guards = some []) (hu : X.A.units + 66 < cLine) : BfOk T X W (.builtin "repr") (fun ds S => bfD S .repr ds) := by
  refine one_arg (fun ds S h => ?_) fun pins s σ H v u Q d S w I ru so rd p => ?_
  · match ds, h with
    | [], _ => rfl
    | [d], h => exact absurd rfl (h d)
    | _ :: _ :: _, _ => simp [bfD]
  · simp only [bfD] at p
    split at p
    · rename_i pp e
      split at p
      · rename_i hh
        simp only [Bool.and_eq_true] at hh
        obtain ⟨⟨⟨h1, h2⟩, h3⟩, h4⟩ := hh
        have h2 : pp.hasDict = false := by simpa using h2
        have hz : pp.shown.length ≤ sizeLine := by
          have : pp.shown.cps.toList.length ≤ lim := by simpa [okLen] using h4
          have e2 : pp.shown.cps.toList.length = pp.shown.length := by simp [Str.length]
          rw [e2] at this
          exact lim_le this
        have hp := pdS_rep so e rd
        rw [← hK] at hp
        obtain ⟨as, r1⟩ := Dp.reads I pp v u hp ru
        have q := ret_val so (d := .str pp.shown) (v := .str pp.shown) (by simp only [Rep]) p
        have hd := SeqAt.depth_of_shaped h3
        cases r1 with
        | none => exact PySem.P.repr_of_none ⟨.str _, H, I.tok _, ⟨_, rfl⟩, by simpa only [PyData.shown] using q⟩
        | bool b => exact PySem.P.repr_of_bool ⟨.str _, H, I.tok _, ⟨_, rfl⟩, by simpa only [PyData.shown] using q⟩
        | int i t => exact PySem.P.repr_of_int (by simpa [PyData.showable] using h1) ⟨.str _, H, I.tok _, ⟨_, rfl⟩, by simpa only [PyData.shown] using q⟩
        | str x t => exact PySem.P.repr_of_str ⟨.str _, H, I.tok _, ⟨_, rfl⟩, by simpa only [PyData.shown] using q⟩ (by simpa only [PyData.shown] using hz)
        | list a1 a2 a3 a4 =>
          refine repr_of_reads' (.list a1 a2 a3 a4) h1 (PyData.noDict_hsm h2) hg (by omega) (fun _ _ e => e) (fun h' u' tk hk => ⟨.str _, H, ?_, ⟨u', rfl⟩, q⟩) hz
          exact I.kept (t' := tk) hk
        | tuple a1 a2 a3 a4 =>
          refine repr_of_reads' (.tuple a1 a2 a3 a4) h1 (PyData.noDict_hsm h2) hg (by omega) (fun _ _ e => e) (fun h' u' tk hk => ⟨.str _, H, ?_, ⟨u', rfl⟩, q⟩) hz
          exact I.kept (t' := tk) hk
        | dict => simp [PyData.hasDict] at h2
      · exact p.elim
    · exact p.elim
theorem max2_eq (ds : List D) (S : Store) : bfD S .max2 ds = match ds with
    | [.int i, .int j] => .ok (.int (if j > i then j else i)) S
    | _ => .bad := by
  rcases ds with _ | ⟨a, _ | ⟨b, _ | ⟨c, l⟩⟩⟩ <;> first | rfl | (cases a <;> first | rfl | (cases b <;> rfl))
theorem min2_eq (ds : List D) (S : Store) : bfD S .min2 ds = match ds with
    | [.int i, .int j] => .ok (.int (if j < i then j else i)) S
    | _ => .bad := by
  rcases ds with _ | ⟨a, _ | ⟨b, _ | ⟨c, l⟩⟩⟩ <;> first | rfl | (cases a <;> first | rfl | (cases b <;> rfl))
theorem ok_bf (hy : Hy T X W C k) (f : BF) (hc : bfCalm f = true → X.calm = true) : BfOk T X W (bfVal f) (fun ds S => bfD S f ds) := by
  have hK := hy.hK
  have bad : ∀ f' v, (∀ ds S, bfD S f' ds = .bad) → BfOk T X W v (fun ds S => bfD S f' ds) := fun f' v h pins s σ H vs us Q ds S w I r so rd p => by
    replace p : Post T (RV T) W σ w Q (bfD S f' ds) := p
    rw [h] at p; exact p.elim
  cases f with
  | len => exact ok_len hK
  | int => exact ok_int
  | str => exact ok_str
  | abs => exact ok_abs
  | max2 => exact ok_mm (nm := "") (g := fun i j => if j > i then j else i) "max" (call_max2 (hc rfl)) max2_eq
  | min2 => exact ok_mm (nm := "") (g := fun i j => if j < i then j else i) "min" (call_min2 (hc rfl)) min2_eq
  | max => exact bad .max _ fun ds S => by rcases ds with _ | ⟨a, _ | ⟨b, l⟩⟩ <;> rfl
  | min => exact bad .min _ fun ds S => by rcases ds with _ | ⟨a, _ | ⟨b, l⟩⟩ <;> rfl
  | sum => exact ok_sum hK (hc rfl)
  | all => exact ok_all hK (hc rfl)
  | any => exact ok_any hK (hc rfl)
  | list => exact ok_list hK
  | tuple => exact ok_tuple hK
  | dict => exact bad .dict _ fun ds S => by rcases ds with _ | ⟨a, _ | ⟨b, l⟩⟩ <;> rfl
  | sorted => exact ok_sorted hK
  | repr => exact ok_repr hK hy.gd (by have := hy.room.un; omega)
end
end DV
end
section
/-! Calls of built-in functions, of methods of built-in types. -/
set_option Elab.async false
set_option linter.all false
set_option maxRecDepth 100000
set_option maxHeartbeats 400000
namespace DV
open PySem L2 PyProof.Rows
theorem lim_lt {n : Nat} (h : n < lim) : n < sizeLine := by rw [sizeLine_eq]; exact Nat.lt_trans h (by decide)
theorem lim_2 {n : Nat} (h : n ≤ lim) : n + 2 ≤ sizeLine := by rw [sizeLine_eq]; exact Nat.le_trans (Nat.add_le_add_right h 2) (by decide)
/-- no *e among the arguments -/
def plainX : Expr → Bool
  | .Starred _ _ => false
  | _ => true
theorem starEach_plain {env : PySem.Env} : ∀ {es : List Expr}, es.all plainX = true → starEach es env = es.map fun e => (false, eval e env)
  | [], _ => by simp [starEach]
  | e :: es, h => by
    rw [List.all_cons, Bool.and_eq_true] at h
    have ih := starEach_plain (env := env) h.2
    cases e <;> first | (simp [plainX] at h; done) | (simp only [starEach, List.map_cons, ih])
theorem star_cons {env : PySem.Env} {e : Expr} {es : List Expr} (h : plainX e = true) : starEach (e :: es) env = (false, eval e env) :: starEach es env := by
  cases e <;> first | (simp [plainX] at h; done) | (simp only [starEach])
theorem back_plain {env : PySem.Env} {pos : Pos} {es : List Expr} (h : es.all plainX = true) : (backTo pos (starEach es env)).any (·.1) = false := by
  rw [starEach_plain h]
  simp [backTo, List.any_map, Function.comp_def]
section
variable {T : Tab} {X : Cx} {W : WX} {C : Ctx} {k : Nat} {e o : Expr} {es : List Expr} {ra : Env → Store → Res D} {rs : Env → Store → Res (List D)} {pos p apos cpos : Pos} {x : Str}
theorem de_b {id : String} {g : List D → Store → Res D} (hc : BfOk T X W (.builtin id) g) (hg : Gl X x) (hm : X.mg x = none) (hv : bootBuiltins x = some (.builtin id)) (ha : PA X (e :: es) (tA T W rs)) (hn : x ≠ "__name__") (hdb : (x == ("__debug__" : Str)) = false)
    (hp : (e :: es).all plainX = true) : PE X (.Call (.Name x p) (e :: es) [] pos) (tE T W fun E S => (rs E S).bind g) := by
  have hp' := hp
  rw [List.all_cons, Bool.and_eq_true] at hp'
  refine ⟨fun pins s σ H Q I ⟨E, S, w, eo, so, q⟩ => ?_⟩
  refine wpAny_Call_Name_kw (ld_blt I hg hm hv ?_ hn hdb)
  exact PyProof.Rows.callWith_builtin1 (thn (runA ha (pos := pos) I eo so q) fun us s1 ⟨vs, H1, ds, S1, w1, I1, r1, l1, so1, rd, eo1, p1⟩ => hc pins s1 σ H1 vs us Q ds S1 w1 I1 r1 so1 rd p1) (star_cons hp'.1) (back_plain hp'.2)
theorem de_bt {id : String} {g : List D → Store → Res D} (hc : BfOk T X W (.type id) g) (hg : Gl X x) (hm : X.mg x = none) (hv : bootBuiltins x = some (.type id)) (ha : PA X (e :: es) (tA T W rs)) (hn : x ≠ "__name__") (hdb : (x == ("__debug__" : Str)) = false)
    (hp : (e :: es).all plainX = true) : PE X (.Call (.Name x p) (e :: es) [] pos) (tE T W fun E S => (rs E S).bind g) := by
  have hp' := hp
  rw [List.all_cons, Bool.and_eq_true] at hp'
  refine ⟨fun pins s σ H Q I ⟨E, S, w, eo, so, q⟩ => ?_⟩
  refine wpAny_Call_Name_kw (ld_blt I hg hm hv ?_ hn hdb)
  exact PyProof.Rows.callWith_type1 (thn (runA ha (pos := pos) I eo so q) fun us s1 ⟨vs, H1, ds, S1, w1, I1, r1, l1, so1, rd, eo1, p1⟩ => hc pins s1 σ H1 vs us Q ds S1 w1 I1 r1 so1 rd p1) (star_cons hp'.1) (back_plain hp'.2)
theorem boot_bf (f : BF) : bootBuiltins (bfName f) = some (bfVal f) := by cases f <;> kernel_rfl
theorem name_bf (f : BF) : bfName f ≠ "__name__" ∧ (bfName f == ("__debug__" : Str)) = false := by cases f <;> decide
theorem de_bf (hy : Hy T X W C k) (f : BF) (hc : bfCalm f = true → X.calm = true) (hg : Gl X (bfName f)) (hm : X.mg (bfName f) = none) (ha : PA X (e :: es) (tA T W rs)) (hp : (e :: es).all plainX = true) :
    PE X (.Call (.Name (bfName f) p) (e :: es) [] pos) (tE T W fun E S => (rs E S).bind fun ds S' => bfD S' f ds) := by
  have h := ok_bf hy f hc
  have hb := boot_bf f
  have hn := name_bf f
  cases f <;> first | exact de_b h hg hm hb ha hn.1 hn.2 hp | exact de_bt h hg hm hb ha hn.1 hn.2 hp
/-! methods -/
def MtOk (T : Tab) (X : Cx) (W : WX) (id : String) (g : D → List D → Store → Res D) : Prop :=
  ∀ (pins : List (Addr × Obj)) (s : Shared) (σ : L2.St) (H : Hp) (v : V) (u : Value) (vs : List V) (us : List Value) (Q : VK) (d : D) (ds : List D) (S : Store) (w : Wd), Inv X pins σ H s → RelV v u → Vals vs us → StoreOk T S w H → Rep T w d v → Reps T w ds vs →
    Post T (RV T) W σ w Q (g d ds S) → wpAny (model X.prog X.w) X.A (call (.builtin id) (u :: us)) (EP X pins σ Q) X.xe s
theorem de_mt {ty id : String} {name : Str} {g : D → List D → Store → Res D} {ok : D → Store → Bool} (pa : PlainAttrs ty) (slot : Slot ty name id) (hty : typeOf (.builtin id) = pure (.type "method_descriptor")) (hm : MtOk T X W id g)
    (hT : ∀ (S : Store) (d : D) (v : V) (H : Hp) (w : Wd), StoreOk T S w H → Rep T w d v → ok d S = true → tyV X.K ty v H) (ho : PE X o (tE T W ra)) (ha : PA X (e :: es) (tA T W rs)) (hp : (e :: es).all plainX = true)
    (hbase : attributeBase o name X.env (eval o X.env) = eval o X.env) (hl : (e :: es).length < 30) (hline : (apos.endLine == cpos.line) = true) :
    PE X (.Call (.Attribute o name apos) (e :: es) [] cpos) (tE T W fun E S => (ra E S).bind fun x S' => if ok x S' then (rs E S').bind fun ds S'' => g x ds S'' else .bad) := by
  have hp' := hp
  rw [List.all_cons, Bool.and_eq_true] at hp'
  have hfew : ((backTo cpos (starEach (e :: es) X.env)).all (fun x => !x.1) && (backToKw cpos (keywordEach [] X.env)).all (fun x => x.1.isSome)
      && decide ((e :: es).length + ([] : List Keyword).length + (if ([] : List Keyword).isEmpty then 0 else 1) < 30)) = true := by
    rw [starEach_plain hp]
    have h2 : (backTo cpos ((e :: es).map fun e => (false, eval e X.env))).all (fun x => !x.1) = true := by simp [backTo, List.all_map, Function.comp_def]
    rw [h2]
    simpa [backToKw, keywordEach] using hl
  refine ⟨fun pins s σ H Q I ⟨E, S, w, eo, so, q⟩ => ?_⟩
  refine wpAny_Call_method_late hbase hfew hline rfl (thn (run1 ho I eo so q) fun v s1 ⟨x, H1, d, S1, w1, I1, r1, l1, so1, rd, eo1, p1⟩ => ?_)
  split at p1
  · rename_i hok
    obtain ⟨h1, h2⟩ := tyV_is I1 r1 (hT S1 d x H1 w1 so1 rd hok)
    refine ⟨ty, id, pa, slot, hty, h1, h2, ?_⟩
    have hA := runA ha (pos := cpos) I1 eo1 so1 p1
    rw [star_cons hp'.1] at hA ⊢
    refine Calls.callWith_builtin (by show (false || (backTo cpos (starEach es X.env)).any (·.1)) = false; rw [back_plain hp'.2] <;> rfl) (Calls.evalArgs_plain ?_)
    exact thn hA fun us s2 ⟨vs, H2, ds, S2, w2, I2, r2, l2, so2, rds, eo2, p2⟩ => hm pins s2 σ H2 x v vs us Q d ds S2 w2 I2 r1 r2 so2 (rd.mono l2) rds p2
  · exact p1.elim
theorem loc_rep {S : Store} {w : Wd} {H : Hp} (so : StoreOk T S w H) {n : Nat} {v : V} {c : Cell} (r : Rep T w (.loc n) v) (e : S[n]? = some c) : ∃ a, v = .ref a ∧ w.μ[n]? = some a ∧ CellOk T w H a c := by
  simp only [Rep] at r
  obtain ⟨a, rfl, q⟩ := r
  exact ⟨a, rfl, q, so.cell n a c q e⟩
/-- a cell is rewritten -/
theorem put_cell {S : Store} {w : Wd} {H : Hp} (so : StoreOk T S w H) {n : Nat} {a : Addr} {ds : List D} {xs : List V} {Q : VK} {σ : L2.St} (e : w.μ[n]? = some a) (r : Reps T w ds xs) (p : Post T (RV T) W σ w Q (.ok .non (S.set n (.lst ds)))) : Q .non (upd H a (.lst xs)) := by
  have so' := so.put (n := n) (a := a) (o := .lst xs) (c := .lst ds) e ⟨xs, upd_same, r⟩
  exact ret_val so' (by simp only [Rep]) p
theorem mo_append : MtOk T X W "list.append" (fun d ds S => bmD S .append d ds) := by
  intro pins s σ H v u vs us Q d ds S w I ru rs so rd rds p
  replace p : Post T (RV T) W σ w Q (bmD S .append d ds) := p
  cases d with
  | loc n =>
    rcases ds with _ | ⟨d, _ | ⟨d2, ds⟩⟩
    · exact p.elim
    · simp only [bmD] at p
      split at p
      · rename_i es he
        split at p
        · rename_i hl
          obtain ⟨a, rfl, hm, xs, hx, rx⟩ := loc_rep so rd he
          obtain ⟨y, rfl, ry⟩ := Reps.one_inv rds
          exact mt_append pins s σ H _ _ u us Q I ru rs ⟨a, xs, y, rfl, rfl, hx, lim_lt (by rw [rx.length]; exact hl), put_cell so hm (rx.append (Reps.one ry)) p⟩
        · exact p.elim
      · exact p.elim
    · (first | exact p.elim | (simp [bmD] at p; exact p.elim))
  | _ => (first | exact p.elim | (simp [bmD] at p; exact p.elim))
theorem mo_extend : MtOk T X W "list.extend" (fun d ds S => bmD S .extend d ds) := by
  intro pins s σ H v u vs us Q d ds S w I ru rs so rd rds p
  replace p : Post T (RV T) W σ w Q (bmD S .extend d ds) := p
  cases d with
  | loc n =>
    rcases ds with _ | ⟨d, _ | ⟨d2, ds⟩⟩
    · exact p.elim
    · simp only [bmD] at p
      split at p
      · rename_i ds' es he he2
        split at p
        · rename_i hl
          obtain ⟨a, rfl, hm, xs, hx, rx⟩ := loc_rep so rd he
          obtain ⟨y, rfl, ry⟩ := Reps.one_inv rds
          obtain ⟨b, zs, rfl, hz, rz⟩ := seqX_rep so ry he2
          exact mt_extend pins s σ H _ _ u us Q I ru rs ⟨a, b, xs, zs, rfl, rfl, hx, hz, by rw [rx.length, rz.length]; exact lim_le hl, put_cell so hm (rx.append rz) p⟩
        · exact p.elim
      · exact p.elim
    · (first | exact p.elim | (simp [bmD] at p; exact p.elim))
  | _ => (first | exact p.elim | (simp [bmD] at p; exact p.elim))
theorem mo_join (hK : X.K = T.K) : MtOk T X W "str.join" (fun d ds S => bmD S .join d ds) := by
  intro pins s σ H v u vs us Q d ds S w I ru rs so rd rds p
  replace p : Post T (RV T) W σ w Q (bmD S .join d ds) := p
  cases d with
  | str z =>
    rcases ds with _ | ⟨d, _ | ⟨d2, ds⟩⟩
    · exact p.elim
    · simp only [bmD] at p
      split at p
      · rename_i l e
        split at p
        · rename_i hl
          obtain ⟨y, rfl, ry⟩ := Reps.one_inv rds
          obtain ⟨es, e1, e2⟩ := Option.bind_eq_some_iff.mp e
          obtain ⟨a, xs, rfl, h, r⟩ := any_rep so ry e1
          rw [← hK, strs_rep r e2] at h
          simp only [Rep] at rd
          subst rd
          exact mt_join pins s σ H _ _ u us Q I ru rs ⟨z, a, l, rfl, rfl, h, Nat.le_trans hl (by decide), ret_val so (by simp only [Rep]) p⟩
        · exact p.elim
      · exact p.elim
    · (first | exact p.elim | (simp [bmD] at p; exact p.elim))
  | _ => (first | exact p.elim | (simp [bmD] at p; exact p.elim))
theorem mo_split : MtOk T X W "str.split" (fun d ds S => bmD S .split d ds) := by
  intro pins s σ H v u vs us Q d ds S w I ru rs so rd rds p
  replace p : Post T (RV T) W σ w Q (bmD S .split d ds) := p
  cases d with
  | str z =>
    rcases ds with _ | ⟨d, _ | ⟨d2, ds⟩⟩
    · exact p.elim
    · cases d with
      | str b =>
        simp only [bmD] at p
        split at p
        · rename_i hl
          rw [Bool.and_eq_true] at hl
          obtain ⟨h1, h2⟩ := hl
          obtain ⟨y, rfl, ry⟩ := Reps.one_inv rds
          simp only [Rep] at rd ry
          subst rd; subst ry
          exact mt_split pins s σ H _ _ u us Q I ru rs ⟨z, b, rfl, rfl, by simpa [bne] using h1, lim_2 (of_decide_eq_true h2), new_lst so (reps_str _) p⟩
        · exact p.elim
      | _ => (first | exact p.elim | (simp [bmD] at p; exact p.elim))
    · (first | exact p.elim | (simp [bmD] at p; exact p.elim))
  | _ => (first | exact p.elim | (simp [bmD] at p; exact p.elim))
def bmName : BM → Str
  | .append => "append" | .extend => "extend" | .join => "join" | .split => "split" | .get => "get" | .pop => "pop" | .remove => "remove" | .insert => "insert" | .index => "index" | .count => "count" | .partition => "partition" | .clear => "clear"
theorem de_bm (hy : Hy T X W C k) (m : BM) (ho : PE X o (tE T W ra)) (ha : PA X (e :: es) (tA T W rs)) (hp : (e :: es).all plainX = true) (hbase : attributeBase o (bmName m) X.env (eval o X.env) = eval o X.env) (hl : (e :: es).length < 30) (hline : (apos.endLine == cpos.line) = true) :
    m = .append ∨ m = .extend ∨ m = .join ∨ m = .split → PE X (.Call (.Attribute o (bmName m) apos) (e :: es) [] cpos) (tE T W fun E S => (ra E S).bind fun x S' => if bmTy S' m x then (rs E S').bind fun ds S'' => bmD S'' m x ds else .bad) := by
  have tl : ∀ (S : Store) (d : D) (v : V) (H : Hp) (w : Wd), StoreOk T S w H → Rep T w d v → (seqX S d).isSome = true → tyV X.K "list" v H := fun S d v H w so rd h => by
    obtain ⟨ds, hd⟩ := Option.isSome_iff_exists.mp h
    obtain ⟨a, xs, rfl, hx, _⟩ := seqX_rep so rd hd
    exact .inl ⟨rfl, xs, SqL.of hx⟩
  have ts : ∀ (S : Store) (d : D) (v : V) (H : Hp) (w : Wd), StoreOk T S w H → Rep T w d v → (match d with | .str _ => true | _ => false) = true → tyV X.K "str" v H := fun S d v H w so rd h => by
    cases d with
    | str z => simp only [Rep] at rd; subst rd; exact rfl
    | _ => simp at h
  rintro (rfl | rfl | rfl | rfl)
  · exact de_mt (ok := fun d S => (seqX S d).isSome) PySem.F.plainAttrs_list PySem.F.slot_list_append PySem.F.type_list_append mo_append tl ho ha hp hbase hl hline
  · exact de_mt (ok := fun d S => (seqX S d).isSome) PySem.F.plainAttrs_list PySem.F.slot_list_extend PySem.F.type_list_extend mo_extend tl ho ha hp hbase hl hline
  · exact de_mt (ok := fun d S => match d with | .str _ => true | _ => false) PySem.F.plainAttrs_str PySem.F.slot_str_join PySem.F.type_str_join (mo_join hy.hK) ts ho ha hp hbase hl hline
  · exact de_mt (ok := fun d S => match d with | .str _ => true | _ => false) PySem.F.plainAttrs_str PySem.F.slot_str_split PySem.F.type_str_split mo_split ts ho ha hp hbase hl hline
end
end DV
end
section
/-! Targets of loops, what is walked, for. -/
set_option Elab.async false
set_option linter.all false
set_option maxRecDepth 100000
set_option maxHeartbeats 400000
namespace DV
open PySem L2 PyProof.Rows
/-- what of a block is known by its text -/
structure SC where
  N : List Str
  sc : Scope
  fnAll : Bool
  calm : Bool
structure Hx (X : Cx) (c : SC) : Prop where
  N : X.N = c.N
  nd : X.N.Nodup
  sc : X.env.scope = c.sc
  fn : c.fnAll = true → ∀ x, X.fn x = true
  calm : c.calm = true → X.calm = true
def visB (sc : Scope) (x : Str) : Bool := match sc.names.lookup x with
  | some .local => true | some .cell => true | some .free => true | _ => false
def locB (sc : Scope) (x : Str) : Bool := match sc.names.lookup x with
  | some .local => true | some .cell => true | _ => false
theorem vis_of {sc : Scope} {x : Str} (h : visB sc x = true) : Vis sc x := by
  unfold visB at h
  unfold Vis
  split at h <;> first | (exact .inl (by assumption)) | (exact .inr (.inl (by assumption))) | (exact .inr (.inr (by assumption))) | cases h
theorem loc_of {sc : Scope} {x : Str} (h : locB sc x = true) : L2.Loc sc x := by
  unfold locB at h
  unfold L2.Loc
  split at h <;> first | (exact .inl (by assumption)) | (exact .inr (by assumption)) | cases h
/-- a name that may be stored to -/
def nameOk (c : SC) (i : Nat) (x : Str) : Bool := c.N[i]? == some x && locB c.sc x && (c.fnAll || c.sc.names.lookup x == some .local)
mutual
def chkT (c : SC) : IT → Expr → Bool
  | .nm i, e => match e with
    | .Name x _ => nameOk c i x
    | _ => false
  | .tp ts, e => match e with
    | .Tuple es _ _ => c.calm && chkTs c ts es
    | _ => false
def chkTs (c : SC) : List IT → List Expr → Bool
  | [], es => es.isEmpty
  | t :: ts, es => match es with
    | e :: es => chkT c t e && chkTs c ts es
    | [] => false
end
section
variable {T : Tab} {X : Cx} {W : WX} {C : Ctx} {k : Nat} {c : SC}
theorem PG.imp {e : Expr} {t t' : TG} (h : PG X e t) (i : ∀ v σ H Q, t' v σ H Q → t v σ H Q) : PG X e t' := ⟨fun pins s σ H v u Q I r q => h.run pins s σ H v u Q I r (i v σ H Q q)⟩
theorem PGs.imp {e : List Expr} {t t' : TGs} (h : PGs X e t) (i : ∀ v σ H Q, t' v σ H Q → t v σ H Q) : PGs X e t' := ⟨fun pins s σ H v u Q I r q => h.run pins s σ H v u Q I r (i v σ H Q q)⟩
theorem EnvOk.set {w : Wd} {σ : L2.St} {E : Env} {i : Nat} {d : D} {v : V} (h : EnvOk T w σ E) (r : Rep T w d v) : EnvOk T w (σ.set i (some v)) (E.set i (some d)) := by
  refine ⟨by simp [h.len], fun j e hj => ?_⟩
  by_cases z : i = j
  · subst z
    by_cases hl : i < E.length
    · rw [List.getElem?_set_self hl] at hj
      cases hj
      exact ⟨v, by rw [List.getElem?_set_self (by rw [h.len]; exact hl)], r⟩
    · rw [List.getElem?_eq_none (by simpa using hl)] at hj; cases hj
  · rw [List.getElem?_set_ne z] at hj
    obtain ⟨u, h1, h2⟩ := h.at_ j e hj
    exact ⟨u, by rw [List.getElem?_set_ne z]; exact h1, h2⟩
mutual
def IT.vars : IT → List Nat
  | .nm i => [i]
  | .tp ts => IT.varss ts
def IT.varss : List IT → List Nat
  | [] => []
  | t :: ts => t.vars ++ IT.varss ts
end
def SameBut (σ' σ : L2.St) (vs : List Nat) : Prop := σ'.length = σ.length ∧ ∀ j, j ∉ vs → σ'[j]? = σ[j]?
def tgD (T : Tab) (t : IT) : TG := fun v σ H Q => ∃ E S w d E', EnvOk T w σ E ∧ StoreOk T S w H ∧ Rep T w d v ∧ asgD S t d E = some E' ∧ ∀ σ' H' w', SameBut σ' σ t.vars → Wd.le w w' → EnvOk T w' σ' E' → StoreOk T S w' H' → Q σ' H'
def tgsD (T : Tab) (ts : List IT) : TGs := fun vs σ H Q => ∃ E S w ds E', EnvOk T w σ E ∧ StoreOk T S w H ∧ Reps T w ds vs ∧ asgD.go S ts ds E = some E' ∧ ∀ σ' H' w', SameBut σ' σ (IT.varss ts) → Wd.le w w' → EnvOk T w' σ' E' → StoreOk T S w' H' → Q σ' H'
theorem assignEach_plain {env : PySem.Env} : ∀ {es : List Expr}, es.all plainX = true → assignEach es env = es.map fun e => (false, assign e env)
  | [], _ => by simp [assignEach]
  | e :: es, h => by
    rw [List.all_cons, Bool.and_eq_true] at h
    have ih := assignEach_plain (env := env) h.2
    cases e <;> first | (simp [plainX] at h; done) | (simp only [assignEach, List.map_cons, ih])
theorem chkT_plain {t : IT} {e : Expr} (h : chkT c t e = true) : plainX e = true := by
  cases t <;> cases e <;> first | rfl | (simp [chkT] at h)
theorem chkTs_plain : ∀ {ts : List IT} {es : List Expr}, chkTs c ts es = true → es.all plainX = true ∧ es.length = ts.length
  | [], es, h => by cases es <;> first | exact ⟨rfl, rfl⟩ | (simp [chkTs] at h)
  | t :: ts, es, h => by
    cases es with
    | nil => simp [chkTs] at h
    | cons e es =>
      simp only [chkTs, Bool.and_eq_true] at h
      obtain ⟨h1, h2⟩ := chkTs_plain h.2
      exact ⟨by rw [List.all_cons, chkT_plain h.1, h1]; rfl, by simp [h2]⟩
theorem go_length {S : Store} : ∀ {ts : List IT} {ds : List D} {E E' : Env}, asgD.go S ts ds E = some E' → ds.length = ts.length
  | [], ds, _, _, h => by cases ds <;> first | rfl | (simp [asgD.go] at h)
  | t :: ts, ds, _, _, h => by
    cases ds with
    | nil => simp [asgD.go] at h
    | cons d ds =>
      simp only [asgD.go] at h
      split at h
      · simp [go_length h]
      · cases h
mutual
theorem pg_it (hx : Hx X c) (hK : X.K = T.K) : ∀ (t : IT) (e : Expr), chkT c t e = true → PG X e (tgD T t)
  | .nm i, e, h => by
    cases e with
    | Name x pos =>
      simp only [chkT, nameOk, Bool.and_eq_true, Bool.or_eq_true, beq_iff_eq] at h
      obtain ⟨⟨h1, h2⟩, h3⟩ := h
      refine PG.imp (pg_name hx.nd (by rw [hx.N]; exact h1) (by rw [hx.sc]; exact loc_of h2) (h3.elim (fun h => .inl (hx.fn h x)) fun h => .inr (by rw [hx.sc]; exact h))) fun v σ H Q ⟨E, S, w, d, E', eo, so, rd, ha, q⟩ => ?_
      simp only [asgD] at ha
      split at ha
      · cases ha
        exact q _ _ w ⟨by simp, fun j hj => List.getElem?_set_ne (fun e => hj (by simp [IT.vars, e]))⟩ (Wd.le.refl w) (eo.set rd) so
      · cases ha
    | _ => simp [chkT] at h
  | .tp ts, e, h => by
    cases e with
    | Tuple es kk pos =>
      simp only [chkT, Bool.and_eq_true] at h
      obtain ⟨hp, hl⟩ := chkTs_plain h.2
      have hc := hx.calm h.1
      have hgs := pgs_it hx hK ts es h.2
      have hn : (assignEach es X.env).length = ts.length := by rw [assignEach_plain hp]; simp [hl]
      have hst : (assignEach es X.env).findIdx? (·.1) = none := by rw [assignEach_plain hp]; simp [List.findIdx?_eq_none_iff]
      refine ⟨fun pins s σ H v u Q I r ⟨E, S, w, d, E', eo, so, rd, ha, q⟩ => ?_⟩
      simp only [asgD] at ha
      split at ha
      · rename_i ds hd
        obtain ⟨a, xs, rfl, h1, h2⟩ := any_rep so rd hd
        have hlen : xs.length = ts.length := by rw [h2.length]; exact go_length ha
        have fin : tgsD T ts xs σ H Q := ⟨E, S, w, ds, E', eo, so, h2, ha, fun σ' H' w' hv => q σ' H' w' (by simpa only [IT.vars] using hv)⟩
        rw [← hK] at h1
        rcases h1 with h1 | h1
        · exact (pg_lst hc hgs hn hst).run pins s σ H _ u Q I r ⟨a, xs, rfl, h1, hlen, fin⟩
        · exact (pg_tup hc hgs hn hst).run pins s σ H _ u Q I r ⟨a, xs, rfl, h1, hlen, fin⟩
      · cases ha
    | _ => simp [chkT] at h
theorem pgs_it (hx : Hx X c) (hK : X.K = T.K) : ∀ (ts : List IT) (es : List Expr), chkTs c ts es = true → PGs X es (tgsD T ts)
  | [], es, h => by
    cases es with
    | nil =>
      refine PGs.imp pgs_nil fun vs σ H Q ⟨E, S, w, ds, E', eo, so, rd, ha, q⟩ => ?_
      cases ds with
      | nil =>
        simp only [asgD.go, Option.some.injEq] at ha
        subst ha
        simp only [Reps] at rd
        exact ⟨rd, q _ _ w ⟨rfl, fun _ _ => rfl⟩ (Wd.le.refl w) eo so⟩
      | cons d ds => simp [asgD.go] at ha
    | cons e es => simp [chkTs] at h
  | t :: ts, es, h => by
    cases es with
    | nil => simp [chkTs] at h
    | cons e es =>
      simp only [chkTs, Bool.and_eq_true] at h
      refine PGs.imp (pgs_cons (pg_it hx hK t e h.1) (pgs_it hx hK ts es h.2) ?_) fun vs σ H Q ⟨E, S, w, ds, E', eo, so, rd, ha, q⟩ => ?_
      · have := chkT_plain h.1
        cases e <;> first | (simp [plainX] at this; done) | simp only [assignEach, List.map_cons]
      · cases ds with
        | nil => simp [asgD.go] at ha
        | cons d ds =>
          simp only [asgD.go] at ha
          split at ha
          · rename_i E1 h1
            obtain ⟨v, r, rfl, rd1, rd2⟩ := rd.uncons
            exact ⟨v, r, rfl, E, S, w, d, E1, eo, so, rd1, h1, fun σ' H' w' hv l eo' so' => ⟨E1, S, w', ds, E', eo', so', rd2.mono l, ha, fun σ2 H2 w2 hv2 l2 eo2 so2 => q σ2 H2 w2 ⟨hv2.1.trans hv.1, fun j hj => by
              simp only [IT.varss, List.mem_append, not_or] at hj
              rw [hv2.2 j hj.2, hv.2 j hj.1]⟩ (l.trans l2) eo2 so2⟩⟩
          · cases ha
end
end
end DV
end
section
/-! What is walked; for. -/
set_option Elab.async false
set_option linter.all false
set_option maxRecDepth 100000
set_option maxHeartbeats 400000
namespace DV
open PySem L2 PyProof.Rows
def Off (w : Wd) (D : Addr) : Prop := D ∉ w.μ ∧ w.G D = none
/-- the iterator gives the items of src -/
structure IterOk (T : Tab) (J : It) (src : Src) (w : Wd) : Prop where
  goes : ∀ (i : Nat) H S w' ds, src.cur S = some ds → i < src.len → Wd.le w w' → StoreOk T S w' H → J.go i H
  stops : ∀ H S w' ds, src.cur S = some ds → Wd.le w w' → StoreOk T S w' H → J.stop src.len H
  yields : ∀ (i : Nat) H x H' S w' ds d, src.cur S = some ds → ds[i]? = some d → Wd.le w w' → StoreOk T S w' H → J.yld i H x H' → ∃ w2, Wd.le w' w2 ∧ StoreOk T S w2 H' ∧ Rep T w2 d x ∧ ∀ D, Off w' D → H D ≠ none → Off w2 D ∧ H' D = H D
section
variable {T : Tab} {X : Cx} {W : WX} {C : Ctx} {k : Nat} {c : SC}
theorem cur_len {src : Src} {S : Store} {ds : List D} (h : src.cur S = some ds) : ds.length = src.len := by
  cases src with
  | items es => simp only [Src.cur, Option.some.injEq] at h; subst h; rfl
  | cell n k =>
    simp only [Src.cur] at h
    split at h
    · split at h
      · rename_i hk; cases h; exact beq_iff_eq.mp hk
      · cases h
    · cases h
  | lock n ks =>
    simp only [Src.cur] at h
    split at h
    · split at h
      · cases h; rfl
      · cases h
    · cases h
/-- what is walked, as it came; R is told of the store as it is then (a dict: locked) -/
def PostI (T : Tab) (W : WX) (σ : L2.St) (w : Wd) (R : It → Hp → Prop) : Res Src → Prop
  | .ok src S => ∀ J H w', Wd.le w w' → StoreOk T S w' H → IterOk T J src w' → R J H
  | .exc c fs S => ∀ cls dx H w', Wd.le w w' → StoreOk T S w' H → XRep T w' c fs cls dx → W cls dx σ H
  | .bad => False
def tI (T : Tab) (W : WX) (r : Env → Store → Res Src) : TI := fun σ H R => ∃ E S w, EnvOk T w σ E ∧ StoreOk T S w H ∧ PostI T W σ w R (r E S)
theorem PI.imp {tg e : Expr} {t t' : TI} (h : PI X tg e t) (i : ∀ σ H R, t' σ H R → t σ H R) : PI X tg e t' := ⟨fun pins s σ H R I q => h.run pins s σ H R I (i σ H R q)⟩
theorem PostI.bind {α β : Type} {R' : Wd → α → β → Prop} {σ : L2.St} {w : Wd} {R : It → Hp → Prop} {r : Res α} {f : α → Store → Res Src} (h : PostI T W σ w R (r.bind f)) :
    Post T R' W σ w (fun v H => ∃ d S w1, Wd.le w w1 ∧ StoreOk T S w1 H ∧ R' w1 d v ∧ PostI T W σ w1 R (f d S)) r := by
  cases r with
  | ok d S =>
    refine fun v H w1 l so rep => ⟨d, S, w1, l, so, rep, ?_⟩
    have h' : PostI T W σ w R (f d S) := h
    cases z : f d S with
    | ok src S' => rw [z] at h'; exact fun J H w' l' => h' J H w' (l.trans l')
    | exc c fs S' => rw [z] at h'; exact fun cls dx H w' l' => h' cls dx H w' (l.trans l')
    | bad => rw [z] at h'; exact h'
  | exc c fs S => exact h
  | bad => exact h
/-- the items of a list, a tuple -/
theorem iter_list {w : Wd} {S0 : Store} {H0 : Hp} {d : D} {v : V} {src : Src} (hK : X.K = T.K) (so0 : StoreOk T S0 w H0) (rd : Rep T w d v) (e : srcSeq S0 d = some src) (hz : ∀ z, d ≠ .str z) :
    ∃ a, v = .ref a ∧ (((∃ xs, SqL X.K H0 a xs) ∧ IterOk T (Itl X.K a) src w) ∨ ((∃ xs, SqT X.K H0 a xs) ∧ IterOk T (Itt X.K a) src w)) := by
  have fixL : ∀ (a : Addr) (xs : List V) (ds : List D), (∀ H S w', Wd.le w w' → StoreOk T S w' H → SqL X.K H a xs) → Reps T w ds xs → IterOk T (Itl X.K a) (.items ds) w := fun a xs ds h r => by
    refine ⟨fun i H S w' ds' e hi l so => ?_, fun H S w' ds' e l so => ⟨xs, h H S w' l so, by rw [r.length]; exact Nat.le_refl _⟩, fun i H x H' S w' ds' d' e hd l so y => ?_⟩
    · have hi' : i < ds.length := hi
      exact ⟨xs, xs[i]'(by rw [r.length]; exact hi'), h H S w' l so, by simp [r.length, hi']⟩
    · simp only [Src.cur, Option.some.injEq] at e
      subst e
      obtain ⟨rfl, y⟩ := y
      obtain ⟨u, h1, h2⟩ := r.get hd
      rw [y xs (h _ S w' l so)] at h1
      cases h1
      exact ⟨w', Wd.le.refl w', so, h2.mono l, fun _ o _ => ⟨o, rfl⟩⟩
  have fixT : ∀ (a : Addr) (xs : List V) (ds : List D), (∀ H S w', Wd.le w w' → StoreOk T S w' H → SqT X.K H a xs) → Reps T w ds xs → IterOk T (Itt X.K a) (.items ds) w := fun a xs ds h r => by
    refine ⟨fun i H S w' ds' e hi l so => ?_, fun H S w' ds' e l so => ⟨xs, h H S w' l so, by rw [r.length]; exact Nat.le_refl _⟩, fun i H x H' S w' ds' d' e hd l so y => ?_⟩
    · have hi' : i < ds.length := hi
      exact ⟨xs, xs[i]'(by rw [r.length]; exact hi'), h H S w' l so, by simp [r.length, hi']⟩
    · simp only [Src.cur, Option.some.injEq] at e
      subst e
      obtain ⟨rfl, y⟩ := y
      obtain ⟨u, h1, h2⟩ := r.get hd
      rw [y xs (h _ S w' l so)] at h1
      cases h1
      exact ⟨w', Wd.le.refl w', so, h2.mono l, fun _ o _ => ⟨o, rfl⟩⟩
  cases d with
  | tup ds =>
    simp only [srcSeq, Option.some.injEq] at e
    subst e
    simp only [Rep] at rd
    obtain ⟨a, xs, rfl, h, r⟩ := rd
    have h' : ∀ H S w', Wd.le w w' → StoreOk T S w' H → SqT X.K H a xs := fun H S w' l so => SqT.of (so.G.st _ _ rfl (l.G.st _ _ rfl h))
    exact ⟨a, rfl, .inr ⟨⟨xs, h' H0 S0 w (Wd.le.refl w) so0⟩, fixT a xs ds h' r⟩⟩
  | ctup ds =>
    simp only [srcSeq, Option.some.injEq] at e
    subst e
    simp only [Rep] at rd
    obtain ⟨a, xs, rfl, h, r⟩ := rd
    have h' : ∀ H S w', Wd.le w w' → StoreOk T S w' H → SqT X.K H a xs := fun H S w' l so => by rw [hK]; exact so.G.sqT (l.G.sqT h)
    exact ⟨a, rfl, .inr ⟨⟨xs, h' H0 S0 w (Wd.le.refl w) so0⟩, fixT a xs ds h' r⟩⟩
  | lst ds =>
    simp only [srcSeq, Option.some.injEq] at e
    subst e
    simp only [Rep] at rd
    obtain ⟨a, xs, rfl, h, r⟩ := rd
    have h' : ∀ H S w', Wd.le w w' → StoreOk T S w' H → SqL X.K H a xs := fun H S w' l so => SqL.of (so.G.st _ _ rfl (l.G.st _ _ rfl h))
    exact ⟨a, rfl, .inl ⟨⟨xs, h' H0 S0 w (Wd.le.refl w) so0⟩, fixL a xs ds h' r⟩⟩
  | scr ns =>
    simp only [srcSeq, Option.some.injEq] at e
    subst e
    simp only [Rep] at rd
    obtain ⟨a, rfl, h⟩ := rd
    have h' : ∀ H S w', Wd.le w w' → StoreOk T S w' H → SqL X.K H a (ns.map V.int) := fun H S w' l so => by rw [hK]; exact scr_L so.G (h.elim (fun h => .inl ⟨h.1, l.G.rd rfl h.2⟩) .inr)
    exact ⟨a, rfl, .inl ⟨⟨_, h' H0 S0 w (Wd.le.refl w) so0⟩, fixL a _ _ h' (reps_int ns)⟩⟩
  | loc n =>
    simp only [srcSeq] at e
    split at e
    · rename_i es he
      cases e
      simp only [Rep] at rd
      obtain ⟨a, rfl, hm⟩ := rd
      obtain ⟨xs0, hx0, _⟩ := so0.cell n a _ hm he
      have at_ : ∀ H S w' ds, Src.cur (.cell n es.length) S = some ds → Wd.le w w' → StoreOk T S w' H → ∃ xs, SqL X.K H a xs ∧ Reps T w' ds xs := fun H S w' ds e l so => by
        simp only [Src.cur] at e
        split at e
        · rename_i ds' he'
          split at e
          · cases e
            obtain ⟨xs, h1, h2⟩ := so.cell n a _ (pre_get l.μ hm) he'
            exact ⟨xs, SqL.of h1, h2⟩
          · cases e
        · cases e
      refine ⟨a, rfl, .inl ⟨⟨xs0, SqL.of hx0⟩, fun i H S w' ds e hi l so => ?_, fun H S w' ds e l so => ?_, fun i H x H' S w' ds d' e hd l so y => ?_⟩⟩
      · obtain ⟨xs, h1, h2⟩ := at_ H S w' ds e l so
        have hi' : i < xs.length := by rw [h2.length, cur_len e]; exact hi
        exact ⟨xs, xs[i], h1, by simp [hi']⟩
      · obtain ⟨xs, h1, h2⟩ := at_ H S w' ds e l so
        exact ⟨xs, h1, by rw [h2.length, cur_len e]; exact Nat.le_refl _⟩
      · obtain ⟨xs, h1, h2⟩ := at_ H S w' ds e l so
        obtain ⟨rfl, y⟩ := y
        obtain ⟨u, g1, g2⟩ := h2.get hd
        rw [y xs h1] at g1
        cases g1
        exact ⟨w', Wd.le.refl w', so, g2, fun _ o _ => ⟨o, rfl⟩⟩
    · cases e
  | str z => exact absurd rfl (hz z)
  | _ => simp [srcSeq] at e
end
end DV
end
section
/-! Statements: what is wanted behind; for. -/
set_option Elab.async false
set_option linter.all false
set_option maxRecDepth 100000
set_option maxHeartbeats 400000
namespace DV
open PySem L2 PyProof.Rows
def PostS (T : Tab) (W : WX) (w : Wd) (D : Ends) : SRes → Prop
  | .nx E S => ∀ σ H w', Wd.le w w' → EnvOk T w' σ E → StoreOk T S w' H → D.nx σ H
  | .ret d S => ∀ v H w', Wd.le w w' → StoreOk T S w' H → Rep T w' d v → D.rt v H
  | .brk E S => ∀ σ H w', Wd.le w w' → EnvOk T w' σ E → StoreOk T S w' H → D.bk σ H
  | .cnt E S => ∀ σ H w', Wd.le w w' → EnvOk T w' σ E → StoreOk T S w' H → D.ct σ H
  | .exc c fs E S => ∀ cls dx σ H w', Wd.le w w' → EnvOk T w' σ E → StoreOk T S w' H → XRep T w' c fs cls dx → W cls dx σ H
  | .bad => False
def tS (T : Tab) (W : WX) (r : Env → Store → SRes) : TS := fun D σ H => ∃ E S w, EnvOk T w σ E ∧ StoreOk T S w H ∧ PostS T W w D (r E S)
section
variable {T : Tab} {X : Cx} {W : WX} {C : Ctx} {k : Nat} {c : SC}
theorem PostS.mono {w w' : Wd} {D : Ends} {r : SRes} (l : Wd.le w w') (h : PostS T W w D r) : PostS T W w' D r := by
  cases r with
  | nx E S => exact fun σ H w2 l2 => h σ H w2 (l.trans l2)
  | ret d S => exact fun v H w2 l2 => h v H w2 (l.trans l2)
  | brk E S => exact fun σ H w2 l2 => h σ H w2 (l.trans l2)
  | cnt E S => exact fun σ H w2 l2 => h σ H w2 (l.trans l2)
  | exc c fs E S => exact fun cls dx σ H w2 l2 => h cls dx σ H w2 (l.trans l2)
  | bad => exact h
theorem PS.imp {st : Stmt} {t t' : TS} (h : PS X st t) (i : ∀ D σ H, t' D σ H → t D σ H) : PS X st t' := ⟨fun pins s σ H D I q => h.run pins s σ H D I (i D σ H q)⟩
theorem PSs.imp {st : List Stmt} {t t' : TS} (h : PSs X st t) (i : ∀ D σ H, t' D σ H → t D σ H) : PSs X st t' := ⟨fun pins s σ H D I q => h.run pins s σ H D I (i D σ H q)⟩
/-- an expression ahead -/
theorem toS_step {r : Env → Store → Res D} {f : Env → D → Store → SRes} {D : Ends} {σ : L2.St} {H : Hp} (h : tS T W (fun E S => toS E (r E S) (f E)) D σ H) :
    tE T W r σ H (fun v H1 => ∃ E d S w, EnvOk T w σ E ∧ StoreOk T S w H1 ∧ Rep T w d v ∧ PostS T W w D (f E d S)) := by
  obtain ⟨E, S, w, eo, so, p⟩ := h
  refine ⟨E, S, w, eo, so, ?_⟩
  change PostS T W w D (toS E (r E S) (f E)) at p
  cases z : r E S with
  | ok d S' =>
    rw [z] at p
    exact fun v H1 w1 l1 so1 rd => ⟨E, d, S', w1, eo.mono l1, so1, rd, PostS.mono l1 p⟩
  | exc c fs S' =>
    rw [z] at p
    exact fun cls dx H1 w1 l1 so1 xr => p cls dx σ H1 w1 l1 (eo.mono l1) so1 xr
  | bad => rw [z] at p; exact p
/-- the loop's turns -/
theorem loop_ok {J : It} {src : Src} {t : IT} {rb : Env → Store → SRes} {D : Ends} {g : TG} {w0 : Wd} {E0 : Env} {S0 : Store} {σ0 : L2.St} {H0 : Hp} (iok : IterOk T J src w0) (eo0 : EnvOk T w0 σ0 E0) (so0 : StoreOk T S0 w0 H0)
    (p0 : PostS T W w0 D (loopC src t rb src.len 0 E0 S0)) :
    ∃ Wm : Nat → Nat → L2.St → Hp → Prop, (∃ m, Wm 0 m σ0 H0) ∧ ∀ i m σ H, Wm i m σ H →
      (J.stop i H ∧ D.nx σ H) ∨ (J.go i H ∧ ∃ N : L2.St → Hp → Prop, (∀ σ' H', N σ' H' → ∃ m', m' < m ∧ Wm (i + 1) m' σ' H') ∧ ∀ x H', J.yld i H x H' → tgD T t x σ H' fun σ2 H2 => tS T W rb { D with nx := N, ct := N, bk := D.nx } σ2 H2) := by
  refine ⟨fun i m σ H => m = src.len - i ∧ i ≤ src.len ∧ ∃ E S w, Wd.le w0 w ∧ EnvOk T w σ E ∧ StoreOk T S w H ∧ PostS T W w D (loopC src t rb (src.len - i) i E S),
    ⟨src.len, rfl, Nat.zero_le _, E0, S0, w0, Wd.le.refl w0, eo0, so0, p0⟩, ?_⟩
  rintro i m σ H ⟨rfl, hi, E, S, w, l, eo, so, p⟩
  by_cases hlt : i < src.len
  · have e1 : src.len - i = (src.len - (i + 1)) + 1 := by omega
    rw [e1] at p
    simp only [loopC] at p
    split at p
    · rename_i ds hc
      split at p
      · rename_i d hd
        split at p
        · rename_i E' ha
          refine .inr ⟨iok.goes i H S w ds hc hlt l so, fun σ' H' => ∃ E S w, Wd.le w0 w ∧ EnvOk T w σ' E ∧ StoreOk T S w H' ∧ PostS T W w D (loopC src t rb (src.len - (i + 1)) (i + 1) E S),
            fun σ' H' q => ⟨src.len - (i + 1), by omega, rfl, hlt, q⟩, fun x H' y => ?_⟩
          obtain ⟨w3, l3, so3, rd, _⟩ := iok.yields i H x H' S w ds d hc hd l so y
          refine ⟨E, S, w3, d, E', eo.mono l3, so3, rd, ha, fun σ4 H4 w4 _ l4 eo4 so4 => ⟨E', S, w4, eo4, so4, ?_⟩⟩
          have p4 := PostS.mono (l3.trans l4) p
          have l04 : Wd.le w0 w4 := l.trans (l3.trans l4)
          cases z : rb E' S with
          | nx E2 S2 => rw [z] at p4; exact fun σ5 H5 w5 l5 eo5 so5 => ⟨E2, S2, w5, l04.trans l5, eo5, so5, PostS.mono l5 p4⟩
          | cnt E2 S2 => rw [z] at p4; exact fun σ5 H5 w5 l5 eo5 so5 => ⟨E2, S2, w5, l04.trans l5, eo5, so5, PostS.mono l5 p4⟩
          | brk E2 S2 => rw [z] at p4; exact p4
          | ret d2 S2 => rw [z] at p4; exact p4
          | exc c fs E2 S2 => rw [z] at p4; exact p4
          | bad => rw [z] at p4; exact p4
        · exact p.elim
      · exact p.elim
    · exact p.elim
  · have e : i = src.len := by omega
    subst e
    rw [Nat.sub_self] at p
    simp only [loopC] at p
    split at p
    · rename_i ds hc
      exact .inl ⟨iok.stops H S w ds hc l so, p σ H w (Wd.le.refl w) eo so⟩
    · exact p.elim
/-- for, what is walked not being locked -/
def notLock : Src → Bool
  | .lock _ _ => false
  | _ => true
def loopS (t : IT) (rb : Env → Store → SRes) (E : Env) : Res Src → SRes
  | .ok src S => loopC src t rb src.len 0 E S
  | .exc c fs S => .exc c fs E S
  | .bad => .bad
theorem ds_for {tg iter : Expr} {body : List Stmt} {t : IT} {ri : Env → Store → Res Src} {rb : Env → Store → SRes} {pos : Pos} (hp : PassesOwn (model X.prog X.w) X.A X.env X.xe) (hc : X.calm = true) (hi : PI X tg iter (tI T W ri)) (hg : PG X tg (tgD T t)) (hb : PSs X body (tS T W rb))
    (hs : ∀ x, foldedSetIterable iter X.env x = pure x) : PS X (.For tg iter body [] pos) (tS T W fun E S => loopS t rb E (ri E S)) := by
  refine PS.imp (ps_for hp hc hi hg hb hs) fun D σ H ⟨E, S, w, eo, so, p⟩ => ⟨E, S, w, eo, so, ?_⟩
  change PostS T W w D (loopS t rb E (ri E S)) at p
  cases z : ri E S with
  | ok src S' =>
    rw [z] at p
    exact fun J H1 w1 l1 so1 iok => loop_ok (g := tgD T t) iok (eo.mono l1) so1 (PostS.mono l1 p)
  | exc c fs S' =>
    rw [z] at p
    exact fun cls dx H1 w1 l1 so1 xr => p cls dx σ H1 w1 l1 (eo.mono l1) so1 xr
  | bad => rw [z] at p; exact p
end
end DV
end
section
/-! Comprehensions. -/
set_option Elab.async false
set_option linter.all false
set_option maxRecDepth 100000
set_option maxHeartbeats 400000
namespace DV
open PySem L2 PyProof.Rows
/-! ### one list aside: locked while the parts run -/
def tLockG (t : TG) : TG := fun v σ H Q => ∃ d u, H d = some u ∧ Mut (some u) ∧ ∀ od, t v σ (upd H d (.frz od u)) fun σ' H' => H' d = some (.frz od u) ∧ Q σ' (upd H' d u)
def tLockT (t : TT) : TT := fun σ H Q => ∃ d u, H d = some u ∧ Mut (some u) ∧ ∀ od, t σ (upd H d (.frz od u)) fun b H' => H' d = some (.frz od u) ∧ Q b (upd H' d u)
section
variable {X : Cx}
theorem pg_lock {e : Expr} {t : TG} (h : PG X e t) : PG X e (tLockG t) := by
  refine ⟨fun pins s σ H v u Q I r hw => ?_⟩
  obtain ⟨d, u', hd, mu, hw⟩ := hw
  obtain ⟨od, I1⟩ := I.lock hd mu
  refine thn (h.run pins s σ _ v u _ I1 r (hw od)) fun _ s1 ⟨σ', H1, I2, e2, q⟩ => ?_
  exact ⟨σ', _, I2.unlock e2 (I.nofrz hd mu), q⟩
theorem pts_lock {e : List Expr} {t : TT} (h : PTs X e t) : PTs X e (tLockT t) := by
  refine ⟨fun pins s σ H Q I hw => ?_⟩
  obtain ⟨d, u, hd, mu, hw⟩ := hw
  obtain ⟨od, I1⟩ := I.lock hd mu
  refine thn (h.run pins s σ _ _ I1 (hw od)) fun v s1 ⟨H1, I2, e2, q⟩ => ?_
  exact ⟨_, I2.unlock e2 (I.nofrz hd mu), q⟩
end
def del (H : Hp) (a : Addr) : Hp := fun b => if b = a then none else H b
theorem del_ne {H : Hp} {a b : Addr} (h : b ≠ a) : del H a b = H b := if_neg h
theorem del_same {H : Hp} {a : Addr} : del H a a = none := if_pos rfl
section
variable {T : Tab} {w w4 : Wd} {S S4 : Store} {H H4 : Hp} {D : Addr} {od : Obj} {xs : List V}
/-- the world where the list at D stands locked -/
def Wd.lk (w : Wd) (D : Addr) (od : Obj) (xs : List V) : Wd := ⟨w.μ, upd w.G D (.frz od (.lst xs))⟩
theorem lk_le (o : Off w D) : Wd.le w (w.lk D od xs) := ⟨List.prefix_refl _, Gle.new o.2⟩
theorem lk_so (so : StoreOk T S w H) (o : Off w D) : StoreOk T S (w.lk D od xs) (upd H D (.frz od (.lst xs))) := by
  refine ⟨⟨fun a u e h => ?_, fun a u e h => ?_⟩, so.len, so.nd, fun a ha => ?_, fun n a c e1 e2 => ?_, fun a e q => so.sc a e ((lk_le o).G.there q)⟩
  · by_cases z : a = D
    · subst z
      rw [show (w.lk a od xs).G a = some (.frz od (.lst xs)) from upd_same] at h
      rw [upd_same]; exact h
    · rw [show (w.lk D od xs).G a = w.G a from upd_ne z] at h
      rw [upd_ne z]; exact so.G.st a u e h
  · have z : a ≠ D := by
      rintro rfl
      rcases h with h | ⟨_, h⟩ <;> (rw [show (w.lk a od xs).G a = some (.frz od (.lst xs)) from upd_same] at h; cases h; cases e)
    have h' : Rd w.G a u := by
      rcases h with h | ⟨o', h⟩
      · exact .inl (by rw [show (w.lk D od xs).G a = w.G a from upd_ne z] at h; exact h)
      · exact .inr ⟨o', by rw [show (w.lk D od xs).G a = w.G a from upd_ne z] at h; exact h⟩
    rcases so.G.dc a u e h' with q | ⟨o', q⟩
    · exact .inl (by rw [upd_ne z]; exact q)
    · exact .inr ⟨o', by rw [upd_ne z]; exact q⟩
  · have z : a ≠ D := fun z => o.1 (z ▸ ha)
    show upd w.G D _ a = none
    rw [upd_ne z]; exact so.free a ha
  · have z : a ≠ D := fun z => o.1 (z ▸ List.mem_of_getElem? e1)
    exact ((so.cell n a c e1 e2).at_ (H' := upd H D (.frz od (.lst xs))) (upd_ne z)).mono (lk_le o)
/-- .. and back -/
def Wd.ulk (w : Wd) (D : Addr) : Wd := ⟨w.μ, del w.G D⟩
mutual
theorem rep_off (hsc : T.sc ≠ some D) (hD : w.G D = some (.frz od (.lst xs))) : ∀ {d : DV.D} {v : V}, Rep T w d v → Rep T (w.ulk D) d v
  | .non, _, h => by simpa only [Rep] using h
  | .bl _, _, h => by simpa only [Rep] using h
  | .int _, _, h => by simpa only [Rep] using h
  | .str _, _, h => by simpa only [Rep] using h
  | .tup ds, _, h => by
    simp only [Rep] at h ⊢
    obtain ⟨a, ys, e, s, r⟩ := h
    have z : a ≠ D := by rintro rfl; rw [hD] at s; cases s
    exact ⟨a, ys, e, (del_ne z).trans s, reps_off hsc hD r⟩
  | .ctup ds, _, h => by
    simp only [Rep] at h ⊢
    obtain ⟨a, ys, e, s, r⟩ := h
    refine ⟨a, ys, e, ?_, reps_off hsc hD r⟩
    rcases s with (s | ⟨o, s⟩) | s
    · have z : a ≠ D := by rintro rfl; rw [hD] at s; cases s
      exact .inl (.inl ((del_ne z).trans s))
    · have z : a ≠ D := by rintro rfl; rw [hD] at s; cases s
      exact .inl (.inr ⟨o, (del_ne z).trans s⟩)
    · exact .inr s
  | .lst ds, _, h => by
    simp only [Rep] at h ⊢
    obtain ⟨a, ys, e, s, r⟩ := h
    have z : a ≠ D := by rintro rfl; rw [hD] at s; cases s
    exact ⟨a, ys, e, (del_ne z).trans s, reps_off hsc hD r⟩
  | .dct t kvs, _, h => by
    simp only [Rep] at h ⊢
    have rd : ∀ a u, isD u = true → Rd w.G a u → Rd (w.ulk D).G a u := fun a u e s => by
      rcases s with s | ⟨o, s⟩
      · have z : a ≠ D := by rintro rfl; rw [hD] at s; cases s; cases e
        exact .inl ((del_ne z).trans s)
      · have z : a ≠ D := by rintro rfl; rw [hD] at s; cases s; cases e
        exact .inr ⟨o, (del_ne z).trans s⟩
    obtain ⟨a, e, ⟨ht, hs, r, q⟩ | ⟨ht, hs, r, q⟩⟩ := h
    · exact ⟨a, e, .inl ⟨ht, hs, rd _ _ rfl r, repT_off hsc hD q⟩⟩
    · exact ⟨a, e, .inr ⟨ht, hs, rd _ _ rfl r, repK_off hsc hD q⟩⟩
  | .ins c fs, _, h => by
    simp only [Rep] at h ⊢
    obtain ⟨a, C, dx, hs, e, hc, r, q⟩ := h
    have z : a ≠ D := by rintro rfl; rw [hD] at r; cases r
    exact ⟨a, C, dx, hs, e, hc, (del_ne z).trans r, repF_off hsc hD q⟩
  | .exo c fs, _, h => by
    simp only [Rep] at h ⊢
    obtain ⟨a, C, dx, hs, e, hc, r, r2, q⟩ := h
    have z : a ≠ D := by rintro rfl; rw [hD] at r; cases (show HO.frz _ _ = HO.ext _ from Option.some.inj r)
    have z2 : dx ≠ D := by rintro rfl; rw [hD] at r2; cases r2
    exact ⟨a, C, dx, hs, e, hc, (del_ne z).trans r, (del_ne z2).trans r2, repF_off hsc hD q⟩
  | .fn f, _, h => by simpa only [Rep] using h
  | .loc n, _, h => by
    simp only [Rep] at h ⊢
    exact h
  | .scr n, _, h => by
    simp only [Rep] at h ⊢
    obtain ⟨a, e, s | s⟩ := h
    · have z : a ≠ D := fun z => hsc (z ▸ s.1)
      exact ⟨a, e, .inl ⟨s.1, s.2.elim (fun s => .inl ((del_ne z).trans s)) fun ⟨o, s⟩ => .inr ⟨o, (del_ne z).trans s⟩⟩⟩
    · exact ⟨a, e, .inr s⟩
theorem reps_off (hsc : T.sc ≠ some D) (hD : w.G D = some (.frz od (.lst xs))) : ∀ {ds : List DV.D} {vs : List V}, Reps T w ds vs → Reps T (w.ulk D) ds vs
  | [], _, h => by simpa only [Reps] using h
  | d :: ds, _, h => by
    simp only [Reps] at h ⊢
    obtain ⟨x, r, e, a, b⟩ := h
    exact ⟨x, r, e, rep_off hsc hD a, reps_off hsc hD b⟩
theorem repK_off (hsc : T.sc ≠ some D) (hD : w.G D = some (.frz od (.lst xs))) : ∀ {ds : List (DV.D × DV.D)} {vs : List (Key × V)}, RepK T w ds vs → RepK T (w.ulk D) ds vs
  | [], _, h => by simpa only [RepK] using h
  | (k, d) :: ds, _, h => by
    simp only [RepK] at h ⊢
    obtain ⟨hk, x, r, e, a, b, c⟩ := h
    exact ⟨hk, x, r, e, a, rep_off hsc hD b, repK_off hsc hD c⟩
theorem repT_off (hsc : T.sc ≠ some D) (hD : w.G D = some (.frz od (.lst xs))) : ∀ {ds : List (DV.D × DV.D)} {vs : List (List Key × V)}, RepT T w ds vs → RepT T (w.ulk D) ds vs
  | [], _, h => by simpa only [RepT] using h
  | (k, d) :: ds, _, h => by
    simp only [RepT] at h ⊢
    obtain ⟨hk, x, r, e, a, b, c⟩ := h
    exact ⟨hk, x, r, e, a, rep_off hsc hD b, repT_off hsc hD c⟩
theorem repF_off (hsc : T.sc ≠ some D) (hD : w.G D = some (.frz od (.lst xs))) : ∀ {ds : List (Nat × DV.D)} {vs : List (Str × V)}, RepF T w ds vs → RepF T (w.ulk D) ds vs
  | [], _, h => by simpa only [RepF] using h
  | (k, d) :: ds, _, h => by
    simp only [RepF] at h ⊢
    obtain ⟨x, r, e, b, c⟩ := h
    exact ⟨x, r, e, rep_off hsc hD b, repF_off hsc hD c⟩
end
theorem cell_off (hsc : T.sc ≠ some D) (hD : w.G D = some (.frz od (.lst xs))) {a : Addr} {c : Cell} (h : CellOk T w H a c) : CellOk T (w.ulk D) H a c := by
  cases c with
  | lst ds => obtain ⟨xs, e, r⟩ := h; exact ⟨xs, e, reps_off hsc hD r⟩
  | dct t kvs =>
    rcases h with ⟨e, hs, q, r⟩ | ⟨e, hs, q, r⟩
    · exact .inl ⟨e, hs, q, repT_off hsc hD r⟩
    · exact .inr ⟨e, hs, q, repK_off hsc hD r⟩
  | lck t kvs =>
    obtain ⟨o, ⟨e, hs, q, r⟩ | ⟨e, hs, q, r⟩⟩ := h
    · exact ⟨o, .inl ⟨e, hs, q, repT_off hsc hD r⟩⟩
    · exact ⟨o, .inr ⟨e, hs, q, repK_off hsc hD r⟩⟩
  | ins c fs => obtain ⟨C, dx, hs, e, q, r⟩ := h; exact ⟨C, dx, hs, e, q, repF_off hsc hD r⟩
theorem env_off (hsc : T.sc ≠ some D) (hD : w.G D = some (.frz od (.lst xs))) {σ : L2.St} {E : Env} (h : EnvOk T w σ E) : EnvOk T (w.ulk D) σ E := ⟨h.len, fun i d e => let ⟨v, q, r⟩ := h.at_ i d e; ⟨v, q, rep_off hsc hD r⟩⟩
/-- behind the part -/
theorem ulk (hsc : T.sc ≠ some D) (o : Off w D) (l : Wd.le (w.lk D od xs) w4) (so : StoreOk T S4 w4 H4) :
    w4.G D = some (.frz od (.lst xs)) ∧ H4 D = some (.frz od (.lst xs)) ∧ Off (w4.ulk D) D ∧ Wd.le w (w4.ulk D) ∧ ∀ ys, StoreOk T S4 (w4.ulk D) (upd H4 D (.lst ys)) := by
  have hD : w4.G D = some (.frz od (.lst xs)) := l.G.st D _ rfl upd_same
  have nm : D ∉ w4.μ := fun h => by rw [so.free D h] at hD; cases hD
  refine ⟨hD, so.G.st D _ rfl hD, ⟨nm, del_same⟩, ⟨l.μ, fun a u e h => ?_, fun a u e h => ?_⟩, fun ys => ⟨⟨fun a u e h => ?_, fun a u e h => ?_⟩, so.len, so.nd, fun a ha => ?_, fun n a c e1 e2 => ?_, fun a e q => so.sc a e ((del_ne (show a ≠ D from fun z => hsc (by rw [← z]; exact e))).symm.trans q)⟩⟩
  · have z : a ≠ D := by rintro rfl; rw [o.2] at h; cases h
    exact (del_ne z).trans (l.G.st a u e ((upd_ne z).trans h))
  · have z : a ≠ D := by rintro rfl; rcases h with h | ⟨_, h⟩ <;> (rw [o.2] at h; cases h)
    have h' : Rd (w.lk D od xs).G a u := h.elim (fun h => .inl ((upd_ne z).trans h)) fun ⟨o', h⟩ => .inr ⟨o', (upd_ne z).trans h⟩
    exact (l.G.dc a u e h').elim (fun h => .inl ((del_ne z).trans h)) fun ⟨o', h⟩ => .inr ⟨o', (del_ne z).trans h⟩
  · have z : a ≠ D := by rintro rfl; rw [show (w4.ulk a).G a = none from del_same] at h; cases h
    rw [show (w4.ulk D).G a = w4.G a from del_ne z] at h
    rw [upd_ne z]; exact so.G.st a u e h
  · have z : a ≠ D := by rintro rfl; rcases h with h | ⟨_, h⟩ <;> (rw [show (w4.ulk a).G a = none from del_same] at h; cases h)
    have h' : Rd w4.G a u := h.elim (fun h => .inl ((del_ne z).symm.trans h)) fun ⟨o', h⟩ => .inr ⟨o', (del_ne z).symm.trans h⟩
    exact (so.G.dc a u e h').elim (fun h => .inl ((upd_ne z).trans h)) fun ⟨o', h⟩ => .inr ⟨o', (upd_ne z).trans h⟩
  · show del w4.G D a = none
    by_cases z : a = D
    · rw [z]; exact del_same
    · rw [del_ne z]; exact so.free a ha
  · have z : a ≠ D := fun z => nm (z ▸ List.mem_of_getElem? e1)
    exact (cell_off hsc hD (so.cell n a c e1 e2)).at_ (upd_ne z)
end
end DV
end
section
/-! List comprehensions. -/
set_option Elab.async false
set_option linter.all false
set_option maxRecDepth 100000
set_option maxHeartbeats 400000
namespace DV
open PySem L2 PyProof.Rows
section
variable {T : Tab} {w w4 : Wd} {S S4 : Store} {H H4 : Hp} {D : Addr} {xs : List V}
theorem del_so (so : StoreOk T S w H) (o : Off w D) : StoreOk T S w (del H D) := by
  refine ⟨⟨fun a u e h => ?_, fun a u e h => ?_⟩, so.len, so.nd, so.free, fun n a c e1 e2 => ?_, so.sc⟩
  · have z : a ≠ D := by rintro rfl; rw [o.2] at h; cases h
    rw [del_ne z]; exact so.G.st a u e h
  · have z : a ≠ D := by rintro rfl; rcases h with h | ⟨_, h⟩ <;> (rw [o.2] at h; cases h)
    exact (so.G.dc a u e h).elim (fun h => .inl ((del_ne z).trans h)) fun ⟨o', h⟩ => .inr ⟨o', (del_ne z).trans h⟩
  · have z : a ≠ D := fun z => o.1 (z ▸ List.mem_of_getElem? e1)
    exact (so.cell n a c e1 e2).at_ (del_ne z)
theorem upd_del {u : HO} (h : H D = some u) : upd (del H D) D u = H := by
  funext b
  by_cases z : b = D
  · rw [z, upd_same, h]
  · rw [upd_ne z, del_ne z]
theorem add_so (so : StoreOk T S w H) (hD : H D = none) (u : HO) : StoreOk T S w (upd H D u) ∧ Off w D := by
  have o : Off w D := ⟨so.notin hD, so.G.there hD⟩
  refine ⟨⟨so.G.write o.2, so.len, so.nd, so.free, fun n a c e1 e2 => ?_, so.sc⟩, o⟩
  have z : a ≠ D := fun z => o.1 (z ▸ List.mem_of_getElem? e1)
  exact (so.cell n a c e1 e2).at_ (upd_ne z)
theorem noExc_bind {α β : Type} (r : Res α) (g : α → Store → Res β) : noExc (r.bind g) = (noExc r).bind fun a S => noExc (g a S) := by cases r <;> rfl
theorem wipe_not {τ : L2.St} {j : Nat} : ∀ {vs : List Nat}, j ∉ vs → (wipe τ vs)[j]? = τ[j]?
  | [], _ => rfl
  | v :: vs, hj => by
    unfold wipe
    rw [List.getElem?_set_ne (fun e => hj (by simp [e]))]
    exact wipe_not (fun h => hj (List.mem_cons_of_mem _ h))
theorem wipe_ext {σ σ' : L2.St} : ∀ {vs : List Nat}, σ'.length = σ.length → (∀ j, j ∉ vs → σ'[j]? = σ[j]?) → wipe σ' vs = wipe σ vs := fun {vs} hl h => by
  have key : ∀ (vs : List Nat) (τ : L2.St) (j : Nat), j ∈ vs → j < τ.length → (wipe τ vs)[j]? = some none := by
    intro vs
    induction vs with
    | nil => intro τ j hj; cases hj
    | cons v vs ih =>
      intro τ j hj hlt
      unfold wipe
      by_cases z : v = j
      · subst z; rw [List.getElem?_set_self (by rw [wipe_length]; exact hlt)]
      · rw [List.getElem?_set_ne z]
        exact ih τ j ((List.mem_cons.mp hj).resolve_left fun e => z e.symm) hlt
  have key2 : ∀ (vs : List Nat) (τ : L2.St) (j : Nat), j ∉ vs → (wipe τ vs)[j]? = τ[j]? := by
    intro vs
    induction vs with
    | nil => intro τ j hj; rfl
    | cons v vs ih =>
      intro τ j hj
      unfold wipe
      rw [List.getElem?_set_ne (fun e => hj (by simp [e]))]
      exact ih τ j (fun h => hj (List.mem_cons_of_mem _ h))
  refine List.ext_getElem? fun j => ?_
  by_cases hj : j ∈ vs
  · by_cases hlt : j < σ.length
    · rw [key vs σ j hj hlt, key vs σ' j hj (by rw [hl]; exact hlt)]
    · rw [List.getElem?_eq_none (by rw [wipe_length, hl]; omega), List.getElem?_eq_none (by rw [wipe_length]; omega)]
  · rw [key2 vs σ j hj, key2 vs σ' j hj, h j hj]
theorem wipe_env {σ : L2.St} {E : Env} (h : EnvOk T w σ E) : ∀ vs : List Nat, EnvOk T w (wipe σ vs) (wipeE E vs)
  | [] => h
  | v :: vs => by
    have ih := wipe_env h vs
    refine ⟨by unfold wipe wipeE; simp [ih.len], fun i d hi => ?_⟩
    unfold wipeE at hi
    unfold wipe
    by_cases z : v = i
    · subst z
      by_cases hl : v < (wipeE E vs).length
      · rw [List.getElem?_set_self hl] at hi; cases hi
      · rw [List.getElem?_eq_none (by simpa using hl)] at hi; cases hi
    · rw [List.getElem?_set_ne z] at hi ⊢
      exact ih.at_ i d hi
end
section
variable {T : Tab} {X : Cx} {W : WX} {C : Ctx} {k : Nat} {c : SC}
abbrev W0 : WX := fun _ _ _ _ => False
def lcF (tg : IT) (E : Env) (rc : Env → Store → Res Bool) (re : Env → Store → Res D) : D → List D → Store → Res (List D) := fun x acc S1 => match asgD S1 tg x E with
        | some E' => (rc E' S1).bind fun b S2 => if b then (re E' S2).bind fun y S3 => if acc.length < lim then .ok (acc ++ [y]) S3 else .bad else .ok acc S2
        | none => .bad
def lcEnd (m : Bool) (acc : List D) (S : Store) : Res D := if m then alloc (.lst acc) S else .ok (.lst acc) S
theorem lc_ok {J : It} {src : Src} {t : IT} {rc : Env → Store → Res Bool} {re : Env → Store → Res D} {vs : List Nat} {m : Bool} {Q : VK} {w0 : Wd} {E0 : Env} {S0 : Store} {σ0 : L2.St} {H0 : Hp} (hv : ∀ j ∈ t.vars, j ∈ vs) (iok : IterOk T J src w0) (eo0 : EnvOk T w0 σ0 E0) (so0 : StoreOk T S0 w0 H0)
    (p0 : Post T (RV T) W σ0 w0 Q ((noExc (foldC src (lcF t (wipeE E0 vs) rc re) src.len 0 [] S0)).bind (lcEnd m))) (D : Addr) (hD : H0 D = none) :
    ∃ Wm : Nat → Nat → Hp → Prop, (∃ m, Wm 0 m (upd H0 D (.lst []))) ∧ ∀ i m H, Wm i m H →
      (J.stop i H ∧ Q (.ref D) H) ∨ (J.go i H ∧ ∃ Nx : Hp → Prop, (∀ H', Nx H' → ∃ m', m' < m ∧ Wm (i + 1) m' H') ∧ ∀ x H', J.yld i H x H' → tLockG (tgD T t) x (wipe σ0 vs) H' fun σ2 H2 => wipe σ2 vs = wipe σ0 vs ∧ tLockT (tT T W0 rc) σ2 H2 fun b H3 =>
        if b = true then tLockE (tE T W0 re) σ2 H3 fun y H4 => ∃ acc, H4 D = some (.lst acc) ∧ acc.length < sizeLine ∧ Nx (upd H4 D (.lst (acc ++ [y]))) else Nx H3) := by
  obtain ⟨so1, off0⟩ := add_so so0 hD (.lst [])
  have hsc : T.sc ≠ some D := fun e => so0.sc D e off0.2
  let F := lcF t (wipeE E0 vs) rc re
  let Hold : Nat → Nat → Hp → Prop := fun i n H => ∃ S w acc xs, Wd.le w0 w ∧ Off w D ∧ H D = some (.lst xs) ∧ StoreOk T S w H ∧ Reps T w acc xs ∧ Post T (RV T) W σ0 w Q ((noExc (foldC src F n i acc S)).bind (lcEnd m))
  refine ⟨fun i m' H => m' = src.len - i ∧ i ≤ src.len ∧ Hold i (src.len - i) H, ⟨src.len, rfl, Nat.zero_le _, S0, w0, [], [], Wd.le.refl w0, off0, upd_same, so1, Reps.nil, p0⟩, ?_⟩
  rintro i m' H ⟨rfl, hi, S, w, acc, xs, l, off, hx, so, ra, p⟩
  by_cases hlt : i < src.len
  · have e1 : src.len - i = (src.len - (i + 1)) + 1 := by omega
    rw [e1] at p
    simp only [foldC] at p
    split at p
    · rename_i ds hc
      split at p
      · rename_i d hd
        refine .inr ⟨iok.goes i H S w ds hc hlt l so, Hold (i + 1) (src.len - (i + 1)), fun H' q => ⟨src.len - (i + 1), by omega, rfl, hlt, q⟩, fun x H' y => ?_⟩
        obtain ⟨w2, l2, so2, rd, offs⟩ := iok.yields i H x H' S w ds d hc hd l so y
        obtain ⟨off2, hx2⟩ := offs D off (by rw [hx]; simp)
        rw [hx] at hx2
        rw [noExc_bind, Res.bind_assoc] at p
        simp only [F, lcF] at p
        split at p
        · rename_i E' ha
          rw [noExc_bind, Res.bind_assoc] at p
          -- the target
          refine ⟨D, .lst xs, hx2, trivial, fun od => ?_⟩
          refine ⟨wipeE E0 vs, S, w2.lk D od xs, d, E', (wipe_env (eo0.mono (l.trans l2)) vs).mono (lk_le off2), lk_so so2 off2, rd.mono (lk_le off2), ha, fun σ3 H3 w3 hv3 l3 eo3 so3 => ?_⟩
          obtain ⟨hD3, hx3, off3, l23, so3'⟩ := ulk hsc off2 l3 so3
          refine ⟨hx3, ?_, ?_⟩
          · have h1 := wipe_ext (vs := vs) hv3.1 (fun j hj => hv3.2 j (fun h => hj (hv j h)))
            have h2 := wipe_ext (σ := σ0) (σ' := wipe σ0 vs) (vs := vs) (wipe_length _ _) (fun j hj => wipe_not hj)
            exact h1.trans h2
          -- the tests
          have eo3' := env_off hsc hD3 eo3
          have so3'' := so3' xs
          refine ⟨D, .lst xs, upd_same, trivial, fun od2 => ?_⟩
          refine ⟨E', S, (w3.ulk D).lk D od2 xs, eo3'.mono (lk_le off3), lk_so so3'' off3, ?_⟩
          have p3 := Post.mono (l2.trans l23) p
          cases z : rc E' S with
          | exc c fs S2 => rw [z] at p3; exact p3.elim
          | bad => rw [z] at p3; exact p3.elim
          | ok b S2 =>
            rw [z] at p3
            rintro b' H5 w5 l5 so5 rfl
            obtain ⟨hD5, hx5, off5, l35, so5'⟩ := ulk hsc off3 l5 so5
            refine ⟨hx5, ?_⟩
            have p5 := Post.mono l35 p3
            have eo5 := env_off hsc hD5 (eo3'.mono ((lk_le off3).trans l5))
            have ra5 := ra.mono (l2.trans (l23.trans l35))
            have l05 := l.trans (l2.trans (l23.trans l35))
            cases b' with
            | false =>
              show Hold (i + 1) (src.len - (i + 1)) (upd H5 D (.lst xs))
              exact ⟨S2, w5.ulk D, acc, xs, l05, off5, upd_same, so5' xs, ra5, p5⟩
            | true =>
              show tLockE (tE T W0 re) σ3 (upd H5 D (.lst xs)) fun y H4 => ∃ acc, H4 D = some (.lst acc) ∧ acc.length < sizeLine ∧ Hold (i + 1) (src.len - (i + 1)) (upd H4 D (.lst (acc ++ [y])))
              replace p5 : Post T (RV T) W σ0 (w5.ulk D) Q ((noExc ((re E' S2).bind fun y S3 => if acc.length < lim then .ok (acc ++ [y]) S3 else .bad)).bind fun acc' S' => (noExc (foldC src F (src.len - (i + 1)) (i + 1) acc' S')).bind (lcEnd m)) := p5
              rw [noExc_bind, Res.bind_assoc] at p5
              refine ⟨D, .lst xs, upd_same, trivial, fun od3 => ?_⟩
              refine ⟨E', S2, (w5.ulk D).lk D od3 xs, eo5.mono (lk_le off5), lk_so (so5' xs) off5, ?_⟩
              cases z2 : re E' S2 with
              | exc c fs S3 => rw [z2] at p5; exact p5.elim
              | bad => rw [z2] at p5; exact p5.elim
              | ok yd S3 =>
                rw [z2] at p5
                intro yv H7 w7 l7 so7 ry
                obtain ⟨hD7, hx7, off7, l57, so7'⟩ := ulk hsc off5 l7 so7
                refine ⟨hx7, xs, upd_same, ?_⟩
                replace p5 : Post T (RV T) W σ0 (w5.ulk D) Q ((noExc (if acc.length < lim then (.ok (acc ++ [yd]) S3) else .bad)).bind fun acc' S' => (noExc (foldC src F (src.len - (i + 1)) (i + 1) acc' S')).bind (lcEnd m)) := p5
                split at p5
                · rename_i hl
                  refine ⟨lim_lt (by rw [ra.length]; exact hl), S3, w7.ulk D, acc ++ [yd], xs ++ [yv], l05.trans l57, off7, upd_same, ?_, (ra5.mono l57).append (Reps.one (rep_off hsc hD7 ry)), Post.mono l57 p5⟩
                  have e : upd (upd H7 D (.lst xs)) D (.lst (xs ++ [yv])) = upd H7 D (.lst (xs ++ [yv])) := by
                    funext b
                    by_cases z : b = D
                    · rw [z, upd_same, upd_same]
                    · rw [upd_ne z, upd_ne z, upd_ne z]
                  rw [e]
                  exact so7' _
                · exact p5.elim
        · exact p.elim
      · exact p.elim
    · exact p.elim
  · have e : i = src.len := by omega
    subst e
    rw [Nat.sub_self] at p
    simp only [foldC] at p
    split at p
    · rename_i ds hc
      refine .inl ⟨iok.stops H S w ds hc l so, ?_⟩
      have sd := del_so so off
      rw [← upd_del hx]
      replace p : Post T (RV T) W σ0 w Q (lcEnd m acc S) := p
      unfold lcEnd at p
      cases m with
      | true => exact new_cell sd ra p D del_same
      | false => exact new_lst sd ra p D del_same
    · exact p.elim
/-- [elt for tg in iter if ..], what is walked not being locked -/
def lcR (tg : IT) (vs : List Nat) (m : Bool) (rc : Env → Store → Res Bool) (re : Env → Store → Res D) (E : Env) : Res Src → Res D
  | .ok src S => (noExc (foldC src (lcF tg (wipeE E vs) rc re) src.len 0 [] S)).bind (lcEnd m)
  | .exc c fs S => .exc c fs S
  | .bad => .bad
theorem ds_tLc {t : IT} {ri : Env → Store → Res Src} {rc : Env → Store → Res Bool} {re : Env → Store → Res D} {vs : List Nat} {m : Bool} (hv : ∀ j ∈ t.vars, j ∈ vs) : ∀ σ H Q, tE T W (fun E S => lcR t vs m rc re E (ri E S)) σ H Q →
    tLc (tI T W ri) (tLockG (tgD T t)) (tLockT (tT T W0 rc)) (tLockE (tE T W0 re)) vs σ H Q := fun σ H Q ⟨E, S, w, eo, so, p⟩ => by
  refine ⟨E, S, w, eo, so, ?_⟩
  change Post T (RV T) W σ w Q (lcR t vs m rc re E (ri E S)) at p
  cases z : ri E S with
  | ok src S' =>
    rw [z] at p
    exact fun J H1 w1 l1 so1 iok D hD => lc_ok hv iok (eo.mono l1) so1 (Post.mono l1 p) D hD
  | exc c fs S' => rw [z] at p; exact p
  | bad => rw [z] at p; exact p
/-- what holds in every block of that scope -/
abbrev InBlk (X : Cx) (scope : Scope) (P : Cx → Prop) : Prop := ∀ (s : Shared) (H : Hp) (C : Addr) (cl : List (Str × Addr)) (fp : List Addr), P (X.blk s H scope (compEnvC scope cl C X.env) fp)
theorem de_lc {elt tg iter : Expr} {ifs : List Expr} {scope : Scope} {own : List (Str × Nat)} {pos : Pos} {t : IT} {ri : Env → Store → Res Src} {rc : Env → Store → Res Bool} {re : Env → Store → Res D} {m : Bool} (hc : X.calm = true) (hN : X.N.Nodup) (hi : PI X tg iter (tI T W ri)) (ok : BlkOk X.N X.env.scope scope own)
    (hv : ∀ j ∈ t.vars, j ∈ own.map (·.2)) (hg : InBlk X scope fun Y => PG Y tg (tgD T t)) (ht : InBlk X scope fun Y => PTs Y ifs (tT T W0 rc)) (he : InBlk X scope fun Y => PE Y elt (tE T W0 re)) (hs : ∀ x, foldedSetIterable iter X.env x = pure x) :
    PE X (.ListComp elt [⟨tg, iter, ifs, 0⟩] scope pos) (tE T W fun E S => lcR t (own.map (·.2)) m rc re E (ri E S)) :=
  PE.imp (pe_lc hc hN hi ok (fun s H C cl fp => pg_lock (hg s H C cl fp)) (fun s H C cl fp => pts_lock (ht s H C cl fp)) (fun s H C cl fp => pe_lock (he s H C cl fp)) hs) fun σ H Q h => ds_tLc hv σ H Q h
end
end DV
end
section
/-! What is walked: sequences, texts, ranges, enumerate, zip. -/
set_option Elab.async false
set_option linter.all false
set_option maxRecDepth 100000
set_option maxHeartbeats 400000
namespace DV
open PySem L2 PyProof.Rows
section
variable {T : Tab} {X : Cx} {W : WX} {C : Ctx} {k : Nat} {c : SC}
theorem iter_fix {w : Wd} {J : It} {ds : List D} (hg : ∀ i H, i < ds.length → J.go i H) (hs : ∀ H, J.stop ds.length H) (hy : ∀ (i : Nat) H x H' d w', ds[i]? = some d → J.yld i H x H' → H' = H ∧ Rep T w' d x) : IterOk T J (.items ds) w := by
  refine ⟨fun i H S w' ds' e hi l so => hg i H hi, fun H S w' ds' e l so => hs H, fun i H x H' S w' ds' d e hd l so y => ?_⟩
  simp only [Src.cur, Option.some.injEq] at e
  subst e
  obtain ⟨rfl, r⟩ := hy i H x H' d w' hd y
  exact ⟨w', Wd.le.refl w', so, r, fun _ o _ => ⟨o, rfl⟩⟩
theorem iter_str {w : Wd} (z : Str) : IterOk T (Its z) (.items (z.cps.toList.map fun c => D.str ⟨#[c]⟩)) w := by
  refine iter_fix (fun i H hi => (by simpa using hi : i < z.cps.size)) (fun H => by simp [Its]) fun i H x H' d w' hd y => ?_
  obtain ⟨rfl, c, hc, rfl⟩ := y
  refine ⟨rfl, ?_⟩
  rw [List.getElem?_map] at hd
  have e : z.cps.toList[i]? = some c := by simpa using hc
  rw [e] at hd
  cases hd
  simp only [Rep]
theorem iter_rng {w : Wd} (lo : Int) (n : Nat) : IterOk T (Itr lo n) (.items ((List.range n).map fun (i : Nat) => D.int (lo + (i : Int)))) w := by
  refine iter_fix (fun i H hi => (by simpa using hi : i < n)) (fun H => by simp [Itr]) fun i H x H' d w' hd y => ?_
  obtain ⟨rfl, rfl⟩ := y
  refine ⟨rfl, ?_⟩
  rw [List.getElem?_map] at hd
  by_cases hi : i < n
  · rw [List.getElem?_range hi] at hd
    cases hd
    simp only [Rep]
  · rw [List.getElem?_eq_none (by simpa using hi)] at hd; cases hd
/-- an iterator over a value -/
theorem iter_run {tg : Expr} {pins : List (Addr × Obj)} {σ : L2.St} {H : Hp} {s : Shared} {R : It → Hp → Prop} {d : D} {x : V} {v : Value} {S : Store} {w : Wd} {src : Src} (hK : X.K = T.K) (I : Inv X pins σ H s) (r : RelV x v) (so : StoreOk T S w H) (rd : Rep T w d x) (e : srcSeq S d = some src)
    (q : ∀ J, IterOk T J src w → R J H) : wpAny (model X.prog X.w) X.A (pyIter v) (PIE X pins σ tg R) X.xe s := by
  by_cases hz : ∃ z, d = .str z
  · obtain ⟨z, rfl⟩ := hz
    simp only [Rep] at rd
    subst rd
    simp only [srcSeq, Option.some.injEq] at e
    subst e
    obtain ⟨t, rfl⟩ := r
    have q := q _ (iter_str z)
    cases ha : z.cps.all (· < 128)
    · exact wpAny_pyIter_wide ha (pi_one (tk := s.toks) I _ (turn_str _ z t "str_iterator" (.inr rfl)) ⟨_, Heap.get?_push_size _ rfl, rfl, rfl⟩ q)
    · exact wpAny_pyIter_ascii ha (pi_one (tk := s.toks) I _ (turn_str _ z t "str_ascii_iterator" (.inl rfl)) ⟨_, Heap.get?_push_size _ rfl, rfl, rfl⟩ q)
  · obtain ⟨a, rfl, ⟨⟨xs, hx⟩, iok⟩ | ⟨⟨xs, hx⟩, iok⟩⟩ := iter_list hK so rd e (fun z h => hz ⟨z, h⟩)
    · cases r
      obtain ⟨its, rv, p, _⟩ := I.list hx
      exact wpAny_pyIter_list p.isList (pi_one (tk := s.toks) I _ (turn_list a _) ⟨_, Heap.get?_push_size _ rfl, rfl, rfl⟩ (q _ iok))
    · cases r
      obtain ⟨its, rv, p, _⟩ := I.tuple hx
      exact wpAny_pyIter_tuple (show s.heap.IsTuple a its.toArray from p) (pi_one (tk := s.toks) I _ (turn_tuple a _) ⟨_, Heap.get?_push_size _ rfl, rfl, rfl⟩ (q _ iok))
theorem PostI.ofO {σ : L2.St} {w : Wd} {R : It → Hp → Prop} {o : Option Src} {S : Store} (h : PostI T W σ w R (DV.ofO o S)) : ∃ src, o = some src ∧ ∀ J H w', Wd.le w w' → StoreOk T S w' H → IterOk T J src w' → R J H := by
  cases o with
  | none => exact h.elim
  | some src => exact ⟨src, rfl, h⟩
theorem ds_iter {tg e : Expr} {ra : Env → Store → Res D} (hK : X.K = T.K) (he : PE X e (tE T W ra)) : PI X tg e (tI T W fun E S => (ra E S).bind fun x S' => ofO (srcSeq S' x) S') := by
  refine ⟨fun pins s σ H R I ⟨E, S, w, eo, so, p⟩ => ?_⟩
  refine thn (he.run pins s σ H _ I ⟨E, S, w, eo, so, PostI.bind (R' := RV T) p⟩) fun v s1 ⟨x, H1, I1, r1, d, S1, w1, l1, so1, rd, p1⟩ => ?_
  obtain ⟨src, e1, q⟩ := p1.ofO
  exact iter_run hK I1 r1 so1 rd e1 fun J iok => q J H1 w1 (Wd.le.refl w1) so1 iok
theorem lim_int {i : Int} (h : i.natAbs ≤ lim) : -(2 ^ 62) ≤ i ∧ i < 2 ^ 62 := by
  have : lim = 1000000 := rfl
  omega
theorem ds_rng1 {tg a : Expr} {ra : Env → Store → Res (List D)} {p pos : Pos} (hg : Gl X "range") (hm : X.mg "range" = none) (ha : PA X [a] (tA T W ra)) (hp : [a].all plainX = true) : PI X tg (.Call (.Name "range" p) [a] [] pos) (tI T W fun E S => (ra E S).bind fun ds S' => match ds with
    | [x] => ofO (rngR [x]) S'
    | _ => .bad) := by
  have hs : starEach [a] X.env = [(false, eval a X.env)] := starEach_plain hp
  refine PI.imp (pi_range1 hg hm ha hs) fun σ H R ⟨E, S, w, eo, so, q⟩ => ⟨E, S, w, eo, so, ?_⟩
  have q := PostI.bind (R' := RVs T) q
  cases z : ra E S with
  | exc c fs S' => rw [z] at q; exact q
  | bad => rw [z] at q; exact q
  | ok l S' =>
    rw [z] at q
    refine fun vs H1 w1 l1 so1 rd => ?_
    obtain ⟨d', S2, w2, l2, so2, rd2, p2⟩ := q vs H1 w1 l1 so1 rd
    split at p2
    · rename_i x
      obtain ⟨v, rfl, h1⟩ := Reps.one_inv rd2
      obtain ⟨src, e1, q⟩ := p2.ofO
      cases x <;> first | (simp [rngR] at e1; done) | skip
      rename_i n
      simp only [Rep] at h1
      subst h1
      simp only [rngR] at e1
      split at e1
      · rename_i hn
        cases e1
        have hl : lim = 1000000 := rfl
        refine ⟨n, rfl, by omega, by omega, q _ H1 w2 (Wd.le.refl w2) so2 ?_⟩
        have := iter_rng (T := T) (w := w2) 0 n.toNat
        simpa using this
      · cases e1
    · exact p2.elim
theorem ds_rng2 {tg a b : Expr} {ra : Env → Store → Res (List D)} {p pos : Pos} (hg : Gl X "range") (hm : X.mg "range" = none) (ha : PA X [a, b] (tA T W ra)) (hp : [a, b].all plainX = true) : PI X tg (.Call (.Name "range" p) [a, b] [] pos) (tI T W fun E S => (ra E S).bind fun ds S' => match ds with
    | [x, y] => ofO (rngR [x, y]) S'
    | _ => .bad) := by
  have hs : starEach [a, b] X.env = [(false, eval a X.env), (false, eval b X.env)] := starEach_plain hp
  have hs2 : starEach [b] X.env = [(false, eval b X.env)] := starEach_plain (by simp only [List.all_cons, List.all_nil, Bool.and_true, Bool.and_eq_true] at hp ⊢; exact hp.2)
  refine PI.imp (pi_range2 hg hm ha hs hs2) fun σ H R ⟨E, S, w, eo, so, q⟩ => ⟨E, S, w, eo, so, ?_⟩
  have q := PostI.bind (R' := RVs T) q
  cases z : ra E S with
  | exc c fs S' => rw [z] at q; exact q
  | bad => rw [z] at q; exact q
  | ok l S' =>
    rw [z] at q
    refine fun vs H1 w1 l1 so1 rd => ?_
    obtain ⟨d', S2, w2, l2, so2, rd2, p2⟩ := q vs H1 w1 l1 so1 rd
    split at p2
    · rename_i x y
      obtain ⟨v, vs, rfl, h1, h2⟩ := rd2.uncons
      obtain ⟨v2, rfl, h3⟩ := Reps.one_inv h2
      obtain ⟨src, e1, q⟩ := p2.ofO
      cases x <;> first | (simp [rngR] at e1; done) | skip
      cases y <;> first | (simp [rngR] at e1; done) | skip
      rename_i i n
      simp only [Rep] at h1 h3
      subst h1; subst h3
      simp only [rngR] at e1
      split at e1
      · rename_i hn
        cases e1
        have a1 := lim_int hn.1
        have a2 := lim_int hn.2
        exact ⟨i, n, rfl, ⟨a1.1, a1.2, a2.1, a2.2⟩, q _ H1 w2 (Wd.le.refl w2) so2 (iter_rng i _)⟩
      · cases e1
    · exact p2.elim
theorem iter_rngc {w : Wd} (lo c : Int) (n : Nat) : IterOk T (Itc lo c n) (.items ((List.range n).map fun (i : Nat) => D.int (lo + (i : Int) * c))) w := by
  refine iter_fix (fun i H hi => (by simpa using hi : i < n)) (fun H => by simp [Itc]) fun i H x H' d w' hd y => ?_
  obtain ⟨rfl, rfl⟩ := y
  refine ⟨rfl, ?_⟩
  rw [List.getElem?_map] at hd
  by_cases hi : i < n
  · rw [List.getElem?_range hi] at hd
    cases hd
    simp only [Rep]
  · rw [List.getElem?_eq_none (by simpa using hi)] at hd; cases hd
theorem ds_rng3 {tg a b c : Expr} {ra : Env → Store → Res (List D)} {p pos : Pos} (hg : Gl X "range") (hm : X.mg "range" = none) (ha : PA X [a, b, c] (tA T W ra)) (hp : [a, b, c].all plainX = true) : PI X tg (.Call (.Name "range" p) [a, b, c] [] pos) (tI T W fun E S => (ra E S).bind fun ds S' => match ds with
    | [x, y, z] => ofO (rngR [x, y, z]) S'
    | _ => .bad) := by
  have hs : starEach [a, b, c] X.env = [(false, eval a X.env), (false, eval b X.env), (false, eval c X.env)] := starEach_plain hp
  simp only [List.all_cons, List.all_nil, Bool.and_true, Bool.and_eq_true] at hp
  have hs2 : starEach [b, c] X.env = [(false, eval b X.env), (false, eval c X.env)] := starEach_plain (by simp [hp.2.1, hp.2.2])
  have hs3 : starEach [c] X.env = [(false, eval c X.env)] := starEach_plain (by simp [hp.2.2])
  refine PI.imp (pi_range3 hg hm ha (hs.trans (by rw [hs2])) (back_plain (by simp [hp.2.1, hp.2.2]))) fun σ H R ⟨E, S, w, eo, so, q⟩ => ⟨E, S, w, eo, so, ?_⟩
  have q := PostI.bind (R' := RVs T) q
  cases z : ra E S with
  | exc c fs S' => rw [z] at q; exact q
  | bad => rw [z] at q; exact q
  | ok l S' =>
    rw [z] at q
    refine fun vs H1 w1 l1 so1 rd => ?_
    obtain ⟨d', S2, w2, l2, so2, rd2, p2⟩ := q vs H1 w1 l1 so1 rd
    split at p2
    · rename_i x y z
      obtain ⟨v, vs, rfl, h1, h2⟩ := rd2.uncons
      obtain ⟨v1, vs, rfl, h3, h4⟩ := h2.uncons
      obtain ⟨v2, rfl, h5⟩ := Reps.one_inv h4
      obtain ⟨src, e1, q⟩ := p2.ofO
      cases x <;> first | (simp [rngR] at e1; done) | skip
      cases y <;> first | (simp [rngR] at e1; done) | skip
      cases z <;> first | (simp [rngR] at e1; done) | skip
      rename_i i n st
      simp only [Rep] at h1 h3 h5
      subst h1; subst h3; subst h5
      simp only [rngR] at e1
      split at e1
      · rename_i hn
        cases e1
        exact ⟨i, n, st, _, rfl, ⟨hn.1, hn.2.1, hn.2.2.1, (Int.toNat_of_nonneg hn.2.2.2).symm⟩, q _ H1 w2 (Wd.le.refl w2) so2 (iter_rngc i st _)⟩
      · cases e1
    · exact p2.elim
end
end DV
end
section
/-! Statements. -/
set_option Elab.async false
set_option linter.all false
set_option maxRecDepth 100000
set_option maxHeartbeats 400000
namespace DV
open PySem L2 PyProof.Rows
section
variable {T : Tab} {X : Cx} {W : WX} {C : Ctx} {k : Nat} {c : SC} {st : Stmt} {sts : List Stmt} {e : Expr} {pos : Pos} {ra : Env → Store → Res D} {rc : Env → Store → Res D} {r u : Env → Store → SRes}
theorem tS.eq {r r' : Env → Store → SRes} (h : ∀ E S, r E S = r' E S) {D : Ends} {σ : L2.St} {H : Hp} (q : tS T W r D σ H) : tS T W r' D σ H := by
  have : r = r' := funext fun E => funext fun S => h E S
  rw [← this]; exact q
theorem dss_nil : PSs X [] (tS T W fun E S => .nx E S) := PSs.imp pss_nil fun D σ H ⟨E, S, w, eo, so, p⟩ => p σ H w (Wd.le.refl w) eo so
theorem dss_cons (h1 : PS X st (tS T W r)) (h2 : PSs X sts (tS T W u)) : PSs X (st :: sts) (tS T W fun E S => (r E S).seq u) := by
  refine PSs.imp (pss_cons h1 h2) fun D σ H ⟨E, S, w, eo, so, p⟩ => ⟨E, S, w, eo, so, ?_⟩
  change PostS T W w D ((r E S).seq u) at p
  cases z : r E S with
  | nx E1 S1 =>
    rw [z] at p
    exact fun σ1 H1 w1 l1 eo1 so1 => ⟨E1, S1, w1, eo1, so1, PostS.mono l1 p⟩
  | ret d S1 => rw [z] at p; exact p
  | brk E1 S1 => rw [z] at p; exact p
  | cnt E1 S1 => rw [z] at p; exact p
  | exc c fs E1 S1 => rw [z] at p; exact p
  | bad => rw [z] at p; exact p
theorem ds_pass : PS X (.Pass pos) (tS T W fun E S => .nx E S) := PS.imp ps_pass fun D σ H ⟨E, S, w, eo, so, p⟩ => p σ H w (Wd.le.refl w) eo so
theorem ds_brk : PS X (.Break pos) (tS T W fun E S => .brk E S) := PS.imp ps_break fun D σ H ⟨E, S, w, eo, so, p⟩ => p σ H w (Wd.le.refl w) eo so
theorem ds_cnt : PS X (.Continue pos) (tS T W fun E S => .cnt E S) := PS.imp ps_continue fun D σ H ⟨E, S, w, eo, so, p⟩ => p σ H w (Wd.le.refl w) eo so
theorem ds_ex (he : PE X e (tE T W ra)) (hs : swapsWith e none pos.line X.env = pure false) : PS X (.Expr e pos) (tS T W fun E S => toS E (ra E S) fun _ S' => .nx E S') := by
  refine PS.imp (ps_expr he hs) fun D σ H h => (toS_step (f := fun E _ S' => .nx E S') h).mono fun v H1 ⟨E, d, S, w, eo, so, rd, p⟩ => p σ H1 w (Wd.le.refl w) eo so
theorem ds_ret (he : PE X e (tE T W ra)) : PS X (.Return (some e) pos) (tS T W fun E S => toS E (ra E S) .ret) := by
  refine PS.imp (ps_ret he) fun D σ H h => (toS_step (f := fun E d S' => .ret d S') h).mono fun v H1 ⟨E, d, S, w, eo, so, rd, p⟩ => p v H1 w (Wd.le.refl w) so rd
theorem ds_if {a b : List Stmt} {q : Expr} (hc : PT X q (tT T W (truR rc))) (ha : PSs X a (tS T W r)) (hb : PSs X b (tS T W u)) : PS X (.If q a b pos) (tS T W fun E S => toS E (rc E S) fun x S' => match truD S' x with
    | some true => r E S'
    | some false => u E S'
    | none => .bad) := by
  refine PS.imp (ps_if hc ha hb) fun D σ H ⟨E, S, w, eo, so, p⟩ => ⟨E, S, w, eo, so, ?_⟩
  change PostS T W w D (toS E (rc E S) fun x S' => match truD S' x with
    | some true => r E S'
    | some false => u E S'
    | none => .bad) at p
  unfold truR
  cases z : rc E S with
  | exc c fs S' =>
    rw [z] at p
    exact fun cls dx H1 w1 l1 so1 xr => p cls dx σ H1 w1 l1 (eo.mono l1) so1 xr
  | bad => rw [z] at p; exact p
  | ok d S' =>
    rw [z] at p
    replace p : PostS T W w D (match truD S' d with
      | some true => r E S'
      | some false => u E S'
      | none => .bad) := p
    show Post T RB W σ w _ (ofO (truD S' d) S')
    cases z2 : truD S' d with
    | none => rw [z2] at p; exact p.elim
    | some b =>
      rw [z2] at p
      rintro b' H1 w1 l1 so1 rfl
      cases b' with
      | true => exact ⟨E, S', w1, eo.mono l1, so1, PostS.mono l1 p⟩
      | false => exact ⟨E, S', w1, eo.mono l1, so1, PostS.mono l1 p⟩
theorem while_ok {rt : Env → Store → Res Bool} {D : Ends} {σ0 : L2.St} {H0 : Hp} (m0 : Nat) (h : tS T W (fun E S => whileR rt r m0 E S) D σ0 H0) : tWhile (tT T W rt) (tS T W r) D σ0 H0 := by
  refine ⟨fun m σ H => tS T W (fun E S => whileR rt r m E S) D σ H, ⟨m0, h⟩, fun m σ H ⟨E, S, w, eo, so, p⟩ => ?_⟩
  cases m with
  | zero => exact p.elim
  | succ m =>
    refine ⟨E, S, w, eo, so, ?_⟩
    replace p : PostS T W w D (match rt E S with
      | .ok true S1 => match r E S1 with
        | .nx E2 S2 => whileR rt r m E2 S2
        | .cnt E2 S2 => whileR rt r m E2 S2
        | .brk E2 S2 => .nx E2 S2
        | q => q
      | .ok false S1 => .nx E S1
      | .exc c fs S1 => .exc c fs E S1
      | .bad => .bad) := p
    cases z : rt E S with
    | exc c fs S' =>
      rw [z] at p
      exact fun cls dx H1 w1 l1 so1 xr => p cls dx σ H1 w1 l1 (eo.mono l1) so1 xr
    | bad => rw [z] at p; exact p
    | ok b S1 =>
      rw [z] at p
      rintro b' H1 w1 l1 so1 rfl
      cases b' with
      | false => exact p σ H1 w1 l1 (eo.mono l1) so1
      | true =>
        refine ⟨fun σ H => tS T W (fun E S => whileR rt r m E S) D σ H, fun σ' H' q => ⟨m, Nat.lt_succ_self m, q⟩, E, S1, w1, eo.mono l1, so1, ?_⟩
        have p4 := PostS.mono l1 p
        simp only at p4
        cases z2 : r E S1 with
        | nx E2 S2 => rw [z2] at p4; exact fun σ5 H5 w5 l5 eo5 so5 => ⟨E2, S2, w5, eo5, so5, PostS.mono l5 p4⟩
        | cnt E2 S2 => rw [z2] at p4; exact fun σ5 H5 w5 l5 eo5 so5 => ⟨E2, S2, w5, eo5, so5, PostS.mono l5 p4⟩
        | brk E2 S2 => rw [z2] at p4; exact p4
        | ret d2 S2 => rw [z2] at p4; exact p4
        | exc c fs E2 S2 => rw [z2] at p4; exact p4
        | bad => rw [z2] at p4; exact p4
theorem ds_while {q : Expr} {body : List Stmt} {m0 : Nat} (hp : PassesOwn (model X.prog X.w) X.A X.env X.xe) (hc : PT X q (tT T W (truR rc))) (hb : PSs X body (tS T W r)) : PS X (.While q body [] pos) (tS T W fun E S => whileR (truR rc) r m0 E S) :=
  PS.imp (ps_while hp hc hb) fun D σ H h => while_ok m0 h
/-! stores -/
/-- what a store leaves -/
def endS (Q : L2.St → Hp → Prop) : Ends := { nx := Q, rt := fun _ _ => False, bk := fun _ _ => False, ct := fun _ _ => False }
def tgS (T : Tab) (W : WX) (f : D → Env → Store → SRes) : TG := fun v σ H Q => ∃ E S w d, EnvOk T w σ E ∧ StoreOk T S w H ∧ Rep T w d v ∧ PostS T W w (endS Q) (f d E S)
def tgsS (T : Tab) (W : WX) (f : List D → Env → Store → SRes) : TGs := fun vs σ H Q => ∃ E S w ds, EnvOk T w σ E ∧ StoreOk T S w H ∧ Reps T w ds vs ∧ PostS T W w (endS Q) (f ds E S)
/-- no store ends otherwise -/
def plainS : SRes → Bool
  | .nx _ _ => true
  | .exc _ _ _ _ => true
  | .bad => true
  | _ => false
theorem endS_of {D : Ends} {w : Wd} {q : SRes} (h : plainS q = true) (p : PostS T W w D q) : PostS T W w (endS D.nx) q := by
  cases q <;> first | exact p | cases h
theorem ds_asg {tg : Expr} {f : D → Env → Store → SRes} (hf : ∀ d E S, plainS (f d E S) = true) (he : PE X e (tE T W ra)) (hg : PG X tg (tgS T W f)) (hs : swapsWithSole [tg] e pos.line X.env = pure false) (hw : swappedStores [tg] e X.env = pure none) (h1 : (assignEach [tg] X.env).map (·.2) = [assign tg X.env]) :
    PS X (.Assign [tg] e pos) (tS T W fun E S => toS E (ra E S) fun d S' => f d E S') := by
  refine PS.imp (ps_asg he hg hs hw h1) fun D σ H h => (toS_step (f := fun E d S' => f d E S') h).mono fun v H1 ⟨E, d, S, w, eo, so, rd, p⟩ => ⟨E, S, w, d, eo, so, rd, endS_of (hf d E S) p⟩
theorem dg_name {i : Nat} {x : Str} (hx : Hx X c) (h : nameOk c i x = true) : PG X (.Name x pos) (tgS T W (nmS i)) := by
  simp only [nameOk, Bool.and_eq_true, Bool.or_eq_true, beq_iff_eq] at h
  obtain ⟨⟨h1, h2⟩, h3⟩ := h
  refine PG.imp (pg_name hx.nd (by rw [hx.N]; exact h1) (by rw [hx.sc]; exact loc_of h2) (h3.elim (fun h => .inl (hx.fn h x)) fun h => .inr (by rw [hx.sc]; exact h))) fun v σ H Q ⟨E, S, w, d, eo, so, rd, p⟩ => ?_
  unfold nmS at p
  split at p
  · exact p _ _ w (Wd.le.refl w) (eo.set rd) so
  · exact p.elim
theorem dg_tup {es : List Expr} {kk n : Nat} {f : List D → Env → Store → SRes} (hK : X.K = T.K) (hc : X.calm = true) (hp : es.all plainX = true) (hn : es.length = n) (h : PGs X es (tgsS T W f)) : PG X (.Tuple es kk pos) (tgS T W (tpS n f)) := by
  have hn' : (assignEach es X.env).length = n := by rw [assignEach_plain hp]; simp [hn]
  have hst : (assignEach es X.env).findIdx? (·.1) = none := by rw [assignEach_plain hp]; simp [List.findIdx?_eq_none_iff]
  refine ⟨fun pins s σ H v u Q I r ⟨E, S, w, d, eo, so, rd, p⟩ => ?_⟩
  unfold tpS at p
  split at p
  · rename_i ds hd
    split at p
    · rename_i hl
      obtain ⟨a, xs, rfl, h1, h2⟩ := any_rep so rd hd
      have hlen : xs.length = n := by rw [h2.length]; exact beq_iff_eq.mp hl
      have fin : tgsS T W f xs σ H Q := ⟨E, S, w, ds, eo, so, h2, p⟩
      rw [← hK] at h1
      rcases h1 with h1 | h1
      · exact (pg_lst hc h hn' hst).run pins s σ H _ u Q I r ⟨a, xs, rfl, h1, hlen, fin⟩
      · exact (pg_tup hc h hn' hst).run pins s σ H _ u Q I r ⟨a, xs, rfl, h1, hlen, fin⟩
    · exact p.elim
  · exact p.elim
def nilS : List D → Env → Store → SRes
  | [], E, S => .nx E S
  | _, _, _ => .bad
def consS (f : D → Env → Store → SRes) (g : List D → Env → Store → SRes) : List D → Env → Store → SRes
  | d :: ds, E, S => (f d E S).seq fun E' S' => g ds E' S'
  | [], _, _ => .bad
theorem dgs_nil : PGs X [] (tgsS T W nilS) := PGs.imp pgs_nil fun vs σ H Q ⟨E, S, w, ds, eo, so, rd, p⟩ => by
  cases ds with
  | nil => simp only [Reps] at rd; exact ⟨rd, p _ _ w (Wd.le.refl w) eo so⟩
  | cons d ds => exact p.elim
theorem dgs_cons {es : List Expr} {f : D → Env → Store → SRes} {g : List D → Env → Store → SRes} (hf : ∀ d E S, plainS (f d E S) = true) (hp : plainX e = true) (h1 : PG X e (tgS T W f)) (h2 : PGs X es (tgsS T W g)) : PGs X (e :: es) (tgsS T W (consS f g)) := by
  refine PGs.imp (pgs_cons h1 h2 (by cases e <;> first | (simp [plainX] at hp; done) | simp only [assignEach, List.map_cons])) fun vs σ H Q ⟨E, S, w, ds, eo, so, rd, p⟩ => ?_
  cases ds with
  | nil => exact p.elim
  | cons d ds =>
    obtain ⟨v, r, rfl, r1, r2⟩ := rd.uncons
    refine ⟨v, r, rfl, E, S, w, d, eo, so, r1, ?_⟩
    replace p : PostS T W w (endS Q) ((f d E S).seq fun E' S' => g ds E' S') := p
    have hq := hf d E S
    cases z : f d E S with
    | nx E1 S1 => rw [z] at p; exact fun σ1 H1 w1 l1 eo1 so1 => ⟨E1, S1, w1, ds, eo1, so1, r2.mono l1, PostS.mono l1 p⟩
    | exc c fs E1 S1 => rw [z] at p; exact p
    | bad => rw [z] at p; exact p
    | ret d2 S2 => rw [z] at hq; cases hq
    | brk d2 S2 => rw [z] at hq; cases hq
    | cnt d2 S2 => rw [z] at hq; cases hq
end
end DV
end
section
/-! Stores to items, to fields, of pairs; the new list of a comprehension stored at once. -/
set_option Elab.async false
set_option linter.all false
set_option maxRecDepth 100000
set_option maxHeartbeats 400000
namespace DV
open PySem L2 PyProof.Rows
section
variable {T : Tab} {w : Wd}
theorem any_same {k : D} {hk : Key} (e : keyD k = some hk) : ∀ {kvs : List (D × D)} {hs : List (Key × V)}, RepK T w kvs hs → (kvs.any fun p => p.1.same k) = (hs.any fun kv => decide (kv.1 = hk))
  | [], _, r => by simp only [RepK] at r; subst r; rfl
  | (j, a) :: kvs, _, r => by
    simp only [RepK] at r
    obtain ⟨hj, x, q, rfl, e1, r1, r2⟩ := r
    rw [List.any_cons, List.any_cons, any_same e r2]
    have s := same_key e1 e
    have : j.same k = decide (hj = hk) := by
      by_cases z : hj = hk
      · rw [s.mpr z, decide_eq_true z]
      · rw [decide_eq_false z]; exact Bool.eq_false_iff.mpr fun h => z (s.mp h)
    show (j.same k || _) = (decide (hj = hk) || _)
    rw [this]
theorem map_same {k d : D} {v : V} {hk : Key} (e : keyD k = some hk) (rd : Rep T w d v) : ∀ {kvs : List (D × D)} {hs : List (Key × V)}, RepK T w kvs hs → RepK T w (kvs.map fun p => if p.1.same k then (p.1, d) else p) (hs.map fun kv => if kv.1 = hk then (kv.1, v) else kv)
  | [], _, r => by simp only [RepK] at r; subst r; simp only [List.map_nil, RepK]
  | (j, a) :: kvs, _, r => by
    simp only [RepK] at r
    obtain ⟨hj, x, q, rfl, e1, r1, r2⟩ := r
    rw [List.map_cons, List.map_cons]
    have s := same_key e1 e
    by_cases z : hj = hk
    · rw [if_pos (s.mpr z), if_pos z]
      simp only [RepK]
      exact ⟨hj, v, _, rfl, e1, rd, map_same e rd r2⟩
    · rw [if_neg (fun h => z (s.mp h)), if_neg z]
      simp only [RepK]
      exact ⟨hj, x, _, rfl, e1, r1, map_same e rd r2⟩
theorem repK_snoc {k d : D} {v : V} {hk : Key} (e : keyD k = some hk) (rd : Rep T w d v) : ∀ {kvs : List (D × D)} {hs : List (Key × V)}, RepK T w kvs hs → RepK T w (kvs ++ [(k, d)]) (hs ++ [(hk, v)])
  | [], _, r => by simp only [RepK] at r; subst r; simp only [List.nil_append, RepK]; exact ⟨hk, v, [], rfl, e, rd, rfl⟩
  | (j, a) :: kvs, _, r => by
    simp only [RepK] at r
    obtain ⟨hj, x, q, rfl, e1, r1, r2⟩ := r
    simp only [List.cons_append, RepK]
    exact ⟨hj, x, _, rfl, e1, r1, repK_snoc e rd r2⟩
theorem repK_put {k d : D} {v : V} {hk : Key} (e : keyD k = some hk) (rd : Rep T w d v) {kvs : List (D × D)} {hs : List (Key × V)} (r : RepK T w kvs hs) : RepK T w (dput k d kvs) (putK hs hk v) := by
  unfold dput putK
  rw [any_same e r]
  split
  · exact map_same e rd r
  · exact repK_snoc e rd r
theorem any_sameT {k : D} {hk : List Key} (e : keyT k = some hk) : ∀ {kvs : List (D × D)} {hs : List (List Key × V)}, RepT T w kvs hs → (kvs.any fun p => p.1.same k) = (hs.any fun kv => decide (kv.1 = hk))
  | [], _, r => by simp only [RepT] at r; subst r; rfl
  | (j, a) :: kvs, _, r => by
    simp only [RepT] at r
    obtain ⟨hj, x, q, rfl, e1, r1, r2⟩ := r
    rw [List.any_cons, List.any_cons, any_sameT e r2]
    have s := same_keyT e1 e
    have : j.same k = decide (hj = hk) := by
      by_cases z : hj = hk
      · rw [s.mpr z, decide_eq_true z]
      · rw [decide_eq_false z]; exact Bool.eq_false_iff.mpr fun h => z (s.mp h)
    show (j.same k || _) = (decide (hj = hk) || _)
    rw [this]
theorem map_sameT {k d : D} {v : V} {hk : List Key} (e : keyT k = some hk) (rd : Rep T w d v) : ∀ {kvs : List (D × D)} {hs : List (List Key × V)}, RepT T w kvs hs → RepT T w (kvs.map fun p => if p.1.same k then (p.1, d) else p) (hs.map fun kv => if kv.1 = hk then (kv.1, v) else kv)
  | [], _, r => by simp only [RepT] at r; subst r; simp only [List.map_nil, RepT]
  | (j, a) :: kvs, _, r => by
    simp only [RepT] at r
    obtain ⟨hj, x, q, rfl, e1, r1, r2⟩ := r
    rw [List.map_cons, List.map_cons]
    have s := same_keyT e1 e
    by_cases z : hj = hk
    · rw [if_pos (s.mpr z), if_pos z]
      simp only [RepT]
      exact ⟨hj, v, _, rfl, e1, rd, map_sameT e rd r2⟩
    · rw [if_neg (fun h => z (s.mp h)), if_neg z]
      simp only [RepT]
      exact ⟨hj, x, _, rfl, e1, r1, map_sameT e rd r2⟩
theorem repT_snoc {k d : D} {v : V} {hk : List Key} (e : keyT k = some hk) (rd : Rep T w d v) : ∀ {kvs : List (D × D)} {hs : List (List Key × V)}, RepT T w kvs hs → RepT T w (kvs ++ [(k, d)]) (hs ++ [(hk, v)])
  | [], _, r => by simp only [RepT] at r; subst r; simp only [List.nil_append, RepT]; exact ⟨hk, v, [], rfl, e, rd, rfl⟩
  | (j, a) :: kvs, _, r => by
    simp only [RepT] at r
    obtain ⟨hj, x, q, rfl, e1, r1, r2⟩ := r
    simp only [List.cons_append, RepT]
    exact ⟨hj, x, _, rfl, e1, r1, repT_snoc e rd r2⟩
theorem repT_put {k d : D} {v : V} {hk : List Key} (e : keyT k = some hk) (rd : Rep T w d v) {kvs : List (D × D)} {hs : List (List Key × V)} (r : RepT T w kvs hs) : RepT T w (dput k d kvs) (putK hs hk v) := by
  unfold dput putK
  rw [any_sameT e r]
  split
  · exact map_sameT e rd r
  · exact repT_snoc e rd r
theorem repK_len : ∀ {kvs : List (D × D)} {hs : List (Key × V)}, RepK T w kvs hs → hs.length = kvs.length
  | [], _, r => by simp only [RepK] at r; subst r; rfl
  | (j, a) :: kvs, _, r => by simp only [RepK] at r; obtain ⟨_, _, _, rfl, _, _, r⟩ := r; simp [repK_len r]
theorem repT_len : ∀ {kvs : List (D × D)} {hs : List (List Key × V)}, RepT T w kvs hs → hs.length = kvs.length
  | [], _, r => by simp only [RepT] at r; subst r; rfl
  | (j, a) :: kvs, _, r => by simp only [RepT] at r; obtain ⟨_, _, _, rfl, _, _, r⟩ := r; simp [repT_len r]
theorem repF_len : ∀ {fs : List (Nat × D)} {hs : List (Str × V)}, RepF T w fs hs → hs.length = fs.length
  | [], _, r => by simp only [RepF] at r; subst r; rfl
  | (j, a) :: kvs, _, r => by simp only [RepF] at r; obtain ⟨_, _, rfl, _, r⟩ := r; simp [repF_len r]
theorem repF_put (inj : ∀ f g, T.nm f = T.nm g → f = g) {f : Nat} {d : D} {v : V} (rd : Rep T w d v) : ∀ {fs : List (Nat × D)} {hs : List (Str × V)}, RepF T w fs hs → RepF T w (putF f d fs) (L2.putF (T.nm f) v hs)
  | [], _, r => by simp only [RepF] at r; subst r; simp only [putF, L2.putF, RepF]; exact ⟨v, [], rfl, rd, rfl⟩
  | (g, a) :: fs, _, r => by
    simp only [RepF] at r
    obtain ⟨x, q, rfl, r1, r2⟩ := r
    by_cases e : g = f
    · subst e
      simp only [putF, L2.putF, beq_self_eq_true, if_true, RepF]
      exact ⟨v, q, rfl, rd, r2⟩
    · have e1 : (g == f) = false := by simpa using e
      have e2 : (T.nm g == T.nm f) = false := by
        cases z : (T.nm g == T.nm f) with
        | false => rfl
        | true => exact absurd (inj _ _ (beq_iff_eq.mp z)) e
      have e3 : ¬ T.nm g = T.nm f := fun z => e (inj _ _ z)
      simp only [putF, L2.putF, e1, e2, e3, Bool.false_eq_true, if_false, RepF]
      exact ⟨x, _, rfl, r1, repF_put inj rd r2⟩
end
section
variable {T : Tab} {X : Cx} {W : WX} {C : Ctx} {k : Nat} {c : SC} {o i a b e : Expr} {pos : Pos} {ra rb ro ri rv : Env → Store → Res D}
theorem Post.imp {α β : Type} {R : Wd → α → β → Prop} {σ : L2.St} {w : Wd} {Q Q' : β → Hp → Prop} {r : Res α} (h : Post T R W σ w Q r) (i : ∀ v H, Q v H → Q' v H) : Post T R W σ w Q' r := by
  cases r with
  | ok d S => exact fun v H w1 l so rd => i _ _ (h v H w1 l so rd)
  | exc c fs S => exact h
  | bad => exact h
theorem toS_post {f : D → Store → SRes} {D : Ends} {σ : L2.St} {E : Env} {w : Wd} {r : Res DV.D} (eo : EnvOk T w σ E) (p : PostS T W w D (toS E r f)) :
    Post T (RV T) W σ w (fun v H1 => ∃ d S w1, Wd.le w w1 ∧ EnvOk T w1 σ E ∧ StoreOk T S w1 H1 ∧ Rep T w1 d v ∧ PostS T W w1 D (f d S)) r := by
  cases r with
  | ok d S' => exact fun v H1 w1 l1 so1 rd => ⟨d, S', w1, l1, eo.mono l1, so1, rd, PostS.mono l1 p⟩
  | exc c fs S' => exact fun cls dx H1 w1 l1 so1 xr => p cls dx σ H1 w1 l1 (eo.mono l1) so1 xr
  | bad => exact p
theorem runS {f : D → Store → SRes} {D : Ends} (ha : PE X a (tE T W ra)) {pins : List (Addr × Obj)} {s : Shared} {σ : L2.St} {H : Hp} {E : Env} {S : Store} {w : Wd} (I : Inv X pins σ H s) (eo : EnvOk T w σ E) (so : StoreOk T S w H) (p : PostS T W w D (toS E (ra E S) f)) :
    wpAny (model X.prog X.w) X.A (eval a X.env) (fun u s' => ∃ v H' d S' w', Inv X pins σ H' s' ∧ RelV v u ∧ Wd.le w w' ∧ StoreOk T S' w' H' ∧ Rep T w' d v ∧ EnvOk T w' σ E ∧ PostS T W w' D (f d S')) X.xe s := by
  refine thn (ha.run pins s σ H _ I ⟨E, S, w, eo, so, toS_post eo p⟩) fun u s' ⟨v, H', I', rv, d, S', w', l, eo', so', rd, p'⟩ => ?_
  exact ⟨v, H', d, S', w', I', rv, l, so', rd, eo', p'⟩
theorem ixS_run (hu : X.A.units + 1 < cLine) {pins : List (Addr × Obj)} {s : Shared} {σ : L2.St} {H : Hp} {Q : L2.St → Hp → Prop} {E : Env} {S : Store} {w : Wd} {x y z : V} {xv yv zv : Value} {dx dy dz : D} (I : Inv X pins σ H s) (rx : RelV x xv) (ry : RelV y yv) (rz : RelV z zv) (eo : EnvOk T w σ E) (so : StoreOk T S w H)
    (hx : Rep T w dx x) (hy : Rep T w dy y) (hz : Rep T w dz z) (p : PostS T W w (endS Q) (ixS dx dy dz E S)) : wpAny (model X.prog X.w) X.A (setItem xv yv zv) (fun _ s' => ∃ H', Inv X pins σ H' s' ∧ Q σ H') X.xe s := by
  cases dx with
  | loc n =>
    simp only [ixS] at p
    split at p
    · rename_i ds hds
      cases dy with
      | int j =>
        simp only at p
        split at p
        · rename_i q hq
          obtain ⟨a, rfl, hm, xs, h1, r1⟩ := loc_rep so hx hds
          simp only [Rep] at hy
          subst hy
          refine set_list pins s σ H _ _ _ xv yv zv _ I rx ry rz ⟨a, xs, j, q, rfl, rfl, h1, by rw [r1.length]; exact hq, ?_⟩
          exact p _ _ w (Wd.le.refl w) eo (so.put hm ⟨_, upd_same, r1.set q hz⟩)
        · exact p.elim
      | _ => exact p.elim
    · rename_i t kvs hds
      split at p
      · rename_i hk
        simp only [Bool.and_eq_true, decide_eq_true_eq] at hk
        obtain ⟨a, rfl, hm, hc⟩ := loc_rep so hx hds
        cases rx
        rcases hc with ⟨rfl, hs, h1, r1⟩ | ⟨rfl, hs, h1, r1⟩
        · cases dy with
          | tup ds =>
            have hk' : ds.all isKey0 = true := by simpa only [isKey, Bool.true_and] using hk.1.1
            obtain ⟨b, xs, rfl, hb, rs⟩ := tup_rep' so hy
            obtain ⟨ks, e1, rfl⟩ := keys_rep rs hk'
            refine d_setItem hu I (.inr ⟨hs, ks, b, h1, rfl, hb, lim_lt (by rw [repT_len r1]; exact hk.2), rfl⟩) ry rz fun s' I' => ⟨_, I', ?_⟩
            exact p _ _ w (Wd.le.refl w) eo (so.put hm (.inl ⟨rfl, _, upd_same, repT_put (k := .tup ds) e1 hz r1⟩))
          | _ => simp [isKey, isKey0] at hk
        · have hk' : isKey0 dy = true := by cases dy <;> simpa [isKey, isKey0] using hk.1.1
          obtain ⟨kk, e1, rfl⟩ := key_rep hy hk'
          refine d_setItem hu I (.inl ⟨hs, kk, h1, rfl, lim_lt (by rw [repK_len r1]; exact hk.2), rfl⟩) ry rz fun s' I' => ⟨_, I', ?_⟩
          exact p _ _ w (Wd.le.refl w) eo (so.put hm (.inr ⟨rfl, _, upd_same, repK_put e1 hz r1⟩))
      · exact p.elim
    · exact p.elim
  | _ => exact p.elim
theorem dg_sub (hu : X.A.units + 1 < cLine) (ho : PE X o (tE T W ro)) (hi : PE X i (tE T W ri)) : PG X (.Subscript o i pos) (tgS T W fun d E S => toS E (ro E S) fun x S2 => toS E (ri E S2) fun k S3 => ixS x k d E S3) := by
  refine ⟨fun pins s σ H v u Q I r ⟨E, S, w, d, eo, so, rd, p⟩ => ?_⟩
  rw [arm_assign_Subscript]
  refine wpAny_bind (wpAny_holding (thn (runS ho I eo so p) fun ov s1 ⟨x, H1, dx, S1, w1, I1, r1, l1, so1, rd1, eo1, p1⟩ => ?_))
  refine wpAny_bind (wpAny_holding (thn (runS hi I1 eo1 so1 p1) fun iv s2 ⟨y, H2, dy, S2, w2, I2, r2, l2, so2, rd2, eo2, p2⟩ => ?_))
  refine wpAny_bind (wpAny_standAt (wpAny_bind (wpAny_holding (thn (ixS_run hu I2 r1 r2 r eo2 so2 (rd1.mono l2) rd2 (rd.mono (l1.trans l2)) p2) fun _ s3 ⟨H3, I3, q3⟩ => ?_))))
  exact wpAny_release ⟨σ, H3, I3, q3⟩
theorem ds_fld {f : Nat} {x : Str} {pos' : Pos} (inj : ∀ f g, T.nm f = T.nm g → f = g) (hx : T.nm f = x) (hc : ∀ c C, T.ca c = some C → Cls X.K C ∧ NoAttr X.K C x) (ho : PE X o (tE T W ro)) (hv : PE X e (tE T W rv)) (hs : swapsWith e (some (.Attribute o x pos')) pos.line X.env = pure false) :
    PS X (.Assign [.Attribute o x pos'] e pos) (tS T W fun E S => toS E (rv E S) fun d S2 => toS E (ro E S2) fun y S3 => fdS f y d E S3) := by
  refine PS.imp (ps_fld ho hv hs) fun D σ H h => (toS_step (f := fun E d S2 => toS E (ro E S2) fun y S3 => fdS f y d E S3) h).mono fun v H1 ⟨E, d, S, w, eo, so, rd, p⟩ => ?_
  refine ⟨E, S, w, eo, so, ?_⟩
  refine Post.imp (toS_post eo p) fun v1 H2 ⟨dy, S2, w2, l2, eo2, so2, ry, p2⟩ => ?_
  unfold fdS at p2
  split at p2
  · rename_i n
    split at p2
    · rename_i c fs hn
      split at p2
      · rename_i hl
        obtain ⟨a, rfl, hm, C, dx, hs, hca, h1, r1⟩ := loc_rep so2 ry hn
        refine ⟨a, C, dx, hs, rfl, h1, (hc c C hca).1, (hc c C hca).2, by rw [repF_len r1]; exact hl, ?_⟩
        rw [← hx]
        exact p2 _ _ w2 (Wd.le.refl w2) eo2 (so2.put hm ⟨C, dx, _, hca, upd_same, repF_put inj (rd.mono l2) r1⟩)
      · exact p2.elim
    · exact p2.elim
  · exact p2.elim
end
end DV
end
section
/-! Pairs and triples stored. -/
set_option Elab.async false
set_option linter.all false
set_option maxRecDepth 100000
set_option maxHeartbeats 400000
namespace DV
open PySem L2 PyProof.Rows
def swNames (sc : Scope) (ts : List Expr) : List Str := ts.filterMap fun
    | .Name id pos => if sc.names.lookup id == some .local && pos.line == (ts.head?.map (·.pos.line)).getD 0 then some id else none
    | _ => none
def swYes (sc : Scope) (ts vs : List Expr) : Bool :=
  (ts.length == 2 || ts.length == 3) && vs.length == ts.length && vs.all plainX && (swNames sc ts).length == ts.length && (swNames sc ts).eraseDups.length == (swNames sc ts).length && !vs.all (foldedForSure 8) && !vs.all (constantsAlone 8)
theorem star_plain (vs : List Expr) : (vs.any fun | .Starred .. => true | _ => false) = !vs.all plainX := by
  induction vs with
  | nil => rfl
  | cons v vs ih =>
    rw [List.any_cons, List.all_cons, ih]
    cases v <;> simp [plainX]
theorem swap_yes {env : PySem.Env} {sc : Scope} {ts vs : List Expr} {k1 k2 : Nat} {p1 p2 : Pos} (hs : env.scope = sc) (hb : env.blockKind = .function) (h : swYes sc ts vs = true) : swappedStores [.Tuple ts k1 p1] (.Tuple vs k2 p2) env = pure (some (swNames sc ts)) := by
  unfold swYes at h
  simp only [Bool.and_eq_true, beq_iff_eq, Bool.not_eq_true'] at h
  obtain ⟨⟨⟨⟨⟨⟨h1, h2⟩, h3⟩, h4⟩, h5⟩, h6⟩, h7⟩ := h
  have en : (ts.filterMap fun
    | .Name id pos => if env.kindOf id == some .local && pos.line == (ts.head?.map (·.pos.line)).getD 0 then some id else none
    | _ => none) = swNames sc ts := by
    unfold swNames
    congr 1
    funext e
    cases e <;> first | rfl | (simp only [PySem.Env.kindOf, hs])
  unfold swappedStores
  simp only [pure_bind, hb, h1, h2]
  refine (if_neg (by simp)).trans ?_
  have h3' := star_plain vs
  rw [h3] at h3'
  refine (if_neg (fun h => by have h := h; erw [h3'] at h; cases h)).trans ?_
  have hl := (congrArg List.length en).trans h4
  have hd := (congrArg (fun l : List Str => l.eraseDups.length) en).trans (h5.trans (congrArg List.length en).symm)
  refine (if_neg (fun h => by
    rcases Bool.or_eq_true_iff.mp h with h | h
    · exact absurd hl (bne_iff_ne.mp h)
    · exact absurd hd (bne_iff_ne.mp h))).trans ?_
  refine (if_neg (by rw [h6]; exact Bool.false_ne_true)).trans ?_
  refine (if_neg (by rw [h7]; exact Bool.false_ne_true)).trans ?_
  exact congrArg (fun l => (pure (some l) : Sem (Option (List Str)))) en
/-- stores in order -/
def swNo (sc : Scope) (ts vs : List Expr) : Bool := !(ts.length == 2 || ts.length == 3) || vs.length != ts.length || (swNames sc ts).length != ts.length
theorem swap_no {env : PySem.Env} {sc : Scope} {ts vs : List Expr} {k1 k2 : Nat} {p1 p2 : Pos} (hs : env.scope = sc) (h : swNo sc ts vs = true) : swappedStores [.Tuple ts k1 p1] (.Tuple vs k2 p2) env = pure none := by
  unfold swNo at h
  have en : (ts.filterMap fun
    | .Name id pos => if env.kindOf id == some .local && pos.line == (ts.head?.map (·.pos.line)).getD 0 then some id else none
    | _ => none) = swNames sc ts := by
    unfold swNames
    congr 1
    funext e
    cases e <;> first | rfl | (simp only [PySem.Env.kindOf, hs])
  unfold swappedStores
  simp only [pure_bind]
  by_cases h1 : (!(ts.length == 2 || ts.length == 3) || vs.length != ts.length || env.blockKind != .function) = true
  · exact if_pos h1
  · refine (if_neg h1).trans ?_
    have hn : ((swNames sc ts).length != ts.length) = true := by
      simp only [Bool.or_eq_true, not_or] at h h1
      rcases h with (h | h) | h
      · exact absurd h h1.1.1
      · exact absurd h h1.1.2
      · exact h
    split
    · rfl
    · refine if_pos ?_
      refine Bool.or_eq_true_iff.mpr (.inl ?_)
      have hl := congrArg List.length en
      rw [bne_iff_ne] at hn ⊢
      exact fun z => hn (hl.symm.trans z)
theorem swap_val {env : PySem.Env} {t e : Expr} (h : (match e with | .Tuple _ _ _ => false | _ => true) = true) : swappedStores [t] e env = pure none := by
  cases e <;> first | (cases h; done) | skip
  all_goals (unfold swappedStores; cases t <;> rfl)
theorem swap_tgt {env : PySem.Env} {t e : Expr} (h : (match t with | .Tuple _ _ _ => false | .List _ _ => false | _ => true) = true) : swappedStores [t] e env = pure none := by
  cases t <;> first | (cases h; done) | skip
  all_goals (unfold swappedStores; cases e <;> rfl)
section
variable {T : Tab} {X : Cx} {W : WX} {c : SC} {a b d : Expr} {rs : Env → Store → Res (List D)} {x y z : Str} {i j l : Nat} {px py pz pt pt2 pos : Pos} {kt k2 : Nat}
def tupR (rs : Env → Store → Res (List D)) : Env → Store → Res D := fun E S => (rs E S).bind fun ds S' => if okLen ds then .ok (.tup ds) S' else .bad
theorem tup_post {f : D → Store → SRes} {D : Ends} {σ : L2.St} {E : Env} {w : Wd} {S : Store} (eo : EnvOk T w σ E) (p : PostS T W w D (toS E (tupR rs E S) f)) :
    Post T (RVs T) W σ w (fun vs H1 => ∃ ds S w1, Wd.le w w1 ∧ EnvOk T w1 σ E ∧ StoreOk T S w1 H1 ∧ Reps T w1 ds vs ∧ PostS T W w1 D (f (.tup ds) S)) (rs E S) := by
  unfold tupR at p
  cases z : rs E S with
  | ok ds S' =>
    rw [z] at p
    refine fun v H1 w1 l1 so1 rd => ⟨ds, S', w1, l1, eo.mono l1, so1, rd, PostS.mono l1 ?_⟩
    replace p : PostS T W w D (toS E (if okLen ds then .ok (.tup ds) S' else .bad) f) := p
    split at p
    · exact p
    · exact p.elim
  | exc c fs S' =>
    rw [z] at p
    exact fun cls dx H1 w1 l1 so1 xr => p cls dx σ H1 w1 l1 (eo.mono l1) so1 xr
  | bad => rw [z] at p; exact p
theorem seq_nm {D : Ends} {w : Wd} {d : DV.D} {E : Env} {S : Store} {f : Env → Store → SRes} (p : PostS T W w D ((nmS i d E S).seq f)) : PostS T W w D (f (E.set i (some d)) S) := by
  unfold nmS at p
  by_cases h : i < E.length
  · rw [if_pos h] at p; exact p
  · rw [if_neg h] at p; exact p.elim
theorem ds_par2 (hx : Hx X c) (hc : c.calm = true) (hk : X.env.blockKind = .function) (hi : nameOk c i x = true) (hj : nameOk c j y = true) (lx : c.sc.names.lookup x = some .local) (ly : c.sc.names.lookup y = some .local) (hij : i ≠ j) (ha : PA X [a, b] (tA T W rs)) (hw : swYes c.sc [.Name x px, .Name y py] [a, b] = true) (hn : swNames c.sc [.Name x px, .Name y py] = [x, y]) :
    PS X (.Assign [.Tuple [.Name x px, .Name y py] kt pt] (.Tuple [a, b] k2 pt2) pos) (tS T W fun E S => toS E (tupR rs E S) fun d S' => tpS 2 (consS (nmS i) (consS (nmS j) nilS)) d E S') := by
  simp only [nameOk, Bool.and_eq_true, beq_iff_eq] at hi hj
  have hs := swap_yes (k1 := kt) (k2 := k2) (p1 := pt) (p2 := pt2) hx.sc hk hw
  rw [hn] at hs
  refine PS.imp (ps_par (hx.calm hc) hx.nd (by rw [hx.N]; exact hi.1.1) (by rw [hx.N]; exact hj.1.1) hij (by rw [hx.sc]; exact lx) (by rw [hx.sc]; exact ly) ha hs rfl) fun D σ H ⟨E, S, w, eo, so, p⟩ => ⟨E, S, w, eo, so, Post.imp (tup_post eo p) fun vs H1 ⟨ds, S1, w1, l1, eo1, so1, rd, p1⟩ => ?_⟩
  simp only [tpS, anyV] at p1
  split at p1
  · rename_i hl
    rcases ds with _ | ⟨d1, _ | ⟨d2, _ | ⟨d3, ds⟩⟩⟩ <;> first | (simp at hl; done) | skip
    obtain ⟨v, r, rfl, r1, r2⟩ := rd.uncons
    obtain ⟨v2, rfl, r3⟩ := Reps.one_inv r2
    refine ⟨v, v2, rfl, ?_⟩
    have p2 := seq_nm (f := fun E' S' => consS (nmS j) nilS [d2] E' S') p1
    have p3 := seq_nm (f := fun E' S' => nilS [] E' S') p2
    exact p3 _ _ w1 (Wd.le.refl w1) ((eo1.set r1).set r3) so1
  · exact p1.elim
theorem ds_par3 (hx : Hx X c) (hc : c.calm = true) (hk : X.env.blockKind = .function) (hi : nameOk c i x = true) (hj : nameOk c j y = true) (hl' : nameOk c l z = true) (lx : c.sc.names.lookup x = some .local) (ly : c.sc.names.lookup y = some .local) (lz : c.sc.names.lookup z = some .local) (hij : i ≠ j) (hil : i ≠ l) (hjl : j ≠ l) (ha : PA X [a, b, d] (tA T W rs)) (hw : swYes c.sc [.Name x px, .Name y py, .Name z pz] [a, b, d] = true) (hn : swNames c.sc [.Name x px, .Name y py, .Name z pz] = [x, y, z]) :
    PS X (.Assign [.Tuple [.Name x px, .Name y py, .Name z pz] kt pt] (.Tuple [a, b, d] k2 pt2) pos) (tS T W fun E S => toS E (tupR rs E S) fun d S' => tpS 3 (consS (nmS i) (consS (nmS j) (consS (nmS l) nilS))) d E S') := by
  simp only [nameOk, Bool.and_eq_true, beq_iff_eq] at hi hj hl'
  have hs := swap_yes (k1 := kt) (k2 := k2) (p1 := pt) (p2 := pt2) hx.sc hk hw
  rw [hn] at hs
  refine PS.imp (ps_par3 (hx.calm hc) hx.nd (by rw [hx.N]; exact hi.1.1) (by rw [hx.N]; exact hj.1.1) (by rw [hx.N]; exact hl'.1.1) hij hil hjl (by rw [hx.sc]; exact lx) (by rw [hx.sc]; exact ly) (by rw [hx.sc]; exact lz) ha hs rfl) fun D σ H ⟨E, S, w, eo, so, p⟩ => ⟨E, S, w, eo, so, Post.imp (tup_post eo p) fun vs H1 ⟨ds, S1, w1, l1, eo1, so1, rd, p1⟩ => ?_⟩
  simp only [tpS, anyV] at p1
  split at p1
  · rename_i hl
    rcases ds with _ | ⟨d1, _ | ⟨d2, _ | ⟨d3, _ | ⟨d4, ds⟩⟩⟩⟩ <;> first | (simp at hl; done) | skip
    obtain ⟨v, r, rfl, r1, r2⟩ := rd.uncons
    obtain ⟨v2, r', rfl, q2, q3⟩ := r2.uncons
    obtain ⟨v3, rfl, r4⟩ := Reps.one_inv q3
    refine ⟨v, v2, v3, rfl, ?_⟩
    have p2 := seq_nm (f := fun E' S' => consS (nmS j) (consS (nmS l) nilS) [d2, d3] E' S') p1
    have p3 := seq_nm (f := fun E' S' => consS (nmS l) nilS [d3] E' S') p2
    have p4 := seq_nm (f := fun E' S' => nilS [] E' S') p3
    exact p4 _ _ w1 (Wd.le.refl w1) (((eo1.set r1).set q2).set r4) so1
  · exact p1.elim
end
end DV
end
section
/-! Calls, methods, new instances. -/
set_option Elab.async false
set_option linter.all false
set_option maxRecDepth 100000
set_option maxHeartbeats 400000
namespace DV
open PySem L2 PyProof.Rows
section
variable {T : Tab} {X : Cx} {W : WX} {C : Ctx} {k : Nat} {c : SC} {o e g : Expr} {es : List Expr} {pos p apos : Pos} {x : Str} {ra rg : Env → Store → Res D} {rs : Env → Store → Res (List D)}
/-- f(..), f a def of the module -/
theorem de_call {f : Nat} {a : Addr} (hy : Hy T X W C k) (hg : Gl X x) (hm : X.mg x = some (.ref a)) (hk : PySem.W.keepIn T.K (.ref a) = true) (hf : T.fa f = some a) (ha : PA X (e :: es) (tA T W rs)) (hp : (e :: es).all plainX = true) (hdb : (x == ("__debug__" : Str)) = false) :
    PE X (.Call (.Name x p) (e :: es) [] pos) (tE T W fun E S => (rs E S).bind fun ds S' => C.call f ds S') := by
  have hp' := hp
  rw [List.all_cons, Bool.and_eq_true] at hp'
  rw [← hy.hK] at hk
  refine ⟨fun pins s σ H Q I ⟨E, S, w, eo, so, q⟩ => ?_⟩
  refine wpAny_Call_Name_kw (ld_glob I hg hm ?_ hdb)
  refine PySem.W.callWith_K (h₀ := X.base) I.ok.mod.kin hk (thn (runA ha (pos := pos) I eo so q) fun us s1 ⟨vs, H1, ds, S1, w1, I1, r1, l1, so1, rd, eo1, p1⟩ => ⟨I1.kIn, ?_⟩) (star_cons hp'.1) (back_plain hp'.2)
  exact hy.run X.A (hy.sub 0 (by omega)) rfl pins s1 σ H1 Q vs us ds S1 w1 f a I1 r1 rd so1 hf p1
theorem de_call0 {f : Nat} {a : Addr} (hy : Hy T X W C k) (hg : Gl X x) (hm : X.mg x = some (.ref a)) (hk : PySem.W.keepIn T.K (.ref a) = true) (hf : T.fa f = some a) (hdb : (x == ("__debug__" : Str)) = false) :
    PE X (.Call (.Name x p) [] [] pos) (tE T W fun E S => C.call f [] S) := by
  rw [← hy.hK] at hk
  refine ⟨fun pins s σ H Q I ⟨E, S, w, eo, so, q⟩ => ?_⟩
  refine wpAny_Call_Name_kw (ld_glob I hg hm ?_ hdb)
  exact PySem.W.callWith_K0 I.kIn hk (hy.run X.A (hy.sub 0 (by omega)) rfl pins s σ H Q [] [] [] S w f a I .nil Reps.nil so hf q)
/-- g(..), g a local name that holds a def -/
theorem de_callv {i : Nat} (hy : Hy T X W C k) (hN : X.N[i]? = some x) (hv : Vis X.env.scope x) (hk : ∀ f a, T.fa f = some a → PySem.W.keepIn T.K (.ref a) = true) (ha : PA X (e :: es) (tA T W rs)) (hp : (e :: es).all plainX = true) (hdb : (x == ("__debug__" : Str)) = false) (hcd : (x == ("__classdict__" : Str)) = false) :
    PE X (.Call (.Name x p) (e :: es) [] pos) (tE T W fun E S => match E[i]? with
      | some (some (.fn f)) => (rs E S).bind fun ds S' => C.call f ds S'
      | _ => .bad) := by
  have hp' := hp
  rw [List.all_cons, Bool.and_eq_true] at hp'
  refine ⟨fun pins s σ H Q I ⟨E, S, w, eo, so, q⟩ => ?_⟩
  simp only at q
  split at q
  · rename_i f hE
    obtain ⟨v, h1, h2⟩ := eo.at_ i _ hE
    simp only [Rep] at h2
    obtain ⟨a, rfl, hf⟩ := h2
    refine wpAny_Call_Name_kw (thn ((pe_var (pos := p) hN hv hdb hcd).run pins s σ H (fun v H1 => v = .ref a ∧ H1 = H) I ⟨.ref a, h1, rfl, rfl⟩) fun u s1 ⟨v, H1, I1, r1, q1⟩ => ?_)
    obtain ⟨rfl, rfl⟩ := q1
    cases r1
    have hk := hk f a hf
    rw [← hy.hK] at hk
    refine PySem.W.callWith_K (h₀ := X.base) I.ok.mod.kin hk (thn (runA ha (pos := pos) I1 eo so q) fun us s1 ⟨vs, H1, ds, S1, w1, I1, r1, l1, so1, rd, eo1, p1⟩ => ⟨I1.kIn, ?_⟩) (star_cons hp'.1) (back_plain hp'.2)
    exact hy.run X.A (hy.sub 0 (by omega)) rfl pins s1 σ H1 Q vs us ds S1 w1 f a I1 r1 rd so1 hf p1
  · exact q.elim
/-- no own field of that name -/
theorem de_meth {m : Nat} {pl : Sem Bool} (hy : Hy T X W C k) (hx : T.nm m = x) (ho : PE X o (tE T W ra)) (ha : PA X (e :: es) (tA T W rs)) (hp : (e :: es).all plainX = true)
    (ht : eval (.Call (.Attribute o x apos) (e :: es) [] pos) X.env = (do
      let ov ← eval o X.env
      standAt apos.atName
      let (f, first) ← holding [ov] (getMethod ov x pl)
      callWith pos f first (backTo pos (starEach (e :: es) X.env)) (backToKw pos (keywordEach [] X.env)))) :
    PE X (.Call (.Attribute o x apos) (e :: es) [] pos) (tE T W fun E S => (ra E S).bind fun y S' => match insV S' y with
    | some (c, fs) => if (look m fs).isNone then (match methOf C.P c m with
      | some f => (rs E S').bind fun ds S'' => C.call f (y :: ds) S''
      | none => .bad) else .bad
    | none => .bad) := by
  have hp' := hp
  rw [List.all_cons, Bool.and_eq_true] at hp'
  refine ⟨fun pins s σ H Q I ⟨E, S, w, eo, so, q⟩ => ?_⟩
  refine PySem.W.methodCall_KW (pl := pl) (thn (run1 ho I eo so q) fun u s1 ⟨y, H1, d, S1, w1, I1, r1, l1, so1, rd, eo1, p1⟩ => ?_) ht
  split at p1
  · rename_i cc fs hi
    split at p1
    · rename_i hl
      split at p1
      · rename_i f hm
        obtain ⟨a, Ca, dx, hs, rfl, hc, hH, rf⟩ := ins_rep so1 rd hi
        cases r1
        obtain ⟨gg, hgg, M⟩ := hy.tab.meth cc Ca m f hc hm
        have cl := (hy.tab.cls cc Ca hc).1
        rw [← hy.hK] at cl M
        rw [hx] at M
        have hlk : hs.lookup x = none := by
          rw [← hx]
          exact (look_rep hy.tab.inj rf).2 (Option.isNone_iff_eq_none.mp hl)
        refine getmeth_ok I1 hH cl M hlk ?_
        refine PySem.W.callWith_K (first := [.ref a]) (h₀ := X.base) I.ok.mod.kin M.kp (thn (runA ha (pos := pos) I1 eo1 so1 p1) fun us s2 ⟨vs, H2, ds, S2, w2, I2, r2, l2, so2, rds, eo2, p2⟩ => ⟨I2.kIn, ?_⟩) (star_cons hp'.1) (back_plain hp'.2)
        exact hy.run X.A (hy.sub 0 (by omega)) rfl pins s2 σ H2 Q (.ref a :: vs) (.ref a :: us) (d :: ds) S2 w2 f gg I2 (.cons rfl r2) (Reps.cons (rd.mono l2) rds) so2 hgg p2
      · exact p1.elim
    · exact p1.elim
  · exact p1.elim
theorem de_meth0 {m : Nat} {pl : Sem Bool} (hy : Hy T X W C k) (hx : T.nm m = x) (ho : PE X o (tE T W ra))
    (ht : eval (.Call (.Attribute o x apos) [] [] pos) X.env = (do
      let ov ← eval o X.env
      standAt apos.atName
      let (f, first) ← holding [ov] (getMethod ov x pl)
      callWith pos f first (backTo pos (starEach [] X.env)) (backToKw pos (keywordEach [] X.env)))) :
    PE X (.Call (.Attribute o x apos) [] [] pos) (tE T W fun E S => (ra E S).bind fun y S' => match insV S' y with
    | some (c, fs) => if (look m fs).isNone then (match methOf C.P c m with
      | some f => C.call f [y] S'
      | none => .bad) else .bad
    | none => .bad) := by
  refine ⟨fun pins s σ H Q I ⟨E, S, w, eo, so, q⟩ => ?_⟩
  refine PySem.W.methodCall_KW (pl := pl) (thn (run1 ho I eo so q) fun u s1 ⟨y, H1, d, S1, w1, I1, r1, l1, so1, rd, eo1, p1⟩ => ?_) ht
  split at p1
  · rename_i cc fs hi
    split at p1
    · rename_i hl
      split at p1
      · rename_i f hm
        obtain ⟨a, Ca, dx, hs, rfl, hc, hH, rf⟩ := ins_rep so1 rd hi
        cases r1
        obtain ⟨gg, hgg, M⟩ := hy.tab.meth cc Ca m f hc hm
        have cl := (hy.tab.cls cc Ca hc).1
        rw [← hy.hK] at cl M
        rw [hx] at M
        have hlk : hs.lookup x = none := by
          rw [← hx]
          exact (look_rep hy.tab.inj rf).2 (Option.isNone_iff_eq_none.mp hl)
        refine getmeth_ok I1 hH cl M hlk ?_
        exact PySem.W.callWith_K0 (first := [.ref a]) I1.kIn M.kp (hy.run X.A (hy.sub 0 (by omega)) rfl pins s1 σ H1 Q [.ref a] [.ref a] [d] S1 w1 f gg I1 (.cons rfl .nil) (Reps.one rd) so1 hgg p1)
      · exact p1.elim
    · exact p1.elim
  · exact p1.elim
end
end DV
end
section
/-! Cells become trees. -/
set_option Elab.async false
set_option linter.all false
set_option maxRecDepth 100000
set_option maxHeartbeats 400000
namespace DV
open PySem L2 PyProof.Rows
/-- the first n cells stay; the others stand as they are -/
noncomputable def Wd.cut (w : Wd) (n : Nat) (H : Hp) : Wd := ⟨w.μ.take n, fun a => by classical exact if a ∈ w.μ.drop n then H a else w.G a⟩
section
variable {T : Tab} {w w1 : Wd} {S : Store} {H : Hp} {n : Nat}
theorem cut_in {a : Addr} (h : a ∈ w.μ.drop n) : (w.cut n H).G a = H a := if_pos h
theorem cut_out {a : Addr} (h : a ∉ w.μ.drop n) : (w.cut n H).G a = w.G a := if_neg h
theorem cut_some (so : StoreOk T S w H) {a : Addr} (h : w.G a ≠ none) : (w.cut n H).G a = w.G a := cut_out fun hm => h (so.free a (List.mem_of_mem_drop hm))
theorem cut_st (so : StoreOk T S w H) {a : Addr} {u : HO} (h : w.G a = some u) : (w.cut n H).G a = some u := (cut_some so (by rw [h]; simp)).trans h
theorem cut_rd (so : StoreOk T S w H) {a : Addr} {u : HO} (h : Rd w.G a u) : Rd (w.cut n H).G a u := h.elim (fun h => .inl (cut_st so h)) fun ⟨o, h⟩ => .inr ⟨o, cut_st so h⟩
mutual
theorem under_rep (so : StoreOk T S w H) : ∀ {d : D} {v : V}, d.under n = true → Rep T w d v → Rep T (w.cut n H) d v
  | .non, _, _, h => by simpa only [Rep] using h
  | .bl _, _, _, h => by simpa only [Rep] using h
  | .int _, _, _, h => by simpa only [Rep] using h
  | .str _, _, _, h => by simpa only [Rep] using h
  | .tup ds, _, u, h => by
    simp only [Rep] at h ⊢
    simp only [D.under] at u
    obtain ⟨a, ys, e, s, r⟩ := h
    exact ⟨a, ys, e, cut_st so s, unders_rep so u r⟩
  | .ctup ds, _, u, h => by
    simp only [Rep] at h ⊢
    simp only [D.under] at u
    obtain ⟨a, ys, e, s, r⟩ := h
    exact ⟨a, ys, e, s.elim (fun s => .inl (cut_rd so s)) .inr, unders_rep so u r⟩
  | .lst ds, _, u, h => by
    simp only [Rep] at h ⊢
    simp only [D.under] at u
    obtain ⟨a, ys, e, s, r⟩ := h
    exact ⟨a, ys, e, cut_st so s, unders_rep so u r⟩
  | .dct t kvs, _, u, h => by
    simp only [Rep] at h ⊢
    simp only [D.under] at u
    obtain ⟨a, e, ⟨ht, hs, r, q⟩ | ⟨ht, hs, r, q⟩⟩ := h
    · exact ⟨a, e, .inl ⟨ht, hs, cut_rd so r, underT_rep so u q⟩⟩
    · exact ⟨a, e, .inr ⟨ht, hs, cut_rd so r, underK_rep so u q⟩⟩
  | .ins c fs, _, u, h => by
    simp only [Rep] at h ⊢
    simp only [D.under] at u
    obtain ⟨a, C, dx, hs, e, hc, r, q⟩ := h
    exact ⟨a, C, dx, hs, e, hc, cut_st so r, underF_rep so u q⟩
  | .exo c fs, _, u, h => by
    simp only [Rep] at h ⊢
    simp only [D.under] at u
    obtain ⟨a, C, dx, hs, e, hc, r, r2, q⟩ := h
    exact ⟨a, C, dx, hs, e, hc, cut_st so r, cut_st so r2, underF_rep so u q⟩
  | .fn f, _, _, h => by simpa only [Rep] using h
  | .loc m, _, u, h => by
    simp only [Rep] at h ⊢
    simp only [D.under, decide_eq_true_eq] at u
    obtain ⟨a, e, q⟩ := h
    exact ⟨a, e, by show (w.μ.take n)[m]? = some a; rw [List.getElem?_take_of_lt u]; exact q⟩
  | .scr _, _, _, h => by
    simp only [Rep] at h ⊢
    obtain ⟨a, e, s⟩ := h
    exact ⟨a, e, s.elim (fun s => .inl ⟨s.1, cut_rd so s.2⟩) .inr⟩
theorem unders_rep (so : StoreOk T S w H) : ∀ {ds : List D} {vs : List V}, belows n ds = true → Reps T w ds vs → Reps T (w.cut n H) ds vs
  | [], _, _, h => by simpa only [Reps] using h
  | d :: ds, _, u, h => by
    simp only [Reps] at h ⊢
    simp only [belows, Bool.and_eq_true] at u
    obtain ⟨x, r, e, a, b⟩ := h
    exact ⟨x, r, e, under_rep so u.1 a, unders_rep so u.2 b⟩
theorem underK_rep (so : StoreOk T S w H) : ∀ {ds : List (D × D)} {vs : List (Key × V)}, belowK n ds = true → RepK T w ds vs → RepK T (w.cut n H) ds vs
  | [], _, _, h => by simpa only [RepK] using h
  | (k, d) :: ds, _, u, h => by
    simp only [RepK] at h ⊢
    simp only [belowK, Bool.and_eq_true] at u
    obtain ⟨hk, x, r, e, a, b, c⟩ := h
    exact ⟨hk, x, r, e, a, under_rep so u.1.2 b, underK_rep so u.2 c⟩
theorem underT_rep (so : StoreOk T S w H) : ∀ {ds : List (D × D)} {vs : List (List Key × V)}, belowK n ds = true → RepT T w ds vs → RepT T (w.cut n H) ds vs
  | [], _, _, h => by simpa only [RepT] using h
  | (k, d) :: ds, _, u, h => by
    simp only [RepT] at h ⊢
    simp only [belowK, Bool.and_eq_true] at u
    obtain ⟨hk, x, r, e, a, b, c⟩ := h
    exact ⟨hk, x, r, e, a, under_rep so u.1.2 b, underT_rep so u.2 c⟩
theorem underF_rep (so : StoreOk T S w H) : ∀ {ds : List (Nat × D)} {vs : List (Str × V)}, belowF n ds = true → RepF T w ds vs → RepF T (w.cut n H) ds vs
  | [], _, _, h => by simpa only [RepF] using h
  | (k, d) :: ds, _, u, h => by
    simp only [RepF] at h ⊢
    simp only [belowF, Bool.and_eq_true] at u
    obtain ⟨x, r, e, b, c⟩ := h
    exact ⟨x, r, e, under_rep so u.1 b, underF_rep so u.2 c⟩
end
theorem cell_cut (so : StoreOk T S w H) {a : Addr} {c : Cell} (u : c.under n = true) (h : CellOk T w H a c) : CellOk T (w.cut n H) H a c := by
  cases c with
  | lst ds => obtain ⟨xs, e, r⟩ := h; exact ⟨xs, e, unders_rep so u r⟩
  | dct t kvs =>
    rcases h with ⟨e, hs, q, r⟩ | ⟨e, hs, q, r⟩
    · exact .inl ⟨e, hs, q, underT_rep so u r⟩
    · exact .inr ⟨e, hs, q, underK_rep so u r⟩
  | lck t kvs =>
    obtain ⟨o, ⟨e, hs, q, r⟩ | ⟨e, hs, q, r⟩⟩ := h
    · exact ⟨o, .inl ⟨e, hs, q, underT_rep so u r⟩⟩
    · exact ⟨o, .inr ⟨e, hs, q, underK_rep so u r⟩⟩
  | ins c fs => obtain ⟨C, dx, hs, e, q, r⟩ := h; exact ⟨C, dx, hs, e, q, underF_rep so u r⟩
theorem cut_so (so : StoreOk T S w H) (hu : (S.take n).all (Cell.under n) = true) : StoreOk T (S.take n) (w.cut n H) H := by
  refine ⟨⟨fun a u e h => ?_, fun a u e h => ?_⟩, ?_, (List.take_sublist n w.μ).nodup so.nd, fun a ha => ?_, fun m a c e1 e2 => ?_, fun a e q => so.sc a e ((cut_some so (so.sc a e)).symm.trans q)⟩
  · by_cases hm : a ∈ w.μ.drop n
    · rw [cut_in hm] at h; exact h
    · rw [cut_out hm] at h; exact so.G.st a u e h
  · by_cases hm : a ∈ w.μ.drop n
    · exact h.elim (fun h => .inl (by rw [cut_in hm] at h; exact h)) fun ⟨o, h⟩ => .inr ⟨o, by rw [cut_in hm] at h; exact h⟩
    · exact so.G.dc a u e (h.elim (fun h => .inl (by rw [cut_out hm] at h; exact h)) fun ⟨o, h⟩ => .inr ⟨o, by rw [cut_out hm] at h; exact h⟩)
  · show (w.μ.take n).length = (S.take n).length
    rw [List.length_take, List.length_take, so.len]
  · have hnd : (w.μ.take n ++ w.μ.drop n).Nodup := by rw [List.take_append_drop]; exact so.nd
    have hm : a ∉ w.μ.drop n := fun hm => (List.nodup_append.mp hnd).2.2 a ha a hm rfl
    rw [cut_out hm]
    exact so.free a (List.mem_of_mem_take ha)
  · have hlt : m < n := by
      have := (List.getElem?_eq_some_iff.mp e2).1
      rw [List.length_take] at this
      omega
    have e2' : S[m]? = some c := by rw [List.getElem?_take_of_lt hlt] at e2; exact e2
    have e1' : w.μ[m]? = some a := by
      have e1 : (w.μ.take n)[m]? = some a := e1
      rw [List.getElem?_take_of_lt hlt] at e1; exact e1
    exact cell_cut so (List.all_eq_true.mp hu c (List.mem_of_getElem? e2)) (so.cell m a c e1' e2')
theorem cut_le {w0 : Wd} (so : StoreOk T S w H) (l : Wd.le w0 w) (hn : w0.μ.length = n) : Wd.le w0 (w.cut n H) := by
  refine ⟨?_, fun a u e h => cut_st so (l.G.st a u e h), fun a u e h => cut_rd so (l.G.dc a u e h)⟩
  obtain ⟨t, ht⟩ := l.μ
  have : w.μ.take n = w0.μ := by rw [← ht, ← hn, List.take_left]
  show w0.μ <+: w.μ.take n
  rw [this]
  exact List.prefix_refl _
/-- the rest, as trees -/
def CutC (T : Tab) (w w' : Wd) (n : Nat) (C : Nat → Option D) : Prop := ∀ m d a, ¬ m < n → C m = some d → w.μ[m]? = some a → Rep T w' d (.ref a)
mutual
theorem frz_rep (so : StoreOk T S w H) {C : Nat → Option D} (hC : CutC T w (w.cut n H) n C) : ∀ {d d' : D} {v : V}, frz C n d = some d' → Rep T w d v → Rep T (w.cut n H) d' v
  | .non, _, _, e, h => by simp only [frz, Option.some.injEq] at e; subst e; simpa only [Rep] using h
  | .bl _, _, _, e, h => by simp only [frz, Option.some.injEq] at e; subst e; simpa only [Rep] using h
  | .int _, _, _, e, h => by simp only [frz, Option.some.injEq] at e; subst e; simpa only [Rep] using h
  | .str _, _, _, e, h => by simp only [frz, Option.some.injEq] at e; subst e; simpa only [Rep] using h
  | .tup ds, _, _, e, h => by
    simp only [frz] at e
    obtain ⟨ds', e1, rfl⟩ := omap_some e
    simp only [Rep] at h ⊢
    obtain ⟨a, ys, e, s, r⟩ := h
    exact ⟨a, ys, e, cut_st so s, frzs_rep so hC e1 r⟩
  | .ctup ds, _, _, e, h => by
    simp only [frz] at e
    obtain ⟨ds', e1, rfl⟩ := omap_some e
    simp only [Rep] at h ⊢
    obtain ⟨a, ys, e, s, r⟩ := h
    exact ⟨a, ys, e, s.elim (fun s => .inl (cut_rd so s)) .inr, frzs_rep so hC e1 r⟩
  | .lst ds, _, _, e, h => by
    simp only [frz] at e
    obtain ⟨ds', e1, rfl⟩ := omap_some e
    simp only [Rep] at h ⊢
    obtain ⟨a, ys, e, s, r⟩ := h
    exact ⟨a, ys, e, cut_st so s, frzs_rep so hC e1 r⟩
  | .dct t kvs, _, _, e, h => by
    simp only [frz] at e
    obtain ⟨ds', e1, rfl⟩ := omap_some e
    simp only [Rep] at h ⊢
    obtain ⟨a, e, ⟨ht, hs, r, q⟩ | ⟨ht, hs, r, q⟩⟩ := h
    · exact ⟨a, e, .inl ⟨ht, hs, cut_rd so r, frzT_rep so hC e1 q⟩⟩
    · exact ⟨a, e, .inr ⟨ht, hs, cut_rd so r, frzK_rep so hC e1 q⟩⟩
  | .ins c fs, _, _, e, h => by
    simp only [frz] at e
    obtain ⟨ds', e1, rfl⟩ := omap_some e
    simp only [Rep] at h ⊢
    obtain ⟨a, C, dx, hs, e, hc, r, q⟩ := h
    exact ⟨a, C, dx, hs, e, hc, cut_st so r, frzF_rep so hC e1 q⟩
  | .exo c fs, _, _, e, h => by
    simp only [frz] at e
    obtain ⟨ds', e1, rfl⟩ := omap_some e
    simp only [Rep] at h ⊢
    obtain ⟨a, C, dx, hs, e, hc, r, r2, q⟩ := h
    exact ⟨a, C, dx, hs, e, hc, cut_st so r, cut_st so r2, frzF_rep so hC e1 q⟩
  | .fn _, _, _, e, h => by simp only [frz, Option.some.injEq] at e; subst e; simpa only [Rep] using h
  | .loc m, _, _, e, h => by
    simp only [frz] at e
    split at e
    · rename_i hm
      cases e
      exact under_rep so (by simp [D.under, hm]) h
    · rename_i hm
      simp only [Rep] at h
      obtain ⟨a, rfl, q⟩ := h
      exact hC m _ a hm e q
  | .scr _, _, _, e, h => by
    simp only [frz, Option.some.injEq] at e
    subst e
    exact under_rep so rfl h
theorem frzs_rep (so : StoreOk T S w H) {C : Nat → Option D} (hC : CutC T w (w.cut n H) n C) : ∀ {ds ds' : List D} {vs : List V}, frzs C n ds = some ds' → Reps T w ds vs → Reps T (w.cut n H) ds' vs
  | [], _, _, e, h => by simp only [frzs, Option.some.injEq] at e; subst e; simpa only [Reps] using h
  | d :: ds, _, _, e, h => by
    simp only [frzs] at e
    split at e
    · rename_i x y e1 e2
      cases e
      simp only [Reps] at h ⊢
      obtain ⟨z, r, e, a, b⟩ := h
      exact ⟨z, r, e, frz_rep so hC e1 a, frzs_rep so hC e2 b⟩
    · cases e
theorem frzK_rep (so : StoreOk T S w H) {C : Nat → Option D} (hC : CutC T w (w.cut n H) n C) : ∀ {ds ds' : List (D × D)} {vs : List (Key × V)}, frzK C n ds = some ds' → RepK T w ds vs → RepK T (w.cut n H) ds' vs
  | [], _, _, e, h => by simp only [frzK, Option.some.injEq] at e; subst e; simpa only [RepK] using h
  | (k, d) :: ds, _, _, e, h => by
    simp only [frzK] at e
    split at e
    · rename_i x y e1 e2
      cases e
      simp only [RepK] at h ⊢
      obtain ⟨hk, z, r, e, q, a, b⟩ := h
      exact ⟨hk, z, r, e, q, frz_rep so hC e1 a, frzK_rep so hC e2 b⟩
    · cases e
theorem frzT_rep (so : StoreOk T S w H) {C : Nat → Option D} (hC : CutC T w (w.cut n H) n C) : ∀ {ds ds' : List (D × D)} {vs : List (List Key × V)}, frzK C n ds = some ds' → RepT T w ds vs → RepT T (w.cut n H) ds' vs
  | [], _, _, e, h => by simp only [frzK, Option.some.injEq] at e; subst e; simpa only [RepT] using h
  | (k, d) :: ds, _, _, e, h => by
    simp only [frzK] at e
    split at e
    · rename_i x y e1 e2
      cases e
      simp only [RepT] at h ⊢
      obtain ⟨hk, z, r, e, q, a, b⟩ := h
      exact ⟨hk, z, r, e, q, frz_rep so hC e1 a, frzT_rep so hC e2 b⟩
    · cases e
theorem frzF_rep (so : StoreOk T S w H) {C : Nat → Option D} (hC : CutC T w (w.cut n H) n C) : ∀ {ds ds' : List (Nat × D)} {vs : List (Str × V)}, frzF C n ds = some ds' → RepF T w ds vs → RepF T (w.cut n H) ds' vs
  | [], _, _, e, h => by simp only [frzF, Option.some.injEq] at e; subst e; simpa only [RepF] using h
  | (k, d) :: ds, _, _, e, h => by
    simp only [frzF] at e
    split at e
    · rename_i x y e1 e2
      cases e
      simp only [RepF] at h ⊢
      obtain ⟨z, r, e, a, b⟩ := h
      exact ⟨z, r, e, frz_rep so hC e1 a, frzF_rep so hC e2 b⟩
    · cases e
end
theorem frzC_ok (so : StoreOk T S w H) : ∀ k, CutC T w (w.cut n H) n (frzC S n k)
  | 0 => fun m d a hm e q => by simp [frzC] at e
  | k + 1 => fun m d a hm e q => by
    have ih := frzC_ok so k
    have hin : a ∈ w.μ.drop n := by
      have hl := (List.getElem?_eq_some_iff.mp q).1
      refine List.mem_of_getElem? (i := m - n) ?_
      rw [List.getElem?_drop, show n + (m - n) = m by omega]; exact q
    simp only [frzC] at e
    split at e
    · rename_i ds hs
      obtain ⟨ds', e1, rfl⟩ := omap_some e
      obtain ⟨xs, h1, h2⟩ := so.cell m a _ q hs
      simp only [Rep]
      exact ⟨a, xs, rfl, (cut_in hin).trans h1, frzs_rep so ih e1 h2⟩
    · rename_i t kvs hs
      obtain ⟨ds', e1, rfl⟩ := omap_some e
      simp only [Rep]
      rcases so.cell m a _ q hs with ⟨ht, hs, h1, h2⟩ | ⟨ht, hs, h1, h2⟩
      · exact ⟨a, rfl, .inl ⟨ht, hs, .inl ((cut_in hin).trans h1), frzT_rep so ih e1 h2⟩⟩
      · exact ⟨a, rfl, .inr ⟨ht, hs, .inl ((cut_in hin).trans h1), frzK_rep so ih e1 h2⟩⟩
    · rename_i c fs hs
      obtain ⟨ds', e1, rfl⟩ := omap_some e
      obtain ⟨C, dx, hs, hc, h1, h2⟩ := so.cell m a _ q hs
      simp only [Rep]
      exact ⟨a, C, dx, hs, rfl, hc, (cut_in hin).trans h1, frzF_rep so ih e1 h2⟩
    · cases e
/-- a value leaves -/
theorem freeze_ok {W : WX} {σ : L2.St} {Q : VK} {w0 : Wd} {d : D} {v : V} (so : StoreOk T S w H) (l : Wd.le w0 w) (hn : w0.μ.length = n) (rd : Rep T w d v) (p : Post T (RV T) W σ w0 Q (freeze n d S)) : Q v H := by
  unfold freeze at p
  split at p
  · exact p v H w l so rd
  · split at p
    · rename_i hu
      cases e : frz (frzC S n 5) n d with
      | none => rw [e] at p; exact p.elim
      | some d' =>
        rw [e] at p
        exact p v H (w.cut n H) (cut_le so l hn) (cut_so so hu) (frz_rep so (frzC_ok so 5) e rd)
    · exact p.elim
end
end DV
end
section
/-! New instances; a def's end. -/
set_option Elab.async false
set_option linter.all false
set_option maxRecDepth 100000
set_option maxHeartbeats 400000
namespace DV
open PySem L2 PyProof.Rows
theorem make_guards {A : Around} {C : Addr} {us : List Value} : (A.under (.builtin "type.__call__" ⟨.ref C :: us, []⟩)).guards = A.guards := by
  unfold Around.under
  dsimp only
  have e : (Code.builtin "type.__call__" { pos := Value.ref C :: us }).guards = [] := by rfl
  rw [e]
  cases A.guards <;> rfl
theorem Post.bind2 {T : Tab} {W : WX} {σ : L2.St} {w w2 : Wd} {α β γ δ : Type} {R : Wd → α → β → Prop} {R' : Wd → γ → δ → Prop} {Q : δ → Hp → Prop} {r : Res α} {f : α → Store → Res γ} (l : Wd.le w w2) (h : Post T R' W σ w Q (r.bind f)) :
    Post T R W σ w2 (fun v H => ∃ d S w1, Wd.le w2 w1 ∧ StoreOk T S w1 H ∧ R w1 d v ∧ Post T R' W σ w Q (f d S)) r := by
  cases r with
  | ok d S => exact fun v H w1 l1 so rep => ⟨d, S, w1, l1, so, rep, h⟩
  | exc c fs S => exact fun cls dx H w1 l1 => h cls dx H w1 (l.trans l1)
  | bad => exact h
section
variable {T : Tab} {X : Cx} {W : WX} {C : Ctx} {k : Nat} {c : SC} {e : Expr} {es : List Expr} {pos p : Pos} {x : Str} {rs : Env → Store → Res (List D)}
def mkR (C : Ctx) (cc f0 : Nat) (m : Bool) (ds : List D) (S' : Store) : Res D := (C.call f0 (.loc S'.length :: ds) (S' ++ [.ins cc []])).bind fun r S'' => if isNonD r then (if m then .ok (.loc S'.length) S'' else freeze S'.length (.loc S'.length) S'') else .bad
theorem run_mk {cc f0 : Nat} {m : Bool} {Ca g : Addr} (hy : Hy T X W C k) (hca : T.ca cc = some Ca) (hf : T.fa f0 = some g) (M : Mk T.K Ca g) {pins : List (Addr × Obj)} {s : Shared} {σ : L2.St} {H : Hp} {Q : VK} {us : List Value} {vs : List V} {ds : List D} {S : Store} {w : Wd} (I : Inv X pins σ H s) (r : Vals vs us)
    (so : StoreOk T S w H) (rd : Reps T w ds vs) (q : Post T (RV T) W σ w Q (mkR C cc f0 m ds S)) : wpAny (model X.prog X.w) X.A (call (.ref Ca) us) (EP X pins σ Q) X.xe s := by
  rw [← hy.hK] at M
  have I2 := Inv.made (C := Ca) I
  obtain ⟨so1, off1⟩ := add_so so (I.hok.fresh (Nat.le_refl _)) (.own (s.heap.objs.size + 1))
  have fr : upd H s.heap.objs.size (.own (s.heap.objs.size + 1)) (s.heap.objs.size + 1) = none := by
    rw [upd_ne (Nat.succ_ne_self _)]; exact I.hok.fresh (Nat.le_succ _)
  obtain ⟨so2, l2⟩ := so1.alloc (o := .ins Ca s.heap.objs.size []) (c := .ins cc []) fr ⟨Ca, _, [], hca, upd_same, by simp only [RepF]⟩
  have hr : Rm (k + 1) X.A := hy.room.mono (by omega)
  have sub : Sb X k (X.A.under (.builtin "type.__call__" ⟨.ref Ca :: us, []⟩)) := ⟨hr.make Ca us [], (I2.env0.make Ca us []).frames.trans I2.ok.frames.symm, rfl⟩
  have hn : (⟨w.μ ++ [s.heap.objs.size + 1], w.G⟩ : Wd).μ[S.length]? = some (s.heap.objs.size + 1) := by
    show (w.μ ++ [s.heap.objs.size + 1])[S.length]? = _
    rw [← so.len]; simp
  have rself : Rep T (⟨w.μ ++ [s.heap.objs.size + 1], w.G⟩ : Wd) (.loc S.length) (.ref (s.heap.objs.size + 1)) := by
    simp only [Rep]; exact ⟨_, rfl, hn⟩
  have q2 := Post.bind2 (R := RV T) l2 q
  have h := hy.call _ sub make_guards pins _ σ _ (fun v H' => v = .non ∧ Q (.ref (s.heap.objs.size + 1)) H') (.ref (s.heap.objs.size + 1) :: vs) (.ref (s.heap.objs.size + 1) :: us) (.loc S.length :: ds) (S ++ [.ins cc []]) _ f0 g I2 (.cons rfl r) (Reps.cons rself (rd.mono l2)) so2 hf (by
    refine Post.imp q2 fun v H' ⟨d, S4, w4, l4, so4, rd4, p4⟩ => ?_
    split at p4
    · rename_i hnon
      have hv : v = .non := by
        cases d <;> first | (simp only [RV, Rep] at rd4; exact rd4) | (simp [isNonD] at hnon)
      refine ⟨hv, ?_⟩
      have rl : Rep T w4 (.loc S.length) (.ref (s.heap.objs.size + 1)) := rself.mono l4
      split at p4
      · exact p4 _ H' w4 (l2.trans l4) so4 rl
      · exact freeze_ok so4 (l2.trans l4) so.len rl p4
    · exact p4.elim)
  refine wpAny_call (make_map (f := g) I.kIn M.makes M.init (beq_iff_eq.mp M.fn) (codeAny_mono h fun r s' hq' => ?_))
  cases r with
  | error e => exact hq'
  | ok fl =>
    cases fl with
    | ret u =>
      obtain ⟨v, H', I3, rv, ev, q3⟩ := hq'
      subst ev
      exact ⟨rv, ⟨V.ref (s.heap.objs.size + 1), H', I3, rfl, q3⟩⟩
    | next => exact False.elim hq'
    | brk => exact False.elim hq'
    | cont => exact False.elim hq'
theorem de_mk {cc f0 : Nat} {m : Bool} {Ca g : Addr} (hy : Hy T X W C k) (hca : T.ca cc = some Ca) (hf : T.fa f0 = some g) (M : Mk T.K Ca g) (hg : Gl X x) (hm : X.mg x = some (.ref Ca)) (ha : PA X (e :: es) (tA T W rs)) (hp : (e :: es).all plainX = true) (hdb : (x == ("__debug__" : Str)) = false) :
    PE X (.Call (.Name x p) (e :: es) [] pos) (tE T W fun E S => (rs E S).bind (mkR C cc f0 m)) := by
  have hp' := hp
  rw [List.all_cons, Bool.and_eq_true] at hp'
  refine ⟨fun pins s σ H Q I ⟨E, S, w, eo, so, q⟩ => ?_⟩
  refine wpAny_Call_Name_kw (ld_glob I hg hm ?_ hdb)
  refine PySem.W.callWith_K (h₀ := X.base) I.ok.mod.kin (by rw [hy.hK]; exact M.kp) (thn (runA ha (pos := pos) I eo so q) fun us s1 ⟨vs, H1, ds, S1, w1, I1, r1, l1, so1, rd, eo1, p1⟩ => ⟨I1.kIn, ?_⟩) (star_cons hp'.1) (back_plain hp'.2)
  exact run_mk hy hca hf M I1 r1 so1 rd p1
end
end DV
end
section
/-! Defs by their fuel. -/
set_option Elab.async false
set_option linter.all false
set_option maxRecDepth 100000
set_option maxHeartbeats 400000
namespace DV
open PySem L2 PyProof.Rows
/-- FnOk where no repr is under way -/
structure FnG (P : Program) (w : World) (K : PySem.W.Frag) (mg : Str → Option Value) (base : Heap) (k : Nat) (f : Addr) (fd : FuncData) (ps : List Str) (sp : Sp) : Prop where
  len : ∀ vs H Q E, sp vs H Q E → vs.length = ps.length
  run : ∀ (A : Around) (outer : List PySem.Env) (s : Shared) (H : Hp) (args : Args) (us : List Value) (vs : List V) (Q : VK) (E : XK), Room k A → A.guards = some [] → Env0 P w K mg base A outer s H → BindsTo s fd args (ps.zip us) → Vals vs us → sp vs H Q E →
    codeAny (model P w) A (.call (.ref f) args) (CR (L2.CX P w) outer P w H s Q E) s
theorem deeper_guards {A : Around} {e : PySem.Env} : (A.deeper e).guards = A.guards := by
  first
    | rfl
    | (unfold Around.deeper; rfl)
/-- after HandS.Call's fn_of, the guards kept -/
theorem fn_ofG {P : Program} {w : World} {K : PySem.W.Frag} {mg : Str → Option Value} {base : Heap} {k : Nat} {f : Addr} {name qual : Str} {params : Arguments} {body : List Stmt} {scope : Scope} {dV kV doc pm cdv ct oc : Value} {an od : Option Addr}
    {osl : Array (Option Value)} {N ps : List Str} {sp : Sp} (lk : K.lookup f = some ⟨oc, od, .func (PySem.W.fnOf name qual params body scope dV kV doc pm an cdv ct), osl⟩) (hcd : PySem.W.codeIn K cdv qual = true) (S : FnScope N ps scope)
    (len : ∀ vs H Q E, sp vs H Q E → vs.length = ps.length)
    (hbody : ∀ (A : Around) (outer : List PySem.Env) (s : Shared) (H : Hp) (vs : List V) (Q : VK) (E : XK), Room k (A.deeper (envOfC qual scope s.heap.objs.size f cdv)) → A.guards = some [] → sp vs H Q E →
      ∃ t, PSs (cxOf (L2.CX P w) P w K mg base N qual scope f cdv A outer s H E) body t ∧ t { nx := fun _ H' => Q .non H', rt := Q } (start N vs) H) :
    FnG P w K mg base (k + 1) f (PySem.W.fnOf name qual params body scope dV kV doc pm an cdv ct) ps sp := by
  refine ⟨len, fun A outer s H args us vs Q E hr hg e0 hb r hsp => ?_⟩
  have hl := len _ _ _ _ hsp
  have KX : K.In s.heap := e0.mod.kin.keeps fun b o e => (e0.bs b o e).1
  have lim : s.heap.NoLimit := e0.mod.nolimit.keeps fun b o e => (e0.bs b o e).1
  have hkind : ∀ y ∈ ps.zip us, scope.names.lookup y.1 = some .local ∨ (scope.names.lookup y.1 = some .cell ∧ ((cellsFrom (s.heap.objs.size + 1) scope.names []).lookup y.1).isSome = true) := fun ⟨n, v⟩ hy => by
    rcases S.par n (List.of_mem_zip hy).1 with q | q
    · exact .inl q
    · exact .inr ⟨q, PySem.W.cellsFrom_some _ _ _ (.inl q)⟩
  refine codeAny_call_function hr.depth (KX _ _ lk) rfl S.co S.gen rfl (PySem.W.codeRec_of KX hcd) (hb _ _ _ _ ?_)
  refine wpAny_newFunctionEnv_cells S.kind hkind fun env he s1 x => ?_
  subst he
  refine ⟨lim.keeps x.toInCall.keep, codeAny_func ?_⟩
  obtain ⟨t, ht, hq⟩ := hbody A outer s H vs Q E (hr.deeper _) hg hsp
  have I : Inv (cxOf (L2.CX P w) P w K mg base N qual scope f cdv A outer s H E) [] (start N vs) H s1 := inv_start S hr.hd e0 hl r x
  refine wpAny_mono (ht.run [] s1 (start N vs) H _ I hq) (fun fl s' hs => ?_) fun e s' hs => hs
  have fin : ∀ {σ' : L2.St} {H' : Hp} {v : V} {u : Value}, Inv (cxOf (L2.CX P w) P w K mg base N qual scope f cdv A outer s H E) [] σ' H' s' → RelV v u → Q v H' → CE outer P w H s Q u s' :=
    fun {σ' H' v u} J rv q => ⟨v, H', J.os, J.bare, J.base, J.hok, rv, q⟩
  cases fl with
  | ret u =>
    obtain ⟨v, σ', H', J, rv, q⟩ := hs
    exact fin J rv q
  | next =>
    obtain ⟨σ', H', J, q⟩ := hs
    exact fin (v := V.non) (u := Value.none) J rfl q
  | brk =>
    obtain ⟨_, _, _, q⟩ := hs
    exact False.elim q
  | cont =>
    obtain ⟨_, _, _, q⟩ := hs
    exact False.elim q
/-- what a def is to do: what r says -/
def WE (E : XK) : WX := fun cls d _ H => E cls d H
def spF (T : Tab) (np : Nat) (r : List D → Store → Res D) : Sp := fun vs H Q E => ∃ ds S w, vs.length = np ∧ ds.length = np ∧ Reps T w ds vs ∧ StoreOk T S w H ∧ Post T (RV T) (WE E) [] w Q (r ds S)
section
variable {T : Tab} {P : Prog} {wf : Nat}
/-- the exception's tree at a def's end -/
theorem xrep_cut {w : Wd} {S : Store} {H : Hp} {n : Nat} {c : Nat} {fs fs' : List (Nat × D)} {cls : Value} {dx : Option Addr} (so : StoreOk T S w H) (e : frzF (frzC S n 5) n fs = some fs') (x : XRep T w c fs cls dx) : XRep T (w.cut n H) c fs' cls dx := by
  obtain ⟨C, d, hs, h1, h2, h3, h4, h5⟩ := x
  exact ⟨C, d, hs, h1, h2, h3, cut_st so h4, frzF_rep so (frzC_ok so 5) e h5⟩
theorem leave_ok {keep : Bool} {q : SRes} {w : Wd} {n : Nat} {Q : VK} {E : XK} (hn : w.μ.length = n) (p : Post T (RV T) (WE E) [] w Q (leave keep n q)) : PostS T (WE E) w { nx := fun _ H' => Q .non H', rt := Q } q := by
  cases q with
  | nx E1 S1 =>
    intro σ H w1 l eo so
    have rn : Rep T w1 .non .non := by simp only [Rep]
    cases keep with
    | true => exact p .non H w1 l so rn
    | false => exact freeze_ok so l hn rn p
  | ret d S1 =>
    intro v H w1 l so rd
    cases keep with
    | true => exact p v H w1 l so rd
    | false => exact freeze_ok so l hn rd p
  | exc c fs E1 S1 =>
    intro cls dx σ H w1 l eo so x
    simp only [leave] at p
    cases keep with
    | true => exact p cls dx H w1 l so x
    | false =>
      simp only [Bool.false_eq_true, if_false] at p
      split at p
      · exact p cls dx H w1 l so x
      · split at p
        · rename_i hu
          split at p
          · rename_i fs' e
            exact p cls dx H (w1.cut n H) (cut_le so l hn) (cut_so so hu) (xrep_cut so e x)
          · exact p.elim
        · exact p.elim
  | brk E1 S1 => exact p.elim
  | cnt E1 S1 => exact p.elim
  | bad => exact p.elim
theorem start_env {w : Wd} {N : List Str} {np : Nat} : ∀ {ds : List D} {vs : List V}, Reps T w ds vs → ds.length = np → np ≤ N.length → EnvOk T w (L2.start N vs) (ds.map some ++ List.replicate (N.length - np) none) := by
  intro ds vs r hl hn
  have hv : vs.length = np := by rw [r.length]; exact hl
  refine ⟨by unfold L2.start; simp [hv, hl], fun i d hi => ?_⟩
  unfold L2.start
  by_cases h : i < np
  · rw [List.getElem?_append_left (by simpa [hl] using h), List.getElem?_map] at hi
    cases z : ds[i]? with
    | none => rw [z] at hi; cases hi
    | some d' =>
      rw [z] at hi
      cases hi
      obtain ⟨v, h1, h2⟩ := r.get z
      exact ⟨v, by rw [List.getElem?_append_left (by simpa [hv] using h), List.getElem?_map, h1]; rfl, h2⟩
  · rw [List.getElem?_append_right (by simp [hl]; omega)] at hi
    simp only [List.getElem?_replicate] at hi
    split at hi <;> cases hi
/-- a def of the module and its tree -/
structure DefAt (T : Tab) (mg : Str → Option Value) (P : Prog) (f : Nat) (a : Addr) (fd : FuncData) (N ps : List Str) (qual : Str) (body : List Stmt) (scope : Scope) (cdv : Value) (di : DefI) : Prop where
  at_ : P.defs[f]? = some di
  np : ps.length = di.np
  ns : N.length = di.ns
  scp : FnScope N ps scope
  lk : ∃ (oc : Value) (od : Option Addr) (name : Str) (params : Arguments) (dV kV doc pm ct : Value) (an : Option Addr) (osl : Array (Option Value)), fd = PySem.W.fnOf name qual params body scope dV kV doc pm an cdv ct ∧ T.K.lookup a = some ⟨oc, od, .func fd, osl⟩
  cd : PySem.W.codeIn T.K cdv qual = true
  bd : Binds T.K fd ps []
/-- a context of this run -/
structure Same (T : Tab) (prog : Program) (w0 : World) (mg : Str → Option Value) (base : Heap) (X : Cx) : Prop where
  prog : X.prog = prog
  w : X.w = w0
  K : X.K = T.K
  mg : X.mg = mg
  base : X.base = base
/-- nothing is called -/
def NoCall (C : Ctx) : Prop := ∀ f ds S, C.call f ds S = .bad
/-- a def's frame -/
structure Fra (X : Cx) : Prop where
  st : X.stack = X.env :: X.outer
  fr : X.env.frame = some X.env.locals
  ex : X.ex = []
/-- in every context of this run that has the room -/
def Uni (T : Tab) (prog : Program) (w0 : World) (mg : Str → Option Value) (base : Heap) (C : Ctx) (k : Nat) : Prop :=
  ∀ (X : Cx) (W : WX), Same T prog w0 mg base X → Takes X W → X.A.guards = some [] → Rm (k + 4) X.A → (NoCall C ∨ X.A.handled = none) → Hy T X W C k
/-- the body does what the tree says, in whatever context -/
def BodyOk (T : Tab) (prog : Program) (w0 : World) (mg : Str → Option Value) (base : Heap) (P : Prog) (wf : Nat) (di : DefI) (N : List Str) (body : List Stmt) (scope : Scope) : Prop :=
  ∀ (X : Cx) (W : WX) (C : Ctx) (k : Nat), Same T prog w0 mg base X → Hx X ⟨N, scope, true, true⟩ → Takes X W → PassesOwn (model X.prog X.w) X.A X.env X.xe → Fra X → C.P = P → C.wf = wf → X.A.guards = some [] → Room (k + 4) X.A → Uni T prog w0 mg base C k → PSs X body (tS T W (execs C di.body))
variable {prog : Program} {w0 : World} {mg : Str → Option Value} {base : Heap}
/-- the defs of fuel n -/
def Defs (T : Tab) (P : Prog) (wf : Nat) (prog : Program) (w0 : World) (mg : Str → Option Value) (base : Heap) (n : Nat) : Prop :=
  ∀ f a, T.fa f = some a → ∃ fd ps di, P.defs[f]? = some di ∧ ps.length = di.np ∧ FnG prog w0 T.K mg base (6 * n) a fd ps (spF T di.np (run P wf n f)) ∧ Binds T.K fd ps []
theorem post_we {r : Res D} {W : WX} {σ : L2.St} {w : Wd} {Q : VK} (p : Post T (RV T) W σ w Q r) : Post T (RV T) (WE fun cls d H => W cls d σ H) [] w Q r := by
  cases r with
  | ok d S => exact p
  | exc c fs S => exact p
  | bad => exact p
theorem callOk_of {X : Cx} {W : WX} {C : Ctx} {n : Nat} (ih : Defs T P wf prog w0 mg base n) (h1 : X.prog = prog) (h2 : X.w = w0) (h3 : X.K = T.K) (h4 : X.mg = mg) (h5 : X.base = base) (tk : Takes X W) (hc : C.call = run P wf n) (hgd : X.A.guards = some []) (hhd : X.A.handled = none) : CallOk T X W C (6 * n) := by
  intro A sb hg pins s σ H Q vs us ds S w f a I r rd so ha p
  subst h1 h2 h4 h5
  obtain ⟨fd, ps, di, hd, hps, F, hb⟩ := ih f a ha
  rw [hc] at p
  have hl : ds.length = di.np := by
    cases n with
    | zero => exact p.elim
    | succ n =>
      simp only [run, hd] at p
      by_cases h : ds.length == di.np
      · exact beq_iff_eq.mp h
      · rw [if_neg h] at p; exact p.elim
  have hsp : spF T di.np (run P wf n f) vs H Q (fun cls d H => W cls d σ H) := ⟨ds, S, w, by rw [rd.length]; exact hl, hl, rd, so, post_we p⟩
  have e0 : Env0 X.prog X.w T.K X.mg X.base A X.stack s H := by
    have e := I.env0
    rw [h3] at e
    exact ⟨by rw [sb.fr]; exact e.frames, e.mod, e.bs, e.bsz, e.funs, e.frf, e.hok, e.bare⟩
  have hlu : us.length = ps.length := by rw [← r.length, rd.length, hl, hps]
  have b := hb s us (by have := I.kIn; rw [h3] at this; exact this) (by rw [List.append_nil]; exact hlu)
  rw [List.append_nil] at b
  refine codeAny_mono (F.run A X.stack s H ⟨us, []⟩ us vs Q _ (sb.room.room (sb.hd.trans hhd)) (hg.trans hgd) e0 b r hsp) fun r s' hq => ?_
  cases r with
  | error e => exact L2.passAt tk σ pins H s e s' I hq
  | ok fl =>
    cases fl with
    | ret u => exact I.after hq
    | next => exact False.elim hq
    | brk => exact False.elim hq
    | cont => exact False.elim hq
theorem defs_ok (hT : TabOk T P) (hD : ∀ f a, T.fa f = some a → ∃ fd N ps qual body scope cdv di, DefAt T mg P f a fd N ps qual body scope cdv di ∧ BodyOk T prog w0 mg base P wf di N body scope) : ∀ n, Defs T P wf prog w0 mg base n
  | 0 => fun f a ha => by
    obtain ⟨fd, N, ps, qual, body, scope, cdv, di, dd, _⟩ := hD f a ha
    refine ⟨fd, ps, di, dd.at_, dd.np, ⟨fun vs H Q E ⟨ds, S, w, hl, _⟩ => hl.trans dd.np.symm, fun A outer s H args us vs Q E _ _ _ _ _ ⟨ds, S, w, _, _, _, _, p⟩ => p.elim⟩, dd.bd⟩
  | n + 1 => fun f a ha => by
    have ih := defs_ok hT hD n
    obtain ⟨fd, N, ps, qual, body, scope, cdv, di, dd, bo⟩ := hD f a ha
    refine ⟨fd, ps, di, dd.at_, dd.np, ?_, dd.bd⟩
    obtain ⟨oc, od, name, params, dV, kV, doc, pm, ct, an, osl, rfl, lk⟩ := dd.lk
    refine fn_ofG (k := 6 * n + 5) lk dd.cd dd.scp (fun vs H Q E ⟨ds, S, w, hl, _⟩ => hl.trans dd.np.symm) fun A outer s H vs Q E hroom hg ⟨ds, S, w, hl1, hl2, rd, so, p⟩ => ?_
    let C : Ctx := ⟨P, run P wf n, wf⟩
    have tk : Takes (cxOf (L2.CX prog w0) prog w0 T.K mg base N qual scope a cdv A outer s H E) (WE E) := takes_of rfl rfl rfl rfl
    have hgd : (cxOf (L2.CX prog w0) prog w0 T.K mg base N qual scope a cdv A outer s H E).A.guards = some [] := deeper_guards.trans hg
    refine ⟨tS T (WE E) (execs C di.body), bo _ (WE E) C (6 * n) ⟨rfl, rfl, rfl, rfl, rfl⟩ ⟨rfl, dd.scp.nd, rfl, fun _ _ => rfl, fun _ => rfl⟩ tk (passes_of rfl) ⟨rfl, rfl, rfl⟩ rfl rfl hgd (hroom.mono (by omega)) (fun X W sm tk hg hr hh => ⟨sm.K, hT, hr, ?_, hg⟩), ?_⟩
    · rcases hh with hn | hh
      · exact fun A sb hg pins s σ H Q vs us ds S w f a I r rd so ha p => by rw [hn] at p; exact p.elim
      · exact callOk_of ih sm.prog sm.w sm.K sm.mg sm.base tk rfl hg hh
    have hle : di.np ≤ N.length := by
      have h := congrArg List.length dd.scp.pre
      rw [List.length_take, dd.np] at h
      omega
    have p' : Post T (RV T) (WE E) [] w Q (leave di.keep S.length (execs C di.body (ds.map some ++ List.replicate (N.length - di.np) none) S)) := by
      have p := p
      simp only [run, dd.at_] at p
      rw [if_pos (beq_iff_eq.mpr hl2)] at p
      rw [dd.ns]
      exact p
    exact ⟨_, S, w, start_env rd hl2 hle, so, leave_ok so.len p'⟩
end
end DV
end
section
/-! An own exception made by a keyword. -/
set_option Elab.async false
set_option linter.all false
set_option maxRecDepth 100000
set_option maxHeartbeats 1000000
namespace DV
open PySem PySem.W PySem.Calls PySem.Spec PyProof.Rows L2 Builtin.ObjectAttr
section
variable {prog : Program} {w : World} {M : Model} {A : Around} {E : Value → Shared → Prop} {R : Result → Shared → Prop} {h : Heap} {g : Array GenState} {d : Drawn} {t : Nat} {os : OsState}
variable {nm q : Str} {C N : Addr} {bs bm bmB : List Value} {hdct : Bool} {sn : List Str} {sub : List Value} {ab : Bool} {col : Option Bool} {dd : Option Addr} {k0 k1 k2 k3 k5 : Option Value} {B newId initId : String} {kw : List (Str × Value)}
/-- any keywords are let by (*args, **kwargs) -/
theorem check_any_args (f sh full short : String) (r : Manifest.Receiver) (n : Nat) (ks : List Str) : Bind.check ⟨.any, f, sh, r, [⟨"args", .varPos, false⟩, ⟨"kwargs", .varKw, false⟩]⟩ full short n ks = pure () := by
  simp [Bind.check, Bind.checkCount, Bind.isPositional]
theorem xk_check_new (F : ExcBaseFacts B newId initId bmB) (hT : ∀ X : String, bm.contains (.type X) = bmB.contains (.type X)) {Q : Unit → Shared → Prop}
    (hC : h.get? C = some (excClassObj nm q C N bs bm hdct sn sub ab col dd k0 k1 k2 k3 k5 newId)) (hq : Q () ⟨h, g, d, t, os⟩) : wpAny M A (checkBuiltinCall newId ⟨[.ref C], kw⟩) Q E ⟨h, g, d, t, os⟩ := by
  have c1 : (Value.ref C :: bm).contains (.type B) = true := by rw [List.contains_cons, hT, F.hasB, Bool.or_true]
  have c2 := F.noStar
  simp only [checkBuiltinCall, F.newKind, F.newSplit, F.newRow]
  repeat (first | refine wpAny_loadPart_at hC ?_ | (refine wpAny_isSubtype_exc hC ?_; rw [c1]) | refine wpAny_staticBase_exc hC ?_ | refine wpAny_madeBy_exc hC ?_ | simp only [bne_self_eq_false, Bool.false_eq_true, if_false] | wp_step)
  exact hq
theorem xk_new (F : ExcBaseFacts B newId initId bmB) (hT : ∀ X : String, bm.contains (.type X) = bmB.contains (.type X))
    (hC : h.get? C = some (excClassObj nm q C N bs bm hdct sn sub ab col dd k0 k1 k2 k3 k5 newId))
    (hq : R (.ok (.ret (.ref (h.objs.size + 1)))) ⟨(h.push (kdv_tup [])).push (HandSPX.excO C h.objs.size), g, d, t, os⟩) :
    codeAny (model prog w) A (.builtin newId ⟨[.ref C], kw⟩) R ⟨h, g, d, t, os⟩ := by
  have c0 := F.ends
  have c1 : (Value.ref C :: bm).contains (.type B) = true := by rw [List.contains_cons, hT, F.hasB, Bool.or_true]
  have c2 : (Value.ref C :: bm).contains (.type "AttributeError") = false := by rw [List.contains_cons, hT, F.noAttr]; rfl
  have c3 : (Value.ref C :: bm).contains (.type "NameError") = false := by rw [List.contains_cons, hT, F.noName]; rfl
  refine codeAny_builtinAt F.entry ?_
  unfold Builtin.«BaseException.__new__»
  refine _root_.PySem.wpAt_bind ?_
  show _root_.PySem.wpAt _ _ _ (stack >>= _) _ _ _
  refine _root_.PySem.wpAt_bind (_root_.PySem.wpAt_stack fun p below => _root_.PySem.wpAt_of_wpAny ?_)
  wp_walk
  refine _root_.PySem.wpAt_of_wpAny ?_
  rw [F.owner]
  repeat (first | with_reducible refine wpAny_madeHere_exc F.canon hC ?_ | with_reducible refine wpAny_loadPart_at hC ?_ | (with_reducible refine wpAny_isSubtype_exc hC ?_; first | rw [c1] | rw [c2] | rw [c3]) | wp_step)
  show R _ _
  rw [Heap.size_push]
  exact hq
theorem xk_type_call {fI : Addr} {Q : Fin → Shared → Prop} (F : ExcBaseFacts B newId initId bmB) (hT : ∀ X : String, bm.contains (.type X) = bmB.contains (.type X))
    (hC : h.get? C = some (excClassObj nm q C N bs bm hdct sn sub ab col dd k0 k1 k2 k3 k5 newId))
    (hi : Looks (model prog w) h (typeLookup (.ref C) "__init__") (some (.ref fI))) (hb : ∀ self, Looks (model prog w) h (bindSpecial (.ref fI) self) (.ref fI, [self]))
    (hq : codeAny (model prog w) A (.call (.ref fI) ⟨[.ref (h.objs.size + 1)], kw⟩)
      (fun r s' => match r with | .ok (.ret v) => v = .none ∧ Q (.done (.ret (.ref (h.objs.size + 1)))) s' | .ok _ => False | .error e => E e s')
      ⟨(h.push (kdv_tup [])).push (HandSPX.excO C h.objs.size), g, d, t, os⟩) :
    wpAny (model prog w) A (Builtin.«type.__call__» ⟨[.ref C], kw⟩) Q E ⟨h, g, d, t, os⟩ := by
  repeat (first | with_reducible refine wpAny_loadPart_at hC ?_ | with_reducible refine wpAny_madeBy_exc hC ?_ | wp_step)
  refine codeAny_call_builtin_code (Code.quiet_builtin _ F.quiet) (xk_check_new F hT hC ?_)
  refine xk_new F hT hC ?_
  show wpAny _ _ _ _ _ _
  have k : ∀ b o, h.get? b = some o → ((h.push (kdv_tup [])).push (HandSPX.excO C h.objs.size)).get? b = some o := fun b o e => Heap.get?_push_of_some _ (Heap.get?_push_of_some _ e)
  have cC := k _ _ hC
  have ce : ((h.push (kdv_tup [])).push (HandSPX.excO C h.objs.size)).get? (h.objs.size + 1) = some (HandSPX.excO C h.objs.size) := by heap_get
  have cc : (Value.ref C :: bm).contains (.ref C) = true := by simp
  have i1 := hi.keeps k
  have b1 := (hb (.ref (h.objs.size + 1))).keeps k
  unfold isInstance
  repeat (first | with_reducible refine wpAny_loadPart_at ce ?_ | (with_reducible refine wpAny_isSubtype_exc cC ?_; rw [cc]) | wp_step)
  show wpAny _ _ (typeLookup (.ref C) _) _ _ _
  refine i1.at ?_
  refine wpAny_holding (wpAny_bind (b1.at ?_))
  refine wpAny_bind (wpAny_call (codeAny_mono hq fun r s' z => ?_))
  rcases r with e | (v | _ | _ | _) <;> first | exact z | exact z.elim | skip
  obtain ⟨rfl, z⟩ := z
  first
    | exact wpAny_pure (wpAny_pure z)
    | (wp_walk; exact z)
theorem xk_check_call {Q : Unit → Shared → Prop} (hC : h.get? C = some (excClassObj nm q C N bs bm hdct sn sub ab col dd k0 k1 k2 k3 k5 newId))
    (hq : Q () ⟨h, g, d, t, os⟩) : wpAny M A (checkBuiltinCall "type.__call__" ⟨[.ref C], kw⟩) Q E ⟨h, g, d, t, os⟩ := by
  have c0 := tc_sub
  have cT : (⟨h, g, d, t, os⟩ : Shared).TypeIs (.ref C) "type" := ⟨_, hC, rfl⟩
  simp only [checkBuiltinCall, tc_kind, tc_split]
  repeat (any_goals (first | assumption | with_reducible refine wpAny_loadPart_at hC ?_ | with_reducible refine wpAny_onRaise ?_ | with_reducible refine wpAny_map ?_ | wp_step))
theorem xk_call {fI : Addr} (F : ExcBaseFacts B newId initId bmB) (hT : ∀ X : String, bm.contains (.type X) = bmB.contains (.type X))
    (hC : h.get? C = some (excClassObj nm q C N bs bm hdct sn sub ab col dd k0 k1 k2 k3 k5 newId))
    (hi : Looks (model prog w) h (typeLookup (.ref C) "__init__") (some (.ref fI))) (hb : ∀ self, Looks (model prog w) h (bindSpecial (.ref fI) self) (.ref fI, [self]))
    (hq : codeAny (model prog w) (A.under (.builtin "type.__call__" ⟨[.ref C], kw⟩)) (.call (.ref fI) ⟨[.ref (h.objs.size + 1)], kw⟩) (InitBack (h.objs.size + 1) R)
      ⟨(h.push (kdv_tup [])).push (HandSPX.excO C h.objs.size), g, d, t, os⟩) :
    codeAny (model prog w) A (.call (.ref C) ⟨[], kw⟩) R ⟨h, g, d, t, os⟩ := by
  have f1 := tc_lookup
  have f2 := tc_bind (.ref C)
  have cT : (⟨h, g, d, t, os⟩ : Shared).TypeIs (.ref C) "type" := ⟨_, hC, rfl⟩
  refine codeAny_of_tree ?_
  show wpAny _ _ (callAny (.ref C) _) _ _ _
  repeat (any_goals (first | assumption | with_reducible refine wpAny_loadPart_at hC ?_ | wp_step))
  refine ⟨rfl, ?_⟩
  refine codeAny_call_builtin_at (Code.quiet_builtin _ (by decide +kernel)) entry_typeCall (xk_check_call hC (xk_type_call F hT hC hi hb ?_))
  refine codeAny_mono hq fun r s' z => ?_
  rcases r with e | (v | _ | _ | _) <;> exact z
end
section
variable {X : Cx} {pins : List (Addr × Obj)} {σ : L2.St} {H : Hp} {s : Shared}
theorem run_xcK {C : Addr} {f x : Str} {v : V} {u : Value} {Q : Value → Shared → Prop} {E : Value → Shared → Prop} (T : XCls X.prog X.K C f x) (hms : X.mg "super" = none) (hr : X.A.depth + 1 < recursionLimit) (I : Inv X pins σ H s) (ru : RelV v u)
    (hq : ∀ a dx G h' tk, Made X pins σ H C f v a dx G h' s.gens s.drawn tk s.os → Q (.ref a) ⟨h', s.gens, s.drawn, tk, s.os⟩) :
    wpAny (model X.prog X.w) X.A (call (.ref C) [] [(x, u)]) Q E s := by
  obtain ⟨fI, fd, TI, iC, tI, _, hb⟩ := T.i
  obtain ⟨B, newId, initId, bmB, FB, KF, SF, q1, q2, hB, hsup⟩ := T.c.base
  obtain ⟨nm, N', qn, bs, bm, hdct, sn, sub, ab, col, dd, k0, k1, k2, k3, k5, hC, hT⟩ := PySem.W.excInit_of I.kIn q1
  have hKe : X.K.lookup (s.heap.objs.size + 1) = none := by
    cases z : X.K.lookup (s.heap.objs.size + 1) with
    | none => rfl
    | some o =>
      have := Heap.lt_size (I.kIn _ _ z)
      exact absurd (Nat.lt_of_succ_lt this) (Nat.lt_irrefl _)
  have e0 := I.env0
  obtain ⟨hp, g, dr, tk, os⟩ := s
  have kk : ∀ b o, hp.get? b = some o → ((hp.push (PySem.W.kdv_tup [])).push (PySem.HandSPX.excO C hp.objs.size)).get? b = some o := fun b o e => Heap.get?_push_of_some _ (Heap.get?_push_of_some _ e)
  have kb : ∀ b o, X.base.get? b = some o → ((hp.push (PySem.W.kdv_tup [])).push (PySem.HandSPX.excO C hp.objs.size)).get? b = some o := fun b o e => kk b o (e0.bs b o e).1
  have hget : ((hp.push (PySem.W.kdv_tup [])).push (PySem.HandSPX.excO C hp.objs.size)).get? (hp.objs.size + 1) = some (PySem.HandSPX.excO C hp.objs.size) := by heap_get
  obtain ⟨mb, hmb, hmb2⟩ := e0.mod.blt
  refine wpAny_call (xk_call FB hT hC (PySem.W.looks_findIn I.kIn iC) (fun self => PySem.W.bind_fn I.kIn self tI)
    (xc_init T.c TI (e := hp.objs.size + 1) (t0 := hp.objs.size) (u := u) (e0.mod.kin.keeps kb) (e0.mod.nolimit.keeps kb) (e0.mod.glob.keeps kb) ⟨mb, hmb.keeps kb, hmb2⟩ hms (by rw [make_depth]; exact hr) hget hKe (hb _ (.ref (hp.objs.size + 1)) u)
      fun h' tk' dx t1 k' d' ne' e' n' => ?_))
  show Value.none = .none ∧ _
  refine ⟨rfl, ?_⟩
  have hne : ∀ {b : Addr} {o : Obj}, hp.get? b = some o → b ≠ hp.objs.size + 1 := fun {b o} z y => by
    have := Heap.lt_size z
    rw [y] at this
    exact absurd (Nat.lt_of_succ_lt this) (Nat.lt_irrefl _)
  obtain ⟨G, g1, g2⟩ := restrict h' fun b => decide (b ≠ hp.objs.size + 1)
  have gk : ∀ b, b ≠ hp.objs.size + 1 → G.get? b = h'.get? b := fun b hb => g1 b (decide_eq_true hb)
  have ge : G.get? (hp.objs.size + 1) = none := g2 _ (by simp)
  have sz : hp.objs.size ≤ dx := by
    have h1 : ((hp.push (PySem.W.kdv_tup [])).push (PySem.HandSPX.excO C hp.objs.size)).objs.size ≤ dx := d'
    rw [Heap.size_push, Heap.size_push] at h1
    exact Nat.le_trans (Nat.le_add_right _ 2) h1
  have hnd : H dx = none := I.hok.fresh sz
  have hna : H (hp.objs.size + 1) = none := I.hok.fresh (Nat.le_succ _)
  have hpd : hp.get? dx = none := Heap.get?_none_of_le sz
  refine hq _ dx G h' tk' ⟨?_, fun b o z => ?_, ge, ⟨t1, e'⟩, by rw [upd_ne (Ne.symm ne')]; exact hna, hnd, I.bare⟩
  · refine Inv.laidN (s := ⟨hp, g, dr, tk, os⟩) I (fun b o z => ?_) hpd hnd ?_
    · rw [gk b (hne z)]
      exact k' b o (hne z) (kk b o z)
    · refine xd_ok (n'.at fun o y => (gk dx ne').trans y) fun y => ?_
      show RelO (List.lookup y [(f, v)]) _
      by_cases hy : y = f
      · subst hy
        simp only [List.lookup, beq_self_eq_true, if_true]
        exact ru
      · have : (y == f) = false := by simpa using hy
        simp only [List.lookup, this, if_neg hy]
        exact True.intro
  · by_cases hba : b = hp.objs.size + 1
    · rw [hba, ge] at z; cases z
    · exact (gk b hba).symm.trans z
/-- X(x = e) as a value -/
theorem pe_xcK {C : Addr} {f x n : Str} {e : Expr} {te : TE} {p kpos pos : Pos} (T : XCls X.prog X.K C f x) (hms : X.mg "super" = none) (hr : X.A.depth + 1 < recursionLimit) (hg : Gl X n) (hm : X.mg n = some (.ref C)) (ha : PE X e te)
    (hdb : (n == ("__debug__" : Str)) = false := by decide) :
    PE X (.Call (.Name n p) [] [⟨some x, e, kpos⟩] pos) (fun σ H Q => te σ H fun y H1 => ∃ v, [y] = [v] ∧ ∀ d a, H1 d = none → upd H1 d (.xd [(f, v)]) a = none → Q (.ref a) (upd (upd H1 d (.xd [(f, v)])) a (EV a C d))) := by
  refine ⟨fun pins s σ H Q I h => ?_⟩
  refine wpAny_Call_Name_kw (ld_glob I hg hm ?_ hdb)
  have ha2 := (pk_cons (nm := some x) (kpos := kpos) ha pk_nil).run pos pins s σ H (fun vs H1 => ∃ v, vs = [v] ∧ ∀ d a, H1 d = none → upd H1 d (.xd [(f, v)]) a = none → Q (.ref a) (upd (upd H1 d (.xd [(f, v)])) a (EV a C d))) I ?_
  · refine PySem.W.callWith_KW0 (h₀ := X.base) I.ok.mod.kin T.k rfl (thn ha2 fun us s1 ⟨vs, H1, I1, r1, v, hv, q1⟩ => ⟨I1.kIn, ?_⟩) rfl
    subst hv
    cases r1 with
    | @cons _ u _ ur ra rw' =>
      cases rw'
      refine run_xcK T hms hr I1 ra fun a dx G h' tk m => ?_
      obtain ⟨t1, at1⟩ := m.at_
      have J := Inv.laidN (o := EV a C dx) (h' := h') (t' := tk) m.inv m.keep m.gone m.na (EV.ok at1 rfl rfl rfl)
      exact ⟨.ref a, _, J, rfl, q1 dx a m.nd m.na⟩
  · exact h
end
end DV
end
section
/-! Exceptions: made, raised, caught, by the evaluator. -/
set_option Elab.async false
set_option linter.all false
set_option maxRecDepth 100000
set_option maxHeartbeats 1000000
namespace DV
open PySem PySem.Spec PyProof.Rows L2
/-- what is known of the exception classes -/
structure XTab (T : Tab) (prog : Program) (P : Prog) : Prop where
  cl : ∀ c C f, T.xa c = some C → (P.cls[c]?).bind (·.fld) = some f → XCls prog T.K C (T.nm f) (T.nm f)
  xm : ∀ c C e E q, T.xa c = some C → T.xa e = some E → P.cls[c]? = some q → PySem.W.exmOne T.K (.ref C) (.ref E) = some (q.sup.contains e)
section
variable {T : Tab} {X : Cx} {W : WX} {C : Ctx} {k : Nat} {prog : Program} {P : Prog} {e : Expr} {ra : Env → Store → Res D}
theorem xc_rep {w : Wd} {S : Store} {H : Hp} (so : StoreOk T S w H) {c f : Nat} {d : D} {v : V} {Ca dx : Addr} (hc : T.xa c = some Ca) (rd : Rep T w d v) (hd : H dx = none) :
    ∃ w', Wd.le w w' ∧ StoreOk T S w' (upd H dx (.xd [(T.nm f, v)])) ∧ XRep T w' c [(f, d)] (.ref Ca) (some dx) := by
  obtain ⟨so1, l1⟩ := so.new (o := .xd [(T.nm f, v)]) hd
  refine ⟨_, l1, so1, Ca, dx, [(T.nm f, v)], hc, rfl, rfl, upd_same, ?_⟩
  simp only [RepF]
  exact ⟨v, [], rfl, rd.mono l1, rfl⟩
theorem exo_rep {w : Wd} {S : Store} {H : Hp} (so : StoreOk T S w H) {c : Nat} {fs : List (Nat × D)} {cls : Value} {d : Option Addr} (x : XRep T w c fs cls d) {a : Addr} (ha : H a = none) :
    ∃ Ca dd w', cls = .ref Ca ∧ d = some dd ∧ Wd.le w w' ∧ StoreOk T S w' (upd H a (EV a Ca dd)) ∧ Rep T w' (.exo c fs) (.ref a) := by
  obtain ⟨Ca, dd, hs, h1, rfl, rfl, h2, h3⟩ := x
  obtain ⟨so1, l1⟩ := so.new (o := EV a Ca dd) ha
  refine ⟨Ca, dd, _, rfl, rfl, l1, so1, ?_⟩
  simp only [Rep]
  exact ⟨a, Ca, dd, hs, rfl, h1, upd_same, l1.G.st _ _ rfl h2, h3.mono l1⟩
/-- raise X(e) -/
theorem ds_rse {c f : Nat} {n : Str} {p pos pos' : Pos} {Ca : Addr} (hx : XTab T X.prog P) (hK : X.K = T.K) (hca : T.xa c = some Ca) (hf : (P.cls[c]?).bind (·.fld) = some f) (hms : X.mg "super" = none) (hr : X.A.depth + 1 < recursionLimit) (hc : X.calm = true) (tk : Takes X W)
    (hg : Gl X n) (hm : X.mg n = some (.ref Ca)) (ha : PE X e (tE T W ra)) (hpl : plainX e = true) (hdb : (n == ("__debug__" : Str)) = false) :
    PS X (.Raise (some (.Call (.Name n p) [e] [] pos)) none pos') (tS T W fun E S => toS E (ra E S) fun d S' => .exc c [(f, d)] E S') := by
  have hX := hx.cl c Ca f hca hf
  rw [← hK] at hX
  have s1 := star_cons (env := X.env) (es := []) hpl
  refine PS.imp (ps_raise (pos := pos') hc tk (pmk_xc (p := p) (pos := pos) hX hms hr hg hm (pa_cons ha pa_nil s1) hdb s1)) fun D σ H h => ?_
  refine (toS_step (f := fun E d S' => .exc c [(f, d)] E S') h).mono fun v H1 ⟨E, d, S, w, eo, so, rd, p⟩ => ?_
  refine ⟨v, rfl, fun dx hdx => ?_⟩
  obtain ⟨w', l1, so1, xr⟩ := xc_rep (f := f) so hca rd hdx
  exact p _ _ σ _ w' l1 (eo.mono l1) so1 xr
/-- X(e) as a value -/
theorem de_xmk {c f : Nat} {n : Str} {p pos : Pos} {Ca : Addr} (hx : XTab T X.prog P) (hK : X.K = T.K) (hca : T.xa c = some Ca) (hf : (P.cls[c]?).bind (·.fld) = some f) (hms : X.mg "super" = none) (hr : X.A.depth + 1 < recursionLimit)
    (hg : Gl X n) (hm : X.mg n = some (.ref Ca)) (ha : PE X e (tE T W ra)) (hpl : plainX e = true) (hdb : (n == ("__debug__" : Str)) = false) :
    PE X (.Call (.Name n p) [e] [] pos) (tE T W fun E S => (ra E S).bind fun x S' => .ok (.exo c [(f, x)]) S') := by
  have hX := hx.cl c Ca f hca hf
  rw [← hK] at hX
  have s1 := star_cons (env := X.env) (es := []) hpl
  refine PE.imp (pe_xc (p := p) (pos := pos) hX hms hr hg hm (pa_cons ha pa_nil s1) hdb s1) fun σ H Q h => ?_
  refine (tR_step (R := RV T) (R' := RV T) (r := ra) h).mono fun v H1 ⟨d, S1, w1, so1, rd, p1⟩ => ?_
  refine ⟨v, rfl, fun dx a hdx ha => ?_⟩
  obtain ⟨w2, l2, so2, xr⟩ := xc_rep (f := f) so1 hca rd hdx
  obtain ⟨Cb, dd, w3, e1, e2, l3, so3, r3⟩ := exo_rep so2 xr ha
  cases e1
  cases e2
  exact p1 _ _ _ (l2.trans l3) so3 r3
/-- X(x = e) as a value -/
theorem de_xmkK {c f : Nat} {n x : Str} {p kpos pos : Pos} {Ca : Addr} (hx : XTab T X.prog P) (hf : (P.cls[c]?).bind (·.fld) = some f) (hn : T.nm f = x) (hK : X.K = T.K) (hca : T.xa c = some Ca) (hms : X.mg "super" = none) (hr : X.A.depth + 1 < recursionLimit)
    (hg : Gl X n) (hm : X.mg n = some (.ref Ca)) (ha : PE X e (tE T W ra)) (hdb : (n == ("__debug__" : Str)) = false) :
    PE X (.Call (.Name n p) [] [⟨some x, e, kpos⟩] pos) (tE T W fun E S => (ra E S).bind fun x S' => .ok (.exo c [(f, x)]) S') := by
  have hX := hx.cl c Ca f hca hf
  rw [← hK, hn] at hX
  refine PE.imp (pe_xcK (p := p) (kpos := kpos) (pos := pos) hX hms hr hg hm ha hdb) fun σ H Q h => ?_
  refine (tR_step (R := RV T) (R' := RV T) (r := ra) h).mono fun v H1 ⟨d, S1, w1, so1, rd, p1⟩ => ?_
  refine ⟨v, rfl, fun dx a hdx ha => ?_⟩
  rw [← hn] at ha ⊢
  obtain ⟨w2, l2, so2, xr⟩ := xc_rep (f := f) so1 hca rd hdx
  obtain ⟨Cb, dd, w3, e1, e2, l3, so3, r3⟩ := exo_rep so2 xr ha
  cases e1
  cases e2
  exact p1 _ _ _ (l2.trans l3) so3 r3
end
end DV
end
section
/-! try .. except, by the evaluator. -/
set_option Elab.async false
set_option linter.all false
set_option maxRecDepth 100000
set_option maxHeartbeats 1000000
namespace DV
open PySem PySem.Spec PyProof.Rows L2
abbrev W0x : WX := fun _ _ _ _ => False
section
variable {T : Tab} {X : Cx} {W : WX} {C : Ctx} {k : Nat} {prog : Program} {P : Prog}
theorem EnvOk.unset {w : Wd} {σ : L2.St} {E : DV.Env} {i : Nat} (h : EnvOk T w σ E) : EnvOk T w (σ.set i none) (E.set i none) := by
  refine ⟨by simp [h.len], fun j e hj => ?_⟩
  by_cases z : i = j
  · subst z
    by_cases hl : i < E.length
    · rw [List.getElem?_set_self hl] at hj; cases hj
    · rw [List.getElem?_eq_none (by simpa using hl)] at hj; cases hj
  · rw [List.getElem?_set_ne z] at hj
    obtain ⟨v, h1, h2⟩ := h.at_ j e hj
    exact ⟨v, by rw [List.getElem?_set_ne z]; exact h1, h2⟩
theorem post_calm {w : Wd} {D : Ends} {r : SRes} (p : PostS T W w D r.calm) : PostS T W0x w D r := by
  cases r with
  | exc c fs E S => exact p.elim
  | _ => exact p
theorem post_unset {w : Wd} {D : Ends} {i : Nat} {r : SRes} (p : PostS T W w D (r.calm.unset i)) : PostS T W0x w (unE (some i) D) r := by
  cases r with
  | exc c fs E S => exact p.elim
  | bad => exact p
  | nx E S => exact fun σ H w1 l1 eo so => p (σ.set i none) H w1 l1 eo.unset so
  | brk E S => exact fun σ H w1 l1 eo so => p (σ.set i none) H w1 l1 eo.unset so
  | cnt E S => exact fun σ H w1 l1 eo so => p (σ.set i none) H w1 l1 eo.unset so
  | ret d S => exact p
/-- a clause's classes -/
inductive CsOk (T : Tab) : List Nat → CS → Prop
  | one {e : Nat} {E : Addr} : T.xa e = some E → CsOk T [e] (.one (.ref E))
  | tup {es : List Nat} {Es : List Addr} : es.map T.xa = Es.map some → CsOk T es (.tup (Es.map Value.ref))
theorem cs_exm (hx : XTab T prog P) {c : Nat} {Ca : Addr} {q : ClsI} (hc : T.xa c = some Ca) (hq : P.cls[c]? = some q) {cs : List Nat} {cc : CS} (h : CsOk T cs cc) : exmS T.K (.ref Ca) cc = some (cs.any fun k => q.sup.contains k) := by
  cases h with
  | one he => show PySem.W.exmOne T.K _ _ = _; rw [hx.xm c Ca _ _ q hc he hq]; simp
  | @tup es Es he =>
    show PySem.W.exmAny T.K (.ref Ca) (Es.map Value.ref) = _
    induction Es generalizing cs with
    | nil =>
      cases cs with
      | nil => rfl
      | cons a r => simp at he
    | cons E Es ih =>
      cases cs with
      | nil => simp at he
      | cons a r =>
        simp only [List.map_cons, List.cons.injEq] at he
        unfold PySem.W.exmAny
        rw [List.map_cons]
        simp only [hx.xm c Ca a E q hc he.1 hq, ih he.2, List.any_cons]
/-- the clauses as the evaluator has them -/
inductive ClsOk (T : Tab) (rs : List IS → DV.Env → Store → SRes) : List (List Nat × Option Nat × List IS) → List Cl → Prop
  | nil : ClsOk T rs [] []
  | cons {cs : List Nat} {i : Option Nat} {b : List IS} {cc : CS} {hs : List (List Nat × Option Nat × List IS)} {l : List Cl} : CsOk T cs cc → ClsOk T rs hs l → ClsOk T rs ((cs, i, b) :: hs) (⟨cc, i, tS T W0x (rs b)⟩ :: l)
theorem hds_post (hx : XTab T prog C.P) (hK : X.K = T.K) {Dn : Ends} : ∀ {hs : List (List Nat × Option Nat × List IS)} {l : List Cl}, ClsOk T (execs C.quiet) hs l → ∀ {c : Nat} {fs : List (Nat × D)} {E : DV.Env} {S : Store} {w : Wd}, PostS T W w Dn (execsH C hs c fs E S) →
    ∀ (cls : Value) (dx : Option Addr) (σ : L2.St) (H : Hp) (w' : Wd), Wd.le w w' → EnvOk T w' σ E → StoreOk T S w' H → XRep T w' c fs cls dx → wEv X.K W Dn l cls dx σ H := by
  intro hs l h
  induction h with
  | nil =>
    intro c fs E S w p cls dx σ H w' l eo so x
    rw [execsH] at p
    exact p cls dx σ H w' l eo so x
  | @cons cs i b cc hs l hcs hr ih =>
    intro c fs E S w p cls dx σ H w' le eo so x
    rw [execsH.eq_def] at p
    dsimp only at p
    have x' := x
    obtain ⟨Ca, d, hh, hca, rfl, rfl, _, _⟩ := x'
    split at p
    · rename_i q hq
      refine ⟨cs.any fun k => q.sup.contains k, by rw [hK]; exact cs_exm hx hca hq hcs, fun hb a ha => ?_, fun hb => ?_⟩
      · rw [if_pos hb] at p
        obtain ⟨Cb, dd, w2, e1, e2, l2, so2, r2⟩ := exo_rep so x ha
        cases e1
        cases e2
        refine ⟨Ca, d, rfl, rfl, ?_⟩
        cases i with
        | none => exact ⟨E, S, w2, eo.mono l2, so2, post_calm (PostS.mono (le.trans l2) p)⟩
        | some j =>
          dsimp only at p
          split at p
          · exact ⟨E.set j (some (.exo c fs)), S, w2, (eo.mono l2).set r2, so2, post_unset (PostS.mono (le.trans l2) p)⟩
          · exact p.elim
      · rw [if_neg (by rw [hb]; exact Bool.false_ne_true)] at p
        exact ih p _ _ σ H w' le eo so x
    · exact p.elim
theorem ds_try {body : List Stmt} {h₀ : ExceptHandler} {hds : List ExceptHandler} {l : List Cl} {pos : Pos} {bi : List IS} {hs : List (List Nat × Option Nat × List IS)} (hx : XTab T prog C.P) (hK : X.K = T.K) (fr : Fra X) (hN : X.N.Nodup) (tk : Takes X W)
    (hb : ∀ (W : WX) (pn : List (Addr × Obj)) (xe : Value → Shared → Prop), Takes (X.tr pn xe) W → PassesOwn (model X.prog X.w) X.A X.env xe → PSs (X.tr pn xe) body (tS T W (execs C bi)))
    (hh : HdsE X (h₀ :: hds) l) (hl : ClsOk T (execs C.quiet) hs l) : PS X (.Try body (h₀ :: hds) [] [] pos) (tS T W fun E S => exec C (.try_ bi hs) E S) := by
  refine PS.imp (ps_try_ev fr.st fr.fr fr.ex hN tk (tb := fun W => tS T W (execs C bi)) hb hh) fun D σ H ⟨E, S, w, eo, so, p⟩ => ⟨E, S, w, eo, so, ?_⟩
  have p : PostS T W w D (exec C (.try_ bi hs) E S) := p
  rw [exec] at p
  cases z : execs C bi E S with
  | exc c fs E' S' =>
    rw [z] at p
    exact fun cls dx σ H w' l eo so x => hds_post hx hK hl p cls dx σ H w' l eo so x
  | nx E' S' => rw [z] at p; exact p
  | ret d S' => rw [z] at p; exact p
  | brk E' S' => rw [z] at p; exact p
  | cnt E' S' => rw [z] at p; exact p
  | bad => rw [z] at p; exact p
end
end DV
end
section
/-! isinstance. -/
set_option Elab.async false
set_option linter.all false
set_option maxRecDepth 100000
set_option maxHeartbeats 400000
namespace DV
open PySem L2 PyProof.Rows
section
variable {T : Tab} {X : Cx} {W : WX} {C : Ctx} {k : Nat} {P : Prog} {S : Store} {w : Wd} {H : Hp}
theorem kind_rep (ht : TabOk T P) (so : StoreOk T S w H) {d : D} {x : V} {kd : Option Ty} (r : Rep T w d x) (e : kindD S d = some kd) (hx : ∀ c, kd ≠ some (.xcl c)) : ∃ t, tyVal T kd = some t ∧ TyX T.K H x t := by
  have tup : ∀ a xs, SqT T.K H a xs → TyX T.K H (.ref a) (.type "tuple") := fun a xs h => by
    rcases h with (h | ⟨o, h⟩) | ⟨o, its, n, h1, h2, _⟩
    · exact .base (.tup h)
    · exact .fTuple h
    · exact .kTuple h1 h2
  have lst : ∀ a xs, SqL T.K H a xs → TyX T.K H (.ref a) (.type "list") := fun a xs h => by
    rcases h with (h | ⟨o, h⟩) | ⟨o, its, n, h1, h2, _⟩
    · exact .base (.lst h)
    · exact .base (.frz h)
    · exact .kList h1 h2
  have gen : (match seqV S d with
    | some _ => some (some Ty.lst)
    | none => match insV S d with
      | some (c, _) => some (some (Ty.cls c))
      | none => none) = some kd → ∃ t, tyVal T kd = some t ∧ TyX T.K H x t := fun e => by
    split at e
    · rename_i ds hs
      cases e
      obtain ⟨a, xs, rfl, h, _⟩ := seq_rep so r hs
      exact ⟨_, rfl, lst a xs h⟩
    · split at e
      · rename_i c fs hi
        cases e
        obtain ⟨a, Ca, dx, hs, rfl, hc, h, _⟩ := ins_rep so r hi
        obtain ⟨h1, h2, h3, h4⟩ := ht.own c Ca hc
        exact ⟨.ref Ca, by simp [tyVal, hc], .base (.ins h (ht.cls c Ca hc).1 h1 h2 h3 h4)⟩
      · cases e
  cases d with
  | non => cases e; simp only [Rep] at r; subst r; exact ⟨_, rfl, .base .non⟩
  | bl b => cases e; simp only [Rep] at r; subst r; exact ⟨_, rfl, .base (.bl b)⟩
  | int b => cases e; simp only [Rep] at r; subst r; exact ⟨_, rfl, .base (.int b)⟩
  | str b => cases e; simp only [Rep] at r; subst r; exact ⟨_, rfl, .base (.str b)⟩
  | tup ds => cases e; obtain ⟨a, xs, rfl, h, _⟩ := tup_rep so r; exact ⟨_, rfl, tup a xs h⟩
  | ctup ds => cases e; obtain ⟨a, xs, rfl, h, _⟩ := ctup_rep so r; exact ⟨_, rfl, tup a xs h⟩
  | exo c fs => cases e; exact absurd rfl (hx c)
  | _ => exact gen e
theorem kind_ne {S : Store} {d : D} {kd : Option Ty} (e : kindD S d = some kd) (h : ¬ ∃ c fs, d = .exo c fs) : ∀ c, kd ≠ some (.xcl c) := by
  intro c hc
  subst hc
  have gen : (match seqV S d with
    | some _ => some (some Ty.lst)
    | none => match insV S d with
      | some (c, _) => some (some (Ty.cls c))
      | none => none) = some (some (.xcl c)) → False := fun e => by
    split at e
    · cases e
    · split at e <;> cases e
  cases d with
  | exo c' fs => exact h ⟨c', fs, rfl⟩
  | non => cases e
  | bl _ => cases e
  | int _ => cases e
  | str _ => cases e
  | tup _ => cases e
  | ctup _ => cases e
  | _ => exact gen e
/-- the class's value -/
def clV (v : Value) : V := match v with
  | .type n => .ty n
  | .ref a => .ref a
  | _ => .non
theorem clV_of {t : Ty} {v : Value} (h : tyVal T (some t) = some v) : ClsV (clV v) v := by
  cases t <;> simp only [tyVal, Option.some.injEq] at h <;> first
    | (subst h; exact .ty _)
    | (rename_i c
       cases z : T.xa c with
       | none => rw [z] at h; cases h
       | some a => rw [z] at h; cases h; exact .own a)
    | (rename_i c
       cases z : T.ca c with
       | none => rw [z] at h; cases h
       | some a => rw [z] at h; cases h; exact .own a)
theorem kit_any (ht : TabOk T P) {kd : Option Ty} {u : Value} (hu : tyVal T kd = some u) : ∀ {ts : List Ty} {vs : List Value}, ts.map (fun t => tyVal T (some t)) = vs.map some → PySem.W.kitAny T.K u vs = some (ts.any (isT P kd))
  | [], vs, h => by cases vs <;> first | rfl | (simp at h)
  | t :: ts, vs, h => by
    cases vs with
    | nil => simp at h
    | cons v vs =>
      simp only [List.map_cons, List.cons.injEq] at h
      have h1 := ht.kit kd t u v hu h.1
      unfold PySem.W.kitAny
      rw [h1, List.any_cons]
      cases isT P kd t with
      | true => rfl
      | false => simpa using kit_any ht hu h.2
def isiR (P : Prog) (ts : List Ty) (ra : Env → Store → Res D) : Env → Store → Res D := fun E S => (ra E S).bind fun x S' => match kindD S' x with
    | some kd => if isiOk kd ts then .ok (.bl (ts.any (isT P kd))) S' else .bad
    | none => .bad
variable {a ce : Expr} {ra : Env → Store → Res D} {p pos : Pos}
theorem boot_isi : bootBuiltins "isinstance" = some (.builtin "isinstance") := by kernel_rfl
/-- isinstance(x, c) -/
theorem de_isi1 {t : Ty} {v : Value} (hy : Hy T X W C k) (hg : Gl X "isinstance") (hm : X.mg "isinstance" = none) (ha : PE X a (tE T W ra)) (hc : PE X ce (tC (clV v))) (hv : tyVal T (some t) = some v) (h1 : plainX a = true) (h2 : plainX ce = true) :
    PE X (.Call (.Name "isinstance" p) [a, ce] [] pos) (tE T W (isiR C.P [t] ra)) := by
  have s1 := star_cons (env := X.env) (es := [ce]) h1
  have s2 := star_cons (env := X.env) (es := []) h2
  have pa := pa_cons ha (pa_cons hc pa_nil s2) s1
  have hpe := PE.or (pe_callB (p := p) (pos := pos) call_isi hg hm boot_isi pa (by decide) (by decide) s1 (back_plain (by simp [h2]))) (pe_callB (p := p) (pos := pos) call_isEV hg hm boot_isi pa (by decide) (by decide) s1 (back_plain (by simp [h2])))
  refine PE.imp hpe fun σ H Q h => ?_
  refine (tR_split (R := RV T) (R' := RV T) (r := ra) (fun d _ => ¬ ∃ c fs, d = .exo c fs) h (fun x H1 d S1 w1 hne so1 rd p1 => ?_) (fun x H1 d S1 w1 hne so1 rd p1 => ?_))
  · split at p1
    · rename_i kd hk
      split at p1
      · obtain ⟨u, hu, ty⟩ := kind_rep hy.tab so1 rd hk (kind_ne hk hne)
        rw [hy.hK.symm] at ty
        have q := ret_val so1 (d := .bl ([t].any (isT C.P kd))) (v := .bl ([t].any (isT C.P kd))) (by simp only [Rep]) p1
        exact ⟨x, clV v, u, v, _, rfl, clV_of hv, ty, by rw [hy.hK]; exact hy.tab.kit kd t u v hu hv, by simpa using q⟩
      · exact p1.elim
    · exact p1.elim
  · obtain ⟨c, fs, rfl⟩ := Classical.not_not.mp hne
    simp only [Rep] at rd
    obtain ⟨a', Ca, dx, hs, rfl, h1', h2', h3', h4'⟩ := rd
    have q := ret_val so1 (d := .bl ([t].any (isT C.P (some (.xcl c))))) (v := .bl ([t].any (isT C.P (some (.xcl c))))) (by simp only [Rep]) p1
    have hk := hy.tab.kit (some (.xcl c)) t (.ref Ca) v (by simp [tyVal, h1']) hv
    refine ⟨a', Ca, dx, hs, clV v, v, _, rfl, by rw [hy.hK]; exact hy.tab.exc c Ca h1', so1.G.st _ _ rfl h2', so1.G.st _ _ rfl h3', clV_of hv, by rw [hy.hK]; exact hk, by simpa using q⟩
theorem pa_cls {es : List Expr} {vs : List Value} (h : Paired (fun e v => PE X e (tC (clV v)) ∧ plainX e = true) es vs) : PA X es (fun _ H Q => Q (vs.map clV) H) ∧ es.all plainX = true := by
  induction h with
  | nil => exact ⟨pa_nil, rfl⟩
  | cons h1 _ ih => exact ⟨pa_cons h1.1 ih.1 (star_cons h1.2), by rw [List.all_cons, h1.2, ih.2]; rfl⟩
theorem cls_pair : ∀ {ts : List Ty} {vs : List Value}, ts.map (fun t => tyVal T (some t)) = vs.map some → Paired ClsV (vs.map clV) vs
  | [], vs, h => by cases vs <;> first | exact .nil | (simp at h)
  | t :: ts, vs, h => by
    cases vs with
    | nil => simp at h
    | cons v vs =>
      simp only [List.map_cons, List.cons.injEq] at h
      exact .cons (clV_of h.1) (cls_pair h.2)
/-- isinstance(x, (c1, c2, ..)) -/
theorem de_isiT {ts : List Ty} {vs : List Value} {es : List Expr} {kk : Nat} {tp : Pos} (hy : Hy T X W C k) (hg : Gl X "isinstance") (hm : X.mg "isinstance" = none) (ha : PE X a (tE T W ra)) (hc : Paired (fun e v => PE X e (tC (clV v)) ∧ plainX e = true) es vs) (hv : ts.map (fun t => tyVal T (some t)) = vs.map some) (hl : vs.length ≤ 100) (hne1 : ts.length ≠ 1) (h1 : plainX a = true) :
    PE X (.Call (.Name "isinstance" p) [a, .Tuple es kk tp] [] pos) (tE T W (isiR C.P ts ra)) := by
  have s1 := star_cons (env := X.env) (es := [.Tuple es kk tp]) h1
  have s2 := star_cons (env := X.env) (e := .Tuple es kk tp) (es := []) rfl
  refine PE.imp (pe_callB call_isiT hg hm boot_isi (pa_cons ha (pa_cons (pe_tup (pa_cls hc).1) pa_nil s2) s1) (by decide) (by decide) s1 (back_plain rfl)) fun σ H Q h => ?_
  refine (tR_step (R := RV T) (R' := RV T) (r := ra) h).mono fun x H1 ⟨d, S1, w1, so1, rd, p1⟩ => ?_
  split at p1
  · rename_i kd hk
    split at p1
    case isFalse => exact p1.elim
    rename_i hok
    refine ⟨by rw [List.length_map, sizeLine_eq]; omega, fun q hq => ?_⟩
    obtain ⟨so2, l2⟩ := so1.new (o := .tup (vs.map clV)) hq
    obtain ⟨u, hu, ty⟩ := kind_rep hy.tab so2 (rd.mono l2) hk (fun c z => by subst z; simp only [isiOk, beq_iff_eq] at hok; exact hne1 hok)
    rw [hy.hK.symm] at ty
    have qq := p1 (.bl (ts.any (isT C.P kd))) _ _ l2 so2 (by simp only [RV, Rep])
    exact ⟨x, q, vs.map clV, u, vs, _, rfl, upd_same, cls_pair hv, ty, by rw [hy.hK]; exact kit_any hy.tab hu hv, qq⟩
  · exact p1.elim
end
end DV
end
section
/-! The checker. -/
set_option Elab.async false
set_option linter.all false
set_option maxRecDepth 100000
set_option maxHeartbeats 400000
namespace DV
open PySem L2 PyProof.Rows
structure GT where
  fn : List Str
  cn : List Str
  kn : List Str
  nm : List Str
  flds : List Nat
  /-- exception classes; those with a field -/
  xs : List (Nat × Str)
  xf : List Nat
  xn : List (Nat × Str)
def glB (sc : Scope) (x : Str) : Bool := sc.names.lookup x == some .globalImplicit
def nameB (x : Str) : Bool := !(x == ("__debug__" : Str)) && !(x == ("__classdict__" : Str))
def notSuper : Expr → Bool
  | .Call (.Name _ _) [] [] _ => false
  | _ => true
def notSlice : Expr → Bool
  | .Slice _ _ _ _ => false
  | _ => true
def notSet : Expr → Bool
  | .Set _ _ _ => false
  | _ => true
def cstB : D → Const → Bool
  | .int i, .int j => i == j
  | .bl a, .bool b => a == b
  | .non, .none => true
  | .str x, .str y => x == y
  | _, _ => false
def bmSup : BM → Bool
  | .append => true | .extend => true | .join => true | .split => true | _ => false
def ownOf (c : SC) (vs : List Nat) : List (Str × Nat) := vs.map fun i => ((c.N[i]?).getD "", i)
def inner (c : SC) (scope : Scope) : SC := ⟨c.N, relS scope c.sc, false, c.calm⟩
def tyStr : Ty → Str
  | .int => "int" | .str => "str" | .bool => "bool" | .lst => "list" | .tup => "tuple" | .dct => "dict" | _ => ""
def tyB (G : GT) (c : SC) : Ty → Expr → Bool
  | .cls k, e => match e with
    | .Name x _ => G.kn[k]? == some x && glB c.sc x && nameB x
    | _ => false
  | .xcl k, e => match e with
    | .Name x _ => G.xs.lookup k == some x && glB c.sc x && nameB x
    | _ => false
  | .vErr, e => match e with
    | .Name x _ => x == ("ValueError" : Str) && glB c.sc x
    | _ => false
  | t, e => match e with
    | .Name x _ => x == tyStr t && glB c.sc x
    | _ => false
def tysB (G : GT) (c : SC) : List Ty → List Expr → Bool
  | [], l => l.isEmpty
  | t :: ts, l => match l with
    | e :: es => tyB G c t e && tysB G c ts es
    | [] => false
def isiB (G : GT) (c : SC) (ts : List Ty) : Expr → Bool
  | .Tuple es _ _ => tysB G c ts es && decide (ts.length ≤ 100) && ts.length != 1
  | e => match ts with
    | [t] => tyB G c t e
    | _ => false
mutual
def chkE (G : GT) (c : SC) : IE → Expr → Bool
  | .var i, e => match e with
    | .Name x _ => c.N[i]? == some x && visB c.sc x && nameB x
    | _ => false
  | .cst d, e => match e with
    | .Constant k _ _ => cstB d k
    | _ => false
  | .gc g, e => match e with
    | .Name x _ => G.cn[g]? == some x && glB c.sc x && nameB x
    | _ => false
  | .gf f, e => match e with
    | .Name x _ => G.fn[f]? == some x && glB c.sc x && nameB x
    | _ => false
  | .tup es, e => match e with
    | .Tuple l _ _ => chkEs G c es l
    | _ => false
  | .lst _ es, e => match e with
    | .List l _ => chkEs G c es l
    | _ => false
  | .bin op a b, e => match e with
    | .BinOp x o y _ => o == boOp op && chkE G c a x && chkE G c b y
    | _ => false
  | .neg a, e => match e with
    | .UnaryOp .USub x _ => chkE G c a x
    | _ => false
  | .not a, e => match e with
    | .UnaryOp .Not x _ => chkE G c a x
    | _ => false
  | .cmp op a b, e => match e with
    | .Compare x [o] [y] _ => o == coOp op && chkE G c a x && chkE G c b y && !behindInMarks o y
    | _ => false
  | .chn op op' a b d, e => match e with
    | .Compare x [o, o'] [y, z] _ => o == coOp op && o' == coOp op' && chkE G c a x && chkE G c b y && chkE G c d z && !lastMarks [o, o'] [y, z]
    | _ => false
  | .and a b, e => match e with
    | .BoolOp .And (x :: y :: rest) pos => chkE G c a x && (if rest.isEmpty then chkE G c b y else chkE G c b (.BoolOp .And (y :: rest) pos))
    | _ => false
  | .or a b, e => match e with
    | .BoolOp .Or (x :: y :: rest) pos => chkE G c a x && (if rest.isEmpty then chkE G c b y else chkE G c b (.BoolOp .Or (y :: rest) pos))
    | _ => false
  | .ite q a b, e => match e with
    | .IfExp t x y _ => chkE G c q t && chkE G c a x && chkE G c b y
    | _ => false
  | .fld a f, e => match e with
    | .Attribute x n _ => G.nm[f]? == some n && G.flds.contains f && chkE G c a x && notSuper x
    | _ => false
  | .ix a i, e => match e with
    | .Subscript x y _ => chkE G c a x && chkE G c i y && notSlice y
    | _ => false
  | .sl a lo hi, e => match e with
    | .Subscript x (.Slice l h none _) _ => chkE G c a x && chkO G c lo l && chkO G c hi h
    | _ => false
  | .rev a, e => match e with
    | .Subscript x (.Slice none none (some (.UnaryOp .USub (.Constant (.int 1) _ _) _)) _) _ => chkE G c a x
    | _ => false
  | .call f as, e => match e with
    | .Call (.Name x _) l [] _ => G.fn[f]? == some x && glB c.sc x && nameB x && chkEs G c as l && l.all plainX
    | _ => false
  | .callv i as, e => match e with
    | .Call (.Name x _) l [] _ => c.N[i]? == some x && visB c.sc x && nameB x && chkEs G c as l && l.all plainX && !l.isEmpty
    | _ => false
  | .bm m o as, e => match e with
    | .Call (.Attribute x n apos) l [] cpos => bmSup m && n == bmName m && chkE G c o x && chkEs G c as l && l.all plainX && !l.isEmpty && decide (l.length < 30) && apos.endLine == cpos.line && notSuper x
    | _ => false
  | .mk k _ as, e => match e with
    | .Call (.Name x _) l [] _ => G.kn[k]? == some x && glB c.sc x && nameB x && chkEs G c as l && l.all plainX && !l.isEmpty
    | _ => false
  | .xmk k a, e => match e with
    | .Call (.Name x _) [y] [] _ => G.xs.lookup k == some x && G.xf.contains k && glB c.sc x && nameB x && chkE G c a y && plainX y
    | .Call (.Name x _) [] [⟨some n, y, _⟩] _ => G.xs.lookup k == some x && G.xn.contains (k, n) && glB c.sc x && nameB x && chkE G c a y
    | _ => false
  | .b f as, e => match e with
    | .Call (.Name x _) l [] _ => x == bfName f && glB c.sc x && chkEs G c as l && l.all plainX && !l.isEmpty && (!bfCalm f || c.calm)
    | _ => false
  | .isi a ts, e => match e with
    | .Call (.Name x _) [y, z] [] _ => x == ("isinstance" : Str) && glB c.sc x && chkE G c a y && plainX y && isiB G c ts z
    | _ => false
  | .lc _ vs tg it cs el, e => match e with
    | .ListComp elt [⟨t, iter, ifs, 0⟩] scope _ => c.calm && blkC c.N c.sc scope (ownOf c vs) && chkT (inner c scope) tg t && tg.vars.all (fun j => vs.contains j) && chkI G c it iter && notSet iter && chkCs G (inner c scope) cs ifs && chkE G (inner c scope) el elt
    | _ => false
  | _, _ => false
def chkEs (G : GT) (c : SC) : List IE → List Expr → Bool
  | [], l => l.isEmpty
  | .star a :: as, l => match l with
    | .Starred x _ :: es => chkE G c a x && chkEs G c as es
    | _ => false
  | a :: as, l => match l with
    | e :: es => plainX e && chkE G c a e && chkEs G c as es
    | [] => false
def chkO (G : GT) (c : SC) : List IE → Option Expr → Bool
  | [], o => o.isNone
  | a :: as, o => match o with
    | some e => as.isEmpty && plainX e && chkE G c a e
    | none => false
/-- the tests of a comprehension: none or one -/
def chkCs (G : GT) (c : SC) : List IE → List Expr → Bool
  | [], l => l.isEmpty
  | a :: as, l => match l with
    | e :: es => as.isEmpty && es.isEmpty && chkE G c a e
    | [] => false
def chkI (G : GT) (c : SC) : IE → Expr → Bool
  | .rng as, e => match e with
    | .Call (.Name x _) l [] _ => x == ("range" : Str) && glB c.sc x && chkEs G c as l && l.all plainX && (l.length == 1 || l.length == 2 || l.length == 3)
    | _ => false
  | .it a, e => chkE G c a e
  | _, _ => false
end
end DV
end
section
/-! The checker is right: expressions. -/
set_option Elab.async false
set_option linter.all false
set_option maxRecDepth 100000
set_option maxHeartbeats 400000
namespace DV
open PySem L2 PyProof.Rows
/-- what the tables say of the module -/
structure Glob (T : Tab) (G : GT) (mg : Str → Option Value) (prog : Program) (P : Prog) : Prop where
  cst : ∀ (g : Nat) (x : Str), G.cn[g]? = some x → ∃ d u v, P.consts[g]? = some d ∧ mg x = some u ∧ RelV v u ∧ ∀ w, Rep T w d v
  fn : ∀ (f : Nat) (x : Str), G.fn[f]? = some x → ∃ a, T.fa f = some a ∧ mg x = some (.ref a)
  keep : ∀ f a, T.fa f = some a → PySem.W.keepIn T.K (.ref a) = true
  cl : ∀ (k : Nat) (x : Str), G.kn[k]? = some x → ∃ a f g, T.ca k = some a ∧ mg x = some (.ref a) ∧ (P.cls[k]?).bind (·.init) = some f ∧ T.fa f = some g ∧ Mk T.K a g
  bf : ∀ f : BF, mg (bfName f) = none
  rng : mg "range" = none
  isi : mg "isinstance" = none
  bool : mg "bool" = none
  nm : ∀ (i : Nat) (x : Str), G.nm[i]? = some x → T.nm i = x
  fld : ∀ f ∈ G.flds, ∀ c C, T.ca c = some C → NoAttr T.K C (T.nm f)
  fldx : ∀ f ∈ G.flds, ∀ c C, T.xa c = some C → PySem.W.findIn T.K (.ref C) (T.nm f) = some none
  xs : ∀ (e : Nat) (x : Str), G.xs.lookup e = some x → ∃ a, T.xa e = some a ∧ mg x = some (.ref a)
  xf : ∀ c ∈ G.xf, ∃ f, (P.cls[c]?).bind (·.fld) = some f
  xn : ∀ q ∈ G.xn, ∃ f, (P.cls[q.1]?).bind (·.fld) = some f ∧ T.nm f = q.2
  xt : XTab T prog P
  sup : mg "super" = none
  ve : mg "ValueError" = none
section
variable {T : Tab} {G : GT} {prog : Program} {w0 : World} {mg : Str → Option Value} {base : Heap} {C : Ctx} {k : Nat}
/-- a context that is served -/
structure Ok (T : Tab) (prog : Program) (w0 : World) (mg : Str → Option Value) (base : Heap) (C : Ctx) (k : Nat) (X : Cx) (W : WX) (c : SC) : Prop where
  same : Same T prog w0 mg base X
  hx : Hx X c
  tk : Takes X W
  gd : X.A.guards = some []
  room : Rm (k + 4) X.A
  hd : NoCall C ∨ X.A.handled = none
/-- an expression, as a value, as a test -/
structure Jd (T : Tab) (X : Cx) (W : WX) (C : Ctx) (ie : IE) (e : Expr) : Prop where
  pe : PE X e (tE T W (ev C ie))
  pt : PT X e (tT T W (truR (ev C ie)))
  pw : ∀ op l pos, e = .BoolOp op l pos → PW X e (tT T W (truR (ev C ie)))
variable {X : Cx} {W : WX} {c : SC} {e a b : Expr} {ie : IE}
theorem Jd.plain (hK : X.K = T.K) (h : PE X e (tE T W (ev C ie))) (he : ∀ whole, isTrue e X.env whole = (do let v ← whole; standAt e.pos; holding [v] (truthy v))) (hb : ∀ op l pos, e ≠ .BoolOp op l pos) : Jd T X W C ie e :=
  ⟨h, dt_plain hK h he, fun op l pos q => absurd q (hb op l pos)⟩
theorem gl_of (hx : Hx X c) {x : Str} (h : glB c.sc x = true) : Gl X x := by
  show X.env.scope.names.lookup x = _
  rw [hx.sc]
  exact beq_iff_eq.mp h
theorem name_of {x : Str} (h : nameB x = true) : (x == ("__debug__" : Str)) = false ∧ (x == ("__classdict__" : Str)) = false := by
  unfold nameB at h
  simpa using h
theorem ty_ok (gl : Glob T G mg prog C.P) (hm : X.mg = mg) (hx : Hx X c) {t : Ty} {e : Expr} (h : tyB G c t e = true) : ∃ v, tyVal T (some t) = some v ∧ PE X e (tC (clV v)) ∧ plainX e = true := by
  have bl : ∀ {x : Str} {p : Pos} {id : String}, mg x = none → glB c.sc x = true → bootBuiltins x = some (.type id) → x ≠ "__name__" → (x == ("__debug__" : Str)) = false → PE X (.Name x p) (tC (clV (.type id))) := fun h1 h2 h3 h4 h5 =>
    pe_bltn (gl_of hx h2) (by rw [hm]; exact h1) h3 rfl h4 h5
  cases t with
  | cls k =>
    simp only [tyB] at h
    split at h
    · rename_i x p
      simp only [Bool.and_eq_true, beq_iff_eq] at h
      obtain ⟨⟨h1, h2⟩, h3⟩ := h
      obtain ⟨a, f, g, e1, e2, _⟩ := gl.cl k x h1
      exact ⟨.ref a, by simp [tyVal, e1], pe_glob (gl_of hx h2) (by rw [hm]; exact e2) rfl (name_of h3).1, rfl⟩
    · cases h
  | xcl k =>
    simp only [tyB] at h
    split at h
    · rename_i x p
      simp only [Bool.and_eq_true, beq_iff_eq] at h
      obtain ⟨⟨h1, h2⟩, h3⟩ := h
      obtain ⟨a, e1, e2⟩ := gl.xs k x h1
      exact ⟨.ref a, by simp [tyVal, e1], pe_glob (gl_of hx h2) (by rw [hm]; exact e2) rfl (name_of h3).1, rfl⟩
    · cases h
  | vErr =>
    simp only [tyB] at h
    split at h
    · simp only [Bool.and_eq_true, beq_iff_eq] at h
      obtain ⟨rfl, h2⟩ := h
      exact ⟨_, rfl, bl gl.ve h2 (by kernel_rfl) (by decide) (by decide), rfl⟩
    · cases h
  | int =>
    simp only [tyB] at h
    split at h
    · simp only [Bool.and_eq_true, beq_iff_eq] at h
      obtain ⟨rfl, h2⟩ := h
      exact ⟨_, rfl, bl (gl.bf .int) h2 (by kernel_rfl) (by decide) (by decide), rfl⟩
    · cases h
  | str =>
    simp only [tyB] at h
    split at h
    · simp only [Bool.and_eq_true, beq_iff_eq] at h
      obtain ⟨rfl, h2⟩ := h
      exact ⟨_, rfl, bl (gl.bf .str) h2 (by kernel_rfl) (by decide) (by decide), rfl⟩
    · cases h
  | bool =>
    simp only [tyB] at h
    split at h
    · simp only [Bool.and_eq_true, beq_iff_eq] at h
      obtain ⟨rfl, h2⟩ := h
      exact ⟨_, rfl, bl gl.bool h2 (by kernel_rfl) (by decide) (by decide), rfl⟩
    · cases h
  | lst =>
    simp only [tyB] at h
    split at h
    · simp only [Bool.and_eq_true, beq_iff_eq] at h
      obtain ⟨rfl, h2⟩ := h
      exact ⟨_, rfl, bl (gl.bf .list) h2 (by kernel_rfl) (by decide) (by decide), rfl⟩
    · cases h
  | tup =>
    simp only [tyB] at h
    split at h
    · simp only [Bool.and_eq_true, beq_iff_eq] at h
      obtain ⟨rfl, h2⟩ := h
      exact ⟨_, rfl, bl (gl.bf .tuple) h2 (by kernel_rfl) (by decide) (by decide), rfl⟩
    · cases h
  | dct =>
    simp only [tyB] at h
    split at h
    · simp only [Bool.and_eq_true, beq_iff_eq] at h
      obtain ⟨rfl, h2⟩ := h
      exact ⟨_, rfl, bl (gl.bf .dict) h2 (by kernel_rfl) (by decide) (by decide), rfl⟩
    · cases h
theorem tys_ok (gl : Glob T G mg prog C.P) (hm : X.mg = mg) (hx : Hx X c) : ∀ {ts : List Ty} {es : List Expr}, tysB G c ts es = true → ∃ vs : List Value, ts.map (fun t => tyVal T (some t)) = vs.map some ∧ Paired (fun e v => PE X e (tC (clV v)) ∧ plainX e = true) es vs ∧ vs.length = ts.length
  | [], l, h => by
    cases l with
    | nil => exact ⟨[], rfl, .nil, rfl⟩
    | cons e es => simp [tysB] at h
  | t :: ts, l, h => by
    cases l with
    | nil => simp [tysB] at h
    | cons e es =>
      simp only [tysB, Bool.and_eq_true] at h
      obtain ⟨v, h1, h2, h3⟩ := ty_ok gl hm hx h.1
      obtain ⟨vs, q1, q2, q3⟩ := tys_ok gl hm hx h.2
      exact ⟨v :: vs, by simp [h1, q1], .cons ⟨h2, h3⟩ q2, by simp [q3]⟩
theorem ab_plain {o : Expr} {f : Str} {env : PySem.Env} (h : notSuper o = true) : attributeBase o f env (eval o env) = eval o env := by
  unfold attributeBase
  split
  · simp [notSuper] at h
  · rfl
theorem ix_plain {s : Expr} (h : notSlice s = true) : PlainIx s := by
  intro o i
  cases s <;> first | rfl | (simp [notSlice] at h)
theorem set_plain {s : Expr} {env : PySem.Env} {x : Value} (h : notSet s = true) : foldedSetIterable s env x = pure x := by
  unfold foldedSetIterable
  cases s <;> first | rfl | (simp [notSet] at h)
theorem de_cst {d : D} {kk : Const} {j : Nat} {pos : Pos} (h : cstB d kk = true) : PE X (.Constant kk j pos) (tE T W fun _ S => .ok d S) := by
  cases d <;> cases kk <;> first | (simp [cstB] at h; done) | skip
  · exact de_known pe_non fun w => by simp only [Rep]
  · simp only [cstB, beq_iff_eq] at h; subst h; exact de_known pe_bl fun w => by simp only [Rep]
  · simp only [cstB, beq_iff_eq] at h; subst h; exact de_known pe_int fun w => by simp only [Rep]
  · simp only [cstB, beq_iff_eq] at h; subst h; exact de_known pe_str fun w => by simp only [Rep]
theorem PE.eq {r r' : DV.Env → Store → Res D} (h : PE X e (tE T W r)) (q : ∀ E S, r E S = r' E S) : PE X e (tE T W r') := by
  have : r = r' := funext fun E => funext fun S => q E S
  rw [← this]; exact h
theorem PA.eq {es : List Expr} {r r' : DV.Env → Store → Res (List D)} (h : PA X es (tA T W r)) (q : ∀ E S, r E S = r' E S) : PA X es (tA T W r') := by
  have : r = r' := funext fun E => funext fun S => q E S
  rw [← this]; exact h
theorem PI.eq {tg : Expr} {r r' : DV.Env → Store → Res Src} (h : PI X tg e (tI T W r)) (q : ∀ E S, r E S = r' E S) : PI X tg e (tI T W r') := by
  have : r = r' := funext fun E => funext fun S => q E S
  rw [← this]; exact h
theorem ok_blk (ok : Ok T prog w0 mg base C k X W c) {scope : Scope} (s : Shared) (H : Hp) (Cd : Addr) (cl : List (Str × Addr)) (fp : List Addr) : Ok T prog w0 mg base C k (X.blk s H scope (compEnvC scope cl Cd X.env) fp) W0 (inner c scope) := by
  refine ⟨⟨ok.same.prog, ok.same.w, ok.same.K, ok.same.mg, ok.same.base⟩, ⟨ok.hx.N, ok.hx.nd, ?_, (fun h => by cases h), ok.hx.calm⟩, fun u s' x => ?_, ok.gd, ok.room, ok.hd⟩
  · show relS scope X.env.scope = relS scope c.sc
    rw [ok.hx.sc]
  · obtain ⟨_, _, _, _, _, _, _, _, _, _, _, _, _, _, _, _, w⟩ := x
    exact w.elim
theorem own_map (c : SC) (vs : List Nat) : (ownOf c vs).map (·.2) = vs := by
  unfold ownOf
  rw [List.map_map]
  exact List.map_id' vs
theorem evs_len (C : Ctx) : ∀ (ies : List IE) (l : List Expr) (c : SC), chkEs G c ies l = true → l.all plainX = true → ∀ E S ds S', evs C ies E S = .ok ds S' → ds.length = l.length
  | [], l, c, h, hp, E, S, ds, S', e => by
    cases l with
    | nil => simp only [evs, Res.ok.injEq] at e; rw [← e.1]; rfl
    | cons a l => simp [chkEs] at h
  | ie :: ies, l, c, h, hp, E, S, ds, S', e => by
    cases l with
    | nil => cases ie <;> simp [chkEs] at h
    | cons a l =>
      rw [List.all_cons, Bool.and_eq_true] at hp
      have hs : ∃ h' : chkEs G c ies l = true, ∀ S x, spread S ie x = some [x] := by
        cases ie <;> first
          | (simp only [chkEs, Bool.and_eq_true] at h; exact ⟨h.2, fun _ _ => rfl⟩)
          | (cases a <;> first | (simp [plainX] at hp; done) | (simp [chkEs] at h))
      obtain ⟨h', sp⟩ := hs
      simp only [evs] at e
      cases z : ev C ie E S with
      | exc c fs S1 => rw [z] at e; cases e
      | bad => rw [z] at e; cases e
      | ok x S1 =>
        rw [z] at e
        simp only [Res.bind, sp] at e
        cases z2 : evs C ies E S1 with
        | exc c fs S1 => rw [z2] at e; cases e
        | bad => rw [z2] at e; cases e
        | ok rs S2 =>
          rw [z2] at e
          simp only [Res.ok.injEq] at e
          rw [← e.1]
          have := evs_len C ies l c h' hp.2 E S1 rs S2 z2
          simp [this]
end
end DV
end
section
/-! The checker is right: expressions, by recursion. -/
set_option Elab.async false
set_option linter.all false
set_option maxRecDepth 100000
set_option maxHeartbeats 400000
namespace DV
open PySem L2 PyProof.Rows
variable {T : Tab} {G : GT} {prog : Program} {w0 : World} {mg : Str → Option Value} {base : Heap} {C : Ctx} {k : Nat}
theorem Ok.hy (U : Uni T prog w0 mg base C k) {X : Cx} {W : WX} {c : SC} (ok : Ok T prog w0 mg base C k X W c) : Hy T X W C k := U X W ok.same ok.tk ok.gd ok.room ok.hd
theorem emp {l : List Expr} (h : (!l.isEmpty) = true) : ∃ e es, l = e :: es := by
  cases l with
  | nil => simp at h
  | cons e es => exact ⟨e, es, rfl⟩
theorem lc_eq {m : Bool} {vs : List Nat} {tg : IT} {it : IE} {cs : List IE} {el : IE} (E : DV.Env) (S : Store) (hl : ∀ src S', evI C it E S = .ok src S' → notLock src = true) : lcR tg vs m (evC C cs) (ev C el) E (evI C it E S) = ev C (.lc m vs tg it cs el) E S := by
  simp only [ev]
  cases z : evI C it E S with
  | exc c fs S' => rfl
  | bad => rfl
  | ok src S' =>
    cases src with
    | items ds => rfl
    | cell n k => rfl
    | lock n ks => exact absurd (hl _ _ z) (by simp [notLock])
theorem srcSeq_nolock {S : Store} {d : D} {src : Src} (h : srcSeq S d = some src) : notLock src = true := by
  cases d <;> simp only [srcSeq] at h <;> first
    | (cases h; done)
    | (cases h; rfl)
    | (split at h <;> first | (cases h; done) | (cases h; rfl))
theorem rngR_nolock {ds : List D} {src : Src} (h : rngR ds = some src) : notLock src = true := by
  unfold rngR at h
  split at h <;> first
    | (split at h <;> first | (cases h; rfl) | cases h)
    | cases h
theorem ofO_some {α : Type} {o : Option α} {S S' : Store} {a : α} (h : ofO o S = .ok a S') : o = some a := by
  cases o with
  | none => cases h
  | some b => simp only [ofO, Res.ok.injEq] at h; rw [h.1]
theorem bind_ok {α β : Type} {r : Res α} {f : α → Store → Res β} {b : β} {S' : Store} (h : r.bind f = .ok b S') : ∃ a S1, f a S1 = .ok b S' := by
  cases r with
  | ok a S1 => exact ⟨a, S1, h⟩
  | exc c fs S1 => cases h
  | bad => cases h
theorem nolock {ie : IE} {e : Expr} {c : SC} (h : chkI G c ie e = true) {E : DV.Env} {S : Store} : ∀ src S', evI C ie E S = .ok src S' → notLock src = true := by
  intro src S' q
  cases ie <;> first | (simp [chkI] at h; done) | skip
  · simp only [evI] at q
    obtain ⟨a, S1, q⟩ := bind_ok q
    exact rngR_nolock (ofO_some q)
  · simp only [evI] at q
    obtain ⟨a, S1, q⟩ := bind_ok q
    exact srcSeq_nolock (ofO_some q)
theorem po_eq {X : Cx} {W : WX} {o : Option Expr} {r r' : DV.Env → Store → Res (Option Int)} (h : PO X o (tR T ROpt W r)) (q : ∀ E S, r E S = r' E S) : PO X o (tR T ROpt W r') := by
  have : r = r' := funext fun E => funext fun S => q E S
  rw [← this]; exact h
theorem pts_eq {X : Cx} {W : WX} {o : List Expr} {r r' : DV.Env → Store → Res Bool} (h : PTs X o (tT T W r)) (q : ∀ E S, r E S = r' E S) : PTs X o (tT T W r') := by
  have : r = r' := funext fun E => funext fun S => q E S
  rw [← this]; exact h
mutual
theorem chk_ok (gl : Glob T G mg prog C.P) (U : Uni T prog w0 mg base C k) : ∀ (ie : IE) (e : Expr) (X : Cx) (W : WX) (c : SC), Ok T prog w0 mg base C k X W c → chkE G c ie e = true → Jd T X W C ie e
  | .var i, e, X, W, c, ok, h => by
    simp only [chkE] at h
    split at h
    · rename_i x pos
      simp only [Bool.and_eq_true, beq_iff_eq] at h
      obtain ⟨⟨h1, h2⟩, h3⟩ := h
      have hn := name_of h3
      refine Jd.plain ok.same.K (PE.eq (de_var (by rw [ok.hx.N]; exact h1) (by rw [ok.hx.sc]; exact vis_of h2) hn.1 hn.2) fun E S => rfl) (fun _ => rfl) (fun _ _ _ q => by cases q)
    · cases h
  | .cst d, e, X, W, c, ok, h => by
    simp only [chkE] at h
    split at h
    · exact Jd.plain ok.same.K (PE.eq (de_cst h) fun E S => rfl) (fun _ => rfl) (fun _ _ _ q => by cases q)
    · cases h
  | .gc g, e, X, W, c, ok, h => by
    simp only [chkE] at h
    split at h
    · rename_i x pos
      simp only [Bool.and_eq_true, beq_iff_eq] at h
      obtain ⟨⟨h1, h2⟩, h3⟩ := h
      obtain ⟨d, u, v, e1, e2, r, hr⟩ := gl.cst g x h1
      exact Jd.plain ok.same.K (PE.eq (de_known (pe_glob (gl_of ok.hx h2) (by rw [ok.same.mg]; exact e2) r (name_of h3).1) hr) fun E S => by simp only [ev, e1, ofO]) (fun _ => rfl) (fun _ _ _ q => by cases q)
    · cases h
  | .gf f, e, X, W, c, ok, h => by
    simp only [chkE] at h
    split at h
    · rename_i x pos
      simp only [Bool.and_eq_true, beq_iff_eq] at h
      obtain ⟨⟨h1, h2⟩, h3⟩ := h
      obtain ⟨a, e1, e2⟩ := gl.fn f x h1
      exact Jd.plain ok.same.K (PE.eq (de_known (v := .ref a) (d := .fn f) (pe_glob (gl_of ok.hx h2) (by rw [ok.same.mg]; exact e2) rfl (name_of h3).1) fun w => by simp only [Rep]; exact ⟨a, rfl, e1⟩) fun E S => rfl) (fun _ => rfl) (fun _ _ _ q => by cases q)
    · cases h
  | .tup es, e, X, W, c, ok, h => by
    simp only [chkE] at h
    split at h
    · exact Jd.plain ok.same.K (PE.eq (de_tup (chks_ok gl U es _ X W c ok h)) fun E S => rfl) (fun _ => rfl) (fun _ _ _ q => by cases q)
    · cases h
  | .lst m es, e, X, W, c, ok, h => by
    simp only [chkE] at h
    split at h
    · exact Jd.plain ok.same.K (PE.eq (de_lst (m := m) (chks_ok gl U es _ X W c ok h)) fun E S => rfl) (fun _ => rfl) (fun _ _ _ q => by cases q)
    · cases h
  | .bin op a b, e, X, W, c, ok, h => by
    simp only [chkE] at h
    split at h
    · simp only [Bool.and_eq_true, beq_iff_eq] at h
      obtain ⟨⟨rfl, h2⟩, h3⟩ := h
      exact Jd.plain ok.same.K (PE.eq (de_bin (ok_bin (ok.hy U) op) (chk_ok gl U a _ X W c ok h2).pe (chk_ok gl U b _ X W c ok h3).pe) fun E S => rfl) (fun _ => rfl) (fun _ _ _ q => by cases q)
    · cases h
  | .neg a, e, X, W, c, ok, h => by
    simp only [chkE] at h
    split at h
    · exact Jd.plain ok.same.K (PE.eq (de_neg (chk_ok gl U a _ X W c ok h).pe) fun E S => rfl) (fun _ => rfl) (fun _ _ _ q => by cases q)
    · cases h
  | .not a, e, X, W, c, ok, h => by
    simp only [chkE] at h
    split at h
    · have j := chk_ok gl U a _ X W c ok h
      have he : ev C (.not a) = fun E S => (ev C a E S).bind fun x S' => match truD S' x with
        | some b => .ok (.bl (!b)) S'
        | none => .bad := by funext E S; rfl
      exact ⟨PE.eq (de_not ok.same.K j.pe) fun E S => rfl, by rw [he]; exact dt_not j.pt, fun _ _ _ q => by cases q⟩
    · cases h
  | .cmp op a b, e, X, W, c, ok, h => by
    simp only [chkE] at h
    split at h
    · simp only [Bool.and_eq_true, beq_iff_eq, Bool.not_eq_true'] at h
      obtain ⟨⟨⟨rfl, h2⟩, h3⟩, h4⟩ := h
      have ja := (chk_ok gl U a _ X W c ok h2).pe
      have jb := (chk_ok gl U b _ X W c ok h3).pe
      have he : ev C (.cmp op a b) = fun E S => (ev C a E S).bind fun x S' => (ev C b E S').bind fun y S'' => cmpD C S'' op x y := by funext E S; rfl
      exact ⟨by rw [he]; exact de_cmp (ok_cmp (ok.hy U) op) ja jb h4, by rw [he]; exact dt_cmp ok.same.K (ok_cmp (ok.hy U) op) ja jb h4, fun _ _ _ q => by cases q⟩
    · cases h
  | .chn op op' a b d, e, X, W, c, ok, h => by
    simp only [chkE] at h
    split at h
    · simp only [Bool.and_eq_true, beq_iff_eq, Bool.not_eq_true'] at h
      obtain ⟨⟨⟨⟨⟨rfl, rfl⟩, h2⟩, h3⟩, h4⟩, h5⟩ := h
      have ja := (chk_ok gl U a _ X W c ok h2).pe
      have jb := (chk_ok gl U b _ X W c ok h3).pe
      have jd := (chk_ok gl U d _ X W c ok h4).pe
      have he : ev C (.chn op op' a b d) = chnR (fun x y S => cmpD C S op x y) (fun x y S => cmpD C S op' x y) (ev C a) (ev C b) (ev C d) := by funext E S; rfl
      exact ⟨by rw [he]; exact de_chn (ok_cmp (ok.hy U) op) (ok_cmp (ok.hy U) op') ja jb jd h5, by rw [he]; exact dt_chn ok.same.K (ok_cmp (ok.hy U) op) (ok_cmp (ok.hy U) op') ja jb jd h5, fun _ _ _ q => by cases q⟩
    · cases h
  | .and a b, e, X, W, c, ok, h => by
    simp only [chkE] at h
    split at h
    · rename_i x y rest pos
      rw [Bool.and_eq_true] at h
      have ja := chk_ok gl U a _ X W c ok h.1
      have he : ev C (.and a b) = andR (ev C a) (ev C b) := by funext E S; rfl
      cases rest with
      | nil =>
        have jb := chk_ok gl U b y X W c ok h.2
        have pw : ∀ pos, PW X (.BoolOp .And [x, y] pos) (tT T W (truR (ev C (.and a b)))) := fun pos => by rw [he]; exact dw_and ja.pt (pw_one jb.pt)
        exact ⟨by rw [he]; exact de_and ok.same.K ja.pe (pe_one jb.pe), (pw _).pt, fun op l p q => by cases q; exact pw _⟩
      | cons z rest =>
        have jb := chk_ok gl U b _ X W c ok h.2
        have pw : PW X (.BoolOp .And (x :: y :: z :: rest) pos) (tT T W (truR (ev C (.and a b)))) := by rw [he]; exact dw_and ja.pt (jb.pw _ _ _ rfl)
        exact ⟨by rw [he]; exact de_and ok.same.K ja.pe jb.pe, pw.pt, fun op l p q => by cases q; exact pw⟩
    · cases h
  | .or a b, e, X, W, c, ok, h => by
    simp only [chkE] at h
    split at h
    · rename_i x y rest pos
      rw [Bool.and_eq_true] at h
      have ja := chk_ok gl U a _ X W c ok h.1
      have he : ev C (.or a b) = orR (ev C a) (ev C b) := by funext E S; rfl
      cases rest with
      | nil =>
        have jb := chk_ok gl U b y X W c ok h.2
        have pw : ∀ pos, PW X (.BoolOp .Or [x, y] pos) (tT T W (truR (ev C (.or a b)))) := fun pos => by rw [he]; exact dw_or ja.pt (pw_one jb.pt)
        exact ⟨by rw [he]; exact de_or ok.same.K ja.pe (pe_one jb.pe), (pw _).pt, fun op l p q => by cases q; exact pw _⟩
      | cons z rest =>
        have jb := chk_ok gl U b _ X W c ok h.2
        have pw : PW X (.BoolOp .Or (x :: y :: z :: rest) pos) (tT T W (truR (ev C (.or a b)))) := by rw [he]; exact dw_or ja.pt (jb.pw _ _ _ rfl)
        exact ⟨by rw [he]; exact de_or ok.same.K ja.pe jb.pe, pw.pt, fun op l p q => by cases q; exact pw⟩
    · cases h
  | .ite q a b, e, X, W, c, ok, h => by
    simp only [chkE] at h
    split at h
    · simp only [Bool.and_eq_true] at h
      have jq := chk_ok gl U q _ X W c ok h.1.1
      have ja := chk_ok gl U a _ X W c ok h.1.2
      have jb := chk_ok gl U b _ X W c ok h.2
      have he : ev C (.ite q a b) = fun E S => (ev C q E S).bind fun x S' => match truD S' x with
        | some true => ev C a E S'
        | some false => ev C b E S'
        | none => .bad := by funext E S; rfl
      exact ⟨by rw [he]; exact de_ite jq.pt ja.pe jb.pe, by rw [he]; exact dt_ite jq.pt ja.pt jb.pt, fun _ _ _ q => by cases q⟩
    · cases h
  | .fld a f, e, X, W, c, ok, h => by
    simp only [chkE] at h
    split at h
    · simp only [Bool.and_eq_true, beq_iff_eq] at h
      obtain ⟨⟨⟨h1, h2⟩, h3⟩, h4⟩ := h
      have hy := ok.hy U
      have hn := gl.nm f _ h1
      refine Jd.plain ok.same.K (PE.eq (de_fld hy.tab.inj hn (fun cc Cc hc => ?_) (fun cc Cc hc => ?_) (chk_ok gl U a _ X W c ok h3).pe (ab_plain h4)) fun E S => rfl) (fun _ => rfl) (fun _ _ _ q => by cases q)
      · rw [ok.same.K, ← hn]
        exact ⟨(hy.tab.cls cc Cc hc).1, gl.fld f (List.contains_iff_mem.mp h2) cc Cc hc⟩
      · rw [ok.same.K, ← hn]
        exact ⟨XfC.of (hy.tab.exc cc Cc hc), gl.fldx f (List.contains_iff_mem.mp h2) cc Cc hc⟩
    · cases h
  | .ix a i, e, X, W, c, ok, h => by
    simp only [chkE] at h
    split at h
    · simp only [Bool.and_eq_true] at h
      have hu := (ok.hy U).u65
      exact Jd.plain ok.same.K (PE.eq (de_ix (ok_ix ok.same.K (by omega)) (chk_ok gl U a _ X W c ok h.1.1).pe (chk_ok gl U i _ X W c ok h.1.2).pe (ix_plain h.2)) fun E S => rfl) (fun _ => rfl) (fun _ _ _ q => by cases q)
    · cases h
  | .sl a lo hi, e, X, W, c, ok, h => by
    simp only [chkE] at h
    split at h
    · simp only [Bool.and_eq_true] at h
      exact Jd.plain ok.same.K (PE.eq (de_sl ok.same.K (chk_ok gl U a _ X W c ok h.1.1).pe (chkO_ok gl U lo _ X W c ok h.1.2) (chkO_ok gl U hi _ X W c ok h.2)) fun E S => rfl) (fun _ => rfl) (fun _ _ _ q => by cases q)
    · cases h
  | .rev a, e, X, W, c, ok, h => by
    simp only [chkE] at h
    split at h
    · exact Jd.plain ok.same.K (PE.eq (de_rev ok.same.K (chk_ok gl U a _ X W c ok h).pe) fun E S => rfl) (fun _ => rfl) (fun _ _ _ q => by cases q)
    · cases h
  | .call f as, e, X, W, c, ok, h => by
    simp only [chkE] at h
    split at h
    · rename_i x p l pos
      simp only [Bool.and_eq_true, beq_iff_eq] at h
      obtain ⟨⟨⟨⟨h1, h2⟩, h3⟩, h4⟩, h5⟩ := h
      obtain ⟨a, e1, e2⟩ := gl.fn f x h1
      have ha := chks_ok gl U as l X W c ok h4
      have hm : X.mg x = some (.ref a) := by rw [ok.same.mg]; exact e2
      cases l with
      | nil =>
        have e0 : as = [] := by cases as with | nil => rfl | cons z zs => cases z <;> simp [chkEs] at h4
        subst e0
        exact Jd.plain ok.same.K (PE.eq (de_call0 (ok.hy U) (gl_of ok.hx h2) hm (gl.keep f a e1) e1 (name_of h3).1) fun E S => rfl) (fun _ => rfl) (fun _ _ _ q => by cases q)
      | cons y ys => exact Jd.plain ok.same.K (PE.eq (de_call (ok.hy U) (gl_of ok.hx h2) hm (gl.keep f a e1) e1 ha h5 (name_of h3).1) fun E S => rfl) (fun _ => rfl) (fun _ _ _ q => by cases q)
    · cases h
  | .callv i as, e, X, W, c, ok, h => by
    simp only [chkE] at h
    split at h
    · rename_i x p l pos
      simp only [Bool.and_eq_true, beq_iff_eq] at h
      obtain ⟨⟨⟨⟨⟨h1, h2⟩, h3⟩, h4⟩, h5⟩, h6⟩ := h
      have ha := chks_ok gl U as l X W c ok h4
      obtain ⟨y, ys, rfl⟩ := emp h6
      exact Jd.plain ok.same.K (PE.eq (de_callv (ok.hy U) (by rw [ok.hx.N]; exact h1) (by rw [ok.hx.sc]; exact vis_of h2) gl.keep ha h5 (name_of h3).1 (name_of h3).2) fun E S => rfl) (fun _ => rfl) (fun _ _ _ q => by cases q)
    · cases h
  | .bm m o as, e, X, W, c, ok, h => by
    simp only [chkE] at h
    split at h
    · rename_i x n apos l cpos
      simp only [Bool.and_eq_true, beq_iff_eq, decide_eq_true_eq] at h
      obtain ⟨⟨⟨⟨⟨⟨⟨⟨h1, rfl⟩, h3⟩, h4⟩, h5⟩, h6⟩, h7⟩, h8⟩, h9⟩ := h
      have ha := chks_ok gl U as l X W c ok h4
      obtain ⟨y, ys, rfl⟩ := emp h6
      have hm : m = .append ∨ m = .extend ∨ m = .join ∨ m = .split := by cases m <;> simp [bmSup] at h1 ⊢
      exact Jd.plain ok.same.K (PE.eq (de_bm (ok.hy U) m (chk_ok gl U o _ X W c ok h3).pe ha h5 (ab_plain h9) h7 (beq_iff_eq.mpr h8) hm) fun E S => rfl) (fun _ => rfl) (fun _ _ _ q => by cases q)
    · cases h
  | .mk cc m as, e, X, W, c, ok, h => by
    simp only [chkE] at h
    split at h
    · rename_i x p l pos
      simp only [Bool.and_eq_true, beq_iff_eq] at h
      obtain ⟨⟨⟨⟨⟨h1, h2⟩, h3⟩, h4⟩, h5⟩, h6⟩ := h
      obtain ⟨a, f, g, e1, e2, e3, e4, M⟩ := gl.cl cc x h1
      have ha := chks_ok gl U as l X W c ok h4
      obtain ⟨y, ys, rfl⟩ := emp h6
      exact Jd.plain ok.same.K (PE.eq (de_mk (m := m) (ok.hy U) e1 e4 M (gl_of ok.hx h2) (by rw [ok.same.mg]; exact e2) ha h5 (name_of h3).1) fun E S => by simp only [ev, e3]; rfl) (fun _ => rfl) (fun _ _ _ q => by cases q)
    · cases h
  | .b f as, e, X, W, c, ok, h => by
    simp only [chkE] at h
    split at h
    · rename_i x p l pos
      simp only [Bool.and_eq_true, beq_iff_eq, Bool.or_eq_true, Bool.not_eq_true'] at h
      obtain ⟨⟨⟨⟨⟨rfl, h2⟩, h4⟩, h5⟩, h6⟩, h7⟩ := h
      have ha := chks_ok gl U as l X W c ok h4
      obtain ⟨y, ys, rfl⟩ := emp (by rw [h6]; rfl)
      exact Jd.plain ok.same.K (PE.eq (de_bf (ok.hy U) f (fun hc => ok.hx.calm (h7.resolve_left (by rw [hc]; simp))) (gl_of ok.hx h2) (by rw [ok.same.mg]; exact gl.bf f) ha h5) fun E S => rfl) (fun _ => rfl) (fun _ _ _ q => by cases q)
    · cases h
  | .isi a ts, e, X, W, c, ok, h => by
    simp only [chkE] at h
    split at h
    · rename_i x p y z pos
      simp only [Bool.and_eq_true, beq_iff_eq] at h
      obtain ⟨⟨⟨⟨rfl, h2⟩, h3⟩, h4⟩, h5⟩ := h
      have ja := (chk_ok gl U a y X W c ok h3).pe
      have hm : X.mg "isinstance" = none := by rw [ok.same.mg]; exact gl.isi
      have q : PE X (.Call (.Name "isinstance" p) [y, z] [] pos) (tE T W (isiR C.P ts (ev C a))) := by
        unfold isiB at h5
        split at h5
        · simp only [Bool.and_eq_true, decide_eq_true_eq, bne_iff_ne] at h5
          obtain ⟨vs, q1, q2, q3⟩ := tys_ok gl ok.same.mg ok.hx h5.1.1
          exact de_isiT (ok.hy U) (gl_of ok.hx h2) hm ja q2 q1 (by rw [q3]; exact h5.1.2) h5.2 h4
        · split at h5
          · obtain ⟨v, q1, q2, q3⟩ := ty_ok gl ok.same.mg ok.hx h5
            exact de_isi1 (ok.hy U) (gl_of ok.hx h2) hm ja q2 q1 h4 q3
          · cases h5
      exact Jd.plain ok.same.K (PE.eq q fun E S => rfl) (fun _ => rfl) (fun _ _ _ q => by cases q)
    · cases h
  | .lc m vs tg it cs el, e, X, W, c, ok, h => by
    simp only [chkE] at h
    split at h
    · rename_i elt t iter ifs scope pos
      simp only [Bool.and_eq_true, List.all_eq_true] at h
      obtain ⟨⟨⟨⟨⟨⟨⟨h1, h2⟩, h3⟩, h4⟩, h5⟩, h6⟩, h7⟩, h8⟩ := h
      have hb : BlkOk X.N X.env.scope scope (ownOf c vs) := by rw [ok.hx.N, ok.hx.sc]; exact blkOk_by h2
      have q := de_lc (m := m) (pos := pos) (ok.hx.calm h1) ok.hx.nd (chkI_ok gl U it iter t X W c ok h5) hb (fun j hj => by rw [own_map]; exact List.contains_iff_mem.mp (h4 j hj))
        (fun s H Cd cl fp => pg_it (ok_blk ok s H Cd cl fp).hx ok.same.K tg t h3) (fun s H Cd cl fp => chkCs_ok gl U cs ifs _ W0 _ (ok_blk ok s H Cd cl fp) h7) (fun s H Cd cl fp => (chk_ok gl U el elt _ W0 _ (ok_blk ok s H Cd cl fp) h8).pe) (fun x => set_plain h6)
      refine Jd.plain ok.same.K (PE.eq q fun E S => ?_) (fun _ => rfl) (fun _ _ _ q => by cases q)
      rw [own_map]
      exact lc_eq E S (nolock h5)
    · cases h
  | .xmk kk a, e, X, W, c, ok, h => by
    simp only [chkE] at h
    split at h
    · rename_i x p y pos
      simp only [Bool.and_eq_true, beq_iff_eq] at h
      obtain ⟨⟨⟨⟨⟨h1, h2⟩, h3⟩, h4⟩, h5⟩, h6⟩ := h
      obtain ⟨ad, e1, e2⟩ := gl.xs kk x h1
      obtain ⟨f, hf⟩ := gl.xf kk (List.contains_iff_mem.mp h2)
      have ja := (chk_ok gl U a y X W c ok h5).pe
      have hd := ok.room.dp
      refine Jd.plain ok.same.K (PE.eq (de_xmk (P := C.P) (by rw [ok.same.prog]; exact gl.xt) ok.same.K e1 hf (by rw [ok.same.mg]; exact gl.sup) (by omega) (gl_of ok.hx h3) (by rw [ok.same.mg]; exact e2) ja h6 (name_of h4).1) fun E S => by simp only [ev, hf]) (fun _ => rfl) (fun _ _ _ q => by cases q)
    · rename_i x p n y kp pos
      simp only [Bool.and_eq_true, beq_iff_eq] at h
      obtain ⟨⟨⟨⟨h1, h2⟩, h3⟩, h4⟩, h5⟩ := h
      obtain ⟨ad, e1, e2⟩ := gl.xs kk x h1
      obtain ⟨f, hf, hn⟩ := gl.xn (kk, n) (List.contains_iff_mem.mp h2)
      have ja := (chk_ok gl U a y X W c ok h5).pe
      have hd := ok.room.dp
      refine Jd.plain ok.same.K (PE.eq (de_xmkK (P := C.P) (by rw [ok.same.prog]; exact gl.xt) hf hn ok.same.K e1 (by rw [ok.same.mg]; exact gl.sup) (by omega) (gl_of ok.hx h3) (by rw [ok.same.mg]; exact e2) ja (name_of h4).1) fun E S => by simp only [ev, hf]) (fun _ => rfl) (fun _ _ _ q => by cases q)
    · cases h
  | .star _, e, X, W, c, ok, h => by simp [chkE] at h
  | .dct _ _ _ _, e, X, W, c, ok, h => by simp [chkE] at h
  | .meth _ _ _, e, X, W, c, ok, h => by simp [chkE] at h
  | .rng _, e, X, W, c, ok, h => by simp [chkE] at h
  | .enm _, e, X, W, c, ok, h => by simp [chkE] at h
  | .zip _, e, X, W, c, ok, h => by simp [chkE] at h
  | .items _, e, X, W, c, ok, h => by simp [chkE] at h
  | .vals _, e, X, W, c, ok, h => by simp [chkE] at h
  | .keys _, e, X, W, c, ok, h => by simp [chkE] at h
  | .it _, e, X, W, c, ok, h => by simp [chkE] at h
  | .lc2 _ _ _ _ _ _ _, e, X, W, c, ok, h => by simp [chkE] at h
  | .dc _ _ _ _ _ _ _ _, e, X, W, c, ok, h => by simp [chkE] at h
  | .fs _, e, X, W, c, ok, h => by simp [chkE] at h
  | .no, e, X, W, c, ok, h => by simp [chkE] at h
theorem chkA_ok (gl : Glob T G mg prog C.P) (U : Uni T prog w0 mg base C k) : ∀ (ie z : IE), ie = .star z → ∀ (e : Expr) (X : Cx) (W : WX) (c : SC), Ok T prog w0 mg base C k X W c → chkE G c z e = true → Jd T X W C z e
  | .star a, z, h, e, X, W, c, ok, q => by cases h; exact chk_ok gl U a e X W c ok q
  | .var _, z, h, e, X, W, c, ok, q => by cases h
  | .cst _, z, h, e, X, W, c, ok, q => by cases h
  | .gc _, z, h, e, X, W, c, ok, q => by cases h
  | .gf _, z, h, e, X, W, c, ok, q => by cases h
  | .xmk _ _, z, h, e, X, W, c, ok, q => by cases h
  | .tup _, z, h, e, X, W, c, ok, q => by cases h
  | .lst _ _, z, h, e, X, W, c, ok, q => by cases h
  | .dct _ _ _ _, z, h, e, X, W, c, ok, q => by cases h
  | .bin _ _ _, z, h, e, X, W, c, ok, q => by cases h
  | .neg _, z, h, e, X, W, c, ok, q => by cases h
  | .not _, z, h, e, X, W, c, ok, q => by cases h
  | .cmp _ _ _, z, h, e, X, W, c, ok, q => by cases h
  | .chn _ _ _ _ _, z, h, e, X, W, c, ok, q => by cases h
  | .and _ _, z, h, e, X, W, c, ok, q => by cases h
  | .or _ _, z, h, e, X, W, c, ok, q => by cases h
  | .ite _ _ _, z, h, e, X, W, c, ok, q => by cases h
  | .fld _ _, z, h, e, X, W, c, ok, q => by cases h
  | .ix _ _, z, h, e, X, W, c, ok, q => by cases h
  | .sl _ _ _, z, h, e, X, W, c, ok, q => by cases h
  | .rev _, z, h, e, X, W, c, ok, q => by cases h
  | .call _ _, z, h, e, X, W, c, ok, q => by cases h
  | .callv _ _, z, h, e, X, W, c, ok, q => by cases h
  | .meth _ _ _, z, h, e, X, W, c, ok, q => by cases h
  | .bm _ _ _, z, h, e, X, W, c, ok, q => by cases h
  | .mk _ _ _, z, h, e, X, W, c, ok, q => by cases h
  | .b _ _, z, h, e, X, W, c, ok, q => by cases h
  | .isi _ _, z, h, e, X, W, c, ok, q => by cases h
  | .rng _, z, h, e, X, W, c, ok, q => by cases h
  | .enm _, z, h, e, X, W, c, ok, q => by cases h
  | .zip _, z, h, e, X, W, c, ok, q => by cases h
  | .items _, z, h, e, X, W, c, ok, q => by cases h
  | .vals _, z, h, e, X, W, c, ok, q => by cases h
  | .keys _, z, h, e, X, W, c, ok, q => by cases h
  | .it _, z, h, e, X, W, c, ok, q => by cases h
  | .lc _ _ _ _ _ _, z, h, e, X, W, c, ok, q => by cases h
  | .lc2 _ _ _ _ _ _ _, z, h, e, X, W, c, ok, q => by cases h
  | .dc _ _ _ _ _ _ _ _, z, h, e, X, W, c, ok, q => by cases h
  | .fs _, z, h, e, X, W, c, ok, q => by cases h
  | .no, z, h, e, X, W, c, ok, q => by cases h
theorem chks_ok (gl : Glob T G mg prog C.P) (U : Uni T prog w0 mg base C k) : ∀ (ies : List IE) (l : List Expr) (X : Cx) (W : WX) (c : SC), Ok T prog w0 mg base C k X W c → chkEs G c ies l = true → PA X l (tA T W (evs C ies))
  | [], l, X, W, c, ok, h => by
    cases l with
    | nil => exact PA.eq da_nil fun E S => by simp only [evs]
    | cons a l => simp [chkEs] at h
  | ie :: ies, l, X, W, c, ok, h => by
    cases l with
    | nil => exact absurd h (by cases ie <;> simp [chkEs])
    | cons a l =>
      by_cases hst : ∃ z, ie = .star z
      · obtain ⟨z, hz⟩ := hst
        have jz := chkA_ok gl U ie z hz
        have js := chks_ok gl U ies
        rw [hz] at h ⊢
        simp only [chkEs] at h
        split at h
        · rename_i heq
          cases heq
          simp only [Bool.and_eq_true] at h
          exact PA.eq (da_star ok.same.K (jz _ X W c ok h.1).pe (js _ X W c ok h.2)) fun E S => rfl
        · cases h
      · have hs : plainX a = true ∧ chkE G c ie a = true ∧ chkEs G c ies l = true ∧ ∀ S x, spread S ie x = some [x] := by
          cases ie <;> first
            | (simp only [chkEs, Bool.and_eq_true] at h; exact ⟨h.1.1, h.1.2, h.2, fun _ _ => rfl⟩)
            | exact absurd ⟨_, rfl⟩ hst
        obtain ⟨h1, h2, h3, sp⟩ := hs
        refine PA.eq (da_cons (chk_ok gl U ie a X W c ok h2).pe (chks_ok gl U ies l X W c ok h3) (star_cons h1)) fun E S => ?_
        simp only [evs, sp]
        rfl
theorem chkO_ok (gl : Glob T G mg prog C.P) (U : Uni T prog w0 mg base C k) : ∀ (ies : List IE) (o : Option Expr) (X : Cx) (W : WX) (c : SC), Ok T prog w0 mg base C k X W c → chkO G c ies o = true → PO X o (tR T ROpt W (fun E S => (evs C ies E S).bind fun l S' => ofO (partD l) S'))
  | [], o, X, W, c, ok, h => by
    cases o with
    | none => exact do_none
    | some e => simp [chkO] at h
  | ie :: ies, o, X, W, c, ok, h => by
    cases o with
    | none => simp [chkO] at h
    | some e =>
      simp only [chkO, Bool.and_eq_true] at h
      have e0 : ies = [] := by simpa using h.1.1
      subst e0
      have sp : ∀ S x, spread S ie x = some [x] := by cases ie <;> first | (intro _ _; rfl) | (simp [chkE] at h)
      refine po_eq (do_some (chk_ok gl U ie e X W c ok h.2).pe) fun E S => ?_
      simp only [partR, evs, sp]
      rfl
theorem chkCs_ok (gl : Glob T G mg prog C.P) (U : Uni T prog w0 mg base C k) : ∀ (ies : List IE) (l : List Expr) (X : Cx) (W : WX) (c : SC), Ok T prog w0 mg base C k X W c → chkCs G c ies l = true → PTs X l (tT T W (evC C ies))
  | [], l, X, W, c, ok, h => by
    cases l with
    | nil => exact ⟨fun pins s σ H Q I ⟨E, S, w, eo, so, p⟩ => pts_nil.run pins s σ H Q I (p true H w (Wd.le.refl w) so rfl)⟩
    | cons a l => simp [chkCs] at h
  | ie :: ies, l, X, W, c, ok, h => by
    cases l with
    | nil => simp [chkCs] at h
    | cons a l =>
      simp only [chkCs, Bool.and_eq_true] at h
      have e0 : ies = [] := by simpa using h.1.1
      have e1 : l = [] := by simpa using h.1.2
      subst e0; subst e1
      refine pts_eq (pts_one (chk_ok gl U ie a X W c ok h.2).pt) fun E S => ?_
      simp only [truR, evC]
      cases ev C ie E S with
      | exc c fs S' => rfl
      | bad => rfl
      | ok x S' =>
        simp only [Res.bind]
        cases truD S' x with
        | none => rfl
        | some b => cases b <;> rfl
theorem chkI_ok (gl : Glob T G mg prog C.P) (U : Uni T prog w0 mg base C k) : ∀ (ie : IE) (e tg : Expr) (X : Cx) (W : WX) (c : SC), Ok T prog w0 mg base C k X W c → chkI G c ie e = true → PI X tg e (tI T W (evI C ie))
  | .it a, e, tg, X, W, c, ok, h => by
    simp only [chkI] at h
    exact PI.eq (ds_iter ok.same.K (chk_ok gl U a e X W c ok h).pe) fun E S => rfl
  | .rng as, e, tg, X, W, c, ok, h => by
    simp only [chkI] at h
    split at h
    · rename_i x p l pos
      simp only [Bool.and_eq_true, beq_iff_eq, Bool.or_eq_true] at h
      obtain ⟨⟨⟨⟨rfl, h2⟩, h3⟩, h4⟩, h5⟩ := h
      have ha := chks_ok gl U as l X W c ok h3
      have hl := evs_len (G := G) C as l c h3 h4
      have hg := gl_of ok.hx h2
      have hm : X.mg "range" = none := by rw [ok.same.mg]; exact gl.rng
      rcases l with _ | ⟨a, _ | ⟨b, _ | ⟨d, _ | ⟨d', l⟩⟩⟩⟩ <;> first | (simp at h5; done) | skip
      · refine PI.eq (ds_rng1 hg hm ha h4) fun E S => ?_
        simp only [evI]
        cases z : evs C as E S with
        | exc c fs S' => rfl
        | bad => rfl
        | ok ds S' =>
          have := hl E S ds S' z
          rcases ds with _ | ⟨d1, _ | ⟨d2, ds⟩⟩ <;> first | (simp at this; done) | rfl
      · refine PI.eq (ds_rng2 hg hm ha h4) fun E S => ?_
        simp only [evI]
        cases z : evs C as E S with
        | exc c fs S' => rfl
        | bad => rfl
        | ok ds S' =>
          have := hl E S ds S' z
          rcases ds with _ | ⟨d1, _ | ⟨d2, _ | ⟨d3, ds⟩⟩⟩ <;> first | (simp at this; done) | rfl
      · refine PI.eq (ds_rng3 hg hm ha h4) fun E S => ?_
        simp only [evI]
        cases z : evs C as E S with
        | exc c fs S' => rfl
        | bad => rfl
        | ok ds S' =>
          have := hl E S ds S' z
          rcases ds with _ | ⟨d1, _ | ⟨d2, _ | ⟨d3, _ | ⟨d4, ds⟩⟩⟩⟩ <;> first | (simp at this; done) | rfl
    · cases h
  | .var _, e, tg, X, W, c, ok, h => by simp [chkI] at h
  | .cst _, e, tg, X, W, c, ok, h => by simp [chkI] at h
  | .gc _, e, tg, X, W, c, ok, h => by simp [chkI] at h
  | .gf _, e, tg, X, W, c, ok, h => by simp [chkI] at h
  | .xmk _ _, e, tg, X, W, c, ok, h => by simp [chkI] at h
  | .star _, e, tg, X, W, c, ok, h => by simp [chkI] at h
  | .tup _, e, tg, X, W, c, ok, h => by simp [chkI] at h
  | .lst _ _, e, tg, X, W, c, ok, h => by simp [chkI] at h
  | .dct _ _ _ _, e, tg, X, W, c, ok, h => by simp [chkI] at h
  | .bin _ _ _, e, tg, X, W, c, ok, h => by simp [chkI] at h
  | .neg _, e, tg, X, W, c, ok, h => by simp [chkI] at h
  | .not _, e, tg, X, W, c, ok, h => by simp [chkI] at h
  | .cmp _ _ _, e, tg, X, W, c, ok, h => by simp [chkI] at h
  | .chn _ _ _ _ _, e, tg, X, W, c, ok, h => by simp [chkI] at h
  | .and _ _, e, tg, X, W, c, ok, h => by simp [chkI] at h
  | .or _ _, e, tg, X, W, c, ok, h => by simp [chkI] at h
  | .ite _ _ _, e, tg, X, W, c, ok, h => by simp [chkI] at h
  | .fld _ _, e, tg, X, W, c, ok, h => by simp [chkI] at h
  | .ix _ _, e, tg, X, W, c, ok, h => by simp [chkI] at h
  | .sl _ _ _, e, tg, X, W, c, ok, h => by simp [chkI] at h
  | .rev _, e, tg, X, W, c, ok, h => by simp [chkI] at h
  | .call _ _, e, tg, X, W, c, ok, h => by simp [chkI] at h
  | .callv _ _, e, tg, X, W, c, ok, h => by simp [chkI] at h
  | .meth _ _ _, e, tg, X, W, c, ok, h => by simp [chkI] at h
  | .bm _ _ _, e, tg, X, W, c, ok, h => by simp [chkI] at h
  | .mk _ _ _, e, tg, X, W, c, ok, h => by simp [chkI] at h
  | .b _ _, e, tg, X, W, c, ok, h => by simp [chkI] at h
  | .isi _ _, e, tg, X, W, c, ok, h => by simp [chkI] at h
  | .enm _, e, tg, X, W, c, ok, h => by simp [chkI] at h
  | .zip _, e, tg, X, W, c, ok, h => by simp [chkI] at h
  | .items _, e, tg, X, W, c, ok, h => by simp [chkI] at h
  | .vals _, e, tg, X, W, c, ok, h => by simp [chkI] at h
  | .keys _, e, tg, X, W, c, ok, h => by simp [chkI] at h
  | .lc _ _ _ _ _ _, e, tg, X, W, c, ok, h => by simp [chkI] at h
  | .lc2 _ _ _ _ _ _ _, e, tg, X, W, c, ok, h => by simp [chkI] at h
  | .dc _ _ _ _ _ _ _ _, e, tg, X, W, c, ok, h => by simp [chkI] at h
  | .fs _, e, tg, X, W, c, ok, h => by simp [chkI] at h
  | .no, e, tg, X, W, c, ok, h => by simp [chkI] at h
end
end DV
end
section
/-! The checker: statements. -/
set_option Elab.async false
set_option linter.all false
set_option maxRecDepth 100000
set_option maxHeartbeats 400000
namespace DV
open PySem L2 PyProof.Rows
def notComp : Expr → Bool
  | .ListComp _ _ _ _ => false
  | .SetComp _ _ _ _ => false
  | .DictComp _ _ _ _ _ => false
  | _ => true
theorem swaps_plain {v : Expr} {t : Option Expr} {l : Nat} {env : PySem.Env} (h : notComp v = true) : swapsWith v t l env = pure false := by
  cases v <;> first | rfl | (simp [notComp] at h)
def lineB (py pos : Pos) : Bool := py.line == pos.line
def noOwn (scope : Scope) (y : Str) : Bool := !(scope.names.any fun (n, k) => n == y && (k == .local || k == .cell))
section
variable {T : Tab} {X : Cx} {W : WX} {C : Ctx} {k : Nat} {c : SC}
theorem ds_setLc {i : Nat} {y : Str} {py : Pos} {elt tg iter : Expr} {ifs : List Expr} {scope : Scope} {own : List (Str × Nat)} {pos spos : Pos} {t : IT} {ri : Env → Store → Res Src} {rc : Env → Store → Res Bool} {re : Env → Store → Res D} {m : Bool} (hx : Hx X c) (hc : X.calm = true) (hi' : nameOk c i y = true) (hyl : c.sc.names.lookup y = some .local)
    (hk : X.env.scope.kind = .function) (hl : lineB py pos = true) (hno : noOwn scope y = true) (hi : PI X tg iter (tI T W ri)) (ok : BlkOk X.N X.env.scope scope own)
    (hv : ∀ j ∈ t.vars, j ∈ own.map (·.2)) (hg : InBlk X scope fun Y => PG Y tg (tgD T t)) (ht : InBlk X scope fun Y => PTs Y ifs (tT T W0 rc)) (he : InBlk X scope fun Y => PE Y elt (tE T W0 re)) (hs : ∀ x, foldedSetIterable iter X.env x = pure x) :
    PS X (.Assign [.Name y py] (.ListComp elt [⟨tg, iter, ifs, 0⟩] scope pos) spos) (tS T W fun E S => toS E (lcR t (own.map (·.2)) m rc re E (ri E S)) fun d S' => nmS i d E S') := by
  simp only [nameOk, Bool.and_eq_true, beq_iff_eq] at hi'
  have lc : X.env.scope.names.lookup y = some .local := by rw [hx.sc]; exact hyl
  refine PS.imp (ps_setLc hc hx.nd (by rw [hx.N]; exact hi'.1.1) lc (sw_true hk lc hl (by unfold noOwn at hno; simpa using hno)) hi ok (fun s H C cl fp => pg_lock (hg s H C cl fp)) (fun s H C cl fp => pts_lock (ht s H C cl fp)) (fun s H C cl fp => pe_lock (he s H C cl fp)) hs) fun D σ H h => ?_
  refine ds_tLc (m := m) hv σ H _ ((toS_step (r := fun E S => lcR t (own.map (·.2)) m rc re E (ri E S)) (f := fun E d S' => nmS i d E S') h).mono fun v H1 ⟨E, d, S, w, eo, so, rd, p⟩ => ?_)
  unfold nmS at p
  by_cases hlt : i < E.length
  · rw [if_pos hlt] at p; exact p _ _ w (Wd.le.refl w) (eo.set rd) so
  · rw [if_neg hlt] at p; exact p.elim
end
end DV
end
section
/-! The checker: statements, by recursion. -/
set_option Elab.async false
set_option linter.all false
set_option maxRecDepth 100000
set_option maxHeartbeats 400000
namespace DV
open PySem L2 PyProof.Rows
mutual
/-- a store, in order -/
def chkG (G : GT) (c : SC) : ST → Expr → Bool
  | .nm i, e => match e with
    | .Name x _ => nameOk c i x
    | _ => false
  | .tp ts, e => match e with
    | .Tuple l _ _ => c.calm && chkGs G c ts l
    | _ => false
  | .ix o i, e => match e with
    | .Subscript x y _ => chkE G c o x && chkE G c i y
    | _ => false
  | .fd _ _, _ => false
def chkGs (G : GT) (c : SC) : List ST → List Expr → Bool
  | [], l => l.isEmpty
  | t :: ts, l => match l with
    | e :: es => chkG G c t e && chkGs G c ts es
    | [] => false
end
/-- names stored from the right -/
def swapB (c : SC) : List ST → List Expr → List Expr → Bool
  | [.nm i, .nm j], [.Name x px, .Name y py], [a, b] => c.calm && nameOk c i x && nameOk c j y && c.sc.names.lookup x == some .local && c.sc.names.lookup y == some .local && i != j && swYes c.sc [.Name x px, .Name y py] [a, b] && swNames c.sc [.Name x px, .Name y py] == [x, y]
  | [.nm i, .nm j, .nm l], [.Name x px, .Name y py, .Name z pz], [a, b, d] => c.calm && nameOk c i x && nameOk c j y && nameOk c l z && c.sc.names.lookup x == some .local && c.sc.names.lookup y == some .local && c.sc.names.lookup z == some .local && i != j && i != l && j != l && swYes c.sc [.Name x px, .Name y py, .Name z pz] [a, b, d] && swNames c.sc [.Name x px, .Name y py, .Name z pz] == [x, y, z]
  | _, _, _ => false
/-- stores in order, the value being what it is -/
def inOrder (sc : Scope) : Expr → Expr → Bool
  | .Tuple ts _ _, .Tuple vs _ _ => swNo sc ts vs
  | .List _ _, _ => false
  | _, _ => true
def funB (sc : Scope) : Bool := match sc.kind with | .function => true | _ => false
/-- a clause's classes -/
def xnB (G : GT) (c : SC) (k : Nat) : Expr → Bool
  | .Name x _ => G.xs.lookup k == some x && glB c.sc x && nameB x
  | _ => false
def csB (G : GT) (c : SC) : List Nat → Expr → Bool
  | [k], .Name x p => xnB G c k (.Name x p)
  | [k1, k2], .Tuple [e1, e2] _ _ => xnB G c k1 e1 && xnB G c k2 e2
  | [k1, k2, k3], .Tuple [e1, e2, e3] _ _ => xnB G c k1 e1 && xnB G c k2 e2 && xnB G c k3 e3
  | [k1, k2, k3, k4], .Tuple [e1, e2, e3, e4] _ _ => xnB G c k1 e1 && xnB G c k2 e2 && xnB G c k3 e3 && xnB G c k4 e4
  | _, _ => false
def hnB (c : SC) : Option Nat → Option Str → Bool
  | none, none => true
  | some i, some n => c.N[i]? == some n && c.sc.names.lookup n == some .local
  | _, _ => false
def SC.hot (c : SC) : SC := { c with calm := false }
mutual
def chkS (G : GT) (c : SC) : IS → Stmt → Bool
  | .asg t e, st => match st with
    | .Assign [tg] v pos => (match t, tg, e, v with
      | .tp ts, .Tuple l _ _, .tup es, .Tuple vs _ _ => funB c.sc && swapB c ts l vs && chkEs G c es vs && vs.all plainX
      | .fd o f, .Attribute x n _, _, _ => G.nm[f]? == some n && G.flds.contains f && chkE G c o x && chkE G c e v && notComp v
      | .nm i, .Name y py, .lc _ vs tg it cs el, .ListComp elt [⟨tt, iter, ifs, 0⟩] scope lpos => funB c.sc && c.calm && nameOk c i y && c.sc.names.lookup y == some .local && lineB py lpos && noOwn scope y && blkC c.N c.sc scope (ownOf c vs) && chkT (inner c scope) tg tt && tg.vars.all (fun j => vs.contains j) && chkI G c it iter && notSet iter && chkCs G (inner c scope) cs ifs && chkE G (inner c scope) el elt
      | _, _, _, _ => false) || (chkE G c e v && chkG G c t tg && notComp v && inOrder c.sc tg v)
    | _ => false
  | .ex e, st => match st with
    | .Expr v _ => chkE G c e v && notComp v
    | _ => false
  | .ite q a b, st => match st with
    | .If t x y _ => chkE G c q t && chkSs G c a x && chkSs G c b y
    | _ => false
  | .loop t it body, st => match st with
    | .For tg iter b [] _ => c.calm && chkT c t tg && chkI G c it iter && notSet iter && chkSs G c body b
    | _ => false
  | .whl q body, st => match st with
    | .While t b [] _ => chkE G c q t && chkSs G c body b
    | _ => false
  | .ret e, st => match st with
    | .Return (some v) _ => chkE G c e v
    | .Return none _ => match e with
      | .cst .non => true
      | _ => false
    | _ => false
  | .pass, st => match st with
    | .Pass _ => true
    | _ => false
  | .brk, st => match st with
    | .Break _ => true
    | _ => false
  | .cnt, st => match st with
    | .Continue _ => true
    | _ => false
  | .rse k e, st => match st with
    | .Raise (some (.Call (.Name x _) [y] [] _)) none _ => c.calm && G.xs.lookup k == some x && G.xf.contains k && glB c.sc x && nameB x && chkE G c e y && plainX y
    | _ => false
  | .try_ bi hs, st => match st with
    | .Try body hds [] [] _ => c.calm && !hds.isEmpty && chkSs G c bi body && chkHs G c hs hds
    | _ => false
  | _, _ => false
def chkHs (G : GT) (c : SC) : List (List Nat × Option Nat × List IS) → List ExceptHandler → Bool
  | [], l => l.isEmpty
  | (cs, i, b) :: hs, l => match l with
    | .ExceptHandler (some t) n suite _ :: hds => csB G c cs t && hnB c i n && !suite.isEmpty && chkSs G c.hot b suite && chkHs G c hs hds
    | _ => false
def chkSs (G : GT) (c : SC) : List IS → List Stmt → Bool
  | [], l => l.isEmpty
  | s :: ss, l => match l with
    | st :: sts => chkS G c s st && chkSs G c ss sts
    | [] => false
end
end DV
end
section
/-! The checker is right: statements. -/
set_option Elab.async false
set_option linter.all false
set_option maxRecDepth 100000
set_option maxHeartbeats 400000
namespace DV
open PySem L2 PyProof.Rows
theorem plain_toS {E : DV.Env} {r : Res D} {f : D → Store → SRes} (h : ∀ d S, plainS (f d S) = true) : plainS (toS E r f) = true := by
  cases r <;> first | exact h _ _ | rfl
theorem plain_seq {r : SRes} {f : DV.Env → Store → SRes} (h0 : plainS r = true) (h : ∀ E S, plainS (f E S) = true) : plainS (r.seq f) = true := by
  cases r <;> first | exact h _ _ | rfl | cases h0
theorem plain_ix (x k d : D) (E : DV.Env) (S : Store) : plainS (ixS x k d E S) = true := by
  unfold ixS
  repeat' split
  all_goals rfl
mutual
theorem plain_asg (C : Ctx) : ∀ (t : ST) (d : D) (E : DV.Env) (S : Store), plainS (asgS C t d E S) = true
  | .nm i, d, E, S => by
    show plainS (nmS i d E S) = true
    unfold nmS
    split <;> rfl
  | .tp ts, d, E, S => by
    show plainS (tpS ts.length (asgSs C ts) d E S) = true
    unfold tpS
    split
    · split
      · exact plain_asgs C ts _ E S
      · rfl
    · rfl
  | .ix o i, d, E, S => plain_toS fun x S2 => plain_toS fun k S3 => plain_ix x k d E S3
  | .fd o f, d, E, S => plain_toS fun x S2 => by
    unfold fdS
    repeat' split
    all_goals rfl
theorem plain_asgs (C : Ctx) : ∀ (ts : List ST) (ds : List D) (E : DV.Env) (S : Store), plainS (asgSs C ts ds E S) = true
  | [], ds, E, S => by cases ds <;> rfl
  | t :: ts, ds, E, S => by
    cases ds with
    | nil => rfl
    | cons d ds => exact plain_seq (plain_asg C t d E S) fun E' S' => plain_asgs C ts ds E' S'
end
variable {T : Tab} {G : GT} {prog : Program} {w0 : World} {mg : Str → Option Value} {base : Heap} {C : Ctx} {k : Nat}
theorem chkG_plainX {c : SC} {t : ST} {e : Expr} (h : chkG G c t e = true) : plainX e = true := by
  cases t <;> cases e <;> first | rfl | (simp [chkG] at h)
theorem chkGs_plain {c : SC} : ∀ {ts : List ST} {l : List Expr}, chkGs G c ts l = true → l.all plainX = true ∧ l.length = ts.length
  | [], l, h => by cases l <;> first | exact ⟨rfl, rfl⟩ | (simp [chkGs] at h)
  | t :: ts, l, h => by
    cases l with
    | nil => simp [chkGs] at h
    | cons e es =>
      simp only [chkGs, Bool.and_eq_true] at h
      obtain ⟨h1, h2⟩ := chkGs_plain h.2
      exact ⟨by rw [List.all_cons, chkG_plainX h.1, h1]; rfl, by simp [h2]⟩
mutual
theorem chkG_ok (gl : Glob T G mg prog C.P) (U : Uni T prog w0 mg base C k) : ∀ (t : ST) (e : Expr) (X : Cx) (W : WX) (c : SC), Ok T prog w0 mg base C k X W c → chkG G c t e = true → PG X e (tgS T W (asgS C t))
  | .nm i, e, X, W, c, ok, h => by
    simp only [chkG] at h
    split at h
    · have he : asgS C (.nm i) = nmS i := by funext d E S; rfl
      rw [he]; exact dg_name ok.hx h
    · cases h
  | .tp ts, e, X, W, c, ok, h => by
    simp only [chkG] at h
    split at h
    · rw [Bool.and_eq_true] at h
      obtain ⟨h1, h2⟩ := chkGs_plain h.2
      have he : asgS C (.tp ts) = tpS ts.length (asgSs C ts) := by funext d E S; rfl
      rw [he]; exact dg_tup ok.same.K (ok.hx.calm h.1) h1 h2 (chkGs_ok gl U ts _ X W c ok h.2)
    · cases h
  | .ix o i, e, X, W, c, ok, h => by
    simp only [chkG] at h
    split at h
    · rw [Bool.and_eq_true] at h
      have hu := (ok.hy U).u65
      have he : asgS C (.ix o i) = fun d E S => toS E (ev C o E S) fun x S2 => toS E (ev C i E S2) fun k S3 => ixS x k d E S3 := by funext d E S; rfl
      rw [he]; exact dg_sub (by omega) (chk_ok gl U o _ X W c ok h.1).pe (chk_ok gl U i _ X W c ok h.2).pe
    · cases h
  | .fd _ _, e, X, W, c, ok, h => by simp [chkG] at h
theorem chkGs_ok (gl : Glob T G mg prog C.P) (U : Uni T prog w0 mg base C k) : ∀ (ts : List ST) (l : List Expr) (X : Cx) (W : WX) (c : SC), Ok T prog w0 mg base C k X W c → chkGs G c ts l = true → PGs X l (tgsS T W (asgSs C ts))
  | [], l, X, W, c, ok, h => by
    cases l with
    | nil =>
      have he : asgSs C [] = nilS := by funext d E S; cases d <;> rfl
      rw [he]; exact dgs_nil
    | cons e es => simp [chkGs] at h
  | t :: ts, l, X, W, c, ok, h => by
    cases l with
    | nil => simp [chkGs] at h
    | cons e es =>
      simp only [chkGs, Bool.and_eq_true] at h
      have he : asgSs C (t :: ts) = consS (asgS C t) (asgSs C ts) := by funext d E S; cases d <;> rfl
      rw [he]
      exact dgs_cons (plain_asg C t) (chkG_plainX h.1) (chkG_ok gl U t e X W c ok h.1) (chkGs_ok gl U ts es X W c ok h.2)
end
theorem ord_no {env : PySem.Env} {sc : Scope} {tg v : Expr} (hs : env.scope = sc) (h : inOrder sc tg v = true) : swappedStores [tg] v env = pure none := by
  by_cases ht : ∃ ts k p, tg = .Tuple ts k p
  · obtain ⟨ts, k, p, rfl⟩ := ht
    by_cases hv : ∃ vs k p, v = .Tuple vs k p
    · obtain ⟨vs, k, p, rfl⟩ := hv
      exact swap_no hs h
    · exact swap_val (by cases v <;> first | rfl | exact absurd ⟨_, _, _, rfl⟩ hv)
  · refine swap_tgt ?_
    cases tg <;> first | rfl | exact absurd ⟨_, _, _, rfl⟩ ht | (cases v <;> simp [inOrder] at h)
end DV
end
section
/-! The checker is right: statements, by recursion. -/
set_option Elab.async false
set_option linter.all false
set_option maxRecDepth 100000
set_option maxHeartbeats 400000
namespace DV
open PySem L2 PyProof.Rows
variable {T : Tab} {G : GT} {prog : Program} {w0 : World} {mg : Str → Option Value} {base : Heap} {C : Ctx} {k : Nat}
theorem fun_of {X : Cx} {c : SC} (hx : Hx X c) (h : funB c.sc = true) : X.env.scope.kind = .function ∧ X.env.blockKind = .function := by
  have e : X.env.scope.kind = .function := by
    rw [hx.sc]
    unfold funB at h
    split at h
    · assumption
    · cases h
  refine ⟨e, ?_⟩
  unfold PySem.Env.blockKind
  rw [e]; rfl
theorem PS.eq {X : Cx} {W : WX} {st : Stmt} {r r' : DV.Env → Store → SRes} (h : PS X st (tS T W r)) (q : ∀ E S, r E S = r' E S) : PS X st (tS T W r') := by
  have : r = r' := funext fun E => funext fun S => q E S
  rw [← this]; exact h
theorem PSs.eq {X : Cx} {W : WX} {st : List Stmt} {r r' : DV.Env → Store → SRes} (h : PSs X st (tS T W r)) (q : ∀ E S, r E S = r' E S) : PSs X st (tS T W r') := by
  have : r = r' := funext fun E => funext fun S => q E S
  rw [← this]; exact h
theorem swap_ok (gl : Glob T G mg prog C.P) (U : Uni T prog w0 mg base C k) {ts : List ST} {l : List Expr} {es : List IE} {vs : List Expr} {k1 k2 : Nat} {p1 p2 pos : Pos} {X : Cx} {W : WX} {c : SC} (ok : Ok T prog w0 mg base C k X W c) (hf : funB c.sc = true) (hs : swapB c ts l vs = true) (he : chkEs G c es vs = true) :
    PS X (.Assign [.Tuple l k1 p1] (.Tuple vs k2 p2) pos) (tS T W (exec C (.asg (.tp ts) (.tup es)))) := by
  have ha := chks_ok gl U es vs X W c ok he
  have hk := (fun_of ok.hx hf).2
  unfold swapB at hs
  split at hs
  · rename_i i j x px y py a b
    simp only [Bool.and_eq_true, beq_iff_eq, bne_iff_ne] at hs
    obtain ⟨⟨⟨⟨⟨⟨⟨h1, h2⟩, h3⟩, h4⟩, h5⟩, h6⟩, h7⟩, h8⟩ := hs
    exact PS.eq (ds_par2 ok.hx h1 hk h2 h3 h4 h5 h6 ha h7 h8) fun E S => by
      show toS E (tupR (evs C es) E S) _ = toS E (ev C (.tup es) E S) (fun d S' => asgS C (.tp [.nm i, .nm j]) d E S')
      have e1 : tupR (evs C es) E S = ev C (.tup es) E S := rfl
      have e2 : ∀ d S', tpS 2 (consS (nmS i) (consS (nmS j) nilS)) d E S' = asgS C (.tp [.nm i, .nm j]) d E S' := fun d S' => by
        show tpS 2 _ d E S' = tpS 2 (asgSs C [.nm i, .nm j]) d E S'
        have : consS (nmS i) (consS (nmS j) nilS) = asgSs C [.nm i, .nm j] := by
          funext ds E S
          rcases ds with _ | ⟨d1, _ | ⟨d2, _ | ⟨d3, ds⟩⟩⟩ <;> rfl
        rw [this]
      rw [e1]
      congr 1
      funext d S'
      exact e2 d S'
  · rename_i i j l' x px y py z pz a b d
    simp only [Bool.and_eq_true, beq_iff_eq, bne_iff_ne] at hs
    obtain ⟨⟨⟨⟨⟨⟨⟨⟨⟨⟨⟨h1, h2⟩, h3⟩, h3'⟩, h4⟩, h5⟩, h5'⟩, h6⟩, h6'⟩, h6''⟩, h7⟩, h8⟩ := hs
    exact PS.eq (ds_par3 ok.hx h1 hk h2 h3 h3' h4 h5 h5' h6 h6' h6'' ha h7 h8) fun E S => by
      show toS E (tupR (evs C es) E S) _ = toS E (ev C (.tup es) E S) (fun d S' => asgS C (.tp [.nm i, .nm j, .nm l']) d E S')
      have e1 : tupR (evs C es) E S = ev C (.tup es) E S := rfl
      have e2 : ∀ d S', tpS 3 (consS (nmS i) (consS (nmS j) (consS (nmS l') nilS))) d E S' = asgS C (.tp [.nm i, .nm j, .nm l']) d E S' := fun d S' => by
        show tpS 3 _ d E S' = tpS 3 (asgSs C [.nm i, .nm j, .nm l']) d E S'
        have : consS (nmS i) (consS (nmS j) (consS (nmS l') nilS)) = asgSs C [.nm i, .nm j, .nm l'] := by
          funext ds E S
          rcases ds with _ | ⟨d1, _ | ⟨d2, _ | ⟨d3, _ | ⟨d4, ds⟩⟩⟩⟩ <;> rfl
        rw [this]
      rw [e1]
      congr 1
      funext d S'
      exact e2 d S'
  · cases hs
theorem asg_ok (gl : Glob T G mg prog C.P) (U : Uni T prog w0 mg base C k) {t : ST} {e : IE} {tg v : Expr} {pos : Pos} {X : Cx} {W : WX} {c : SC} (ok : Ok T prog w0 mg base C k X W c) (h1 : chkE G c e v = true) (h2 : chkG G c t tg = true) (h3 : notComp v = true) (h4 : inOrder c.sc tg v = true) :
    PS X (.Assign [tg] v pos) (tS T W (exec C (.asg t e))) := by
  have hp := chkG_plainX h2
  exact PS.eq (ds_asg (plain_asg C t) (chk_ok gl U e v X W c ok h1).pe (chkG_ok gl U t tg X W c ok h2) (by show swapsWith v (some tg) pos.line X.env = pure false; exact swaps_plain h3) (ord_no ok.hx.sc h4) (by
    have : assignEach [tg] X.env = [tg].map fun e => (false, assign e X.env) := assignEach_plain (by simp [hp])
    rw [this]; rfl)) fun E S => rfl
theorem uni_quiet {C : Ctx} (tab : TabOk T C.P) : Uni T prog w0 mg base C.quiet k := fun X W sm tk hg hr _ =>
  ⟨sm.K, tab, hr, fun A sb hg pins s σ H Q vs us ds S w f a I r rd so ha p => p.elim, hg⟩
theorem xn_ok (gl : Glob T G mg prog C.P) {X : Cx} {c : SC} (hm : X.mg = mg) (hx : Hx X c) {kk : Nat} {e : Expr} (h : xnB G c kk e = true) : ∃ x p a, e = .Name x p ∧ T.xa kk = some a ∧ Names X x (.ref a) := by
  unfold xnB at h
  split at h
  · rename_i x p
    simp only [Bool.and_eq_true, beq_iff_eq] at h
    obtain ⟨⟨h1, h2⟩, h3⟩ := h
    obtain ⟨a, e1, e2⟩ := gl.xs kk x h1
    exact ⟨x, p, a, rfl, e1, gl_of hx h2, (name_of h3).1, .inl (by rw [hm]; exact e2)⟩
  · cases h
theorem cs_ok (gl : Glob T G mg prog C.P) {X : Cx} {c : SC} (hm : X.mg = mg) (hx : Hx X c) {cs : List Nat} {e : Expr} (h : csB G c cs e = true) : ∃ cc, TstOk X e cc ∧ CsOk T cs cc := by
  unfold csB at h
  split at h
  · obtain ⟨x, p, a, e0, e1, e2⟩ := xn_ok gl hm hx h
    cases e0
    exact ⟨_, .one e2, .one e1⟩
  · simp only [Bool.and_eq_true] at h
    obtain ⟨x1, p1, a1, rfl, q1, n1⟩ := xn_ok gl hm hx h.1
    obtain ⟨x2, p2, a2, rfl, q2, n2⟩ := xn_ok gl hm hx h.2
    exact ⟨_, .two n1 n2, .tup (Es := [a1, a2]) (by simp [q1, q2])⟩
  · simp only [Bool.and_eq_true] at h
    obtain ⟨x1, p1, a1, rfl, q1, n1⟩ := xn_ok gl hm hx h.1.1
    obtain ⟨x2, p2, a2, rfl, q2, n2⟩ := xn_ok gl hm hx h.1.2
    obtain ⟨x3, p3, a3, rfl, q3, n3⟩ := xn_ok gl hm hx h.2
    exact ⟨_, .three n1 n2 n3, .tup (Es := [a1, a2, a3]) (by simp [q1, q2, q3])⟩
  · simp only [Bool.and_eq_true] at h
    obtain ⟨x1, p1, a1, rfl, q1, n1⟩ := xn_ok gl hm hx h.1.1.1
    obtain ⟨x2, p2, a2, rfl, q2, n2⟩ := xn_ok gl hm hx h.1.1.2
    obtain ⟨x3, p3, a3, rfl, q3, n3⟩ := xn_ok gl hm hx h.1.2
    obtain ⟨x4, p4, a4, rfl, q4, n4⟩ := xn_ok gl hm hx h.2
    exact ⟨_, .four n1 n2 n3 n4, .tup (Es := [a1, a2, a3, a4]) (by simp [q1, q2, q3, q4])⟩
  · cases h
/-- what a body's statements need besides -/
structure OkS (T : Tab) (prog : Program) (w0 : World) (mg : Str → Option Value) (base : Heap) (C : Ctx) (k : Nat) (X : Cx) (W : WX) (c : SC) : Prop where
  ok : Ok T prog w0 mg base C k X W c
  own : PassesOwn (model X.prog X.w) X.A X.env X.xe
  fra : Fra X
theorem ds_retN {X : Cx} {W : WX} {pos : Pos} : PS X (.Return none pos) (tS T W fun E S => .ret .non S) := PS.imp ps_retN fun D σ H ⟨E, S, w, eo, so, p⟩ => p .non H w (Wd.le.refl w) so (by simp only [Rep])
mutual
theorem chkS_ok : ∀ (s : IS) (st : Stmt) (C : Ctx) (X : Cx) (W : WX) (c : SC), Glob T G mg prog C.P → Uni T prog w0 mg base C k → OkS T prog w0 mg base C k X W c → chkS G c s st = true → PS X st (tS T W (exec C s))
  | .asg t e, st, C, X, W, c, gl, U, os, h => by
    have ok := os.ok
    simp only [chkS] at h
    split at h
    · rename_i tg v pos
      rw [Bool.or_eq_true] at h
      rcases h with h | h
      · split at h
        · rename_i ts l _ _ es vs _ _
          simp only [Bool.and_eq_true] at h
          exact swap_ok gl U ok h.1.1.1 h.1.1.2 h.1.2
        · rename_i o f x n _
          simp only [Bool.and_eq_true, beq_iff_eq] at h
          obtain ⟨⟨⟨⟨h1, h2⟩, h3⟩, h4⟩, h5⟩ := h
          have hy := ok.hy U
          have hn := gl.nm f _ h1
          refine PS.eq (ds_fld hy.tab.inj hn (fun cc Cc hc => ?_) (chk_ok gl U o _ X W c ok h3).pe (chk_ok gl U e _ X W c ok h4).pe (swaps_plain h5)) fun E S => rfl
          rw [ok.same.K, ← hn]
          exact ⟨(hy.tab.cls cc Cc hc).1, gl.fld f (List.contains_iff_mem.mp h2) cc Cc hc⟩
        · rename_i i y py m vs tg' it cs el elt tt iter ifs scope lpos
          simp only [Bool.and_eq_true, List.all_eq_true, beq_iff_eq] at h
          obtain ⟨⟨⟨⟨⟨⟨⟨⟨⟨⟨⟨⟨h1, h2⟩, h3⟩, h4⟩, h5⟩, h6⟩, h7⟩, h8⟩, h9⟩, h10⟩, h11⟩, h12⟩, h13⟩ := h
          have hb : BlkOk X.N X.env.scope scope (ownOf c vs) := by rw [ok.hx.N, ok.hx.sc]; exact blkOk_by h7
          have q := ds_setLc (m := m) (spos := pos) (pos := lpos) (py := py) (W := W) ok.hx (ok.hx.calm h2) h3 h4 (fun_of ok.hx h1).1 h5 h6 (chkI_ok gl U it iter tt X W c ok h10) hb (fun j hj => by rw [own_map]; exact List.contains_iff_mem.mp (h9 j hj))
            (fun s H Cd cl fp => pg_it (ok_blk ok s H Cd cl fp).hx ok.same.K tg' tt h8) (fun s H Cd cl fp => chkCs_ok gl U cs ifs _ W0 _ (ok_blk ok s H Cd cl fp) h12) (fun s H Cd cl fp => (chk_ok gl U el elt _ W0 _ (ok_blk ok s H Cd cl fp) h13).pe) (fun x => set_plain h11)
          refine PS.eq q fun E S => ?_
          rw [own_map, lc_eq E S (nolock h10)]
          rfl
        · cases h
      · simp only [Bool.and_eq_true] at h
        exact asg_ok gl U ok h.1.1.1 h.1.1.2 h.1.2 h.2
    · cases h
  | .ex e, st, C, X, W, c, gl, U, os, h => by
    simp only [chkS] at h
    split at h
    · rw [Bool.and_eq_true] at h
      exact PS.eq (ds_ex (chk_ok gl U e _ X W c os.ok h.1).pe (swaps_plain h.2)) fun E S => rfl
    · cases h
  | .ite q a b, st, C, X, W, c, gl, U, os, h => by
    simp only [chkS] at h
    split at h
    · simp only [Bool.and_eq_true] at h
      exact PS.eq (ds_if (chk_ok gl U q _ X W c os.ok h.1.1).pt (chkSs_ok a _ C X W c gl U os h.1.2) (chkSs_ok b _ C X W c gl U os h.2)) fun E S => rfl
    · cases h
  | .loop t it body, st, C, X, W, c, gl, U, os, h => by
    have ok := os.ok
    simp only [chkS] at h
    split at h
    · simp only [Bool.and_eq_true] at h
      obtain ⟨⟨⟨⟨h1, h2⟩, h3⟩, h4⟩, h5⟩ := h
      refine PS.eq (ds_for os.own (ok.hx.calm h1) (chkI_ok gl U it _ _ X W c ok h3) (pg_it ok.hx ok.same.K t _ h2) (chkSs_ok body _ C X W c gl U os h5) (fun x => set_plain h4)) fun E S => ?_
      have hl := nolock (C := C) h3 (E := E) (S := S)
      show loopS t (execs C body) E (evI C it E S) = exec C (.loop t it body) E S
      simp only [exec]
      cases z : evI C it E S with
      | exc c fs S' => rfl
      | bad => rfl
      | ok src S' =>
        cases src with
        | items ds => rfl
        | cell n k => rfl
        | lock n ks => exact absurd (hl _ _ z) (by simp [notLock])
    · cases h
  | .whl q body, st, C, X, W, c, gl, U, os, h => by
    simp only [chkS] at h
    split at h
    · rw [Bool.and_eq_true] at h
      exact PS.eq (ds_while (m0 := C.wf) os.own (chk_ok gl U q _ X W c os.ok h.1).pt (chkSs_ok body _ C X W c gl U os h.2)) fun E S => rfl
    · cases h
  | .ret e, st, C, X, W, c, gl, U, os, h => by
    simp only [chkS] at h
    split at h
    · exact PS.eq (ds_ret (chk_ok gl U e _ X W c os.ok h).pe) fun E S => rfl
    · split at h
      · exact PS.eq ds_retN fun E S => rfl
      · cases h
    · cases h
  | .pass, st, C, X, W, c, gl, U, os, h => by
    simp only [chkS] at h
    split at h
    · exact PS.eq ds_pass fun E S => rfl
    · cases h
  | .brk, st, C, X, W, c, gl, U, os, h => by
    simp only [chkS] at h
    split at h
    · exact PS.eq ds_brk fun E S => rfl
    · cases h
  | .cnt, st, C, X, W, c, gl, U, os, h => by
    simp only [chkS] at h
    split at h
    · exact PS.eq ds_cnt fun E S => rfl
    · cases h
  | .rse kk e, st, C, X, W, c, gl, U, os, h => by
    have ok := os.ok
    simp only [chkS] at h
    split at h
    · rename_i x p y pos pos'
      simp only [Bool.and_eq_true, beq_iff_eq] at h
      obtain ⟨⟨⟨⟨⟨⟨h0, h1⟩, h2⟩, h3⟩, h4⟩, h5⟩, h6⟩ := h
      obtain ⟨ad, e1, e2⟩ := gl.xs kk x h1
      obtain ⟨f, hf⟩ := gl.xf kk (List.contains_iff_mem.mp h2)
      have hd := ok.room.dp
      exact PS.eq (ds_rse (P := C.P) (by rw [ok.same.prog]; exact gl.xt) ok.same.K e1 hf (by rw [ok.same.mg]; exact gl.sup) (by omega) (ok.hx.calm h0) ok.tk (gl_of ok.hx h3) (by rw [ok.same.mg]; exact e2) (chk_ok gl U e y X W c ok h5).pe h6 (name_of h4).1) fun E S => by simp only [exec, hf]
    · cases h
  | .try_ bi hs, st, C, X, W, c, gl, U, os, h => by
    have ok := os.ok
    simp only [chkS] at h
    split at h
    · rename_i body hds pos
      simp only [Bool.and_eq_true] at h
      obtain ⟨⟨⟨h0, h1⟩, h2⟩, h3⟩ := h
      obtain ⟨l, q1, q2⟩ := chkHs_ok hs hds C X W c gl U os h3
      cases hds with
      | nil => simp at h1
      | cons hd hds =>
        refine PS.eq (ds_try gl.xt ok.same.K os.fra ok.hx.nd ok.tk (fun W' pn xe tk' po => chkSs_ok bi body C (X.tr pn xe) W' c gl U ⟨⟨⟨ok.same.prog, ok.same.w, ok.same.K, ok.same.mg, ok.same.base⟩, ⟨ok.hx.N, ok.hx.nd, ok.hx.sc, ok.hx.fn, ok.hx.calm⟩, tk', ok.gd, ok.room, ok.hd⟩, po, ⟨os.fra.st, os.fra.fr, os.fra.ex⟩⟩ h2) q1 q2) fun E S => rfl
    · cases h
  | .mtch _ _, st, C, X, W, c, gl, U, os, h => by simp [chkS] at h
  | .no, st, C, X, W, c, gl, U, os, h => by simp [chkS] at h
theorem chkSs_ok : ∀ (ss : List IS) (l : List Stmt) (C : Ctx) (X : Cx) (W : WX) (c : SC), Glob T G mg prog C.P → Uni T prog w0 mg base C k → OkS T prog w0 mg base C k X W c → chkSs G c ss l = true → PSs X l (tS T W (execs C ss))
  | [], l, C, X, W, c, gl, U, os, h => by
    cases l with
    | nil => exact PSs.eq dss_nil fun E S => rfl
    | cons st l => simp [chkSs] at h
  | s :: ss, l, C, X, W, c, gl, U, os, h => by
    cases l with
    | nil => simp [chkSs] at h
    | cons st l =>
      simp only [chkSs, Bool.and_eq_true] at h
      exact PSs.eq (dss_cons (chkS_ok s st C X W c gl U os h.1) (chkSs_ok ss l C X W c gl U os h.2)) fun E S => rfl
theorem chkHs_ok : ∀ (hs : List (List Nat × Option Nat × List IS)) (hds : List ExceptHandler) (C : Ctx) (X : Cx) (W : WX) (c : SC), Glob T G mg prog C.P → Uni T prog w0 mg base C k → OkS T prog w0 mg base C k X W c → chkHs G c hs hds = true → ∃ l, HdsE X hds l ∧ ClsOk T (execs C.quiet) hs l
  | [], hds, C, X, W, c, gl, U, os, h => by
    cases hds with
    | nil => exact ⟨[], .nil, .nil⟩
    | cons a r => simp [chkHs] at h
  | (cs, i, b) :: hs, hds, C, X, W, c, gl, U, os, h => by
    have ok := os.ok
    simp only [chkHs] at h
    split at h
    · rename_i t n suite pos hds'
      simp only [Bool.and_eq_true] at h
      obtain ⟨⟨⟨⟨h1, h2⟩, h3⟩, h4⟩, h5⟩ := h
      obtain ⟨l, q1, q2⟩ := chkHs_ok hs hds' C X W c gl U os h5
      obtain ⟨cc, t1, t2⟩ := cs_ok gl ok.same.mg ok.hx h1
      have hsu : ∀ (a : Addr) (pn : List (Addr × Obj)), PSs (X.suite a pn) suite (tS T W0x (execs C.quiet b)) := fun a pn =>
        chkSs_ok b suite C.quiet (X.suite a pn) W0x c.hot gl (uni_quiet (ok.hy U).tab) ⟨⟨⟨ok.same.prog, ok.same.w, ok.same.K, ok.same.mg, ok.same.base⟩, ⟨ok.hx.N, ok.hx.nd, ok.hx.sc, ok.hx.fn, fun z => by cases z⟩, fun u s' x => by
          obtain ⟨_, _, _, _, _, _, _, _, _, _, _, _, _, _, _, _, w⟩ := x
          exact w.elim, ok.gd, ⟨ok.room.dp, ok.room.un⟩, .inl fun _ _ _ => rfl⟩, PassesOwn.never, ⟨os.fra.st, os.fra.fr, os.fra.ex⟩⟩ h4
      cases suite with
      | nil => simp at h3
      | cons b0 suite =>
        cases i with
        | none =>
          cases n with
          | none => exact ⟨_, .only t1 hsu q1, .cons t2 q2⟩
          | some n => simp [hnB] at h2
        | some i =>
          cases n with
          | none => simp [hnB] at h2
          | some n =>
            simp only [hnB, Bool.and_eq_true, beq_iff_eq] at h2
            exact ⟨_, .as_ t1 (by rw [ok.hx.N]; exact h2.1) (by show X.env.scope.names.lookup n = _; rw [ok.hx.sc]; exact h2.2) hsu q1, .cons t2 q2⟩
    · cases h
end
/-- a body by its checker -/
theorem body_ok {P : Prog} {wf : Nat} {di : DefI} {N : List Str} {body : List Stmt} {scope : Scope} (gl : Glob T G mg prog P) (h : chkSs G ⟨N, scope, true, true⟩ di.body body = true) : BodyOk T prog w0 mg base P wf di N body scope := by
  intro X W C k sm hx tk own st hP hwf hg hr U
  subst hP
  exact chkSs_ok di.body body C X W _ gl U ⟨⟨sm, hx, tk, hg, Rm.of hr, .inr hr.hd⟩, own, st⟩ h
end DV
end
section
/-! How plain arguments are bound. -/
set_option Elab.async false
set_option linter.all false
set_option maxRecDepth 100000
set_option maxHeartbeats 1000000
namespace DV
open PySem PySem.Spec PyProof.Rows L2
theorem fm_congr {α β : Type} {f g : α → Option β} : ∀ {l : List α}, (∀ x ∈ l, f x = g x) → l.filterMap f = l.filterMap g
  | [], _ => rfl
  | a :: l, h => by rw [List.filterMap_cons, List.filterMap_cons, h a (List.mem_cons_self ..), fm_congr fun x hx => h x (List.mem_cons_of_mem _ hx)]
theorem zip_look {α : Type} : ∀ {ps : List Str} {us : List α}, ps.Nodup → us.length = ps.length → ps.filterMap (fun n => ((ps.zip us).lookup n).map (n, ·)) = ps.zip us
  | [], us, _, h => by cases us <;> simp_all
  | p :: ps, [], _, h => by simp at h
  | p :: ps, u :: us, hn, h => by
    obtain ⟨h1, h2⟩ := List.nodup_cons.mp hn
    have ih := zip_look h2 (by simpa using h : us.length = ps.length)
    rw [List.zip_cons_cons, List.filterMap_cons]
    have e0 : List.lookup p ((p, u) :: ps.zip us) = some u := by simp [List.lookup]
    rw [e0]
    have e1 : ps.filterMap (fun n => (List.lookup n ((p, u) :: ps.zip us)).map (n, ·)) = ps.filterMap (fun n => ((ps.zip us).lookup n).map (n, ·)) := fm_congr fun n hm => by
      have ne : (n == p) = false := by
        cases z : (n == p) with
        | false => rfl
        | true => rw [beq_iff_eq.mp z] at hm; exact absurd hm h1
      simp [List.lookup, ne]
    rw [e1, ih]
    rfl
theorem zip_some {α : Type} : ∀ {ps : List Str} {us : List α}, us.length = ps.length → ∀ n ∈ ps, ((ps.zip us).lookup n).isNone = false
  | [], us, _, n, h => by simp at h
  | p :: ps, [], h, _, _ => by simp at h
  | p :: ps, u :: us, h, n, hm => by
    rw [List.zip_cons_cons]
    cases z : (n == p) with
    | true => simp [List.lookup, z]
    | false =>
      have : n ∈ ps := by
        rcases List.mem_cons.mp hm with rfl | hm
        · simp at z
        · exact hm
      simp only [List.lookup, z]
      exact zip_some (by simpa using h) n this
/-- plain parameters, no defaults -/
structure PlainP (fd : FuncData) (ps : List Str) : Prop where
  po : fd.params.posonlyargs = []
  ar : fd.params.args.map (·.arg) = ps
  va : fd.params.vararg = none
  ko : fd.params.kwonlyargs = []
  kw : fd.params.kwarg = none
  df : fd.defaults = .none
  nd : ps.Nodup
theorem bind_all {fd : FuncData} {ps : List Str} {us : List Value} (h : PlainP fd ps) (hl : us.length = ps.length) : bindArgs fd ⟨us, []⟩ = pure (ps.zip us) := by
  have e1 : (List.filter (fun n => ((ps.zip us).lookup n).isNone) ps) = [] := by
    rw [List.filter_eq_nil_iff]
    intro n hn
    rw [zip_some hl n hn]
    exact Bool.false_ne_true
  unfold bindArgs
  have es : seqItems? .none = pure none := rfl
  simp only [h.po, h.ar, h.va, h.ko, h.kw, h.df, es, List.map_nil, List.nil_append, List.append_nil, List.forIn_nil, pure_bind, Option.getD_none, List.length_nil, Nat.zero_sub, List.drop_nil, Nat.sub_zero, List.take_length, List.drop_length, List.zip_nil_left, hl, gt_iff_lt, Nat.lt_irrefl, decide_false, Bool.false_and]
  rw [e1, zip_look h.nd hl]
  rfl
theorem bind_kw {fd : FuncData} {x : Str} {a u : Value} (h : PlainP fd ["self", x]) : bindArgs fd ⟨[a], [(x, u)]⟩ = pure ([("self", a), (x, u)] : List (Str × Value)) := by
  have hx : (x == ("self" : Str)) = false := by
    cases z : (x == ("self" : Str)) with
    | false => rfl
    | true =>
      have := h.nd
      rw [beq_iff_eq.mp z] at this
      simp at this
  have hx2 : ((("self" : Str)) == x) = false := by
    cases z : ((("self" : Str)) == x) with
    | false => rfl
    | true => rw [beq_iff_eq.mp z] at hx; simp at hx
  unfold bindArgs
  have es : seqItems? .none = pure none := rfl
  have c1 : (["self", x] : List Str).contains x = true := by simp
  simp only [h.po, h.ar, h.va, h.ko, h.kw, h.df, es, List.map_nil, List.nil_append, List.append_nil, List.forIn_cons, List.forIn_nil, pure_bind, c1, Bool.true_or, if_true, List.zip_cons_cons, List.zip_nil_right, List.lookup, hx, hx2]
  simp only [Option.isSome_none, Bool.false_eq_true, if_false, pure_bind, List.cons_append, List.nil_append, List.length_cons, List.length_nil, Option.getD_none, List.drop_nil, Nat.sub_zero, Nat.zero_add, Nat.reduceAdd, gt_iff_lt, List.take_succ_cons, List.take_zero, List.drop_succ_cons, List.drop_zero,
    List.filter_cons, List.filter_nil, List.lookup, hx, hx2, beq_self_eq_true, Option.isNone_some, List.isEmpty_nil, Bool.not_true, List.zip_nil_left, List.forIn_nil, List.filterMap_cons, List.filterMap_nil, Option.map_some]
  rfl
end DV
end
section
/-! A law's head: what its tables say, read off the written part. -/
set_option Elab.async false
set_option linter.all false
set_option maxRecDepth 100000
set_option maxHeartbeats 1000000
namespace DV
open PySem PySem.Spec PyProof.Rows L2
/-- a def: its datum, its slots -/
structure DS where
  d : He.DefD
  N : List Str
/-- what a head is held against -/
structure HS where
  prog : Program
  G : GT
  P : Prog
  fns : List DS
def tagS (i : Nat) : Str := ⟨(List.replicate (i + 50) (0 : Nat)).toArray⟩
def nmOf (S : HS) (i : Nat) : Str := (S.G.nm[i]?).getD (tagS i)
def faOf (S : HS) (K : PySem.W.Frag) (f : Nat) : Option Addr := (S.fns[f]?).map fun q => He.fAd K q.d.at_
def caOf (S : HS) (K : PySem.W.Frag) (c : Nat) : Option Addr := (S.G.kn[c]?).map (He.ga K)
def xaOf (S : HS) (K : PySem.W.Frag) (c : Nat) : Option Addr := (S.G.xs.lookup c).map (He.ga K)
def tabOf (S : HS) (K : PySem.W.Frag) (sc : Option Addr) : Tab := ⟨K, faOf S K, caOf S K, xaOf S K, nmOf S, sc⟩
/-! ### what is checked with the written part -/
def gloB (K : PySem.W.Frag) (x : Str) : Bool := He.eqO (PySem.W.nsIn K mainGlobals x) (some (some (.ref (He.ga K x))))
def freeB (K : PySem.W.Frag) (x : Str) : Bool := He.eqO (PySem.W.nsIn K mainGlobals x) (some none)
def allBF : List BF := [.len, .int, .str, .abs, .max2, .min2, .max, .min, .sum, .all, .any, .list, .tuple, .dict, .sorted, .repr]
def exB {α : Type} [DecidableEq α] (a b : Option α) : Bool := decide (a = b)
/-- an own class -/
def ownB (K : PySem.W.Frag) (C : Addr) : Bool := PySem.W.plainGet K C Str.empty && PySem.W.hasDictIn K C && PySem.W.plainOver K C && He.eqO (PySem.W.findIn K (.ref C) "__setattr__") (some (some (.builtin "object.__setattr__"))) && PySem.W.selfFirst K C &&
  He.eqO (PySem.W.findIn K (.ref C) "__class__") (some (some (.builtin "object.__class__"))) && He.eqO (PySem.W.specialIn K (.builtin "object.__class__") "__get__") (some (some (.builtin "getset_descriptor.__get__"))) &&
  exB (PySem.W.takesIn K (.builtin "object.__class__")) (some true) && exB (PySem.W.mroIn K C (.type "object")) (some true)
def methB (S : HS) (K : PySem.W.Frag) (C : Addr) (q : Nat × Nat) : Bool := match faOf S K q.2 with
  | some g => He.eqO (PySem.W.findIn K (.ref C) (nmOf S q.1)) (some (some (.ref g))) && PySem.W.isFn K (.ref g) && PySem.W.keepIn K (.ref g)
  | none => false
def eqmB (S : HS) (K : PySem.W.Frag) (C : Addr) : Option Nat → Bool
  | none => true
  | some f => match faOf S K f with
    | some g => He.eqO (PySem.W.findIn K (.ref C) "__eq__") (some (some (.ref g))) && PySem.W.isFn K (.ref g)
    | none => false
def initB (S : HS) (K : PySem.W.Frag) (C : Addr) : Option Nat → Bool
  | none => false
  | some f => match faOf S K f with
    | some g => PySem.W.makesIn K C && He.eqO (PySem.W.findIn K (.ref C) "__init__") (some (some (.ref g))) && PySem.W.isFn K (.ref g) && PySem.W.keepIn K (.ref C)
    | none => false
/-- an exception class -/
def excB (K : PySem.W.Frag) (C : Addr) : Bool := He.eqO (PySem.W.findIn K (.ref C) "__getattribute__") (some (some (.builtin "BaseException.__getattribute__"))) && He.eqO (PySem.W.findIn K (.ref C) "__getattr__") (some none) && exB (PySem.W.subIn K (.ref C) (.type "BaseException")) (some true) && PySem.W.hasDictIn K C &&
  He.eqO (PySem.W.findIn K (.ref C) "__class__") (some (some (.builtin "object.__class__"))) && He.eqO (PySem.W.specialIn K (.builtin "object.__class__") "__get__") (some (some (.builtin "getset_descriptor.__get__"))) &&
  exB (PySem.W.takesIn K (.builtin "object.__class__")) (some true) && exB (PySem.W.mroIn K C (.type "object")) (some true)
def superB (K : PySem.W.Frag) (C : Addr) (B newId initId : String) (bm : List Value) : Bool := PySem.W.excInitIn K C bm newId && PySem.W.excOver K C bm && exB (PySem.W.subIn K (.ref C) (.type B)) (some true) && He.eqO (PySem.W.ks_superIn K C C "__init__") (some (some (.builtin initId)))
def veMro : List Value := [.type "ValueError", .type "Exception", .type "BaseException", .type "object"]
def oeMro : List Value := [.type "OverflowError", .type "ArithmeticError", .type "Exception", .type "BaseException", .type "object"]
def reMro : List Value := [.type "RuntimeError", .type "Exception", .type "BaseException", .type "object"]
def isInitB (f x : Str) : FuncBody → Bool
  | .stmts [.Expr (.Call (.Attribute (.Call (.Name s p0) [] [] p1) i p2) [.Name x' p3] [] p4) p5, .Assign [.Attribute (.Name self p6) f' p7] (.Name x'' p8) p9] =>
    p2.endLine == p4.line && s == ("super" : Str) && i == ("__init__" : Str) && x' == x && self == ("self" : Str) && f' == f && x'' == x
  | _ => false
def fileB (prog : Program) (K : PySem.W.Frag) : Value → Bool
  | .ref cda => match K.lookup cda with
    | some ⟨_, _, .fields vs, _⟩ => (match (vs.toList[2]? : Option Value) with
      | some (.str file _) => (prog.main.file : Str) == file
      | _ => false)
    | _ => false
  | _ => false
def cellB (K : PySem.W.Frag) (C : Addr) : List (Str × Addr) → Bool
  | [(n, cc)] => n == ("__class__" : Str) && (match K.lookup cc with
    | some ⟨_, _, .cell (some (.ref D)), _⟩ => D == C
    | _ => false)
  | _ => false
def paramB (x : Str) : Arguments → Bool
  | ⟨[], [a1, a2], none, [], _, none, _⟩ => a1.arg == ("self" : Str) && a2.arg == x
  | _ => false
def initAtB (prog : Program) (K : PySem.W.Frag) (C fI : Addr) (f x : Str) : Bool := match K.lookup fI with
  | some ⟨_, _, .func fd, _⟩ => isInitB f x fd.body && cellB K C fd.closure && paramB x fd.params && fd.globals == mainGlobals && fd.builtins == builtinsNs && (match fd.defaults with | .none => true | _ => false) && PySem.W.codeIn K fd.code fd.qualname && fileB prog K fd.code &&
    decide (fd.scope.kind = .function) && !fd.scope.isCoroutine && !fd.scope.isGenerator && fd.scope.names.all (fun y => decide (y.2 ≠ .cell)) && decide (fd.scope.names.lookup ("super" : Str) = some .globalImplicit) && decide (fd.scope.names.lookup ("__class__" : Str) = some .free) &&
    decide (fd.scope.names.lookup ("self" : Str) = some .local) && decide (fd.scope.names.lookup x = some .local)
  | _ => false
def xclsB (prog : Program) (K : PySem.W.Frag) (C : Addr) (f : Str) : Bool :=
  (superB K C "ValueError" "ValueError.__new__" "ValueError.__init__" veMro || superB K C "OverflowError" "OverflowError.__new__" "OverflowError.__init__" oeMro || superB K C "RuntimeError" "RuntimeError.__new__" "RuntimeError.__init__" reMro) &&
  He.eqO (PySem.W.findIn K (.ref C) "__setattr__") (some (some (.builtin "object.__setattr__"))) && PySem.W.hasDictIn K C && He.eqO (PySem.W.takerIn K C f) (some none) && exB (PySem.W.mroIn K C (.ref C)) (some true) && He.eqO (PySem.W.nsIn K cStatics "thirdparty.any") (some none) &&
  !((prog.main.scope.names.lookup ("super" : Str)).isSome) &&
  (match PySem.W.findIn K (.ref C) "__init__" with
    | some (some (.ref fI)) => initAtB prog K C fI f f && exB (PySem.W.typeIn K (.ref fI)) (some (.type "function"))
    | _ => false) && PySem.W.keepIn K (.ref C) && exB (PySem.W.subIn K (.ref C) (.type "BaseException")) (some true) && exB (PySem.W.typeIn K (.ref C)) (some (.type "type")) && !(f == ("self" : Str)) && !(f == ("__debug__" : Str))
def kinds (S : HS) : List (Option Ty) := [none, some .int, some .str, some .bool, some .lst, some .tup, some .dct, some .vErr] ++ (List.range S.G.kn.length).map (fun c => some (.cls c)) ++ S.G.xs.map fun q => some (.xcl q.1)
def kitB (S : HS) (K : PySem.W.Frag) (kd t : Option Ty) : Bool := match t with
  | none => true
  | some t => match tyVal (tabOf S K none) kd, tyVal (tabOf S K none) (some t) with
    | some u, some v => exB (PySem.W.kitOne K u v) (some (isT S.P kd t))
    | _, _ => true
def clsB (S : HS) (K : PySem.W.Frag) (c : Nat) (x : Str) : Bool := gloB K x && ownB K (He.ga K x) && (match S.P.cls[c]? with
  | some q => q.meths.all (methB S K (He.ga K x)) && eqmB S K (He.ga K x) q.eqm && initB S K (He.ga K x) q.init
  | none => false) && S.G.flds.all fun f => He.eqO (PySem.W.findIn K (.ref (He.ga K x)) (nmOf S f)) (some none)
def xmB (S : HS) (K : PySem.W.Frag) (q : Nat × Str) : Bool := gloB K q.2 && excB K (He.ga K q.2) && (match S.P.cls[q.1]? with
  | some ci => (match ci.fld with
    | some f => xclsB S.prog K (He.ga K q.2) (nmOf S f)
    | none => true) && S.G.xs.all fun e => exB (PySem.W.exmOne K (.ref (He.ga K q.2)) (.ref (He.ga K e.2))) (some (ci.sup.contains e.1))
  | none => false) && S.G.flds.all fun f => He.eqO (PySem.W.findIn K (.ref (He.ga K q.2)) (nmOf S f)) (some none)
def headB (S : HS) (K : PySem.W.Frag) : Bool :=
  S.G.fn.all (gloB K) && allBF.all (fun f => freeB K (bfName f)) && freeB K "range" && freeB K "isinstance" && freeB K "bool" && freeB K "super" && freeB K "ValueError" && S.G.kn.zipIdx.all (fun q => clsB S K q.2 q.1) && S.G.xs.all (xmB S K) &&
  (kinds S).all fun a => (kinds S).all (kitB S K a)
/-! ### what is checked without it -/
def statB (S : HS) : Bool := decide S.G.nm.Nodup && S.G.nm.all (fun x => !(x.cps.toList.any fun c => c == 0)) && (S.G.fn.zipIdx.all fun q => match S.fns[q.2]? with
    | some d => decide (d.d.at_ = (q.1, none))
    | none => false) && ((List.range 6).all fun j => match S.P.ops j with
    | some m => S.G.nm[m]? == some (opName j)
    | none => true) && (S.G.xf.all fun c => ((S.P.cls[c]?).bind (·.fld)).isSome) && (S.G.xn.all fun q => match (S.P.cls[q.1]?).bind (·.fld) with
    | some f => nmOf S f == q.2
    | none => false) && S.G.cn.isEmpty
end DV
end
section
/-! A law's head: the checks are right. -/
set_option Elab.async false
set_option linter.all false
set_option maxRecDepth 100000
set_option maxHeartbeats 1000000
namespace DV
open PySem PySem.Spec PyProof.Rows L2
section
variable {S : HS} {K : PySem.W.Frag} {h : Heap} {mg : Str → Option Value}
theorem exB_ok {α : Type} [DecidableEq α] {a b : Option α} (h : exB a b = true) : a = b := of_decide_eq_true h
theorem gloB_ok (X : K.In h) (G : h.Ns mainGlobals mg) {x : Str} (c : gloB K x = true) : mg x = some (.ref (He.ga K x)) := PySem.W.mg_of X G (He.eqO_ok c)
theorem freeB_ok (X : K.In h) (G : h.Ns mainGlobals mg) {x : Str} (c : freeB K x = true) : mg x = none := PySem.W.mg_none_of X G (He.eqO_ok c)
theorem tagS_inj {i j : Nat} (h : tagS i = tagS j) : i = j := by
  unfold tagS at h
  have := congrArg (fun s : Str => s.cps.size) h
  simp at this
  exact this
theorem nmOf_inj (h1 : S.G.nm.Nodup) (h2 : ∀ x ∈ S.G.nm, (!(x.cps.toList.any fun c => c == 0)) = true) : ∀ f g, nmOf S f = nmOf S g → f = g := by
  have tg : ∀ (i : Nat) (x : Str), x ∈ S.G.nm → x ≠ tagS i := fun i x hx e => by
    have := h2 x hx
    rw [e] at this
    unfold tagS at this
    simp at this
  intro f g e
  unfold nmOf at e
  cases z : S.G.nm[f]? with
  | none =>
    cases z2 : S.G.nm[g]? with
    | none => rw [z, z2] at e; exact tagS_inj e
    | some y => rw [z, z2] at e; exact absurd e.symm (tg f y (List.mem_of_getElem? z2))
  | some x =>
    cases z2 : S.G.nm[g]? with
    | none => rw [z, z2] at e; exact absurd e (tg g x (List.mem_of_getElem? z))
    | some y =>
      rw [z, z2] at e
      have e : x = y := e
      subst e
      obtain ⟨l1, q1⟩ := List.getElem?_eq_some_iff.mp z
      obtain ⟨l2, q2⟩ := List.getElem?_eq_some_iff.mp z2
      exact (List.getElem_inj h1).mp (q1.trans q2.symm)
/-- the parts of headB -/
structure HeadP (S : HS) (K : PySem.W.Frag) : Prop where
  fn : ∀ x ∈ S.G.fn, gloB K x = true
  bf : ∀ f : BF, freeB K (bfName f) = true
  rng : freeB K "range" = true
  isi : freeB K "isinstance" = true
  bool : freeB K "bool" = true
  sup : freeB K "super" = true
  ve : freeB K "ValueError" = true
  own : ∀ (c : Nat) (x : Str), S.G.kn[c]? = some x → clsB S K c x = true
  xs : ∀ q ∈ S.G.xs, xmB S K q = true
  kit : ∀ a ∈ kinds S, ∀ t ∈ kinds S, kitB S K a t = true
theorem headB_ok (c : headB S K = true) : HeadP S K := by
  unfold headB at c
  simp only [Bool.and_eq_true, List.all_eq_true] at c
  obtain ⟨⟨⟨⟨⟨⟨⟨⟨⟨c1, c2⟩, c3⟩, c4⟩, c5⟩, c6⟩, c7⟩, c8⟩, c9⟩, c10⟩ := c
  refine ⟨c1, fun f => c2 f (by cases f <;> simp [allBF]), c3, c4, c5, c6, c7, fun k x hx => ?_, c9, c10⟩
  have := c8 (x, k) (by
    rw [List.mem_zipIdx_iff_getElem?]
    exact hx)
  exact this
structure StatP (S : HS) : Prop where
  inj : ∀ f g, nmOf S f = nmOf S g → f = g
  fn : ∀ (f : Nat) (x : Str), S.G.fn[f]? = some x → ∃ d, S.fns[f]? = some d ∧ d.d.at_ = (x, none)
  ops : ∀ j m, j < 6 → S.P.ops j = some m → nmOf S m = opName j
  xf : ∀ c ∈ S.G.xf, ∃ f, (S.P.cls[c]?).bind (·.fld) = some f
  xn : ∀ q ∈ S.G.xn, ∃ f, (S.P.cls[q.1]?).bind (·.fld) = some f ∧ nmOf S f = q.2
  cn : S.G.cn = []
theorem statB_ok (c : statB S = true) : StatP S := by
  unfold statB at c
  simp only [Bool.and_eq_true, List.all_eq_true, decide_eq_true_eq] at c
  obtain ⟨⟨⟨⟨⟨⟨c1, c2⟩, c3⟩, c4⟩, c5⟩, c6⟩, c7⟩ := c
  refine ⟨nmOf_inj c1 c2, fun f x hx => ?_, fun j m hj hm => ?_, fun k hk => Option.isSome_iff_exists.mp (c5 k hk), fun q hq => ?_, List.isEmpty_iff.mp c7⟩
  · have := c3 (x, f) (by rw [List.mem_zipIdx_iff_getElem?]; exact hx)
    cases z : S.fns[f]? with
    | none => rw [z] at this; cases this
    | some d => rw [z] at this; exact ⟨d, rfl, of_decide_eq_true this⟩
  · have := c4 j (List.mem_range.mpr hj)
    rw [hm] at this
    have this : (S.G.nm[m]? == some (opName j)) = true := this
    unfold nmOf
    rw [beq_iff_eq.mp this]
    rfl
  · have := c6 q hq
    cases z : (S.P.cls[q.1]?).bind (·.fld) with
    | none => rw [z] at this; cases this
    | some f => rw [z] at this; exact ⟨f, rfl, beq_iff_eq.mp this⟩
theorem ca_some {c : Nat} {a : Addr} (h : caOf S K c = some a) : ∃ x, S.G.kn[c]? = some x ∧ a = He.ga K x := by
  obtain ⟨x, h1, h2⟩ := Option.map_eq_some_iff.mp h
  exact ⟨x, h1, h2.symm⟩
theorem look_mem {c : Nat} {x : Str} : ∀ {l : List (Nat × Str)}, l.lookup c = some x → (c, x) ∈ l
  | [], h => by cases h
  | (k, y) :: r, h => by
    simp only [List.lookup] at h
    split at h
    · rename_i z
      cases h
      rw [beq_iff_eq.mp z]
      exact List.mem_cons_self ..
    · exact List.mem_cons_of_mem _ (look_mem h)
theorem xa_some {c : Nat} {a : Addr} (h : xaOf S K c = some a) : ∃ x, S.G.xs.lookup c = some x ∧ (c, x) ∈ S.G.xs ∧ a = He.ga K x := by
  obtain ⟨x, h1, h2⟩ := Option.map_eq_some_iff.mp h
  exact ⟨x, h1, look_mem h1, h2.symm⟩
structure OwnP (S : HS) (K : PySem.W.Frag) (C : Addr) : Prop where
  cls : Cls K C
  sf : PySem.W.selfFirst K C = true
  ow : PySem.W.findIn K (.ref C) "__class__" = some (some (.builtin "object.__class__")) ∧ PySem.W.specialIn K (.builtin "object.__class__") "__get__" = some (some (.builtin "getset_descriptor.__get__")) ∧
    PySem.W.takesIn K (.builtin "object.__class__") = some true ∧ PySem.W.mroIn K C (.type "object") = some true
theorem ownB_ok {C : Addr} (c : ownB K C = true) : OwnP S K C := by
  unfold ownB at c
  simp only [Bool.and_eq_true] at c
  obtain ⟨⟨⟨⟨⟨⟨⟨⟨c1, c2⟩, c3⟩, c4⟩, c5⟩, c6⟩, c7⟩, c8⟩, c9⟩ := c
  exact ⟨⟨c1, c2, c3, He.eqO_ok c4⟩, c5, He.eqO_ok c6, He.eqO_ok c7, exB_ok c8, exB_ok c9⟩
theorem excB_ok {C : Addr} (c : excB K C = true) : ExcC K C := by
  unfold excB at c
  simp only [Bool.and_eq_true] at c
  obtain ⟨⟨⟨⟨⟨⟨⟨c1, c2⟩, c3⟩, c4⟩, c5⟩, c6⟩, c7⟩, c8⟩ := c
  exact ⟨He.eqO_ok c1, He.eqO_ok c2, exB_ok c3, c4, He.eqO_ok c5, He.eqO_ok c6, exB_ok c7, exB_ok c8⟩
theorem isInitB_ok {f x : Str} {b : FuncBody} (c : isInitB f x b = true) : ∃ l, b = .stmts l ∧ IsInit f x l := by
  unfold isInitB at c
  split at c
  · simp only [Bool.and_eq_true, beq_iff_eq] at c
    obtain ⟨⟨⟨⟨⟨⟨c1, rfl⟩, rfl⟩, rfl⟩, rfl⟩, rfl⟩, rfl⟩ := c
    exact ⟨_, rfl, .mk (beq_iff_eq.mpr c1)⟩
  · cases c
theorem initAtB_ok {C fI : Addr} {f x : Str} (hne : (x == ("self" : Str)) = false) (hnd : (x == ("__debug__" : Str)) = false) (c : initAtB S.prog K C fI f x = true) : ∃ fd, InitAt S.prog K C fI f x fd ∧ Binds K fd ["self", x] [] ∧ ∀ (s : Shared) (a u : Value), BindsTo s fd ⟨[a], [(x, u)]⟩ [("self", a), (x, u)] := by
  unfold initAtB at c
  split at c
  · rename_i oc od fd osl lk
    simp only [Bool.and_eq_true, decide_eq_true_eq, beq_iff_eq, Bool.not_eq_true', List.all_eq_true] at c
    obtain ⟨⟨⟨⟨⟨⟨⟨⟨⟨⟨⟨⟨⟨⟨⟨c1, c2⟩, c3⟩, c4⟩, c5⟩, c6⟩, c7⟩, c8⟩, c9⟩, c10⟩, c11⟩, c12⟩, c13⟩, c14⟩, c15⟩, c16⟩ := c
    obtain ⟨n1, n2, n3, n4, n5, n6, n7, n8, n9, n10, n11, n12, n13, n14, n15⟩ := fd
    dsimp only at c1 c2 c3 c4 c5 c6 c7 c8 c9 c10 c11 c12 c13 c14 c15 c16
    obtain ⟨l, rfl, hl⟩ := isInitB_ok c1
    subst c4 c5
    obtain ⟨cc, rfl, cl, cld, csl, hcc⟩ : ∃ cc, n7 = [(("__class__" : Str), cc)] ∧ ∃ cl cld csl, K.lookup cc = some ⟨cl, cld, .cell (some (.ref C)), csl⟩ := by
      unfold cellB at c2
      split at c2
      · rename_i n cc
        simp only [Bool.and_eq_true, beq_iff_eq] at c2
        obtain ⟨rfl, c2⟩ := c2
        split at c2
        · rename_i hcc
          rw [beq_iff_eq.mp c2] at hcc
          exact ⟨cc, rfl, _, _, _, hcc⟩
        · cases c2
      · cases c2
    have h8 : n8 = .none := by
      cases n8 <;> first | rfl | cases c6
    subst h8
    obtain ⟨a1, a2, kd, df, rfl, ha1, ha2⟩ : ∃ a1 a2 kd df, n3 = ⟨[], [a1, a2], none, [], kd, none, df⟩ ∧ a1.arg = ("self" : Str) ∧ a2.arg = x := by
      unfold paramB at c3
      split at c3
      · simp only [Bool.and_eq_true, beq_iff_eq] at c3
        exact ⟨_, _, _, _, rfl, c3.1, c3.2⟩
      · cases c3
    obtain ⟨cda, rfl, ccl, cdd, vs, ccs, file, tf, hcode, hvs, hfile⟩ : ∃ cda, n13 = .ref cda ∧ ∃ ccl cdd vs ccs file tf, K.lookup cda = some ⟨ccl, cdd, .fields vs, ccs⟩ ∧ vs[2]? = some (.str file tf) ∧ ((S.prog.main.file : Str) == file) = true := by
      unfold fileB at c8
      split at c8
      · split at c8
        · rename_i vs _ hcode
          split at c8
          · rename_i hvs
            exact ⟨_, rfl, _, _, _, _, _, _, hcode, by rw [← Array.getElem?_toList]; exact hvs, c8⟩
          · cases c8
        · cases c8
      · cases c8
    have hxs : ("self" : Str) ≠ x := fun e => by rw [← e] at hne; simp at hne
    have pp : PlainP (PySem.W.ksFn n1 n2 ⟨[], [a1, a2], none, [], kd, none, df⟩ l n5 .none n9 n10 n11 n12 (.ref cda) n14 cc) ["self", x] :=
      ⟨rfl, by simp [ha1, ha2], rfl, rfl, rfl, rfl, by simp [hxs]⟩
    refine ⟨_, ⟨⟨oc, od, osl, n1, n2, ⟨[], [a1, a2], none, [], kd, none, df⟩, l, n5, .none, n9, n10, n11, n12, cda, n14, cc, a1, rfl, lk, c7, hl, rfl, ha1, ⟨ccl, cdd, vs, ccs, file, tf, hcode, hvs, hfile⟩, ⟨cl, cld, csl, hcc⟩, c9, c10, c11, c12, c13, c14, c15, c16⟩, hne, hnd⟩, ?_, ?_⟩
    · exact Binds.all fun us hl => bind_all pp hl
    · exact fun s a u => BindsTo.of_eq (bind_kw pp)
  · cases c
theorem superB_ok {C : Addr} {B newId initId : String} {bm : List Value} (F : ExcBaseFacts B newId initId bm) (KF : PySem.W.KxsFacts B initId) (SF : StoreFacts B bm "object.__setattr__" "object") (c : superB K C B newId initId bm = true) :
    ∃ (B newId initId : String) (bmB : List Value), ExcBaseFacts B newId initId bmB ∧ PySem.W.KxsFacts B initId ∧ StoreFacts B bmB "object.__setattr__" "object" ∧ PySem.W.excInitIn K C bmB newId = true ∧ PySem.W.excOver K C bmB = true ∧
    PySem.W.subIn K (.ref C) (.type B) = some true ∧ PySem.W.ks_superIn K C C "__init__" = some (some (.builtin initId)) := by
  unfold superB at c
  simp only [Bool.and_eq_true] at c
  exact ⟨B, newId, initId, bm, F, KF, SF, c.1.1.1, c.1.1.2, exB_ok c.1.2, He.eqO_ok c.2⟩
theorem xclsB_ok {C : Addr} {f : Str} (c : xclsB S.prog K C f = true) : XCls S.prog K C f f := by
  unfold xclsB at c
  simp only [Bool.and_eq_true, Bool.or_eq_true, Bool.not_eq_true'] at c
  obtain ⟨⟨⟨⟨⟨⟨⟨⟨⟨⟨⟨⟨c1, c2⟩, c3⟩, c4⟩, c5⟩, c6⟩, c7⟩, c8⟩, c9⟩, c10⟩, c11⟩, c12⟩, c13⟩ := c
  split at c8
  · rename_i fI hfI
    simp only [Bool.and_eq_true] at c8
    obtain ⟨fd, i1, i2, i3⟩ := initAtB_ok c12 c13 c8.1
    refine ⟨⟨?_, He.eqO_ok c2, c3, He.eqO_ok c4, exB_ok c5, He.eqO_ok c6, c7⟩, ⟨fI, fd, i1, hfI, exB_ok c8.2, i2, i3⟩, c9, exB_ok c10, exB_ok c11⟩
    rcases c1 with (c1 | c1) | c1
    · exact superB_ok PySem.F.excBase_ValueError PySem.W.kxs_ValueError PySem.F.store_ValueError c1
    · exact superB_ok PySem.F.excBase_OverflowError PySem.W.kxs_OverflowError PySem.F.store_OverflowError c1
    · exact superB_ok PySem.F.excBase_RuntimeError PySem.W.kxs_RuntimeError PySem.F.store_RuntimeError c1
  · cases c8
end
end DV
end
section
/-! A law's head: tables, defs. -/
set_option Elab.async false
set_option linter.all false
set_option maxRecDepth 100000
set_option maxHeartbeats 1000000
namespace DV
open PySem PySem.Spec PyProof.Rows L2
section
variable {S : HS} {K : PySem.W.Frag} {h : Heap} {mg : Str → Option Value} {sc : Option Addr}
theorem tyVal_sc (kd : Option Ty) : tyVal (tabOf S K sc) kd = tyVal (tabOf S K none) kd := by
  cases kd with
  | none => rfl
  | some t => cases t <;> rfl
theorem kinds_mem {kd : Option Ty} {u : Value} (e : tyVal (tabOf S K sc) kd = some u) : kd ∈ kinds S := by
  unfold kinds
  simp only [List.mem_append, List.mem_map, List.mem_cons, List.mem_range]
  cases kd with
  | none => exact .inl (.inl (.inl rfl))
  | some t =>
    cases t with
    | cls c =>
      have e : (caOf S K c).map Value.ref = some u := e
      obtain ⟨a, h1, _⟩ := Option.map_eq_some_iff.mp e
      obtain ⟨x, h2, _⟩ := ca_some h1
      exact .inl (.inr ⟨c, (List.getElem?_eq_some_iff.mp h2).1, rfl⟩)
    | xcl c =>
      have e : (xaOf S K c).map Value.ref = some u := e
      obtain ⟨a, h1, _⟩ := Option.map_eq_some_iff.mp e
      obtain ⟨x, _, h2, _⟩ := xa_some h1
      exact .inr ⟨(c, x), h2, rfl⟩
    | _ => simp
theorem cls_part {c : Nat} {x : Str} (hc : clsB S K c x = true) : ∃ q, S.P.cls[c]? = some q ∧ gloB K x = true ∧ ownB K (He.ga K x) = true ∧ (∀ m ∈ q.meths, methB S K (He.ga K x) m = true) ∧ eqmB S K (He.ga K x) q.eqm = true ∧ initB S K (He.ga K x) q.init = true ∧
    ∀ f ∈ S.G.flds, PySem.W.findIn K (.ref (He.ga K x)) (nmOf S f) = some none := by
  unfold clsB at hc
  simp only [Bool.and_eq_true, List.all_eq_true] at hc
  obtain ⟨⟨⟨c1, c2⟩, c3⟩, c4⟩ := hc
  split at c3
  · rename_i q hq
    simp only [Bool.and_eq_true, List.all_eq_true] at c3
    exact ⟨q, hq, c1, c2, c3.1.1, c3.1.2, c3.2, fun f hf => He.eqO_ok (c4 f hf)⟩
  · cases c3
theorem xm_part {q : Nat × Str} (hc : xmB S K q = true) : ∃ ci, S.P.cls[q.1]? = some ci ∧ gloB K q.2 = true ∧ excB K (He.ga K q.2) = true ∧ (∀ f, ci.fld = some f → xclsB S.prog K (He.ga K q.2) (nmOf S f) = true) ∧
    (∀ e ∈ S.G.xs, PySem.W.exmOne K (.ref (He.ga K q.2)) (.ref (He.ga K e.2)) = some (ci.sup.contains e.1)) ∧ ∀ f ∈ S.G.flds, PySem.W.findIn K (.ref (He.ga K q.2)) (nmOf S f) = some none := by
  unfold xmB at hc
  simp only [Bool.and_eq_true, List.all_eq_true] at hc
  obtain ⟨⟨⟨c1, c2⟩, c3⟩, c4⟩ := hc
  split at c3
  · rename_i ci hq
    simp only [Bool.and_eq_true, List.all_eq_true] at c3
    refine ⟨ci, hq, c1, c2, fun f hf => ?_, fun e he => exB_ok (c3.2 e he), fun f hf => He.eqO_ok (c4 f hf)⟩
    have := c3.1
    rw [hf] at this
    exact this
  · cases c3
theorem look_in {m f : Nat} : ∀ {l : List (Nat × Nat)}, look m l = some f → (m, f) ∈ l
  | [], h => by cases h
  | (k, y) :: r, h => by
    simp only [look] at h
    split at h
    · rename_i z
      cases h
      rw [beq_iff_eq.mp z]
      exact List.mem_cons_self ..
    · exact List.mem_cons_of_mem _ (look_in h)
theorem tab_ok (hp : HeadP S K) (st : StatP S) (hops : ∀ j, 6 ≤ j → S.P.ops j = none) : TabOk (tabOf S K sc) S.P where
  inj := st.inj
  cls := fun c a e => by
    obtain ⟨x, h1, rfl⟩ := ca_some e
    obtain ⟨q, _, _, c2, _⟩ := cls_part (hp.own c x h1)
    have o := ownB_ok (S := S) c2
    exact ⟨o.cls, o.sf⟩
  meth := fun c a m f e hm => by
    obtain ⟨x, h1, rfl⟩ := ca_some e
    obtain ⟨q, hq, _, _, c3, _⟩ := cls_part (hp.own c x h1)
    unfold methOf at hm
    rw [hq] at hm
    have hl := look_in (show look m q.meths = some f from hm)
    have := c3 _ hl
    unfold methB at this
    split at this
    · rename_i g hg
      simp only [Bool.and_eq_true] at this
      exact ⟨g, hg, He.eqO_ok this.1.1, this.1.2, this.2⟩
    · cases this
  ops := fun j m e => by
    by_cases hj : j < 6
    · exact st.ops j m hj e
    · rw [hops j (by omega)] at e; cases e
  eqm := fun c a f e hm => by
    obtain ⟨x, h1, rfl⟩ := ca_some e
    obtain ⟨q, hq, _, _, _, c4, _⟩ := cls_part (hp.own c x h1)
    unfold eqmOf at hm
    rw [hq] at hm
    have hm : q.eqm = some f := hm
    rw [hm] at c4
    unfold eqmB at c4
    dsimp only at c4
    split at c4
    · rename_i g hg
      simp only [Bool.and_eq_true] at c4
      exact ⟨g, hg, He.eqO_ok c4.1, c4.2⟩
    · cases c4
  kit := fun kd t u v e1 e2 => by
    have k1 := kinds_mem e1
    have k2 := kinds_mem e2
    have := hp.kit kd k1 (some t) k2
    unfold kitB at this
    rw [tyVal_sc] at e1 e2
    dsimp only at this
    rw [e1, e2] at this
    exact exB_ok this
  own := fun c a e => by
    obtain ⟨x, h1, rfl⟩ := ca_some e
    obtain ⟨q, _, _, c2, _⟩ := cls_part (hp.own c x h1)
    exact (ownB_ok (S := S) c2).ow
  exc := fun c a e => by
    obtain ⟨x, _, h1, rfl⟩ := xa_some e
    obtain ⟨ci, _, _, c2, _⟩ := xm_part (hp.xs _ h1)
    exact excB_ok c2
theorem xtab_ok (hp : HeadP S K) : XTab (tabOf S K sc) S.prog S.P where
  cl := fun c a f e hf => by
    obtain ⟨x, _, h1, rfl⟩ := xa_some e
    obtain ⟨ci, hq, _, _, c3, _⟩ := xm_part (hp.xs _ h1)
    rw [show S.P.cls[c]? = some ci from hq] at hf
    exact xclsB_ok (c3 f hf)
  xm := fun c a e b q h1 h2 hq => by
    obtain ⟨x, _, q1, rfl⟩ := xa_some h1
    obtain ⟨y, _, q2, rfl⟩ := xa_some h2
    obtain ⟨ci, hci, _, _, _, c4, _⟩ := xm_part (hp.xs _ q1)
    rw [show S.P.cls[c]? = some ci from hci] at hq
    cases hq
    exact c4 _ q2
theorem glob_ok (X : K.In h) (N : h.Ns mainGlobals mg) (hp : HeadP S K) (st : StatP S) (hk : ∀ (f : Nat) (d : DS), S.fns[f]? = some d → PySem.W.keepIn K (.ref (He.fAd K d.d.at_)) = true) : Glob (tabOf S K sc) S.G mg S.prog S.P where
  cst := fun g x e => by rw [st.cn] at e; cases g <;> cases e
  fn := fun f x e => by
    obtain ⟨d, h1, h2⟩ := st.fn f x e
    have hg := gloB_ok X N (hp.fn x (List.mem_of_getElem? e))
    refine ⟨He.ga K x, ?_, hg⟩
    show (S.fns[f]?).map (fun q => He.fAd K q.d.at_) = _
    rw [h1]
    show some (He.fAd K d.d.at_) = _
    rw [h2]
    rfl
  keep := fun f a e => by
    obtain ⟨d, h1, h2⟩ := Option.map_eq_some_iff.mp (show (S.fns[f]?).map (fun q => He.fAd K q.d.at_) = some a from e)
    rw [← h2]
    exact hk f d h1
  cl := fun k x e => by
    obtain ⟨q, hq, c1, _, _, _, c5, _⟩ := cls_part (hp.own k x e)
    have hi := c5
    unfold initB at hi
    split at hi
    · cases hi
    · rename_i f hf
      split at hi
      · rename_i g hg
        simp only [Bool.and_eq_true] at hi
        refine ⟨He.ga K x, f, g, ?_, gloB_ok X N c1, ?_, hg, ⟨hi.1.1.1, He.eqO_ok hi.1.1.2, hi.1.2, hi.2⟩⟩
        · show (S.G.kn[k]?).map (He.ga K) = _
          rw [e]; rfl
        · rw [hq]; exact hf
      · cases hi
  bf := fun f => freeB_ok X N (hp.bf f)
  rng := freeB_ok X N hp.rng
  isi := freeB_ok X N hp.isi
  bool := freeB_ok X N hp.bool
  nm := fun i x e => by
    show (S.G.nm[i]?).getD (tagS i) = x
    rw [e]; rfl
  fld := fun f hf c a e => by
    obtain ⟨x, h1, rfl⟩ := ca_some e
    obtain ⟨q, _, _, _, _, _, _, c6⟩ := cls_part (hp.own c x h1)
    exact c6 f hf
  fldx := fun f hf c a e => by
    obtain ⟨x, _, h1, rfl⟩ := xa_some e
    obtain ⟨ci, _, _, _, _, _, c6⟩ := xm_part (hp.xs _ h1)
    exact c6 f hf
  xs := fun k x e => by
    obtain ⟨ci, _, c1, _⟩ := xm_part (hp.xs _ (look_mem e))
    refine ⟨He.ga K x, ?_, gloB_ok X N c1⟩
    show (S.G.xs.lookup k).map (He.ga K) = _
    rw [e]; rfl
  xf := st.xf
  xn := st.xn
  xt := xtab_ok hp
  sup := freeB_ok X N hp.sup
  ve := freeB_ok X N hp.ve
end
end DV
end
section
/-! A law's end by the evaluator. -/
set_option Elab.async false
set_option linter.all false
set_option maxRecDepth 100000
set_option maxHeartbeats 1000000
namespace DV
open PySem PySem.Spec PyProof.Rows L2
/-! ### defs -/
def plainB : Arguments → Bool
  | ⟨[], _, none, [], _, none, []⟩ => true
  | _ => false
def scopeB (N ps : List Str) (sc : Scope) : Bool := decide (sc.kind = .function) && !sc.isCoroutine && !sc.isGenerator && decide N.Nodup && decide (N.take ps.length = ps) &&
  ps.all (fun x => decide (sc.names.lookup x = some .local) || decide (sc.names.lookup x = some .cell)) && sc.names.all fun y => decide (y.2 ≠ .free)
theorem scopeB_ok {N ps : List Str} {sc : Scope} (h : scopeB N ps sc = true) : FnScope N ps sc := by
  unfold scopeB at h
  simp only [Bool.and_eq_true, Bool.not_eq_true', decide_eq_true_eq, List.all_eq_true, Bool.or_eq_true] at h
  obtain ⟨⟨⟨⟨⟨⟨h1, h2⟩, h3⟩, h4⟩, h5⟩, h6⟩, h7⟩ := h
  exact ⟨h1, h2, h3, h4, h5, h6, h7⟩
/-- a def's text and its tree -/
def defB (G : GT) (q : DS) (di : DefI) : Bool := plainB q.d.params && decide (q.d.params.args.map (·.arg) = q.N.take di.np) && decide ((q.N.take di.np).length = di.np) && decide (q.N.length = di.ns) && q.d.dfl.isEmpty && q.d.kwd.isEmpty &&
  scopeB q.N (q.N.take di.np) q.d.scope && chkSs G ⟨q.N, q.d.scope, true, true⟩ di.body q.d.body
def defsB (G : GT) : List DS → List DefI → Bool
  | [], _ => true
  | q :: qs, l => match l with
    | di :: dis => defB G q di && defsB G qs dis
    | [] => false
theorem defsB_at {G : GT} : ∀ {qs : List DS} {l : List DefI}, defsB G qs l = true → ∀ (f : Nat) (q : DS), qs[f]? = some q → ∃ di, l[f]? = some di ∧ defB G q di = true
  | [], _, _, f, q, h => by cases f <;> cases h
  | q :: qs, [], h, _, _, _ => by simp [defsB] at h
  | q :: qs, di :: dis, h, f, q', e => by
    simp only [defsB, Bool.and_eq_true] at h
    cases f with
    | zero => cases e; exact ⟨di, rfl, h.1⟩
    | succ f => exact defsB_at h.2 f q' e
section
variable {S : HS} {K : PySem.W.Frag} {hp : Heap} {mg : Str → Option Value} {sc : Option Addr}
theorem plain_of {q : DS} {di : DefI} {fd : FuncData} (h : defB S.G q di = true) (F : FunD K q.d.name q.d.qual q.d.params q.d.body q.d.scope (q.d.dvs K) (q.d.kws K) (He.fAd K q.d.at_) fd) : PlainP fd (q.N.take di.np) := by
  unfold defB at h
  simp only [Bool.and_eq_true, decide_eq_true_eq] at h
  obtain ⟨⟨⟨⟨⟨⟨⟨h1, h2⟩, h3⟩, h4⟩, h5⟩, h6⟩, h7⟩, h8⟩ := h
  obtain ⟨oc, od, dV, kV, doc, pm, an, cdv, ct, osl, rfl, lk, hcd, hD, hK⟩ := F.ex
  have hdv : q.d.dvs K = [] := by
    unfold He.DefD.dvs
    rw [List.isEmpty_iff.mp h5]; rfl
  have hdV : dV = .none := by
    rcases hD with ⟨_, e⟩ | ⟨e, _⟩
    · exact e
    · exact absurd hdv e
  have hpl : ∀ {p : Arguments}, plainB p = true → p.posonlyargs = [] ∧ p.vararg = none ∧ p.kwonlyargs = [] ∧ p.kwarg = none := fun {p} hp => by
    unfold plainB at hp
    split at hp
    · exact ⟨rfl, rfl, rfl, rfl⟩
    · cases hp
  obtain ⟨a1, a2, a3, a4⟩ := hpl h1
  have S7 := scopeB_ok h7
  have nd : (q.N.take di.np).Nodup := by
    have := S7.nd
    exact (List.take_sublist di.np q.N).nodup this
  exact ⟨a1, h2, a2, a3, a4, hdV, nd⟩
theorem def_at {q : DS} {di : DefI} {f : Nat} (hf : S.fns[f]? = some q) (hdi : S.P.defs[f]? = some di) (h : defB S.G q di = true) {fd : FuncData} (F : FunD K q.d.name q.d.qual q.d.params q.d.body q.d.scope (q.d.dvs K) (q.d.kws K) (He.fAd K q.d.at_) fd) :
    ∃ cdv, DefAt (tabOf S K sc) mg S.P f (He.fAd K q.d.at_) fd q.N (q.N.take di.np) q.d.qual q.d.body q.d.scope cdv di := by
  have pp := plain_of h F
  unfold defB at h
  simp only [Bool.and_eq_true, decide_eq_true_eq] at h
  obtain ⟨⟨⟨⟨⟨⟨⟨h1, h2⟩, h3⟩, h4⟩, h5⟩, h6⟩, h7⟩, h8⟩ := h
  obtain ⟨oc, od, dV, kV, doc, pm, an, cdv, ct, osl, rfl, lk, hcd, hD, hK⟩ := F.ex
  exact ⟨cdv, hdi, h3, h4, scopeB_ok h7, ⟨oc, od, _, _, _, _, _, _, _, _, _, rfl, lk⟩, hcd, Binds.all fun us hl => bind_all pp hl⟩
/-- the head's word: each def's function object, the facts -/
structure SaysH (S : HS) (K : PySem.W.Frag) : Prop where
  fn : ∀ (f : Nat) (q : DS), S.fns[f]? = some q → ∃ fd, FunD K q.d.name q.d.qual q.d.params q.d.body q.d.scope (q.d.dvs K) (q.d.kws K) (He.fAd K q.d.at_) fd
  head : headB S K = true
theorem defs_of (X : K.In hp) (N : hp.Ns mainGlobals mg) (c : SaysH S K) (st : statB S = true) (hops : ∀ j, 6 ≤ j → S.P.ops j = none) (hd : defsB S.G S.fns S.P.defs = true) (w0 : World) (base : Heap) (wf n : Nat) : Defs (tabOf S K sc) S.P wf S.prog w0 mg base n := by
  have st := statB_ok st
  have hP := headB_ok c.head
  have gl : Glob (tabOf S K sc) S.G mg S.prog S.P := glob_ok X N hP st fun f d e => (c.fn f d e).choose_spec.kp
  refine defs_ok (tab_ok hP st hops) (fun f a ha => ?_) n
  obtain ⟨q, h1, h2⟩ := Option.map_eq_some_iff.mp (show (S.fns[f]?).map (fun q => He.fAd K q.d.at_) = some a from ha)
  obtain ⟨di, hdi, hb⟩ := defsB_at hd f q h1
  obtain ⟨fd, F⟩ := c.fn f q h1
  obtain ⟨cdv, D⟩ := def_at (mg := mg) (sc := sc) h1 hdi hb F
  subst h2
  have hb' := hb
  unfold defB at hb'
  simp only [Bool.and_eq_true] at hb'
  exact ⟨fd, q.N, _, q.d.qual, q.d.body, q.d.scope, cdv, di, D, body_ok gl hb'.2⟩
end
/-! ### the Hook -/
abbrev AlH : Type := Bool × List He.FnW
def obsH (S : HS) (K : PySem.W.Frag) : AlH := (headB S K && S.fns.all fun q => q.d.ok K, S.fns.map fun q => He.fnW K q.d.at_)
def valH (S : HS) : AlH := (true, S.fns.map fun q => q.d.val)
def obsHG (n : Nat) (S : HS) (g : Addr → Option Obj) : AlH := obsH S (He.frG g (cStatics :: He.asD g n))
def hookH (n : Nat) (S : HS) : PySem.W.Hook where
  α := AlH
  obs := fun s => obsHG n S s.heap.get?
  val := fun _ => valH S
  says := fun _ h => ∃ K : PySem.W.Frag, K.In h ∧ obsH S K = valH S
  of := fun _ _ e => ⟨_, He.frG_in, e⟩
  keeps := fun _ _ _ ⟨K, hK, c⟩ k => ⟨K, PySem.W.Frag.In.keeps hK k, c⟩
theorem obsHG_eq {n : Nat} {S : HS} {g : Addr → Option Obj} {s : Shared} (h : ∀ a, g a = s.heap.get? a) : obsHG n S g = (hookH n S).obs s := by
  have e : g = s.heap.get? := funext h
  rw [e] <;> rfl
theorem saysH_of {S : HS} {K : PySem.W.Frag} (c : obsH S K = valH S) : SaysH S K := by
  have c1 : (headB S K && S.fns.all fun q => q.d.ok K) = true := congrArg (fun z : AlH => z.1) c
  have c2 : S.fns.map (fun q => He.fnW K q.d.at_) = S.fns.map fun q => q.d.val := congrArg (fun z : AlH => z.2) c
  rw [Bool.and_eq_true, List.all_eq_true] at c1
  refine ⟨fun f q hq => ?_, c1.1⟩
  have e2 : (S.fns.map fun q => He.fnW K q.d.at_)[f]? = (S.fns.map fun q => q.d.val)[f]? := by rw [c2]
  rw [List.getElem?_map, List.getElem?_map, hq] at e2
  exact He.DefD.funD (Option.some.inj e2) (c1.2 q (List.mem_of_getElem? hq))
end DV
end
section
/-! The law's call. -/
set_option Elab.async false
set_option linter.all false
set_option maxRecDepth 100000
set_option maxHeartbeats 1000000
namespace DV
open PySem PySem.Spec PyProof.Rows L2
theorem reps_one {T : Tab} {w : Wd} {d : D} {v : V} (h : Rep T w d v) : Reps T w [d] [v] := by
  simp only [Reps]
  exact ⟨v, [], rfl, h, rfl⟩
theorem post_law {T : Tab} {w : Wd} {r : Res D} {S' : Store} (h : r = .ok (.bl true) S') : Post T (RV T) (WE fun _ _ _ => False) [] w (fun v _ => v = .bl true) r := by
  subst h
  intro v H w' l so rd
  simpa only [RV, Rep] using rd
/-- where the script is an object of its own -/
theorem sp_frz {K : PySem.W.Frag} {S : HS} {a : Addr} {ns : List Int} {ob : Obj} {H : Hp} {r : List D → Store → Res D} {S' : Store} (hH : H = fun b => if b = a then some (.frz ob (.lst (ns.map V.int))) else none) (hr : r [.scr ns] [] = .ok (.bl true) S') :
    spF (tabOf S K (some a)) 1 r [.ref a] H (fun v _ => v = .bl true) (fun _ _ _ => False) := by
  have ha : H a = some (.frz ob (.lst (ns.map V.int))) := by rw [hH]; exact if_pos rfl
  refine ⟨[.scr ns], [], ⟨[], H⟩, rfl, rfl, reps_one ?_, ⟨Gle.refl _, rfl, List.nodup_nil, fun b hb => (nomatch hb), fun n b c e => (by cases n <;> cases e), fun b e => ?_⟩, post_law hr⟩
  · simp only [Rep]
    exact ⟨a, rfl, .inl ⟨rfl, .inr ⟨ob, ha⟩⟩⟩
  · have : a = b := Option.some.inj e
    subst this
    show H a ≠ none
    rw [ha]; simp
/-- where it is one of the module's -/
theorem sp_kl {K : PySem.W.Frag} {S : HS} {a : Addr} {ns : List Int} {H : Hp} {r : List D → Store → Res D} {S' : Store} (hK : KL K a (ns.map V.int)) (hr : r [.scr ns] [] = .ok (.bl true) S') :
    spF (tabOf S K none) 1 r [.ref a] H (fun v _ => v = .bl true) (fun _ _ _ => False) := by
  refine ⟨[.scr ns], [], ⟨[], H⟩, rfl, rfl, reps_one ?_, ⟨Gle.refl _, rfl, List.nodup_nil, fun b hb => (nomatch hb), fun n b c e => (by cases n <;> cases e), fun b e => (by cases e)⟩, post_law hr⟩
  simp only [Rep]
  exact ⟨a, rfl, .inr hK⟩
theorem call_law {P : Program} {w : World} {S : HS} {K : PySem.W.Frag} {mg mb : Str → Option Value} {k : Nat} {fa a : Addr} {r : List D → Store → Res D} {S' : Store} {s : Shared} {vs : List Value} {ns : List Int}
    (KX : K.In s.heap) (hns : s.heap.Ns mainGlobals mg) (hb : s.heap.Ns builtinsNs mb) (hbb : ∀ x : Str, x ≠ "__name__" → mb x = bootBuiltins x) (hlim : s.heap.NoLimit) (hg : s.gens = #[])
    (ha : s.heap.get? a = some { cls := .type "list", data := .seq vs.toArray }) (hi : IntsAre vs ns) (hl : ns.length ≤ sizeLine) (hr : Room k callerA)
    (F : ∀ (base : Heap) (sc : Option Addr), K.In base → base.Ns mainGlobals mg → ∃ (fd : FuncData) (ps : List Str), ps.length = 1 ∧ FnG P w K mg base k fa fd ps (spF (tabOf S K sc) 1 r) ∧ Binds K fd ps []) (hrun : r [.scr ns] [] = .ok (.bl true) S') :
    codeAny (model P w) callerA (.call (.ref fa) ⟨[.ref a], []⟩) (fun r s' => r = .ok (.ret (.bool true)) ∧ OldK s.heap s'.heap ∧ s'.os = s.os ∧ AllBare s'.gens) s := by
  have rv := vals_ints hi
  have core : ∀ (sc : Option Addr) (H : Hp), Only H → spF (tabOf S K sc) 1 r [.ref a] H (fun v _ => v = .bl true) (fun _ _ _ => False) → HOk P w H s.heap → (∀ b, H b ≠ none → b = a) → (H a ≠ none → K.lookup a = none) →
      codeAny (model P w) callerA (.call (.ref fa) ⟨[.ref a], []⟩) (fun r s' => r = .ok (.ret (.bool true)) ∧ OldK s.heap s'.heap ∧ s'.os = s.os ∧ AllBare s'.gens) s := by
    intro sc H hO hS hok hA hK
    have noA : ∀ {b : Addr} {o : Obj} {es : Array DictEntry} {ep : Nat}, s.heap.get? b = some o → o.data = .dict es ep → H b = none := fun {b o es ep} e d => by
      cases q : H b with
      | none => rfl
      | some u =>
        have eb := hA b (by rw [q]; simp)
        subst eb
        rw [ha] at e
        cases e
        cases (show Data.seq vs.toArray _ = Data.dict es ep from d)
    have keepN : ∀ {b : Addr} {m : Str → Option Value}, s.heap.Ns b m → (hidT s.heap H).Ns b m := fun {b m} ⟨o, es, ep, e, d, q⟩ => ⟨o, es, ep, hidT_get e (noA e d), d, q⟩
    have KB : K.In (hidT s.heap H) := fun b o e => hidT_get (KX b o e) (by
      cases q : H b with
      | none => rfl
      | some u =>
        have eb := hA b (by rw [q]; simp)
        subst eb
        rw [hK (by rw [q]; simp)] at e
        cases e)
    have e0 : Env0 P w K mg (hidT s.heap H) callerA [] s H := by
      obtain ⟨mc, l1, l2⟩ := hlim
      exact ⟨rfl, ⟨KB, keepN hns, ⟨mb, keepN hb, hbb⟩, ⟨mc, keepN l1, l2⟩⟩, fun b o e => of_hidT e, Nat.le_of_eq (hidT_size _ _), trivial, fun b q => (by cases q), hok, .of_eq hg⟩
    obtain ⟨fd, ps, hps, F1, hb1⟩ := F _ sc KB (keepN hns)
    have bt := hb1 s [.ref a] KX (by rw [hps]; rfl)
    rw [List.append_nil] at bt
    refine codeAny_mono (F1.run callerA [] s H ⟨[.ref a], []⟩ [.ref a] [.ref a] _ _ hr rfl e0 bt (.cons rfl .nil) hS) fun q s' z => ?_
    cases q with
    | error e =>
      obtain ⟨_, _, _, _, _, _, _, _, _, _, _, _, no⟩ := z
      exact no.elim
    | ok fl =>
      cases fl with
      | next => exact False.elim z
      | brk => exact False.elim z
      | cont => exact False.elim z
      | ret u =>
        obtain ⟨v, H', os, bare, un, hok', ru, hv⟩ := z
        have hv : v = .bl true := hv
        subst hv
        obtain rfl : u = Value.bool true := ru
        refine ⟨rfl, OldK.of_keep fun b o e => ?_, os, bare⟩
        cases q : H b with
        | none => exact un.keep b o e q (fun y => by cases y) (fun y => by cases y)
        | some u =>
          rcases hO b with y | ⟨ob, xs, y⟩
          · rw [q] at y; cases y
          · obtain ⟨e1, _⟩ := hok b _ y
            obtain ⟨e2, _⟩ := hok' b _ (un.frzs b ob _ y)
            rw [e] at e1
            cases e1
            exact e2
  cases hk : K.lookup a with
  | some o =>
    have e := KX a o hk
    rw [ha] at e
    cases e
    exact core none (fun _ => none) (fun _ => .inl rfl) (sp_kl ⟨_, vs.toArray, _, hk, rfl, rfl, rfl, by rw [List.size_toArray, hi.length]; exact hl, by simpa using rv⟩ hrun) (fun b u y => by cases (show (none : Option HO) = some u from y)) (fun b y => absurd rfl y) fun y => absurd rfl y
  | none =>
    refine core (some a) _ (fun b => ?_) (sp_frz (ob := { cls := .type "list", data := .seq vs.toArray }) rfl hrun) (fun b u y => ?_) (fun b y => ?_) fun _ => hk
    · by_cases hb : b = a
      · exact .inr ⟨_, _, if_pos hb⟩
      · exact .inl (if_neg hb)
    · by_cases hb : b = a
      · cases (if_pos hb).symm.trans y
        subst hb
        exact ⟨ha, by rw [List.length_map]; exact hl, vs, _, rv, ha⟩
      · cases (if_neg hb).symm.trans y
    · by_cases hb : b = a
      · exact hb
      · exact absurd (if_neg hb) y
/-- a law's end: the head's Hook, the static checks, the evaluator's answer -/
theorem end_law {l : PySem.W.OpenLaw} {S : HS} {q : Program} {loose : List Str} {XP : (Str → Option Value) → Heap → Prop} {d : DefRec} {m fl wf n : Nat} {di : DefI} (hp : S.prog = l.prog) (hst : statB S = true) (hops : ∀ j, 6 ≤ j → S.P.ops j = none) (hdf : defsB S.G S.fns S.P.defs = true)
    (hn : l.most = some 63) (hdd : d.params.defaults = []) (hname : ∀ (K : PySem.W.Frag) (h : Heap) (mg : Str → Option Value), K.In h → h.Ns mainGlobals mg → SaysH S K → ∀ fa, mg d.name = some (.ref fa) → faOf S K fl = some fa)
    (hdi : S.P.defs[fl]? = some di) (hnp : di.np = 1) (hr : n ≤ 38) (hrun : ∀ ns : List Int, ns.length ≤ 63 → ∃ S', run S.P wf n fl [.scr ns] [] = .ok (.bl true) S') :
    PySem.W.WalkO q loose XP (hookH m S).says l.row.toRowW d [] (fun f vs => PySem.call f vs) := by
  refine Att.attach_call hn hdd fun w s₀ s₁ mg mb fa o pm cd doc a vs ns G Y ho hd hcd hmg hobj hints hlen hg => ?_
  obtain ⟨K, KX, c⟩ := Y
  have sy := saysH_of c
  have hfa := hname K _ mg KX G.T.g sy fa hmg
  obtain ⟨S', hS'⟩ := hrun ns hlen
  have hroom : Room (6 * n) callerA := ⟨rfl, by show 1 + claimMargin + 3 * (6 * n) + 5 < recursionLimit; unfold claimMargin recursionLimit; omega, by show 4 + 16 * (6 * n) + 200 < cLine; unfold cLine; omega⟩
  refine call_law (S := S) (r := run S.P wf n fl) KX G.T.g G.T.b G.T.builtins G.T.nolimit hg hobj hints (Nat.le_trans hlen (by rw [sizeLine_eq]; omega)) hroom (fun base sc KB NB => ?_) hS'
  obtain ⟨fd, ps, di2, e1, e2, F2, hb⟩ := defs_of (sc := sc) KX G.T.g sy hst hops hdf w base wf n fl fa hfa
  rw [hdi] at e1
  cases e1
  rw [hnp] at e2 F2
  rw [hp] at F2
  exact ⟨fd, ps, e2, F2, hb⟩
end DV
end
section
/-! The law's name. -/
set_option Elab.async false
set_option linter.all false
set_option maxRecDepth 100000
set_option maxHeartbeats 1000000
namespace DV
open PySem PySem.Spec PyProof.Rows L2
theorem name_at {S : HS} {x y : Str} {fl : Nat} (hst : statB S = true) (hx : S.G.fn[fl]? = some x) (hy : y = x) (K : PySem.W.Frag) (h : Heap) (mg : Str → Option Value) (X : K.In h) (N : h.Ns mainGlobals mg) (c : SaysH S K) (fa : Addr) (e : mg y = some (.ref fa)) : faOf S K fl = some fa := by
  subst hy
  obtain ⟨d, h1, h2⟩ := (statB_ok hst).fn fl _ hx
  have hg := gloB_ok X N ((headB_ok c.head).fn _ (List.mem_of_getElem? hx))
  rw [hg] at e
  cases e
  show (S.fns[fl]?).map (fun q => He.fAd K q.d.at_) = _
  rw [h1]
  show some (He.fAd K d.d.at_) = _
  rw [h2]
  rfl
end DV
end
section
set_option linter.all false
set_option Elab.async false
set_option maxRecDepth 100000
set_option maxHeartbeats 0
namespace K99
open DV PySem PySem.Spec PyProof.Rows L2
/-- start : script first -/
abbrev FL_start : Nat := 0
def d0 : DefI := { np := 1, ns := 2, dfl := [], keep := true, body := [.asg (.nm 1) (.cst (.int 0)),
.ite (.cmp .gt (.b .len [.var 0]) (.cst (.int 0))) [.asg (.nm 1) (.ix (.var 0) (.cst (.int 0)))] [],
.ret (.lst true [.b .abs [.b .int [.var 1]], .b .int [.cmp .ge (.b .abs [.b .int [.var 1]]) (.bin .pow (.cst (.int 10)) (.cst (.int 18)))], .cst (.int 1), .cst (.int 0)])] }
/-- draw : script state many told cell mixed -/
abbrev FL_draw : Nat := 1
def d1 : DefI := { np := 3, ns := 6, dfl := [], keep := false, body := [.asg (.ix (.var 1) (.cst (.int 3))) (.bin .add (.ix (.var 1) (.cst (.int 3))) (.cst (.int 1))),
.ite (.and (.cmp .eq (.ix (.var 1) (.cst (.int 1))) (.cst (.int 1))) (.cmp .gt (.ix (.var 1) (.cst (.int 0))) (.cst (.int 0)))) [.asg (.nm 3) (.bin .mod (.b .int [.ix (.var 1) (.cst (.int 0))]) (.var 2)),
.asg (.ix (.var 1) (.cst (.int 0))) (.bin .fdiv (.ix (.var 1) (.cst (.int 0))) (.var 2)),
.ret (.var 3)] [],
.asg (.ix (.var 1) (.cst (.int 1))) (.cst (.int 0)),
.asg (.nm 4) (.cst (.int 0)),
.ite (.cmp .gt (.b .len [.var 0]) (.cst (.int 0))) [.asg (.nm 4) (.ix (.var 0) (.bin .mod (.b .int [.ix (.var 1) (.cst (.int 2))]) (.b .len [.var 0])))] [],
.asg (.ix (.var 1) (.cst (.int 2))) (.bin .add (.ix (.var 1) (.cst (.int 2))) (.cst (.int 1))),
.asg (.nm 5) (.bin .mul (.bin .mod (.b .int [.ix (.var 1) (.cst (.int 0))]) (.cst (.int 2147483647))) (.cst (.int 48271))),
.asg (.nm 5) (.bin .add (.bin .add (.bin .add (.var 5) (.bin .mod (.b .int [.var 4]) (.cst (.int 2147483629)))) (.bin .mul (.cst (.int 7)) (.ix (.var 1) (.cst (.int 3))))) (.cst (.int 11))),
.asg (.ix (.var 1) (.cst (.int 0))) (.bin .mod (.b .int [.var 5]) (.cst (.int 2147483647))),
.asg (.nm 5) (.bin .mod (.b .int [.bin .add (.bin .mul (.ix (.var 1) (.cst (.int 0))) (.cst (.int 69621))) (.ix (.var 1) (.cst (.int 3)))]) (.cst (.int 2147483629))),
.ret (.bin .mod (.b .int [.bin .fdiv (.var 5) (.cst (.int 13))]) (.var 2))] }
/-- throw_other : kind value_here -/
abbrev FL_throw_other : Nat := 2
def d2 : DefI := { np := 2, ns := 2, dfl := [], keep := false, body := [.ite (.cmp .eq (.var 0) (.cst (.int 9))) [.rse 10 (.var 1)] [],
.ite (.cmp .eq (.var 0) (.cst (.int 10))) [.rse 11 (.var 1)] [],
.ite (.cmp .eq (.var 0) (.cst (.int 11))) [.rse 12 (.var 1)] [],
.ite (.cmp .eq (.var 0) (.cst (.int 12))) [.rse 13 (.var 1)] [],
.ite (.cmp .eq (.var 0) (.cst (.int 13))) [.rse 14 (.var 1)] [],
.ite (.cmp .eq (.var 0) (.cst (.int 14))) [.rse 15 (.var 1)] [],
.ite (.cmp .eq (.var 0) (.cst (.int 15))) [.rse 16 (.var 1)] [],
.ite (.cmp .eq (.var 0) (.cst (.int 16))) [.rse 17 (.var 1)] [],
.ite (.cmp .eq (.var 0) (.cst (.int 17))) [.rse 18 (.var 1)] [],
.ite (.cmp .eq (.var 0) (.cst (.int 18))) [.rse 19 (.var 1)] [],
.rse 20 (.var 1)] }
/-- throw : kind value_here -/
abbrev FL_throw : Nat := 3
def d3 : DefI := { np := 2, ns := 2, dfl := [], keep := false, body := [.ite (.cmp .eq (.var 0) (.cst (.int 0))) [.rse 1 (.var 1)] [],
.ite (.cmp .eq (.var 0) (.cst (.int 1))) [.rse 2 (.var 1)] [],
.ite (.cmp .eq (.var 0) (.cst (.int 2))) [.rse 3 (.var 1)] [],
.ite (.cmp .eq (.var 0) (.cst (.int 3))) [.rse 4 (.var 1)] [],
.ite (.cmp .eq (.var 0) (.cst (.int 4))) [.rse 5 (.var 1)] [],
.ite (.cmp .eq (.var 0) (.cst (.int 5))) [.rse 6 (.var 1)] [],
.ite (.cmp .eq (.var 0) (.cst (.int 6))) [.rse 7 (.var 1)] [],
.ite (.cmp .eq (.var 0) (.cst (.int 7))) [.rse 8 (.var 1)] [],
.ite (.cmp .eq (.var 0) (.cst (.int 8))) [.rse 9 (.var 1)] [],
.ex (.call 2 [.var 0, .var 1])] }
/-- named_other : kind value_here -/
abbrev FL_named_other : Nat := 4
def d4 : DefI := { np := 2, ns := 2, dfl := [], keep := false, body := [.ite (.cmp .eq (.var 0) (.cst (.int 9))) [.ret (.fld (.xmk 10 (.var 1)) 0)] [],
.ite (.cmp .eq (.var 0) (.cst (.int 10))) [.ret (.fld (.xmk 11 (.var 1)) 1)] [],
.ite (.cmp .eq (.var 0) (.cst (.int 11))) [.ret (.fld (.xmk 12 (.var 1)) 2)] [],
.ite (.cmp .eq (.var 0) (.cst (.int 12))) [.ret (.fld (.xmk 13 (.var 1)) 3)] [],
.ite (.cmp .eq (.var 0) (.cst (.int 13))) [.ret (.fld (.xmk 14 (.var 1)) 3)] [],
.ite (.cmp .eq (.var 0) (.cst (.int 14))) [.ret (.fld (.xmk 15 (.var 1)) 4)] [],
.ite (.cmp .eq (.var 0) (.cst (.int 15))) [.ret (.fld (.xmk 16 (.var 1)) 3)] [],
.ite (.cmp .eq (.var 0) (.cst (.int 16))) [.ret (.fld (.xmk 17 (.var 1)) 5)] [],
.ite (.cmp .eq (.var 0) (.cst (.int 17))) [.ret (.fld (.xmk 18 (.var 1)) 5)] [],
.ite (.cmp .eq (.var 0) (.cst (.int 18))) [.ret (.fld (.xmk 19 (.var 1)) 6)] [],
.ret (.fld (.xmk 20 (.var 1)) 7)] }
/-- named : kind value_here -/
abbrev FL_named : Nat := 5
def d5 : DefI := { np := 2, ns := 2, dfl := [], keep := false, body := [.ite (.cmp .eq (.var 0) (.cst (.int 0))) [.ret (.fld (.xmk 1 (.var 1)) 8)] [],
.ite (.cmp .eq (.var 0) (.cst (.int 1))) [.ret (.fld (.xmk 2 (.var 1)) 9)] [],
.ite (.cmp .eq (.var 0) (.cst (.int 2))) [.ret (.fld (.xmk 3 (.var 1)) 3)] [],
.ite (.cmp .eq (.var 0) (.cst (.int 3))) [.ret (.fld (.xmk 4 (.var 1)) 7)] [],
.ite (.cmp .eq (.var 0) (.cst (.int 4))) [.ret (.fld (.xmk 5 (.var 1)) 5)] [],
.ite (.cmp .eq (.var 0) (.cst (.int 5))) [.ret (.fld (.xmk 6 (.var 1)) 3)] [],
.ite (.cmp .eq (.var 0) (.cst (.int 6))) [.ret (.fld (.xmk 7 (.var 1)) 7)] [],
.ite (.cmp .eq (.var 0) (.cst (.int 7))) [.ret (.fld (.xmk 8 (.var 1)) 10)] [],
.ite (.cmp .eq (.var 0) (.cst (.int 8))) [.ret (.fld (.xmk 9 (.var 1)) 11)] [],
.ret (.call 4 [.var 0, .var 1])] }
/-- kept : kind e -/
abbrev FL_kept : Nat := 6
def d6 : DefI := { np := 2, ns := 2, dfl := [], keep := false, body := [.ite (.cmp .eq (.var 0) (.cst (.int 0))) [.ret (.fld (.var 1) 8)] [],
.ite (.cmp .eq (.var 0) (.cst (.int 1))) [.ret (.fld (.var 1) 9)] [],
.ite (.cmp .isin (.var 0) (.lst false [.cst (.int 2), .cst (.int 5), .cst (.int 12), .cst (.int 13), .cst (.int 15)])) [.ret (.fld (.var 1) 3)] [],
.ite (.cmp .isin (.var 0) (.lst false [.cst (.int 3), .cst (.int 6)])) [.ret (.fld (.var 1) 7)] [],
.ite (.cmp .isin (.var 0) (.lst false [.cst (.int 4), .cst (.int 16), .cst (.int 17)])) [.ret (.fld (.var 1) 5)] [],
.ite (.cmp .eq (.var 0) (.cst (.int 7))) [.ret (.fld (.var 1) 10)] [],
.ite (.cmp .eq (.var 0) (.cst (.int 8))) [.ret (.fld (.var 1) 11)] [],
.ite (.cmp .eq (.var 0) (.cst (.int 9))) [.ret (.fld (.var 1) 0)] [],
.ite (.cmp .eq (.var 0) (.cst (.int 10))) [.ret (.fld (.var 1) 1)] [],
.ite (.cmp .eq (.var 0) (.cst (.int 11))) [.ret (.fld (.var 1) 2)] [],
.ite (.cmp .eq (.var 0) (.cst (.int 14))) [.ret (.fld (.var 1) 4)] [],
.ite (.cmp .eq (.var 0) (.cst (.int 18))) [.ret (.fld (.var 1) 6)] [],
.ret (.fld (.var 1) 7)] }
/-- kinds : e found at -/
abbrev FL_kinds : Nat := 7
def d7 : DefI := { np := 1, ns := 3, dfl := [], keep := false, body := [.asg (.nm 1) (.lst false []),
.asg (.nm 1) (.bin .add (.var 1) (.lst false [.isi (.var 0) [.xcl 1], .isi (.var 0) [.xcl 2], .isi (.var 0) [.xcl 3]])),
.asg (.nm 1) (.bin .add (.var 1) (.lst false [.isi (.var 0) [.xcl 4], .isi (.var 0) [.xcl 5], .isi (.var 0) [.xcl 6]])),
.asg (.nm 1) (.bin .add (.var 1) (.lst false [.isi (.var 0) [.xcl 7], .isi (.var 0) [.xcl 8], .isi (.var 0) [.xcl 9]])),
.asg (.nm 1) (.bin .add (.var 1) (.lst false [.isi (.var 0) [.xcl 10], .isi (.var 0) [.xcl 11], .isi (.var 0) [.xcl 12]])),
.asg (.nm 1) (.bin .add (.var 1) (.lst false [.isi (.var 0) [.xcl 13], .isi (.var 0) [.xcl 14], .isi (.var 0) [.xcl 15]])),
.asg (.nm 1) (.bin .add (.var 1) (.lst false [.isi (.var 0) [.xcl 16], .isi (.var 0) [.xcl 17], .isi (.var 0) [.xcl 18]])),
.ret (.lc false [2] (.nm 2) (.rng [.b .len [.var 1]]) [.ix (.var 1) (.var 2)] (.var 2))] }
/-- caught : kind value_here fell e -/
abbrev FL_caught : Nat := 8
def d8 : DefI := { np := 2, ns := 4, dfl := [], keep := false, body := [.asg (.nm 2) (.cst .non),
.try_ [.ex (.call 3 [.var 0, .var 1])] [([0], some 3, [.asg (.nm 2) (.var 3)]), ([19], some 3, [.asg (.nm 2) (.var 3)]), ([20], some 3, [.asg (.nm 2) (.var 3)])],
.ret (.var 2)] }
/-- value : script state kind -/
abbrev FL_value : Nat := 9
def d9 : DefI := { np := 2, ns := 3, dfl := [], keep := false, body := [.asg (.nm 2) (.call 1 [.var 0, .var 1, .cst (.int 4)]),
.ite (.cmp .eq (.var 2) (.cst (.int 0))) [.ret (.cst .non)] [],
.ite (.cmp .eq (.var 2) (.cst (.int 1))) [.ret (.bin .sub (.call 1 [.var 0, .var 1, .bin .pow (.cst (.int 10)) (.cst (.int 6))]) (.cst (.int 1000)))] [],
.ite (.cmp .eq (.var 2) (.cst (.int 2))) [.ret (.tup [.cst (.str "ann"), .call 1 [.var 0, .var 1, .cst (.int 5)], .cst (.str "ends")])] [],
.ret (.ix (.lst false [.cst (.str "quorum"), .cst (.str ""), .cst (.str "day"), .cst (.str "leaves")]) (.call 1 [.var 0, .var 1, .cst (.int 4)]))] }
/-- law : script state kind value_here e -/
abbrev Flaw : Nat := 10
def d10 : DefI := { np := 1, ns := 5, dfl := [], keep := false, body := [.asg (.nm 1) (.call 0 [.var 0]),
.loop (.nm 2) (.rng [.cst (.int 20)]) [.asg (.nm 3) (.call 9 [.var 0, .var 1]),
.asg (.nm 4) (.call 8 [.var 2, .var 3]),
.ite (.or (.cmp .ne (.call 5 [.var 2, .var 3]) (.var 3)) (.cmp .ne (.call 6 [.var 2, .var 4]) (.var 3))) [.ret (.cst (.bl false))] [],
.ite (.or (.cmp .ne (.isi (.var 4) [.xcl 0]) (.cmp .lt (.var 2) (.cst (.int 18)))) (.cmp .ne (.isi (.var 4) [.vErr]) (.cmp .lt (.var 2) (.cst (.int 18))))) [.ret (.cst (.bl false))] [],
.ite (.cmp .ne (.call 7 [.var 4]) (.sl (.lst false [.var 2]) [] [.b .int [.cmp .lt (.var 2) (.cst (.int 18))]])) [.ret (.cst (.bl false))] []],
.ret (.cst (.bl true))] }
def defs : List DefI := [d0, d1, d2, d3, d4, d5, d6, d7, d8, d9, d10]
abbrev CDayError : Nat := 0
abbrev CBadPart : Nat := 1
abbrev CBadNumber : Nat := 2
abbrev CBadIndex : Nat := 3
abbrev CBadName : Nat := 4
abbrev CBadKey : Nat := 5
abbrev CBadErrand : Nat := 6
abbrev CBadOrder : Nat := 7
abbrev CNoWay : Nat := 8
abbrev CRing : Nat := 9
abbrev CBadThing : Nat := 10
abbrev CNotSo : Nat := 11
abbrev CBadPaper : Nat := 12
abbrev CBadTiding : Nat := 13
abbrev CBadMenu : Nat := 14
abbrev CBadText : Nat := 15
abbrev CBadDeed : Nat := 16
abbrev CPromised : Nat := 17
abbrev CFixed : Nat := 18
abbrev CTooMany : Nat := 19
abbrev CNothingToUndo : Nat := 20
def cls : List ClsI := [
{ init := none, meths := [], eqm := none, sup := [0], fld := none, ve := true },
{ init := none, meths := [], eqm := none, sup := [1, 0], fld := some 8, ve := true },
{ init := none, meths := [], eqm := none, sup := [2, 0], fld := some 9, ve := true },
{ init := none, meths := [], eqm := none, sup := [3, 0], fld := some 3, ve := true },
{ init := none, meths := [], eqm := none, sup := [4, 0], fld := some 7, ve := true },
{ init := none, meths := [], eqm := none, sup := [5, 0], fld := some 5, ve := true },
{ init := none, meths := [], eqm := none, sup := [6, 0], fld := some 3, ve := true },
{ init := none, meths := [], eqm := none, sup := [7, 0], fld := some 7, ve := true },
{ init := none, meths := [], eqm := none, sup := [8, 0], fld := some 10, ve := true },
{ init := none, meths := [], eqm := none, sup := [9, 0], fld := some 11, ve := true },
{ init := none, meths := [], eqm := none, sup := [10, 0], fld := some 0, ve := true },
{ init := none, meths := [], eqm := none, sup := [11, 0], fld := some 1, ve := true },
{ init := none, meths := [], eqm := none, sup := [12, 0], fld := some 2, ve := true },
{ init := none, meths := [], eqm := none, sup := [13, 0], fld := some 3, ve := true },
{ init := none, meths := [], eqm := none, sup := [14, 0], fld := some 3, ve := true },
{ init := none, meths := [], eqm := none, sup := [15, 0], fld := some 4, ve := true },
{ init := none, meths := [], eqm := none, sup := [16, 0], fld := some 3, ve := true },
{ init := none, meths := [], eqm := none, sup := [17, 0], fld := some 5, ve := true },
{ init := none, meths := [], eqm := none, sup := [18, 0], fld := some 5, ve := true },
{ init := none, meths := [], eqm := none, sup := [19], fld := some 6, ve := false },
{ init := none, meths := [], eqm := none, sup := [20], fld := some 7, ve := false }]
def consts : List D := []
def ops : Nat → Option Nat := fun n => [12, 13, 14, 15, 16, 17][n]?
def P : Prog := { defs := defs, cls := cls, consts := consts, ops := ops }
theorem ops_no : ∀ j, 6 ≤ j → P.ops j = none := fun j h => List.getElem?_eq_none (by simpa using h)
def G : GT := { fn := ["_law_start", "_law_draw", "_law_throw_other", "_law_throw", "_law_named_other", "_law_named", "_law_kept", "_law_kinds", "_law_caught", "_law_value", "law"], cn := [], kn := [] , nm := ["thing", "word", "reason", "index", "line", "key", "limit", "name", "part", "number", "pair", "ring", "__call__", "__le__", "__rshift__", "__or__", "__and__", "__len__"] , flds := [0, 1, 2, 3, 4, 5, 6, 7, 8, 9, 10, 11] , xs := [(0, "DayError"), (1, "BadPart"), (2, "BadNumber"), (3, "BadIndex"), (4, "BadName"), (5, "BadKey"), (6, "BadErrand"), (7, "BadOrder"), (8, "NoWay"), (9, "Ring"), (10, "BadThing"), (11, "NotSo"), (12, "BadPaper"), (13, "BadTiding"), (14, "BadMenu"), (15, "BadText"), (16, "BadDeed"), (17, "Promised"), (18, "Fixed"), (19, "TooMany"), (20, "NothingToUndo")] , xf := [1, 2, 3, 4, 5, 6, 7, 8, 9, 10, 11, 12, 13, 14, 15, 16, 17, 18, 19, 20], xn := [(1, "part"), (2, "number"), (3, "index"), (4, "name"), (5, "key"), (6, "index"), (7, "name"), (8, "pair"), (9, "ring"), (10, "thing"), (11, "word"), (12, "reason"), (13, "index"), (14, "index"), (15, "line"), (16, "index"), (17, "key"), (18, "key"), (19, "limit"), (20, "name")] }
abbrev R : PySem.W.OpenRow := PySem.W.OpenLaw.row PySem.Challenge.rw_risingday_k99_errors_and_wrong_kinds
def topS (i : Nat) : Stmt := PySem.Challenge.pw_risingday_k99_errors_and_wrong_kinds.main.body.getD i (.Pass ⟨0, 0, 0, 0⟩)
def inS (s : Stmt) (j : Nat) : Stmt := match s with
  | .ClassDef _ _ _ b _ _ _ _ _ _ _ => b.getD j (.Pass ⟨0, 0, 0, 0⟩)
  | _ => .Pass ⟨0, 0, 0, 0⟩
def s0 : DS := ⟨⟨("_law_start", none), "_law_start", "_law_start", defArgs (topS 23), defBody (topS 23), defScope (topS 23), [], []⟩, ["_law_script", "_law_first"]⟩
def s1 : DS := ⟨⟨("_law_draw", none), "_law_draw", "_law_draw", defArgs (topS 24), defBody (topS 24), defScope (topS 24), [], []⟩, ["_law_script", "_law_state", "_law_many", "_law_told", "_law_cell", "_law_mixed"]⟩
def s2 : DS := ⟨⟨("_law_throw_other", none), "_law_throw_other", "_law_throw_other", defArgs (topS 25), defBody (topS 25), defScope (topS 25), [], []⟩, ["_law_kind", "_law_value_here"]⟩
def s3 : DS := ⟨⟨("_law_throw", none), "_law_throw", "_law_throw", defArgs (topS 26), defBody (topS 26), defScope (topS 26), [], []⟩, ["_law_kind", "_law_value_here"]⟩
def s4 : DS := ⟨⟨("_law_named_other", none), "_law_named_other", "_law_named_other", defArgs (topS 27), defBody (topS 27), defScope (topS 27), [], []⟩, ["_law_kind", "_law_value_here"]⟩
def s5 : DS := ⟨⟨("_law_named", none), "_law_named", "_law_named", defArgs (topS 28), defBody (topS 28), defScope (topS 28), [], []⟩, ["_law_kind", "_law_value_here"]⟩
def s6 : DS := ⟨⟨("_law_kept", none), "_law_kept", "_law_kept", defArgs (topS 29), defBody (topS 29), defScope (topS 29), [], []⟩, ["_law_kind", "_law_e"]⟩
def s7 : DS := ⟨⟨("_law_kinds", none), "_law_kinds", "_law_kinds", defArgs (topS 30), defBody (topS 30), defScope (topS 30), [], []⟩, ["_law_e", "_law_found", "_law_at"]⟩
def s8 : DS := ⟨⟨("_law_caught", none), "_law_caught", "_law_caught", defArgs (topS 31), defBody (topS 31), defScope (topS 31), [], []⟩, ["_law_kind", "_law_value_here", "_law_fell", "_law_e"]⟩
def s9 : DS := ⟨⟨("_law_value", none), "_law_value", "_law_value", defArgs (topS 32), defBody (topS 32), defScope (topS 32), [], []⟩, ["_law_script", "_law_state", "_law_kind"]⟩
def s10 : DS := ⟨⟨("law", none), "law", "law", defArgs (topS 33), defBody (topS 33), defScope (topS 33), [], []⟩, ["_law_script", "_law_state", "_law_kind", "_law_value_here", "_law_e"]⟩
def fns : List DS := [s0, s1, s2, s3, s4, s5, s6, s7, s8, s9, s10]
def S : HS := ⟨PySem.Challenge.pw_risingday_k99_errors_and_wrong_kinds, G, P, fns⟩
def loose0 : List PySem.Str := ["DayError", "BadPart", "BadNumber", "BadIndex", "BadName", "BadKey", "BadErrand", "BadOrder", "NoWay", "Ring", "BadThing", "NotSo", "BadPaper", "BadTiding", "BadMenu", "BadText", "BadDeed", "Promised", "Fixed", "TooMany", "NothingToUndo", "_law_start", "_law_draw", "_law_throw_other", "_law_throw", "_law_named_other", "_law_named", "_law_kept", "_law_kinds", "_law_caught", "_law_value"]
def loose : List PySem.Str := loose0
abbrev lawAt : Nat := 33
abbrev Flw : Nat := 10
abbrev hk : PySem.W.Hook := hookH 6 S
def ob (s : PySem.W.SharedT) : AlH := obsHG 6 S (HandSHeadRun.getT s)
theorem ob_eq (s : PySem.W.SharedT) : ob s = hk.obs s.abs := obsHG_eq (HandSHeadRun.getT_eq s)
end K99
end
section
set_option linter.all false
set_option Elab.async false
set_option maxRecDepth 100000
set_option maxHeartbeats 0
namespace K99
open DV PySem PySem.Spec PyProof.Rows L2
theorem run_head (w : World) : HandSHeadRun.RunEq R (PySem.W.view R.prog [lawAt]) hk ob 20000 loose w := by
  intro os
  kernel_rfl
theorem st_ok : statB S = true := by kernel_rfl
theorem defs_chk : defsB S.G S.fns S.P.defs = true := by kernel_rfl
end K99
end
section
/-! Steps of the evaluator, as equations. -/
set_option linter.all false
set_option Elab.async false
namespace DV
section
variable {C : Ctx} {s : IS} {r a b : List IS} {E E' : Env} {S S' : Store} {d x : D} {c e : IE} {i f : Nat}
theorem execs_nx (h : exec C s E S = .nx E' S') : execs C (s :: r) E S = execs C r E' S' := by rw [execs, h]; rfl
theorem execs_ret (h : exec C s E S = .ret d S') : execs C (s :: r) E S = .ret d S' := by rw [execs, h]; rfl
theorem execs_exc {k : Nat} {fs : List (Nat × D)} (h : exec C s E S = .exc k fs E' S') : execs C (s :: r) E S = .exc k fs E' S' := by rw [execs, h]; rfl
theorem execs_cnt (h : exec C s E S = .cnt E' S') : execs C (s :: r) E S = .cnt E' S' := by rw [execs, h]; rfl
theorem execs_brk (h : exec C s E S = .brk E' S') : execs C (s :: r) E S = .brk E' S' := by rw [execs, h]; rfl
theorem exec_ite_t (h : ev C c E S = .ok x S') (t : truD S' x = some true) : exec C (.ite c a b) E S = execs C a E S' := by rw [exec, h]; simp only [toS, t]
theorem exec_ite_f (h : ev C c E S = .ok x S') (t : truD S' x = some false) : exec C (.ite c a b) E S = execs C b E S' := by rw [exec, h]; simp only [toS, t]
theorem exec_asg_nm (h : ev C e E S = .ok d S') (hi : i < E.length) : exec C (.asg (.nm i) e) E S = .nx (E.set i (some d)) S' := by
  rw [exec, h]
  show asgS C (.nm i) d E S' = _
  rw [asgS, nmS, if_pos hi]
theorem exec_asg {t : ST} (h : ev C e E S = .ok d S') : exec C (.asg t e) E S = asgS C t d E S' := by rw [exec, h]; rfl
theorem exec_ret (h : ev C e E S = .ok d S') : exec C (.ret e) E S = .ret d S' := by rw [exec, h]; rfl
theorem exec_ex (h : ev C e E S = .ok d S') : exec C (.ex e) E S = .nx E S' := by rw [exec, h]; rfl
theorem ev_and_t (h : ev C c E S = .ok x S') (t : truD S' x = some true) : ev C (.and c e) E S = ev C e E S' := by rw [ev, h]; simp only [Res.bind, t]
theorem ev_and_f (h : ev C c E S = .ok x S') (t : truD S' x = some false) : ev C (.and c e) E S = .ok x S' := by rw [ev, h]; simp only [Res.bind, t]
theorem ev_or_t (h : ev C c E S = .ok x S') (t : truD S' x = some true) : ev C (.or c e) E S = .ok x S' := by rw [ev, h]; simp only [Res.bind, t]
theorem ev_or_f (h : ev C c E S = .ok x S') (t : truD S' x = some false) : ev C (.or c e) E S = ev C e E S' := by rw [ev, h]; simp only [Res.bind, t]
theorem ev_call {as : List IE} {ds : List D} (h : evs C as E S = .ok ds S') : ev C (.call f as) E S = C.call f ds S' := by rw [ev, h]; rfl
theorem ev_cmp {op : CO} {S2 : Store} {y : D} (h : ev C c E S = .ok x S') (h2 : ev C e E S' = .ok y S2) : ev C (.cmp op c e) E S = cmpD C S2 op x y := by rw [ev, h]; simp only [Res.bind, h2]
theorem ev_bin {op : BO} {S2 : Store} {y : D} (h : ev C c E S = .ok x S') (h2 : ev C e E S' = .ok y S2) : ev C (.bin op c e) E S = binD C S2 op x y := by rw [ev, h]; simp only [Res.bind, h2]
theorem evs_cons {es : List IE} {S2 : Store} {xs rs : List D} (h : ev C e E S = .ok x S') (hs : spread S' e x = some xs) (h2 : evs C es E S' = .ok rs S2) : evs C (e :: es) E S = .ok (xs ++ rs) S2 := by rw [evs, h]; simp only [Res.bind, hs, h2]
theorem run_eq {P : Prog} {wf n : Nat} {as : List D} {di : DefI} (h : P.defs[f]? = some di) (hl : (as.length == di.np) = true) : run P wf (n + 1) f as S = leave di.keep S.length (execs ⟨P, run P wf n, wf⟩ di.body (as.map some ++ List.replicate (di.ns - di.np) none) S) := by
  simp only [run, h, hl, if_true]
end
end DV
end
section
set_option linter.all false
set_option Elab.async false
set_option maxRecDepth 100000
set_option maxHeartbeats 4000000
namespace K99
open DV
open PySem (PyData Str)
section
variable (wf n : Nat) (ns : List Int) (m a b c d : Int)
abbrev Cx : Ctx := ⟨P, run P wf n, wf⟩
abbrev St4 (a b c d : Int) : Store := [.lst [.int a, .int b, .int c, .int d]]
abbrev En (x y z : Option D) : Env := [some (.scr ns), some (.loc 0), some (.int m), x, y, z]
theorem mul_r {C : Ctx} {S : Store} (i j : Int) (h : -(2 ^ 64) < j ∧ j < 2 ^ 64) : binD C S .mul (.int i) (.int j) = .ok (.int (i * j)) S := by
  show mulD S (.int i) (.int j) = _
  unfold mulD
  simp only [if_pos (Or.inr h)]
theorem mul_l {C : Ctx} {S : Store} (i j : Int) (h : -(2 ^ 64) < i ∧ i < 2 ^ 64) : binD C S .mul (.int i) (.int j) = .ok (.int (i * j)) S := by
  show mulD S (.int i) (.int j) = _
  unfold mulD
  simp only [if_pos (Or.inl h)]
theorem draw_ok (hm : 0 < m) (hm2 : m < 1073741824) (hc : 0 ≤ c) : ∃ r a' b' c' d', run P wf (n+1) FL_draw [.scr ns, .loc 0, .int m] (St4 a b c d) = .ok (.int r) (St4 a' b' c' d') ∧ 0 ≤ r ∧ r < m ∧ 0 ≤ c' := by
  rw [run_eq (di := d1) rfl rfl]
  have e1 : ∀ r, execs (Cx wf n) (.asg (.ix (.var 1) (.cst (.int 3))) (.bin .add (.ix (.var 1) (.cst (.int 3))) (.cst (.int 1))) :: r) (En ns m none none none) (St4 a b c d) = execs (Cx wf n) r (En ns m none none none) (St4 a b c (d + 1)) := fun r => execs_nx rfl
  have hc1 : ev (Cx wf n) (.cmp .eq (.ix (.var 1) (.cst (.int 1))) (.cst (.int 1))) (En ns m none none none) (St4 a b c (d + 1)) = .ok (.bl (b == 1)) (St4 a b c (d + 1)) := rfl
  have hc2 : ev (Cx wf n) (.cmp .gt (.ix (.var 1) (.cst (.int 0))) (.cst (.int 0))) (En ns m none none none) (St4 a b c (d + 1)) = .ok (.bl (decide (0 < a))) (St4 a b c (d + 1)) := rfl
  by_cases hA : (b == 1) = true ∧ 0 < a
  · obtain ⟨h1, h2⟩ := hA
    refine ⟨a % m, a / m, b, c, d + 1, ?_, Int.emod_nonneg _ (by omega), Int.emod_lt_of_pos _ hm, hc⟩
    have t1 : ev (Cx wf n) (.bin .mod (.b .int [.ix (.var 1) (.cst (.int 0))]) (.var 2)) (En ns m none none none) (St4 a b c (d + 1)) = .ok (.int (a % m)) (St4 a b c (d + 1)) :=
      (ev_bin (x := .int a) (y := .int m) (S' := St4 a b c (d + 1)) (S2 := St4 a b c (d + 1)) rfl rfl).trans (by simp only [binD, if_pos hm])
    have t2 : ev (Cx wf n) (.bin .fdiv (.ix (.var 1) (.cst (.int 0))) (.var 2)) (En ns m (some (.int (a % m))) none none) (St4 a b c (d + 1)) = .ok (.int (a / m)) (St4 a b c (d + 1)) :=
      (ev_bin (x := .int a) (y := .int m) (S' := St4 a b c (d + 1)) (S2 := St4 a b c (d + 1)) rfl rfl).trans (by simp only [binD, if_pos (And.intro hm hm2)])
    have key : execs (Cx wf n) d1.body (En ns m none none none) (St4 a b c d) = .ret (.int (a % m)) (St4 (a / m) b c (d + 1)) := by
      refine (e1 _).trans (execs_ret ((exec_ite_t (x := .bl (decide (0 < a))) (S' := St4 a b c (d + 1)) ((ev_and_t hc1 (by rw [h1]; rfl)).trans hc2) (by rw [decide_eq_true h2]; rfl)).trans ?_))
      refine (execs_nx (exec_asg_nm t1 (by simp))).trans ((execs_nx ((exec_asg t2).trans (show _ = SRes.nx (En ns m (some (.int (a % m))) none none) (St4 (a / m) b c (d + 1)) from rfl))).trans (execs_ret rfl))
    show leave false 1 (execs (Cx wf n) d1.body (En ns m none none none) (St4 a b c d)) = _
    rw [key]
    rfl
  · -- the other way
    have hf : ∃ x, ev (Cx wf n) (.and (.cmp .eq (.ix (.var 1) (.cst (.int 1))) (.cst (.int 1))) (.cmp .gt (.ix (.var 1) (.cst (.int 0))) (.cst (.int 0)))) (En ns m none none none) (St4 a b c (d + 1)) = .ok x (St4 a b c (d + 1)) ∧ truD (St4 a b c (d + 1)) x = some false := by
      by_cases h1 : (b == 1) = true
      · refine ⟨_, (ev_and_t hc1 (by rw [h1]; rfl)).trans hc2, ?_⟩
        rw [decide_eq_false (fun h => hA ⟨h1, h⟩)]; rfl
      · have h1 : (b == 1) = false := by simpa using h1
        exact ⟨_, ev_and_f hc1 (by rw [h1]; rfl), by rw [h1]; rfl⟩
    obtain ⟨x, hx, tx⟩ := hf
    have s3 : ∀ r, execs (Cx wf n) (.asg (.ix (.var 1) (.cst (.int 1))) (.cst (.int 0)) :: .asg (.nm 4) (.cst (.int 0)) :: r) (En ns m none none none) (St4 a b c (d + 1)) = execs (Cx wf n) r (En ns m none (some (.int 0)) none) (St4 a 0 c (d + 1)) := fun r => (execs_nx rfl).trans (execs_nx rfl)
    -- the cell
    have hcell : ∃ z, ∀ r, execs (Cx wf n) (.ite (.cmp .gt (.b .len [.var 0]) (.cst (.int 0))) [.asg (.nm 4) (.ix (.var 0) (.bin .mod (.b .int [.ix (.var 1) (.cst (.int 2))]) (.b .len [.var 0])))] [] :: r) (En ns m none (some (.int 0)) none) (St4 a 0 c (d + 1)) =
        execs (Cx wf n) r (En ns m none (some (.int z)) none) (St4 a 0 c (d + 1)) := by
      have hl : ev (Cx wf n) (.cmp .gt (.b .len [.var 0]) (.cst (.int 0))) (En ns m none (some (.int 0)) none) (St4 a 0 c (d + 1)) = .ok (.bl (decide (0 < ((ns.map D.int).length : Int)))) (St4 a 0 c (d + 1)) := rfl
      by_cases h0 : ns = []
      · refine ⟨0, fun r => execs_nx ((exec_ite_f hl ?_).trans rfl)⟩
        subst h0; rfl
      · have hpos : 0 < ns.length := List.length_pos_iff.mpr h0
        have hlen : (ns.map D.int).length = ns.length := List.length_map ..
        have hj : 0 ≤ c % (ns.length : Int) := Int.emod_nonneg _ (by omega)
        have hj2 : c % (ns.length : Int) < ns.length := Int.emod_lt_of_pos _ (by omega)
        obtain ⟨j, ej⟩ := Int.eq_ofNat_of_zero_le hj
        have hjl : j < ns.length := by omega
        refine ⟨ns[j], fun r => execs_nx ((exec_ite_t hl ?_).trans ?_)⟩
        · rw [hlen, decide_eq_true (by omega)]; rfl
        · have hi : ev (Cx wf n) (.bin .mod (.b .int [.ix (.var 1) (.cst (.int 2))]) (.b .len [.var 0])) (En ns m none (some (.int 0)) none) (St4 a 0 c (d + 1)) = .ok (.int (j : Int)) (St4 a 0 c (d + 1)) :=
            (ev_bin (x := .int c) (y := .int ((ns.map D.int).length : Int)) (S' := St4 a 0 c (d + 1)) (S2 := St4 a 0 c (d + 1)) rfl rfl).trans (by simp only [binD, hlen]; rw [if_pos (by omega), ej])
          have hx : ev (Cx wf n) (.ix (.var 0) (.bin .mod (.b .int [.ix (.var 1) (.cst (.int 2))]) (.b .len [.var 0]))) (En ns m none (some (.int 0)) none) (St4 a 0 c (d + 1)) = .ok (.int ns[j]) (St4 a 0 c (d + 1)) := by
            rw [ev]
            show Res.bind (.ok (D.scr ns) (St4 a 0 c (d + 1))) _ = _
            simp only [Res.bind, hi]
            show (match L2.atI (ns.map D.int) (j : Int) with | some d => Res.ok d _ | none => .bad) = _
            rw [L2.atI_nat (v := .int ns[j]) (by simp [hjl])]
          exact (execs_nx (exec_asg_nm hx (by simp))).trans rfl
    obtain ⟨z, hz⟩ := hcell
    have s6 : ∀ r, execs (Cx wf n) (.asg (.ix (.var 1) (.cst (.int 2))) (.bin .add (.ix (.var 1) (.cst (.int 2))) (.cst (.int 1))) :: r) (En ns m none (some (.int z)) none) (St4 a 0 c (d + 1)) = execs (Cx wf n) r (En ns m none (some (.int z)) none) (St4 a 0 (c + 1) (d + 1)) := fun r => execs_nx rfl
    have q7 : ev (Cx wf n) (.bin .mul (.bin .mod (.b .int [.ix (.var 1) (.cst (.int 0))]) (.cst (.int 2147483647))) (.cst (.int 48271))) (En ns m none (some (.int z)) none) (St4 a 0 (c + 1) (d + 1)) = .ok (.int (a % 2147483647 * 48271)) (St4 a 0 (c + 1) (d + 1)) :=
      (ev_bin (x := .int (a % 2147483647)) (y := .int 48271) (S' := St4 a 0 (c + 1) (d + 1)) (S2 := St4 a 0 (c + 1) (d + 1)) rfl rfl).trans (mul_r _ _ (by decide))
    have q8 : ev (Cx wf n) (.bin .add (.bin .add (.bin .add (.var 5) (.bin .mod (.b .int [.var 4]) (.cst (.int 2147483629)))) (.bin .mul (.cst (.int 7)) (.ix (.var 1) (.cst (.int 3))))) (.cst (.int 11))) (En ns m none (some (.int z)) (some (.int (a % 2147483647 * 48271)))) (St4 a 0 (c + 1) (d + 1)) =
        .ok (.int (a % 2147483647 * 48271 + z % 2147483629 + 7 * (d + 1) + 11)) (St4 a 0 (c + 1) (d + 1)) := by
      have q : ev (Cx wf n) (.bin .mul (.cst (.int 7)) (.ix (.var 1) (.cst (.int 3)))) (En ns m none (some (.int z)) (some (.int (a % 2147483647 * 48271)))) (St4 a 0 (c + 1) (d + 1)) = .ok (.int (7 * (d + 1))) (St4 a 0 (c + 1) (d + 1)) :=
        (ev_bin (x := .int 7) (y := .int (d + 1)) (S' := St4 a 0 (c + 1) (d + 1)) (S2 := St4 a 0 (c + 1) (d + 1)) rfl rfl).trans (mul_l _ _ (by decide))
      exact ev_bin (x := .int (a % 2147483647 * 48271 + z % 2147483629 + 7 * (d + 1))) (y := .int 11) (S' := St4 a 0 (c + 1) (d + 1)) (S2 := St4 a 0 (c + 1) (d + 1)) ((ev_bin (x := .int (a % 2147483647 * 48271 + z % 2147483629)) (y := .int (7 * (d + 1))) (S' := St4 a 0 (c + 1) (d + 1)) (S2 := St4 a 0 (c + 1) (d + 1)) rfl q).trans rfl) rfl
    generalize a % 2147483647 * 48271 = u at q7 q8
    generalize u + z % 2147483629 + 7 * (d + 1) + 11 = v at q8
    have s9 : ∀ r, execs (Cx wf n) (.asg (.ix (.var 1) (.cst (.int 0))) (.bin .mod (.b .int [.var 5]) (.cst (.int 2147483647))) :: r) (En ns m none (some (.int z)) (some (.int v))) (St4 a 0 (c + 1) (d + 1)) = execs (Cx wf n) r (En ns m none (some (.int z)) (some (.int v))) (St4 (v % 2147483647) 0 (c + 1) (d + 1)) := fun r => execs_nx rfl
    generalize hg : v % 2147483647 = g at s9
    have q10 : ev (Cx wf n) (.bin .mod (.b .int [.bin .add (.bin .mul (.ix (.var 1) (.cst (.int 0))) (.cst (.int 69621))) (.ix (.var 1) (.cst (.int 3)))]) (.cst (.int 2147483629))) (En ns m none (some (.int z)) (some (.int v))) (St4 g 0 (c + 1) (d + 1)) =
        .ok (.int ((g * 69621 + (d + 1)) % 2147483629)) (St4 g 0 (c + 1) (d + 1)) := by
      have q : ev (Cx wf n) (.bin .mul (.ix (.var 1) (.cst (.int 0))) (.cst (.int 69621))) (En ns m none (some (.int z)) (some (.int v))) (St4 g 0 (c + 1) (d + 1)) = .ok (.int (g * 69621)) (St4 g 0 (c + 1) (d + 1)) :=
        (ev_bin (x := .int g) (y := .int 69621) (S' := St4 g 0 (c + 1) (d + 1)) (S2 := St4 g 0 (c + 1) (d + 1)) rfl rfl).trans (mul_r _ _ (by decide))
      have q2 : ev (Cx wf n) (.b .int [.bin .add (.bin .mul (.ix (.var 1) (.cst (.int 0))) (.cst (.int 69621))) (.ix (.var 1) (.cst (.int 3)))]) (En ns m none (some (.int z)) (some (.int v))) (St4 g 0 (c + 1) (d + 1)) = .ok (.int (g * 69621 + (d + 1))) (St4 g 0 (c + 1) (d + 1)) := by
        rw [ev, evs, ev_bin q rfl]; rfl
      exact (ev_bin q2 rfl).trans rfl
    generalize (g * 69621 + (d + 1)) % 2147483629 = y at q10
    have q11 : ev (Cx wf n) (.bin .mod (.b .int [.bin .fdiv (.var 5) (.cst (.int 13))]) (.var 2)) (En ns m none (some (.int z)) (some (.int y))) (St4 g 0 (c + 1) (d + 1)) = .ok (.int (y / 13 % m)) (St4 g 0 (c + 1) (d + 1)) :=
      (ev_bin (x := .int (y / 13)) (y := .int m) (S' := St4 g 0 (c + 1) (d + 1)) (S2 := St4 g 0 (c + 1) (d + 1)) rfl rfl).trans (by simp only [binD, if_pos hm])
    refine ⟨y / 13 % m, g, 0, c + 1, d + 1, ?_, Int.emod_nonneg _ (by omega), Int.emod_lt_of_pos _ hm, by omega⟩
    have key : execs (Cx wf n) d1.body (En ns m none none none) (St4 a b c d) = .ret (.int (y / 13 % m)) (St4 g 0 (c + 1) (d + 1)) := by
      refine (e1 _).trans ((execs_nx (exec_ite_f hx tx)).trans ((s3 _).trans ((hz _).trans ((s6 _).trans ?_))))
      refine (execs_nx (exec_asg_nm q7 (by simp))).trans ((execs_nx (exec_asg_nm q8 (by simp))).trans ((s9 _).trans ?_))
      exact (execs_nx (exec_asg_nm q10 (by simp))).trans (execs_ret (exec_ret q11))
    show leave false 1 (execs (Cx wf n) d1.body (En ns m none none none) (St4 a b c d)) = _
    rw [key]
    rfl
end
end K99
end
section
set_option linter.all false
set_option Elab.async false
set_option maxRecDepth 100000
set_option maxHeartbeats 4000000
namespace K99
open DV
open PySem (PyData Str)
/-- what value gives -/
inductive VS : D → Prop
  | non : VS .non
  | int (i : Int) : VS (.int i)
  | tup (i : Int) : VS (.tup [.str "ann", .int i, .str "ends"])
  | s0 : VS (.str "quorum")
  | s1 : VS (.str "")
  | s2 : VS (.str "day")
  | s3 : VS (.str "leaves")
theorem eq_pd {C : Ctx} {S : Store} {v : D} {p : PyData} (h : pdS S v = some p) (h2 : PySem.SeqAt.shaped p = true) (h3 : PyData.eqv p p = true) : eqD C S v v = some true := by
  unfold eqD
  rw [h]
  simp only [h2, h3, Bool.and_self, if_true]
theorem eq_str {C : Ctx} {S : Store} (s : Str) (h2 : PySem.SeqAt.shaped (.str s) = true) : eqD C S (.str s) (.str s) = some true :=
  eq_pd (p := .str s) rfl h2 (by simp [PyData.eqv])
theorem eq_tup {C : Ctx} {S : Store} (s t : Str) (i : Int) (h2 : PySem.SeqAt.shaped (.tuple [.str s, .int i, .str t]) = true) : eqD C S (.tup [.str s, .int i, .str t]) (.tup [.str s, .int i, .str t]) = some true :=
  eq_pd (p := .tuple [.str s, .int i, .str t]) rfl h2 (by simp [PyData.eqv, PyData.eqvAll])
theorem eq_self {C : Ctx} {S : Store} {v : D} (h : VS v) : eqD C S v v = some true := by
  cases h with
  | non => rfl
  | int i => exact eq_pd (p := .int i) rfl (by kernel_rfl) (by simp [PyData.eqv])
  | tup i => exact eq_tup _ _ _ (by kernel_rfl)
  | s0 => exact eq_str _ (by kernel_rfl)
  | s1 => exact eq_str _ (by kernel_rfl)
  | s2 => exact eq_str _ (by kernel_rfl)
  | s3 => exact eq_str _ (by kernel_rfl)
section
variable (wf n : Nat) (ns : List Int) (m a b c d : Int) (v : D)
theorem start_ok : ∃ a b, run P wf (n+1) FL_start [.scr ns] [] = .ok (.loc 0) (St4 a b 1 0) := by
  cases ns with
  | nil => exact ⟨_, _, rfl⟩
  | cons x r =>
    have hc : ev (Cx wf n) (.cmp .gt (.b .len [.var 0]) (.cst (.int 0))) [some (.scr (x :: r)), some (.int 0)] [] = .ok (.bl (decide (0 < (((x :: r).map D.int).length : Int)))) [] := rfl
    have s1 : ∀ q, execs (Cx wf n) (.asg (.nm 1) (.cst (.int 0)) :: q) [some (.scr (x :: r)), none] [] = execs (Cx wf n) q [some (.scr (x :: r)), some (.int 0)] [] := fun q => execs_nx rfl
    have s2 : exec (Cx wf n) (.asg (.nm 1) (.ix (.var 0) (.cst (.int 0)))) [some (.scr (x :: r)), some (.int 0)] [] = .nx [some (.scr (x :: r)), some (.int x)] [] := by
      refine exec_asg_nm (d := .int x) ?_ (by simp)
      rw [ev]
      show (match L2.atI ((x :: r).map D.int) ((0 : Nat) : Int) with | some d => Res.ok d [] | none => .bad) = _
      rw [L2.atI_nat (v := .int x) rfl]
    have key : execs (Cx wf n) d0.body [some (.scr (x :: r)), none] [] = .ret (.loc 0) (St4 (if x < 0 then -x else x) (if decide ((10 : Int) ^ 18 ≤ (if x < 0 then -x else x)) = true then 1 else 0) 1 0) := by
      refine (s1 _).trans ((execs_nx ((exec_ite_t hc ?_).trans ((execs_nx s2).trans rfl))).trans (execs_ret rfl))
      rw [decide_eq_true (by simp)]; rfl
    refine ⟨if x < 0 then -x else x, if decide ((10 : Int) ^ 18 ≤ (if x < 0 then -x else x)) = true then 1 else 0, ?_⟩
    rw [run_eq (di := d0) rfl rfl]
    show leave true 0 (execs (Cx wf n) d0.body [some (.scr (x :: r)), none] []) = _
    rw [key]
    rfl
def fo : Nat → Nat := fun i => ([8, 9, 3, 7, 5, 3, 7, 10, 11, 0, 1, 2, 3, 3, 4, 3, 5, 5, 6, 7] : List Nat).getD i 0
def tailL : List IS := [.ite (.or (.cmp .ne (.isi (.var 4) [.xcl 0]) (.cmp .lt (.var 2) (.cst (.int 18)))) (.cmp .ne (.isi (.var 4) [.vErr]) (.cmp .lt (.var 2) (.cst (.int 18))))) [.ret (.cst (.bl false))] [],
.ite (.cmp .ne (.call 7 [.var 4]) (.sl (.lst false [.var 2]) [] [.b .int [.cmp .lt (.var 2) (.cst (.int 18))]])) [.ret (.cst (.bl false))] []]
abbrev EnL (i : Nat) (v : D) : Env := [some (.scr ns), some (.loc 0), some (.int i), some v, some (.exo (i + 1) [(fo i, v)])]
def Kd (i : Nat) : Prop := ∀ (wf n : Nat) (ns : List Int) (v : D) (a b c d : Int),
  run P wf (n+4) FL_named [.int i, v] (St4 a b c d) = .ok v (St4 a b c d) ∧
  run P wf (n+4) FL_caught [.int i, v] (St4 a b c d) = .ok (.exo (i + 1) [(fo i, v)]) (St4 a b c d) ∧
  run P wf (n+4) FL_kept [.int i, .exo (i + 1) [(fo i, v)]] (St4 a b c d) = .ok v (St4 a b c d) ∧
  execs (Cx wf (n+4)) tailL (EnL ns i v) (St4 a b c d) = .nx (EnL ns i v) (St4 a b c d)
theorem kd0 : Kd 0 := fun wf n ns v a b c d => ⟨rfl, rfl, rfl, by kernel_rfl⟩
theorem kd1 : Kd 1 := fun wf n ns v a b c d => ⟨rfl, rfl, rfl, by kernel_rfl⟩
theorem kd2 : Kd 2 := fun wf n ns v a b c d => ⟨rfl, rfl, rfl, by kernel_rfl⟩
theorem kd3 : Kd 3 := fun wf n ns v a b c d => ⟨rfl, rfl, rfl, by kernel_rfl⟩
theorem kd4 : Kd 4 := fun wf n ns v a b c d => ⟨rfl, rfl, rfl, by kernel_rfl⟩
theorem kd5 : Kd 5 := fun wf n ns v a b c d => ⟨rfl, rfl, rfl, by kernel_rfl⟩
theorem kd6 : Kd 6 := fun wf n ns v a b c d => ⟨rfl, rfl, rfl, by kernel_rfl⟩
theorem kd7 : Kd 7 := fun wf n ns v a b c d => ⟨rfl, rfl, rfl, by kernel_rfl⟩
theorem kd8 : Kd 8 := fun wf n ns v a b c d => ⟨rfl, rfl, rfl, by kernel_rfl⟩
theorem kd9 : Kd 9 := fun wf n ns v a b c d => ⟨rfl, rfl, rfl, by kernel_rfl⟩
theorem kd10 : Kd 10 := fun wf n ns v a b c d => ⟨rfl, rfl, rfl, by kernel_rfl⟩
theorem kd11 : Kd 11 := fun wf n ns v a b c d => ⟨rfl, rfl, rfl, by kernel_rfl⟩
theorem kd12 : Kd 12 := fun wf n ns v a b c d => ⟨rfl, rfl, rfl, by kernel_rfl⟩
theorem kd13 : Kd 13 := fun wf n ns v a b c d => ⟨rfl, rfl, rfl, by kernel_rfl⟩
theorem kd14 : Kd 14 := fun wf n ns v a b c d => ⟨rfl, rfl, rfl, by kernel_rfl⟩
theorem kd15 : Kd 15 := fun wf n ns v a b c d => ⟨rfl, rfl, rfl, by kernel_rfl⟩
theorem kd16 : Kd 16 := fun wf n ns v a b c d => ⟨rfl, rfl, rfl, by kernel_rfl⟩
theorem kd17 : Kd 17 := fun wf n ns v a b c d => ⟨rfl, rfl, rfl, by kernel_rfl⟩
theorem kd18 : Kd 18 := fun wf n ns v a b c d => ⟨rfl, rfl, rfl, by kernel_rfl⟩
theorem kd19 : Kd 19 := fun wf n ns v a b c d => ⟨rfl, rfl, rfl, by kernel_rfl⟩
theorem kd_all : ∀ i, i < 20 → Kd i
  | 0, _ => kd0
  | 1, _ => kd1
  | 2, _ => kd2
  | 3, _ => kd3
  | 4, _ => kd4
  | 5, _ => kd5
  | 6, _ => kd6
  | 7, _ => kd7
  | 8, _ => kd8
  | 9, _ => kd9
  | 10, _ => kd10
  | 11, _ => kd11
  | 12, _ => kd12
  | 13, _ => kd13
  | 14, _ => kd14
  | 15, _ => kd15
  | 16, _ => kd16
  | 17, _ => kd17
  | 18, _ => kd18
  | 19, _ => kd19
  | _ + 20, h => absurd h (by omega)
end
end K99
end
section
set_option linter.all false
set_option Elab.async false
set_option maxRecDepth 100000
set_option maxHeartbeats 4000000
namespace K99
open DV
open PySem (PyData Str)
section
variable (wf n : Nat) (ns : List Int) (m a b c d : Int) (v : D)
abbrev E9 (x : Option D) : Env := [some (.scr ns), some (.loc 0), x]
theorem ev_draw {E : Env} {S S' : Store} {r : Int} (k : IE) (m : Int) (h0 : E[0]? = some (some (.scr ns))) (h1 : E[1]? = some (some (.loc 0))) (hk : ev (Cx wf n) k E S = .ok (.int m) S) (hs : spread S k (.int m) = some [.int m])
    (h : run P wf n FL_draw [.scr ns, .loc 0, .int m] S = .ok (.int r) S') : ev (Cx wf n) (.call 1 [.var 0, .var 1, k]) E S = .ok (.int r) S' := by
  refine (ev_call (ds := [.scr ns, .loc 0, .int m]) (S' := S) ?_).trans h
  refine evs_cons (xs := [.scr ns]) (rs := [.loc 0, .int m]) (x := .scr ns) (S' := S) (by rw [ev, h0]) rfl ?_
  refine evs_cons (xs := [.loc 0]) (rs := [.int m]) (x := .loc 0) (S' := S) (by rw [ev, h1]) rfl ?_
  exact evs_cons (xs := [.int m]) (rs := []) hk hs rfl
theorem value_ok (hc : 0 ≤ c) : ∃ v a' b' c' d', run P wf (n+2) FL_value [.scr ns, .loc 0] (St4 a b c d) = .ok v (St4 a' b' c' d') ∧ VS v ∧ 0 ≤ c' := by
  obtain ⟨r, a1, b1, c1, d1, h1, hr, hr4, hc1⟩ := draw_ok wf n ns 4 a b c d (by decide) (by decide) hc
  rw [run_eq (di := d9) rfl rfl]
  have s1 : ∀ q, execs (Cx wf (n+1)) (.asg (.nm 2) (.call 1 [.var 0, .var 1, .cst (.int 4)]) :: q) (E9 ns none) (St4 a b c d) = execs (Cx wf (n+1)) q (E9 ns (some (.int r))) (St4 a1 b1 c1 d1) := fun q =>
    execs_nx (exec_asg_nm (ev_draw wf (n+1) ns (.cst (.int 4)) 4 rfl rfl rfl rfl h1) (by simp))
  have fin : ∀ {v a' b' c' d'}, execs (Cx wf (n+1)) d9.body (E9 ns none) (St4 a b c d) = .ret v (St4 a' b' c' d') → VS v → leave d9.keep [Cell.lst [.int a, .int b, .int c, .int d]].length (execs (Cx wf (n+1)) d9.body (E9 ns none) (St4 a b c d)) = .ok v (St4 a' b' c' d') := by
    intro v a' b' c' d' h hv
    rw [h]
    cases hv <;> rfl
  have cases4 : r = 0 ∨ r = 1 ∨ r = 2 ∨ r = 3 := by omega
  rcases cases4 with rfl | rfl | rfl | rfl
  · exact ⟨.non, a1, b1, c1, d1, fin ((s1 _).trans (execs_ret rfl)) .non, .non, hc1⟩
  · obtain ⟨r2, a2, b2, c2, d2, h2, _, _, hc2⟩ := draw_ok wf n ns 1000000 a1 b1 c1 d1 (by decide) (by decide) hc1
    have t : ev (Cx wf (n+1)) (.bin .sub (.call 1 [.var 0, .var 1, .bin .pow (.cst (.int 10)) (.cst (.int 6))]) (.cst (.int 1000))) (E9 ns (some (.int 1))) (St4 a1 b1 c1 d1) = .ok (.int (r2 - 1000)) (St4 a2 b2 c2 d2) :=
      (ev_bin (x := .int r2) (y := .int 1000) (S2 := St4 a2 b2 c2 d2) (ev_draw wf (n+1) ns _ 1000000 rfl rfl rfl rfl h2) rfl).trans rfl
    exact ⟨_, a2, b2, c2, d2, fin ((s1 _).trans ((execs_nx rfl).trans (execs_ret ((exec_ite_t (x := .bl true) (S' := St4 a1 b1 c1 d1) rfl rfl).trans (execs_ret (exec_ret t)))))) (.int _), .int _, hc2⟩
  · obtain ⟨r2, a2, b2, c2, d2, h2, _, _, hc2⟩ := draw_ok wf n ns 5 a1 b1 c1 d1 (by decide) (by decide) hc1
    have t : ev (Cx wf (n+1)) (.tup [.cst (.str "ann"), .call 1 [.var 0, .var 1, .cst (.int 5)], .cst (.str "ends")]) (E9 ns (some (.int 2))) (St4 a1 b1 c1 d1) = .ok (.tup [.str "ann", .int r2, .str "ends"]) (St4 a2 b2 c2 d2) := by
      have q := ev_draw wf (n+1) ns (E := E9 ns (some (.int 2))) (.cst (.int 5)) 5 rfl rfl rfl rfl h2
      have q2 : evs (Cx wf (n+1)) [.cst (.str "ann"), .call 1 [.var 0, .var 1, .cst (.int 5)], .cst (.str "ends")] (E9 ns (some (.int 2))) (St4 a1 b1 c1 d1) = .ok [.str "ann", .int r2, .str "ends"] (St4 a2 b2 c2 d2) :=
        evs_cons (xs := [.str "ann"]) (rs := [.int r2, .str "ends"]) rfl rfl (evs_cons (xs := [.int r2]) (rs := [.str "ends"]) q rfl rfl)
      rw [ev, q2]; rfl
    exact ⟨_, a2, b2, c2, d2, fin ((s1 _).trans ((execs_nx rfl).trans ((execs_nx rfl).trans (execs_ret ((exec_ite_t (x := .bl true) (S' := St4 a1 b1 c1 d1) rfl rfl).trans (execs_ret (exec_ret t))))))) (.tup _), .tup _, hc2⟩
  · obtain ⟨r2, a2, b2, c2, d2, h2, hr2, hr24, hc2⟩ := draw_ok wf n ns 4 a1 b1 c1 d1 (by decide) (by decide) hc1
    have t : ∀ w, ixD (St4 a2 b2 c2 d2) (.lst [.str "quorum", .str "", .str "day", .str "leaves"]) (.int r2) = .ok w (St4 a2 b2 c2 d2) → ev (Cx wf (n+1)) (.ix (.lst false [.cst (.str "quorum"), .cst (.str ""), .cst (.str "day"), .cst (.str "leaves")]) (.call 1 [.var 0, .var 1, .cst (.int 4)])) (E9 ns (some (.int 3))) (St4 a1 b1 c1 d1) = .ok w (St4 a2 b2 c2 d2) := by
      intro w hw
      have q := ev_draw wf (n+1) ns (E := E9 ns (some (.int 3))) (.cst (.int 4)) 4 rfl rfl rfl rfl h2
      rw [ev]
      show Res.bind (.ok (D.lst [.str "quorum", .str "", .str "day", .str "leaves"]) (St4 a1 b1 c1 d1)) _ = _
      simp only [Res.bind, q, hw]
    have go : ∀ w, VS w → ixD (St4 a2 b2 c2 d2) (.lst [.str "quorum", .str "", .str "day", .str "leaves"]) (.int r2) = .ok w (St4 a2 b2 c2 d2) → ∃ v a' b' c' d', leave d9.keep [Cell.lst [.int a, .int b, .int c, .int d]].length (execs (Cx wf (n+1)) d9.body (E9 ns none) (St4 a b c d)) = .ok v (St4 a' b' c' d') ∧ VS v ∧ 0 ≤ c' := fun w hv hw =>
      ⟨w, a2, b2, c2, d2, fin ((s1 _).trans ((execs_nx rfl).trans ((execs_nx rfl).trans ((execs_nx rfl).trans (execs_ret (exec_ret (t w hw))))))) hv, hv, hc2⟩
    have cases4 : r2 = 0 ∨ r2 = 1 ∨ r2 = 2 ∨ r2 = 3 := by omega
    rcases cases4 with rfl | rfl | rfl | rfl
    · exact go _ .s0 rfl
    · exact go _ .s1 rfl
    · exact go _ .s2 rfl
    · exact go _ .s3 rfl
end
end K99
end
section
set_option linter.all false
set_option Elab.async false
set_option maxRecDepth 100000
set_option maxHeartbeats 4000000
namespace K99
open DV
open PySem (PyData Str)
section
variable (wf n : Nat) (ns : List Int) (m a b c d : Int) (v : D)
def bodyL : List IS := [.asg (.nm 3) (.call 9 [.var 0, .var 1]),
.asg (.nm 4) (.call 8 [.var 2, .var 3]),
.ite (.or (.cmp .ne (.call 5 [.var 2, .var 3]) (.var 3)) (.cmp .ne (.call 6 [.var 2, .var 4]) (.var 3))) [.ret (.cst (.bl false))] []] ++ tailL
abbrev EL (i : Nat) (y z : Option D) : Env := [some (.scr ns), some (.loc 0), some (.int i), y, z]
theorem ne_self {C : Ctx} {S : Store} {v : D} (h : VS v) : cmpD C S .ne v v = .ok (.bl false) S := by
  simp only [cmpD, eq_self h]; rfl
theorem turn_ok (i : Nat) (hi : i < 20) (y z : Option D) (hc : 0 ≤ c) : ∃ v a' b' c' d', execs (Cx wf (n+4)) bodyL (EL ns i y z) (St4 a b c d) = .nx (EnL ns i v) (St4 a' b' c' d') ∧ 0 ≤ c' := by
  obtain ⟨v, a1, b1, c1, d1, h1, hv, hc1⟩ := value_ok wf (n+2) ns a b c d hc
  obtain ⟨k1, k2, k3, k4⟩ := kd_all i hi wf n ns v a1 b1 c1 d1
  refine ⟨v, a1, b1, c1, d1, ?_, hc1⟩
  have s1 : ev (Cx wf (n+4)) (.call 9 [.var 0, .var 1]) (EL ns i y z) (St4 a b c d) = .ok v (St4 a1 b1 c1 d1) := (ev_call (ds := [.scr ns, .loc 0]) (S' := St4 a b c d) rfl).trans h1
  have s2 : ev (Cx wf (n+4)) (.call 8 [.var 2, .var 3]) (EL ns i (some v) z) (St4 a1 b1 c1 d1) = .ok (.exo (i + 1) [(fo i, v)]) (St4 a1 b1 c1 d1) := (ev_call (ds := [.int i, v]) (S' := St4 a1 b1 c1 d1) rfl).trans k2
  have s3 : ev (Cx wf (n+4)) (.call 5 [.var 2, .var 3]) (EnL ns i v) (St4 a1 b1 c1 d1) = .ok v (St4 a1 b1 c1 d1) := (ev_call (ds := [.int i, v]) (S' := St4 a1 b1 c1 d1) rfl).trans k1
  have s4 : ev (Cx wf (n+4)) (.call 6 [.var 2, .var 4]) (EnL ns i v) (St4 a1 b1 c1 d1) = .ok v (St4 a1 b1 c1 d1) := (ev_call (ds := [.int i, .exo (i + 1) [(fo i, v)]]) (S' := St4 a1 b1 c1 d1) rfl).trans k3
  have s5 : ev (Cx wf (n+4)) (.or (.cmp .ne (.call 5 [.var 2, .var 3]) (.var 3)) (.cmp .ne (.call 6 [.var 2, .var 4]) (.var 3))) (EnL ns i v) (St4 a1 b1 c1 d1) = .ok (.bl false) (St4 a1 b1 c1 d1) :=
    (ev_or_f ((ev_cmp s3 rfl).trans (ne_self hv)) rfl).trans ((ev_cmp s4 rfl).trans (ne_self hv))
  refine (execs_nx (exec_asg_nm s1 (by simp))).trans ((execs_nx (exec_asg_nm s2 (by simp))).trans ((execs_nx (exec_ite_f s5 rfl)).trans k4))
theorem loop_ok : ∀ (m i : Nat), m + i = 20 → ∀ (x y z : Option D) (a b c d : Int), 0 ≤ c → ∃ E a' b' c' d', loopC (.items ((List.range 20).map fun (i : Nat) => D.int (i : Int))) (.nm 2) (execs (Cx wf (n+4)) bodyL) m i [some (.scr ns), some (.loc 0), x, y, z] (St4 a b c d) = .nx E (St4 a' b' c' d')
  | 0, i, h, x, y, z, a, b, c, d, hc => ⟨_, _, _, _, _, rfl⟩
  | m + 1, i, h, x, y, z, a, b, c, d, hc => by
    obtain ⟨v, a1, b1, c1, d1, h1, hc1⟩ := turn_ok wf n ns a b c d i (by omega) y z hc
    obtain ⟨E, a2, b2, c2, d2, h2⟩ := loop_ok m (i + 1) (by omega) (some (.int i)) (some v) (some (.exo (i + 1) [(fo i, v)])) a1 b1 c1 d1 hc1
    refine ⟨E, a2, b2, c2, d2, ?_⟩
    have hx : ((List.range 20).map fun (i : Nat) => D.int (i : Int))[i]? = some (.int i) := by
      have : i < 20 := by omega
      simp [this]
    rw [loopC]
    simp only [Src.cur, hx]
    show (match execs (Cx wf (n+4)) bodyL (EL ns i y z) (St4 a b c d) with | .nx E2 S2 => _ | .cnt E2 S2 => _ | .brk E2 S2 => _ | q => q) = _
    rw [h1]
    exact h2
theorem law_ok : ∃ S', run P wf (n+5) Flw [.scr ns] [] = .ok (.bl true) S' := by
  obtain ⟨a, b, h1⟩ := start_ok wf (n+3) ns
  obtain ⟨E, a2, b2, c2, d2, h2⟩ := loop_ok wf n ns 20 0 rfl none none none a b 1 0 (by decide)
  rw [run_eq (di := d10) rfl rfl]
  have key : execs (Cx wf (n+4)) d10.body [some (.scr ns), none, none, none, none] [] = .ret (.bl true) (St4 a2 b2 c2 d2) := by
    have s1 : ev (Cx wf (n+4)) (.call 0 [.var 0]) [some (.scr ns), none, none, none, none] [] = .ok (.loc 0) (St4 a b 1 0) := (ev_call (ds := [.scr ns]) (S' := []) rfl).trans h1
    refine (execs_nx (exec_asg_nm s1 (by simp))).trans ((execs_nx (E' := E) (S' := St4 a2 b2 c2 d2) ?_).trans (execs_ret rfl))
    exact h2
  show ∃ S', leave false 0 (execs (Cx wf (n+4)) d10.body [some (.scr ns), none, none, none, none] []) = .ok (.bl true) S'
  rw [key]
  exact ⟨_, rfl⟩
end
end K99
end
section
set_option linter.all false
set_option Elab.async false
set_option maxRecDepth 100000
set_option maxHeartbeats 0
namespace K99
theorem run_law : ∀ ns : List Int, ns.length ≤ 63 → ∃ S', DV.run S.P 100 12 Flw [.scr ns] [] = .ok (.bl true) S' := fun ns _ => law_ok 100 7 ns
end K99
open PySem PySem.W PySem.Calls PyProof.Rows
theorem PySem.Challenge.cw_risingday_k99_errors_and_wrong_kinds_holds : PySem.Challenge.rw_risingday_k99_errors_and_wrong_kinds.Holds := by
  w_on; o_law
  refine HandSHeadRun.head_any (r := OpenLaw.row PySem.Challenge.rw_risingday_k99_errors_and_wrong_kinds) (q := view (OpenLaw.row PySem.Challenge.rw_risingday_k99_errors_and_wrong_kinds).prog [K99.lawAt]) (H := K99.hk) (ob := K99.ob) (M := 20000) (loose := K99.loose) (d := HandSHeadRun.topDef (OpenLaw.row PySem.Challenge.rw_risingday_k99_errors_and_wrong_kinds).prog K99.lawAt) (kwd := []) K99.ob_eq (by kernel_rfl) (fun s => by kernel_rfl) K99.run_head (by kernel_rfl) (by kernel_rfl) (by kernel_rfl) (by rfl) (by first | assumption | decide +kernel) (by decide +kernel) ⟨rfl, rfl, rfl, rfl, rfl, by decide +kernel⟩ ?hw ?hc
  case hw => w_witness2
  case hc => exact DV.end_law (S := K99.S) (fl := K99.Flw) (wf := 100) (n := 12) rfl K99.st_ok K99.ops_no K99.defs_chk rfl rfl (fun K h mg => DV.name_at K99.st_ok (x := "law") rfl (by kernel_rfl) K h mg) rfl rfl (by decide) K99.run_law
end
