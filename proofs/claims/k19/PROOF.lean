import PyProof.Rows.All
import Wide.All
import OpenK.AllK
import Wide.FinOn
import PyProof.EqAt
import PyProof.EqKinds
import PyProof.TupleCall
import KE.KExcSuper
import KE.KExcIs
import KE.KIsAll
import HandS.ForMost
import HandS.ExcInit
import HandS.Defaults
import HandS.HeadHook4
import HandS.ExcSuper
import HandS.IsInst
import HandS.ExcField
import KE.KStateDown
import HandS.Ends
import HandS.More
import HandS.Head0
import HandS.Head1
import HandS.Head2
import HandS.HeadEnd
import HandS.HeadHook1
import HandS.HeadHook2
import HandS.Flow
import HandS.Walk
import HandS.Zip
import PySem.Challenge.RW_reclaimed_k19_what_errors_keep
set_option Elab.async false
set_option linter.all false
set_option maxRecDepth 100000
set_option maxHeartbeats 0
namespace PySem
namespace K19
open PySem PySem.W PySem.Calls PyProof.Rows PySem.Spec
/-! ### C(.., k = v): keywords go to __init__ -/
section
variable {M : Model} {A : Around} {E : Value → Shared → Prop} {h : Heap} {g : Array GenState} {d : Drawn} {t : Nat} {os : OsState}
variable {nm q : Str} {C N : Addr} {bs bm bmB : List Value} {hdct : Bool} {sn : List Str} {sub : List Value} {ab : Bool} {col : Option Bool} {dd : Option Addr} {k0 k1 k2 k3 k5 : Option Value} {B newId initId : String}
  {ps : List Value} {kw : List (Str × Value)}
theorem kw_check (FB : ExcBaseFacts B newId initId bmB) (hT : ∀ Y : String, bm.contains (.type Y) = bmB.contains (.type Y)) {Q : Unit → Shared → Prop}
    (hC : h.get? C = some (excClassObj nm q C N bs bm hdct sn sub ab col dd k0 k1 k2 k3 k5 newId)) (goal : Q () ⟨h, g, d, t, os⟩) : wpAny M A (checkBuiltinCall newId ⟨.ref C :: ps, kw⟩) Q E ⟨h, g, d, t, os⟩ := by
  have own : (Value.ref C :: bm).contains (.type B) = true := by
    rw [List.contains_cons, hT, FB.hasB, Bool.or_true]
  have st := FB.noStar
  simp only [checkBuiltinCall, FB.newKind, FB.newSplit, FB.newRow]
  repeat (first
    | refine wpAny_loadPart_at hC ?_
    | (refine wpAny_isSubtype_exc hC ?_
       rw [own])
    | refine wpAny_staticBase_exc hC ?_
    | refine wpAny_madeBy_exc hC ?_
    | simp only [bne_self_eq_false, Bool.false_eq_true, if_false]
    | wp_step)
  exact goal
end
section
variable {prog : Program} {w : World} {A : Around} {E : Value → Shared → Prop} {R : Result → Shared → Prop} {h : Heap} {g : Array GenState} {d : Drawn} {t : Nat} {os : OsState}
variable {nm q : Str} {C N : Addr} {bs bm bmB : List Value} {hdct : Bool} {sn : List Str} {sub : List Value} {ab : Bool} {col : Option Bool} {dd : Option Addr} {k0 k1 k2 k3 k5 : Option Value} {B newId initId : String}
  {ps : List Value} {kw : List (Str × Value)}
theorem kw_new (FB : ExcBaseFacts B newId initId bmB) (hT : ∀ Y : String, bm.contains (.type Y) = bmB.contains (.type Y))
    (hC : h.get? C = some (excClassObj nm q C N bs bm hdct sn sub ab col dd k0 k1 k2 k3 k5 newId)) (room : ps.length ≤ sizeLine)
    (goal : R (.ok (.ret (.ref (h.objs.size + 1)))) ⟨(h.push (excTup ps)).push (excObj C h.objs.size none .none), g, d, t, os⟩) :
    codeAny (model prog w) A (.builtin newId ⟨.ref C :: ps, kw⟩) R ⟨h, g, d, t, os⟩ := by
  have en := FB.ends
  have c1 : (Value.ref C :: bm).contains (.type B) = true := by
    rw [List.contains_cons, hT, FB.hasB, Bool.or_true]
  have c2 : (Value.ref C :: bm).contains (.type "AttributeError") = false := by
    rw [List.contains_cons, hT, FB.noAttr]
    rfl
  have c3 : (Value.ref C :: bm).contains (.type "NameError") = false := by
    rw [List.contains_cons, hT, FB.noName]
    rfl
  refine codeAny_builtinAt FB.entry ?_
  unfold Builtin.«BaseException.__new__»
  refine wpAt_bind ?_
  show wpAt _ _ _ (stack >>= _) _ _ _
  refine wpAt_bind (wpAt_stack fun p below => wpAt_of_wpAny ?_)
  wp_walk
  refine wpAt_of_wpAny ?_
  rw [FB.owner]
  repeat (first
    | with_reducible refine wpAny_madeHere_exc FB.canon hC ?_
    | with_reducible refine wpAny_loadPart_at hC ?_
    | (with_reducible refine wpAny_isSubtype_exc hC ?_
       first | rw [c1] | rw [c2] | rw [c3])
    | wp_step)
  show R _ _
  rw [Heap.size_push]
  exact goal
theorem kw_tcall (FB : ExcBaseFacts B newId initId bmB) (hT : ∀ Y : String, bm.contains (.type Y) = bmB.contains (.type Y)) {fI : Addr} {Q : Fin → Shared → Prop}
    (hC : h.get? C = some (excClassObj nm q C N bs bm hdct sn sub ab col dd k0 k1 k2 k3 k5 newId))
    (hi : Looks (model prog w) h (typeLookup (.ref C) "__init__") (some (.ref fI))) (bnd : ∀ self, Looks (model prog w) h (bindSpecial (.ref fI) self) (.ref fI, [self])) (room : ps.length ≤ sizeLine)
    (goal : codeAny (model prog w) A (.call (.ref fI) ⟨.ref (h.objs.size + 1) :: ps, kw⟩)
      (fun r s' => match r with | .ok (.ret v) => v = .none ∧ Q (.done (.ret (.ref (h.objs.size + 1)))) s' | .ok _ => False | .error e => E e s')
      ⟨(h.push (excTup ps)).push (excObj C h.objs.size none .none), g, d, t, os⟩) :
    wpAny (model prog w) A (Builtin.«type.__call__» ⟨.ref C :: ps, kw⟩) Q E ⟨h, g, d, t, os⟩ := by
  unfold Builtin.«type.__call__»
  repeat (first
    | with_reducible refine wpAny_loadPart_at hC ?_
    | with_reducible refine wpAny_madeBy_exc hC ?_
    | wp_step)
  refine codeAny_call_builtin_code (Code.quiet_builtin _ FB.quiet) (kw_check FB hT hC ?_)
  refine kw_new FB hT hC room ?_
  show wpAny _ _ _ _ _ _
  have up : ∀ b o, h.get? b = some o → ((h.push (excTup ps)).push (excObj C h.objs.size none .none)).get? b = some o := fun b o e => Heap.get?_push_of_some _ (Heap.get?_push_of_some _ e)
  have hC2 := up _ _ hC
  have there : ((h.push (excTup ps)).push (excObj C h.objs.size none .none)).get? (h.objs.size + 1) = some (excObj C h.objs.size none .none) := by heap_get
  have self : (Value.ref C :: bm).contains (.ref C) = true := by simp
  have i1 := hi.keeps up
  have b1 := (bnd (.ref (h.objs.size + 1))).keeps up
  unfold isInstance
  repeat (first
    | with_reducible refine wpAny_loadPart_at there ?_
    | (with_reducible refine wpAny_isSubtype_exc hC2 ?_
       rw [self])
    | wp_step)
  show wpAny _ _ (typeLookup (.ref C) _) _ _ _
  refine i1.at ?_
  refine wpAny_holding (wpAny_bind (b1.at ?_))
  refine wpAny_bind (wpAny_call (codeAny_mono goal fun r s' z => ?_))
  rcases r with e | (v | _ | _ | _) <;> first | exact z | exact z.elim | skip
  obtain ⟨rfl, z⟩ := z
  first
    | exact wpAny_pure (wpAny_pure z)
    | (wp_walk; exact z)
theorem kw_call (FB : ExcBaseFacts B newId initId bmB) (hT : ∀ Y : String, bm.contains (.type Y) = bmB.contains (.type Y)) {fI : Addr}
    (hC : h.get? C = some (excClassObj nm q C N bs bm hdct sn sub ab col dd k0 k1 k2 k3 k5 newId))
    (hi : Looks (model prog w) h (typeLookup (.ref C) "__init__") (some (.ref fI))) (bnd : ∀ self, Looks (model prog w) h (bindSpecial (.ref fI) self) (.ref fI, [self])) (room : ps.length ≤ sizeLine)
    (goal : codeAny (model prog w) (A.under (.builtin "type.__call__" ⟨.ref C :: ps, kw⟩)) (.call (.ref fI) ⟨.ref (h.objs.size + 1) :: ps, kw⟩) (InitBack (h.objs.size + 1) R)
      ⟨(h.push (excTup ps)).push (excObj C h.objs.size none .none), g, d, t, os⟩) :
    codeAny (model prog w) A (.call (.ref C) ⟨ps, kw⟩) R ⟨h, g, d, t, os⟩ := by
  have f1 := tc_lookup
  have f2 := tc_bind (.ref C)
  have ty : (⟨h, g, d, t, os⟩ : Shared).TypeIs (.ref C) "type" := ⟨_, hC, rfl⟩
  have typ : Looks (model prog w) h (isInstance (.ref C) (.type "type")) true := by
    refine Looks.andThen (a := .type "type") ((Looks.ld (part := none) hC).andThen .now) ?_
    exact fun A' Q' E' s' k q => wpAny_of_eq (by rw [isSubtype_type]; kernel_rfl) q
  refine codeAny_of_tree ?_
  show wpAny _ _ (callAny (.ref C) _) _ _ _
  repeat (any_goals (first | assumption | with_reducible refine wpAny_loadPart_at hC ?_ | wp_step))
  refine ⟨rfl, ?_⟩
  refine codeAny_call_builtin_at (Code.quiet_builtin _ (by decide +kernel)) entry_typeCall (check_slot tc_kind tc_split typ (tc_args _ _ _) (kw_tcall FB hT hC hi bnd room ?_))
  refine codeAny_mono goal fun r s' z => ?_
  rcases r with e | (v | _ | _ | _) <;> exact z
end
end K19
end PySem

namespace PySem
namespace K19
open PySem PySem.W PySem.Calls PyProof.Rows PySem.Spec
open Builtin Builtin.ObjectAttr
section
variable {prog : Program} {w : World} {A : Around} {E : Value → Shared → Prop} {h : Heap} {g : Array GenState} {d : Drawn} {t : Nat} {os : OsState}
variable {nm q : Str} {C N : Addr} {bs bm bmB : List Value} {hdct : Bool} {sn : List Str} {sub : List Value} {ab : Bool} {col : Option Bool} {dd : Option Addr} {k0 k1 k2 k3 k5 : Option Value} {B newId i : String}
/-- the bound __init__ of the base, called: the args are laid anew -/
theorem bw_call (FB : ExcBaseFacts B newId i bmB) {u x t0 : Addr} {dv : Option Addr} {c2 : Value} {ps : List Value} {Q : Value → Shared → Prop}
    (hC : h.get? C = some (excClassObj nm q C N bs bm hdct sn sub ab col dd k0 k1 k2 k3 k5 newId)) (hu : h.get? u = some (kxs_mw i x)) (hx : h.get? x = some (excObj C t0 dv c2)) (room : ps.length ≤ sizeLine)
    (goal : ∀ h' t1, (∀ b o, b ≠ x → h.get? b = some o → h'.get? b = some o) → h'.get? x = some (excObj C t1 dv c2) → Q .none ⟨h', g, d, t, os⟩) :
    wpAny (model prog w) A (call (.ref u) ps) Q E ⟨h, g, d, t, os⟩ := by
  refine wpAny_call (codeAny_of_tree ?_)
  show wpAny _ A.in1 (callAny (.ref u) ⟨ps, []⟩) _ _ _
  simp only [callAny]
  refine wpAny_bind (wpAny_load hu ?_)
  have e : (Value.type "method-wrapper" == Value.type "method" || Value.type "method-wrapper" == Value.type "builtin_function_or_method" || Value.type "method-wrapper" == Value.type "method-wrapper") = true := by decide
  simp only [kxs_mw, e, if_true]
  refine KFB.if_so (by decide) ?_
  refine wpAny_bind (check_bound_init FB.toExcCallFacts hC hx rfl ?_)
  refine wpAny_bind (wpAny_pure (wpAny_pure ?_))
  refine ⟨plainId_quiet FB.init.plain _, codeAny_builtin FB.initEntry ?_⟩
  exact exc_init_tree (cls := .ref C) (t0 := t0) (dv := dv) (c2 := c2) (c3 := .none) (b4 := .bool false) hx room fun h' k e' _ => goal h' _ k e'
end
section
variable {prog : Program} {w : World} {A : Around} {E : Value → Shared → Prop} {hp : Heap} {g : Array GenState} {d : Drawn} {t : Nat} {os : OsState} {K : Frag} {B : String} {bmB : List Value} {x C t0 : Addr} {f : Str} {v : Value} {Q : Unit → Shared → Prop}
/-- what an own class must say for its instances' fields to be stored and read -/
structure StC (K : Frag) (C : Addr) (B : String) (bmB : List Value) : Prop where
  SF : StoreFacts B bmB "object.__setattr__" "object"
  ov : excOver K C bmB = true
  sa : findIn K (.ref C) "__setattr__" = some (some (.builtin "object.__setattr__"))
  hd : hasDictIn K C = true
theorem st_new (T : StC K C B bmB) (X : K.In hp) (hx : hp.get? x = some (excObj C t0 none .none)) (no : findIn K (.ref C) f = some none)
    (goal : ∀ h' tk' dx, (∀ b o, b ≠ x → hp.get? b = some o → h'.get? b = some o) → hp.objs.size ≤ dx → dx ≠ x → h'.get? x = some (excObj C t0 (some dx) .none) →
      h'.Ns1 dx (fun y => if y = f then some v else none) → Q () ⟨h', g, d, tk', os⟩) : wpAny (model prog w) A (setAttr (.ref x) f v) Q E ⟨hp, g, d, t, os⟩ := by
  have I : InstAt hp x (excObj C t0 none .none) C none := ⟨hx, rfl, rfl, trivial⟩
  have far : x ≠ hp.objs.size := Nat.ne_of_lt (Heap.lt_size hx)
  have tk : takerIn K C f = some none := by
    unfold takerIn
    rw [no]
    rfl
  obtain ⟨cd, hc, hh⟩ := any_some T.hd
  have hcls : Looks (model prog w) hp (classData C) cd := looks_clsIn X hc
  refine set_plain X I T.sa (osa_openX T.SF X I T.ov tk fun b => ?_)
  obtain ⟨nm, bs, mro, ns, qn, hdd, sn, sb, ab, col, del⟩ := cd
  dsimp only at hh
  subst hh
  show wpAny _ _ (storeInOwnDict (.ref x) (.ref C) (.str f t) f v b) _ _ _
  unfold storeInOwnDict ownDictForStores
  repeat (first
    | with_reducible refine PX.store_in_new ?_ ?_
    | with_reducible refine wpAny_loadPart_at hx ?_
    | with_reducible refine hcls.at ?_
    | wp_step)
  · exact ⟨_, #[], _, (Heap.get?_update_ne _ _ _ _ far.symm).trans (Heap.get?_push_at rfl rfl), rfl, fun e he => absurd he (by simp), fun _ => rfl⟩
  · intro h' tk' hn' hs
    have hx2 : (hp.push { cls := .type "dict", data := .dict #[] }).get? x = some (excObj C t0 none .none) := Heap.get?_push_of_some _ hx
    refine goal h' tk' hp.objs.size (fun b o hb ho => ?_) (Nat.le_refl _) far.symm ?_ hn'
    · have z : b ≠ hp.objs.size := Nat.ne_of_lt (Heap.lt_size ho)
      exact (hs.2 b z).trans ((Heap.get?_update_ne _ _ _ _ hb).trans (Heap.get?_push_of_some _ ho))
    · exact (hs.2 x far).trans (Heap.get?_update_self _ hx2 rfl)
theorem st_old (T : StC K C B bmB) (X : K.In hp) {dx : Addr} {m0 : Str → Option Value} {ns : List Str} (hx : hp.get? x = some (excObj C t0 (some dx) .none)) (hn : hp.Ns1 dx m0) (hw : Within m0 ns) (hz : ns.length ≤ 1000)
    (no : findIn K (.ref C) f = some none)
    (goal : ∀ h' tk', (∀ b o, b ≠ dx → hp.get? b = some o → h'.get? b = some o) → h'.Ns1 dx (fun y => if y = f then some v else m0 y) → Q () ⟨h', g, d, tk', os⟩) :
    wpAny (model prog w) A (setAttr (.ref x) f v) Q E ⟨hp, g, d, t, os⟩ := by
  obtain ⟨oD, esD, epD, hoD, hdD, _⟩ := hn.count hw
  have I : InstAt hp x (excObj C t0 (some dx) .none) C (some oD) := ⟨hx, rfl, rfl, hoD⟩
  have tk : takerIn K C f = some none := by
    unfold takerIn
    rw [no]
    rfl
  obtain ⟨cd, hc, hh⟩ := any_some T.hd
  have hcls : Looks (model prog w) hp (classData C) cd := looks_clsIn X hc
  refine set_plain X I T.sa (osa_openX T.SF X I T.ov tk fun b => ?_)
  obtain ⟨nm, bs, mro, ns', qn, hdd, sn, sb, ab, col, del⟩ := cd
  dsimp only at hh
  subst hh
  show wpAny _ _ (storeInOwnDict (.ref x) (.ref C) (.str f t) f v b) _ _ _
  unfold storeInOwnDict ownDictForStores
  repeat (first
    | with_reducible refine PX.store_in_old hn hw hz ?_
    | with_reducible refine wpAny_loadPart_at hx ?_
    | with_reducible refine hcls.at ?_
    | wp_step)
  intro h' tk' hn' hs
  exact goal h' tk' (fun b o hb ho => (hs.2 b hb).trans ho) hn'
end
end K19
end PySem

namespace PySem
namespace K19
open PySem PySem.W PySem.Calls PyProof.Rows PySem.Spec
/-- what the written part says of the class at C over the built-in B, and of its __init__ at fI -/
structure SupC (prog : Program) (K : Frag) (C fI cc cda : Addr) (B newId i : String) (bmB : List Value) : Prop where
  FB : ExcBaseFacts B newId i bmB
  KF : KxsFacts B i
  q : excInitIn K C bmB newId = true
  code : ∃ (ccl : Value) (cdd : Option Addr) (vs : Array Value) (ccs : Array (Option Value)) (file : Str) (tf : Tok), K.lookup cda = some ⟨ccl, cdd, .fields vs, ccs⟩ ∧ vs[2]? = some (.str file tf) ∧ ((prog.main.file : Str) == file) = true
  cell : ∃ (cl : Value) (cld : Option Addr) (csl : Array (Option Value)), K.lookup cc = some ⟨cl, cld, .cell (some (.ref C)), csl⟩
  own : mroIn K C (.ref C) = some true
  sup : ks_superIn K C C "__init__" = some (some (.builtin i))
  sB : subIn K (.ref C) (.type B) = some true
  op : nsIn K cStatics "thirdparty.any" = some none
  top : (prog.main.scope.names.lookup ("super" : Str)).isSome = false
section
variable {prog : Program} {w : World} {A : Around} {E : Value → Shared → Prop} {h : Heap} {g : Array GenState} {d : Drawn} {t : Nat} {os : OsState} {K : Frag} {C fI cc cda x t0 L : Addr} {B newId i : String} {bmB : List Value} {m mg mb : Str → Option Value}
  {body : List Stmt} {qual : Str} {scope : Scope} {args : List Expr} {us : List Value} {p0 p1 p2 p3 p4 : Pos} {Q : Flow → Shared → Prop} {fo : Obj} {fd : FuncData} {ar : Arg}
theorem sup_step (T : SupC prog K C fI cc cda B newId i bmB) (X : K.In h) (hm : h.Ns L m) (G : h.Ns mainGlobals mg) (nos : mg "super" = none) (Bb : h.Ns builtinsNs mb) (hb : mb "super" = some (.type "super"))
    (hx : h.get? x = some (excObj C t0 none .none)) (hf : h.get? fI = some fo) (hfd : fo.data = .func fd) (hp : (fd.params.posonlyargs ++ fd.params.args).head? = some ar) (har : ar.arg = "self") (hself : m "self" = some (.ref x))
    (hks : scope.names.lookup ("super" : Str) = some .globalImplicit) (hkc : scope.names.lookup ("__class__" : Str) = some .free) (hka : scope.names.lookup ("self" : Str) = some .local) (hk : scope.kind = .function) (room : us.length ≤ sizeLine)
    (hargs : ∀ (u : Addr) (s : Shared) (Q' : Args → Shared → Prop), s.heap.Ns L m → Q' ⟨us, []⟩ s → wpAny (model prog w) A (evalArgs (.ref u) true (backTo p3 (starEach args (ksEnv qual scope L fI (.ref cda) cc))) []) Q' E s)
    (hpl : (backTo p3 (starEach args (ksEnv qual scope L fI (.ref cda) cc))).any (·.1) = false)
    {pl : Sem Bool} (he : eval (.Call (.Attribute (.Call (.Name "super" p0) [] [] p1) "__init__" p2) args [] p3) (ksEnv qual scope L fI (.ref cda) cc) = (do
      let ov ← attributeBase (.Call (.Name "super" p0) [] [] p1) "__init__" (ksEnv qual scope L fI (.ref cda) cc) (eval (.Call (.Name "super" p0) [] [] p1) (ksEnv qual scope L fI (.ref cda) cc))
      standAt p2.atName
      let (f, first) ← holding [ov] (getMethod ov "__init__" pl)
      callWith p3 f first (backTo p3 (starEach args (ksEnv qual scope L fI (.ref cda) cc))) []))
    (goal : ∀ h' tk' t1, (∀ b o, b ≠ x → h.get? b = some o → h'.get? b = some o) → h'.get? x = some (excObj C t1 none .none) → Q .next ⟨h', g, d, tk', os⟩) :
    PySem.wpAt (model prog w) A (.func body (ksEnv qual scope L fI (.ref cda) cc)) (exec (.Expr (.Call (.Attribute (.Call (.Name "super" p0) [] [] p1) "__init__" p2) args [] p3) p4) (ksEnv qual scope L fI (.ref cda) cc)) Q E ⟨h, g, d, t, os⟩ := by
  obtain ⟨nm, N', qn, bs, bm, hdct, sn, sub, ab, col, dd, k0, k1, k2, k3, k5, hC, hT⟩ := excInit_of X T.q
  obtain ⟨ccl, cdd, vs, ccs, file, tf, hcode, hvs, hfile⟩ := T.code
  obtain ⟨cl, cld, csl, hcell⟩ := T.cell
  have I : InstAt h x (excObj C t0 none .none) C none := ⟨hx, rfl, rfl, trivial⟩
  have hi : interactive (ksEnv qual scope L fI (.ref cda) cc) = false := by
    simp [interactive, hk]
  refine ks_wpAt_Expr_any ?_ hi
  refine ks_wpAt_MethodCall ?_ he
  refine ks_wpAt_super_base (env := ksEnv qual scope L fI (.ref cda) cc) hks hkc (by decide) rfl hf hfd hp rfl (X _ _ hcode) rfl hvs hfile T.top ?_
  refine ks_loadName_global hk hks (loadGlobal_builtin (env := ksEnv qual scope L fI (.ref cda) cc) G nos Bb hb ⟨rfl, ?_⟩)
  refine wpAny_loadName_free hk hkc rfl ⟨_, X _ _ hcell, rfl⟩ ?_
  rw [har]
  refine wpAny_loadName_local hk hka hm hself ?_
  refine ks_wpAny_isType_cls hC rfl ⟨rfl, ?_⟩
  refine ks_wpAny_call_super hC rfl hx rfl (fun c e => by cases e) (looks_mroIn X T.own) (fun h1 hso k1 => ?_)
  have X1 : K.In h1 := X.keeps k1
  have I1 : InstAt h1 x (excObj C t0 none .none) C none := ⟨k1 _ _ hx, rfl, rfl, trivial⟩
  have hI : Looks (model prog w) h1 (isInstance (.ref x) (.type B)) true := I1.type.andThen (looks_subIn X1 T.sB)
  cases hc : clsIn K C with
  | none =>
    have z := T.sup
    unfold ks_superIn at z
    rw [hc] at z
    cases z
  | some cd =>
    have z := T.sup
    unfold ks_superIn at z
    rw [hc] at z
    refine kxs_getMethod T.KF hso (looks_opaque X1 T.op) (l₀ := cd.mro) ?_ rfl X1 z hI (ks_ne X I hc) (by decide) ?_
    · exact fun A Q E s k q => wpAny_bind ((looks_clsIn X1 hc) A _ E s k (wpAny_pure q))
    have k2 : ∀ b o, h1.get? b = some o → (h1.push (kxs_mw i x)).get? b = some o := fun b o e => Heap.get?_push_of_some _ e
    have hu : (h1.push (kxs_mw i x)).get? h1.objs.size = some (kxs_mw i x) := Heap.get?_push_at rfl rfl
    refine kxs_callWith (i := i) (x := x) hpl (hargs _ _ _ (hm.keeps fun b o e => k2 _ _ (k1 _ _ e)) ⟨hu, ?_⟩)
    refine bw_call T.FB (k2 _ _ (k1 _ _ hC)) hu (k2 _ _ (k1 _ _ hx)) room fun h' t1 k3 e' => ?_
    exact goal h' _ t1 (fun b o hb e => k3 b o hb (k2 _ _ (k1 _ _ e))) e'
end
end K19
end PySem

namespace PySem
namespace K19
open PySem PySem.W PySem.Calls PyProof.Rows PySem.Spec
/-- the words of such an __init__: its names, its parameters (self first) -/
structure IniS (scope : Scope) (ps : List Str) : Prop where
  sup : scope.names.lookup ("super" : Str) = some .globalImplicit
  cls : scope.names.lookup ("__class__" : Str) = some .free
  loc : ∀ p ∈ ps, scope.names.lookup p = some .local
  nocell : ∀ x ∈ scope.names, x.2 ≠ .cell
  co : scope.isCoroutine = false
  gen : scope.isGenerator = false
  kind : scope.kind = .function
/-- super().__init__(..) as a call of a method -/
def SupEq (env : Env) (p0 p1 p2 p3 : Pos) (as : List Expr) : Prop := ∃ pl : Sem Bool, eval (.Call (.Attribute (.Call (.Name "super" p0) [] [] p1) "__init__" p2) as [] p3) env = (do
      let ov ← attributeBase (.Call (.Name "super" p0) [] [] p1) "__init__" env (eval (.Call (.Name "super" p0) [] [] p1) env)
      standAt p2.atName
      let (f, first) ← holding [ov] (getMethod ov "__init__" pl)
      callWith p3 f first (backTo p3 (starEach as env)) [])
section
variable {prog : Program} {w : World} {A : Around} {E : Value → Shared → Prop} {R : Result → Shared → Prop} {h : Heap} {g : Array GenState} {d : Drawn} {t : Nat} {os : OsState} {K : Frag} {C fI cc cda x t0 : Addr} {B newId i : String} {bmB : List Value} {mg mb : Str → Option Value}
  {qual : Str} {params : Arguments} {scope : Scope} {dV kV doc pm ct oc : Value} {an od : Option Addr} {osl : Array (Option Value)} {args : Args} {p0 p1 p2 p3 p4 q0 q1 q2 q3 q4 q5 r1 r2 r3 r4 r5 : Pos} {ar : Arg} {f f2 : Str} {v v2 : Value}
abbrev supE (p0 p1 p2 p3 p4 : Pos) (as : List Expr) : Stmt := .Expr (.Call (.Attribute (.Call (.Name "super" p0) [] [] p1) "__init__" p2) as [] p3) p4
abbrev putE (f : Str) (q1 q2 q3 q4 : Pos) : Stmt := .Assign [.Attribute (.Name "self" q1) f q2] (.Name f q3) q4
theorem ini0 (T : SupC prog K C fI cc cda B newId i bmB) (S : IniS scope ["self"]) (X : K.In h) (lim : h.NoLimit) (G : h.Ns mainGlobals mg) (nos : mg "super" = none) (Bb : h.Ns builtinsNs mb) (hb : mb "super" = some (.type "super"))
    (hx : h.get? x = some (excObj C t0 none .none)) (nx : K.lookup x = none) (room : A.depth < recursionLimit)
    (lk : K.lookup fI = some ⟨oc, od, .func (ksFn "__init__" qual params [supE p0 p1 p2 p3 p4 []] scope dV kV doc pm an (.ref cda) ct cc), osl⟩) (hcd : codeIn K (.ref cda) qual = true)
    (hp : (params.posonlyargs ++ params.args).head? = some ar) (har : ar.arg = "self") (he : ∀ L, SupEq (ksEnv qual scope L fI (.ref cda) cc) p0 p1 p2 p3 [])
    (bnd : BindsTo ⟨h, g, d, t, os⟩ (ksFn "__init__" qual params [supE p0 p1 p2 p3 p4 []] scope dV kV doc pm an (.ref cda) ct cc) args [("self", .ref x)])
    (goal : ∀ h' tk' t1, (∀ b o, b ≠ x → h.get? b = some o → h'.get? b = some o) → h'.get? x = some (excObj C t1 none .none) → R (.ok (.ret .none)) ⟨h', g, d, tk', os⟩) :
    codeAny (model prog w) A (.call (.ref fI) args) R ⟨h, g, d, t, os⟩ := by
  refine ks_codeAny_call_defAt room (X _ _ lk) rfl lim (codeRec_of X hcd) rfl bnd S.nocell (fun y hy => ?_) (fun h0 hn k0 => ?_) S.co S.gen S.kind
  · rw [List.mem_singleton.mp hy]
    exact S.loc _ (by simp)
  show PySem.wpAt (model prog w) (A.deeper (ksEnv qual scope h.objs.size fI (.ref cda) cc)) (.func [supE p0 p1 p2 p3 p4 []] (ksEnv qual scope h.objs.size fI (.ref cda) cc)) (execs _ (ksEnv qual scope h.objs.size fI (.ref cda) cc)) _ _ _
  refine ks_wpAt_execs_cons ?_
  have X0 := X.keeps k0
  have up := fun b o (e : h.get? b = some o) => k0 b o e
  obtain ⟨pl, he⟩ := he h.objs.size
  refine sup_step (us := []) (pl := pl) T X0 hn (G.keeps up) nos (Bb.keeps up) hb (k0 _ _ hx) (k0 _ _ (X _ _ lk)) rfl hp har rfl S.sup S.cls (S.loc _ (by simp)) S.kind (Nat.zero_le _) (fun u s Q' hs q => evalArgs_empty q) rfl he fun h' tk' t1 k e => ?_
  exact wpAt_of_wpAny (wpAny_execs_nil (goal h' _ t1 (fun b o hb z => k b o hb (k0 _ _ z)) e))
theorem ini1 (T : SupC prog K C fI cc cda B newId i bmB) (U : StC K C B bmB) (S : IniS scope ["self", f]) (sf : ("self" : Str) ≠ f) (X : K.In h) (lim : h.NoLimit) (G : h.Ns mainGlobals mg) (nos : mg "super" = none) (Bb : h.Ns builtinsNs mb) (hb : mb "super" = some (.type "super"))
    (hx : h.get? x = some (excObj C t0 none .none)) (nx : K.lookup x = none) (room : A.depth < recursionLimit) (no : findIn K (.ref C) f = some none) (db : (f == ("__debug__" : Str)) = false)
    (lk : K.lookup fI = some ⟨oc, od, .func (ksFn "__init__" qual params [supE p0 p1 p2 p3 p4 [.Name f q0], putE f q1 q2 q3 q4] scope dV kV doc pm an (.ref cda) ct cc), osl⟩) (hcd : codeIn K (.ref cda) qual = true)
    (hp : (params.posonlyargs ++ params.args).head? = some ar) (har : ar.arg = "self") (he : ∀ L, SupEq (ksEnv qual scope L fI (.ref cda) cc) p0 p1 p2 p3 [.Name f q0])
    (bnd : BindsTo ⟨h, g, d, t, os⟩ (ksFn "__init__" qual params [supE p0 p1 p2 p3 p4 [.Name f q0], putE f q1 q2 q3 q4] scope dV kV doc pm an (.ref cda) ct cc) args [("self", .ref x), (f, v)])
    (goal : ∀ h' tk' t1 dx, (∀ b o, b ≠ x → h.get? b = some o → h'.get? b = some o) → h.objs.size ≤ dx → dx ≠ x → h'.get? x = some (excObj C t1 (some dx) .none) →
      h'.Ns1 dx (fun y => if y = f then some v else none) → R (.ok (.ret .none)) ⟨h', g, d, tk', os⟩) :
    codeAny (model prog w) A (.call (.ref fI) args) R ⟨h, g, d, t, os⟩ := by
  refine ks_codeAny_call_defAt room (X _ _ lk) rfl lim (codeRec_of X hcd) rfl bnd S.nocell (fun y hy => ?_) (fun h0 hn k0 => ?_) S.co S.gen S.kind
  · rcases List.mem_cons.mp hy with rfl | hy
    · exact S.loc _ (by simp)
    · rw [List.mem_singleton.mp hy]
      exact S.loc _ (by simp)
  show PySem.wpAt (model prog w) (A.deeper (ksEnv qual scope h.objs.size fI (.ref cda) cc)) (.func [supE p0 p1 p2 p3 p4 [.Name f q0], putE f q1 q2 q3 q4] (ksEnv qual scope h.objs.size fI (.ref cda) cc)) (execs _ (ksEnv qual scope h.objs.size fI (.ref cda) cc)) _ _ _
  refine ks_wpAt_execs_cons ?_
  have X0 := X.keeps k0
  have far : h.objs.size ≠ x := Nat.ne_of_gt (Heap.lt_size hx)
  have mself : (fun y => ([("self", Value.ref x), (f, v)] : List (Str × Value)).reverse.lookup y) "self" = some (Value.ref x) := by
    have e : (("self" : Str) == f) = false := by simpa using sf
    simp [List.lookup, e]
  have mf : (fun y => ([("self", Value.ref x), (f, v)] : List (Str × Value)).reverse.lookup y) f = some v := by
    simp [List.lookup]
  obtain ⟨pl, he⟩ := he h.objs.size
  refine sup_step (us := [v]) (pl := pl) T X0 hn (G.keeps fun b o e => k0 b o e) nos (Bb.keeps fun b o e => k0 b o e) hb (k0 _ _ hx) (k0 _ _ (X _ _ lk)) rfl hp har mself S.sup S.cls (S.loc _ (by simp)) S.kind (by rw [sizeLine_eq]; exact (by decide : 1 ≤ 16777216)) (fun u s Q' hs q => ?_) rfl he fun h1 tk1 t1 k1 e1 => ?_
  · refine evalArgs_plain (x := eval (.Name f q0) (ksEnv qual scope h.objs.size fI (.ref cda) cc)) (rest := []) (spliced_cons ?_)
    exact ESX.ldL hs mf (spliced_nil q) S.kind (S.loc _ (by simp)) db
  have k01 : ∀ b o, b ≠ x → h.get? b = some o → h1.get? b = some o := fun b o hb z => k1 b o hb (k0 _ _ z)
  have hn1 : h1.Ns h.objs.size (fun y => ([("self", Value.ref x), (f, v)] : List (Str × Value)).reverse.lookup y) := by
    obtain ⟨o, es, ep, ho, r⟩ := hn
    exact ⟨o, es, ep, k1 _ _ far ho, r⟩
  have X1 : K.In h1 := fun b o z => k01 b o (fun y => by rw [y, nx] at z; cases z) (X _ _ z)
  show PySem.wpAt _ _ _ (execs _ _) _ _ _
  refine ks_wpAt_execs_cons (ks_wpAt_Assign_Attr (wpAt_of_wpAny ?_))
  refine ESX.ldL hn1 mf (ESX.ldL hn1 mself ?_ S.kind (S.loc _ (by simp))) S.kind (S.loc _ (by simp)) db
  refine st_new U X1 e1 no fun h2 tk2 dx k2 far2 ne2 e2 hn2 => ?_
  exact wpAt_of_wpAny (wpAny_execs_nil (goal h2 _ t1 dx (fun b o hb z => k2 b o hb (k01 b o hb z)) (Nat.le_trans (Nat.le_of_lt hn1.lt) far2) ne2 e2 hn2))
theorem ini2 (T : SupC prog K C fI cc cda B newId i bmB) (U : StC K C B bmB) (S : IniS scope ["self", f, f2]) (sf : ("self" : Str) ≠ f) (sf2 : ("self" : Str) ≠ f2) (ff : f ≠ f2) (X : K.In h) (lim : h.NoLimit) (G : h.Ns mainGlobals mg) (nos : mg "super" = none) (Bb : h.Ns builtinsNs mb) (hb : mb "super" = some (.type "super"))
    (hx : h.get? x = some (excObj C t0 none .none)) (nx : K.lookup x = none) (room : A.depth < recursionLimit) (no : findIn K (.ref C) f = some none) (db : (f == ("__debug__" : Str)) = false) (no2 : findIn K (.ref C) f2 = some none) (db2 : (f2 == ("__debug__" : Str)) = false)
    (lk : K.lookup fI = some ⟨oc, od, .func (ksFn "__init__" qual params [supE p0 p1 p2 p3 p4 [.Name f q0, .Name f2 q5], putE f q1 q2 q3 q4, putE f2 r1 r2 r3 r4] scope dV kV doc pm an (.ref cda) ct cc), osl⟩) (hcd : codeIn K (.ref cda) qual = true)
    (hp : (params.posonlyargs ++ params.args).head? = some ar) (har : ar.arg = "self") (he : ∀ L, SupEq (ksEnv qual scope L fI (.ref cda) cc) p0 p1 p2 p3 [.Name f q0, .Name f2 q5])
    (bnd : BindsTo ⟨h, g, d, t, os⟩ (ksFn "__init__" qual params [supE p0 p1 p2 p3 p4 [.Name f q0, .Name f2 q5], putE f q1 q2 q3 q4, putE f2 r1 r2 r3 r4] scope dV kV doc pm an (.ref cda) ct cc) args [("self", .ref x), (f, v), (f2, v2)])
    (goal : ∀ h' tk' t1 dx, (∀ b o, b ≠ x → h.get? b = some o → h'.get? b = some o) → h.objs.size ≤ dx → dx ≠ x → h'.get? x = some (excObj C t1 (some dx) .none) →
      h'.Ns1 dx (fun y => if y = f2 then some v2 else if y = f then some v else none) → R (.ok (.ret .none)) ⟨h', g, d, tk', os⟩) :
    codeAny (model prog w) A (.call (.ref fI) args) R ⟨h, g, d, t, os⟩ := by
  have inl : ∀ p ∈ (["self", f, f2] : List Str), scope.names.lookup p = some .local := S.loc
  have lself := inl "self" (by simp)
  have lf := inl f (by simp)
  have lf2 := inl f2 (by simp)
  refine ks_codeAny_call_defAt room (X _ _ lk) rfl lim (codeRec_of X hcd) rfl bnd S.nocell (fun y hy => ?_) (fun h0 hn k0 => ?_) S.co S.gen S.kind
  · rcases List.mem_cons.mp hy with rfl | hy
    · exact lself
    · rcases List.mem_cons.mp hy with rfl | hy
      · exact lf
      · rw [List.mem_singleton.mp hy]
        exact lf2
  show PySem.wpAt (model prog w) (A.deeper (ksEnv qual scope h.objs.size fI (.ref cda) cc)) (.func [supE p0 p1 p2 p3 p4 [.Name f q0, .Name f2 q5], putE f q1 q2 q3 q4, putE f2 r1 r2 r3 r4] (ksEnv qual scope h.objs.size fI (.ref cda) cc)) (execs _ (ksEnv qual scope h.objs.size fI (.ref cda) cc)) _ _ _
  refine ks_wpAt_execs_cons ?_
  have X0 := X.keeps k0
  have far : h.objs.size ≠ x := Nat.ne_of_gt (Heap.lt_size hx)
  have e1 : (("self" : Str) == f) = false := by simpa using sf
  have e2 : (("self" : Str) == f2) = false := by simpa using sf2
  have e3 : (f == f2) = false := by simpa using ff
  have mself : (fun y => ([("self", Value.ref x), (f, v), (f2, v2)] : List (Str × Value)).reverse.lookup y) "self" = some (Value.ref x) := by
    simp [List.lookup, e1, e2]
  have mf : (fun y => ([("self", Value.ref x), (f, v), (f2, v2)] : List (Str × Value)).reverse.lookup y) f = some v := by
    simp [List.lookup, e3]
  have mf2 : (fun y => ([("self", Value.ref x), (f, v), (f2, v2)] : List (Str × Value)).reverse.lookup y) f2 = some v2 := by
    simp [List.lookup]
  obtain ⟨pl, he⟩ := he h.objs.size
  refine sup_step (us := [v, v2]) (pl := pl) T X0 hn (G.keeps fun b o e => k0 b o e) nos (Bb.keeps fun b o e => k0 b o e) hb (k0 _ _ hx) (k0 _ _ (X _ _ lk)) rfl hp har mself S.sup S.cls lself S.kind (by rw [sizeLine_eq]; exact (by decide : 2 ≤ 16777216)) (fun u s Q' hs q => ?_) rfl he fun h1 tk1 t1 k1 o1 => ?_
  · refine evalArgs_plain (x := eval (.Name f q0) (ksEnv qual scope h.objs.size fI (.ref cda) cc)) (rest := [(false, eval (.Name f2 q5) (ksEnv qual scope h.objs.size fI (.ref cda) cc))]) (spliced_cons ?_)
    exact ESX.ldL hs mf (spliced_cons (ESX.ldL hs mf2 (spliced_nil q) S.kind lf2 db2)) S.kind lf db
  have k01 : ∀ b o, b ≠ x → h.get? b = some o → h1.get? b = some o := fun b o hb z => k1 b o hb (k0 _ _ z)
  have hn1 : h1.Ns h.objs.size (fun y => ([("self", Value.ref x), (f, v), (f2, v2)] : List (Str × Value)).reverse.lookup y) := by
    obtain ⟨o, es, ep, ho, r⟩ := hn
    exact ⟨o, es, ep, k1 _ _ far ho, r⟩
  have X1 : K.In h1 := fun b o z => k01 b o (fun y => by rw [y, nx] at z; cases z) (X _ _ z)
  show PySem.wpAt _ _ _ (execs _ _) _ _ _
  refine ks_wpAt_execs_cons (ks_wpAt_Assign_Attr (wpAt_of_wpAny ?_))
  refine ESX.ldL hn1 mf (ESX.ldL hn1 mself ?_ S.kind lself) S.kind lf db
  refine st_new U X1 o1 no fun h2 tk2 dx k2 far2 ne2 o2 hn2 => ?_
  have big : h.objs.size ≤ dx := Nat.le_trans (Nat.le_of_lt hn1.lt) far2
  have hdx : ∃ o, h2.get? dx = some o := by
    obtain ⟨o, _, _, z, _⟩ := hn2
    exact ⟨o, z⟩
  have hn3 : h2.Ns h.objs.size (fun y => ([("self", Value.ref x), (f, v), (f2, v2)] : List (Str × Value)).reverse.lookup y) := by
    obtain ⟨o, es, ep, ho, r⟩ := hn1
    exact ⟨o, es, ep, k2 _ _ far ho, r⟩
  have X2 : K.In h2 := fun b o z => k2 b o (fun y => by rw [y, nx] at z; cases z) (X1 _ _ z)
  show PySem.wpAt _ _ _ (execs _ _) _ _ _
  refine ks_wpAt_execs_cons (ks_wpAt_Assign_Attr (wpAt_of_wpAny ?_))
  refine ESX.ldL hn3 mf2 (ESX.ldL hn3 mself ?_ S.kind lself) S.kind lf2 db2
  refine st_old U X2 o2 hn2 (Within.cons f v Within.nil) (show 1 ≤ 1000 by decide) no2 fun h3 tk3 k3 hn4 => ?_
  have lowx : h.get? x = some (excObj C t0 none .none) := hx
  exact wpAt_of_wpAny (wpAny_execs_nil (goal h3 _ t1 dx (fun b o hb z => k3 b o (fun y => by
      have q := Heap.lt_size z
      rw [y] at q
      exact absurd (Nat.lt_of_lt_of_le q big) (Nat.lt_irrefl _)) (k2 b o hb (k01 b o hb z))) big ne2 (k3 _ _ (Ne.symm ne2) o2) hn4))
end
end K19
end PySem

namespace L2
open PySem PySem.Spec PyProof.Rows
/-! ### an exception object as a value -/
/-- the call of C with us and kw makes an exception with these fields -/
def MakesX (P : Program) (w : World) (K : PySem.W.Frag) (mg : Str → Option Value) (C : Addr) (us : List Value) (kw : List (Str × Value)) (l : List (Str × Value)) : Prop :=
  ∀ (A : Around) (R : Result → Shared → Prop) (h : Heap) (g : Array GenState) (d : Drawn) (t : Nat) (os : OsState) (mb : Str → Option Value), K.In h → h.NoLimit → h.Ns mainGlobals mg → h.Ns builtinsNs mb → mb "super" = some (.type "super") → A.depth + 1 < recursionLimit →
    (∀ h' t' e t1 dv, (∀ b o, h.get? b = some o → h'.get? b = some o) → h.objs.size ≤ e → h'.get? e = some (PySem.W.excObj C t1 dv .none) →
      (match dv with | none => l = [] | some dx => h.objs.size ≤ dx ∧ dx ≠ e ∧ h'.Ns1 dx (fun y => l.lookup y)) → R (.ok (.ret (.ref e))) ⟨h', g, d, t', os⟩) →
    codeAny (model P w) A (.call (.ref C) ⟨us, kw⟩) R ⟨h, g, d, t, os⟩
/-- at a: an exception of the class at C with these fields -/
def ErrAt (H : Hp) (a C : Addr) (fs : List (Str × V)) : Prop := ∃ dv, H a = some (exo a C dv) ∧ match dv with
  | none => fs = []
  | some dx => H dx = some (exd dx fs)
theorem ErrAt.ext {H H' : Hp} {a C : Addr} {fs : List (Str × V)} (h : ErrAt H a C fs) (e : ∀ b o, H b = some o → H' b = some o) : ErrAt H' a C fs := by
  obtain ⟨dv, h1, h2⟩ := h
  refine ⟨dv, e _ _ h1, ?_⟩
  cases dv with
  | none => exact h2
  | some dx => exact e _ _ h2
section
variable {X : Cx} {pins : List (Addr × Obj)} {σ : St} {H : Hp} {s : Shared} {Q : VK}
theorem Inv.blt0 (I : Inv X pins σ H s) : ∃ mb, s.heap.Ns builtinsNs mb ∧ mb "super" = some (.type "super") := by
  obtain ⟨mb, h1, h2⟩ := I.mod.blt
  exact ⟨mb, h1.keeps I.bk, (h2 "super" (by decide)).trans PyProof.Rows.Boot.super⟩
/-- two new objects, tracked -/
theorem Inv.laid2 {h' : Heap} {e dx : Addr} {oe od : HO} {t' : Nat} (I : Inv X pins σ H s) (k : ∀ b u, s.heap.get? b = some u → h'.get? b = some u) (he : s.heap.objs.size ≤ e) (hd : s.heap.objs.size ≤ dx) (ne : dx ≠ e)
    (n1 : ObjOk X.prog X.w (upd (upd H dx od) e oe) h' e oe) (n2 : ObjOk X.prog X.w (upd (upd H dx od) e oe) h' dx od) : Inv X pins σ (upd (upd H dx od) e oe) { s with heap := h', toks := t' } := by
  have fe : H e = none := I.hok.fresh he
  have fd : H dx = none := I.hok.fresh hd
  have old : ∀ {b : Addr} {u : Obj}, s.heap.get? b = some u → b ≠ e ∧ b ≠ dx := fun q => ⟨Nat.ne_of_lt (Nat.lt_of_lt_of_le (Heap.lt_size q) he), Nat.ne_of_lt (Nat.lt_of_lt_of_le (Heap.lt_size q) hd)⟩
  have same : ∀ {b : Addr} {o : HO}, H b = some o → upd (upd H dx od) e oe b = some o := fun {b o} q => by
    rw [upd_ne (ne_of_none q fe), upd_ne (ne_of_none q fd)]
    exact q
  have U : Un X.fs [] H (upd (upd H dx od) e oe) s.heap h' := {
    keep := fun b u q _ _ _ => k b u q
    slot := fun b u q _ _ _ => ⟨u.slots, k b u q⟩
    free := fun b u q n _ => by
      rw [upd_ne (old q).1, upd_ne (old q).2]
      exact n
    there := fun b u q _ => ⟨u, k b u q⟩
    tups := fun b xs q => same q
    frzs := fun b u xs q => same q
    tbls := fun b ps q => ⟨#[], by rw [same q]; simp⟩ }
  refine I.un (t' := t') U fun b o q => ?_
  by_cases hb : b = e
  · subst hb
    rw [upd_same] at q
    cases q
    exact n1
  · rw [upd_ne hb] at q
    by_cases hbd : b = dx
    · subst hbd
      rw [upd_same] at q
      cases q
      exact n2
    · rw [upd_ne hbd] at q
      exact (I.hok b o q).stay (fun c v _ z => k c v z) (fun c z => same z) fun c xs z => same z
/-- the reading: a new exception of the class at C -/
def tErr (C : Addr) (ns : List V → List (Str × V)) (t : TA) : TE := fun σ H Q => t σ H fun vs H1 => ∀ a H2, (∀ b o, H1 b = some o → H2 b = some o) → ErrAt H2 a C (ns vs) → Q (.ref a) H2
theorem run_err {C : Addr} {us : List Value} {kw : List (Str × Value)} {l : List (Str × Value)} {fs : List (Str × V)} (M : MakesX X.prog X.w X.K X.mg C us kw l) (room : X.A.depth + 1 < recursionLimit) (rel : ∀ f, RelO (fs.lookup f) (l.lookup f)) (nl : l = [] → fs = [])
    (I : Inv X pins σ H s) (h : ∀ a H2, (∀ b o, H b = some o → H2 b = some o) → ErrAt H2 a C fs → Q (.ref a) H2) : wpAny (model X.prog X.w) X.A (call (.ref C) us kw) (EP X pins σ Q) X.xe s := by
  obtain ⟨mb, hb, hsu⟩ := I.blt0
  have lim := I.nolimit
  have G : s.heap.Ns mainGlobals X.mg := I.mod.glob.keeps I.bk
  have KI := I.kIn
  obtain ⟨hp, g, dr, tk, os⟩ := s
  refine wpAny_call (M X.A _ hp g dr tk os mb KI lim G hb hsu room fun h' t' e t1 dv k he oe hd => ?_)
  have fe : H e = none := I.hok.fresh he
  cases dv with
  | none =>
    have hl : l = [] := hd
    have J := I.laid (t' := t') (a := e) (o := exo e C none) (h' := h') k he (exo_ok oe)
    exact ⟨.ref e, _, J, rfl, h e _ (fun b o q => by rw [upd_ne (ne_of_none q fe)]; exact q) ⟨none, upd_same, nl hl⟩⟩
  | some dx =>
    obtain ⟨hdx, ne, hn⟩ := hd
    have fd : H dx = none := I.hok.fresh hdx
    have J := I.laid2 (t' := t') (e := e) (dx := dx) (oe := exo e C (some dx)) (od := exd dx fs) (h' := h') k he hdx ne (exo_ok oe) (exd_ok hn rel)
    refine ⟨.ref e, _, J, rfl, h e _ (fun b o q => ?_) ⟨some dx, upd_same, ?_⟩⟩
    · rw [upd_ne (ne_of_none q fe), upd_ne (ne_of_none q fd)]
      exact q
    · show upd (upd H dx (exd dx fs)) e (exo e C (some dx)) dx = some (exd dx fs)
      rw [upd_ne ne, upd_same]
end
section
variable {X : Cx} {C : Addr} {x : Str} {p pos : Pos} {e : Expr} {es : List Expr} {kws : List Keyword} {t tk : TA} {ns : List V → List (Str × V)} {n : Nat}
/-- C() -/
theorem pe_err0 (hk : PySem.W.keepIn X.K (.ref C) = true) (hg : Gl X x) (hm : X.mg x = some (.ref C)) (M : MakesX X.prog X.w X.K X.mg C [] [] []) (hr : Room 1 X.A) (hdb : (x == ("__debug__" : Str)) = false := by decide) :
    PE X (.Call (.Name x p) [] [] pos) (tErr C (fun _ => []) tNil) := by
  refine ⟨fun pins s σ H Q I h => ?_⟩
  refine wpAny_Call_Name_kw (ld_glob I hg hm ?_ hdb)
  exact PySem.W.callWith_K0 I.kIn hk (run_err (l := []) (fs := []) M (by have := hr.dp; omega) (fun _ => trivial) (fun _ => rfl) I h)
/-- C(e, ..), every argument an attribute -/
theorem pe_err (hk : PySem.W.keepIn X.K (.ref C) = true) (hg : Gl X x) (hm : X.mg x = some (.ref C)) (l : List Value → List (Str × Value)) (nl : ∀ us, us.length = n → l us ≠ [])
    (M : ∀ us, us.length = n → MakesX X.prog X.w X.K X.mg C us [] (l us)) (rel : ∀ vs us, Vals vs us → vs.length = n → ∀ f, RelO ((ns vs).lookup f) ((l us).lookup f)) (hr : Room 1 X.A) (ha : PA X (e :: es) t)
    (hdb : (x == ("__debug__" : Str)) = false := by decide) (he : starEach (e :: es) X.env = (false, eval e X.env) :: starEach es X.env := by rfl) (hpl : (backTo pos (starEach es X.env)).any (·.1) = false := by rfl) :
    PE X (.Call (.Name x p) (e :: es) [] pos) (tErr C ns (fun σ H Q => t σ H fun vs H1 => vs.length = n ∧ Q vs H1)) := by
  refine ⟨fun pins s σ H Q I h => ?_⟩
  refine wpAny_Call_Name_kw (ld_glob I hg hm ?_ hdb)
  refine PySem.W.callWith_K (h₀ := X.base) I.ok.mod.kin hk (thn (ha.run pos pins s σ H _ I h) fun us s1 ⟨vs, H1, I1, r, hl, q⟩ => ⟨I1.kIn, ?_⟩) he hpl
  have hu : us.length = n := r.length.symm.trans hl
  exact run_err (M us hu) (by have := hr.dp; omega) (rel vs us r hl) (fun z => absurd z (nl us hu)) I1 q
/-- C(k = v, ..) -/
theorem pe_errK {ks : List Str} (hk : PySem.W.keepIn X.K (.ref C) = true) (hg : Gl X x) (hm : X.mg x = some (.ref C)) (l : List Value → List (Str × Value)) (nl : ∀ us, us.length = n → l us ≠ [])
    (M : ∀ us, us.length = n → MakesX X.prog X.w X.K X.mg C [] (ks.zip us) (l us)) (rel : ∀ vs us, Vals vs us → vs.length = n → ∀ f, RelO ((ns vs).lookup f) ((l us).lookup f)) (hr : Room 1 X.A) (hkw : PK X kws tk)
    (hall : (backToKw pos (keywordEach kws X.env)).all (·.1.isSome) = true := by rfl) (hks : (backToKw pos (keywordEach kws X.env)).filterMap (·.1) = ks := by rfl) (hdb : (x == ("__debug__" : Str)) = false := by decide)
    (hpl : ((backTo pos (starEach [] X.env)).any (·.1) || (backToKw pos (keywordEach kws X.env)).any (·.1.isNone)) = false := by rfl) :
    PE X (.Call (.Name x p) [] kws pos) (tErr C ns (fun σ H Q => tk σ H fun vs H1 => vs.length = n ∧ Q vs H1)) := by
  refine ⟨fun pins s σ H Q I h => ?_⟩
  refine wpAny_Call_Name_kw (ld_glob I hg hm ?_ hdb)
  refine PySem.W.callWith_KW0 (h₀ := X.base) I.ok.mod.kin hk hall ?_ hpl
  refine thn (hkw.run pos pins s σ H _ I h) fun us s1 ⟨vs, H1, I1, r, hl, q⟩ => ⟨I1.kIn, ?_⟩
  rw [hks]
  have hu : us.length = n := r.length.symm.trans hl
  exact run_err (M us hu) (by have := hr.dp; omega) (rel vs us r hl) (fun z => absurd z (nl us hu)) I1 q
end
/-! ### isinstance of such a value -/
structure IsC (K : PySem.W.Frag) (C : Addr) : Prop where
  cl : (PySem.W.clsIn K C).isSome = true
  ga : PySem.W.findIn K (.ref C) "__getattribute__" = some (some (.builtin "BaseException.__getattribute__"))
  gt : PySem.W.findIn K (.ref C) "__getattr__" = some none
  sb : PySem.W.subIn K (.ref C) (.type "BaseException") = some true
  hd : PySem.W.hasDictIn K C = true
  ca : PySem.W.findIn K (.ref C) "__class__" = some (some (.builtin "object.__class__"))
  sp : PySem.W.specialIn K (.builtin "object.__class__") "__get__" = some (some (.builtin "getset_descriptor.__get__"))
  tk : PySem.W.takesIn K (.builtin "object.__class__") = some true
  mo : PySem.W.mroIn K C (.type "object") = some true
def rIsErr (K : PySem.W.Frag) : List V → Hp → VK → Prop := fun xs H Q => ∃ (a C : Addr) (fs : List (Str × V)) (c : V) (u : Value) (b : Bool), xs = [.ref a, c] ∧ ErrAt H a C fs ∧ IsC K C ∧ ClsV c u ∧ PySem.W.kitOne K (.ref C) u = some b ∧ Q (.bl b) H
section
variable {X : Cx} {pins : List (Addr × Obj)} {σ : St} {H : Hp} {s : Shared} {Q : VK} {a C : Addr} {fs : List (Str × V)}
theorem ErrAt.inst (hok : HOk X.prog X.w H s.heap) (h : ErrAt H a C fs) : ∃ ox od, PySem.W.InstAt s.heap a ox C od ∧ match od with | none => fs = [] | some o => ∃ mA : Str → Option Value, (∀ f, PySem.W.lookIn f o = some (mA f)) ∧ ∀ f, RelO (fs.lookup f) (mA f) := by
  obtain ⟨dv, h1, h2⟩ := h
  obtain ⟨t1, ho⟩ := exo_at hok h1
  cases dv with
  | none => exact ⟨_, none, ⟨ho, rfl, rfl, trivial⟩, h2⟩
  | some dx =>
    obtain ⟨mA, hn, rel⟩ := exd_at hok h2
    obtain ⟨od, hod, hl⟩ := lookIn_ns hn
    exact ⟨_, some od, ⟨ho, rfl, rfl, hod⟩, mA, hl, rel⟩
theorem call_isErr : CallR X (.builtin "isinstance") (rIsErr X.K) := by
  intro pins s σ H xs us Q I r h
  obtain ⟨a, C, fs, c, u, b, rfl, he, T, k, e, q⟩ := h
  obtain ⟨u1, u2, rfl, r1, r2⟩ := vals2 r
  have e2 := k.eq r2
  subst e2
  cases (show u1 = Value.ref a from r1)
  obtain ⟨ox, od, J, _⟩ := he.inst I.hok
  exact PySem.W.kia_one (PySem.W.kitx_exc T.cl T.ga T.gt T.sb T.ca T.sp T.tk T.mo) I.kIn J e (fun z => nomatch z) fun tk => ⟨.bl b, H, I.tok tk, rfl, q⟩
/-- e.f -/
def tErrF (K : PySem.W.Frag) (f : Str) (te : TE) : TE := fun σ H Q => te σ H fun x H1 => ∃ (a C : Addr) (fs : List (Str × V)) (v : V), x = .ref a ∧ ErrAt H1 a C fs ∧ IsC K C ∧ PySem.W.findIn K (.ref C) f = some none ∧ fs.lookup f = some v ∧ Q v H1
theorem pe_errF {e : Expr} {te : TE} {pos : Pos} {n : Str} (he : PE X e te) (hb : attributeBase e n X.env (eval e X.env) = eval e X.env := by rfl) : PE X (.Attribute e n pos) (tErrF X.K n te) := by
  refine ⟨fun pins s σ H Q I h => ?_⟩
  refine attr_of hb (thn (he.run pins s σ H _ I h) fun u s1 hh => ?_)
  obtain ⟨x, H1, I1, rx, a, C, fs, v, ex, ea, T, no, l, q⟩ := hh
  subst ex
  obtain rfl : u = Value.ref a := rx
  obtain ⟨ox, od, J, hd⟩ := ea.inst I1.hok
  cases od with
  | none =>
    have hf : fs = [] := hd
    rw [hf] at l
    cases l
  | some o =>
    obtain ⟨mA, hl, rel⟩ := hd
    obtain ⟨y, hy, ry⟩ := RelO.some_of (v := v) (o := mA n) (by rw [← l]; exact rel n)
    exact PX.exc_get I1.kIn J T.ga T.gt T.sb (PySem.W.findObj_own T.hd no rfl (by rw [hl, hy])) (handed_of ry) ⟨v, H1, I1.tok _, ry, q⟩
end
end L2

namespace PySem
namespace K19
open PySem PySem.W PySem.Calls PyProof.Rows PySem.Spec
structure IniC (K : Frag) (C fI : Addr) : Prop where
  hi : findIn K (.ref C) "__init__" = some (some (.ref fI))
  tI : typeIn K (.ref fI) = some (.type "function")
section
variable {prog : Program} {w : World} {K : Frag} {C fI cc cda : Addr} {B newId i : String} {bmB : List Value} {mg : Str → Option Value}
  {qual : Str} {params : Arguments} {scope : Scope} {dV kV doc pm ct oc : Value} {an od : Option Addr} {osl : Array (Option Value)} {p0 p1 p2 p3 p4 q0 q1 q2 q3 q4 q5 r1 r2 r3 r4 : Pos} {ar : Arg} {f f2 : Str} {v v2 : Value} {us : List Value} {kw : List (Str × Value)}
/-- from the class's call to its __init__ -/
theorem to_ini {A : Around} {R : Result → Shared → Prop} {h : Heap} {g : Array GenState} {d : Drawn} {t : Nat} {os : OsState} (T : SupC prog K C fI cc cda B newId i bmB) (Y : IniC K C fI) (X : K.In h) (room : us.length ≤ 1000)
    (goal : ∀ h1, (∀ b o, h.get? b = some o → h1.get? b = some o) → h1.get? (h.objs.size + 1) = some (excObj C h.objs.size none .none) → h1.objs.size = h.objs.size + 2 → K.lookup (h.objs.size + 1) = none →
      codeAny (model prog w) (A.under (.builtin "type.__call__" ⟨.ref C :: us, kw⟩)) (.call (.ref fI) ⟨.ref (h.objs.size + 1) :: us, kw⟩) (InitBack (h.objs.size + 1) R) ⟨h1, g, d, t, os⟩) :
    codeAny (model prog w) A (.call (.ref C) ⟨us, kw⟩) R ⟨h, g, d, t, os⟩ := by
  obtain ⟨nm, N', qn, bs, bm, hdct, sn, sub, ab, col, dd, k0, k1, k2, k3, k5, hC, hT⟩ := excInit_of X T.q
  have small : us.length ≤ sizeLine := by
    rw [sizeLine_eq]
    omega
  refine kw_call T.FB hT hC (looks_findIn X Y.hi) (fun self => bind_fn X self Y.tI) small (goal _ (fun b o e => Heap.get?_push_of_some _ (Heap.get?_push_of_some _ e)) (by heap_get) (by rw [Heap.size_push, Heap.size_push]) ?_)
  cases e : K.lookup (h.objs.size + 1) with
  | none => rfl
  | some o => exact absurd (Nat.lt_of_succ_lt (Heap.lt_size (X _ _ e))) (Nat.lt_irrefl _)
theorem makes0 (T : SupC prog K C fI cc cda B newId i bmB) (Y : IniC K C fI) (S : IniS scope ["self"]) (nos : mg "super" = none)
    (lk : K.lookup fI = some ⟨oc, od, .func (ksFn "__init__" qual params [supE p0 p1 p2 p3 p4 []] scope dV kV doc pm an (.ref cda) ct cc), osl⟩) (hcd : codeIn K (.ref cda) qual = true)
    (hp : (params.posonlyargs ++ params.args).head? = some ar) (har : ar.arg = "self") (he : ∀ L, SupEq (ksEnv qual scope L fI (.ref cda) cc) p0 p1 p2 p3 [])
    (bnd : ∀ (s : Shared) (x : Addr), BindsTo s (ksFn "__init__" qual params [supE p0 p1 p2 p3 p4 []] scope dV kV doc pm an (.ref cda) ct cc) ⟨.ref x :: us, kw⟩ [("self", .ref x)]) (hu : us.length ≤ 1000) : L2.MakesX prog w K mg C us kw [] := by
  intro A R h g d t os mb X lim G Bb hb room goal
  refine to_ini T Y X hu fun h1 k1 hx sz nx => ?_
  refine ini0 T S (X.keeps k1) (lim.keeps k1) (G.keeps k1) nos (Bb.keeps k1) hb hx nx (by show A.depth + 1 < recursionLimit; exact room) lk hcd hp har he (bnd _ _) fun h' tk' t1 k2 e => ⟨rfl, ?_⟩
  exact goal h' tk' _ t1 none (fun b o z => k2 b o (Nat.ne_of_lt (Nat.lt_succ_of_lt (Heap.lt_size z))) (k1 b o z)) (Nat.le_succ _) e rfl
theorem makes1 (T : SupC prog K C fI cc cda B newId i bmB) (U : StC K C B bmB) (Y : IniC K C fI) (S : IniS scope ["self", f]) (sf : ("self" : Str) ≠ f) (nos : mg "super" = none) (no : findIn K (.ref C) f = some none) (db : (f == ("__debug__" : Str)) = false)
    (lk : K.lookup fI = some ⟨oc, od, .func (ksFn "__init__" qual params [supE p0 p1 p2 p3 p4 [.Name f q0], putE f q1 q2 q3 q4] scope dV kV doc pm an (.ref cda) ct cc), osl⟩) (hcd : codeIn K (.ref cda) qual = true)
    (hp : (params.posonlyargs ++ params.args).head? = some ar) (har : ar.arg = "self") (he : ∀ L, SupEq (ksEnv qual scope L fI (.ref cda) cc) p0 p1 p2 p3 [.Name f q0])
    (bnd : ∀ (s : Shared) (x : Addr), BindsTo s (ksFn "__init__" qual params [supE p0 p1 p2 p3 p4 [.Name f q0], putE f q1 q2 q3 q4] scope dV kV doc pm an (.ref cda) ct cc) ⟨.ref x :: us, kw⟩ [("self", .ref x), (f, v)]) (hu : us.length ≤ 1000) :
    L2.MakesX prog w K mg C us kw [(f, v)] := by
  intro A R h g d t os mb X lim G Bb hb room goal
  refine to_ini T Y X hu fun h1 k1 hx sz nx => ?_
  refine ini1 T U S sf (X.keeps k1) (lim.keeps k1) (G.keeps k1) nos (Bb.keeps k1) hb hx nx (by show A.depth + 1 < recursionLimit; exact room) no db lk hcd hp har he (bnd _ _) fun h' tk' t1 dx k2 big ne e hn => ⟨rfl, ?_⟩
  refine goal h' tk' _ t1 (some dx) (fun b o z => k2 b o (Nat.ne_of_lt (Nat.lt_succ_of_lt (Heap.lt_size z))) (k1 b o z)) (Nat.le_succ _) e ⟨by omega, ne, ?_⟩
  have q : (fun y => ([(f, v)] : List (Str × Value)).lookup y) = fun y => if y = f then some v else none := by
    funext y
    by_cases hy : y = f
    · rw [hy]
      simp [List.lookup]
    · have hb : (y == f) = false := by simpa using hy
      simp [List.lookup, hb, hy]
  rw [q]
  exact hn
theorem makes2 (T : SupC prog K C fI cc cda B newId i bmB) (U : StC K C B bmB) (Y : IniC K C fI) (S : IniS scope ["self", f, f2]) (sf : ("self" : Str) ≠ f) (sf2 : ("self" : Str) ≠ f2) (ff : f ≠ f2) (nos : mg "super" = none)
    (no : findIn K (.ref C) f = some none) (db : (f == ("__debug__" : Str)) = false) (no2 : findIn K (.ref C) f2 = some none) (db2 : (f2 == ("__debug__" : Str)) = false)
    (lk : K.lookup fI = some ⟨oc, od, .func (ksFn "__init__" qual params [supE p0 p1 p2 p3 p4 [.Name f q0, .Name f2 q5], putE f q1 q2 q3 q4, putE f2 r1 r2 r3 r4] scope dV kV doc pm an (.ref cda) ct cc), osl⟩) (hcd : codeIn K (.ref cda) qual = true)
    (hp : (params.posonlyargs ++ params.args).head? = some ar) (har : ar.arg = "self") (he : ∀ L, SupEq (ksEnv qual scope L fI (.ref cda) cc) p0 p1 p2 p3 [.Name f q0, .Name f2 q5])
    (bnd : ∀ (s : Shared) (x : Addr), BindsTo s (ksFn "__init__" qual params [supE p0 p1 p2 p3 p4 [.Name f q0, .Name f2 q5], putE f q1 q2 q3 q4, putE f2 r1 r2 r3 r4] scope dV kV doc pm an (.ref cda) ct cc) ⟨.ref x :: us, kw⟩ [("self", .ref x), (f, v), (f2, v2)]) (hu : us.length ≤ 1000) :
    L2.MakesX prog w K mg C us kw [(f2, v2), (f, v)] := by
  intro A R h g d t os mb X lim G Bb hb room goal
  refine to_ini T Y X hu fun h1 k1 hx sz nx => ?_
  refine ini2 T U S sf sf2 ff (X.keeps k1) (lim.keeps k1) (G.keeps k1) nos (Bb.keeps k1) hb hx nx (by show A.depth + 1 < recursionLimit; exact room) no db no2 db2 lk hcd hp har he (bnd _ _) fun h' tk' t1 dx k2 big ne e hn => ⟨rfl, ?_⟩
  refine goal h' tk' _ t1 (some dx) (fun b o z => k2 b o (Nat.ne_of_lt (Nat.lt_succ_of_lt (Heap.lt_size z))) (k1 b o z)) (Nat.le_succ _) e ⟨by omega, ne, ?_⟩
  have q : (fun y => ([(f2, v2), (f, v)] : List (Str × Value)).lookup y) = fun y => if y = f2 then some v2 else if y = f then some v else none := by
    funext y
    by_cases hy : y = f2
    · rw [hy]
      simp [List.lookup]
    · have hb : (y == f2) = false := by simpa using hy
      by_cases hz : y = f
      · rw [hz] at hb ⊢
        simp [List.lookup, hb, ff]
      · have hc : (y == f) = false := by simpa using hz
        simp [List.lookup, hb, hc, hy, hz]
  rw [q]
  exact hn
end
end K19
end PySem

namespace K19H
open PySem PySem.Spec PyProof.Rows L2
def top (i : Nat) : Stmt := PySem.Challenge.pw_reclaimed_k19_what_errors_keep.main.body.getD i (.Pass ⟨0, 0, 0, 0⟩)
def fn : List He.DefD := [
  ⟨("_law_box", none), "_law_box", "_law_box", defArgs (top 11), defBody (top 11), defScope (top 11), [], []⟩,
  ⟨("_law_take", none), "_law_take", "_law_take", defArgs (top 12), defBody (top 12), defScope (top 12), [], []⟩,
  ⟨("_law_cells", none), "_law_cells", "_law_cells", defArgs (top 13), defBody (top 13), defScope (top 13), [], []⟩,
  ⟨("_law_same", none), "_law_same", "_law_same", defArgs (top 14), defBody (top 14), defScope (top 14), [], []⟩,
  ⟨("_law_flags", none), "_law_flags", "_law_flags", defArgs (top 15), defBody (top 15), defScope (top 15), [], []⟩,
  ⟨("_law_is_odd", none), "_law_is_odd", "_law_is_odd", defArgs (top 16), defBody (top 16), defScope (top 16), [], []⟩,
  ⟨("_law_flags_right", none), "_law_flags_right", "_law_flags_right", defArgs (top 17), defBody (top 17), defScope (top 17), [], []⟩,
  ⟨("_law_right", none), "_law_right", "_law_right", defArgs (top 18), defBody (top 18), defScope (top 18), [], []⟩,
  ⟨("law", none), "law", "law", defArgs (top 19), defBody (top 19), defScope (top 19), [], []⟩]
def fa : List He.Fa := [.glo "_law_box", .glo "_law_take", .glo "_law_cells", .glo "_law_same", .glo "_law_flags", .glo "_law_is_odd", .glo "_law_flags_right", .glo "_law_right", .glo "law",
  .glo "Down", .glo "BadLine", .free "len", .free "super", .free "isinstance"]
abbrev R : PySem.W.OpenRow := PySem.W.OpenLaw.row PySem.Challenge.rw_reclaimed_k19_what_errors_keep
abbrev hk : PySem.W.Hook := He.hookD 4 fa fn
def ob (s : PySem.W.SharedT) : He.AlD := He.obsDG 4 fa fn (HandSHeadRun.getT s)
theorem ob_eq (s : PySem.W.SharedT) : ob s = hk.obs s.abs := He.obsDG_eq (HandSHeadRun.getT_eq s)
def loose : List Str := ["Down", "Up", "NoGrace", "NotBelieved", "NotSaid", "NotSeen", "CannotBe", "BadText", "BadLine", "_law_box", "_law_take", "_law_cells", "_law_same", "_law_flags", "_law_is_odd", "_law_flags_right", "_law_right"]
theorem run (w : World) : HandSHeadRun.RunEq R (PySem.W.view R.prog [19]) hk ob 4000 loose w := by
  intro os
  kernel_rfl
end K19H

namespace K19H
open PySem PySem.Spec PyProof.Rows L2
abbrev FnP (K : PySem.W.Frag) (x : Str) (st : Stmt) (f : Addr) (fd : FuncData) : Prop := FunD K x x (defArgs st) (defBody st) (defScope st) [] [] f fd
/-- the module's names that the defs read -/
structure Nm (mg : Str → Option Value) : Prop where
  len : mg "len" = none
  abs : mg "abs" = none
  int : mg "int" = none
  list : mg "list" = none
  enum : mg "enumerate" = none
  zip : mg "zip" = none
  all : mg "all" = none
  isi : mg "isinstance" = none
  range : mg "range" = none
  tup : mg "tuple" = none
  bool : mg "bool" = none
  str : mg "str" = none
theorem ifT {c : Bool} {p q : Prop} (h : c = true) (hp : p) : if c = true then p else q := by
  rw [if_pos h]
  exact hp
theorem ifF {c : Bool} {p q : Prop} (h : c = false) (hq : q) : if c = true then p else q := by
  rw [if_neg (by rw [h]; decide)]
  exact hq
theorem bit01 (c : Bool) : -(2 ^ 64) < (if c = true then (1 : Int) else 0) ∧ (if c = true then (1 : Int) else 0) < 2 ^ 64 := by
  cases c <;> decide
theorem bnd2 {a : Int} (h : -(2 ^ 63) ≤ a ∧ a < 2 ^ 63) : -(2 ^ 64) < a ∧ a < 2 ^ 64 := by omega
section
variable {P : Program} {w : World} {K : PySem.W.Frag} {mg : Str → Option Value} {base : Heap} {f : Addr} {fd : FuncData}
/-! ### _law_box -/
abbrev nBox : List Str := ["_law_script", "_law_k", "_law_cell"]
theorem scBox : FnScope nBox ["_law_script", "_law_k"] (defScope (top 11)) := ⟨rfl, rfl, rfl, by decide +kernel, rfl, by decide +kernel, by decide +kernel⟩
def spBox (K : PySem.W.Frag) : Sp := fun vs H Q _ => ∃ (a : Addr) (ns : List Int) (k : Nat), vs = [.ref a, .int k] ∧ SqL K H a (ns.map V.int) ∧ k ≤ 63 ∧
  ∀ (p : Addr) (i j : Int), H p = none → 0 ≤ j → j < 2 ^ 62 → Q (.ref p) (upd H p (.lst [.int i, .int j, .int 0]))
theorem atI_map {ns : List Int} {k : Nat} {z : Int} (h : ns[k]? = some z) : atI (ns.map V.int) (k : Int) = some (V.int z) := by
  refine atI_nat ?_
  rw [List.getElem?_map, h]
  rfl
theorem ok_box (F : FnP K "_law_box" (top 11) f fd) (N : Nm mg) : FnOk P w K mg base CX0 1 f fd ["_law_script", "_law_k"] (spBox K) := by
  have nd := scBox.nd
  refine F.ok scBox (fun vs H Q E h => ?_) (fun cdv A outer s H vs Q E hr h => ⟨_, PSs.nox (pss_cons
      (ps_set (i := 2) nd rfl (Or.inl rfl) (pe_ifExp (pt_cmpR op_lt (pv 1) (pe_callB call_len_seq (by rfl) N.len PySem.boot_len (pa_cons (pv 0) pa_nil)) (nomark _)) (pe_ix ix_list (pv 0) (pv 1) (fun _ _ => rfl)) pe_int))
      (pss_one (ps_ret (pe_lst (pa_cons (pe_op op_mul (pe_callB call_abs (by rfl) N.abs (by decide +kernel) (pa_cons (pv 2) pa_nil)) (pe_callTy call_int1 (by rfl) N.int (by decide +kernel) (pa_cons (pe_cmpR op_ge (pe_callB call_abs (by rfl) N.abs (by decide +kernel) (pa_cons (pv 2) pa_nil)) (pe_op op_pow pe_int pe_int) (nomark _)) pa_nil)))
        (pa_cons (pe_op op_add (pe_op op_add (pe_op op_mod (pe_callTy call_int1 (by rfl) N.int (by decide +kernel) (pa_cons (pv 2) pa_nil)) pe_int) (pe_op op_mul pe_int (pv 1))) pe_int) (pa_cons pe_int pa_nil))))))), ?_⟩)
  · obtain ⟨a, ns, k, rfl, _⟩ := h
    rfl
  · obtain ⟨a, ns, k, rfl, hS, hk, q⟩ := h
    obtain ⟨z, hz⟩ : ∃ z : Int, (k < ns.length → ns[k]? = some z) ∧ (¬ k < ns.length → z = 0) := by
      by_cases c : k < ns.length
      · exact ⟨ns[k], fun _ => by simp [c], fun x => absurd c x⟩
      · exact ⟨0, fun x => absurd x c, fun _ => rfl⟩
    have hl : (ns.map V.int).length = ns.length := List.length_map ..
    refine ⟨_, rfl, _, rfl, _, _, rfl, .inl hS, _, _, rfl, rfl, _, rfl, ?_⟩
    by_cases c : k < ns.length
    · refine ifT (decide_eq_true (by rw [hl]; exact_mod_cast c)) ?_
      refine ⟨_, rfl, _, rfl, _, _, _, _, rfl, rfl, hS, atI_map (hz.1 c), ?_⟩
      refine ⟨_, rfl, _, rfl, _, rfl, _, rfl, _, _, rfl, rfl, ⟨by decide, by decide, by decide⟩, _, _, rfl, rfl, .inr ⟨_, rfl, ?_⟩⟩
      refine ⟨_, _, rfl, rfl, .inr (bit01 _), _, rfl, .inl ⟨_, rfl, ?_⟩⟩
      refine ⟨_, _, rfl, rfl, (by show (0 : Int) < 2305843009213693951; decide), _, rfl, _, _, rfl, rfl, .inr ⟨by omega, by omega⟩, _, _, rfl, rfl, _, _, rfl, rfl, by show 3 ≤ sizeLine; decide, fun p hp => ?_⟩
      refine q p _ _ hp ?_ ?_ <;> omega
    · refine ifF (decide_eq_false (by rw [hl]; exact_mod_cast c)) ?_
      have e := hz.2 c
      subst e
      show gName 2 (.int 0) _ _ _
      refine ⟨_, rfl, _, rfl, _, rfl, _, rfl, _, _, rfl, rfl, ⟨by decide, by decide, by decide⟩, _, _, rfl, rfl, .inr ⟨_, rfl, ?_⟩⟩
      refine ⟨_, _, rfl, rfl, .inr (bit01 _), _, rfl, .inl ⟨_, rfl, ?_⟩⟩
      refine ⟨_, _, rfl, rfl, (by show (0 : Int) < 2305843009213693951; decide), _, rfl, _, _, rfl, rfl, .inr ⟨by omega, by omega⟩, _, _, rfl, rfl, _, _, rfl, rfl, by show 3 ≤ sizeLine; decide, fun p hp => ?_⟩
      refine q p _ _ hp ?_ ?_ <;> omega
/-! ### _law_take -/
abbrev nTake : List Str := ["_law_box_here", "_law_below", "_law_drawn", "_law_once", "_law_far", "_law_twice"]
theorem scTake : FnScope nTake ["_law_box_here", "_law_below"] (defScope (top 12)) := ⟨rfl, rfl, rfl, by decide +kernel, rfl, by decide +kernel, by decide +kernel⟩
def spTake : Sp := fun vs H Q _ => ∃ (p : Addr) (b i j n : Int), vs = [.ref p, .int b] ∧ 0 < b ∧ b ≤ 1000 ∧ H p = some (.lst [.int i, .int j, .int n]) ∧ 0 ≤ j ∧ j < 2 ^ 62 ∧ 0 ≤ n ∧ n ≤ 100 ∧
  ∀ (i' n' r : Int), 0 ≤ n' → n' ≤ n + 1 → Q (.int r) (upd H p (.lst [.int i', .int j, .int n']))
theorem upd_self {H : Hp} {a : Addr} {o : HO} (h : H a = some o) : upd H a o = H := by
  funext b
  by_cases hb : b = a
  · rw [hb, upd_same, h]
  · rw [upd_ne hb]
theorem ok_take (F : FnP K "_law_take" (top 12) f fd) (N : Nm mg) : FnOk P w K mg base CX0 1 f fd ["_law_box_here", "_law_below"] spTake := by
  have nd := scTake.nd
  refine F.ok scTake (fun vs H Q E h => ?_) (fun cdv A outer s H vs Q E hr h => ⟨_, PSs.nox (pss_cons
      (ps_if (pt_cmpR op_gt (pe_ix ix_list (pv 0) pe_int (fun _ _ => rfl)) pe_int (nomark _))
        (pss_cons (ps_set (i := 2) nd rfl (Or.inl rfl) (pe_op op_mod (pe_callTy call_int1 (by rfl) N.int (by decide +kernel) (pa_cons (pe_ix ix_list (pv 0) pe_int (fun _ _ => rfl)) pa_nil)) (pv 1)))
        (pss_cons (ps_asg (pe_op op_fdiv (pe_ix ix_list (pv 0) pe_int (fun _ _ => rfl)) (pv 1)) (pg_sub (pv 0) pe_int set_list))
        (pss_one (ps_ret (pv 2))))) pss_nil)
      (pss_cons (ps_asg (pe_op op_add (pe_ix ix_list (pv 0) pe_int (fun _ _ => rfl)) pe_int) (pg_sub (pv 0) pe_int set_list))
      (pss_cons (ps_set (i := 3) nd rfl (Or.inl rfl) (pe_op op_mod (pe_callTy call_int1 (by rfl) N.int (by decide +kernel) (pa_cons (pe_op op_mul (pe_op op_add (pe_ix ix_list (pv 0) pe_int (fun _ _ => rfl)) (pe_op op_mul pe_int (pe_ix ix_list (pv 0) pe_int (fun _ _ => rfl)))) (pe_op op_add pe_int (pe_ix ix_list (pv 0) pe_int (fun _ _ => rfl)))) pa_nil)) pe_int))
      (pss_cons (ps_set (i := 4) nd rfl (Or.inl rfl) (pe_op op_add (pe_op op_mod (pe_callTy call_int1 (by rfl) N.int (by decide +kernel) (pa_cons (pv 3) pa_nil)) pe_int) pe_int))
      (pss_cons (ps_set (i := 5) nd rfl (Or.inl rfl) (pe_op op_mod (pe_callTy call_int1 (by rfl) N.int (by decide +kernel) (pa_cons (pe_op op_mul (pe_op op_add (pe_op op_add (pv 3) (pe_ix ix_list (pv 0) pe_int (fun _ _ => rfl))) (pe_op op_fdiv (pe_ix ix_list (pv 0) pe_int (fun _ _ => rfl)) pe_int)) (pv 4)) pa_nil)) pe_int))
      (pss_one (ps_ret (pe_op op_mod (pe_callTy call_int1 (by rfl) N.int (by decide +kernel) (pa_cons (pe_op op_fdiv (pe_op op_mod (pe_callTy call_int1 (by rfl) N.int (by decide +kernel) (pa_cons (pe_op op_add (pe_op op_mul (pv 5) pe_int) (pv 3)) pa_nil)) pe_int) pe_int) pa_nil)) (pv 1)))))))))
      , ?_⟩)
  · obtain ⟨p, b, i, j, n, rfl, _⟩ := h
    rfl
  · obtain ⟨p, b, i, j, n, rfl, b0, b1, hp, j0, j1, n0, n1, q⟩ := h
    have hS := SqL.of (K := K) hp
    refine ⟨_, rfl, _, _, _, _, rfl, rfl, hS, rfl, _, _, rfl, rfl, _, rfl, ?_⟩
    by_cases c : 0 < i
    · refine ifT (decide_eq_true c) ?_
      refine ⟨_, rfl, _, _, _, _, rfl, rfl, hS, rfl, .inl ⟨_, rfl, _, rfl, _, _, rfl, rfl, b0, ?_⟩⟩
      refine ⟨_, rfl, _, _, _, _, rfl, rfl, hS, rfl, _, rfl, _, _, rfl, rfl, ⟨b0, by omega⟩, _, rfl, _, _, _, _, rfl, rfl, hp, rfl, _, rfl, ?_⟩
      exact q _ _ _ n0 (by omega)
    · refine ifF (decide_eq_false c) ?_
      refine ⟨_, rfl, _, _, _, _, rfl, rfl, hS, rfl, _, _, rfl, rfl, _, rfl, _, _, _, _, rfl, rfl, hp, rfl, ?_⟩
      have hp2 : upd H p (.lst (([.int i, .int j, .int n] : List V).set 2 (.int (n + 1)))) p = some (.lst [.int i, .int j, .int (n + 1)]) := upd_same
      have hS2 := SqL.of (K := K) hp2
      refine ⟨_, rfl, _, _, _, _, rfl, rfl, hS2, rfl, _, rfl, _, _, _, _, rfl, rfl, hS2, rfl, _, _, rfl, rfl, .inr ⟨by omega, by omega⟩, _, _, rfl, rfl, _, rfl, _, _, _, _, rfl, rfl, hS2, rfl, _, _, rfl, rfl, _, _, rfl, rfl, .inr ⟨by omega, by omega⟩, .inl ⟨_, rfl, _, _, rfl, rfl, (by show (0 : Int) < 2147483647; decide), ?_⟩⟩
      have o0 := Int.emod_nonneg ((j + 48271 * (n + 1)) * (39373 + (n + 1))) (show (2147483647 : Int) ≠ 0 by decide)
      have o1 := Int.emod_lt_of_pos ((j + 48271 * (n + 1)) * (39373 + (n + 1))) (show (0 : Int) < 2147483647 by decide)
      refine ⟨_, rfl, .inl ⟨_, rfl, _, _, rfl, rfl, (by show (0 : Int) < 40009; decide), _, _, rfl, rfl, ?_⟩⟩
      refine ⟨_, rfl, _, rfl, _, _, _, _, rfl, rfl, hS2, rfl, _, _, rfl, rfl, _, rfl, _, _, _, _, rfl, rfl, hS2, rfl, _, _, rfl, rfl, ⟨by decide, by decide⟩, _, _, rfl, rfl, _, rfl, _, _, rfl, rfl, .inr ⟨by omega, by omega⟩, .inl ⟨_, rfl, _, _, rfl, rfl, (by show (0 : Int) < 2147483629; decide), ?_⟩⟩
      refine ⟨_, rfl, _, _, rfl, rfl, .inr ⟨by decide, by decide⟩, _, rfl, _, _, rfl, rfl, .inl ⟨_, rfl, _, _, rfl, rfl, (by show (0 : Int) < 2147483587; decide), _, _, rfl, rfl, ⟨by decide, by decide⟩, .inl ⟨_, rfl, _, rfl, _, _, rfl, rfl, b0, ?_⟩⟩⟩
      exact q _ _ _ (by omega) (Int.le_refl _)
end
end K19H

namespace K19H
open PySem PySem.Spec PyProof.Rows L2
abbrev Keeps (H H' : Hp) : Prop := ∀ b o, H b = some o → H' b = some o
theorem Keeps.new {H : Hp} {a : Addr} {o : HO} (h : H a = none) : Keeps H (upd H a o) := fun b u e => by
  rw [upd_ne (ne_of_none e h)]
  exact e
theorem Keeps.none {H H' : Hp} (k : Keeps H H') {p : Addr} (h : H' p = none) : H p = none := by
  cases e : H p with
  | none => rfl
  | some o =>
    have z := k p o e
    rw [h] at z
    cases z
theorem Keeps.trans {H H' H'' : Hp} (k : Keeps H H') (k' : Keeps H' H'') : Keeps H H'' := fun b o e => k' b o (k b o e)
theorem sqL_keep {K : PySem.W.Frag} {H H' : Hp} {a : Addr} {xs : List V} (h : SqL K H a xs) (e : Keeps H H') : SqL K H' a xs :=
  h.elim (fun h => .inl (h.elim (fun h => .inl (e _ _ h)) fun ⟨o, h⟩ => .inr ⟨o, e _ _ h⟩)) fun h => .inr h
theorem cut_ints (ns : List Int) (lo hi : Option Int) : ∃ ys : List Int, cutV (ns.map V.int) lo hi = ys.map V.int :=
  ⟨(ns.drop _).take _, by unfold cutV; rw [List.map_take, List.map_drop]⟩
section
variable {P : Program} {w : World} {K : PySem.W.Frag} {mg : Str → Option Value} {base : Heap} {f : Addr} {fd : FuncData}
abbrev nCells : List Str := ["_law_script", "_law_most", "_law_cells_here", "_law_k", "_law_cell", "_law_at_so"]
theorem scCells : FnScope nCells ["_law_script", "_law_most"] (defScope (top 13)) := ⟨rfl, rfl, rfl, by decide +kernel, rfl, by decide +kernel, by decide +kernel⟩
def spCells (K : PySem.W.Frag) : Sp := fun vs H Q _ => ∃ (a : Addr) (ns : List Int), vs = [.ref a, .int 3] ∧ SqL K H a (ns.map V.int) ∧ ns.length ≤ 63 ∧
  ∀ (p : Addr) (H' : Hp) (ms : List Int), Keeps H H' → H' p = some (.lst (ms.map V.int)) → ms.length ≤ 3 → Q (.ref p) H'
theorem ixN_nat {n j : Nat} (h : j < n) : ixN n (j : Int) = some j := by
  unfold ixN
  rw [if_pos (by omega), if_pos (by omega)]
  simp
theorem ok_cells (F : FnP K "_law_cells" (top 13) f fd) (N : Nm mg) : FnOk P w K mg base CX0 1 f fd ["_law_script", "_law_most"] (spCells K) := by
  have nd := scCells.nd
  refine F.ok scCells (fun vs H Q E h => ?_) (fun cdv A outer s H vs Q E hr h => ⟨_, PSs.nox (pss_cons
      (ps_set (i := 2) nd rfl (Or.inl rfl) (pe_orT (pe_callTy call_list_of (by rfl) N.list (by decide +kernel) (pa_cons (pe_slice sl_list (pv 0) po_none (po_some (pv 1))) pa_nil)) (pe_one (pe_lst (pa_cons pe_int pa_nil)))))
      (pss_cons (ps_for PassesOwn.never rfl (pi_enum (by rfl) N.enum (pa_cons (pe_slice sl_list (pv 0) (po_some (pv 1)) (po_some pe_int)) pa_nil)) (pg_tup rfl (pgs_cons (pg_name (i := 3) nd rfl (Or.inl rfl)) (pgs_cons (pg_name (i := 4) nd rfl (Or.inl rfl)) pgs_nil)))
        (pss_cons (ps_set (i := 5) nd rfl (Or.inl rfl) (pe_op op_mod (pe_callTy call_int1 (by rfl) N.int (by decide +kernel) (pa_cons (pv 3) pa_nil)) (pv 1)))
        (pss_one (ps_asg (pe_op op_add (pe_ix ix_list (pv 2) (pv 5) (fun _ _ => rfl)) (pe_op op_mul (pv 4) (pe_op op_add (pv 3) pe_int))) (pg_sub (pv 2) (pv 5) set_list)))))
      (pss_one (ps_ret (pv 2))))), ?_⟩)
  · obtain ⟨a, ns, rfl, _⟩ := h
    rfl
  · obtain ⟨a, ns, rfl, hS, hn, q⟩ := h
    have hl : (ns.map V.int).length = ns.length := List.length_map ..
    obtain ⟨c1, e1⟩ := cut_ints ns none (some 3)
    obtain ⟨c2, e2⟩ := cut_ints ns (some 3) (some 63)
    have l1 : c1.length = min 3 ns.length := by
      have z := congrArg List.length e1
      rw [List.length_map] at z
      unfold cutV at z
      rw [← z, List.length_take, List.length_drop, hl, HT.sIx_none, show (3 : Int) = ((3 : Nat) : Int) from rfl, HT.sIx_nat]
      omega
    have l2 : 0 < c2.length → 3 < ns.length := fun h0 => by
      have z := congrArg List.length e2
      rw [List.length_map] at z
      unfold cutV at z
      rw [← z, List.length_take, List.length_drop, hl, show (3 : Int) = ((3 : Nat) : Int) from rfl, HT.sIx_nat] at h0
      omega
    have l4 : c2.length ≤ ns.length := by
      have z := cutV_length (ns.map V.int) (some 3) (some 63)
      rw [e2, List.length_map, hl] at z
      exact z
    refine ⟨_, rfl, _, rfl, _, rfl, _, _, rfl, hS, fun p1 n1 => ?_⟩
    rw [e1]
    refine ⟨_, _, rfl, .inl (SqL.of upd_same), fun p2 n2 => ⟨!(c1.map V.int).isEmpty, .inl ⟨_, SqL.of upd_same, rfl⟩, ?_⟩⟩
    have k1 : Keeps H (upd H p1 (.lst (c1.map V.int))) := Keeps.new n1
    by_cases em : c1 = []
    · refine ifF (by rw [em]; rfl) ?_
      refine ⟨(by show 1 ≤ sizeLine; decide), fun p n4 => ?_⟩
      have kp : Keeps H (upd (upd (upd H p1 (.lst (c1.map V.int))) p2 (.lst (c1.map V.int))) p (.lst [.int 0])) := fun b o e => Keeps.new n4 b o (Keeps.new n2 b o (k1 b o e))
      have hp0 : H p = none := (k1.trans (Keeps.new n2)).none n4
      obtain ⟨ms0, em0⟩ : ∃ ms0 : List Int, ms0 = [0] := ⟨_, rfl⟩
      have hp : upd (upd (upd H p1 (.lst (c1.map V.int))) p2 (.lst (c1.map V.int))) p (.lst [.int 0]) p = some (.lst (ms0.map V.int)) := by
        rw [em0]
        exact upd_same
      have lms : 3 < ns.length → ms0.length = 3 := fun z => by
        rw [em, List.length_nil] at l1
        omega
      have lle : ms0.length ≤ 3 := by
        rw [em0]
        decide
      have hS2 := sqL_keep hS kp
      refine ⟨_, rfl, _, rfl, _, rfl, _, rfl, _, _, rfl, hS2, fun p3 n3 => ?_⟩
      rw [e2]
      have np : p3 ≠ p := fun z => by
        rw [z, hp] at n3
        cases n3
      refine ⟨_, _, rfl, SqL.of upd_same, ?_⟩
      refine for_it (walk_enum (xs := c2.map V.int)) (fun i σ H' => ∃ (x3 x4 x5 : Option V) (ms : List Int), σ = [some (.ref a), some (.int 3), some (.ref p), x3, x4, x5] ∧ ms.length = ms0.length ∧ H' p = some (.lst (ms.map V.int)) ∧ Keeps H H' ∧ H' p3 = some (.lst (c2.map V.int)))
        ⟨none, none, none, ms0, rfl, rfl, by rw [upd_ne np.symm]; exact hp, fun b o e => Keeps.new n3 b o (kp b o e), upd_same⟩ (fun i σ H' _ h => SqL.of h.choose_spec.choose_spec.choose_spec.choose_spec.2.2.2.2) ?_ ?_
      · rintro i v σ H' H'' hi ⟨x3, x4, x5, ms, rfl, lm, hp', kp', h3⟩ ⟨T, x, y, rfl, nT, rfl, ex, ey⟩
        cases ex
        have hi' : i < c2.length := by simpa using hi
        have l3 : ms.length = 3 := by
          rw [lm]
          exact lms (l2 (by omega))
        have ey' : y = .int c2[i] := by
          have ey : (c2.map V.int)[i]? = some y := ey
          rw [List.getElem?_map, List.getElem?_eq_getElem hi'] at ey
          exact (Option.some.inj ey).symm
        subst ey'
        have pT : p ≠ T := ne_of_none hp' nT
        have p3T : p3 ≠ T := ne_of_none h3 nT
        have at1 : ∃ j : Nat, ((i : Int) % 3) = (j : Int) ∧ j < 3 := ⟨i % 3, by omega, by omega⟩
        obtain ⟨j, ej, j3⟩ := at1
        have hpT : upd H' T (.tup [.int (i : Nat), .int c2[i]]) p = some (.lst (ms.map V.int)) := by
          rw [upd_ne pT]
          exact hp'
        refine ⟨T, _, rfl, SqT.of upd_same, rfl, _, _, rfl, _, _, rfl, rfl, ?_⟩
        refine ⟨_, rfl, .inl ⟨_, rfl, _, rfl, _, _, rfl, rfl, (by show (0 : Int) < 3; decide), ?_⟩⟩
        refine ⟨_, rfl, _, rfl, _, _, _, _, rfl, rfl, SqL.of hpT, (by rw [ej]; exact atI_map (List.getElem?_eq_getElem (by omega))), _, rfl, _, rfl, _, _, rfl, rfl, _, _, rfl, rfl, .inr ⟨by omega, by omega⟩, _, _, rfl, rfl, ?_⟩
        refine ⟨_, rfl, _, rfl, _, _, _, _, rfl, rfl, hpT, (by rw [ej, List.length_map]; exact ixN_nat (by omega)), ?_⟩
        refine ⟨some (.int (i : Nat)), some (.int c2[i]), some (.int ((i : Nat) % 3)), ms.set j (ms[j] + c2[i] * ((i : Nat) + 2)), rfl, by simpa using lm, ?_, fun b o e => ?_, ?_⟩
        · rw [upd_same, List.map_set]
        · have hb : b ≠ p := fun z => by
            rw [z, hp0] at e
            cases e
          rw [upd_ne hb]
          exact Keeps.new nT b o (kp' b o e)
        · rw [upd_ne np, upd_ne p3T]
          exact h3
      · rintro σ H' ⟨x3, x4, x5, ms, rfl, lm, hp', kp', h3⟩
        exact ⟨_, rfl, q p H' ms kp' hp' (by omega)⟩
    · refine ifT (by cases c1 with | nil => exact absurd rfl em | cons _ _ => rfl) ?_
      obtain ⟨p, ep⟩ : ∃ p, p = p2 := ⟨_, rfl⟩
      rw [← ep] at n2 ⊢
      have kp : Keeps H (upd (upd H p1 (.lst (c1.map V.int))) p (.lst (c1.map V.int))) := fun b o e => Keeps.new n2 b o (k1 b o e)
      have hp0 : H p = none := k1.none n2
      obtain ⟨ms0, em0⟩ : ∃ ms0 : List Int, ms0 = c1 := ⟨_, rfl⟩
      have hp : upd (upd H p1 (.lst (c1.map V.int))) p (.lst (c1.map V.int)) p = some (.lst (ms0.map V.int)) := by
        rw [em0]
        exact upd_same
      have lms : 3 < ns.length → ms0.length = 3 := fun z => by
        rw [em0, l1]
        omega
      have lle : ms0.length ≤ 3 := by
        rw [em0, l1]
        omega
      have hS2 := sqL_keep hS kp
      refine ⟨_, rfl, _, rfl, _, rfl, _, rfl, _, _, rfl, hS2, fun p3 n3 => ?_⟩
      rw [e2]
      have np : p3 ≠ p := fun z => by
        rw [z, hp] at n3
        cases n3
      refine ⟨_, _, rfl, SqL.of upd_same, ?_⟩
      refine for_it (walk_enum (xs := c2.map V.int)) (fun i σ H' => ∃ (x3 x4 x5 : Option V) (ms : List Int), σ = [some (.ref a), some (.int 3), some (.ref p), x3, x4, x5] ∧ ms.length = ms0.length ∧ H' p = some (.lst (ms.map V.int)) ∧ Keeps H H' ∧ H' p3 = some (.lst (c2.map V.int)))
        ⟨none, none, none, ms0, rfl, rfl, by rw [upd_ne np.symm]; exact hp, fun b o e => Keeps.new n3 b o (kp b o e), upd_same⟩ (fun i σ H' _ h => SqL.of h.choose_spec.choose_spec.choose_spec.choose_spec.2.2.2.2) ?_ ?_
      · rintro i v σ H' H'' hi ⟨x3, x4, x5, ms, rfl, lm, hp', kp', h3⟩ ⟨T, x, y, rfl, nT, rfl, ex, ey⟩
        cases ex
        have hi' : i < c2.length := by simpa using hi
        have l3 : ms.length = 3 := by
          rw [lm]
          exact lms (l2 (by omega))
        have ey' : y = .int c2[i] := by
          have ey : (c2.map V.int)[i]? = some y := ey
          rw [List.getElem?_map, List.getElem?_eq_getElem hi'] at ey
          exact (Option.some.inj ey).symm
        subst ey'
        have pT : p ≠ T := ne_of_none hp' nT
        have p3T : p3 ≠ T := ne_of_none h3 nT
        have at1 : ∃ j : Nat, ((i : Int) % 3) = (j : Int) ∧ j < 3 := ⟨i % 3, by omega, by omega⟩
        obtain ⟨j, ej, j3⟩ := at1
        have hpT : upd H' T (.tup [.int (i : Nat), .int c2[i]]) p = some (.lst (ms.map V.int)) := by
          rw [upd_ne pT]
          exact hp'
        refine ⟨T, _, rfl, SqT.of upd_same, rfl, _, _, rfl, _, _, rfl, rfl, ?_⟩
        refine ⟨_, rfl, .inl ⟨_, rfl, _, rfl, _, _, rfl, rfl, (by show (0 : Int) < 3; decide), ?_⟩⟩
        refine ⟨_, rfl, _, rfl, _, _, _, _, rfl, rfl, SqL.of hpT, (by rw [ej]; exact atI_map (List.getElem?_eq_getElem (by omega))), _, rfl, _, rfl, _, _, rfl, rfl, _, _, rfl, rfl, .inr ⟨by omega, by omega⟩, _, _, rfl, rfl, ?_⟩
        refine ⟨_, rfl, _, rfl, _, _, _, _, rfl, rfl, hpT, (by rw [ej, List.length_map]; exact ixN_nat (by omega)), ?_⟩
        refine ⟨some (.int (i : Nat)), some (.int c2[i]), some (.int ((i : Nat) % 3)), ms.set j (ms[j] + c2[i] * ((i : Nat) + 2)), rfl, by simpa using lm, ?_, fun b o e => ?_, ?_⟩
        · rw [upd_same, List.map_set]
        · have hb : b ≠ p := fun z => by
            rw [z, hp0] at e
            cases e
          rw [upd_ne hb]
          exact Keeps.new nT b o (kp' b o e)
        · rw [upd_ne np, upd_ne p3T]
          exact h3
      · rintro σ H' ⟨x3, x4, x5, ms, rfl, lm, hp', kp', h3⟩
        exact ⟨_, rfl, q p H' ms kp' hp' (by omega)⟩
end
end K19H

namespace K19H
open PySem PySem.Spec PyProof.Rows L2
section
variable {P : Program} {w : World} {K : PySem.W.Frag} {mg : Str → Option Value} {base : Heap} {f : Addr} {fd : FuncData}
/-! ### _law_same -/
abbrev nSame : List Str := ["_law_found", "_law_due", "_law_mine", "_law_its"]
theorem scSame : FnScope nSame ["_law_found", "_law_due"] (defScope (top 14)) := ⟨rfl, rfl, rfl, by decide +kernel, rfl, by decide +kernel, by decide +kernel⟩
/-- a bool or an int -/
inductive Sc : V → Prop where
  | bl (b : Bool) : Sc (.bl b)
  | int (i : Int) : Sc (.int i)
def spS1 : Sp := fun vs H Q _ => ∃ x, vs = [x, x] ∧ Sc x ∧ ∀ H', Keeps H H' → Q (.bl true) H'
def spS2 : Sp := fun vs H Q _ => ∃ (a b : Addr) (xs : List V), vs = [.ref a, .ref b] ∧ H a = some (.lst xs) ∧ H b = some (.lst xs) ∧ (∀ x ∈ xs, Sc x) ∧ xs.length ≤ 1000 ∧ ∀ H', Keeps H H' → Q (.bl true) H'
theorem kit2 {a b c : String} {r1 r2 : Bool} (h1 : kitB a b = some r1) (h2 : kitB a c = some r2) : PySem.W.kitAny K (.type a) [.type b, .type c] = some (r1 || r2) := by
  refine kitAny_cons (kit_ty h1) (fun e => ?_) (fun e => by rw [e]; rfl)
  rw [e, Bool.false_or]
  exact kitAny_cons (kit_ty h2) (fun e => by rw [e]; exact kitAny_nil) (fun e => e)
theorem ok_same1 (F : FnP K "_law_same" (top 14) f fd) (N : Nm mg) : FnOk P w K mg base CX0 1 f fd ["_law_found", "_law_due"] spS1 := by
  have nd := scSame.nd
  refine F.ok scSame (fun vs H Q E h => ?_) (fun cdv A outer s H vs Q E hr h => ⟨_, PSs.nox (pss_cons
      (ps_if (pt_val (pe_callB call_isiT (by rfl) N.isi (by decide +kernel) (pa_cons (pv 1) (pa_cons (pe_tup (pa_cons (pe_bltn (by rfl) N.list (by decide +kernel) (show RelV (.ty "list") (.type "list") from rfl)) (pa_cons (pe_bltn (by rfl) N.tup (by decide +kernel) (show RelV (.ty "tuple") (.type "tuple") from rfl)) pa_nil))) pa_nil)))) pss_never pss_nil)
      (pss_cons (ps_if (PW.pt (pw_or (pt_cmpR op_isN (pv 1) pe_non (nomark _)) (pw_or1 (pt_val (pe_callB call_isiT (by rfl) N.isi (by decide +kernel) (pa_cons (pv 1) (pa_cons (pe_tup (pa_cons (pe_bltn (by rfl) N.bool (by decide +kernel) (show RelV (.ty "bool") (.type "bool") from rfl)) (pa_cons (pe_bltn (by rfl) N.str (by decide +kernel) (show RelV (.ty "str") (.type "str") from rfl)) pa_nil))) pa_nil)))))))
          (pss_one (ps_ret (pe_and (pe_cmpR op_eq (pv 0) (pv 1) (nomark _)) (pe_and (pe_cmpR op_eq
              (pe_callB call_isi (by rfl) N.isi (by decide +kernel) (pa_cons (pv 0) (pa_cons (pe_bltn (by rfl) N.bool (by decide +kernel) (show RelV (.ty "bool") (.type "bool") from rfl)) pa_nil)))
              (pe_callB call_isi (by rfl) N.isi (by decide +kernel) (pa_cons (pv 1) (pa_cons (pe_bltn (by rfl) N.bool (by decide +kernel) (show RelV (.ty "bool") (.type "bool") from rfl)) pa_nil))) (nomark _))
            (pe_one (pe_cmpR op_eq (pe_cmpR op_isN (pv 0) pe_non (nomark _)) (pe_cmpR op_isN (pv 1) pe_non (nomark _)) (nomark _))))))) pss_nil)
      (pss_one (ps_ret (pe_and (pe_callB call_isi (by rfl) N.isi (by decide +kernel) (pa_cons (pv 0) (pa_cons (pe_bltn (by rfl) N.int (by decide +kernel) (show RelV (.ty "int") (.type "int") from rfl)) pa_nil)))
        (pe_and (pe_not (pe_callB call_isi (by rfl) N.isi (by decide +kernel) (pa_cons (pv 0) (pa_cons (pe_bltn (by rfl) N.bool (by decide +kernel) (show RelV (.ty "bool") (.type "bool") from rfl)) pa_nil))))
          (pe_one (pe_cmpR op_eq (pv 0) (pv 1) (nomark _)))))))))
      , ?_⟩)
  · obtain ⟨x, rfl, _⟩ := h
    rfl
  · obtain ⟨x, rfl, sc, q⟩ := h
    cases sc with
    | bl b =>
      refine ⟨_, rfl, by show 2 ≤ sizeLine; decide, fun p1 n1 => ⟨_, _, _, _, _, _, rfl, upd_same, .cons (.ty _) (.cons (.ty _) .nil), .base (.bl b), kit2 (r1 := false) (r2 := false) (by decide +kernel) (by decide +kernel), _, rfl, ifF rfl ?_⟩⟩
      refine ⟨_, rfl, rfl, _, rfl, ifF rfl ?_⟩
      refine ⟨_, rfl, by show 2 ≤ sizeLine; decide, fun p2 n2 => ⟨_, _, _, _, _, _, rfl, upd_same, .cons (.ty _) (.cons (.ty _) .nil), .base (.bl b), kit2 (r1 := true) (r2 := false) (by decide +kernel) (by decide +kernel), _, rfl, ifT rfl ?_⟩⟩
      refine ⟨_, rfl, _, rfl, rfl, _, rfl, ifT (decide_eq_true rfl) ?_⟩
      refine ⟨_, rfl, _, _, _, _, true, rfl, .ty _, .base (.bl b), kit_ty (by decide +kernel), _, rfl, _, _, _, _, true, rfl, .ty _, .base (.bl b), kit_ty (by decide +kernel), rfl, _, rfl, ifT (decide_eq_true rfl) ?_⟩
      refine ⟨_, rfl, rfl, _, rfl, rfl, rfl, ?_⟩
      have e : (V.bl (decide (V.bl (decide (V.bl b = V.non)) = V.bl (decide (V.bl b = V.non))))) = V.bl true := by simp
      show Q (V.bl (decide (V.bl (decide (V.bl b = V.non)) = V.bl (decide (V.bl b = V.non))))) _
      rw [e]
      exact q _ (fun x o z => Keeps.new n2 x o (Keeps.new n1 x o z))
    | int i =>
      refine ⟨_, rfl, by show 2 ≤ sizeLine; decide, fun p1 n1 => ⟨_, _, _, _, _, _, rfl, upd_same, .cons (.ty _) (.cons (.ty _) .nil), .base (.int i), kit2 (r1 := false) (r2 := false) (by decide +kernel) (by decide +kernel), _, rfl, ifF rfl ?_⟩⟩
      refine ⟨_, rfl, rfl, _, rfl, ifF rfl ?_⟩
      refine ⟨_, rfl, by show 2 ≤ sizeLine; decide, fun p2 n2 => ⟨_, _, _, _, _, _, rfl, upd_same, .cons (.ty _) (.cons (.ty _) .nil), .base (.int i), kit2 (r1 := false) (r2 := false) (by decide +kernel) (by decide +kernel), _, rfl, ifF rfl ?_⟩⟩
      refine ⟨_, rfl, _, _, _, _, true, rfl, .ty _, .base (.int i), kit_ty (by decide +kernel), _, rfl, ifT rfl ?_⟩
      refine ⟨_, rfl, _, _, _, _, false, rfl, .ty _, .base (.int i), kit_ty (by decide +kernel), _, rfl, _, rfl, ifT rfl ?_⟩
      refine ⟨_, rfl, _, rfl, rfl, ?_⟩
      show Q (V.bl (decide (V.int i = V.int i))) _
      rw [decide_eq_true rfl]
      exact q _ (fun x o z => Keeps.new n2 x o (Keeps.new n1 x o z))
end
end K19H

namespace K19H
open PySem PySem.Spec PyProof.Rows L2
section
variable {P : Program} {w : World} {K : PySem.W.Frag} {mg : Str → Option Value} {base : Heap} {f : Addr} {fd : FuncData}
theorem ok_same2 (F : FnP K "_law_same" (top 14) f fd) (N : Nm mg) (gS : mg "_law_same" = some (.ref f)) : FnOk P w K mg base CX0 2 f fd ["_law_found", "_law_due"] spS2 := by
  have nd := scSame.nd
  have G : FnOk P w K mg base CX0 1 f fd ["_law_found", "_law_due"] spS1 := ok_same1 F N
  have bS : Binds K fd ["_law_found", "_law_due"] [] := FunD.bindsN F fun _ _ _ _ _ _ us hl => match us, hl with | [_, _], _ => rfl
  refine F.ok scSame (fun vs H Q E h => ?_) (fun cdv A outer s H vs Q E hr h => ⟨_, PSs.nox (pss_cons
      (ps_if (pt_val (pe_callB call_isiT (by rfl) N.isi (by decide +kernel) (pa_cons (pv 1) (pa_cons (pe_tup (pa_cons (pe_bltn (by rfl) N.list (by decide +kernel) (show RelV (.ty "list") (.type "list") from rfl)) (pa_cons (pe_bltn (by rfl) N.tup (by decide +kernel) (show RelV (.ty "tuple") (.type "tuple") from rfl)) pa_nil))) pa_nil))))
        (pss_cons (ps_if (PW.pt (pw_or (pt_cmpR op_ne (pe_callB call_isi (by rfl) N.isi (by decide +kernel) (pa_cons (pv 0) (pa_cons (pe_bltn (by rfl) N.list (by decide +kernel) (show RelV (.ty "list") (.type "list") from rfl)) pa_nil)))
                (pe_callB call_isi (by rfl) N.isi (by decide +kernel) (pa_cons (pv 1) (pa_cons (pe_bltn (by rfl) N.list (by decide +kernel) (show RelV (.ty "list") (.type "list") from rfl)) pa_nil))) (nomark _))
              (pw_or1 (pt_cmpR op_ne (pe_callB call_isi (by rfl) N.isi (by decide +kernel) (pa_cons (pv 0) (pa_cons (pe_bltn (by rfl) N.tup (by decide +kernel) (show RelV (.ty "tuple") (.type "tuple") from rfl)) pa_nil)))
                (pe_callB call_isi (by rfl) N.isi (by decide +kernel) (pa_cons (pv 1) (pa_cons (pe_bltn (by rfl) N.tup (by decide +kernel) (show RelV (.ty "tuple") (.type "tuple") from rfl)) pa_nil))) (nomark _)))))
            pss_never pss_nil)
        (pss_one (ps_ret (pe_and (pe_cmpR op_eq (pe_callB call_len_seq (by rfl) N.len PySem.boot_len (pa_cons (pv 0) pa_nil)) (pe_callB call_len_seq (by rfl) N.len PySem.boot_len (pa_cons (pv 1) pa_nil)) (nomark _))
          (pe_one (pe_callB (cr_all rfl) (by rfl) N.all (by decide +kernel) (pa_cons
            (pe_lc (own := [("_law_mine", 2), ("_law_its", 3)]) (g := gTup K 2 (gCons (gName 2) (gCons (gName 3) gNil))) (tt := tYes) rfl nd (pi_zip (by rfl) N.zip (pa_cons (pv 0) (pa_cons (pv 1) pa_nil))) (blkOk_by (N := nSame) (sc := defScope (top 14)) (by decide +kernel))
              (fun _ _ _ _ _ => pg_tup rfl (pgs_cons (pg_name (i := 2) nd rfl (Or.inl rfl)) (pgs_cons (pg_name (i := 3) nd rfl (Or.inl rfl)) pgs_nil))) (fun _ _ _ _ _ => pts_nil)
              (fun _ _ _ _ _ => pe_call G hr (by rfl) gS F.kp bS .nil pass0 (pa_cons (pv 2) (pa_cons (pv 3) pa_nil)))) pa_nil))))))) pss_nil) pss_never)
      , ?_⟩)
  · obtain ⟨a, b, xs, rfl, _⟩ := h
    rfl
  · obtain ⟨a, b, xs, rfl, ha, hb, sc, small, q⟩ := h
    refine ⟨_, rfl, by show 2 ≤ sizeLine; decide, fun p1 n1 => ?_⟩
    have k1 : Keeps H (upd H p1 (.tup [.ty "list", .ty "tuple"])) := Keeps.new n1
    have ha1 := k1 _ _ ha
    have hb1 := k1 _ _ hb
    refine ⟨_, _, _, _, _, _, rfl, upd_same, .cons (.ty _) (.cons (.ty _) .nil), .base (.lst hb1), kit2 (r1 := true) (r2 := false) (by decide +kernel) (by decide +kernel), _, rfl, ifT rfl ?_⟩
    refine ⟨_, rfl, _, _, _, _, true, rfl, .ty _, .base (.lst ha1), kit_ty (by decide +kernel), _, rfl, _, _, _, _, true, rfl, .ty _, .base (.lst hb1), kit_ty (by decide +kernel), rfl, _, rfl, ifF rfl ?_⟩
    refine ⟨_, rfl, _, _, _, _, false, rfl, .ty _, .base (.lst ha1), kit_ty (by decide +kernel), _, rfl, _, _, _, _, false, rfl, .ty _, .base (.lst hb1), kit_ty (by decide +kernel), rfl, _, rfl, ifF rfl ?_⟩
    refine ⟨_, rfl, _, _, rfl, .inl (SqL.of ha1), _, rfl, _, _, rfl, .inl (SqL.of hb1), rfl, _, rfl, ifT (decide_eq_true rfl) ?_⟩
    refine ⟨_, rfl, _, rfl, _, _, _, _, rfl, SqL.of ha1, SqL.of hb1, fun D nD => ?_⟩
    have one : ∀ (i : Nat), (List.replicate i (V.bl true)) ++ [V.bl true] = List.replicate (i + 1) (V.bl true) := fun i => by
      rw [List.replicate_succ']
    refine lc_it (walk_zip (xs := xs) (ys := xs) (n := xs.length) (by simp)) (fun i H' => H' D = some (.lst (List.replicate i (.bl true))) ∧ Keeps (upd H p1 (.tup [.ty "list", .ty "tuple"])) H')
      ⟨upd_same, Keeps.new nD⟩ (fun i H' _ h => ⟨SqL.of (h.2 _ _ ha1), SqL.of (h.2 _ _ hb1)⟩) ?_ ?_
    · rintro i v H' H'' hi ⟨hD, kp⟩ ⟨T, x, y, rfl, nT, rfl, ex, ey⟩
      have ex : xs[i]? = some x := ex
      have ey : xs[i]? = some y := ey
      rw [ex] at ey
      cases ey
      have nDT : D ≠ T := ne_of_none hD nT
      refine ⟨T, _, rfl, SqT.of upd_same, rfl, _, _, rfl, _, _, rfl, rfl, rfl, ?_⟩
      refine ⟨_, rfl, _, rfl, x, rfl, sc x (List.mem_of_getElem? ex), fun H3 k3 => ?_⟩
      have hD3 : H3 D = some (.lst (List.replicate i (.bl true))) := k3 _ _ (by rw [upd_ne nDT]; exact hD)
      refine ⟨_, hD3, ?_, ?_, fun b o e => ?_⟩
      · rw [List.length_replicate, sizeLine_eq]
        omega
      · rw [upd_same, one]
      · have hb : b ≠ D := fun z => by
          rw [z, nD] at e
          cases e
        rw [upd_ne hb]
        exact k3 _ _ (Keeps.new nT b o (kp b o e))
    · rintro H' ⟨hD, kp⟩
      refine ⟨_, List.replicate xs.length true, rfl, SqL.of (by rw [List.map_replicate]; exact hD), ?_⟩
      have e : (List.replicate xs.length true).all id = true := by simp
      rw [e]
      exact q H' (k1.trans kp)
end
end K19H

namespace K19H
open PySem PySem.Spec PyProof.Rows L2
/-- what the module says of its nine error classes: the i-th lies at c i -/
structure EF (K : PySem.W.Frag) (mg : Str → Option Value) (c : Nat → Addr) : Prop where
  g0 : mg "Down" = some (.ref (c 0))
  g1 : mg "Up" = some (.ref (c 1))
  g2 : mg "NoGrace" = some (.ref (c 2))
  g3 : mg "NotBelieved" = some (.ref (c 3))
  g4 : mg "NotSaid" = some (.ref (c 4))
  g5 : mg "NotSeen" = some (.ref (c 5))
  g6 : mg "CannotBe" = some (.ref (c 6))
  g7 : mg "BadText" = some (.ref (c 7))
  g8 : mg "BadLine" = some (.ref (c 8))
  isc : ∀ i, i < 9 → IsC K (c i)
  own : ∀ i j, i < 9 → j < 9 → PySem.W.kitOne K (.ref (c i)) (.ref (c j)) = some (decide (i = j))
  rt : ∀ i, i < 9 → PySem.W.kitOne K (.ref (c i)) (.type "RuntimeError") = some (decide (i < 3))
  lk : ∀ i, i < 9 → PySem.W.kitOne K (.ref (c i)) (.type "LookupError") = some (decide (2 < i ∧ i < 6))
  ve : ∀ i, i < 9 → PySem.W.kitOne K (.ref (c i)) (.type "ValueError") = some (decide (5 < i))
  odd : ∀ i, i < 9 → ∀ t ∈ ["KeyError", "IndexError", "TypeError", "NotImplementedError", "ArithmeticError"], PySem.W.kitOne K (.ref (c i)) (.type t) = some false
  fRt : mg "RuntimeError" = none
  fLk : mg "LookupError" = none
  fVe : mg "ValueError" = none
  fKe : mg "KeyError" = none
  fIe : mg "IndexError" = none
  fTe : mg "TypeError" = none
  fNi : mg "NotImplementedError" = none
  fAe : mg "ArithmeticError" = none
def flagsV (i : Nat) : List V := ((List.range 9).map fun j => V.bl (decide (i = j))) ++ [.bl (decide (i < 3)), .bl (decide (2 < i ∧ i < 6)), .bl (decide (5 < i))]
section
variable {P : Program} {w : World} {K : PySem.W.Frag} {mg : Str → Option Value} {base : Heap} {f : Addr} {fd : FuncData} {c : Nat → Addr}
abbrev nFlags : List Str := ["_law_error", "_law_some"]
theorem scFlags : FnScope nFlags ["_law_error"] (defScope (top 15)) := ⟨rfl, rfl, rfl, by decide +kernel, rfl, by decide +kernel, by decide +kernel⟩
def spFlags (c : Nat → Addr) : Sp := fun vs H Q _ => ∃ (a : Addr) (i : Nat) (fs : List (Str × V)), vs = [.ref a] ∧ i < 9 ∧ ErrAt H a (c i) fs ∧ ∀ (p : Addr) (H' : Hp), Keeps H H' → H' p = some (.lst (flagsV i)) → Q (.ref p) H'
theorem ok_flags (F : FnP K "_law_flags" (top 15) f fd) (N : Nm mg) (T : EF K mg c) : FnOk P w K mg base CX0 1 f fd ["_law_error"] (spFlags c) := by
  have nd := scFlags.nd
  refine F.ok scFlags (fun vs H Q E h => ?_) (fun cdv A outer s H vs Q E hr h => ⟨_, PSs.nox (pss_cons
      (ps_set (i := 1) nd rfl (Or.inl rfl) (pe_lst (pa_cons (pe_callB call_isErr (by rfl) N.isi (by decide +kernel) (pa_cons (pv 0) (pa_cons (pe_glob (by rfl) T.g0 (show RelV (.ref _) (.ref _) from rfl)) pa_nil))) (pa_cons (pe_callB call_isErr (by rfl) N.isi (by decide +kernel) (pa_cons (pv 0) (pa_cons (pe_glob (by rfl) T.g1 (show RelV (.ref _) (.ref _) from rfl)) pa_nil))) (pa_cons (pe_callB call_isErr (by rfl) N.isi (by decide +kernel) (pa_cons (pv 0) (pa_cons (pe_glob (by rfl) T.g2 (show RelV (.ref _) (.ref _) from rfl)) pa_nil))) pa_nil)))))
      (pss_cons (ps_set (i := 1) nd rfl (Or.inl rfl) (pe_op op_cat (pv 1) (pe_lst (pa_cons (pe_callB call_isErr (by rfl) N.isi (by decide +kernel) (pa_cons (pv 0) (pa_cons (pe_glob (by rfl) T.g3 (show RelV (.ref _) (.ref _) from rfl)) pa_nil))) (pa_cons (pe_callB call_isErr (by rfl) N.isi (by decide +kernel) (pa_cons (pv 0) (pa_cons (pe_glob (by rfl) T.g4 (show RelV (.ref _) (.ref _) from rfl)) pa_nil))) (pa_cons (pe_callB call_isErr (by rfl) N.isi (by decide +kernel) (pa_cons (pv 0) (pa_cons (pe_glob (by rfl) T.g5 (show RelV (.ref _) (.ref _) from rfl)) pa_nil))) pa_nil))))))
      (pss_cons (ps_set (i := 1) nd rfl (Or.inl rfl) (pe_op op_cat (pv 1) (pe_lst (pa_cons (pe_callB call_isErr (by rfl) N.isi (by decide +kernel) (pa_cons (pv 0) (pa_cons (pe_glob (by rfl) T.g6 (show RelV (.ref _) (.ref _) from rfl)) pa_nil))) (pa_cons (pe_callB call_isErr (by rfl) N.isi (by decide +kernel) (pa_cons (pv 0) (pa_cons (pe_glob (by rfl) T.g7 (show RelV (.ref _) (.ref _) from rfl)) pa_nil))) (pa_cons (pe_callB call_isErr (by rfl) N.isi (by decide +kernel) (pa_cons (pv 0) (pa_cons (pe_glob (by rfl) T.g8 (show RelV (.ref _) (.ref _) from rfl)) pa_nil))) pa_nil))))))
      (pss_one (ps_ret (pe_op op_cat (pv 1) (pe_lst (pa_cons (pe_callB call_isErr (by rfl) N.isi (by decide +kernel) (pa_cons (pv 0) (pa_cons (pe_bltn (by rfl) T.fRt (by decide +kernel) (show RelV (.ty "RuntimeError") (.type "RuntimeError") from rfl)) pa_nil))) (pa_cons (pe_callB call_isErr (by rfl) N.isi (by decide +kernel) (pa_cons (pv 0) (pa_cons (pe_bltn (by rfl) T.fLk (by decide +kernel) (show RelV (.ty "LookupError") (.type "LookupError") from rfl)) pa_nil))) (pa_cons (pe_callB call_isErr (by rfl) N.isi (by decide +kernel) (pa_cons (pv 0) (pa_cons (pe_bltn (by rfl) T.fVe (by decide +kernel) (show RelV (.ty "ValueError") (.type "ValueError") from rfl)) pa_nil))) pa_nil)))))))))), ?_⟩)
  · obtain ⟨a, i, fs, rfl, _⟩ := h
    rfl
  · obtain ⟨a, i, fs, rfl, hi, he, q⟩ := h
    have S := T.isc i hi
    refine ⟨_, rfl, _, _, _, _, _, _, rfl, he, S, .own _, T.own i 0 hi (by decide), _, rfl, _, _, _, _, _, _, rfl, he, S, .own _, T.own i 1 hi (by decide), _, rfl, _, _, _, _, _, _, rfl, he, S, .own _, T.own i 2 hi (by decide), by show 3 ≤ sizeLine; decide, fun p1 n1 => ?_⟩
    refine ⟨_, rfl, _, rfl, _, _, _, _, _, _, rfl, (he.ext (Keeps.new n1)), S, .own _, T.own i 3 hi (by decide), _, rfl, _, _, _, _, _, _, rfl, (he.ext (Keeps.new n1)), S, .own _, T.own i 4 hi (by decide), _, rfl, _, _, _, _, _, _, rfl, (he.ext (Keeps.new n1)), S, .own _, T.own i 5 hi (by decide), by show 3 ≤ sizeLine; decide, fun p2 n2 => ?_⟩
    refine ⟨_, _, _, _, rfl, rfl, (by rw [upd_ne (ne_of_none upd_same n2), upd_same]), upd_same, by show 6 ≤ sizeLine; decide, fun p3 n3 => ?_⟩
    refine ⟨_, rfl, _, rfl, _, _, _, _, _, _, rfl, (he.ext (((Keeps.new n1).trans (Keeps.new n2)).trans (Keeps.new n3))), S, .own _, T.own i 6 hi (by decide), _, rfl, _, _, _, _, _, _, rfl, (he.ext (((Keeps.new n1).trans (Keeps.new n2)).trans (Keeps.new n3))), S, .own _, T.own i 7 hi (by decide), _, rfl, _, _, _, _, _, _, rfl, (he.ext (((Keeps.new n1).trans (Keeps.new n2)).trans (Keeps.new n3))), S, .own _, T.own i 8 hi (by decide), by show 3 ≤ sizeLine; decide, fun p4 n4 => ?_⟩
    refine ⟨_, _, _, _, rfl, rfl, (by rw [upd_ne (ne_of_none upd_same n4), upd_same]), upd_same, by show 9 ≤ sizeLine; decide, fun p5 n5 => ?_⟩
    refine ⟨_, rfl, _, rfl, _, _, _, _, _, _, rfl, (he.ext (((((Keeps.new n1).trans (Keeps.new n2)).trans (Keeps.new n3)).trans (Keeps.new n4)).trans (Keeps.new n5))), S, .ty _, T.rt i hi, _, rfl, _, _, _, _, _, _, rfl, (he.ext (((((Keeps.new n1).trans (Keeps.new n2)).trans (Keeps.new n3)).trans (Keeps.new n4)).trans (Keeps.new n5))), S, .ty _, T.lk i hi, _, rfl, _, _, _, _, _, _, rfl, (he.ext (((((Keeps.new n1).trans (Keeps.new n2)).trans (Keeps.new n3)).trans (Keeps.new n4)).trans (Keeps.new n5))), S, .ty _, T.ve i hi, by show 3 ≤ sizeLine; decide, fun p6 n6 => ?_⟩
    refine ⟨_, _, _, _, rfl, rfl, (by rw [upd_ne (ne_of_none upd_same n6), upd_same]), upd_same, by show 12 ≤ sizeLine; decide, fun p7 n7 => ?_⟩
    exact q p7 _ (((((((Keeps.new n1).trans (Keeps.new n2)).trans (Keeps.new n3)).trans (Keeps.new n4)).trans (Keeps.new n5)).trans (Keeps.new n6)).trans (Keeps.new n7)) upd_same
abbrev nOdd : List Str := ["_law_error", "_law_some"]
theorem scOdd : FnScope nOdd ["_law_error"] (defScope (top 16)) := ⟨rfl, rfl, rfl, by decide +kernel, rfl, by decide +kernel, by decide +kernel⟩
def spOdd (c : Nat → Addr) : Sp := fun vs H Q _ => ∃ (a : Addr) (i : Nat) (fs : List (Str × V)), vs = [.ref a] ∧ i < 9 ∧ ErrAt H a (c i) fs ∧ ∀ (H' : Hp), Keeps H H' → Q (.bl false) H'
theorem ok_odd (F : FnP K "_law_is_odd" (top 16) f fd) (N : Nm mg) (T : EF K mg c) : FnOk P w K mg base CX0 1 f fd ["_law_error"] (spOdd c) := by
  have nd := scOdd.nd
  refine F.ok scOdd (fun vs H Q E h => ?_) (fun cdv A outer s H vs Q E hr h => ⟨_, PSs.nox (pss_cons
      (ps_set (i := 1) nd rfl (Or.inl rfl) (pe_lst (pa_cons (pe_callB call_isErr (by rfl) N.isi (by decide +kernel) (pa_cons (pv 0) (pa_cons (pe_bltn (by rfl) T.fKe (by decide +kernel) (show RelV (.ty "KeyError") (.type "KeyError") from rfl)) pa_nil))) (pa_cons (pe_callB call_isErr (by rfl) N.isi (by decide +kernel) (pa_cons (pv 0) (pa_cons (pe_bltn (by rfl) T.fIe (by decide +kernel) (show RelV (.ty "IndexError") (.type "IndexError") from rfl)) pa_nil))) (pa_cons (pe_callB call_isErr (by rfl) N.isi (by decide +kernel) (pa_cons (pv 0) (pa_cons (pe_bltn (by rfl) T.fTe (by decide +kernel) (show RelV (.ty "TypeError") (.type "TypeError") from rfl)) pa_nil))) pa_nil)))))
      (pss_one (ps_ret (pe_cmpR op_in_seq pe_bl (pe_op op_cat (pv 1) (pe_lst (pa_cons (pe_callB call_isErr (by rfl) N.isi (by decide +kernel) (pa_cons (pv 0) (pa_cons (pe_bltn (by rfl) T.fNi (by decide +kernel) (show RelV (.ty "NotImplementedError") (.type "NotImplementedError") from rfl)) pa_nil))) (pa_cons (pe_callB call_isErr (by rfl) N.isi (by decide +kernel) (pa_cons (pv 0) (pa_cons (pe_bltn (by rfl) T.fAe (by decide +kernel) (show RelV (.ty "ArithmeticError") (.type "ArithmeticError") from rfl)) pa_nil))) pa_nil)))) (by rfl))))), ?_⟩)
  · obtain ⟨a, i, fs, rfl, _⟩ := h
    rfl
  · obtain ⟨a, i, fs, rfl, hi, he, q⟩ := h
    have S := T.isc i hi
    refine ⟨_, rfl, _, _, _, _, _, _, rfl, he, S, .ty _, T.odd i hi _ (by simp), _, rfl, _, _, _, _, _, _, rfl, he, S, .ty _, T.odd i hi _ (by simp), _, rfl, _, _, _, _, _, _, rfl, he, S, .ty _, T.odd i hi _ (by simp), by show 3 ≤ sizeLine; decide, fun p1 n1 => ?_⟩
    refine ⟨_, rfl, _, rfl, _, _, _, _, _, _, rfl, (he.ext (Keeps.new n1)), S, .ty _, T.odd i hi _ (by simp), _, rfl, _, _, _, _, _, _, rfl, (he.ext (Keeps.new n1)), S, .ty _, T.odd i hi _ (by simp), by show 2 ≤ sizeLine; decide, fun p2 n2 => ?_⟩
    refine ⟨_, _, _, _, rfl, rfl, (by rw [upd_ne (ne_of_none upd_same n2), upd_same]), upd_same, by show 5 ≤ sizeLine; decide, fun p3 n3 => ?_⟩
    exact ⟨_, _, rfl, .inl (SqL.of upd_same), rfl, rfl, q _ (((Keeps.new n1).trans (Keeps.new n2)).trans (Keeps.new n3))⟩
end
end K19H

namespace K19H
open PySem PySem.Spec PyProof.Rows L2
theorem due_is (i : Nat) (hi : i < 9) (m : Bool) (hm : m = (decide ((2 : Int) < 0 + (i : Int)) && decide ((0 + (i : Int)) < 6))) : ((List.range 9).map fun j : Nat => V.bl (decide (V.int (0 + (j : Int)) = V.int (0 + (i : Int))))) ++ [V.bl (decide ((0 + (i : Int)) < 3)), V.bl m, V.bl (decide ((5 : Int) < 0 + (i : Int)))] = flagsV i := by
  subst hm
  unfold flagsV
  have e : ∀ j : Nat, V.bl (decide (V.int (0 + (j : Int)) = V.int (0 + (i : Int)))) = V.bl (decide (i = j)) := fun j => by
    congr 1
    refine decide_eq_decide.mpr ⟨fun z => ?_, fun z => by rw [z]⟩
    have z2 := V.int.inj z
    omega
  have e1 : decide ((0 + (i : Int)) < 3) = decide (i < 3) := decide_eq_decide.mpr (by omega)
  have e2 : (decide ((2 : Int) < 0 + (i : Int)) && decide ((0 + (i : Int)) < 6)) = decide (2 < i ∧ i < 6) := by
    rw [← Bool.decide_and]
    exact decide_eq_decide.mpr (by omega)
  have e3 : decide ((5 : Int) < 0 + (i : Int)) = decide (5 < i) := decide_eq_decide.mpr (by omega)
  rw [e1, e2, e3]
  congr 1
  exact List.map_congr_left fun j _ => e j
theorem flags_sc (i : Nat) : ∀ x ∈ flagsV i, Sc x := fun x hx => by
  unfold flagsV at hx
  rcases List.mem_append.mp hx with hx | hx
  · obtain ⟨j, _, rfl⟩ := List.mem_map.mp hx
    exact .bl _
  · simp only [List.mem_cons, List.not_mem_nil, or_false] at hx
    rcases hx with rfl | rfl | rfl <;> exact .bl _
section
variable {P : Program} {w : World} {K : PySem.W.Frag} {mg : Str → Option Value} {base : Heap} {f fS fF fO : Addr} {fd fdS fdF fdO : FuncData} {c : Nat → Addr}
abbrev nFr : List Str := ["_law_errors", "_law_k", "_law_due", "_law_its"]
theorem scFr : FnScope nFr ["_law_errors"] (defScope (top 17)) := ⟨rfl, rfl, rfl, by decide +kernel, rfl, by decide +kernel, by decide +kernel⟩
def spFr (c : Nat → Addr) : Sp := fun vs H Q _ => ∃ (a : Addr) (ad : Nat → Addr), vs = [.ref a] ∧ H a = some (.lst ((List.range 9).map fun i => V.ref (ad i))) ∧ (∀ i, i < 9 → ∃ fs, ErrAt H (ad i) (c i) fs) ∧ ∀ H', Keeps H H' → Q (.bl true) H'
theorem ok_fr (F : FnP K "_law_flags_right" (top 17) f fd) (N : Nm mg) (T : EF K mg c) (FS : FnP K "_law_same" (top 14) fS fdS) (gS : mg "_law_same" = some (.ref fS)) (FF : FnP K "_law_flags" (top 15) fF fdF) (gF : mg "_law_flags" = some (.ref fF))
    (FO : FnP K "_law_is_odd" (top 16) fO fdO) (gO : mg "_law_is_odd" = some (.ref fO)) : FnOk P w K mg base CX0 3 f fd ["_law_errors"] (spFr c) := by
  have nd := scFr.nd
  have GS : FnOk P w K mg base CX0 2 fS fdS ["_law_found", "_law_due"] spS2 := ok_same2 FS N gS
  have bS : Binds K fdS ["_law_found", "_law_due"] [] := FunD.bindsN FS fun _ _ _ _ _ _ us hl => match us, hl with | [_, _], _ => rfl
  have GF : FnOk P w K mg base CX0 1 fF fdF ["_law_error"] (spFlags c) := ok_flags FF N T
  have bF : Binds K fdF ["_law_error"] [] := FunD.bindsN FF fun _ _ _ _ _ _ us hl => match us, hl with | [_], _ => rfl
  have GO : FnOk P w K mg base CX0 1 fO fdO ["_law_error"] (spOdd c) := ok_odd FO N T
  have bO : Binds K fdO ["_law_error"] [] := FunD.bindsN FO fun _ _ _ _ _ _ us hl => match us, hl with | [_], _ => rfl
  refine F.ok scFr (fun vs H Q E h => ?_) (fun cdv A outer s H vs Q E hr h => ⟨_, PSs.nox (pss_cons
      (ps_for PassesOwn.never rfl (pi_range1 (by rfl) N.range (pa_cons pe_int pa_nil)) (pg_name (i := 1) nd rfl (Or.inr rfl))
        (pss_cons (ps_set (i := 2) nd rfl (Or.inl rfl) (pe_op op_cat
            (pe_lc (own := [("_law_its", 3)]) (g := gName 3) (tt := tYes) rfl nd (pi_range1 (by rfl) N.range (pa_cons pe_int pa_nil)) (blkOk_by (N := nFr) (sc := defScope (top 17)) (by decide +kernel))
              (fun _ _ _ _ _ => pg_name (i := 3) nd rfl (Or.inl rfl)) (fun _ _ _ _ _ => pts_nil) (fun _ _ _ _ _ => pe_cmpR op_eq (pv 3) (pv 1) (nomark _)))
            (pe_lst (pa_cons (pe_cmpR op_lt (pv 1) pe_int (nomark _)) (pa_cons (pe_chain op_lt op_lt pe_int (pv 1) pe_int) (pa_cons (pe_cmpR op_gt (pv 1) pe_int (nomark _)) pa_nil))))))
        (pss_one (ps_if (PW.pt (pw_or (pt_not (pt_val (pe_call GS (hr.mono (by decide)) (by rfl) gS FS.kp bS .nil pass0 (pa_cons (pe_call GF (hr.mono (by decide)) (by rfl) gF FF.kp bF .nil pass0 (pa_cons (pe_ix ix_list (pv 0) (pv 1) (fun _ _ => rfl)) pa_nil)) (pa_cons (pv 2) pa_nil)))))
              (pw_or1 (pt_val (pe_call GO (hr.mono (by decide)) (by rfl) gO FO.kp bO .nil pass0 (pa_cons (pe_ix ix_list (pv 0) (pv 1) (fun _ _ => rfl)) pa_nil))))))
            pss_never pss_nil))))
      (pss_one (ps_ret pe_bl))), ?_⟩)
  · obtain ⟨a, ad, rfl, _⟩ := h
    rfl
  · obtain ⟨a, ad, rfl, ha, he, q⟩ := h
    refine ⟨9, rfl, by decide, by decide, for_it walk_range (fun _ σ H' => ∃ x1 x2 x3 : Option V, σ = [some (.ref a), x1, x2, x3] ∧ Keeps H H') ⟨none, none, none, rfl, fun b o e => e⟩ (fun _ _ _ _ _ => trivial) ?_ ?_⟩
    · rintro i x σ H1 H1' hi ⟨x1, x2, x3, rfl, k1⟩ ⟨rfl, rfl⟩
      have hi : i < 9 := hi
      refine ⟨9, rfl, by decide, by decide, fun D nD => ?_⟩
      refine lc_it walk_range (fun j H2 => H2 D = some (.lst ((List.range j).map fun j : Nat => V.bl (decide (V.int (0 + (j : Int)) = V.int (0 + (i : Int)))))) ∧ Keeps H1' H2) ⟨upd_same, Keeps.new nD⟩ (fun _ _ _ _ => trivial) ?_ ?_
      · rintro j y H2 H2' hj ⟨hD, k2⟩ ⟨rfl, rfl⟩
        refine ⟨rfl, ?_⟩
        refine ⟨_, rfl, _, rfl, rfl, _, hD, ?_, ?_, fun b o e => ?_⟩
        · have hj : j < 9 := hj
          rw [List.length_map, List.length_range, sizeLine_eq]
          omega
        · rw [upd_same, List.range_succ, List.map_append]
          rfl
        · have hb : b ≠ D := fun z => by
            rw [z, nD] at e
            cases e
          rw [upd_ne hb]
          exact k2 b o e
      · rintro H2 ⟨hD, k2⟩
        refine ⟨_, rfl, _, _, rfl, rfl, _, rfl, _, _, rfl, rfl, _, rfl, ?_⟩
        by_cases ci : (2 : Int) < 0 + (i : Int)
        · refine ifT (decide_eq_true ci) ⟨_, _, rfl, rfl, ?_⟩
          refine ⟨_, rfl, _, _, rfl, rfl, (by show 3 ≤ sizeLine; decide), fun p3 n3 => ?_⟩
          refine ⟨_, _, _, _, rfl, rfl, (by rw [upd_ne (ne_of_none hD n3)]; exact hD), upd_same, (by rw [List.length_map, List.length_range]; show 12 ≤ sizeLine; decide), fun p4 n4 => ?_⟩
          have k4 := (k1.trans k2).trans ((Keeps.new n3).trans (Keeps.new n4 (o := .lst (((List.range 9).map fun j : Nat => V.bl (decide (V.int (0 + (j : Int)) = V.int (0 + (i : Int))))) ++ [V.bl (decide ((0 + (i : Int)) < 3)), V.bl (decide ((0 + (i : Int)) < 6)), V.bl (decide ((5 : Int) < 0 + (i : Int)))]))))
          obtain ⟨fs, hei⟩ := he i hi
          have at1 : atI ((List.range 9).map fun i => V.ref (ad i)) (0 + (i : Int)) = some (V.ref (ad i)) := by
            rw [Int.zero_add]
            refine atI_nat ?_
            rw [List.getElem?_map, List.getElem?_range hi]
            rfl
          refine ⟨_, rfl, _, rfl, _, _, _, _, rfl, rfl, SqL.of (k4 _ _ ha), at1, ad i, i, fs, rfl, hi, hei.ext k4, fun p5 H5 k5 h5 => ?_⟩
          refine ⟨_, rfl, p5, p4, flagsV i, rfl, h5, k5 _ _ (upd_same.trans (congrArg (fun l => some (HO.lst l)) (due_is i hi _ (by rw [decide_eq_true ci]; rfl)))), flags_sc i, by show 12 ≤ 1000; decide, fun H6 k6 => ?_⟩
          refine ⟨_, rfl, ifF rfl ?_⟩
          have k46 := (k4.trans k5).trans k6
          refine ⟨_, rfl, _, rfl, _, _, _, _, rfl, rfl, SqL.of (k46 _ _ ha), at1, ad i, i, fs, rfl, hi, hei.ext k46, fun H7 k7 => ?_⟩
          refine ⟨_, rfl, ifF rfl ?_⟩
          exact ⟨_, _, _, rfl, k46.trans k7⟩
        · refine ifF (decide_eq_false ci) ?_
          refine ⟨_, rfl, _, _, rfl, rfl, (by show 3 ≤ sizeLine; decide), fun p3 n3 => ?_⟩
          refine ⟨_, _, _, _, rfl, rfl, (by rw [upd_ne (ne_of_none hD n3)]; exact hD), upd_same, (by rw [List.length_map, List.length_range]; show 12 ≤ sizeLine; decide), fun p4 n4 => ?_⟩
          have k4 := (k1.trans k2).trans ((Keeps.new n3).trans (Keeps.new n4 (o := .lst (((List.range 9).map fun j : Nat => V.bl (decide (V.int (0 + (j : Int)) = V.int (0 + (i : Int))))) ++ [V.bl (decide ((0 + (i : Int)) < 3)), V.bl false, V.bl (decide ((5 : Int) < 0 + (i : Int)))]))))
          obtain ⟨fs, hei⟩ := he i hi
          have at1 : atI ((List.range 9).map fun i => V.ref (ad i)) (0 + (i : Int)) = some (V.ref (ad i)) := by
            rw [Int.zero_add]
            refine atI_nat ?_
            rw [List.getElem?_map, List.getElem?_range hi]
            rfl
          refine ⟨_, rfl, _, rfl, _, _, _, _, rfl, rfl, SqL.of (k4 _ _ ha), at1, ad i, i, fs, rfl, hi, hei.ext k4, fun p5 H5 k5 h5 => ?_⟩
          refine ⟨_, rfl, p5, p4, flagsV i, rfl, h5, k5 _ _ (upd_same.trans (congrArg (fun l => some (HO.lst l)) (due_is i hi _ (by rw [decide_eq_false ci]; rfl)))), flags_sc i, by show 12 ≤ 1000; decide, fun H6 k6 => ?_⟩
          refine ⟨_, rfl, ifF rfl ?_⟩
          have k46 := (k4.trans k5).trans k6
          refine ⟨_, rfl, _, rfl, _, _, _, _, rfl, rfl, SqL.of (k46 _ _ ha), at1, ad i, i, fs, rfl, hi, hei.ext k46, fun H7 k7 => ?_⟩
          refine ⟨_, rfl, ifF rfl ?_⟩
          exact ⟨_, _, _, rfl, k46.trans k7⟩
    · rintro σ H' ⟨x1, x2, x3, rfl, k1⟩
      exact q H' k1
end
end K19H

namespace L2
open PySem PySem.Spec PyProof.Rows
/-- a, b, c = x, y, z with plain local names: stored from the right -/
def tPar3 (i j k : Nat) (ta : TA) : TS := fun D σ H => ta σ H fun vs H1 => ∃ v w u, vs = [v, w, u] ∧ D.nx (((σ.set k (some u)).set j (some w)).set i (some v)) H1
section
variable {X : Cx}
theorem ps_par3 {i j k : Nat} {x y z : Str} {a b c : Expr} {ta : TA} {px py pz pt pos : Pos} {kt k2 pt2} (hc : X.calm = true) (hN : X.N.Nodup) (hi : X.N[i]? = some x) (hj : X.N[j]? = some y) (hk : X.N[k]? = some z)
    (hx : X.env.scope.names.lookup x = some .local) (hy : X.env.scope.names.lookup y = some .local) (hz : X.env.scope.names.lookup z = some .local) (ha : PA X [a, b, c] ta)
    (hw : swappedStores [.Tuple [.Name x px, .Name y py, .Name z pz] kt pt] (.Tuple [a, b, c] k2 pt2) X.env = pure (some [x, y, z]))
    (hs : swapsWithSole [.Tuple [.Name x px, .Name y py, .Name z pz] kt pt] (.Tuple [a, b, c] k2 pt2) pos.line X.env = pure false := by rfl) :
    PS X (.Assign [.Tuple [.Name x px, .Name y py, .Name z pz] kt pt] (.Tuple [a, b, c] k2 pt2) pos) (tPar3 i j k ta) := by
  refine ⟨fun pins s σ H D I h => ?_⟩
  rw [exec_Assign_arm]
  refine wpAny_bind (wpAny_standAt ?_)
  rw [hs]
  refine wpAny_bind (wpAny_pure ?_)
  rw [if_neg (by decide)]
  refine wpAny_bind (Tuple_ (thn (ha.run _ pins s σ H _ I h) fun us s1 ⟨vs, H1, I1, r1, q1⟩ => ?_))
  obtain ⟨v, w, u, e1, q1⟩ := q1
  subst e1
  obtain ⟨u1, u2, u3, rfl, rv, rw', ru⟩ : ∃ u1 u2 u3, us = [u1, u2, u3] ∧ RelV v u1 ∧ RelV w u2 ∧ RelV u u3 := by
    cases r1 with
    | cons p q =>
      cases q with
      | cons p' q' =>
        cases q' with
        | cons p'' q'' =>
          cases q''
          exact ⟨_, _, _, rfl, p, p', p''⟩
  refine wpAny_newObj_type ?_ (by show 3 ≤ sizeLine; decide)
  have I2 : Inv X pins σ H1 { s1 with heap := s1.heap.push { cls := .type "tuple", data := .seq [u1, u2, u3].toArray } } := I1.kept (t' := s1.toks) fun b o e => Heap.get?_push_of_some _ e
  rw [hw]
  refine wpAny_bind (wpAny_pure ?_)
  show wpAny (model X.prog X.w) X.A (do rule "assign.swapped-stores"; let items ← unpackItems (.ref s1.heap.objs.size) 3 none; assignInOrder [fun v => bindName X.env z v, fun v => bindName X.env y v, fun v => bindName X.env x v] items.reverse; pure Flow.next) _ _ _
  refine wpAny_bind (wpAny_rule (wpAny_bind (unpackItems_tuple (items := #[u1, u2, u3]) (I.ok.hd hc) (IsTup.new s1.heap _) fun h' hx' => ?_)))
  have I3 := I2.kept (h' := h') (t' := s1.toks) fun b o e => hx' b o (Nat.ne_of_lt (Heap.lt_size e)) e
  show wpAny _ _ (assignInOrder [fun v => bindName X.env z v, fun v => bindName X.env y v, fun v => bindName X.env x v] [u3, u2, u1] >>= fun _ => pure Flow.next) _ _ _
  refine wpAny_bind (assignInOrder_cons (wpAny_bindName (store_ok I3 hN hk (.inl hz) ru (fun s2 I4 => ?_) (.inr hz))))
  refine assignInOrder_cons (wpAny_bindName (store_ok I4 hN hj (.inl hy) rw' (fun s3 I5 => ?_) (.inr hy)))
  refine assignInOrder_cons (wpAny_bindName (store_ok I5 hN hi (.inl hx) rv (fun s4 I6 => assignInOrder_nil (wpAny_pure ?_)) (.inr hx)))
  exact ⟨_, H1, I6, q1⟩
end
end L2
namespace K19H
open PySem PySem.Spec PyProof.Rows L2
abbrev nRight : List Str := ["_law_box_here", "_law_c", "_law_u", "_law_k", "_law_plain", "_law_soft", "_law_errors", "_law_told"]
theorem scRight : FnScope nRight ["_law_box_here"] (defScope (top 18)) := ⟨rfl, rfl, rfl, by decide +kernel, rfl, by decide +kernel, by decide +kernel⟩
section
variable {P : Program} {w : World} {K : PySem.W.Frag} {mg : Str → Option Value} {base : Heap} {f fT fS fR : Addr} {fd fdT fdS fdR : FuncData} {c : Nat → Addr}
/-- how the nine are made -/
structure MkF (P : Program) (w : World) (K : PySem.W.Frag) (mg : Str → Option Value) (c : Nat → Addr) : Prop where
  kp : ∀ i, i < 9 → PySem.W.keepIn K (.ref (c i)) = true
  m0 : ∀ i ∈ [0, 1, 2, 6, 7], MakesX P w K mg (c i) [] [] []
  mcu : ∀ i ∈ [3, 4], ∀ us : List Value, us.length = 2 → MakesX P w K mg (c i) us [] [("unit", us.getD 1 .none), ("client", us.getD 0 .none)]
  kcu : ∀ i ∈ [3, 4], ∀ us : List Value, us.length = 2 → MakesX P w K mg (c i) [] ((["unit", "client"] : List Str).zip us) [("unit", us.getD 0 .none), ("client", us.getD 1 .none)]
  mu : ∀ us : List Value, us.length = 1 → MakesX P w K mg (c 5) us [] [("unit", us.getD 0 .none)]
  ku : ∀ us : List Value, us.length = 1 → MakesX P w K mg (c 5) [] ((["unit"] : List Str).zip us) [("unit", us.getD 0 .none)]
  mn : ∀ us : List Value, us.length = 1 → MakesX P w K mg (c 8) us [] [("number", us.getD 0 .none)]
  kn : ∀ us : List Value, us.length = 1 → MakesX P w K mg (c 8) [] ((["number"] : List Str).zip us) [("number", us.getD 0 .none)]
  nc : ∀ i ∈ [3, 4], PySem.W.findIn K (.ref (c i)) "client" = some none
  nu : ∀ i ∈ [3, 4, 5], PySem.W.findIn K (.ref (c i)) "unit" = some none
  nn : PySem.W.findIn K (.ref (c 8)) "number" = some none
def nsCU (vs : List V) : List (Str × V) := [("unit", vs.getD 1 .non), ("client", vs.getD 0 .non)]
def lCU (us : List Value) : List (Str × Value) := [("unit", us.getD 1 .none), ("client", us.getD 0 .none)]
def nsUC (vs : List V) : List (Str × V) := [("unit", vs.getD 0 .non), ("client", vs.getD 1 .non)]
def lUC (us : List Value) : List (Str × Value) := [("unit", us.getD 0 .none), ("client", us.getD 1 .none)]
def ns1 (n : Str) (vs : List V) : List (Str × V) := [(n, vs.getD 0 .non)]
def l1 (n : Str) (us : List Value) : List (Str × Value) := [(n, us.getD 0 .none)]
theorem relO_cons {k : Str} {v : V} {u : Value} {l : List (Str × V)} {m : List (Str × Value)} (r : RelV v u) (h : ∀ f, RelO (l.lookup f) (m.lookup f)) (f : Str) : RelO (((k, v) :: l).lookup f) (((k, u) :: m).lookup f) := by
  by_cases e : f = k
  · subst e
    simp only [List.lookup, beq_self_eq_true]
    exact r
  · have b : (f == k) = false := by simpa using e
    simp only [List.lookup, b]
    exact h f
theorem relO_nil (f : Str) : RelO (([] : List (Str × V)).lookup f) (([] : List (Str × Value)).lookup f) := trivial
theorem relCU (vs : List V) (us : List Value) (r : Vals vs us) (h : vs.length = 2) (f : Str) : RelO ((nsCU vs).lookup f) ((lCU us).lookup f) := by
  match vs, us, r with
  | [_, _], [_, _], .cons r1 (.cons r2 .nil) => exact relO_cons r2 (relO_cons r1 relO_nil) f
  | [], _, _ => cases h
  | [_], _, _ => cases h
  | _ :: _ :: _ :: _, _, _ => cases h
theorem relUC (vs : List V) (us : List Value) (r : Vals vs us) (h : vs.length = 2) (f : Str) : RelO ((nsUC vs).lookup f) ((lUC us).lookup f) := by
  match vs, us, r with
  | [_, _], [_, _], .cons r1 (.cons r2 .nil) => exact relO_cons r1 (relO_cons r2 relO_nil) f
  | [], _, _ => cases h
  | [_], _, _ => cases h
  | _ :: _ :: _ :: _, _, _ => cases h
theorem rel1 (n : Str) (vs : List V) (us : List Value) (r : Vals vs us) (h : vs.length = 1) (f : Str) : RelO ((ns1 n vs).lookup f) ((l1 n us).lookup f) := by
  match vs, us, r with
  | [_], [_], .cons r1 .nil => exact relO_cons r1 relO_nil f
  | [], _, _ => cases h
  | _ :: _ :: _, _, _ => cases h
def spRight : Sp := fun vs H Q _ => ∃ (p : Addr) (i j : Int), vs = [.ref p] ∧ H p = some (.lst [.int i, .int j, .int 0]) ∧ 0 ≤ j ∧ j < 2 ^ 62 ∧ ∀ H', (∀ b o, b ≠ p → H b = some o → H' b = some o) → Q (.bl true) H'
/-- the fields that the i-th has -/
def fsOf (x y z : Int) (i : Nat) : List (Str × V) := if i = 3 ∨ i = 4 then [("unit", .int y), ("client", .int x)] else if i = 5 then [("unit", .int y)] else if i = 8 then [("number", .int z)] else []
/-- the nine at the addresses ad, the list of them at a -/
def Good (c : Nat → Addr) (x y z : Int) (H : Hp) (a : Addr) : Prop := ∃ ad : Nat → Addr, H a = some (.lst ((List.range 9).map fun i => V.ref (ad i))) ∧ ∀ i, i < 9 → ErrAt H (ad i) (c i) (fsOf x y z i)
theorem Good.ext {c : Nat → Addr} {x y z : Int} {H H' : Hp} {a : Addr} (h : Good c x y z H a) (k : Keeps H H') : Good c x y z H' a := by
  obtain ⟨ad, h1, h2⟩ := h
  exact ⟨ad, k _ _ h1, fun i hi => (h2 i hi).ext k⟩
theorem good_of {c : Nat → Addr} {x y z : Int} {H : Hp} {a a0 a1 a2 a3 a4 a5 a6 a7 a8 : Addr} (h : H a = some (.lst [.ref a0, .ref a1, .ref a2, .ref a3, .ref a4, .ref a5, .ref a6, .ref a7, .ref a8]))
    (e0 : ErrAt H a0 (c 0) []) (e1 : ErrAt H a1 (c 1) []) (e2 : ErrAt H a2 (c 2) []) (e3 : ErrAt H a3 (c 3) [("unit", .int y), ("client", .int x)]) (e4 : ErrAt H a4 (c 4) [("unit", .int y), ("client", .int x)]) (e5 : ErrAt H a5 (c 5) [("unit", .int y)])
    (e6 : ErrAt H a6 (c 6) []) (e7 : ErrAt H a7 (c 7) []) (e8 : ErrAt H a8 (c 8) [("number", .int z)]) : Good c x y z H a :=
  ⟨fun i => [a0, a1, a2, a3, a4, a5, a6, a7, a8].getD i 0, h, fun i hi => match i, hi with
    | 0, _ => e0 | 1, _ => e1 | 2, _ => e2 | 3, _ => e3 | 4, _ => e4 | 5, _ => e5 | 6, _ => e6 | 7, _ => e7 | 8, _ => e8⟩
theorem ok_right (F : FnP K "_law_right" (top 18) f fd) (N : Nm mg) (T : EF K mg c) (T2 : MkF P w K mg c) (FT : FnP K "_law_take" (top 12) fT fdT) (gT : mg "_law_take" = some (.ref fT)) (FS : FnP K "_law_same" (top 14) fS fdS) (gS : mg "_law_same" = some (.ref fS))
    (gR : mg "_law_flags_right" = some (.ref fR)) (kR : PySem.W.keepIn K (.ref fR) = true) (GR : FnOk P w K mg base CX0 3 fR fdR ["_law_errors"] (spFr c)) (bR : Binds K fdR ["_law_errors"] []) : FnOk P w K mg base CX0 4 f fd ["_law_box_here"] spRight := by
  have nd := scRight.nd
  have GS : FnOk P w K mg base CX0 2 fS fdS ["_law_found", "_law_due"] spS2 := ok_same2 FS N gS
  have bS : Binds K fdS ["_law_found", "_law_due"] [] := FunD.bindsN FS fun _ _ _ _ _ _ us hl => match us, hl with | [_, _], _ => rfl
  have GT : FnOk P w K mg base CX0 1 fT fdT ["_law_box_here", "_law_below"] spTake := ok_take FT N
  have bT : Binds K fdT ["_law_box_here", "_law_below"] [] := FunD.bindsN FT fun _ _ _ _ _ _ us hl => match us, hl with | [_, _], _ => rfl
  refine F.ok scRight (fun vs H Q E h => ?_) (fun cdv A outer s H vs Q E hr h => ⟨_, PSs.nox (pss_cons
      (ps_par3 (i := 1) (j := 2) (k := 3) rfl nd rfl rfl rfl rfl rfl rfl (pa_cons (pe_call GT (hr.mono (by decide)) (by rfl) gT FT.kp bT .nil pass0 (pa_cons (pv 0) (pa_cons pe_int pa_nil))) (pa_cons (pe_call GT (hr.mono (by decide)) (by rfl) gT FT.kp bT .nil pass0 (pa_cons (pv 0) (pa_cons pe_int pa_nil))) (pa_cons (pe_call GT (hr.mono (by decide)) (by rfl) gT FT.kp bT .nil pass0 (pa_cons (pv 0) (pa_cons pe_int pa_nil))) pa_nil))) (by rfl))
      (pss_cons (ps_set (i := 4) nd rfl (Or.inl rfl) (pe_lst (pa_cons (pe_err0 (T2.kp 0 (by decide)) (by rfl) T.g0 (T2.m0 0 (by simp)) (hr.mono (by decide))) (pa_cons (pe_err0 (T2.kp 1 (by decide)) (by rfl) T.g1 (T2.m0 1 (by simp)) (hr.mono (by decide))) (pa_cons (pe_err0 (T2.kp 2 (by decide)) (by rfl) T.g2 (T2.m0 2 (by simp)) (hr.mono (by decide))) (pa_cons (pe_err (ns := nsCU) (n := 2) (T2.kp 3 (by decide)) (by rfl) T.g3 lCU (fun _ _ => List.cons_ne_nil _ _) (T2.mcu 3 (by simp)) relCU (hr.mono (by decide)) (pa_cons (pv 1) (pa_cons (pv 2) pa_nil))) (pa_cons (pe_err (ns := nsCU) (n := 2) (T2.kp 4 (by decide)) (by rfl) T.g4 lCU (fun _ _ => List.cons_ne_nil _ _) (T2.mcu 4 (by simp)) relCU (hr.mono (by decide)) (pa_cons (pv 1) (pa_cons (pv 2) pa_nil))) (pa_cons (pe_err (ns := (ns1 "unit")) (n := 1) (T2.kp 5 (by decide)) (by rfl) T.g5 (l1 "unit") (fun _ _ => List.cons_ne_nil _ _) T2.mu (rel1 _) (hr.mono (by decide)) (pa_cons (pv 2) pa_nil)) (pa_cons (pe_err0 (T2.kp 6 (by decide)) (by rfl) T.g6 (T2.m0 6 (by simp)) (hr.mono (by decide))) (pa_cons (pe_err0 (T2.kp 7 (by decide)) (by rfl) T.g7 (T2.m0 7 (by simp)) (hr.mono (by decide))) (pa_cons (pe_err (ns := (ns1 "number")) (n := 1) (T2.kp 8 (by decide)) (by rfl) T.g8 (l1 "number") (fun _ _ => List.cons_ne_nil _ _) T2.mn (rel1 _) (hr.mono (by decide)) (pa_cons (pv 3) pa_nil)) pa_nil)))))))))))
      (pss_cons (ps_set (i := 5) nd rfl (Or.inl rfl) (pe_lst (pa_cons (pe_err0 (T2.kp 0 (by decide)) (by rfl) T.g0 (T2.m0 0 (by simp)) (hr.mono (by decide))) (pa_cons (pe_err0 (T2.kp 1 (by decide)) (by rfl) T.g1 (T2.m0 1 (by simp)) (hr.mono (by decide))) (pa_cons (pe_err0 (T2.kp 2 (by decide)) (by rfl) T.g2 (T2.m0 2 (by simp)) (hr.mono (by decide))) (pa_cons (pe_errK (ns := nsUC) (n := 2) (T2.kp 3 (by decide)) (by rfl) T.g3 lUC (fun _ _ => List.cons_ne_nil _ _) (T2.kcu 3 (by simp)) relUC (hr.mono (by decide)) (pk_cons (pv 2) (pk_cons (pv 1) pk_nil))) (pa_cons (pe_errK (ns := nsUC) (n := 2) (T2.kp 4 (by decide)) (by rfl) T.g4 lUC (fun _ _ => List.cons_ne_nil _ _) (T2.kcu 4 (by simp)) relUC (hr.mono (by decide)) (pk_cons (pv 2) (pk_cons (pv 1) pk_nil))) (pa_cons (pe_errK (ns := (ns1 "unit")) (n := 1) (T2.kp 5 (by decide)) (by rfl) T.g5 (l1 "unit") (fun _ _ => List.cons_ne_nil _ _) T2.ku (rel1 _) (hr.mono (by decide)) (pk_cons (pv 2) pk_nil)) pa_nil))))))))
      (pss_cons (ps_set (i := 5) nd rfl (Or.inl rfl) (pe_op op_cat (pv 5) (pe_lst (pa_cons (pe_err0 (T2.kp 6 (by decide)) (by rfl) T.g6 (T2.m0 6 (by simp)) (hr.mono (by decide))) (pa_cons (pe_err0 (T2.kp 7 (by decide)) (by rfl) T.g7 (T2.m0 7 (by simp)) (hr.mono (by decide))) (pa_cons (pe_errK (ns := (ns1 "number")) (n := 1) (T2.kp 8 (by decide)) (by rfl) T.g8 (l1 "number") (fun _ _ => List.cons_ne_nil _ _) T2.kn (rel1 _) (hr.mono (by decide)) (pk_cons (pv 3) pk_nil)) pa_nil))))))
      (pss_cons (ps_for PassesOwn.never rfl (pi_tup (pe_tup (pa_cons (pv 4) (pa_cons (pv 5) pa_nil)))) (pg_name (i := 6) nd rfl (Or.inl rfl))
        (pss_cons (ps_set (i := 7) nd rfl (Or.inl rfl) (pe_lst (pa_cons (pe_errF (pe_ix ix_list (pv 6) pe_int (fun _ _ => rfl))) (pa_cons (pe_errF (pe_ix ix_list (pv 6) pe_int (fun _ _ => rfl))) (pa_cons (pe_errF (pe_ix ix_list (pv 6) pe_int (fun _ _ => rfl))) (pa_cons (pe_errF (pe_ix ix_list (pv 6) pe_int (fun _ _ => rfl))) (pa_cons (pe_errF (pe_ix ix_list (pv 6) pe_int (fun _ _ => rfl))) (pa_cons (pe_errF (pe_ix ix_list (pv 6) pe_int (fun _ _ => rfl))) pa_nil))))))))
        (pss_one (ps_if (PW.pt (pw_or (pt_not (pt_val (pe_call GR (hr.mono (by decide)) (by rfl) gR kR bR .nil pass0 (pa_cons (pv 6) pa_nil))))
            (pw_or1 (pt_not (pt_val (pe_call GS (hr.mono (by decide)) (by rfl) gS FS.kp bS .nil pass0 (pa_cons (pv 7) (pa_cons (pe_lst (pa_cons (pv 1) (pa_cons (pv 2) (pa_cons (pv 1) (pa_cons (pv 2) (pa_cons (pv 2) (pa_cons (pv 3) pa_nil))))))) pa_nil))))))))
            pss_never pss_nil))))
      (pss_one (ps_ret pe_bl))))))), ?_⟩)
  · obtain ⟨p, i, j, rfl, _⟩ := h
    rfl
  · obtain ⟨p, i, j, rfl, hp, j0, j1, q⟩ := h
    refine ⟨_, rfl, p, 4, i, j, 0, rfl, by decide, by decide, hp, j0, j1, by decide, by decide, fun i1 n1 x n10 n11 => ?_⟩
    refine ⟨_, rfl, p, 8, i1, j, n1, rfl, by decide, by decide, upd_same, j0, j1, n10, by omega, fun i2 n2 y n20 n21 => ?_⟩
    refine ⟨_, rfl, p, 61, i2, j, n2, rfl, by decide, by decide, upd_same, j0, j1, n20, by omega, fun i3 n3 z n30 n31 => ?_⟩
    refine ⟨_, _, _, rfl, ?_⟩
    have kp0 : ∀ b o, b ≠ p → H b = some o → (upd (upd (upd H p (.lst [.int i1, .int j, .int n1])) p (.lst [.int i2, .int j, .int n2])) p (.lst [.int i3, .int j, .int n3])) b = some o := fun b o hb e => by
      rw [upd_ne hb, upd_ne hb, upd_ne hb]
      exact e
    generalize (upd (upd (upd H p (.lst [.int i1, .int j, .int n1])) p (.lst [.int i2, .int j, .int n2])) p (.lst [.int i3, .int j, .int n3])) = H0 at kp0 ⊢
    refine fun a0 G0 k0 e0 => fun a1 G1 k1 e1 => fun a2 G2 k2 e2 => ⟨_, rfl, _, rfl, rfl, fun a3 G3 k3 e3 => ⟨_, rfl, _, rfl, rfl, fun a4 G4 k4 e4 => ⟨_, rfl, rfl, fun a5 G5 k5 e5 => fun a6 G6 k6 e6 => fun a7 G7 k7 e7 => ⟨_, rfl, rfl, fun a8 G8 k8 e8 => ⟨by show 9 ≤ sizeLine; decide, fun pp np => ?_⟩⟩⟩⟩⟩
    have kP : Keeps G8 (upd G8 pp (.lst [.ref a0, .ref a1, .ref a2, .ref a3, .ref a4, .ref a5, .ref a6, .ref a7, .ref a8])) := Keeps.new np
    have gP : Good c x y z (upd G8 pp (.lst [.ref a0, .ref a1, .ref a2, .ref a3, .ref a4, .ref a5, .ref a6, .ref a7, .ref a8])) pp :=
      good_of upd_same (((((((((e0.ext k1).ext k2).ext k3).ext k4).ext k5).ext k6).ext k7).ext k8).ext kP) ((((((((e1.ext k2).ext k3).ext k4).ext k5).ext k6).ext k7).ext k8).ext kP) (((((((e2.ext k3).ext k4).ext k5).ext k6).ext k7).ext k8).ext kP) ((((((e3.ext k4).ext k5).ext k6).ext k7).ext k8).ext kP) (((((e4.ext k5).ext k6).ext k7).ext k8).ext kP) ((((e5.ext k6).ext k7).ext k8).ext kP) (((e6.ext k7).ext k8).ext kP) ((e7.ext k8).ext kP) (e8.ext kP)
    have kk : Keeps H0 (upd G8 pp (.lst [.ref a0, .ref a1, .ref a2, .ref a3, .ref a4, .ref a5, .ref a6, .ref a7, .ref a8])) := fun b o e => kP b o (k8 b o (k7 b o (k6 b o (k5 b o (k4 b o (k3 b o (k2 b o (k1 b o (k0 b o e)))))))))
    generalize (upd G8 pp (.lst [.ref a0, .ref a1, .ref a2, .ref a3, .ref a4, .ref a5, .ref a6, .ref a7, .ref a8])) = H1 at gP kk ⊢
    clear kP np e0 e1 e2 e3 e4 e5 e6 e7 e8 k0 k1 k2 k3 k4 k5 k6 k7 k8
    refine fun b0 F0 j0 f0 => fun b1 F1 j1 f1 => fun b2 F2 j2 f2 => ⟨_, rfl, _, rfl, rfl, fun b3 F3 j3 f3 => ⟨_, rfl, _, rfl, rfl, fun b4 F4 j4 f4 => ⟨_, rfl, rfl, fun b5 F5 j5 f5 => ⟨by show 6 ≤ sizeLine; decide, fun ps ns => ⟨_, rfl, fun b6 F6 j6 f6 => fun b7 F7 j7 f7 => ⟨_, rfl, rfl, fun b8 F8 j8 f8 => ⟨by show 3 ≤ sizeLine; decide, fun pt nt => ⟨_, _, [.ref b0, .ref b1, .ref b2, .ref b3, .ref b4, .ref b5], _, rfl, rfl, ?_, upd_same, by show 9 ≤ sizeLine; decide, fun pq nq => ?_⟩⟩⟩⟩⟩⟩⟩⟩
    · have z1 : upd F5 ps (.lst [.ref b0, .ref b1, .ref b2, .ref b3, .ref b4, .ref b5]) ps = some (.lst [.ref b0, .ref b1, .ref b2, .ref b3, .ref b4, .ref b5]) := upd_same
      have z2 := j8 _ _ (j7 _ _ (j6 _ _ z1))
      rw [upd_ne (ne_of_none z2 nt)]
      exact z2
    have kS : Keeps F5 (upd F5 ps (.lst [.ref b0, .ref b1, .ref b2, .ref b3, .ref b4, .ref b5])) := Keeps.new ns
    have kT : Keeps F8 (upd F8 pt (.lst [.ref b6, .ref b7, .ref b8])) := Keeps.new nt
    have kQ : Keeps (upd F8 pt (.lst [.ref b6, .ref b7, .ref b8])) (upd (upd F8 pt (.lst [.ref b6, .ref b7, .ref b8])) pq (.lst ([.ref b0, .ref b1, .ref b2, .ref b3, .ref b4, .ref b5] ++ [.ref b6, .ref b7, .ref b8]))) := Keeps.new nq
    have gQ : Good c x y z (upd (upd F8 pt (.lst [.ref b6, .ref b7, .ref b8])) pq (.lst ([.ref b0, .ref b1, .ref b2, .ref b3, .ref b4, .ref b5] ++ [.ref b6, .ref b7, .ref b8]))) pq := good_of upd_same (((((((((((f0.ext j1).ext j2).ext j3).ext j4).ext j5).ext kS).ext j6).ext j7).ext j8).ext kT).ext kQ) ((((((((((f1.ext j2).ext j3).ext j4).ext j5).ext kS).ext j6).ext j7).ext j8).ext kT).ext kQ) (((((((((f2.ext j3).ext j4).ext j5).ext kS).ext j6).ext j7).ext j8).ext kT).ext kQ) ((((((((f3.ext j4).ext j5).ext kS).ext j6).ext j7).ext j8).ext kT).ext kQ) (((((((f4.ext j5).ext kS).ext j6).ext j7).ext j8).ext kT).ext kQ) ((((((f5.ext kS).ext j6).ext j7).ext j8).ext kT).ext kQ) ((((f6.ext j7).ext j8).ext kT).ext kQ) (((f7.ext j8).ext kT).ext kQ) ((f8.ext kT).ext kQ)
    have kk2 : Keeps H1 (upd (upd F8 pt (.lst [.ref b6, .ref b7, .ref b8])) pq (.lst ([.ref b0, .ref b1, .ref b2, .ref b3, .ref b4, .ref b5] ++ [.ref b6, .ref b7, .ref b8]))) := fun b o e => kQ b o (kT b o (j8 b o (j7 b o (j6 b o (kS b o (j5 b o (j4 b o (j3 b o (j2 b o (j1 b o (j0 b o e)))))))))))
    have gP2 := gP.ext kk2
    generalize (upd (upd F8 pt (.lst [.ref b6, .ref b7, .ref b8])) pq (.lst ([.ref b0, .ref b1, .ref b2, .ref b3, .ref b4, .ref b5] ++ [.ref b6, .ref b7, .ref b8]))) = H2 at gQ kk2 gP2 ⊢
    clear kS kT kQ ns nt nq f0 f1 f2 f3 f4 f5 f6 f7 f8 j0 j1 j2 j3 j4 j5 j6 j7 j8
    refine ⟨_, rfl, _, rfl, by show 2 ≤ sizeLine; decide, fun tt ntt => ⟨_, rfl, ⟨_, SqT.of upd_same⟩, ?_⟩⟩
    have kT : Keeps H2 (upd H2 tt (.tup [.ref pp, .ref pq])) := Keeps.new ntt
    refine for_tup (K := K) (a := tt) (xs := [.ref pp, .ref pq]) (fun _ σ H' => ∃ x6 x7 : Option V, σ = [some (.ref p), some (.int x), some (.int y), some (.int z), some (.ref pp), some (.ref pq), x6, x7] ∧ Keeps (upd H2 tt (.tup [.ref pp, .ref pq])) H')
      ⟨none, none, rfl, fun b o e => e⟩ (fun i σ H' _ h => SqT.of (h.choose_spec.choose_spec.2 _ _ upd_same)) ?_ ?_
    · rintro i v σ H' hv ⟨x6, x7, rfl, k3⟩
      obtain ⟨a, rfl, gA⟩ : ∃ a, v = .ref a ∧ Good c x y z H' a := by
        have hm := List.mem_of_getElem? hv
        simp only [List.mem_cons, List.not_mem_nil, or_false] at hm
        rcases hm with rfl | rfl
        · exact ⟨_, rfl, (gP2.ext kT).ext k3⟩
        · exact ⟨_, rfl, (gQ.ext kT).ext k3⟩
      have gA' := gA
      obtain ⟨ad, ha, he⟩ := gA
      have hS := SqL.of (K := K) ha
      refine ⟨_, rfl, _, _, _, _, rfl, rfl, hS, rfl, ad 3, c 3, _, (.int x), rfl, he 3 (by decide), T.isc 3 (by decide), T2.nc 3 (by simp), rfl, _, rfl, _, _, _, _, rfl, rfl, hS, rfl, ad 3, c 3, _, (.int y), rfl, he 3 (by decide), T.isc 3 (by decide), T2.nu 3 (by simp), rfl, _, rfl, _, _, _, _, rfl, rfl, hS, rfl, ad 4, c 4, _, (.int x), rfl, he 4 (by decide), T.isc 4 (by decide), T2.nc 4 (by simp), rfl, _, rfl, _, _, _, _, rfl, rfl, hS, rfl, ad 4, c 4, _, (.int y), rfl, he 4 (by decide), T.isc 4 (by decide), T2.nu 4 (by simp), rfl, _, rfl, _, _, _, _, rfl, rfl, hS, rfl, ad 5, c 5, _, (.int y), rfl, he 5 (by decide), T.isc 5 (by decide), T2.nu 5 (by simp), rfl, _, rfl, _, _, _, _, rfl, rfl, hS, rfl, ad 8, c 8, _, (.int z), rfl, he 8 (by decide), T.isc 8 (by decide), T2.nn, rfl, by show 6 ≤ sizeLine; decide, fun pl nl => ?_⟩
      have kl : Keeps H' (upd H' pl (.lst [.int x, .int y, .int x, .int y, .int y, .int z])) := Keeps.new nl
      refine ⟨_, rfl, a, ad, rfl, kl _ _ ha, fun i hi => ⟨_, (he i hi).ext kl⟩, fun H5 k5 => ⟨_, rfl, ifF rfl ?_⟩⟩
      refine ⟨_, rfl, _, rfl, _, rfl, _, rfl, _, rfl, _, rfl, _, rfl, by show 6 ≤ sizeLine; decide, fun pm nm => ?_⟩
      have km : Keeps H5 (upd H5 pm (.lst [.int x, .int y, .int x, .int y, .int y, .int z])) := Keeps.new nm
      refine ⟨pl, pm, _, rfl, km _ _ (k5 _ _ upd_same), upd_same, fun v hv => ?_, by show 6 ≤ 1000; decide, fun H6 k6 => ⟨_, rfl, ifF rfl ?_⟩⟩
      · simp only [List.mem_cons, List.not_mem_nil, or_false] at hv
        rcases hv with rfl | rfl | rfl | rfl | rfl | rfl <;> exact .int _
      · exact ⟨_, _, rfl, (((k3.trans kl).trans k5).trans km).trans k6⟩
    · rintro σ H' ⟨x6, x7, rfl, k3⟩
      exact q H' fun b o hb e => k3 b o (kT b o (kk2 b o (kk b o (kp0 b o hb e))))
end
end K19H

namespace K19H
open PySem PySem.Spec PyProof.Rows L2
section
variable {P : Program} {w : World} {K : PySem.W.Frag} {mg : Str → Option Value} {base : Heap} {f fC fB fR : Addr} {fd fdC fdB fdR : FuncData}
abbrev nLaw : List Str := ["_law_script", "_law_cells_here", "_law_k"]
theorem scLaw : FnScope nLaw ["_law_script"] (defScope (top 19)) := ⟨rfl, rfl, rfl, by decide +kernel, rfl, by decide +kernel, by decide +kernel⟩
def spLaw (K : PySem.W.Frag) : Sp := fun vs H Q _ => ∃ (a : Addr) (ns : List Int), vs = [.ref a] ∧ SqL K H a (ns.map V.int) ∧ ns.length ≤ 63 ∧ ∀ H', Q (.bl true) H'
theorem ok_law (F : FnP K "law" (top 19) f fd) (N : Nm mg) (FC : FnP K "_law_cells" (top 13) fC fdC) (gC : mg "_law_cells" = some (.ref fC)) (FB : FnP K "_law_box" (top 11) fB fdB) (gB : mg "_law_box" = some (.ref fB))
    (gR : mg "_law_right" = some (.ref fR)) (kR : PySem.W.keepIn K (.ref fR) = true) (GR : FnOk P w K mg base CX0 4 fR fdR ["_law_box_here"] spRight) (bR : Binds K fdR ["_law_box_here"] []) : FnOk P w K mg base CX0 5 f fd ["_law_script"] (spLaw K) := by
  have nd := scLaw.nd
  have GC : FnOk P w K mg base CX0 1 fC fdC ["_law_script", "_law_most"] (spCells K) := ok_cells FC N
  have bC : Binds K fdC ["_law_script", "_law_most"] [] := FunD.bindsN FC fun _ _ _ _ _ _ us hl => match us, hl with | [_, _], _ => rfl
  have GB : FnOk P w K mg base CX0 1 fB fdB ["_law_script", "_law_k"] (spBox K) := ok_box FB N
  have bB : Binds K fdB ["_law_script", "_law_k"] [] := FunD.bindsN FB fun _ _ _ _ _ _ us hl => match us, hl with | [_, _], _ => rfl
  refine F.ok scLaw (fun vs H Q E h => ?_) (fun cdv A outer s H vs Q E hr h => ⟨_, PSs.nox (pss_cons
      (ps_set (i := 1) nd rfl (Or.inr rfl) (pe_call GC (hr.mono (by decide)) (by rfl) gC FC.kp bC .nil pass0 (pa_cons (pv 0) (pa_cons pe_int pa_nil))))
      (pss_one (ps_ret (pe_callB (cr_all rfl) (by rfl) N.all (by decide +kernel) (pa_cons
        (pe_lc (own := [("_law_k", 2)]) (g := gName 2) (tt := tYes) rfl nd (pi_range1 (by rfl) N.range (pa_cons (pe_callB call_len_seq (by rfl) N.len PySem.boot_len (pa_cons (pv 1) pa_nil)) pa_nil)) (blkOk_by (N := nLaw) (sc := defScope (top 19)) (by decide +kernel))
          (fun _ _ _ _ _ => pg_name (i := 2) nd rfl (Or.inl rfl)) (fun _ _ _ _ _ => pts_nil)
          (fun _ _ _ _ _ => pe_call GR hr (by rfl) gR kR bR .nil pass0 (pa_cons (pe_call GB (hr.mono (by decide)) (by rfl) gB FB.kp bB .nil pass0 (pa_cons (pv 1) (pa_cons (pv 2) pa_nil))) pa_nil))) pa_nil))))), ?_⟩)
  · obtain ⟨a, ns, rfl, _⟩ := h
    rfl
  · obtain ⟨a, ns, rfl, hS, hn, q⟩ := h
    refine ⟨_, rfl, a, ns, rfl, hS, hn, fun p H1 ms k1 hp lm => ?_⟩
    refine ⟨_, rfl, _, _, rfl, .inl (SqL.of hp), _, rfl, by rw [List.length_map]; omega, by rw [List.length_map]; omega, fun D nD => ?_⟩
    have nDp : p ≠ D := ne_of_none hp nD
    have one : ∀ (i : Nat), (List.replicate i (V.bl true)) ++ [V.bl true] = List.replicate (i + 1) (V.bl true) := fun i => by
      rw [List.replicate_succ']
    refine lc_it walk_range (fun i H' => H' D = some (.lst (List.replicate i (.bl true))) ∧ H' p = some (.lst (ms.map V.int))) ⟨upd_same, by rw [upd_ne nDp]; exact hp⟩ (fun _ _ _ _ => trivial) ?_ ?_
    · rintro i v H' H'' hi ⟨hD, hp'⟩ ⟨rfl, rfl⟩
      have hi : i < ((ms.map V.int).length : Int).toNat := hi
      rw [List.length_map, Int.toNat_natCast] at hi
      refine ⟨rfl, ?_⟩
      refine ⟨_, rfl, _, rfl, p, ms, i, (by show [V.ref p, V.int (0 + (i : Int))] = [V.ref p, V.int (i : Int)]; rw [Int.zero_add]), SqL.of hp', by omega, fun b x y nb y0 y1 => ?_⟩
      refine ⟨b, x, y, rfl, upd_same, y0, y1, fun H3 k3 => ?_⟩
      have bD : D ≠ b := ne_of_none hD nb
      have bp : p ≠ b := ne_of_none hp' nb
      refine ⟨_, k3 _ _ bD (by rw [upd_ne bD]; exact hD), ?_, ?_, ?_⟩
      · rw [List.length_replicate, sizeLine_eq]
        omega
      · rw [upd_same, one]
      · rw [upd_ne nDp]
        exact k3 _ _ bp (by rw [upd_ne bp]; exact hp')
    · rintro H' ⟨hD, hp'⟩
      refine ⟨_, List.replicate ((ms.map V.int).length : Int).toNat true, rfl, SqL.of (by rw [List.map_replicate]; exact hD), ?_⟩
      have e : (List.replicate ((ms.map V.int).length : Int).toNat true).all id = true := by simp
      rw [e]
      exact q H'
end
end K19H

namespace K19H
open PySem PySem.Spec PyProof.Rows L2
/-! ### what the head tells of the nine classes -/
def initOf (i : Nat) : Stmt := match top i with
  | .ClassDef (body := b) .. => b.getD 0 (.Pass ⟨0, 0, 0, 0⟩)
  | _ => .Pass ⟨0, 0, 0, 0⟩
def names9 : List Str := ["Down", "Up", "NoGrace", "NotBelieved", "NotSaid", "NotSeen", "CannotBe", "BadText", "BadLine"]
def cN (i : Nat) : Str := names9.getD i Str.empty
def cA (K : PySem.W.Frag) (i : Nat) : Addr := He.ga K (cN i)
def iA (K : PySem.W.Frag) (i : Nat) : Addr := He.ma K (cA K i) "__init__"
def fdOf (K : PySem.W.Frag) (a : Addr) : Option FuncData := match K.lookup a with
  | some ⟨_, _, .func fd, _⟩ => some fd
  | _ => none
abbrev FnC : Type := Option (Str × Str × Arguments × FuncBody × Scope × Addr × List Str × Addr)
def fnC (K : PySem.W.Frag) (i : Nat) : FnC := (fdOf K (iA K i)).map fun fd => (fd.name, fd.qualname, fd.params, fd.body, fd.scope, fd.globals, fd.closure.map (·.1), fd.builtins)
def qualN (i : Nat) : Str := cN i ++ ".__init__"
def valC (i : Nat) : FnC := some ("__init__", qualN i, defArgs (initOf (i + 1)), .stmts (defBody (initOf (i + 1))), defScope (initOf (i + 1)), mainGlobals, ["__class__"], builtinsNs)
def ccOf (K : PySem.W.Frag) (i : Nat) : Addr := match fdOf K (iA K i) with
  | some fd => (match fd.closure with
    | [(_, c)] => c
    | _ => 0)
  | none => 0
def cdOf (K : PySem.W.Frag) (i : Nat) : Addr := match fdOf K (iA K i) with
  | some fd => (match fd.code with
    | .ref c => c
    | _ => 0)
  | none => 0
def fileB (prog : Program) (K : PySem.W.Frag) (a : Addr) : Bool := match K.lookup a with
  | some ⟨_, _, .fields vs, _⟩ => (match (vs[2]? : Option Value) with
    | some (.str file _) => (prog.main.file : Str) == file
    | _ => false)
  | _ => false
def cellB (K : PySem.W.Frag) (a C : Addr) : Bool := match K.lookup a with
  | some ⟨_, _, .cell (some v), _⟩ => decide (v = .ref C)
  | _ => false
def codeB (K : PySem.W.Frag) (i : Nat) : Bool := match fdOf K (iA K i) with
  | some fd => decide (fd.code = .ref (cdOf K i)) && (decide (fd.closure.map (·.2) = [ccOf K i]) && (decide (fd.defaults = .none) && decide (fd.kwdefaults = .none)))
  | none => false
def clsB (prog : Program) (K : PySem.W.Frag) (B newId initId : String) (bm : List Value) (i : Nat) : Bool :=
  He.eqO (PySem.W.nsIn K mainGlobals (cN i)) (some (some (.ref (cA K i)))) && (PySem.W.keepIn K (.ref (cA K i)) && (PySem.W.excInitIn K (cA K i) bm newId && (PySem.W.excOver K (cA K i) bm && (PySem.W.hasDictIn K (cA K i) &&
  (He.eqO (PySem.W.findIn K (.ref (cA K i)) "__setattr__") (some (some (.builtin "object.__setattr__"))) && (He.eqO (PySem.W.findIn K (.ref (cA K i)) "__init__") (some (some (.ref (iA K i)))) && (decide (PySem.W.typeIn K (.ref (iA K i)) = some (.type "function")) &&
  (codeB K i && (PySem.W.codeIn K (.ref (cdOf K i)) (qualN i) && (fileB prog K (cdOf K i) && (cellB K (ccOf K i) (cA K i) && (decide (PySem.W.mroIn K (cA K i) (.ref (cA K i)) = some true) &&
  (He.eqO (PySem.W.ks_superIn K (cA K i) (cA K i) "__init__") (some (some (.builtin initId))) && (decide (PySem.W.subIn K (.ref (cA K i)) (.type B) = some true) && (He.eqO (PySem.W.nsIn K cStatics "thirdparty.any") (some none) &&
  ((PySem.W.clsIn K (cA K i)).isSome && (He.eqO (PySem.W.findIn K (.ref (cA K i)) "__getattribute__") (some (some (.builtin "BaseException.__getattribute__"))) && (He.eqO (PySem.W.findIn K (.ref (cA K i)) "__getattr__") (some none) &&
  (decide (PySem.W.subIn K (.ref (cA K i)) (.type "BaseException") = some true) && (He.eqO (PySem.W.findIn K (.ref (cA K i)) "__class__") (some (some (.builtin "object.__class__"))) &&
  (He.eqO (PySem.W.specialIn K (.builtin "object.__class__") "__get__") (some (some (.builtin "getset_descriptor.__get__"))) && (decide (PySem.W.takesIn K (.builtin "object.__class__") = some true) && decide (PySem.W.mroIn K (cA K i) (.type "object") = some true)))))))))))))))))))))))
structure ClsF (prog : Program) (K : PySem.W.Frag) (B newId initId : String) (bm : List Value) (i : Nat) : Prop where
  glo : PySem.W.nsIn K mainGlobals (cN i) = some (some (.ref (cA K i)))
  kp : PySem.W.keepIn K (.ref (cA K i)) = true
  q : PySem.W.excInitIn K (cA K i) bm newId = true
  ov : PySem.W.excOver K (cA K i) bm = true
  hd : PySem.W.hasDictIn K (cA K i) = true
  sa : PySem.W.findIn K (.ref (cA K i)) "__setattr__" = some (some (.builtin "object.__setattr__"))
  hi : PySem.W.findIn K (.ref (cA K i)) "__init__" = some (some (.ref (iA K i)))
  tI : PySem.W.typeIn K (.ref (iA K i)) = some (.type "function")
  cb : codeB K i = true
  cI : PySem.W.codeIn K (.ref (cdOf K i)) (qualN i) = true
  fi : fileB prog K (cdOf K i) = true
  ce : cellB K (ccOf K i) (cA K i) = true
  own : PySem.W.mroIn K (cA K i) (.ref (cA K i)) = some true
  sup : PySem.W.ks_superIn K (cA K i) (cA K i) "__init__" = some (some (.builtin initId))
  sB : PySem.W.subIn K (.ref (cA K i)) (.type B) = some true
  op : PySem.W.nsIn K cStatics "thirdparty.any" = some none
  isc : IsC K (cA K i)
theorem clsB_ok {prog : Program} {K : PySem.W.Frag} {B newId initId : String} {bm : List Value} {i : Nat} (h : clsB prog K B newId initId bm i = true) : ClsF prog K B newId initId bm i := by
  unfold clsB at h
  simp only [Bool.and_eq_true] at h
  obtain ⟨h1, h2, h3, h4, h5, h6, h7, h8, h9, h10, h11, h12, h13, h14, h15, h16, h17, h18, h19, h20, h21, h22, h23, h24⟩ := h
  exact ⟨He.eqO_ok h1, h2, h3, h4, h5, He.eqO_ok h6, He.eqO_ok h7, of_decide_eq_true h8, h9, h10, h11, h12, of_decide_eq_true h13, He.eqO_ok h14, of_decide_eq_true h15, He.eqO_ok h16,
    ⟨h17, He.eqO_ok h18, He.eqO_ok h19, of_decide_eq_true h20, h5, He.eqO_ok h21, He.eqO_ok h22, of_decide_eq_true h23, of_decide_eq_true h24⟩⟩
section
variable {prog : Program} {w : World} {K : PySem.W.Frag} {mg : Str → Option Value} {B newId initId : String} {bm : List Value} {i : Nat}
/-- the __init__ of the i-th, as its row has it -/
theorem ClsF.fn (c : ClsF prog K B newId initId bm i) (e : fnC K i = valC i) : ∃ (oc : Value) (od : Option Addr) (doc pm ct : Value) (an : Option Addr) (osl : Array (Option Value)),
    K.lookup (iA K i) = some ⟨oc, od, .func (PySem.W.ksFn "__init__" (qualN i) (defArgs (initOf (i + 1))) (defBody (initOf (i + 1))) (defScope (initOf (i + 1))) .none .none doc pm an (.ref (cdOf K i)) ct (ccOf K i)), osl⟩ := by
  have hb := c.cb
  unfold codeB at hb
  unfold fnC at e
  cases hf : fdOf K (iA K i) with
  | none =>
    rw [hf] at e
    cases e
  | some fd =>
    rw [hf] at e hb
    simp only [Bool.and_eq_true, decide_eq_true_eq] at hb
    obtain ⟨b1, b2, b3, b4⟩ := hb
    have e' := Option.some.inj e
    unfold fdOf at hf
    split at hf
    · rename_i oc od fd' osl hl
      cases hf
      obtain ⟨n, qn, params, bd, sc, gl, cl, dV, kV, doc, pm, an, cdv, ct, bl⟩ := fd
      simp only [Prod.mk.injEq] at e' b1 b2 b3 b4
      obtain ⟨rfl, rfl, rfl, rfl, rfl, rfl, ecl, rfl⟩ := e'
      subst b1 b3 b4
      obtain ⟨x, rfl⟩ : ∃ x, cl = [(x, ccOf K i)] := by
        match cl, b2 with
        | [(x, y)], b2 =>
          have z : y = ccOf K i := by simpa using b2
          exact ⟨x, by rw [z]⟩
        | [], b2 => simp at b2
        | _ :: _ :: _, b2 => simp at b2
      have ex : x = "__class__" := by simpa using ecl
      subst ex
      exact ⟨oc, od, doc, pm, ct, an, osl, hl⟩
    · cases hf
theorem ClsF.supC (c : ClsF prog K B newId initId bm i) (FB : ExcBaseFacts B newId initId bm) (KF : PySem.W.KxsFacts B initId) (top : (prog.main.scope.names.lookup ("super" : Str)).isSome = false) : K19.SupC prog K (cA K i) (iA K i) (ccOf K i) (cdOf K i) B newId initId bm := by
  refine ⟨FB, KF, c.q, ?_, ?_, c.own, c.sup, c.sB, c.op, top⟩
  · have h := c.fi
    unfold fileB at h
    split at h
    · rename_i ccl cdd vs ccs hl
      split at h
      · rename_i file tf hv
        exact ⟨ccl, cdd, vs, ccs, file, tf, hl, hv, h⟩
      · cases h
    · cases h
  · have h := c.ce
    unfold cellB at h
    split at h
    · rename_i cl cld v csl hl
      have z := of_decide_eq_true h
      subst z
      exact ⟨cl, cld, csl, hl⟩
    · cases h
theorem ClsF.stC (c : ClsF prog K B newId initId bm i) (SF : StoreFacts B bm "object.__setattr__" "object") : K19.StC K (cA K i) B bm := ⟨SF, c.ov, c.sa, c.hd⟩
theorem ClsF.iniC (c : ClsF prog K B newId initId bm i) : K19.IniC K (cA K i) (iA K i) := ⟨c.hi, c.tI⟩
end
end K19H

namespace K19H
open PySem PySem.Spec PyProof.Rows L2
abbrev pr : Program := PySem.Challenge.pw_reclaimed_k19_what_errors_keep
abbrev bmR : List Value := [.type "RuntimeError", .type "Exception", .type "BaseException", .type "object"]
abbrev bmL : List Value := [.type "LookupError", .type "Exception", .type "BaseException", .type "object"]
abbrev bmV : List Value := [.type "ValueError", .type "Exception", .type "BaseException", .type "object"]
def odds : List String := ["KeyError", "IndexError", "TypeError", "NotImplementedError", "ArithmeticError"]
def kitB9 (K : PySem.W.Frag) : Bool := (List.range 9).all fun i => ((List.range 9).all fun j => decide (PySem.W.kitOne K (.ref (cA K i)) (.ref (cA K j)) = some (decide (i = j)))) &&
  (decide (PySem.W.kitOne K (.ref (cA K i)) (.type "RuntimeError") = some (decide (i < 3))) && (decide (PySem.W.kitOne K (.ref (cA K i)) (.type "LookupError") = some (decide (2 < i ∧ i < 6))) &&
  (decide (PySem.W.kitOne K (.ref (cA K i)) (.type "ValueError") = some (decide (5 < i))) && odds.all fun t => decide (PySem.W.kitOne K (.ref (cA K i)) (.type t) = some false))))
def noB (K : PySem.W.Frag) : Bool := He.eqO (PySem.W.findIn K (.ref (cA K 3)) "client") (some none) && (He.eqO (PySem.W.findIn K (.ref (cA K 4)) "client") (some none) && (He.eqO (PySem.W.findIn K (.ref (cA K 3)) "unit") (some none) &&
  (He.eqO (PySem.W.findIn K (.ref (cA K 4)) "unit") (some none) && (He.eqO (PySem.W.findIn K (.ref (cA K 5)) "unit") (some none) && He.eqO (PySem.W.findIn K (.ref (cA K 8)) "number") (some none)))))
def exB (K : PySem.W.Frag) : Bool := clsB pr K "RuntimeError" "RuntimeError.__new__" "RuntimeError.__init__" bmR 0 && (clsB pr K "RuntimeError" "RuntimeError.__new__" "RuntimeError.__init__" bmR 1 && (clsB pr K "RuntimeError" "RuntimeError.__new__" "RuntimeError.__init__" bmR 2 && (clsB pr K "LookupError" "LookupError.__new__" "LookupError.__init__" bmL 3 && (clsB pr K "LookupError" "LookupError.__new__" "LookupError.__init__" bmL 4 && (clsB pr K "LookupError" "LookupError.__new__" "LookupError.__init__" bmL 5 && (clsB pr K "ValueError" "ValueError.__new__" "ValueError.__init__" bmV 6 && (clsB pr K "ValueError" "ValueError.__new__" "ValueError.__init__" bmV 7 && (clsB pr K "ValueError" "ValueError.__new__" "ValueError.__init__" bmV 8 && (kitB9 K && (noB K))))))))))
theorem supFree : (pr.main.scope.names.lookup ("super" : Str)).isSome = false := by decide +kernel
structure ExF (K : PySem.W.Frag) : Prop where
  c0 : ClsF pr K "RuntimeError" "RuntimeError.__new__" "RuntimeError.__init__" bmR 0
  c1 : ClsF pr K "RuntimeError" "RuntimeError.__new__" "RuntimeError.__init__" bmR 1
  c2 : ClsF pr K "RuntimeError" "RuntimeError.__new__" "RuntimeError.__init__" bmR 2
  c3 : ClsF pr K "LookupError" "LookupError.__new__" "LookupError.__init__" bmL 3
  c4 : ClsF pr K "LookupError" "LookupError.__new__" "LookupError.__init__" bmL 4
  c5 : ClsF pr K "LookupError" "LookupError.__new__" "LookupError.__init__" bmL 5
  c6 : ClsF pr K "ValueError" "ValueError.__new__" "ValueError.__init__" bmV 6
  c7 : ClsF pr K "ValueError" "ValueError.__new__" "ValueError.__init__" bmV 7
  c8 : ClsF pr K "ValueError" "ValueError.__new__" "ValueError.__init__" bmV 8
  kit : kitB9 K = true
  no : noB K = true
theorem exB_ok {K : PySem.W.Frag} (h : exB K = true) : ExF K := by
  unfold exB at h
  simp only [Bool.and_eq_true] at h
  obtain ⟨h0, h1, h2, h3, h4, h5, h6, h7, h8, h9, h10⟩ := h
  exact ⟨clsB_ok h0, clsB_ok h1, clsB_ok h2, clsB_ok h3, clsB_ok h4, clsB_ok h5, clsB_ok h6, clsB_ok h7, clsB_ok h8, h9, h10⟩
section
variable {w : World} {K : PySem.W.Frag} {mg : Str → Option Value}
theorem scI0 : K19.IniS (defScope (initOf 1)) ["self"] := ⟨by decide +kernel, by decide +kernel, by decide +kernel, by decide +kernel, rfl, rfl, rfl⟩
theorem scI1 : K19.IniS (defScope (initOf 2)) ["self"] := ⟨by decide +kernel, by decide +kernel, by decide +kernel, by decide +kernel, rfl, rfl, rfl⟩
theorem scI2 : K19.IniS (defScope (initOf 3)) ["self"] := ⟨by decide +kernel, by decide +kernel, by decide +kernel, by decide +kernel, rfl, rfl, rfl⟩
theorem scI3 : K19.IniS (defScope (initOf 4)) ["self", "client", "unit"] := ⟨by decide +kernel, by decide +kernel, by decide +kernel, by decide +kernel, rfl, rfl, rfl⟩
theorem scI4 : K19.IniS (defScope (initOf 5)) ["self", "client", "unit"] := ⟨by decide +kernel, by decide +kernel, by decide +kernel, by decide +kernel, rfl, rfl, rfl⟩
theorem scI5 : K19.IniS (defScope (initOf 6)) ["self", "unit"] := ⟨by decide +kernel, by decide +kernel, by decide +kernel, by decide +kernel, rfl, rfl, rfl⟩
theorem scI6 : K19.IniS (defScope (initOf 7)) ["self"] := ⟨by decide +kernel, by decide +kernel, by decide +kernel, by decide +kernel, rfl, rfl, rfl⟩
theorem scI7 : K19.IniS (defScope (initOf 8)) ["self"] := ⟨by decide +kernel, by decide +kernel, by decide +kernel, by decide +kernel, rfl, rfl, rfl⟩
theorem scI8 : K19.IniS (defScope (initOf 9)) ["self", "number"] := ⟨by decide +kernel, by decide +kernel, by decide +kernel, by decide +kernel, rfl, rfl, rfl⟩
theorem mk0 (X : ExF K) (e : fnC K 0 = valC 0) (nos : mg "super" = none) : MakesX pr w K mg (cA K 0) [] [] [] := by
  obtain ⟨oc, od, doc, pm, ct, an, osl, lk⟩ := X.c0.fn e
  exact K19.makes0 (X.c0.supC F.excBase_RuntimeError PySem.W.kxs_RuntimeError supFree) X.c0.iniC scI0 nos lk X.c0.cI rfl rfl (fun L => ⟨_, rfl⟩) (fun s x => .of_eq rfl) (by decide)
theorem mk1 (X : ExF K) (e : fnC K 1 = valC 1) (nos : mg "super" = none) : MakesX pr w K mg (cA K 1) [] [] [] := by
  obtain ⟨oc, od, doc, pm, ct, an, osl, lk⟩ := X.c1.fn e
  exact K19.makes0 (X.c1.supC F.excBase_RuntimeError PySem.W.kxs_RuntimeError supFree) X.c1.iniC scI1 nos lk X.c1.cI rfl rfl (fun L => ⟨_, rfl⟩) (fun s x => .of_eq rfl) (by decide)
theorem mk2 (X : ExF K) (e : fnC K 2 = valC 2) (nos : mg "super" = none) : MakesX pr w K mg (cA K 2) [] [] [] := by
  obtain ⟨oc, od, doc, pm, ct, an, osl, lk⟩ := X.c2.fn e
  exact K19.makes0 (X.c2.supC F.excBase_RuntimeError PySem.W.kxs_RuntimeError supFree) X.c2.iniC scI2 nos lk X.c2.cI rfl rfl (fun L => ⟨_, rfl⟩) (fun s x => .of_eq rfl) (by decide)
theorem mk3p (X : ExF K) (e : fnC K 3 = valC 3) (nos : mg "super" = none) (no : PySem.W.findIn K (.ref (cA K 3)) "client" = some none) (no2 : PySem.W.findIn K (.ref (cA K 3)) "unit" = some none) (v v2 : Value) : MakesX pr w K mg (cA K 3) [v, v2] [] [("unit", v2), ("client", v)] := by
  obtain ⟨oc, od, doc, pm, ct, an, osl, lk⟩ := X.c3.fn e
  exact K19.makes2 (X.c3.supC F.excBase_LookupError PySem.W.kxs_LookupError supFree) (X.c3.stC F.store_LookupError) X.c3.iniC scI3 (by decide) (by decide) (by decide) nos no (by decide) no2 (by decide) lk X.c3.cI rfl rfl (fun L => ⟨_, rfl⟩) (fun s x => .of_eq rfl) (show _ ≤ 1000 by simp)
theorem mk3k (X : ExF K) (e : fnC K 3 = valC 3) (nos : mg "super" = none) (no : PySem.W.findIn K (.ref (cA K 3)) "client" = some none) (no2 : PySem.W.findIn K (.ref (cA K 3)) "unit" = some none) (v v2 : Value) : MakesX pr w K mg (cA K 3) [] [("unit", v2), ("client", v)] [("unit", v2), ("client", v)] := by
  obtain ⟨oc, od, doc, pm, ct, an, osl, lk⟩ := X.c3.fn e
  exact K19.makes2 (X.c3.supC F.excBase_LookupError PySem.W.kxs_LookupError supFree) (X.c3.stC F.store_LookupError) X.c3.iniC scI3 (by decide) (by decide) (by decide) nos no (by decide) no2 (by decide) lk X.c3.cI rfl rfl (fun L => ⟨_, rfl⟩) (fun s x => .of_eq rfl) (show _ ≤ 1000 by simp)
theorem mk4p (X : ExF K) (e : fnC K 4 = valC 4) (nos : mg "super" = none) (no : PySem.W.findIn K (.ref (cA K 4)) "client" = some none) (no2 : PySem.W.findIn K (.ref (cA K 4)) "unit" = some none) (v v2 : Value) : MakesX pr w K mg (cA K 4) [v, v2] [] [("unit", v2), ("client", v)] := by
  obtain ⟨oc, od, doc, pm, ct, an, osl, lk⟩ := X.c4.fn e
  exact K19.makes2 (X.c4.supC F.excBase_LookupError PySem.W.kxs_LookupError supFree) (X.c4.stC F.store_LookupError) X.c4.iniC scI4 (by decide) (by decide) (by decide) nos no (by decide) no2 (by decide) lk X.c4.cI rfl rfl (fun L => ⟨_, rfl⟩) (fun s x => .of_eq rfl) (show _ ≤ 1000 by simp)
theorem mk4k (X : ExF K) (e : fnC K 4 = valC 4) (nos : mg "super" = none) (no : PySem.W.findIn K (.ref (cA K 4)) "client" = some none) (no2 : PySem.W.findIn K (.ref (cA K 4)) "unit" = some none) (v v2 : Value) : MakesX pr w K mg (cA K 4) [] [("unit", v2), ("client", v)] [("unit", v2), ("client", v)] := by
  obtain ⟨oc, od, doc, pm, ct, an, osl, lk⟩ := X.c4.fn e
  exact K19.makes2 (X.c4.supC F.excBase_LookupError PySem.W.kxs_LookupError supFree) (X.c4.stC F.store_LookupError) X.c4.iniC scI4 (by decide) (by decide) (by decide) nos no (by decide) no2 (by decide) lk X.c4.cI rfl rfl (fun L => ⟨_, rfl⟩) (fun s x => .of_eq rfl) (show _ ≤ 1000 by simp)
theorem mk5p (X : ExF K) (e : fnC K 5 = valC 5) (nos : mg "super" = none) (no : PySem.W.findIn K (.ref (cA K 5)) "unit" = some none) (v : Value) : MakesX pr w K mg (cA K 5) [v] [] [("unit", v)] := by
  obtain ⟨oc, od, doc, pm, ct, an, osl, lk⟩ := X.c5.fn e
  exact K19.makes1 (X.c5.supC F.excBase_LookupError PySem.W.kxs_LookupError supFree) (X.c5.stC F.store_LookupError) X.c5.iniC scI5 (by decide) nos no (by decide) lk X.c5.cI rfl rfl (fun L => ⟨_, rfl⟩) (fun s x => .of_eq rfl) (show _ ≤ 1000 by simp)
theorem mk5k (X : ExF K) (e : fnC K 5 = valC 5) (nos : mg "super" = none) (no : PySem.W.findIn K (.ref (cA K 5)) "unit" = some none) (v : Value) : MakesX pr w K mg (cA K 5) [] [("unit", v)] [("unit", v)] := by
  obtain ⟨oc, od, doc, pm, ct, an, osl, lk⟩ := X.c5.fn e
  exact K19.makes1 (X.c5.supC F.excBase_LookupError PySem.W.kxs_LookupError supFree) (X.c5.stC F.store_LookupError) X.c5.iniC scI5 (by decide) nos no (by decide) lk X.c5.cI rfl rfl (fun L => ⟨_, rfl⟩) (fun s x => .of_eq rfl) (show _ ≤ 1000 by simp)
theorem mk6 (X : ExF K) (e : fnC K 6 = valC 6) (nos : mg "super" = none) : MakesX pr w K mg (cA K 6) [] [] [] := by
  obtain ⟨oc, od, doc, pm, ct, an, osl, lk⟩ := X.c6.fn e
  exact K19.makes0 (X.c6.supC F.excBase_ValueError PySem.W.kxs_ValueError supFree) X.c6.iniC scI6 nos lk X.c6.cI rfl rfl (fun L => ⟨_, rfl⟩) (fun s x => .of_eq rfl) (by decide)
theorem mk7 (X : ExF K) (e : fnC K 7 = valC 7) (nos : mg "super" = none) : MakesX pr w K mg (cA K 7) [] [] [] := by
  obtain ⟨oc, od, doc, pm, ct, an, osl, lk⟩ := X.c7.fn e
  exact K19.makes0 (X.c7.supC F.excBase_ValueError PySem.W.kxs_ValueError supFree) X.c7.iniC scI7 nos lk X.c7.cI rfl rfl (fun L => ⟨_, rfl⟩) (fun s x => .of_eq rfl) (by decide)
theorem mk8p (X : ExF K) (e : fnC K 8 = valC 8) (nos : mg "super" = none) (no : PySem.W.findIn K (.ref (cA K 8)) "number" = some none) (v : Value) : MakesX pr w K mg (cA K 8) [v] [] [("number", v)] := by
  obtain ⟨oc, od, doc, pm, ct, an, osl, lk⟩ := X.c8.fn e
  exact K19.makes1 (X.c8.supC F.excBase_ValueError PySem.W.kxs_ValueError supFree) (X.c8.stC F.store_ValueError) X.c8.iniC scI8 (by decide) nos no (by decide) lk X.c8.cI rfl rfl (fun L => ⟨_, rfl⟩) (fun s x => .of_eq rfl) (show _ ≤ 1000 by simp)
theorem mk8k (X : ExF K) (e : fnC K 8 = valC 8) (nos : mg "super" = none) (no : PySem.W.findIn K (.ref (cA K 8)) "number" = some none) (v : Value) : MakesX pr w K mg (cA K 8) [] [("number", v)] [("number", v)] := by
  obtain ⟨oc, od, doc, pm, ct, an, osl, lk⟩ := X.c8.fn e
  exact K19.makes1 (X.c8.supC F.excBase_ValueError PySem.W.kxs_ValueError supFree) (X.c8.stC F.store_ValueError) X.c8.iniC scI8 (by decide) nos no (by decide) lk X.c8.cI rfl rfl (fun L => ⟨_, rfl⟩) (fun s x => .of_eq rfl) (show _ ≤ 1000 by simp)
end
end K19H

namespace K19H
open PySem PySem.Spec PyProof.Rows L2
def faZ : List He.Fa := [.glo "_law_box", .glo "_law_take", .glo "_law_cells", .glo "_law_same", .glo "_law_flags", .glo "_law_is_odd", .glo "_law_flags_right", .glo "_law_right", .glo "law", .free "len", .free "abs", .free "int", .free "list", .free "enumerate", .free "zip", .free "all", .free "isinstance", .free "range", .free "tuple", .free "bool", .free "str", .free "super", .free "RuntimeError", .free "LookupError", .free "ValueError", .free "KeyError", .free "IndexError", .free "TypeError", .free "NotImplementedError", .free "ArithmeticError"]
/-! ### the hook: facts of the top's names, of the nine classes, the texts of their __init__ -/
abbrev AlZ : Type := He.AlD × (List FnC × Bool)
def fnsC (K : PySem.W.Frag) : List FnC := (List.range 9).map (fnC K)
def valsC : List FnC := (List.range 9).map valC
def obsZ (K : PySem.W.Frag) : AlZ := (He.obsD faZ fn K, (fnsC K, exB K))
def valZ : AlZ := (He.valD fn, (valsC, true))
def asZ (g : Addr → Option Obj) : List Addr := cStatics :: He.asD g 5
structure SaysZ (K : PySem.W.Frag) : Prop where
  d : He.SaysD faZ fn K
  f : fnsC K = valsC
  x : exB K = true
def hookZ : PySem.W.Hook where
  α := AlZ
  obs := fun s => obsZ (He.frG s.heap.get? (asZ s.heap.get?))
  val := fun _ => valZ
  says := fun _ h => ∃ K : PySem.W.Frag, K.In h ∧ SaysZ K
  of := fun _ s e => ⟨_, He.frG_in (as := asZ s.heap.get?), ⟨congrArg (fun z : AlZ => z.1) e, congrArg (fun z : AlZ => z.2.1) e, congrArg (fun z : AlZ => z.2.2) e⟩⟩
  keeps := fun _ _ _ ⟨K, hK, c⟩ k => ⟨K, PySem.W.Frag.In.keeps hK k, c⟩
def obZ (s : PySem.W.SharedT) : AlZ := obsZ (He.frG (HandSHeadRun.getT s) (asZ (HandSHeadRun.getT s)))
theorem obZ_eq (s : PySem.W.SharedT) : obZ s = hookZ.obs s.abs := by
  have e : HandSHeadRun.getT s = s.abs.heap.get? := funext (HandSHeadRun.getT_eq s)
  show obsZ (He.frG (HandSHeadRun.getT s) (asZ (HandSHeadRun.getT s))) = _
  rw [e] <;> rfl
theorem runZ (w : World) : HandSHeadRun.RunEq R (PySem.W.view R.prog [19]) hookZ obZ 4000 loose w := by
  intro os
  kernel_rfl
section
variable {w : World} {K : PySem.W.Frag} {mg : Str → Option Value} {h : Heap} {f : Addr}
theorem fns_at (c : fnsC K = valsC) (i : Nat) (hi : i < 9) : fnC K i = valC i := by
  have e := congrArg (fun l : List FnC => l[i]?) c
  unfold fnsC valsC at e
  simp only [List.getElem?_map, List.getElem?_range hi, Option.map_some] at e
  exact Option.some.inj e
theorem kit_at (c : kitB9 K = true) (i : Nat) (hi : i < 9) : (∀ j, j < 9 → PySem.W.kitOne K (.ref (cA K i)) (.ref (cA K j)) = some (decide (i = j))) ∧ PySem.W.kitOne K (.ref (cA K i)) (.type "RuntimeError") = some (decide (i < 3)) ∧
    PySem.W.kitOne K (.ref (cA K i)) (.type "LookupError") = some (decide (2 < i ∧ i < 6)) ∧ PySem.W.kitOne K (.ref (cA K i)) (.type "ValueError") = some (decide (5 < i)) ∧ ∀ t ∈ odds, PySem.W.kitOne K (.ref (cA K i)) (.type t) = some false := by
  have z := List.all_eq_true.mp c i (List.mem_range.mpr hi)
  simp only [Bool.and_eq_true, decide_eq_true_eq, List.all_eq_true, List.mem_range] at z
  exact z
theorem ef_of (X : K.In h) (G : h.Ns mainGlobals mg) (c : SaysZ K) : EF K mg (cA K) := by
  have Y := exB_ok c.x
  have isc : ∀ i, i < 9 → IsC K (cA K i) := fun i hi => match i, hi with
    | 0, _ => Y.c0.isc | 1, _ => Y.c1.isc | 2, _ => Y.c2.isc | 3, _ => Y.c3.isc | 4, _ => Y.c4.isc | 5, _ => Y.c5.isc | 6, _ => Y.c6.isc | 7, _ => Y.c7.isc | 8, _ => Y.c8.isc
  exact ⟨PySem.W.mg_of X G Y.c0.glo, PySem.W.mg_of X G Y.c1.glo, PySem.W.mg_of X G Y.c2.glo, PySem.W.mg_of X G Y.c3.glo, PySem.W.mg_of X G Y.c4.glo, PySem.W.mg_of X G Y.c5.glo, PySem.W.mg_of X G Y.c6.glo, PySem.W.mg_of X G Y.c7.glo, PySem.W.mg_of X G Y.c8.glo, isc, fun i j hi hj => (kit_at Y.kit i hi).1 j hj, fun i hi => (kit_at Y.kit i hi).2.1, fun i hi => (kit_at Y.kit i hi).2.2.1, fun i hi => (kit_at Y.kit i hi).2.2.2.1, fun i hi => (kit_at Y.kit i hi).2.2.2.2,
    He.free_ok X G (c.d.fact 22 rfl), He.free_ok X G (c.d.fact 23 rfl), He.free_ok X G (c.d.fact 24 rfl), He.free_ok X G (c.d.fact 25 rfl), He.free_ok X G (c.d.fact 26 rfl), He.free_ok X G (c.d.fact 27 rfl), He.free_ok X G (c.d.fact 28 rfl), He.free_ok X G (c.d.fact 29 rfl)⟩
theorem nm_of (X : K.In h) (G : h.Ns mainGlobals mg) (c : SaysZ K) : Nm mg :=
  ⟨He.free_ok X G (c.d.fact 9 rfl), He.free_ok X G (c.d.fact 10 rfl), He.free_ok X G (c.d.fact 11 rfl), He.free_ok X G (c.d.fact 12 rfl), He.free_ok X G (c.d.fact 13 rfl), He.free_ok X G (c.d.fact 14 rfl), He.free_ok X G (c.d.fact 15 rfl), He.free_ok X G (c.d.fact 16 rfl), He.free_ok X G (c.d.fact 17 rfl), He.free_ok X G (c.d.fact 18 rfl), He.free_ok X G (c.d.fact 19 rfl), He.free_ok X G (c.d.fact 20 rfl)⟩
theorem mkf_of (X : K.In h) (G : h.Ns mainGlobals mg) (c : SaysZ K) : MkF pr w K mg (cA K) := by
  have Y := exB_ok c.x
  have nos : mg "super" = none := He.free_ok X G (c.d.fact 21 rfl)
  have no := Y.no
  unfold noB at no
  simp only [Bool.and_eq_true] at no
  obtain ⟨n1, n2, n3, n4, n5, n6⟩ := no
  have c3 := He.eqO_ok n1
  have c4 := He.eqO_ok n2
  have u3 := He.eqO_ok n3
  have u4 := He.eqO_ok n4
  have u5 := He.eqO_ok n5
  have u8 := He.eqO_ok n6
  have e : ∀ i, i < 9 → fnC K i = valC i := fun i hi => fns_at c.f i hi
  refine ⟨fun i hi => match i, hi with
    | 0, _ => Y.c0.kp | 1, _ => Y.c1.kp | 2, _ => Y.c2.kp | 3, _ => Y.c3.kp | 4, _ => Y.c4.kp | 5, _ => Y.c5.kp | 6, _ => Y.c6.kp | 7, _ => Y.c7.kp | 8, _ => Y.c8.kp, fun i hi => ?_, fun i hi us hl => ?_, fun i hi us hl => ?_, fun us hl => ?_, fun us hl => ?_, fun us hl => ?_, fun us hl => ?_, fun i hi => ?_, fun i hi => ?_, u8⟩
  · simp only [List.mem_cons, List.not_mem_nil, or_false] at hi
    rcases hi with rfl | rfl | rfl | rfl | rfl
    · exact mk0 Y (e 0 (by decide)) nos
    · exact mk1 Y (e 1 (by decide)) nos
    · exact mk2 Y (e 2 (by decide)) nos
    · exact mk6 Y (e 6 (by decide)) nos
    · exact mk7 Y (e 7 (by decide)) nos
  · match us, hl with
    | [v, v2], _ =>
      simp only [List.mem_cons, List.not_mem_nil, or_false] at hi
      rcases hi with rfl | rfl
      · exact mk3p Y (e 3 (by decide)) nos c3 u3 v v2
      · exact mk4p Y (e 4 (by decide)) nos c4 u4 v v2
  · match us, hl with
    | [v2, v], _ =>
      simp only [List.mem_cons, List.not_mem_nil, or_false] at hi
      rcases hi with rfl | rfl
      · exact mk3k Y (e 3 (by decide)) nos c3 u3 v v2
      · exact mk4k Y (e 4 (by decide)) nos c4 u4 v v2
  · match us, hl with
    | [v], _ => exact mk5p Y (e 5 (by decide)) nos u5 v
  · match us, hl with
    | [v], _ => exact mk5k Y (e 5 (by decide)) nos u5 v
  · match us, hl with
    | [v], _ => exact mk8p Y (e 8 (by decide)) nos u8 v
  · match us, hl with
    | [v], _ => exact mk8k Y (e 8 (by decide)) nos u8 v
  · simp only [List.mem_cons, List.not_mem_nil, or_false] at hi
    rcases hi with rfl | rfl
    · exact c3
    · exact c4
  · simp only [List.mem_cons, List.not_mem_nil, or_false] at hi
    rcases hi with rfl | rfl | rfl
    · exact u3
    · exact u4
    · exact u5
theorem facts (X : K.In h) (G : h.Ns mainGlobals mg) (hfa : mg ("law" : Str) = some (.ref f)) (c : SaysZ K) :
    ∃ fd : FuncData, (∀ (s : Shared) (v : Value), BindsTo s fd ⟨[v], []⟩ [("_law_script", v)]) ∧ ∀ base : Heap, K.In base → base.Ns mainGlobals mg → FnOk pr w K mg base CX0 5 f fd ["_law_script"] (spLaw K) := by
  obtain ⟨fdB, FB⟩ := c.d.def_ 0 rfl
  obtain ⟨fdT, FT⟩ := c.d.def_ 1 rfl
  obtain ⟨fdC, FC⟩ := c.d.def_ 2 rfl
  obtain ⟨fdS, FS⟩ := c.d.def_ 3 rfl
  obtain ⟨fdF, FF⟩ := c.d.def_ 4 rfl
  obtain ⟨fdO, FO⟩ := c.d.def_ 5 rfl
  obtain ⟨fdR, FR⟩ := c.d.def_ 6 rfl
  obtain ⟨fdG, FG⟩ := c.d.def_ 7 rfl
  obtain ⟨fd, F⟩ := c.d.def_ 8 rfl
  have e := hfa.symm.trans (He.glo_ok X G (c.d.fact 8 (f := .glo "law") rfl))
  cases e
  have N := nm_of X G c
  have T := ef_of X G c
  have b := FunD.bindsA (ps := ["_law_script"]) F fun _ _ _ _ _ _ us hl => match us, hl with | [_], _ => rfl
  refine ⟨fd, fun s v => b s [v] rfl, fun base _ _ => ?_⟩
  have gB := He.glo_ok X G (c.d.fact 0 (f := .glo "_law_box") rfl)
  have gT := He.glo_ok X G (c.d.fact 1 (f := .glo "_law_take") rfl)
  have gC := He.glo_ok X G (c.d.fact 2 (f := .glo "_law_cells") rfl)
  have gS := He.glo_ok X G (c.d.fact 3 (f := .glo "_law_same") rfl)
  have gF := He.glo_ok X G (c.d.fact 4 (f := .glo "_law_flags") rfl)
  have gO := He.glo_ok X G (c.d.fact 5 (f := .glo "_law_is_odd") rfl)
  have gR := He.glo_ok X G (c.d.fact 6 (f := .glo "_law_flags_right") rfl)
  have gG := He.glo_ok X G (c.d.fact 7 (f := .glo "_law_right") rfl)
  have GR : FnOk pr w K mg base CX0 3 _ fdR ["_law_errors"] (spFr (cA K)) := ok_fr FR N T FS gS FF gF FO gO
  have bR : Binds K fdR ["_law_errors"] [] := FunD.bindsN FR fun _ _ _ _ _ _ us hl => match us, hl with | [_], _ => rfl
  have GG : FnOk pr w K mg base CX0 4 _ fdG ["_law_box_here"] spRight := ok_right FG N T (mkf_of X G c) FT gT FS gS gR FR.kp GR bR
  have bG : Binds K fdG ["_law_box_here"] [] := FunD.bindsN FG fun _ _ _ _ _ _ us hl => match us, hl with | [_], _ => rfl
  exact ok_law F N FC gC FB gB gG FG.kp GG bG
end
end K19H
open PySem PySem.W PySem.Calls PyProof.Rows
theorem PySem.Challenge.cw_reclaimed_k19_what_errors_keep_holds : PySem.Challenge.rw_reclaimed_k19_what_errors_keep.Holds := by
  w_on; o_law
  refine HandSHeadRun.head_any (r := OpenLaw.row PySem.Challenge.rw_reclaimed_k19_what_errors_keep) (q := view (OpenLaw.row PySem.Challenge.rw_reclaimed_k19_what_errors_keep).prog [19]) (H := K19H.hookZ) (ob := K19H.obZ) (M := 4000) (loose := K19H.loose) (d := HandSHeadRun.topDef (OpenLaw.row PySem.Challenge.rw_reclaimed_k19_what_errors_keep).prog 19) (kwd := []) K19H.obZ_eq
    (by kernel_rfl) (fun s => by kernel_rfl) K19H.runZ (by kernel_rfl) (by kernel_rfl) (by kernel_rfl) (by rfl) (by first | assumption | decide +kernel) (by decide +kernel) ⟨rfl, rfl, rfl, rfl, rfl, by decide +kernel⟩ ?hw ?hc
  case hw => w_witness2
  case hc =>
    refine L2.walk_ofE (l := PySem.Challenge.rw_reclaimed_k19_what_errors_keep) (n := 63) (k := 5) (x := "_law_script") (CX := L2.CX0) rfl (by decide) (by kernel_rfl) ⟨rfl, by decide, by decide⟩ ?F (fun _ _ _ _ z => z)
    intro w mg fa h Y G hmg0
    obtain ⟨K, KX, c⟩ := Y
    have hmg : mg ("law" : PySem.Str) = some (.ref fa) := by
      have e : (HandSHeadRun.topDef (OpenLaw.row PySem.Challenge.rw_reclaimed_k19_what_errors_keep).prog 19).name = ("law" : PySem.Str) := by kernel_rfl
      rw [← e]
      exact hmg0
    obtain ⟨fd, hb, hF⟩ := K19H.facts (w := w) KX G hmg c
    exact ⟨K, fd, K19H.spLaw K, KX, hb, fun H a ns hl _ hS => ⟨a, ns, rfl, hS, hl, fun _ => rfl⟩, hF⟩
