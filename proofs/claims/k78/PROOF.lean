import PyProof.Rows.All
import Wide.All
import OpenK.AllK
import Wide.FinOn
import KE.KExcSuper
import KE.KSuper
import HandS.Base
import HandS.Call
import HandS.List
import HandS.Comp
import HandS.Exc
import HandS.ExcInit
import HandS.ExcOwn
import HandS.ExcCtx
import PyProof.EqAt
import PyProof.EqKinds
import PyProof.TupleCall
import HandS.Lambda
import HandS.WordsExc
import HandS.IsInst
import HandS.WideBits
import HandS.TupAny
import HandS.TupMul
import HandS.Deep
import HandS.Gcd
import HandS.Star
import HandS.Conv
import HandS.RaiseMore
import HandS.Words
import HandS.Iter
import HandS.Zip
import KE.GoesNew
import KE.GoesMore
import KE.GoesEnum
import KE.GoesZip
import PyProof.EnumMake
import HandS.Hot
import HandS.HotCalls
import PyProof.ReprRoads
import KE.KExcIs
import HandS.ExcField
import HandS.ExcIs
import HandS.EndBits
import HandS.EndTab
import HandS.Ends
import HandS.Text
import HandS.Codes
import HandS.TryOnly
import KE.SortData
import KE.LtData
import KE.KSortAsk
import HandS.Defaults
import HandS.HeadHook1
import HandS.HeadHook4
import HandS.Head3
import HandS.HeadWalk
import HandS.Style
import KE.KStateDown
import HandS.Head0
import HandS.Head1
import HandS.Head2
import HandS.HeadEnd
import PyProof.NoPylong
import KE.IntBitsLaws
import KE.DataEq
import PyProof.P3Eq
import PySem.Challenge.RW_trialways_k78_whole_mixes_of_effects
set_option Elab.async false
set_option linter.all false
set_option maxRecDepth 100000
set_option maxHeartbeats 2000000
/-! MKx: an own error class whose __init__ says super().__init__() and keeps its argument in one field: made. -/
namespace PySem
namespace MKX
open PySem.W PySem.Calls PyProof.Rows PySem.HandSPX
/-! ### the text of __init__ -/
def iA (fld : Str) (p1 p2 : Pos) : Arguments := { posonlyargs := [], args := [{ arg := "self", annotation := none, pos := p1 }, { arg := fld, annotation := none, pos := p2 }], vararg := none, kwonlyargs := [], kw_defaults := [], kwarg := none, defaults := [] }
def iB (fld : Str) (q1 q2 q3 q4 q5 q6 q7 q8 q9 : Pos) : List Stmt := [.Expr (.Call (.Attribute (.Call (.Name "super" q1) [] [] q2) "__init__" q3) [] [] q4) q5, .Assign [.Attribute (.Name "self" q6) fld q7] (.Name fld q8) q9]
def iS (fld : Str) : Scope := { kind := .function, names := [(PySem.Str.ofString "self", .local), (fld, .local), (PySem.Str.ofString "__class__", .free), (PySem.Str.ofString "super", .globalImplicit)], isGenerator := false, isCoroutine := false, more := [] }
/-- what the field's name must bear -/
structure FldOk (fld : Str) : Prop where
  s1 : (iS fld).names.lookup ("self" : Str) = some .local
  s2 : (iS fld).names.lookup fld = some .local
  s3 : (iS fld).names.lookup ("super" : Str) = some .globalImplicit
  s4 : (iS fld).names.lookup ("__class__" : Str) = some .free
  l1 : ∀ a b : Value, ([(("self" : Str), a), (fld, b)] : List (Str × Value)).reverse.lookup ("self" : Str) = some a
  l2 : ∀ a b : Value, ([(("self" : Str), a), (fld, b)] : List (Str × Value)).reverse.lookup fld = some b
  d : (fld == ("__debug__" : Str)) = false
  cell : ∀ x ∈ (iS fld).names, x.2 ≠ .cell
  sw : ∀ (q6 q7 q8 : Pos) (n : Nat) (env : Env), swapsWith (.Name fld q8) (some (.Attribute (.Name "self" q6) fld q7)) n env = pure false
  bd : ∀ (q : Str) (p1 p2 : Pos) (b : List Stmt) (doc pm : Value) (an : Option Addr) (cdv ct : Value) (cc : Addr) (x v : Value), bindArgs (ksFn "__init__" q (iA fld p1 p2) b (iS fld) .none .none doc pm an cdv ct cc) ⟨[x, v], []⟩ = pure [(("self" : Str), x), (fld, v)]
theorem fld_given : FldOk "given" := ⟨rfl, rfl, rfl, rfl, fun _ _ => rfl, fun _ _ => rfl, by decide, by decide, fun _ _ _ _ _ => rfl, fun _ _ _ _ _ _ _ _ _ _ _ _ => by first | rfl | with_unfolding_all rfl⟩
theorem fld_index : FldOk "index" := ⟨rfl, rfl, rfl, rfl, fun _ _ => rfl, fun _ _ => rfl, by decide, by decide, fun _ _ _ _ _ => rfl, fun _ _ _ _ _ _ _ _ _ _ _ _ => by first | rfl | with_unfolding_all rfl⟩
/-- what the written part says of the class nm, at C, and of its __init__, at fI -/
structure XTxt (P : Program) (K : Frag) (mg : Str → Option Value) (nm fld : Str) (C fI : Addr) : Prop where
  gC : mg nm = some (.ref C)
  cls : ∃ nm q N bs bm sn sub ab col dd k0 k1 k2 k3 k5, K.lookup C = some (excClassObj nm q C N bs bm true sn sub ab col dd k0 k1 k2 k3 k5 "ValueError.__new__") ∧ refsVE bm = true
  sa : findIn K (.ref C) "__setattr__" = some (some (.builtin "object.__setattr__"))
  ga : findIn K (.ref C) "__getattribute__" = some (some (.builtin "BaseException.__getattribute__"))
  gg : findIn K (.ref C) "__getattr__" = some none
  noN : findIn K (.ref C) fld = some none
  iC : findIn K (.ref C) "__init__" = some (some (.ref fI))
  tC : typeIn K (.ref fI) = some (.type "function")
  kC : keepIn K (.ref C) = true
  exC : subIn K (.ref C) (.type "BaseException") = some true
  tyC : typeIn K (.ref C) = some (.type "type")
  hdC : hasDictIn K C = true
  sup : ks_superIn K C C "__init__" = some (some (.builtin "ValueError.__init__"))
  hB : subIn K (.ref C) (.type "ValueError") = some true
  mr : mroIn K C (.ref C) = some true
  th : nsIn K cStatics "thirdparty.any" = some none
  ms : mg "super" = none
  top : (P.main.scope.names.lookup ("super" : Str)).isSome = false
  fn : ∃ (oc : Value) (od : Option Addr) (doc pm : Value) (an : Option Addr) (ct : Value) (osl : Array (Option Value)) (cda cc : Addr) (q : Str) (p1 p2 q1 q2 q3 q4 q5 q6 q7 q8 q9 : Pos) (ccl cl : Value) (cdd cld : Option Addr) (ccs csl : Array (Option Value)) (vs : Array Value) (file : Str) (tf : Tok),
    K.lookup fI = some ⟨oc, od, .func (ksFn "__init__" q (iA fld p1 p2) (iB fld q1 q2 q3 q4 q5 q6 q7 q8 q9) (iS fld) .none .none doc pm an (.ref cda) ct cc), osl⟩ ∧ codeIn K (.ref cda) q = true ∧
    K.lookup cda = some ⟨ccl, cdd, .fields vs, ccs⟩ ∧ vs[2]? = some (.str file tf) ∧ ((P.main.file : Str) == file) = true ∧ K.lookup cc = some ⟨cl, cld, .cell (some (.ref C)), csl⟩ ∧
    ∃ pl : Sem Bool, ∀ env : Env, eval (.Call (.Attribute (.Call (.Name "super" q1) [] [] q2) "__init__" q3) [] [] q4) env = (do
      let ov ← attributeBase (.Call (.Name "super" q1) [] [] q2) "__init__" env (eval (.Call (.Name "super" q1) [] [] q2) env)
      standAt q3.atName
      let (f, first) ← holding [ov] (getMethod ov "__init__" pl)
      callWith q4 f first (backTo q4 (starEach [] env)) [])
theorem one_size (v : Value) : [v].length ≤ sizeLine := by
  rw [sizeLine_eq]
  exact (by decide : 1 ≤ 16777216)
/-- what __init__ leaves of a fresh exception at x -/
structure InitEnd (h h' : Heap) (fld : Str) (x C dx : Addr) (v : Value) : Prop where
  keep : ∀ b o, b ≠ x → h.get? b = some o → h'.get? b = some o
  obj : ∃ t1, h'.get? x = some { cls := .ref C, dict := some dx, data := .fields #[.ref t1, .none, .none, .none, .bool false, .none] }
  dbig : h.objs.size ≤ dx
  dne : dx ≠ x
  ns : h'.Ns1 dx (fun y => if y = fld then some v else none)
/-- a made error -/
structure OwnMade (h h' : Heap) (fld : Str) (e C d : Addr) (v : Value) : Prop where
  keep : ∀ b o, h.get? b = some o → h'.get? b = some o
  new : h.objs.size ≤ e
  obj : ∃ oe vs, h'.get? e = some oe ∧ oe.cls = .ref C ∧ oe.dict = some d ∧ oe.data = .fields vs ∧ vs[1]? = some .none ∧ vs[2]? = some .none
  dbig : h.objs.size ≤ d
  dne : d ≠ e
  ns : h'.Ns1 d (fun y => if y = fld then some v else none)
section
variable {prog : Program} {w : World} {A : Around} {E : Value → Shared → Prop} {h : Heap} {g : Array GenState} {d : Drawn} {t : Nat} {os : OsState}
variable {nm q : Str} {C N : Addr} {bs bm : List Value} {hdct : Bool} {sn : List Str} {sub : List Value} {ab : Bool} {col : Option Bool} {dd : Option Addr} {k0 k1 k2 k3 k5 : Option Value}
theorem call_mw {u e t0 : Addr} {rest : List Value} {Q : Value → Shared → Prop}
    (hC : h.get? C = some (excClassObj nm q C N bs bm hdct sn sub ab col dd k0 k1 k2 k3 k5 "ValueError.__new__")) (he : h.get? e = some (excO C t0)) (hu : h.get? u = some (kxs_mw "ValueError.__init__" e)) (hrest : rest.length ≤ sizeLine)
    (hq : ∀ h' t1, (∀ b o, b ≠ e → h.get? b = some o → h'.get? b = some o) → h'.get? e = some (excO C t1) → h.objs.size ≤ h'.objs.size → Q .none ⟨h', g, d, t, os⟩) :
    wpAny (model prog w) A (call (.ref u) rest) Q E ⟨h, g, d, t, os⟩ := by
  refine wpAny_call (codeAny_of_tree ?_)
  show wpAny _ A.in1 (callAny (.ref u) ⟨rest, []⟩) _ _ _
  simp only [callAny]
  refine wpAny_bind (wpAny_load hu ?_)
  simp only [kxs_mw, show (Value.type "method-wrapper" == Value.type "method" || Value.type "method-wrapper" == Value.type "builtin_function_or_method" || Value.type "method-wrapper" == Value.type "method-wrapper") = true by decide, if_true]
  refine W.KFB.if_so (by decide) ?_
  refine wpAny_bind (check_bound_init F.excBase_ValueError.toExcCallFacts hC he rfl ?_)
  refine wpAny_bind (wpAny_pure (wpAny_pure ?_))
  refine ⟨Code.quiet_builtin _ (by decide +kernel), codeAny_builtin F.excBase_ValueError.initEntry ?_⟩
  rw [Around.under_plainId F.excBase_ValueError.init.plain _]
  wp_walk
  refine hq _ h.objs.size (fun b o hb ho => ?_) ?_ ?_
  · rw [Heap.get?_update_other _ _ (Ne.symm hb)]
    exact Heap.get?_push_of_some _ ho
  · rw [Heap.get?_update_self _ (Heap.get?_push_of_some _ he) rfl]
    rfl
  · rw [Heap.size_update, Heap.size_push]
    exact Nat.le_succ _
end
theorem kept_but {K : Frag} {h h' : Heap} {x : Addr} (X : K.In h) (hx : K.lookup x = none) (k : ∀ b o, b ≠ x → h.get? b = some o → h'.get? b = some o) : K.In h' := fun a o e =>
  k a o (fun z => by rw [z, hx] at e; cases e) (X a o e)
section
variable {prog : Program} {w : World} {A : Around} {E : Value → Shared → Prop} {R : Result → Shared → Prop} {s : Shared} {K : Frag} {mg : Str → Option Value} {nm fld : Str} {C fI : Addr}
theorem x_init (FO : FldOk fld) (T : XTxt prog K mg nm fld C fI) {x t0 : Addr} {v : Value} (X : K.In s.heap) (hlim : s.heap.NoLimit) (hG : s.heap.Ns mainGlobals mg) (hB : ∃ mb, s.heap.Ns builtinsNs mb ∧ ∀ y : Str, y ≠ "__name__" → mb y = bootBuiltins y)
    (hx : s.heap.get? x = some (excO C t0)) (hnx : K.lookup x = none) (hroom : A.depth < recursionLimit)
    (hq : ∀ h' tk dx, InitEnd s.heap h' fld x C dx v → R (.ok (.ret .none)) { s with heap := h', toks := tk }) :
    codeAny (model prog w) A (.call (.ref fI) ⟨[.ref x, v], []⟩) R s := by
  obtain ⟨oc, od, doc, pm, an, ct, osl, cda, cc, q, p1, p2, q1, q2, q3, q4, q5, q6, q7, q8, q9, ccl, cl, cdd, cld, ccs, csl, vs, file, tf, ho, hcd, hcode, hvs, hfile, hcell, pl, hev⟩ := T.fn
  obtain ⟨nm', q', N, bs, bm, sn, sub, ab, col, dd, k0, k1, k2, k3, k5, hC, hbm⟩ := T.cls
  have hcl : clsIn K C = some { name := nm', bases := bs, mro := .ref C :: bm, ns := N, qualname := q', hasDict := true, slotNames := sn, subclasses := sub, abstract := ab, collection := col, hasDel := false } := by unfold clsIn; rw [hC] <;> rfl
  refine ks_codeAny_call_defAt (binds := [(("self" : Str), .ref x), (fld, v)]) hroom (X _ _ ho) rfl hlim (codeRec_of X hcd) rfl (BindsTo.of_eq (FO.bd _ _ _ _ _ _ _ _ _ _ _ _)) FO.cell (fun y hy => ?_) (fun h₁ hns k => ?_) rfl rfl rfl
  · rcases List.mem_cons.mp hy with rfl | hy
    · exact FO.s1
    · rcases List.mem_cons.mp hy with rfl | hy
      · exact FO.s2
      · cases hy
  · have X₁ : K.In h₁ := X.keeps k
    have hx₁ := k _ _ hx
    have oD := X₁ _ _ hC
    have hxC : x ≠ C := fun z => by rw [z, hC] at hnx; cases hnx
    have I₁ : InstAt h₁ x (excO C t0) C none := ⟨hx₁, rfl, rfl, trivial⟩
    have LC : ∀ {hh : Heap}, K.In hh → Looks (model prog w) hh (mroOf (.ref C)) (.ref C :: bm) := fun {hh} X' A Q E s k q => wpAny_bind ((looks_clsIn X' hcl) A _ E s k (wpAny_pure q))
    obtain ⟨mb, hnb, hbb⟩ := hB
    refine ks_wpAt_execs_cons (ks_wpAt_Expr_any ?_)
    refine ks_wpAt_MethodCall ?_ (hev _)
    refine ks_wpAt_super_base (env := ksEnv q (iS fld) s.heap.objs.size fI (.ref cda) cc) FO.s3 FO.s4 (by decide) rfl (X₁ _ _ ho) rfl (by first | rfl | with_unfolding_all rfl) rfl (X₁ _ _ hcode) rfl hvs hfile T.top ?_
    refine ks_loadName_global rfl FO.s3 (loadGlobal_builtin (env := ksEnv q (iS fld) s.heap.objs.size fI (.ref cda) cc) (hG.keeps k) T.ms (hnb.keeps k) ((hbb _ (by decide +kernel)).trans (by first | exact Boot.«super» | kernel_rfl | decide +kernel)) ⟨rfl, ?_⟩)
    refine wpAny_loadName_free rfl FO.s4 rfl ⟨_, X₁ _ _ hcell, rfl⟩ ?_
    refine wpAny_loadName_local rfl FO.s1 hns (FO.l1 _ _) ?_
    refine ks_wpAny_isType_cls oD rfl ⟨rfl, ?_⟩
    refine ks_wpAny_call_super oD rfl hx₁ rfl (fun c e => by cases e) (looks_mroIn X₁ T.mr) (fun h₂ hso k₂ => ?_)
    have X₂ : K.In h₂ := X₁.keeps k₂
    have I₂ : InstAt h₂ x (excO C t0) C none := ⟨k₂ _ _ hx₁, rfl, rfl, trivial⟩
    have hm := T.sup
    unfold ks_superIn at hm
    rw [hcl] at hm
    refine kxs_getMethod kxs_ValueError hso (looks_opaque X₂ T.th) (LC X₂) rfl X₂ hm (I₂.type.andThen (looks_subIn X₂ T.hB)) hxC (by decide) ?_
    have k₃ : ∀ b o, h₂.get? b = some o → (h₂.push (kxs_mw "ValueError.__init__" x)).get? b = some o := fun b o e => Heap.get?_push_of_some _ e
    have X₃ : K.In (h₂.push (kxs_mw "ValueError.__init__" x)) := X₂.keeps k₃
    have hx₃ := k₃ _ _ (k₂ _ _ hx₁)
    have hu : (h₂.push (kxs_mw "ValueError.__init__" x)).get? h₂.objs.size = some (kxs_mw "ValueError.__init__" x) := Heap.get?_push_at rfl rfl
    refine kxs_callWith (i := "ValueError.__init__") (x := x) rfl (evalArgs_empty ⟨hu, ?_⟩)
    refine call_mw (X₃ _ _ hC) hx₃ hu (Nat.zero_le _) (fun h₄ t4 k₄ hx₄ hs₄ => ?_)
    have X₄ : K.In h₄ := kept_but X₃ hnx k₄
    have hxL : s.heap.objs.size ≠ x := Nat.ne_of_gt (Heap.lt_size hx)
    have hns₄ : h₄.Ns s.heap.objs.size (fun y => ([(("self" : Str), .ref x), (fld, v)] : List (Str × Value)).reverse.lookup y) := by
      obtain ⟨oL, es, ep, hL, r⟩ := hns
      exact ⟨oL, es, ep, k₄ _ _ hxL (k₃ _ _ (k₂ _ _ hL)), r⟩
    -- self.fld = fld
    refine wpAt_of_wpAny ?_
    show wpAny _ _ (execs _ _) _ _ _
    refine wpAny_execs_cons (plainObj_wpAny_Assign_Attribute ?_ (FO.sw _ _ _ _ _))
    refine wpAny_Name (wpAny_loadName_local rfl FO.s2 hns₄ (FO.l2 _ _) ?_) FO.d
    refine wpAny_Name (wpAny_loadName_local rfl FO.s1 hns₄ (FO.l1 _ _) ?_) (by decide)
    refine set_plain X₄ (ox := excO C t4) (od := none) ⟨hx₄, rfl, rfl, trivial⟩ T.sa ?_
    refine exc_osa X₄ hx₄ hcl (show refsVE (.ref C :: bm) = true from hbm) rfl T.noN (fun h₅ tk₅ dx k₅ dn dne hx₅ hn₅ => ?_)
    show wpAny _ _ (execs _ _) _ _ _
    have z : s.heap.objs.size ≤ h₄.objs.size := by
      obtain ⟨oL, es, ep, hL, r⟩ := hns₄
      exact Nat.le_of_lt (Heap.lt_size hL)
    exact wpAny_execs_nil (hq h₅ tk₅ dx ⟨fun b o hb e => k₅ b o hb (k₄ b o hb (k₃ _ _ (k₂ _ _ (k b o e)))), ⟨_, hx₅⟩, Nat.le_trans z dn, dne, hn₅⟩)
theorem x_made (FO : FldOk fld) (T : XTxt prog K mg nm fld C fI) {v : Value} (X : K.In s.heap) (hlim : s.heap.NoLimit) (hG : s.heap.Ns mainGlobals mg) (hB : ∃ mb, s.heap.Ns builtinsNs mb ∧ ∀ y : Str, y ≠ "__name__" → mb y = bootBuiltins y) (hroom : A.depth + 1 < recursionLimit)
    (hq : ∀ h' tk e d, OwnMade s.heap h' fld e C d v → R (.ok (.ret (.ref e))) { s with heap := h', toks := tk }) :
    codeAny (model prog w) A (.call (.ref C) ⟨[v], []⟩) R s := by
  obtain ⟨nm', q, N, bs, bm, sn, sub, ab, col, dd, k0, k1, k2, k3, k5, hC, hbm⟩ := T.cls
  obtain ⟨hp, g, dr, tk, os⟩ := s
  have k : ∀ b o, hp.get? b = some o → ((hp.push (kdv_tup [v])).push (excO C hp.objs.size)).get? b = some o := fun b o e => Heap.get?_push_of_some _ (Heap.get?_push_of_some _ e)
  have hget : ((hp.push (kdv_tup [v])).push (excO C hp.objs.size)).get? (hp.objs.size + 1) = some (excO C hp.objs.size) := by heap_get
  have hnx : K.lookup (hp.objs.size + 1) = none := by
    cases e : K.lookup (hp.objs.size + 1) with
    | none => rfl
    | some o =>
      have z : hp.get? (hp.objs.size + 1) = some o := X _ _ e
      exact absurd (Nat.lt_of_succ_lt (Heap.lt_size z)) (Nat.lt_irrefl _)
  obtain ⟨mb, hnb, hbb⟩ := hB
  refine call_own F.excBase_ValueError (fun X => refsVE_contains X bm hbm) (X _ _ hC) (looks_findIn X T.iC) (fun self => bind_fn X self T.tC) (one_size v) ?_
  refine x_init (s := ⟨(hp.push (kdv_tup [v])).push (excO C hp.objs.size), g, dr, tk, os⟩) FO T (X.keeps k) (hlim.keeps k) (hG.keeps k) ⟨mb, hnb.keeps k, hbb⟩ hget hnx ?_ fun h' tk' dx ⟨k', hx, dn, dne, hns⟩ => ?_
  · show A.depth + 1 < recursionLimit
    exact hroom
  · have old : ∀ b o, hp.get? b = some o → h'.get? b = some o := fun b o e => k' b o (Nat.ne_of_lt (Nat.lt_succ_of_lt (Heap.lt_size e))) (k b o e)
    have z : hp.objs.size + 1 + 1 ≤ dx := by
      first
        | (simpa only [Heap.size_push] using dn)
        | exact dn
        | (have q := dn; rw [Heap.size_push, Heap.size_push] at q; exact q)
    obtain ⟨t1, hx⟩ := hx
    exact ⟨rfl, hq h' tk' (hp.objs.size + 1) dx ⟨old, Nat.le_succ _, ⟨_, _, hx, rfl, rfl, rfl, rfl, rfl⟩, Nat.le_trans (Nat.le_trans (Nat.le_succ _) (Nat.le_succ _)) z, dne, hns⟩⟩
end
end MKX
end PySem
namespace L2
open PySem PySem.Spec PyProof.Rows
theorem relO_one {v : V} {v' : Value} {fld : Str} (r : RelV v v') (f : Str) : RelO (List.lookup f [(fld, v)]) (if f = fld then some v' else none) := by
  by_cases hw : f = fld
  · subst hw
    rw [if_pos rfl]
    have q : List.lookup f [(f, v)] = some v := by simp [List.lookup]
    rw [q]
    exact r
  · rw [if_neg hw]
    have qw : (f == fld) = false := by simpa using hw
    have q2 : List.lookup f [(fld, v)] = none := by simp [List.lookup, qw]
    rw [q2]
    trivial
section
variable {X : Cx} {C fI : Addr} {nm fld : Str}
def tMkX (fld : Str) (C : Addr) (ta : TA) : St → Hp → XK → Prop := fun σ H Q => ta σ H fun vs H1 => ∃ v, vs = [v] ∧ ∀ d, H1 d = none → Q (.ref C) (some d) (upd H1 d (.xd [(fld, v)]))
theorem pmk_x {a : Expr} {ta : TA} {p pos : Pos} {k : Nat} (FO : PySem.MKX.FldOk fld) (T : PySem.MKX.XTxt X.prog X.K X.mg nm fld C fI) (hr : Room k X.A) (ha : PA X [a] ta) (hg : Gl X nm)
    (hdb : (nm == ("__debug__" : Str)) = false) (he : starEach (a :: []) X.env = (false, eval a X.env) :: starEach [] X.env := by rfl) (hpl : (backTo pos (starEach [] X.env)).any (·.1) = false := by rfl) :
    L2N.PMk X (.Call (.Name nm p) [a] [] pos) (tMkX fld C ta) := by
  intro pins s σ H Q I h
  refine wpAny_Call_Name_kw (ld_glob I hg T.gC ?_ hdb)
  refine PySem.W.callWith_K (h₀ := X.base) I.ok.mod.kin T.kC (thn (ha.run pos pins s σ H _ I h) fun us s1 hh => ?_) he hpl
  obtain ⟨vs, H1, I1, r1, v, ev, q1⟩ := hh
  subst ev
  refine ⟨I1.kIn, ?_⟩
  cases r1 with
  | cons rv rn =>
    rename_i v' us'
    cases rn
    show wpAny _ _ (call (.ref C) [v']) _ _ _
    have hlim := I1.nolimit
    have hG := I1.mod.glob.keeps I1.bk
    obtain ⟨mb, hB, hbb⟩ := I1.mod.blt
    have hB := hB.keeps I1.bk
    obtain ⟨hp, g, dr, tk, os⟩ := s1
    refine wpAny_call (PySem.MKX.x_made FO T I1.kIn hlim hG ⟨mb, hB, hbb⟩ (by have := hr.dp; omega) fun h' tk' e d M => ?_)
    show L2N.MkP X pins σ Q (.ref e) ⟨h', g, dr, tk', os⟩
    obtain ⟨oe, fv, hoe, hc, hd, hdat, h1, h2⟩ := M.obj
    have hns := M.ns
    obtain ⟨G', g1, g2⟩ := restrict h' fun b => decide (b ≠ e)
    have gk : ∀ b, b ≠ e → G'.get? b = h'.get? b := fun b hb => g1 b (decide_eq_true hb)
    have ge : G'.get? e = none := g2 e (by simp)
    have old : ∀ b o, hp.get? b = some o → G'.get? b = some o := fun b o q => (gk b (Nat.ne_of_lt (Nat.lt_of_lt_of_le (Heap.lt_size q) M.new))).trans (M.keep b o q)
    have ob : ObjOk X.prog X.w (upd H1 d (.xd [(fld, v)])) G' d (.xd [(fld, v)]) :=
      ⟨_, hns.at (fun o q => (gk d M.dne).trans q), fun f => relO_one rv f⟩
    have J : Inv X pins σ (upd H1 d (.xd [(fld, v)])) ⟨G', g, dr, tk', os⟩ := I1.laid (t' := tk') old M.dbig ob
    refine ⟨e, oe, fv, ⟨G', g, dr, tk', os⟩, _, .ref C, some d, rfl, J, fun b o q => ?_, ge, hoe, ⟨hc, hd, fun vs e => by rw [hdat] at e; cases e; exact h2⟩, hdat, h1, ?_, rfl, I1.bare, raises_own T.exC T.tyC, q1 d (I1.hok.fresh M.dbig)⟩
    · by_cases hb : b = e
      · have q' : G'.get? b = some o := q
        rw [hb, ge] at q'; cases q'
      · exact (gk b hb).symm.trans q
    · rw [upd_ne (Ne.symm M.dne)]
      exact I1.hok.fresh M.new
end
/-- a class without own __init__, made of nothing: its dict is none -/
theorem pmk_own0 {X : Cx} {C : Addr} {bmB : List Value} {B newId initId : String} {x : Str} {p pos : Pos} (F : ExcBaseFacts B newId initId bmB) (q : PySem.W.excIn X.K C bmB newId = true) (gC : X.mg x = some (.ref C)) (kC : PySem.W.keepIn X.K (.ref C) = true) (r : Raises X (.ref C)) (hg : Gl X x)
    (hdb : (x == ("__debug__" : Str)) = false) : L2N.PMk X (.Call (.Name x p) [] [] pos) (fun _ H Q => Q (.ref C) none H) := by
  intro pins s σ H Q I h
  refine wpAny_Call_Name_kw (ld_glob I hg gC ?_ hdb)
  refine PySem.W.callWith_K0 I.kIn kC ?_
  obtain ⟨bm, N, nm, qn, bs, hdct, sn, sub, ab, col, dd, k0, k1, k2, k3, k5, mN, hC, hN, hni, T⟩ := exc_obj I.kIn q
  refine wpAny_call_exc_subT F T hC hN hni (fun h' e hm => ?_) (Nat.zero_le _)
  exact L2N.mk_of I hm r h (I.hok.gone hm.new)
end L2
set_option Elab.async false
set_option linter.all false
set_option maxRecDepth 100000
/-! MKa: a second layer over HandS: data by value, owned cells, a plain monad; what a reading computes. -/
namespace MK
open PySem PySem.Spec PyProof.Rows L2

/-- a raised error: its class's name, its one field -/
structure Xn where
  cls : Str
  arg : Option (Str × PyData)
/-- a slot's value: data by value, an owned cell, a range, a caught error -/
inductive SV where
  | val (d : PyData)
  | ref (n : Nat)
  | rng (lo hi : Int)
  | exc (x : Xn)
/-- an owned object -/
inductive Cell where
  | lst (ds : List PyData)
abbrev Hm := List (Option Cell)
inductive Res (α : Type) where
  | ok (a : α) (h : Hm)
  | exn (x : Xn) (h : Hm)
  | stuck
abbrev Mm (α : Type) := Hm → Res α
def mP {α : Type} (a : α) : Mm α := fun h => .ok a h
def mB {α β : Type} (m : Mm α) (f : α → Mm β) : Mm β := fun h => match m h with
  | .ok a h' => f a h'
  | .exn x h' => .exn x h'
  | .stuck => .stuck
def mStuck {α : Type} : Mm α := fun _ => .stuck
def mX {α : Type} (x : Xn) : Mm α := fun h => .exn x h
abbrev Ro := List (Option SV)

/-- the caught error that a suite holds: where it lies, its object, the names of the classes -/
abbrev Cxx := Option (Addr × Obj × (Str → Option Value))
def cx (X : Cx) : Cxx := X.pn.head?.map fun p => (p.1, p.2, X.mg)
variable {cz : Cxx}
/-- the tables of code objects that are known -/
class Tb where
  T : List (Addr × Str)
variable [Tb]
/-- ghost: the cells' addresses, the cells, further owned addresses (lists that grow in a comprehension) -/
structure Gh where
  mu : List Addr
  cs : Hm
  ex : List Addr
def own (g : Gh) (a : Addr) : Prop := (∃ (n : Nat) (c : Cell), g.cs[n]? = some (some c) ∧ g.mu[n]? = some a) ∨ a ∈ g.ex

def FL (K : PySem.W.Frag) (g : Gh) (H : Hp) (a : Addr) (xs : List V) : Prop := Rd H a (.lst xs) ∧ ¬ own g a
theorem FL.sq {K : PySem.W.Frag} {g : Gh} {H : Hp} {a : Addr} {xs : List V} (h : FL K g H a xs) : SqL K H a xs := .inl h.1

mutual
inductive RD (K : PySem.W.Frag) (g : Gh) (H : Hp) : V → PyData → Prop
  | non : RD K g H .non .none
  | bl (b : Bool) : RD K g H (.bl b) (.bool b)
  | int (i : Int) : RD K g H (.int i) (.int i)
  | str (x : Str) : RD K g H (.str x) (.str x)
  | lst {a : Addr} {xs : List V} {ds : List PyData} : FL K g H a xs → RDs K g H xs ds → RD K g H (.ref a) (.list ds)
  | tup {a : Addr} {xs : List V} {ds : List PyData} : SqT K H a xs → RDs K g H xs ds → RD K g H (.ref a) (.tuple ds)
inductive RDs (K : PySem.W.Frag) (g : Gh) (H : Hp) : List V → List PyData → Prop
  | nil : RDs K g H [] []
  | cons {v : V} {vs : List V} {d : PyData} {ds : List PyData} : RD K g H v d → RDs K g H vs ds → RDs K g H (v :: vs) (d :: ds)
end
section
variable {K : PySem.W.Frag} {g g' g'' : Gh} {H H' H'' : Hp}
mutual
theorem RD.dp : ∀ {d : PyData} {v : V}, RD K g H v d → Dp K H v d
  | .none, _, h => by cases h; exact .non
  | .bool b, _, h => by cases h; exact .bl b
  | .int i, _, h => by cases h; exact .int i
  | .str x, _, h => by cases h; exact .str x
  | .list ds, _, h => by
    cases h with
    | lst h1 h2 => exact .lst h1.sq (RDs.dp h2)
  | .tuple ds, _, h => by
    cases h with
    | tup h1 h2 => exact .tup h1 (RDs.dp h2)
  | .dict _, _, h => by cases h
theorem RDs.dp : ∀ {ds : List PyData} {vs : List V}, RDs K g H vs ds → DpAll K H vs ds
  | [], _, h => by cases h; exact .nil
  | d :: ds, _, h => by
    cases h with
    | cons h1 h2 => exact .cons (RD.dp h1) (RDs.dp h2)
end
theorem RDs.length : ∀ {vs : List V} {ds : List PyData}, RDs K g H vs ds → vs.length = ds.length
  | [], _, h => by cases h; rfl
  | v :: vs, _, h => by
    cases h with
    | cons h1 h2 => rw [List.length_cons, List.length_cons, RDs.length h2]
theorem RDs.get : ∀ {vs : List V} {ds : List PyData} {i : Nat} {d : PyData}, RDs K g H vs ds → ds[i]? = some d → ∃ v, vs[i]? = some v ∧ RD K g H v d
  | _, _, i, _, .nil, e => by simp at e
  | _, _, 0, _, .cons h1 h2, e => by simp at e; subst e; exact ⟨_, rfl, h1⟩
  | _, _, i + 1, _, .cons h1 h2, e => by
    obtain ⟨v, e1, r⟩ := RDs.get (i := i) h2 (by simpa using e)
    exact ⟨v, by simpa using e1, r⟩
theorem RDs.append : ∀ {vs ws : List V} {ds es : List PyData}, RDs K g H vs ds → RDs K g H ws es → RDs K g H (vs ++ ws) (ds ++ es)
  | _, _, _, _, .nil, s => s
  | _, _, _, _, .cons r t, s => .cons r (RDs.append t s)
theorem RDs.set {v : V} {d : PyData} (r : RD K g H v d) : ∀ {vs : List V} {ds : List PyData} (i : Nat), RDs K g H vs ds → RDs K g H (vs.set i v) (ds.set i d)
  | _, _, _, .nil => .nil
  | _, _, 0, .cons _ t => .cons r t
  | _, _, i + 1, .cons q t => .cons q (RDs.set r i t)
theorem RDs.drop : ∀ {vs : List V} {ds : List PyData} (n : Nat), RDs K g H vs ds → RDs K g H (vs.drop n) (ds.drop n)
  | _, _, 0, h => h
  | _, _, _ + 1, .nil => .nil
  | _, _, n + 1, .cons _ t => RDs.drop n t
theorem RDs.take : ∀ {vs : List V} {ds : List PyData} (n : Nat), RDs K g H vs ds → RDs K g H (vs.take n) (ds.take n)
  | _, _, 0, _ => .nil
  | _, _, _ + 1, .nil => .nil
  | _, _, n + 1, .cons r t => .cons r (RDs.take n t)
theorem RDs.one {v : V} {d : PyData} (r : RD K g H v d) : RDs K g H [v] [d] := .cons r .nil

def CellR (K : PySem.W.Frag) (g : Gh) (H : Hp) : Cell → Addr → Prop
  | .lst ds, a => ∃ vs, H a = some (.lst vs) ∧ RDs K g H vs ds
theorem CellR.mut {c : Cell} {a : Addr} (h : CellR K g H c a) : Mut (H a) := by
  cases c with
  | lst ds => obtain ⟨vs, e, _⟩ := h; rw [e]; trivial

/-- tracked, and no table -/
def Tk : Option HO → Prop
  | none => False
  | some (.tbl _) => False
  | _ => True
theorem Tk.some {o : Option HO} (h : Tk o) : o ≠ none := fun z => by rw [z] at h; exact h
structure Sim (K : PySem.W.Frag) (g : Gh) (H : Hp) : Prop where
  len : g.mu.length = g.cs.length
  cell : ∀ (n : Nat) (c : Cell) (a : Addr), g.cs[n]? = some (some c) → g.mu[n]? = some a → CellR K g H c a
  inj : ∀ (n m : Nat) (a : Addr), g.mu[n]? = some a → g.mu[m]? = some a → n = m
  trk : ∀ (n : Nat) (a : Addr), g.mu[n]? = some a → Tk (H a)
  exm : ∀ a ∈ g.ex, Mut (H a)
  exn : ∀ (n : Nat) (a : Addr), g.mu[n]? = some a → a ∉ g.ex
  tabs : LamX.Tabs Tb.T H
structure Le (g : Gh) (H : Hp) (g' : Gh) (H' : Hp) : Prop where
  pre : ∀ (n : Nat) (a : Addr), g.mu[n]? = some a → g'.mu[n]? = some a
  keep : ∀ a o, H a = some o → (∀ ps, o ≠ .tbl ps) → ¬ own g a → H' a = some o ∧ ¬ own g' a
  exe : g'.ex = g.ex
  exk : ∀ a ∈ g.ex, H' a = H a
  trk : ∀ a, Tk (H a) → Tk (H' a)
theorem Sim.mut {a : Addr} (S : Sim K g H) (h : own g a) : Mut (H a) := by
  rcases h with ⟨n, c, e1, e2⟩ | h
  · exact (S.cell n c a e1 e2).mut
  · exact S.exm a h
theorem Sim.not_own {a : Addr} {o : HO} (S : Sim K g H) (h : H a = some o) (hm : ¬ Mut (some o)) : ¬ own g a := fun q => by
  have := S.mut q
  rw [h] at this
  exact hm this
theorem Le.refl (g : Gh) (H : Hp) : Le g H g H := ⟨fun _ _ h => h, fun _ _ h _ n => ⟨h, n⟩, rfl, fun _ _ => rfl, fun _ h => h⟩
theorem Le.trans (a : Le g H g' H') (b : Le g' H' g'' H'') : Le g H g'' H'' :=
  ⟨fun n x h => b.pre n x (a.pre n x h), fun x o h t n => let q := a.keep x o h t n; b.keep x o q.1 t q.2, b.exe.trans a.exe, fun x hx => (b.exk x (by rw [a.exe]; exact hx)).trans (a.exk x hx), fun x h => b.trk x (a.trk x h)⟩
theorem Le.rd {a : Addr} {u : HO} (L : Le g H g' H') (S : Sim K g H) (hm : ¬ Mut (some u)) (nt : ∀ ps, u ≠ .tbl ps) (r : Rd H a u) : Rd H' a u := by
  rcases r with r | ⟨o, r⟩
  · exact .inl (L.keep a _ r nt (S.not_own r hm)).1
  · exact .inr ⟨o, (L.keep a _ r (fun _ z => nomatch z) (S.not_own r (fun z => z))).1⟩
theorem Le.sqt {a : Addr} {xs : List V} (L : Le g H g' H') (S : Sim K g H) (h : SqT K H a xs) : SqT K H' a xs := by
  rcases h with h | h
  · exact .inl (L.rd S (fun z => z) (fun _ z => nomatch z) h)
  · exact .inr h
theorem Le.fl {a : Addr} {xs : List V} (L : Le g H g' H') (S : Sim K g H) (h : FL K g H a xs) : FL K g' H' a xs := by
  rcases h with ⟨h | ⟨o, h⟩, n⟩
  · obtain ⟨q, n'⟩ := L.keep a _ h (fun _ z => nomatch z) n
    exact ⟨.inl q, n'⟩
  · obtain ⟨q, n'⟩ := L.keep a _ h (fun _ z => nomatch z) n
    exact ⟨.inr ⟨o, q⟩, n'⟩
mutual
theorem RD.mono (S : Sim K g H) (L : Le g H g' H') : ∀ {d : PyData} {v : V}, RD K g H v d → RD K g' H' v d
  | .none, _, h => by cases h; exact .non
  | .bool b, _, h => by cases h; exact .bl b
  | .int i, _, h => by cases h; exact .int i
  | .str x, _, h => by cases h; exact .str x
  | .list ds, _, h => by
    cases h with
    | lst h1 h2 => exact .lst (L.fl S h1) (RDs.mono S L h2)
  | .tuple ds, _, h => by
    cases h with
    | tup h1 h2 => exact .tup (L.sqt S h1) (RDs.mono S L h2)
  | .dict _, _, h => by cases h
theorem RDs.mono (S : Sim K g H) (L : Le g H g' H') : ∀ {ds : List PyData} {vs : List V}, RDs K g H vs ds → RDs K g' H' vs ds
  | [], _, h => by cases h; exact .nil
  | d :: ds, _, h => by
    cases h with
    | cons h1 h2 => exact .cons (RD.mono S L h1) (RDs.mono S L h2)
end
theorem CellR.mono (S : Sim K g H) (L : Le g H g' H') {c : Cell} {a : Addr} (e : H' a = H a) (h : CellR K g H c a) : CellR K g' H' c a := by
  cases c with
  | lst ds => obtain ⟨vs, e1, r⟩ := h; exact ⟨vs, e.trans e1, r.mono S L⟩

/-- the field of an error whose dict is oa -/
def XA (K : PySem.W.Frag) (g : Gh) (H : Hp) (x : Xn) (oa : Option Addr) : Prop := match x.arg with
  | none => oa = none
  | some (f, d) => ∃ dx v, oa = some dx ∧ H dx = some (.xd [(f, v)]) ∧ RD K g H v d
theorem XA.mono (S : Sim K g H) (L : Le g H g' H') {x : Xn} {oa : Option Addr} (h : XA K g H x oa) : XA K g' H' x oa := by
  unfold XA at *
  cases q : x.arg with
  | none => rw [q] at h; exact h
  | some p =>
    rw [q] at h
    obtain ⟨dx, v, e1, e2, r⟩ := h
    exact ⟨dx, v, e1, (L.keep dx _ e2 (fun _ z => nomatch z) (S.not_own e2 fun z => z)).1, r.mono S L⟩
def RSV (K : PySem.W.Frag) (cz : Cxx) (g : Gh) (H : Hp) (v : V) : SV → Prop
  | .val d => RD K g H v d
  | .ref n => ∃ a, v = .ref a ∧ g.mu[n]? = some a
  | .rng lo hi => ∃ a, v = .ref a ∧ H a = some (.rng lo hi)
  | .exc x => ∃ a oe mg C, cz = some (a, oe, mg) ∧ v = .ref a ∧ oe.cls = .ref C ∧ mg x.cls = some (.ref C) ∧ XA K g H x oe.dict
theorem RSV.mono (S : Sim K g H) (L : Le g H g' H') {d : SV} {v : V} (h : RSV K cz g H v d) : RSV K cz g' H' v d := by
  cases d with
  | val d => exact RD.mono S L h
  | ref n => obtain ⟨a, e1, e2⟩ := h; exact ⟨a, e1, L.pre n a e2⟩
  | rng lo hi => obtain ⟨a, e1, e2⟩ := h; exact ⟨a, e1, (L.keep a _ e2 (fun _ z => nomatch z) (S.not_own e2 fun z => z)).1⟩
  | exc x => obtain ⟨a, oe, mg, C, e1, e2, e3, e4, e5⟩ := h; exact ⟨a, oe, mg, C, e1, e2, e3, e4, e5.mono S L⟩
inductive RSVs (K : PySem.W.Frag) (cz : Cxx) (g : Gh) (H : Hp) : List V → List SV → Prop
  | nil : RSVs K cz g H [] []
  | cons {v : V} {vs : List V} {d : SV} {ds : List SV} : RSV K cz g H v d → RSVs K cz g H vs ds → RSVs K cz g H (v :: vs) (d :: ds)
theorem RSVs.mono (S : Sim K g H) (L : Le g H g' H') : ∀ {ds : List SV} {vs : List V}, RSVs K cz g H vs ds → RSVs K cz g' H' vs ds
  | _, _, .nil => .nil
  | _, _, .cons r t => .cons (r.mono S L) (t.mono S L)
theorem RSVs.length : ∀ {vs : List V} {ds : List SV}, RSVs K cz g H vs ds → vs.length = ds.length
  | _, _, .nil => rfl
  | _, _, .cons _ t => by rw [List.length_cons, List.length_cons, t.length]

def EnvR (K : PySem.W.Frag) (cz : Cxx) (g : Gh) (H : Hp) (ρ : Ro) (σ : L2.St) : Prop :=
  ρ.length = σ.length ∧ ∀ (i : Nat) (d : SV), ρ[i]? = some (some d) → ∃ v, σ[i]? = some (some v) ∧ RSV K cz g H v d
theorem EnvR.mono (S : Sim K g H) (L : Le g H g' H') {ρ : Ro} {σ : L2.St} (h : EnvR K cz g H ρ σ) : EnvR K cz g' H' ρ σ :=
  ⟨h.1, fun i d e => let ⟨v, e1, r⟩ := h.2 i d e; ⟨v, e1, r.mono S L⟩⟩
theorem EnvR.set {ρ : Ro} {σ : L2.St} {v : V} {d : SV} (h : EnvR K cz g H ρ σ) (r : RSV K cz g H v d) (i : Nat) : EnvR K cz g H (ρ.set i (some d)) (σ.set i (some v)) := by
  refine ⟨by rw [List.length_set, List.length_set]; exact h.1, fun j e q => ?_⟩
  by_cases hj : i = j
  · subst hj
    by_cases hl : i < ρ.length
    · rw [List.getElem?_set_self hl] at q
      cases q
      exact ⟨v, List.getElem?_set_self (by rw [← h.1]; exact hl), r⟩
    · rw [List.getElem?_eq_none (by simpa using hl)] at q
      cases q
  · rw [List.getElem?_set_ne hj] at q ⊢
    exact h.2 j e q
theorem EnvR.clear {ρ : Ro} {σ : L2.St} (h : EnvR K cz g H ρ σ) (i : Nat) (o : Option V) : EnvR K cz g H (ρ.set i none) (σ.set i o) := by
  refine ⟨by rw [List.length_set, List.length_set]; exact h.1, fun j e q => ?_⟩
  by_cases hj : i = j
  · subst hj
    by_cases hl : i < ρ.length
    · rw [List.getElem?_set_self hl] at q
      cases q
    · rw [List.getElem?_eq_none (by simpa using hl)] at q
      cases q
  · rw [List.getElem?_set_ne hj] at q ⊢
    exact h.2 j e q

/-! ### how the ghost moves -/
/-- new tracked things, nothing else -/
theorem Sim.grow (S : Sim K g H) (e : ∀ a o, H a = some o → H' a = some o) : Sim K g H' ∧ Le g H g H' := by
  have L : Le g H g H' := ⟨fun _ _ h => h, fun a o h _ n => ⟨e a o h, n⟩, rfl, fun a ha => ?_, fun a h => ?_⟩
  · refine ⟨⟨S.len, fun n c a h1 h2 => ?_, S.inj, fun n a h => L.trk a (S.trk n a h), fun a ha => by rw [L.exk a ha]; exact S.exm a ha, S.exn, S.tabs.ext e⟩, L⟩
    have hq := S.cell n c a h1 h2
    have hm := hq.mut
    refine hq.mono S L ?_
    cases q : H a with
    | none => rw [q] at hm; exact hm.elim
    | some o => exact e a o q
  · have hm := S.exm a ha
    cases q : H a with
    | none => rw [q] at hm; exact hm.elim
    | some o => exact e a o q
  · cases q : H a with
    | none => exact absurd q h.some
    | some o => rw [e a o q]; rw [q] at h; exact h
theorem upd_grow {p : Addr} {o : HO} (hp : H p = none) : ∀ a u, H a = some u → upd H p o a = some u := fun a u h => by
  rw [upd_ne (ne_of_none h hp)]; exact h
theorem Sim.laid {p : Addr} {o : HO} (S : Sim K g H) (hp : H p = none) : Sim K g (upd H p o) ∧ Le g H g (upd H p o) := S.grow (upd_grow hp)
theorem Sim.fresh_own {p : Addr} (S : Sim K g H) (hp : H p = none) : ¬ own g p := fun q => by
  have := S.mut q
  rw [hp] at this
  exact this
theorem Sim.fresh_mu {p : Addr} {n : Nat} (S : Sim K g H) (hp : H p = none) : g.mu[n]? ≠ some p := fun q => (S.trk n p q).some hp

/-- a new owned list -/
theorem Sim.alloc {p : Addr} {vs : List V} {ds : List PyData} (S : Sim K g H) (hp : H p = none) (r : RDs K g H vs ds) :
    Sim K ⟨g.mu ++ [p], g.cs ++ [some (.lst ds)], g.ex⟩ (upd H p (.lst vs)) ∧ Le g H ⟨g.mu ++ [p], g.cs ++ [some (.lst ds)], g.ex⟩ (upd H p (.lst vs)) := by
  have hmu : ∀ (n : Nat) (a : Addr), (g.mu ++ [p])[n]? = some a → (g.mu[n]? = some a) ∨ (n = g.mu.length ∧ a = p) := fun n a h => by
    by_cases hn : n < g.mu.length
    · rw [List.getElem?_append_left hn] at h; exact .inl h
    · rw [List.getElem?_append_right (by omega)] at h
      by_cases h0 : n - g.mu.length = 0
      · rw [h0] at h
        exact .inr ⟨by omega, by simpa using h.symm⟩
      · rw [List.getElem?_eq_none (by simp; omega)] at h
        cases h
  have hown : ∀ a, own ⟨g.mu ++ [p], g.cs ++ [some (.lst ds)], g.ex⟩ a → own g a ∨ a = p := fun a h => by
    rcases h with ⟨n, c, h1, h2⟩ | h
    · rcases hmu n a h2 with q | ⟨_, q⟩
      · have hn : n < g.cs.length := by rw [← S.len]; exact (List.getElem?_eq_some_iff.mp q).1
        have h1 : (g.cs ++ [some (Cell.lst ds)])[n]? = some (some c) := h1
        rw [List.getElem?_append_left hn] at h1
        exact .inl (.inl ⟨n, c, h1, q⟩)
      · exact .inr q
    · exact .inl (.inr h)
  have L : Le g H ⟨g.mu ++ [p], g.cs ++ [some (.lst ds)], g.ex⟩ (upd H p (.lst vs)) := by
    refine ⟨fun n a h => ?_, fun a o h _ n => ⟨upd_grow hp a o h, fun q => ?_⟩, rfl, fun a ha => ?_, fun a h => ?_⟩
    · show (g.mu ++ [p])[n]? = some a
      rw [List.getElem?_append_left (List.getElem?_eq_some_iff.mp h).1]; exact h
    · rcases hown a q with q | q
      · exact n q
      · rw [q, hp] at h; cases h
    · have hm := S.exm a ha
      rw [upd_ne]
      intro z; rw [z, hp] at hm; exact hm
    · by_cases hb : a = p
      · rw [hb, upd_same]; trivial
      · rw [upd_ne hb]; exact h
  refine ⟨⟨?_, fun n c a h1 h2 => ?_, fun n m a h1 h2 => ?_, fun n a h => ?_, fun a ha => ?_, fun n a h => ?_, S.tabs.ext (upd_grow hp)⟩, L⟩
  · show (g.mu ++ [p]).length = (g.cs ++ [some (Cell.lst ds)]).length
    rw [List.length_append, List.length_append, S.len]; rfl
  · rcases hmu n a h2 with q | ⟨e1, e2⟩
    · have hn : n < g.cs.length := by rw [← S.len]; exact (List.getElem?_eq_some_iff.mp q).1
      have h1 : (g.cs ++ [some (Cell.lst ds)])[n]? = some (some c) := h1
      rw [List.getElem?_append_left hn] at h1
      exact (S.cell n c a h1 q).mono S L (upd_ne fun z => (S.trk n a q).some (by rw [z]; exact hp))
    · subst e1 e2
      have h1 : (g.cs ++ [some (Cell.lst ds)])[g.mu.length]? = some (some c) := h1
      rw [S.len, List.getElem?_append_right (Nat.le_refl _), Nat.sub_self] at h1
      cases h1
      exact ⟨vs, upd_same, r.mono S L⟩
  · rcases hmu n a h1 with q | ⟨e1, e2⟩ <;> rcases hmu m a h2 with q' | ⟨e1', e2'⟩
    · exact S.inj n m a q q'
    · subst e2'; exact absurd q (S.fresh_mu hp)
    · subst e2; exact absurd q' (S.fresh_mu hp)
    · rw [e1, e1']
  · rcases hmu n a h with q | ⟨e1, e2⟩
    · exact L.trk a (S.trk n a q)
    · rw [e2, upd_same]; trivial
  · rw [L.exk a ha]; exact S.exm a ha
  · rcases hmu n a h with q | ⟨e1, e2⟩
    · exact S.exn n a q
    · subst e2
      intro z
      have hm := S.exm _ z
      rw [hp] at hm; exact hm

theorem tabs_write {T : List (Addr × Str)} {a : Addr} {o : HO} (t : LamX.Tabs T H) (h : ∃ us, H a = some (.lst us)) : LamX.Tabs T (upd H a o) := by
  obtain ⟨us, h⟩ := h
  intro p hp
  obtain ⟨ps, h1, h2, h3⟩ := t p hp
  refine ⟨ps, ?_, h2, fun pos cv hc => ?_⟩
  · rw [upd_ne]; exact h1
    intro z; rw [z, h] at h1; cases h1
  · obtain ⟨c, e1, e2⟩ := h3 pos cv hc
    refine ⟨c, e1, ?_⟩
    rw [upd_ne]; exact e2
    intro z; rw [z, h] at e2; exact nomatch e2
theorem cell_lst {c : Cell} {a : Addr} (h : CellR K g H c a) : ∃ us ds, H a = some (.lst us) ∧ c = .lst ds := by
  cases c with
  | lst ds => obtain ⟨us, e, _⟩ := h; exact ⟨us, ds, e, rfl⟩
/-- an owned list written -/
theorem Sim.write {a : Addr} {n : Nat} {vs : List V} {c : Cell} {ds : List PyData} (S : Sim K g H) (hc : g.cs[n]? = some (some c)) (ha : g.mu[n]? = some a) (r : RDs K g H vs ds) :
    Sim K ⟨g.mu, g.cs.set n (some (.lst ds)), g.ex⟩ (upd H a (.lst vs)) ∧ Le g H ⟨g.mu, g.cs.set n (some (.lst ds)), g.ex⟩ (upd H a (.lst vs)) := by
  have hn : n < g.cs.length := (List.getElem?_eq_some_iff.mp hc).1
  have oa : own g a := .inl ⟨n, c, hc, ha⟩
  have hown : ∀ b, own ⟨g.mu, g.cs.set n (some (.lst ds)), g.ex⟩ b → own g b := fun b h => by
    rcases h with ⟨m, c', h1, h2⟩ | h
    · by_cases hm : n = m
      · subst hm; exact .inl ⟨n, c, hc, h2⟩
      · have h1 : (g.cs.set n (some (Cell.lst ds)))[m]? = some (some c') := h1
        rw [List.getElem?_set_ne hm] at h1
        exact .inl ⟨m, c', h1, h2⟩
    · exact .inr h
  have L : Le g H ⟨g.mu, g.cs.set n (some (.lst ds)), g.ex⟩ (upd H a (.lst vs)) := by
    refine ⟨fun _ _ h => h, fun b o h _ nb => ?_, rfl, fun b hb => ?_, fun b h => ?_⟩
    · have hb : b ≠ a := fun z => nb (by rw [z]; exact oa)
      exact ⟨by rw [upd_ne hb]; exact h, fun q => nb (hown b q)⟩
    · rw [upd_ne]
      intro z; rw [z] at hb; exact S.exn n a ha hb
    · by_cases hb : b = a
      · rw [hb, upd_same]; trivial
      · rw [upd_ne hb]; exact h
  refine ⟨⟨?_, fun m c' b h1 h2 => ?_, S.inj, fun m b h => L.trk b (S.trk m b h), fun b hb => by rw [L.exk b hb]; exact S.exm b hb, S.exn, tabs_write S.tabs (let ⟨us, _, e, _⟩ := cell_lst (S.cell n c a hc ha); ⟨us, e⟩)⟩, L⟩
  · show g.mu.length = (g.cs.set n (some (Cell.lst ds))).length
    rw [List.length_set]; exact S.len
  · by_cases hm : n = m
    · subst hm
      have h1 : (g.cs.set n (some (Cell.lst ds)))[n]? = some (some c') := h1
      rw [List.getElem?_set_self hn] at h1
      cases h1
      have e : b = a := by rw [ha] at h2; exact (Option.some.inj h2).symm
      subst e
      exact ⟨vs, upd_same, r.mono S L⟩
    · have h1 : (g.cs.set n (some (Cell.lst ds)))[m]? = some (some c') := h1
      rw [List.getElem?_set_ne hm] at h1
      exact (S.cell m c' b h1 h2).mono S L (upd_ne fun z => hm (S.inj n m a ha (by rw [← z]; exact h2)))

/-- an owned cell let go: from now on by value -/
theorem Sim.free {n : Nat} {a : Addr} {ds : List PyData} (S : Sim K g H) (hc : g.cs[n]? = some (some (.lst ds))) (ha : g.mu[n]? = some a) :
    Sim K ⟨g.mu, g.cs.set n none, g.ex⟩ H ∧ Le g H ⟨g.mu, g.cs.set n none, g.ex⟩ H ∧ RD K ⟨g.mu, g.cs.set n none, g.ex⟩ H (.ref a) (.list ds) := by
  have hn : n < g.cs.length := (List.getElem?_eq_some_iff.mp hc).1
  have back : ∀ (m : Nat) (c' : Cell), (g.cs.set n none)[m]? = some (some c') → m ≠ n ∧ g.cs[m]? = some (some c') := fun m c' h => by
    by_cases hm : n = m
    · subst hm
      rw [List.getElem?_set_self hn] at h; cases h
    · rw [List.getElem?_set_ne hm] at h
      exact ⟨fun z => hm z.symm, h⟩
  have L : Le g H ⟨g.mu, g.cs.set n none, g.ex⟩ H := by
    refine ⟨fun _ _ h => h, fun b o h _ nb => ⟨h, fun q => nb ?_⟩, rfl, fun _ _ => rfl, fun _ h => h⟩
    rcases q with ⟨m, c', h1, h2⟩ | q
    · exact .inl ⟨m, c', (back m c' h1).2, h2⟩
    · exact .inr q
  have S' : Sim K ⟨g.mu, g.cs.set n none, g.ex⟩ H := ⟨by show g.mu.length = (g.cs.set n none).length; rw [List.length_set]; exact S.len,
    fun m c' b h1 h2 => (S.cell m c' b (back m c' h1).2 h2).mono S L rfl, S.inj, S.trk, S.exm, S.exn, S.tabs⟩
  refine ⟨S', L, ?_⟩
  obtain ⟨vs, e, r⟩ := S.cell n _ a hc ha
  refine .lst ⟨.inl e, fun q => ?_⟩ (r.mono S L)
  rcases q with ⟨m, c', h1, h2⟩ | q
  · obtain ⟨hm, _⟩ := back m c' h1
    exact hm (S.inj m n a h2 ha)
  · exact S.exn n a ha q

/-- at a def's end: the cells made in it are forgotten -/
theorem Sim.cut (n : Nat) (S : Sim K g H) : Sim K ⟨g.mu.take n, g.cs.take n, g.ex⟩ H := by
  have mu' : ∀ (m : Nat) (a : Addr), (g.mu.take n)[m]? = some a → g.mu[m]? = some a := fun m a h => by
    rw [List.getElem?_take] at h
    split at h
    · exact h
    · cases h
  have cs' : ∀ (m : Nat) (c : Option Cell), (g.cs.take n)[m]? = some c → g.cs[m]? = some c := fun m c h => by
    rw [List.getElem?_take] at h
    split at h
    · exact h
    · cases h
  have L : ∀ b, own ⟨g.mu.take n, g.cs.take n, g.ex⟩ b → own g b := fun b q => by
    rcases q with ⟨m, c', h1, h2⟩ | q
    · exact .inl ⟨m, c', cs' m _ h1, mu' m _ h2⟩
    · exact .inr q
  have fl : ∀ {a xs}, FL K g H a xs → FL K ⟨g.mu.take n, g.cs.take n, g.ex⟩ H a xs := fun {a xs} h => by
    exact ⟨h.1, fun z => h.2 (L _ z)⟩
  have rd : (∀ {d v}, RD K g H v d → RD K ⟨g.mu.take n, g.cs.take n, g.ex⟩ H v d) ∧ (∀ {ds vs}, RDs K g H vs ds → RDs K ⟨g.mu.take n, g.cs.take n, g.ex⟩ H vs ds) := by
    constructor
    · intro d v h
      induction h using RD.rec (motive_2 := fun vs ds _ => RDs K ⟨g.mu.take n, g.cs.take n, g.ex⟩ H vs ds) with
      | non => exact .non
      | bl b => exact .bl b
      | int i => exact .int i
      | str x => exact .str x
      | lst h1 _ ih => exact .lst (fl h1) ih
      | tup h1 _ ih => exact .tup h1 ih
      | nil => exact .nil
      | cons _ _ i1 i2 => exact .cons i1 i2
    · intro ds vs h
      induction h using RDs.rec (motive_1 := fun v d _ => RD K ⟨g.mu.take n, g.cs.take n, g.ex⟩ H v d) with
      | non => exact .non
      | bl b => exact .bl b
      | int i => exact .int i
      | str x => exact .str x
      | lst h1 _ ih => exact .lst (fl h1) ih
      | tup h1 _ ih => exact .tup h1 ih
      | nil => exact .nil
      | cons _ _ i1 i2 => exact .cons i1 i2
  refine ⟨by show (g.mu.take n).length = (g.cs.take n).length; rw [List.length_take, List.length_take, S.len], fun m c a h1 h2 => ?_, fun m m' a h1 h2 => S.inj m m' a (mu' _ _ h1) (mu' _ _ h2), fun m a h => S.trk m a (mu' _ _ h), S.exm, fun m a h => S.exn m a (mu' _ _ h), S.tabs⟩
  have q := S.cell m c a (cs' _ _ h1) (mu' _ _ h2)
  cases c with
  | lst ds => obtain ⟨vs, e, r⟩ := q; exact ⟨vs, e, rd.2 r⟩
theorem cut_own {n : Nat} {b : Addr} (q : own ⟨g.mu.take n, g.cs.take n, g.ex⟩ b) : own g b := by
  rcases q with ⟨m, c', h1, h2⟩ | q
  · refine .inl ⟨m, c', ?_, ?_⟩
    · have h1 : (g.cs.take n)[m]? = some (some c') := h1
      rw [List.getElem?_take] at h1
      split at h1
      · exact h1
      · cases h1
    · have h2 : (g.mu.take n)[m]? = some b := h2
      rw [List.getElem?_take] at h2
      split at h2
      · exact h2
      · cases h2
  · exact .inr q
theorem RD.cut (n : Nat) {d : PyData} {v : V} (h : RD K g H v d) : RD K ⟨g.mu.take n, g.cs.take n, g.ex⟩ H v d := by
  have fl : ∀ {a xs}, FL K g H a xs → FL K ⟨g.mu.take n, g.cs.take n, g.ex⟩ H a xs := fun {a xs} h => by
    exact ⟨h.1, fun z => h.2 (cut_own z)⟩
  induction h using RD.rec (motive_2 := fun vs ds _ => RDs K ⟨g.mu.take n, g.cs.take n, g.ex⟩ H vs ds) with
  | non => exact .non
  | bl b => exact .bl b
  | int i => exact .int i
  | str x => exact .str x
  | lst h1 _ ih => exact .lst (fl h1) ih
  | tup h1 _ ih => exact .tup h1 ih
  | nil => exact .nil
  | cons _ _ i1 i2 => exact .cons i1 i2
theorem Le.cut (S : Sim K g H) (L : Le g H g' H') : Le g H ⟨g'.mu.take g.mu.length, g'.cs.take g.mu.length, g'.ex⟩ H' := by
  refine ⟨fun n a h => ?_, fun a o h t n => ⟨(L.keep a o h t n).1, fun q => (L.keep a o h t n).2 (cut_own q)⟩, L.exe, L.exk, L.trk⟩
  show (g'.mu.take g.mu.length)[n]? = some a
  rw [List.getElem?_take, if_pos (List.getElem?_eq_some_iff.mp h).1]
  exact L.pre n a h
end
end MK
set_option Elab.async false
set_option linter.all false
set_option maxRecDepth 100000
set_option maxHeartbeats 1000000
/-! MKb: what a reading computes: expressions. -/
namespace MK
open PySem PySem.Spec PyProof.Rows L2
variable {cz : Cxx} [Tb]

abbrev Mg := Str → Option Value
def XR (K : PySem.W.Frag) (mg : Mg) (g : Gh) (H : Hp) (x : Xn) (cls : Value) (oa : Option Addr) : Prop :=
  (∃ C, mg x.cls = some (.ref C) ∧ cls = .ref C) ∧ XA K g H x oa
/-- what a computation leads to -/
def Out {α : Type} (K : PySem.W.Frag) (mg : Mg) (E : XK) (g : Gh) (H : Hp) (r : Res α) (P : α → Gh → Hp → Prop) : Prop := match r with
  | .ok d h' => ∀ g' H', g'.cs = h' → Sim K g' H' → Le g H g' H' → P d g' H'
  | .exn x h' => ∀ g' H' cls oa, g'.cs = h' → Sim K g' H' → Le g H g' H' → XR K mg g' H' x cls oa → E cls oa H'
  | .stuck => False
section
variable {K : PySem.W.Frag} {mg : Mg} {E : XK} {g : Gh} {H : Hp} {α β : Type}
theorem Out.mono {r : Res α} {P P' : α → Gh → Hp → Prop} (o : Out K mg E g H r P) (h : ∀ d g' H', Sim K g' H' → Le g H g' H' → P d g' H' → P' d g' H') : Out K mg E g H r P' := by
  cases r with
  | ok d h' => exact fun g' H' e S L => h d g' H' S L (o g' H' e S L)
  | exn x h' => exact o
  | stuck => exact o
theorem Out.bind {m : Mm α} {f : α → Mm β} {h : Hm} {P : β → Gh → Hp → Prop} (o : Out K mg E g H (mB m f h) P) : Out K mg E g H (m h) fun d g1 H1 => Out K mg E g1 H1 (f d g1.cs) P := by
  unfold mB at o
  cases q : m h with
  | ok d h' =>
    rw [q] at o
    intro g1 H1 e S1 L1
    subst e
    have o : Out K mg E g H (f d g1.cs) P := o
    cases q2 : f d g1.cs with
    | ok d2 h2 => rw [q2] at o; exact fun g2 H2 e S2 L2 => o g2 H2 e S2 (L1.trans L2)
    | exn x h2 => rw [q2] at o; exact fun g2 H2 cls oa e S2 L2 => o g2 H2 cls oa e S2 (L1.trans L2)
    | stuck => rw [q2] at o; exact o
  | exn x h' => rw [q] at o; exact o
  | stuck => rw [q] at o; exact o
theorem Out.pure {a : α} {P : α → Gh → Hp → Prop} (S : Sim K g H) (o : Out K mg E g H (mP a g.cs) P) : P a g H := o g H rfl S (Le.refl g H)
theorem Out.stuck {P : α → Gh → Hp → Prop} {h : Hm} (o : Out K mg E g H (mStuck (α := α) h) P) : False := o
/-- a new thing tracked by value -/
theorem Out.laid {a : α} {p : Addr} {u : HO} {P : α → Gh → Hp → Prop} (S : Sim K g H) (hp : H p = none) (o : Out K mg E g H (mP a g.cs) P) : P a g (upd H p u) ∧ Sim K g (upd H p u) ∧ Le g H g (upd H p u) := by
  obtain ⟨S', L'⟩ := S.laid (o := u) hp
  exact ⟨o g _ rfl S' L', S', L'⟩
end

theorem PEwk {X : Cx} {e : Expr} {t t' : TE} (h : PE X e t) (w : ∀ σ H Q, t' σ H Q → t σ H Q) : PE X e t' := ⟨fun pins s σ H Q I q => h.run pins s σ H Q I (w σ H Q q)⟩
theorem PTwk {X : Cx} {e : Expr} {t t' : TT} (h : PT X e t) (w : ∀ σ H Q, t' σ H Q → t σ H Q) : PT X e t' := ⟨fun pins s σ H Q I q => h.run pins s σ H Q I (w σ H Q q)⟩
theorem PWwk {X : Cx} {e : Expr} {t t' : TT} (h : PW X e t) (w : ∀ σ H Q, t' σ H Q → t σ H Q) : PW X e t' := ⟨fun wh pins s σ H Q I q => h.run wh pins s σ H Q I (w σ H Q q)⟩
theorem PAwk {X : Cx} {es : List Expr} {t t' : TA} (h : PA X es t) (w : ∀ σ H Q, t' σ H Q → t σ H Q) : PA X es t' := ⟨fun pos pins s σ H Q I q => h.run pos pins s σ H Q I (w σ H Q q)⟩
theorem PSwk {X : Cx} {e : Stmt} {t t' : TS} (h : PS X e t) (w : ∀ D σ H, t' D σ H → t D σ H) : PS X e t' := ⟨fun pins s σ H D I q => h.run pins s σ H D I (w D σ H q)⟩
theorem PSswk {X : Cx} {e : List Stmt} {t t' : TS} (h : PSs X e t) (w : ∀ D σ H, t' D σ H → t D σ H) : PSs X e t' := ⟨fun pins s σ H D I q => h.run pins s σ H D I (w D σ H q)⟩

/-! ### readings -/
abbrev vbl (b : Bool) : V := .bl b
abbrev Em := Ro → Mm SV
abbrev Tm := Ro → Mm Bool
abbrev Am := Ro → Mm (List SV)
def tM (K : PySem.W.Frag) (cz : Cxx) (mg : Mg) (E : XK) (m : Em) : TE := fun σ H Q => ∃ g ρ, Sim K g H ∧ EnvR K cz g H ρ σ ∧ Out K mg E g H (m ρ g.cs) fun d g' H' => ∀ v, RSV K cz g' H' v d → Q v H'
def tT (K : PySem.W.Frag) (cz : Cxx) (mg : Mg) (E : XK) (m : Tm) : TT := fun σ H Q => ∃ g ρ, Sim K g H ∧ EnvR K cz g H ρ σ ∧ Out K mg E g H (m ρ g.cs) fun b _ H' => Q b H'
def tA (K : PySem.W.Frag) (cz : Cxx) (mg : Mg) (E : XK) (m : Am) : TA := fun σ H Q => ∃ g ρ, Sim K g H ∧ EnvR K cz g H ρ σ ∧ Out K mg E g H (m ρ g.cs) fun ds g' H' => ∀ vs, RSVs K cz g' H' vs ds → Q vs H'
abbrev ME (X : Cx) (E : XK) (e : Expr) (m : Em) : Prop := PE X e (tM X.K (cx X) X.mg E m)
abbrev MT (X : Cx) (E : XK) (e : Expr) (m : Tm) : Prop := PT X e (tT X.K (cx X) X.mg E m)
abbrev MW (X : Cx) (E : XK) (e : Expr) (m : Tm) : Prop := PW X e (tT X.K (cx X) X.mg E m)
abbrev MA (X : Cx) (E : XK) (es : List Expr) (m : Am) : Prop := PA X es (tA X.K (cx X) X.mg E m)

/-! ### the combinators -/
def opt {α : Type} (o : Option α) : Mm α := match o with
  | some a => mP a
  | none => mStuck
def slot (ρ : Ro) (i : Nat) : Option SV := match ρ[i]? with
  | some (some d) => some d
  | _ => none
theorem slot_some {ρ : Ro} {i : Nat} {d : SV} (h : slot ρ i = some d) : ρ[i]? = some (some d) := by
  unfold slot at h
  split at h
  · rename_i e q
    cases h
    exact q
  · cases h
theorem opt_of {K : PySem.W.Frag} {mg : Mg} {E : XK} {g : Gh} {H : Hp} {α : Type} {q : Option α} {P : α → Gh → Hp → Prop} (S : Sim K g H) (o : Out K mg E g H (opt q g.cs) P) : ∃ x, q = some x ∧ P x g H := by
  unfold opt at o
  cases q with
  | none => exact o.elim
  | some x => exact ⟨x, rfl, o.pure S⟩
def eVar (i : Nat) : Em := fun ρ => opt (slot ρ i)
def eC (d : PyData) : Em := fun _ => mP (.val d)
def mFrz (d : SV) : Mm SV := fun h => match d with
  | .ref n => match h[n]? with
    | some (some (.lst ds)) => .ok (.val (.list ds)) (h.set n none)
    | _ => .stuck
  | _ => .stuck
/-- an owned list let go -/
def eFrz (i : Nat) : Em := fun ρ => mB (eVar i ρ) mFrz
def eOp2 (F : SV → SV → Mm SV) (a b : Em) : Em := fun ρ => mB (a ρ) fun x => mB (b ρ) fun y => F x y
def eOp1 (F : SV → Mm SV) (a : Em) : Em := fun ρ => mB (a ρ) F
def aNil : Am := fun _ => mP []
def aCons (a : Em) (r : Am) : Am := fun ρ => mB (a ρ) fun x => mB (r ρ) fun xs => mP (x :: xs)
def eArgs (F : List SV → Mm SV) (a : Am) : Em := fun ρ => mB (a ρ) F
def mBool : SV → Mm Bool
  | .val (.bool b) => mP b
  | _ => mStuck
def tE (a : Em) : Tm := fun ρ => mB (a ρ) mBool
def tAnd (a b : Tm) : Tm := fun ρ => mB (a ρ) fun c => if c then b ρ else mP false
def tOr (a b : Tm) : Tm := fun ρ => mB (a ρ) fun c => if c then mP true else b ρ
def tNot (a : Tm) : Tm := fun ρ => mB (a ρ) fun c => mP (!c)
def eAnd (a b : Em) : Em := fun ρ => mB (a ρ) fun x => mB (mBool x) fun c => if c then b ρ else mP (.val (.bool false))
def eOr (a b : Em) : Em := fun ρ => mB (a ρ) fun x => mB (mBool x) fun c => if c then mP (.val (.bool true)) else b ρ
def eNot (a : Em) : Em := fun ρ => mB (a ρ) fun x => mB (mBool x) fun c => mP (.val (.bool (!c)))
def eIf (c : Tm) (a b : Em) : Em := fun ρ => mB (c ρ) fun k => if k then a ρ else b ρ
/-- a op b op' c -/
def eChain (F G : SV → SV → Mm SV) (a b c : Em) : Em := fun ρ => mB (a ρ) fun x => mB (b ρ) fun y => mB (F x y) fun r => mB (mBool r) fun k =>
  if k then mB (c ρ) fun z => G y z else mP (.val (.bool false))
/-- the pure data of a list of values -/
def datas : List SV → Option (List PyData)
  | [] => some []
  | .val d :: r => (datas r).map (d :: ·)
  | _ :: _ => none
def mTup (ds : List SV) : Mm SV := match datas ds with
  | some xs => mP (.val (.tuple xs))
  | none => mStuck
/-- a new list: owned or by value -/
def mNew (o : Bool) (xs : List PyData) : Mm SV := if o then fun h => .ok (.ref h.length) (h ++ [some (.lst xs)]) else mP (.val (.list xs))
def mLst (o : Bool) (ds : List SV) : Mm SV := match datas ds with
  | some xs => mNew o xs
  | none => mStuck
/-- a list's or tuple's items -/
def mSeq (d : SV) : Mm (List PyData) := fun h => match d with
  | .val (.list xs) => .ok xs h
  | .val (.tuple xs) => .ok xs h
  | .ref n => match h[n]? with
    | some (some (.lst xs)) => .ok xs h
    | _ => .stuck
  | _ => .stuck
def mInt : SV → Mm Int
  | .val (.int i) => mP i
  | _ => mStuck
def mD : SV → Mm PyData
  | .val d => mP d
  | _ => mStuck
def int2 (F : Int → Int → Mm SV) : SV → SV → Mm SV := fun x y => mB (mInt x) fun i => mB (mInt y) fun j => F i j
def fIx : SV → SV → Mm SV := fun x y => mB (mSeq x) fun xs => mB (mInt y) fun i => mB (opt (atI xs i)) fun d => mP (.val d)

section
variable {X : Cx} {E : XK} {e a b c : Expr} {es rest : List Expr} {ma mb mc : Em} {ta tb : Tm} {ms : Am} {pos : Pos}

/-! ### rules: names, constants -/
theorem me_var {i : Nat} {x : Str} (hN : X.N[i]? = some x) (hv : Vis X.env.scope x) (hd : (x == ("__debug__" : Str)) = false) (hcd : (x == ("__classdict__" : Str)) = false) : ME X E (.Name x pos) (eVar i) := by
  refine PEwk (pe_var (i := i) hN hv hd hcd) fun σ H Q ⟨g, ρ, S, V, o⟩ => ?_
  obtain ⟨d, e, o⟩ := opt_of S o
  obtain ⟨v, e1, r⟩ := V.2 i d (slot_some e)
  exact ⟨v, e1, o v r⟩
theorem me_frz {i : Nat} {x : Str} (hN : X.N[i]? = some x) (hv : Vis X.env.scope x) (hd : (x == ("__debug__" : Str)) = false) (hcd : (x == ("__classdict__" : Str)) = false) : ME X E (.Name x pos) (eFrz i) := by
  refine PEwk (pe_var (i := i) hN hv hd hcd) fun σ H Q ⟨g, ρ, S, V, o⟩ => ?_
  obtain ⟨d, e, o⟩ := opt_of S o.bind
  obtain ⟨v, e1, r⟩ := V.2 i d (slot_some e)
  refine ⟨v, e1, ?_⟩
  unfold mFrz at o
  cases d with
  | val d => exact o.elim
  | rng l h => exact o.elim
  | exc _ => exact o.elim
  | ref n =>
    obtain ⟨a, e2, e3⟩ := r
    cases q : g.cs[n]? with
    | none => simp only [q] at o; exact o.elim
    | some oc =>
      cases oc with
      | none => simp only [q] at o; exact o.elim
      | some cc =>
        cases cc with
        | lst ds =>
          simp only [q] at o
          obtain ⟨S', L', rd⟩ := S.free q e3
          rw [e2]
          exact o _ H rfl S' L' _ rd
theorem me_int {i : Int} {j : Nat} : ME X E (.Constant (.int i) j pos) (eC (.int i)) := PEwk pe_int fun σ H Q ⟨g, ρ, S, V, o⟩ => o.pure S _ (RD.int i)
theorem me_bl {i : Bool} {j : Nat} : ME X E (.Constant (.bool i) j pos) (eC (.bool i)) := PEwk pe_bl fun σ H Q ⟨g, ρ, S, _, o⟩ => o.pure S _ (RD.bl i)
theorem me_non {j : Nat} : ME X E (.Constant .none j pos) (eC .none) := PEwk pe_non fun σ H Q ⟨g, ρ, S, V, o⟩ => o.pure S _ RD.non
theorem me_str {i : Str} {j : Nat} : ME X E (.Constant (.str i) j pos) (eC (.str i)) := PEwk pe_str fun σ H Q ⟨g, ρ, S, V, o⟩ => o.pure S _ (RD.str i)
/-- data of the module -/
structure GlobD (K : PySem.W.Frag) (mg : Mg) (x : Str) (d : PyData) : Prop where
  ex : ∃ u v, mg x = some u ∧ RelV v u ∧ ∀ g H, RD K g H v d
theorem me_glob {x : Str} {d : PyData} (G : GlobD X.K X.mg x d) (hg : Gl X x) (hd : (x == ("__debug__" : Str)) = false) : ME X E (.Name x pos) (eC d) := by
  obtain ⟨u, v, hm, r, k⟩ := G.ex
  exact PEwk (pe_glob hg hm r hd) fun σ H Q ⟨g, ρ, S, V, o⟩ => o.pure S _ (k g H)

/-! ### operators by values -/
def S2 (K : PySem.W.Frag) (cz : Cxx) (mg : Mg) (E : XK) (r : R2) (F : SV → SV → Mm SV) : Prop :=
  ∀ g H x y dx dy Q, Sim K g H → RSV K cz g H x dx → RSV K cz g H y dy → Out K mg E g H (F dx dy g.cs) (fun d g' H' => ∀ v, RSV K cz g' H' v d → Q v H') → r x y H Q
theorem me_op {op : Operator} {r : R2} {F : SV → SV → Mm SV} (ho : OpR X (binaryOp op) r) (hF : S2 X.K (cx X) X.mg E r F) (ha : ME X E a ma) (hb : ME X E b mb) : ME X E (.BinOp a op b pos) (eOp2 F ma mb) := by
  refine PEwk (pe_op ho ha hb) fun σ H Q ⟨g, ρ, S, V, o⟩ => ?_
  refine ⟨g, ρ, S, V, o.bind.mono fun dx g1 H1 S1 L1 o1 v rv => ?_⟩
  refine ⟨g1, ρ, S1, V.mono S L1, o1.bind.mono fun dy g2 H2 S2 L2 o2 u ru => ?_⟩
  exact hF g2 H2 v u dx dy Q S2 (rv.mono S1 L2) ru o2
theorem me_cmp {op : CmpOp} {r : R2} {F : SV → SV → Mm SV} (ho : OpR X (compareOp op) r) (hF : S2 X.K (cx X) X.mg E r F) (ha : ME X E a ma) (hb : ME X E b mb) (hm : behindInMarks op b = false) : ME X E (.Compare a [op] [b] pos) (eOp2 F ma mb) := by
  refine PEwk (pe_cmpR ho ha hb hm) fun σ H Q ⟨g, ρ, S, V, o⟩ => ?_
  refine ⟨g, ρ, S, V, o.bind.mono fun dx g1 H1 S1 L1 o1 v rv => ?_⟩
  refine ⟨g1, ρ, S1, V.mono S L1, o1.bind.mono fun dy g2 H2 S2 L2 o2 u ru => ?_⟩
  exact hF g2 H2 v u dx dy Q S2 (rv.mono S1 L2) ru o2
theorem mt_bool {K : PySem.W.Frag} {mg : Mg} {g : Gh} {H : Hp} {d : SV} {v : V} {P : Bool → Hp → Prop} (S : Sim K g H) (r : RSV K cz g H v d) (o : Out K mg E g H (mBool d g.cs) fun b _ H' => P b H') : ∃ k, v = .bl k ∧ P k H := by
  cases d with
  | ref n => exact o.elim
  | rng l h => exact o.elim
  | exc _ => exact o.elim
  | val d =>
    cases d with
    | bool k => cases r; exact ⟨k, rfl, o.pure S⟩
    | _ => exact o.elim
theorem mt_cmp {op : CmpOp} {r : R2} {F : SV → SV → Mm SV} (ho : OpR X (compareOp op) r) (hF : S2 X.K (cx X) X.mg E r F) (ha : ME X E a ma) (hb : ME X E b mb) (hm : behindInMarks op b = false) : MT X E (.Compare a [op] [b] pos) (tE (eOp2 F ma mb)) := by
  refine PTwk (pt_cmpR ho ha hb hm) fun σ H Q ⟨g, ρ, S, V, o⟩ => ?_
  unfold tE at o
  have o := o.bind
  refine ⟨g, ρ, S, V, o.bind.mono fun dx g1 H1 S1 L1 o1 v rv => ?_⟩
  refine ⟨g1, ρ, S1, V.mono S L1, o1.bind.mono fun dy g2 H2 S2 L2 o2 u ru => ?_⟩
  exact hF g2 H2 v u dx dy _ S2 (rv.mono S1 L2) ru (o2.mono fun d g3 H3 S3 L3 o3 w rw' => mt_bool S3 rw' o3)
theorem mt_val (ha : ME X E a ma) (he : ∀ whole, isTrue a X.env whole = (do let v ← whole; standAt a.pos; holding [v] (truthy v))) : MT X E a (tE ma) := by
  refine PTwk (pt_val ha he) fun σ H Q ⟨g, ρ, S, V, o⟩ => ?_
  exact ⟨g, ρ, S, V, o.bind.mono fun d g1 H1 S1 L1 o1 v rv => mt_bool S1 rv o1⟩
theorem mt_not (ha : MT X E a ta) : MT X E (.UnaryOp .Not a pos) (tNot ta) := by
  refine PTwk (pt_not ha) fun σ H Q ⟨g, ρ, S, V, o⟩ => ?_
  exact ⟨g, ρ, S, V, o.bind.mono fun k g1 H1 S1 L1 o1 => o1.pure S1⟩
theorem mw_and1 (ha : MT X E a ta) : MW X E (.BoolOp .And [a] pos) ta := pw_and1 ha
theorem mw_or1 (ha : MT X E a ta) : MW X E (.BoolOp .Or [a] pos) ta := pw_or1 ha
theorem mw_and (ha : MT X E a ta) (hb : MW X E (.BoolOp .And (b :: rest) pos) tb) : MW X E (.BoolOp .And (a :: b :: rest) pos) (tAnd ta tb) := by
  refine PWwk (pw_and ha hb) fun σ H Q ⟨g, ρ, S, V, o⟩ => ?_
  refine ⟨g, ρ, S, V, o.bind.mono fun k g1 H1 S1 L1 o1 => ?_⟩
  cases k with
  | true => rw [if_pos rfl]; exact ⟨g1, ρ, S1, V.mono S L1, o1⟩
  | false => rw [if_neg Bool.false_ne_true]; exact o1.pure S1
theorem mw_or (ha : MT X E a ta) (hb : MW X E (.BoolOp .Or (b :: rest) pos) tb) : MW X E (.BoolOp .Or (a :: b :: rest) pos) (tOr ta tb) := by
  refine PWwk (pw_or ha hb) fun σ H Q ⟨g, ρ, S, V, o⟩ => ?_
  refine ⟨g, ρ, S, V, o.bind.mono fun k g1 H1 S1 L1 o1 => ?_⟩
  cases k with
  | true => rw [if_pos rfl]; exact o1.pure S1
  | false => rw [if_neg Bool.false_ne_true]; exact ⟨g1, ρ, S1, V.mono S L1, o1⟩
theorem MW.mt (h : MW X E e ta) : MT X E e ta := PW.pt h
theorem me_one {op : BoolOp} (h : ME X E a ma) : ME X E (.BoolOp op [a] pos) ma := pe_one h
theorem me_and (ha : ME X E a ma) (hb : ME X E (.BoolOp .And (b :: rest) pos) mb) : ME X E (.BoolOp .And (a :: b :: rest) pos) (eAnd ma mb) := by
  refine PEwk (pe_and ha hb) fun σ H Q ⟨g, ρ, S, V, o⟩ => ?_
  refine ⟨g, ρ, S, V, o.bind.mono fun d g1 H1 S1 L1 o1 v rv => ?_⟩
  have o1 := o1.bind
  obtain ⟨k, e, q⟩ := mt_bool (P := fun k H => if k = true then tM X.K (cx X) X.mg E mb σ H Q else Q (vbl false) H) S1 rv (o1.mono fun k g2 H2 S2 L2 o2 => by
    cases k with
    | true => rw [if_pos rfl]; exact ⟨g2, ρ, S2, V.mono S (L1.trans L2), o2⟩
    | false => rw [if_neg Bool.false_ne_true]; exact o2.pure S2 _ (RD.bl false))
  exact ⟨k, e, q⟩
theorem me_or (ha : ME X E a ma) (hb : ME X E (.BoolOp .Or (b :: rest) pos) mb) : ME X E (.BoolOp .Or (a :: b :: rest) pos) (eOr ma mb) := by
  refine PEwk (pe_or ha hb) fun σ H Q ⟨g, ρ, S, V, o⟩ => ?_
  refine ⟨g, ρ, S, V, o.bind.mono fun d g1 H1 S1 L1 o1 v rv => ?_⟩
  have o1 := o1.bind
  obtain ⟨k, e, q⟩ := mt_bool (P := fun k H => if k = true then Q (vbl true) H else tM X.K (cx X) X.mg E mb σ H Q) S1 rv (o1.mono fun k g2 H2 S2 L2 o2 => by
    cases k with
    | true => rw [if_pos rfl]; exact o2.pure S2 _ (RD.bl true)
    | false => rw [if_neg Bool.false_ne_true]; exact ⟨g2, ρ, S2, V.mono S (L1.trans L2), o2⟩)
  exact ⟨k, e, q⟩
theorem me_not (ha : ME X E a ma) : ME X E (.UnaryOp .Not a pos) (eNot ma) := by
  refine PEwk (pe_not ha) fun σ H Q ⟨g, ρ, S, V, o⟩ => ?_
  refine ⟨g, ρ, S, V, o.bind.mono fun d g1 H1 S1 L1 o1 v rv => ?_⟩
  have o1 := o1.bind
  obtain ⟨k, e, q⟩ := mt_bool (P := fun k H => Q (vbl (!k)) H) S1 rv (o1.mono fun k g2 H2 S2 L2 o2 => o2.pure S2 _ (RD.bl _))
  exact ⟨k, e, q⟩
theorem me_ifE (hc : MT X E c ta) (ha : ME X E a ma) (hb : ME X E b mb) : ME X E (.IfExp c a b pos) (eIf ta ma mb) := by
  refine PEwk (pe_ifExp hc ha hb) fun σ H Q ⟨g, ρ, S, V, o⟩ => ?_
  refine ⟨g, ρ, S, V, o.bind.mono fun k g1 H1 S1 L1 o1 => ?_⟩
  cases k with
  | true => rw [if_pos rfl]; exact ⟨g1, ρ, S1, V.mono S L1, o1⟩
  | false => rw [if_neg Bool.false_ne_true]; exact ⟨g1, ρ, S1, V.mono S L1, o1⟩
theorem me_chain {op op' : CmpOp} {r r' : R2} {F G : SV → SV → Mm SV} (ho : OpR X (compareOp op) r) (ho' : OpR X (compareOp op') r') (hF : S2 X.K (cx X) X.mg E r F) (hG : S2 X.K (cx X) X.mg E r' G)
    (ha : ME X E a ma) (hb : ME X E b mb) (hc : ME X E c mc) (hm : lastMarks [op, op'] [b, c] = false) : ME X E (.Compare a [op, op'] [b, c] pos) (eChain F G ma mb mc) := by
  refine PEwk (pe_chain ho ho' ha hb hc hm) fun σ H Q ⟨g, ρ, S, V, o⟩ => ?_
  refine ⟨g, ρ, S, V, o.bind.mono fun dx g1 H1 S1 L1 o1 v rv => ?_⟩
  refine ⟨g1, ρ, S1, V.mono S L1, o1.bind.mono fun dy g2 H2 S2 L2 o2 u ru => ?_⟩
  refine hF g2 H2 v u dx dy _ S2 (rv.mono S1 L2) ru (o2.bind.mono fun d g3 H3 S3 L3 o3 w rw' => ?_)
  refine mt_bool (P := fun k H3 => if k = true then tM X.K (cx X) X.mg E mc σ H3 (fun w' H4 => r' u w' H4 Q) else Q (vbl false) H3) S3 rw' (o3.bind.mono fun k g4 H4 S4 L4 o4 => ?_)
  cases k with
  | false => rw [if_neg Bool.false_ne_true]; exact o4.pure S4 _ (RD.bl false)
  | true =>
    rw [if_pos rfl]
    refine ⟨g4, ρ, S4, V.mono S (L1.trans (L2.trans (L3.trans L4))), o4.bind.mono fun dz g5 H5 S5 L5 o5 z rz => ?_⟩
    exact hG g5 H5 u z dy dz Q S5 (ru.mono S2 (L3.trans (L4.trans L5))) rz o5
theorem mt_chain {op op' : CmpOp} {r r' : R2} {F G : SV → SV → Mm SV} (ho : OpR X (compareOp op) r) (ho' : OpR X (compareOp op') r') (hF : S2 X.K (cx X) X.mg E r F) (hG : S2 X.K (cx X) X.mg E r' G)
    (ha : ME X E a ma) (hb : ME X E b mb) (hc : ME X E c mc) (hm : lastMarks [op, op'] [b, c] = false) : MT X E (.Compare a [op, op'] [b, c] pos) (tE (eChain F G ma mb mc)) := by
  refine PTwk (pt_chain ho ho' ha hb hc hm) fun σ H Q ⟨g, ρ, S, V, o⟩ => ?_
  unfold tE at o
  have o := o.bind
  refine ⟨g, ρ, S, V, o.bind.mono fun dx g1 H1 S1 L1 o1 v rv => ?_⟩
  refine ⟨g1, ρ, S1, V.mono S L1, o1.bind.mono fun dy g2 H2 S2 L2 o2 u ru => ?_⟩
  refine hF g2 H2 v u dx dy _ S2 (rv.mono S1 L2) ru (o2.bind.mono fun d g3 H3 S3 L3 o3 w rw' => ?_)
  refine mt_bool (P := fun k H3 => if k = true then tM X.K (cx X) X.mg E mc σ H3 (fun w' H4 => r' u w' H4 _) else ∃ k', vbl false = vbl k' ∧ Q k' H3) S3 rw' (o3.bind.mono fun k g4 H4 S4 L4 o4 => ?_)
  cases k with
  | false => rw [if_neg Bool.false_ne_true]; exact ⟨false, rfl, ((o4.pure S4).pure S4)⟩
  | true =>
    rw [if_pos rfl]
    refine ⟨g4, ρ, S4, V.mono S (L1.trans (L2.trans (L3.trans L4))), o4.bind.mono fun dz g5 H5 S5 L5 o5 z rz => ?_⟩
    exact hG g5 H5 u z dy dz _ S5 (ru.mono S2 (L3.trans (L4.trans L5))) rz (o5.mono fun d g6 H6 S6 L6 o6 w rw' => mt_bool S6 rw' o6)

/-! ### argument lists, displays -/
theorem ma_nil : MA X E [] aNil := PAwk pa_nil fun σ H Q ⟨g, ρ, S, V, o⟩ => o.pure S [] .nil
theorem ma_cons (ha : ME X E e ma) (hr : MA X E es ms) (hs : starEach (e :: es) X.env = (false, eval e X.env) :: starEach es X.env) : MA X E (e :: es) (aCons ma ms) := by
  refine PAwk (pa_cons ha hr hs) fun σ H Q ⟨g, ρ, S, V, o⟩ => ?_
  refine ⟨g, ρ, S, V, o.bind.mono fun dx g1 H1 S1 L1 o1 v rv => ?_⟩
  refine ⟨g1, ρ, S1, V.mono S L1, o1.bind.mono fun ds g2 H2 S2 L2 o2 vs rs => ?_⟩
  exact o2.pure S2 _ (.cons (rv.mono S1 L2) rs)
theorem rds_of {K : PySem.W.Frag} {g : Gh} {H : Hp} : ∀ {ds : List SV} {xs : List PyData} {vs : List V}, datas ds = some xs → RSVs K cz g H vs ds → RDs K g H vs xs
  | [], _, _, e, .nil => by cases e; exact .nil
  | .val d :: r, xs, _, e, .cons h t => by
    unfold datas at e
    cases q : datas r with
    | none => rw [q] at e; cases e
    | some ys =>
      rw [q] at e
      cases e
      exact .cons h (rds_of q t)
  | .ref _ :: _, _, _, e, _ => nomatch e
  | .rng _ _ :: _, _, _, e, _ => nomatch e
/-- a display small enough -/
def few (ds : List SV) : Mm Unit := if ds.length ≤ 1000 then mP () else mStuck
def eTup (a : Am) : Em := fun ρ => mB (a ρ) fun ds => mB (few ds) fun _ => mTup ds
def eLst (o : Bool) (a : Am) : Em := fun ρ => mB (a ρ) fun ds => mB (few ds) fun _ => mLst o ds
theorem few_le {K : PySem.W.Frag} {mg : Mg} {g : Gh} {H : Hp} {ds : List SV} {P : Unit → Gh → Hp → Prop} (S : Sim K g H) (o : Out K mg E g H (few ds g.cs) P) : ds.length ≤ sizeLine ∧ P () g H := by
  unfold few at o
  by_cases h : ds.length ≤ 1000
  · rw [if_pos h] at o
    exact ⟨by rw [sizeLine_eq]; omega, o.pure S⟩
  · rw [if_neg h] at o
    exact o.stuck.elim
/-- what a new list comes to -/
theorem new_list {K : PySem.W.Frag} {mg : Mg} {g : Gh} {H : Hp} {o : Bool} {xs : List PyData} {vs : List V} {p : Addr} {Q : VK} (S : Sim K g H) (r : RDs K g H vs xs) (hp : H p = none)
    (h : Out K mg E g H (mNew o xs g.cs) fun d g' H' => ∀ v, RSV K cz g' H' v d → Q v H') : Q (.ref p) (upd H p (.lst vs)) := by
  unfold mNew at h
  cases o with
  | true =>
    rw [if_pos rfl] at h
    obtain ⟨S', L'⟩ := S.alloc hp r
    refine h _ _ rfl S' L' _ ⟨p, rfl, ?_⟩
    show (g.mu ++ [p])[g.cs.length]? = some p
    rw [← S.len, List.getElem?_append_right (Nat.le_refl _), Nat.sub_self]
    rfl
  | false =>
    rw [if_neg Bool.false_ne_true] at h
    obtain ⟨S', L'⟩ := S.laid (o := .lst vs) hp
    exact h g _ rfl S' L' _ (RD.lst ⟨.inl upd_same, S.fresh_own hp⟩ (r.mono S L'))
theorem new_tup {K : PySem.W.Frag} {mg : Mg} {g : Gh} {H : Hp} {xs : List PyData} {vs : List V} {p : Addr} {Q : VK} (S : Sim K g H) (r : RDs K g H vs xs) (hp : H p = none)
    (h : Out K mg E g H (mP (SV.val (.tuple xs)) g.cs) fun d g' H' => ∀ v, RSV K cz g' H' v d → Q v H') : Q (.ref p) (upd H p (.tup vs)) := by
  obtain ⟨S', L'⟩ := S.laid (o := .tup vs) hp
  exact h g _ rfl S' L' _ (RD.tup (.inl (.inl upd_same)) (r.mono S L'))
theorem me_tup {k : Nat} (h : MA X E es ms) : ME X E (.Tuple es k pos) (eTup ms) := by
  refine PEwk (pe_tup h) fun σ H Q ⟨g, ρ, S, V, o⟩ => ?_
  refine ⟨g, ρ, S, V, o.bind.mono fun ds g1 H1 S1 L1 o1 vs rs => ?_⟩
  obtain ⟨hl, o1⟩ := few_le S1 o1.bind
  refine ⟨by rw [rs.length]; exact hl, fun p hp => ?_⟩
  unfold mTup at o1
  cases q : datas ds with
  | none => rw [q] at o1; exact o1.stuck.elim
  | some xs => rw [q] at o1; exact new_tup S1 (rds_of q rs) hp o1
theorem me_lst {o : Bool} (h : MA X E es ms) : ME X E (.List es pos) (eLst o ms) := by
  refine PEwk (pe_lst h) fun σ H Q ⟨g, ρ, S, V, o⟩ => ?_
  refine ⟨g, ρ, S, V, o.bind.mono fun ds g1 H1 S1 L1 o1 vs rs => ?_⟩
  obtain ⟨hl, o1⟩ := few_le S1 o1.bind
  refine ⟨by rw [rs.length]; exact hl, fun p hp => ?_⟩
  unfold mLst at o1
  cases q : datas ds with
  | none => rw [q] at o1; exact o1.stuck.elim
  | some xs => rw [q] at o1; exact new_list S1 (rds_of q rs) hp o1

/-! ### sequences -/
theorem seq_of {K : PySem.W.Frag} {mg : Mg} {g : Gh} {H : Hp} {d : SV} {v : V} {P : List PyData → Gh → Hp → Prop} (S : Sim K g H) (r : RSV K cz g H v d) (o : Out K mg E g H (mSeq d g.cs) P) :
    ∃ a vs xs, v = .ref a ∧ RDs K g H vs xs ∧ (Rd H a (.lst vs) ∨ SqT K H a vs) ∧ P xs g H := by
  unfold mSeq at o
  cases d with
  | rng l h => exact o.elim
  | exc _ => exact o.elim
  | ref n =>
    obtain ⟨a, e2, e3⟩ := r
    cases q : g.cs[n]? with
    | none => simp only [q] at o; exact o.elim
    | some oc =>
      cases oc with
      | none => simp only [q] at o; exact o.elim
      | some cc =>
        cases cc with
        | lst ds =>
          simp only [q] at o
          obtain ⟨vs, e, r⟩ := S.cell n _ a q e3
          exact ⟨a, vs, ds, e2, r, .inl (.inl e), o g H rfl S (Le.refl _ _)⟩
  | val d =>
    cases d with
    | list xs =>
      cases r with
      | lst h1 h2 => exact ⟨_, _, _, rfl, h2, .inl h1.1, o g H rfl S (Le.refl _ _)⟩
    | tuple xs =>
      cases r with
      | tup h1 h2 => exact ⟨_, _, _, rfl, h2, .inr h1, o g H rfl S (Le.refl _ _)⟩
    | _ => exact o.elim
theorem int_of {K : PySem.W.Frag} {mg : Mg} {g : Gh} {H : Hp} {d : SV} {v : V} {P : Int → Gh → Hp → Prop} (S : Sim K g H) (r : RSV K cz g H v d) (o : Out K mg E g H (mInt d g.cs) P) : ∃ i, v = .int i ∧ P i g H := by
  unfold mInt at o
  cases d with
  | rng l h => exact o.elim
  | exc _ => exact o.elim
  | ref n => exact o.elim
  | val d =>
    cases d with
    | int i => cases r; exact ⟨i, rfl, o.pure S⟩
    | _ => exact o.elim
theorem s2_ix {K : PySem.W.Frag} {mg : Mg} : S2 K cz mg E (fun x y H Q => rIxL K x y H Q ∨ rIxT K x y H Q) fIx := by
  intro g H x y dx dy Q S rx ry o
  obtain ⟨a, vs, xs, e1, r, h, o⟩ := seq_of S rx o.bind
  obtain ⟨i, e2, o⟩ := int_of S ry o.bind
  obtain ⟨d, e3, o⟩ := opt_of S o.bind
  have hl := r.length
  unfold atI at e3
  cases q : ixN xs.length i with
  | none => rw [q] at e3; cases e3
  | some j =>
    rw [q] at e3
    obtain ⟨v, e4, rv⟩ := r.get (i := j) (d := d) e3
    have e5 : atI vs i = some v := by unfold atI; rw [hl, q]; exact e4
    rcases h with h | h
    · exact .inl ⟨a, vs, i, v, e1, e2, .inl h, e5, o.pure S v rv⟩
    · exact .inr ⟨a, vs, i, v, e1, e2, h, e5, o.pure S v rv⟩
theorem me_ix (ha : ME X E a ma) (hb : ME X E b mb) (hs : PlainIx b) : ME X E (.Subscript a b pos) (eOp2 fIx ma mb) := by
  refine PEwk (pe_ix (ix_list.or ix_tup) ha hb hs) fun σ H Q ⟨g, ρ, S, V, o⟩ => ?_
  refine ⟨g, ρ, S, V, o.bind.mono fun dx g1 H1 S1 L1 o1 v rv => ?_⟩
  refine ⟨g1, ρ, S1, V.mono S L1, o1.bind.mono fun dy g2 H2 S2 L2 o2 u ru => ?_⟩
  exact s2_ix g2 H2 v u dx dy Q S2 (rv.mono S1 L2) ru o2
end
end MK
set_option Elab.async false
set_option linter.all false
set_option maxRecDepth 100000
set_option maxHeartbeats 1000000
/-! MKc: operators, comparisons, slices, built-in functions. -/
namespace MK
open PySem PySem.Spec PyProof.Rows L2
variable {cz : Cxx} [Tb]

/-! ### more rules by values -/
section
variable {X : Cx}
theorem lst_at {pins : List (Addr × Obj)} {σ : L2.St} {H : Hp} {s : Shared} {a : Addr} {xs : List V} (I : Inv X pins σ H s) (h : Rd H a (.lst xs)) :
    xs.length ≤ sizeLine ∧ ∃ (its : List Value) (n : Nat), Vals xs its ∧ xs.length = its.length ∧ s.heap.get? a = some { cls := .type "list", data := .seq its.toArray n } := by
  obtain ⟨z, its, n, r, e⟩ := h.ok I.hok
  exact ⟨z, its, n, r, r.length, e⟩
def rCatL : R2 := fun x y H Q => ∃ l b xs zs, x = .ref l ∧ y = .ref b ∧ Rd H l (.lst xs) ∧ Rd H b (.lst zs) ∧ xs.length + zs.length ≤ sizeLine ∧ ∀ p, H p = none → Q (.ref p) (upd H p (.lst (xs ++ zs)))
theorem op_catL : OpR X (binaryOp .Add) rCatL := by
  intro pins s σ H x y v u Q I rx ry h
  obtain ⟨l, b, xs, zs, rfl, rfl, hH, hB, hz, q⟩ := h
  cases rx
  cases ry
  obtain ⟨z, its, n, r, hl, e⟩ := lst_at I hH
  obtain ⟨z2, its2, n2, r2, hl2, e2⟩ := lst_at I hB
  refine PySem.P.add_list e e2 ?_ (by rw [List.size_toArray, List.size_toArray]; omega)
  have ea : its.toArray ++ its2.toArray = (its ++ its2).toArray := by simp
  rw [ea]
  exact ⟨.ref _, _, I.lnew (t' := s.toks) (r.append r2) (by rw [List.length_append]; omega), rfl, q _ I.fresh⟩
def rRepL : R2 := fun x y H Q => ∃ l k xs, x = .ref l ∧ y = .int k ∧ Rd H l (.lst xs) ∧ -(2 ^ 63) ≤ k ∧ k < 2 ^ 63 ∧ xs.length * k.toNat ≤ sizeLine ∧
  ∀ p, H p = none → Q (.ref p) (upd H p (.lst (List.replicate k.toNat xs).flatten))
theorem op_repL : OpR X (binaryOp .Mult) rRepL := by
  intro pins s σ H x y v u Q I rx ry h
  obtain ⟨l, k, xs, rfl, rfl, hH, h1, h2, hz, q⟩ := h
  cases rx
  obtain ⟨t, rfl⟩ := ry
  obtain ⟨z, its, n, r, hl, e⟩ := lst_at I hH
  have hlen : its.toArray.size * k.toNat ≤ sizeLine := by rw [List.size_toArray, ← hl]; exact hz
  have hcap : ¬ its.toArray.size * k.toNat > (2 ^ 63 - 1) / 8 := by
    have : (sizeLine : Nat) ≤ (2 ^ 63 - 1) / 8 := by decide
    omega
  have hfit : ¬ (!Builtin.List.listFitsIndex k) = true := by
    rw [fitsIndex_both h1 h2]
    exact Bool.false_ne_true
  have hlong : ¬ Builtin.List.listTooLong (its.toArray.size * k.toNat) = true := by
    rw [notLongL hlen]
    exact Bool.false_ne_true
  have hnew : List.foldl (fun x1 x2 => x1 ++ x2) #[] (List.replicate (if its.toArray.isEmpty = true then 0 else k.toNat) its.toArray) = (List.replicate k.toNat its).flatten.toArray := by
    have f0 : ∀ m : Nat, List.foldl (fun x1 x2 => x1 ++ x2) #[] (List.replicate m its.toArray) = (List.replicate m its).flatten.toArray := fun m => by
      have := foldl_rep its m []
      rw [List.nil_append] at this
      exact this
    rw [f0]
    cases its with
    | nil => simp
    | cons a r' => rw [if_neg (by simp)]
  refine wpAny_binaryOp_repeat_ref (T := "list") (U := "int") (by decide) ⟨_, e, rfl⟩ (fun s' => typeIs_int s' k t) noFill_list_mul F.fills_int_mul F.slot_int_rmul repeat_list F.slot_int_index.lookup
    (call_meets F.slot_int_rmul (typeIs_int s k t) F.entry_int_rmul (F.args_int_rmul_2 _ _) (int___rmul___int_list k t l its.toArray n)
      ⟨e, rfl, ⟨_, e, rfl⟩, call_meets F.slot_list_mul ⟨_, e, rfl⟩ F.entry_list_mul (F.args_list_mul_2 _ _) (AutoListH.list___mul___list_int_3 l its.toArray n k t hfit hcap hlong) ⟨e, ?_⟩⟩)
  rw [hnew]
  exact ⟨.ref _, _, I.lnew (t' := s.toks) (r.rep k.toNat) (by rw [PyProof.Rows.lm_len_rep_flat, Nat.mul_comm]; exact hz), rfl, q _ I.fresh⟩
def CDivG (i j : Int) : Prop := j ≠ 0 ∧ Builtin.divisionGoesByPylong i j = false
theorem op_fdivG : OpR X (binaryOp .FloorDiv) (rI CDivG fun i j => .int (i.fdiv j)) := opI fun _ _ _ _ _ _ _ hc q => floordiv_int hc.1 q (.inl hc.2)
/-- in, of a tuple -/
def rInT (K : PySem.W.Frag) : R2 := fun x y H Q => ∃ d ds, Dp K H x d ∧ Dp K H y (.tuple ds) ∧ SeqAt.shaped d = true ∧ SeqAt.shaped (.tuple ds) = true ∧ Q (.bl (ds.any fun z => PyData.eqv z d)) H
def rNotInT (K : PySem.W.Frag) : R2 := fun x y H Q => ∃ d ds, Dp K H x d ∧ Dp K H y (.tuple ds) ∧ SeqAt.shaped d = true ∧ SeqAt.shaped (.tuple ds) = true ∧ Q (.bl (!ds.any fun z => PyData.eqv z d)) H
theorem op_inT (hu : X.A.units + 65 < cLine) : OpR X (compareOp .In) (rInT X.K) := by
  intro pins s σ H x y v u Q I rx ry h
  obtain ⟨d, ds, hd, he, sd, se, q⟩ := h
  obtain ⟨as, r1⟩ := Dp.reads I d x v hd rx
  obtain ⟨bs, r2⟩ := Dp.reads I (.tuple ds) y u he ry
  exact SeqAt.in_tuple_reads r2 r1 (SeqAt.canLay_of_shaped se) (SeqAt.canLay_of_shaped sd) (room_in_shaped sd hu) ⟨.bl _, H, I, rfl, q⟩
theorem op_notInT (hu : X.A.units + 65 < cLine) : OpR X (compareOp .NotIn) (rNotInT X.K) := by
  intro pins s σ H x y v u Q I rx ry h
  obtain ⟨d, ds, hd, he, sd, se, q⟩ := h
  obtain ⟨as, r1⟩ := Dp.reads I d x v hd rx
  obtain ⟨bs, r2⟩ := Dp.reads I (.tuple ds) y u he ry
  exact SeqAt.notIn_tuple_reads r2 r1 (SeqAt.canLay_of_shaped se) (SeqAt.canLay_of_shaped sd) (room_in_shaped sd hu) ⟨.bl _, H, I, rfl, q⟩
theorem cr_range1 : CallR X (.type "range") (fun vs H Q => ∃ j, vs = [V.int j] ∧ ∀ p, H p = none → Q (.ref p) (upd H p (.rng 0 j))) := by
  intro pins s σ H vs us Q I r h
  obtain ⟨j, rfl, q⟩ := h
  obtain ⟨u1, rfl, rj⟩ := vals1 r
  obtain ⟨u, rfl⟩ := rj
  refine call_range_1 ?_
  exact ⟨.ref s.heap.objs.size, upd H s.heap.objs.size (.rng 0 j), I.laid (t' := s.toks + 2) (fun b o e => Heap.get?_push_of_some _ e) (Nat.le_refl _) ⟨_, _, _, Heap.get?_push_size _ rfl⟩, rfl, q _ (I.hok.fresh (Nat.le_refl _))⟩
end

/-! ### the functions -/
def guard (c : Bool) : Mm Unit := if c then mP () else mStuck
theorem guard_of {K : PySem.W.Frag} {mg : Mg} {E : XK} {g : Gh} {H : Hp} {c : Bool} {P : Unit → Gh → Hp → Prop} (S : Sim K g H) (o : Out K mg E g H (guard c g.cs) P) : c = true ∧ P () g H := by
  unfold guard at o
  cases c with
  | true => exact ⟨rfl, o.pure S⟩
  | false => exact o.elim
def vI (i : Int) : Mm SV := mP (.val (.int i))
def vB (b : Bool) : Mm SV := mP (.val (.bool b))
/-- what both operands are -/
def fAdd (o : Bool) : SV → SV → Mm SV := fun x y => match x, y with
  | .val (.int i), .val (.int j) => vI (i + j)
  | .val (.tuple xs), .val (.tuple ys) => mB (guard (decide (xs.length + ys.length ≤ 10000))) fun _ => mP (.val (.tuple (xs ++ ys)))
  | .val (.list xs), .val (.list ys) => mB (guard (decide (xs.length + ys.length ≤ 10000))) fun _ => mNew o (xs ++ ys)
  | _, _ => mStuck
def fSub : SV → SV → Mm SV := int2 fun i j => vI (i - j)
def fMul (o : Bool) : SV → SV → Mm SV := fun x y => match x, y with
  | .val (.int i), .val (.int j) => mB (guard (decide (Builtin.Int.intBits i + Builtin.Int.intBits j ≤ 134217728))) fun _ => vI (i * j)
  | .val (.list xs), .val (.int k) => mB (guard (decide (k ≤ 1000 ∧ xs.length ≤ 1000 ∧ -1000 ≤ k))) fun _ => mNew o (List.replicate k.toNat xs).flatten
  | .val (.tuple xs), .val (.int k) => mB (guard (decide (1 ≤ k ∧ k ≤ 1000 ∧ xs.length ≤ 1000 ∧ 1 ≤ xs.length))) fun _ => mP (.val (.tuple (List.replicate k.toNat xs).flatten))
  | _, _ => mStuck
def fDiv : SV → SV → Mm SV := int2 fun i j => mB (guard (decide (j ≠ 0) && !Builtin.divisionGoesByPylong i j)) fun _ => vI (i.fdiv j)
def fMod : SV → SV → Mm SV := int2 fun i j => mB (guard (decide (j ≠ 0))) fun _ => vI (i.fmod j)
def fLt : SV → SV → Mm SV := int2 fun i j => vB (decide (i < j))
def fLe : SV → SV → Mm SV := int2 fun i j => vB (decide (i ≤ j))
def fGt : SV → SV → Mm SV := int2 fun i j => vB (decide (j < i))
def fGe : SV → SV → Mm SV := int2 fun i j => vB (decide (j ≤ i))
/-- the data that a value is at this time -/
def mDat (d : SV) : Mm PyData := fun h => match d with
  | .val d => .ok d h
  | .ref n => match h[n]? with
    | some (some (.lst xs)) => .ok (.list xs) h
    | _ => .stuck
  | _ => .stuck
def dat2 (F : PyData → PyData → Mm SV) : SV → SV → Mm SV := fun x y => mB (mDat x) fun d => mB (mDat y) fun e => mB (guard (SeqAt.shaped d && SeqAt.shaped e)) fun _ => F d e
def fEq : SV → SV → Mm SV := dat2 fun d e => vB (PyData.eqv d e)
def fNe : SV → SV → Mm SV := dat2 fun d e => vB (!PyData.eqv d e)
def itemsOf : PyData → Option (List PyData)
  | .list xs => some xs
  | .tuple xs => some xs
  | _ => none
def fIn : SV → SV → Mm SV := dat2 fun d e => mB (opt (itemsOf e)) fun ds => vB (ds.any fun z => PyData.eqv z d)
def fNin : SV → SV → Mm SV := dat2 fun d e => mB (opt (itemsOf e)) fun ds => vB (!ds.any fun z => PyData.eqv z d)
def isNoneB : SV → Bool
  | .val .none => true
  | _ => false
def fIsN : SV → SV → Mm SV := fun x y => mB (guard (isNoneB y)) fun _ => vB (isNoneB x)
def fNotN : SV → SV → Mm SV := fun x y => mB (guard (isNoneB y)) fun _ => vB (!isNoneB x)
def fNeg : SV → Mm SV := fun x => mB (mInt x) fun i => vI (-i)

section
variable {X : Cx} {E : XK} {K : PySem.W.Frag} {mg : Mg}
theorem s2_int {r : R2} {C : Int → Int → Prop} {G : Int → Int → V} {F : Int → Int → Mm SV} (hr : ∀ i j H Q, C i j → Q (G i j) H → r (.int i) (.int j) H Q)
    (hF : ∀ g H i j (Q : VK), Sim K g H → Out K mg E g H (F i j g.cs) (fun d g' H' => ∀ v, RSV K cz g' H' v d → Q v H') → C i j ∧ Q (G i j) H) : S2 K cz mg E r (int2 F) := by
  intro g H x y dx dy Q S rx ry o
  obtain ⟨i, e1, o⟩ := int_of S rx o.bind
  obtain ⟨j, e2, o⟩ := int_of S ry o.bind
  subst e1 e2
  obtain ⟨c, q⟩ := hF g H i j Q S o
  exact hr i j H Q c q
theorem vI_out {g : Gh} {H : Hp} {i : Int} {Q : VK} (S : Sim K g H) (o : Out K mg E g H (vI i g.cs) fun d g' H' => ∀ v, RSV K cz g' H' v d → Q v H') : Q (.int i) H := o.pure S _ (RD.int i)
theorem vB_out {g : Gh} {H : Hp} {i : Bool} {Q : VK} (S : Sim K g H) (o : Out K mg E g H (vB i g.cs) fun d g' H' => ∀ v, RSV K cz g' H' v d → Q v H') : Q (.bl i) H := o.pure S _ (RD.bl i)
theorem s2_sub : S2 K cz mg E (rI0 fun i j => .int (i - j)) fSub := s2_int (C := fun _ _ => True) (fun i j H Q _ q => ⟨i, j, rfl, rfl, q⟩) fun g H i j Q S o => ⟨trivial, vI_out S o⟩
theorem s2_lt : S2 K cz mg E (rI0 fun i j => .bl (decide (i < j))) fLt := s2_int (C := fun _ _ => True) (fun i j H Q _ q => ⟨i, j, rfl, rfl, q⟩) fun g H i j Q S o => ⟨trivial, vB_out S o⟩
theorem s2_le : S2 K cz mg E (rI0 fun i j => .bl (decide (i ≤ j))) fLe := s2_int (C := fun _ _ => True) (fun i j H Q _ q => ⟨i, j, rfl, rfl, q⟩) fun g H i j Q S o => ⟨trivial, vB_out S o⟩
theorem s2_gt : S2 K cz mg E (rI0 fun i j => .bl (decide (j < i))) fGt := s2_int (C := fun _ _ => True) (fun i j H Q _ q => ⟨i, j, rfl, rfl, q⟩) fun g H i j Q S o => ⟨trivial, vB_out S o⟩
theorem s2_ge : S2 K cz mg E (rI0 fun i j => .bl (decide (j ≤ i))) fGe := s2_int (C := fun _ _ => True) (fun i j H Q _ q => ⟨i, j, rfl, rfl, q⟩) fun g H i j Q S o => ⟨trivial, vB_out S o⟩
theorem s2_div : S2 K cz mg E (rI CDivG fun i j => .int (i.fdiv j)) fDiv := s2_int (C := CDivG) (fun i j H Q c q => ⟨i, j, rfl, rfl, c, q⟩) fun g H i j Q S o => by
  obtain ⟨c, o⟩ := guard_of S o.bind
  simp only [Bool.and_eq_true, decide_eq_true_eq, Bool.not_eq_true'] at c
  exact ⟨c, vI_out S o⟩
theorem s2_mod : S2 K cz mg E (rI (fun _ j => j ≠ 0) fun i j => .int (i.fmod j)) fMod := s2_int (C := fun _ j => j ≠ 0) (fun i j H Q c q => ⟨i, j, rfl, rfl, c, q⟩) fun g H i j Q S o => by
  obtain ⟨c, o⟩ := guard_of S o.bind
  exact ⟨of_decide_eq_true c, vI_out S o⟩
theorem line10 {n : Nat} (h : n ≤ 10000) : n ≤ sizeLine := by rw [sizeLine_eq]; omega
theorem s2_add {o : Bool} : S2 K cz mg E (fun x y H Q => (rI0 fun i j => .int (i + j)) x y H Q ∨ (rCatA K x y H Q ∨ rCatL x y H Q)) (fAdd o) := by
  intro g H x y dx dy Q S rx ry out
  unfold fAdd at out
  split at out
  · cases rx
    cases ry
    exact .inl ⟨_, _, rfl, rfl, vI_out S out⟩
  · rename_i xs ys
    obtain ⟨c, out⟩ := guard_of S out.bind
    have c := of_decide_eq_true c
    cases rx with
    | tup h1 r1 =>
      cases ry with
      | tup h2 r2 =>
        have l1 := r1.length
        have l2 := r2.length
        refine .inr (.inl ⟨_, _, _, _, rfl, rfl, h1, h2, line10 (by rw [l1, l2]; exact c), fun e => ?_, fun _ e => ?_, fun _ _ p hp => ?_⟩)
        · subst e
          cases r1
          exact out.pure S _ (RD.tup h2 r2)
        · subst e
          cases r2
          rw [List.append_nil] at out
          exact out.pure S _ (RD.tup h1 r1)
        · exact new_tup S (r1.append r2) hp out
  · rename_i xs ys
    obtain ⟨c, out⟩ := guard_of S out.bind
    have c := of_decide_eq_true c
    cases rx with
    | lst h1 r1 =>
      cases ry with
      | lst h2 r2 =>
        have l1 := r1.length
        have l2 := r2.length
        exact .inr (.inr ⟨_, _, _, _, rfl, rfl, h1.1, h2.1, line10 (by rw [l1, l2]; exact c), fun p hp => new_list S (r1.append r2) hp out⟩)
  · exact out.stuck.elim
theorem RDs.rep {g : Gh} {H : Hp} {vs : List V} {ds : List PyData} (r : RDs K g H vs ds) : ∀ k : Nat, RDs K g H (List.replicate k vs).flatten (List.replicate k ds).flatten
  | 0 => .nil
  | k + 1 => by
    rw [List.replicate_succ, List.replicate_succ, List.flatten_cons, List.flatten_cons]
    exact r.append (RDs.rep r k)
theorem s2_mul {o : Bool} : S2 K cz mg E (fun x y H Q => (rI CMulX fun i j => .int (i * j)) x y H Q ∨ (rRepL x y H Q ∨ (rRepT K x y H Q ∨ (∃ a xs, x = .ref a ∧ y = .int 1 ∧ SqT K H a xs ∧ Q (.ref a) H)))) (fMul o) := by
  intro g H x y dx dy Q S rx ry out
  unfold fMul at out
  split at out
  · rename_i i j
    obtain ⟨c, out⟩ := guard_of S out.bind
    have c := of_decide_eq_true c
    cases rx
    cases ry
    exact .inl ⟨_, _, rfl, rfl, by show ((Builtin.Int.intBits i : Int) + (Builtin.Int.intBits j : Int) ≤ 134217728); omega, vI_out S out⟩
  · rename_i xs k
    obtain ⟨c, out⟩ := guard_of S out.bind
    have c := of_decide_eq_true c
    cases ry
    cases rx with
    | lst h1 r1 =>
      have l1 := r1.length
      refine .inr (.inl ⟨_, _, _, rfl, rfl, h1.1, by omega, by omega, ?_, fun p hp => new_list S (r1.rep _) hp out⟩)
      rw [l1, sizeLine_eq]
      have := Nat.mul_le_mul c.2.1 (show k.toNat ≤ 1000 by omega)
      omega
  · rename_i xs k
    obtain ⟨c, out⟩ := guard_of S out.bind
    have c := of_decide_eq_true c
    cases ry
    cases rx with
    | tup h1 r1 =>
      have l1 := r1.length
      by_cases h : k = 1
      · subst h
        have e : (List.replicate (1 : Int).toNat xs).flatten = xs := by simp
        rw [e] at out
        exact .inr (.inr (.inr ⟨_, _, rfl, rfl, h1, out.pure S _ (RD.tup h1 r1)⟩))
      · refine .inr (.inr (.inl ⟨_, _, _, rfl, rfl, h1, fun e => ?_, by omega, c.2.1, by omega, fun p hp => new_tup S (r1.rep _) hp out⟩))
        subst e
        simp at l1
        omega
  · exact out.stuck.elim
theorem dat_of {g : Gh} {H : Hp} {d : SV} {v : V} {P : PyData → Gh → Hp → Prop} (S : Sim K g H) (r : RSV K cz g H v d) (o : Out K mg E g H (mDat d g.cs) P) : ∃ e, Dp K H v e ∧ P e g H := by
  unfold mDat at o
  cases d with
  | rng l h => exact o.elim
  | exc _ => exact o.elim
  | val d => exact ⟨d, r.dp, o g H rfl S (Le.refl _ _)⟩
  | ref n =>
    obtain ⟨a, e2, e3⟩ := r
    cases q : g.cs[n]? with
    | none => simp only [q] at o; exact o.elim
    | some oc =>
      cases oc with
      | none => simp only [q] at o; exact o.elim
      | some cc =>
        cases cc with
        | lst ds =>
          simp only [q] at o
          obtain ⟨vs, e, r⟩ := S.cell n _ a q e3
          exact ⟨_, e2 ▸ Dp.lst (SqL.of e) r.dp, o g H rfl S (Le.refl _ _)⟩
theorem dat2_of {g : Gh} {H : Hp} {x y : V} {dx dy : SV} {F : PyData → PyData → Mm SV} {P : SV → Gh → Hp → Prop} (S : Sim K g H) (rx : RSV K cz g H x dx) (ry : RSV K cz g H y dy) (o : Out K mg E g H (dat2 F dx dy g.cs) P) :
    ∃ d e, Dp K H x d ∧ Dp K H y e ∧ SeqAt.shaped d = true ∧ SeqAt.shaped e = true ∧ Out K mg E g H (F d e g.cs) P := by
  obtain ⟨d, hd, o⟩ := dat_of S rx o.bind
  obtain ⟨e, he, o⟩ := dat_of S ry o.bind
  obtain ⟨c, o⟩ := guard_of S o.bind
  rw [Bool.and_eq_true] at c
  exact ⟨d, e, hd, he, c.1, c.2, o⟩
theorem s2_eq : S2 K cz mg E (rEqD K) fEq := by
  intro g H x y dx dy Q S rx ry o
  obtain ⟨d, e, hd, he, h1, h2, o⟩ := dat2_of S rx ry o
  exact ⟨d, e, hd, he, h1, h2, vB_out S o⟩
theorem s2_ne : S2 K cz mg E (rNeD K) fNe := by
  intro g H x y dx dy Q S rx ry o
  obtain ⟨d, e, hd, he, h1, h2, o⟩ := dat2_of S rx ry o
  exact ⟨d, e, hd, he, h1, h2, vB_out S o⟩
theorem s2_in : S2 K cz mg E (fun x y H Q => rInD K x y H Q ∨ rInT K x y H Q) fIn := by
  intro g H x y dx dy Q S rx ry o
  obtain ⟨d, e, hd, he, h1, h2, o⟩ := dat2_of S rx ry o
  obtain ⟨ds, q, o⟩ := opt_of S o.bind
  unfold itemsOf at q
  split at q
  · cases q
    exact .inl ⟨d, _, hd, he, h1, h2, vB_out S o⟩
  · cases q
    exact .inr ⟨d, _, hd, he, h1, h2, vB_out S o⟩
  · cases q
theorem s2_nin : S2 K cz mg E (fun x y H Q => rNotInD K x y H Q ∨ rNotInT K x y H Q) fNin := by
  intro g H x y dx dy Q S rx ry o
  obtain ⟨d, e, hd, he, h1, h2, o⟩ := dat2_of S rx ry o
  obtain ⟨ds, q, o⟩ := opt_of S o.bind
  unfold itemsOf at q
  split at q
  · cases q
    exact .inl ⟨d, _, hd, he, h1, h2, vB_out S o⟩
  · cases q
    exact .inr ⟨d, _, hd, he, h1, h2, vB_out S o⟩
  · cases q
theorem none_of {g : Gh} {H : Hp} {v : V} {d : SV} (r : RSV K cz g H v d) : decide (v = .non) = isNoneB d := by
  cases d with
  | rng l h => obtain ⟨a, e, _⟩ := r; subst e; rfl
  | exc x => obtain ⟨a, oe, mg, C, _, e, _⟩ := r; subst e; rfl
  | ref n => obtain ⟨a, e, _⟩ := r; subst e; rfl
  | val d => cases r <;> rfl
theorem s2_isN : S2 K cz mg E (fun x y H Q => y = .non ∧ Q (.bl (decide (x = .non))) H) fIsN := by
  intro g H x y dx dy Q S rx ry o
  obtain ⟨c, o⟩ := guard_of S o.bind
  refine ⟨of_decide_eq_true ((none_of ry).trans c), ?_⟩
  rw [none_of rx]
  exact vB_out S o
theorem s2_notN : S2 K cz mg E (fun x y H Q => y = .non ∧ Q (.bl (!decide (x = .non))) H) fNotN := by
  intro g H x y dx dy Q S rx ry o
  obtain ⟨c, o⟩ := guard_of S o.bind
  refine ⟨of_decide_eq_true ((none_of ry).trans c), ?_⟩
  rw [none_of rx]
  exact vB_out S o
end

/-! ### t * 1 -/
section
variable {X : Cx}
theorem tuple_mul1 (l : Addr) (items : Array Value) (n : Nat) (dd : Option Addr) (sl : Array (Option Value)) (u : Tok) :
    Meets (Builtin.«tuple.__mul__» ⟨[.ref l, .int 1 u], []⟩) (fun A R s => s.heap.get? l = some ⟨.type "tuple", dd, .seq items n, sl⟩ ∧ R (.ok (.ret (.ref l))) s) :=
  .of_wp fun prog w A R s h => by
    obtain ⟨hp, g, d, tk, os⟩ := s
    obtain ⟨hl, h⟩ := h
    unfold Builtin.«tuple.__mul__»
    wp_walk using wpAny_loadPart' hl
    all_goals first | exact ⟨_, rfl, h⟩ | skip
end
end MK
set_option Elab.async false
set_option linter.all false
set_option maxRecDepth 100000
set_option maxHeartbeats 1000000
/-! MKd: t * 1, slices, built-in functions, stars. -/
namespace MK
open PySem PySem.Spec PyProof.Rows L2
variable {cz : Cxx} [Tb]
section
variable {X : Cx}
theorem op_rep1 : OpR X (binaryOp .Mult) (fun x y H Q => ∃ a xs, x = .ref a ∧ y = .int 1 ∧ SqT X.K H a xs ∧ Q (.ref a) H) := by
  intro pins s σ H x y v u Q I rx ry h
  obtain ⟨l, xs, rfl, rfl, hT, q⟩ := h
  cases rx
  obtain ⟨t, rfl⟩ := ry
  obtain ⟨its, r, ⟨⟨cls, dd, data, sl⟩, ho, hc, n, hd⟩, hs⟩ := I.tuple hT
  simp only at hc hd
  subst hc hd
  exact wpAny_binaryOp_repeat_ref (T := "tuple") (U := "int") (by decide) ⟨_, ho, rfl⟩ (fun s' => typeIs_int s' 1 t) noFill_tuple_mul F.fills_int_mul F.slot_int_rmul repeat_tuple F.slot_int_index.lookup
    (call_meets F.slot_int_rmul (typeIs_int s 1 t) F.entry_int_rmul (F.args_int_rmul_2 _ _) (int_rmul_tuple 1 t l its.toArray n dd sl)
      ⟨ho, rfl, ⟨_, ho, rfl⟩, call_meets F.slot_tuple_mul ⟨_, ho, rfl⟩ F.entry_tuple_mul (F.args_tuple_mul_2 _ _) (tuple_mul1 l its.toArray n dd sl t) ⟨ho, ⟨.ref l, H, I, rfl, q⟩⟩⟩)
end
section
variable {X : Cx} {E : XK} {a b : Expr} {ma mb : Em} {pos : Pos}
theorem me_add {o : Bool} (ha : ME X E a ma) (hb : ME X E b mb) : ME X E (.BinOp a .Add b pos) (eOp2 (fAdd o) ma mb) := me_op (op_add.or (op_catA.or op_catL)) s2_add ha hb
theorem me_sub (ha : ME X E a ma) (hb : ME X E b mb) : ME X E (.BinOp a .Sub b pos) (eOp2 fSub ma mb) := me_op op_sub s2_sub ha hb
theorem me_mul {o : Bool} (ha : ME X E a ma) (hb : ME X E b mb) : ME X E (.BinOp a .Mult b pos) (eOp2 (fMul o) ma mb) := me_op (op_mulX.or (op_repL.or (op_repT.or op_rep1))) s2_mul ha hb
theorem me_div (ha : ME X E a ma) (hb : ME X E b mb) : ME X E (.BinOp a .FloorDiv b pos) (eOp2 fDiv ma mb) := me_op op_fdivG s2_div ha hb
theorem me_mod (ha : ME X E a ma) (hb : ME X E b mb) : ME X E (.BinOp a .Mod b pos) (eOp2 fMod ma mb) := me_op op_modN s2_mod ha hb
/-- the comparisons -/
structure CmpOk (X : Cx) (E : XK) (op : CmpOp) (F : SV → SV → Mm SV) : Prop where
  ex : ∃ r, OpR X (compareOp op) r ∧ S2 X.K (cx X) X.mg E r F
theorem c_lt : CmpOk X E .Lt fLt := ⟨_, op_lt, s2_lt⟩
theorem c_le : CmpOk X E .LtE fLe := ⟨_, op_le, s2_le⟩
theorem c_gt : CmpOk X E .Gt fGt := ⟨_, op_gt, s2_gt⟩
theorem c_ge : CmpOk X E .GtE fGe := ⟨_, op_ge, s2_ge⟩
theorem c_eq (hu : X.A.units + 65 < cLine) : CmpOk X E .Eq fEq := ⟨_, op_eqD (Nat.lt_of_succ_lt hu), s2_eq⟩
theorem c_ne (hu : X.A.units + 65 < cLine) : CmpOk X E .NotEq fNe := ⟨_, op_neD (Nat.lt_of_succ_lt hu), s2_ne⟩
theorem c_in (hu : X.A.units + 65 < cLine) : CmpOk X E .In fIn := ⟨_, (op_inD hu).or (op_inT hu), s2_in⟩
theorem c_nin (hu : X.A.units + 65 < cLine) : CmpOk X E .NotIn fNin := ⟨_, (op_notInD hu).or (op_notInT hu), s2_nin⟩
theorem c_is : CmpOk X E .Is fIsN := ⟨_, op_isN, s2_isN⟩
theorem c_isnot : CmpOk X E .IsNot fNotN := ⟨_, op_notN, s2_notN⟩
theorem me_cmp' {op : CmpOp} {F : SV → SV → Mm SV} (c : CmpOk X E op F) (ha : ME X E a ma) (hb : ME X E b mb) (hm : behindInMarks op b = false) : ME X E (.Compare a [op] [b] pos) (eOp2 F ma mb) := by
  obtain ⟨r, h1, h2⟩ := c.ex
  exact me_cmp h1 h2 ha hb hm
theorem mt_cmp' {op : CmpOp} {F : SV → SV → Mm SV} (c : CmpOk X E op F) (ha : ME X E a ma) (hb : ME X E b mb) (hm : behindInMarks op b = false) : MT X E (.Compare a [op] [b] pos) (tE (eOp2 F ma mb)) := by
  obtain ⟨r, h1, h2⟩ := c.ex
  exact mt_cmp h1 h2 ha hb hm
theorem me_chain' {op op' : CmpOp} {F G : SV → SV → Mm SV} {d : Expr} {mc : Em} (c : CmpOk X E op F) (c' : CmpOk X E op' G) (ha : ME X E a ma) (hb : ME X E b mb) (hc : ME X E d mc) (hm : lastMarks [op, op'] [b, d] = false) :
    ME X E (.Compare a [op, op'] [b, d] pos) (eChain F G ma mb mc) := by
  obtain ⟨r, h1, h2⟩ := c.ex
  obtain ⟨r', h1', h2'⟩ := c'.ex
  exact me_chain h1 h1' h2 h2' ha hb hc hm
theorem mt_chain' {op op' : CmpOp} {F G : SV → SV → Mm SV} {d : Expr} {mc : Em} (c : CmpOk X E op F) (c' : CmpOk X E op' G) (ha : ME X E a ma) (hb : ME X E b mb) (hc : ME X E d mc) (hm : lastMarks [op, op'] [b, d] = false) :
    MT X E (.Compare a [op, op'] [b, d] pos) (tE (eChain F G ma mb mc)) := by
  obtain ⟨r, h1, h2⟩ := c.ex
  obtain ⟨r', h1', h2'⟩ := c'.ex
  exact mt_chain h1 h1' h2 h2' ha hb hc hm
theorem me_neg (ha : ME X E a ma) : ME X E (.UnaryOp .USub a pos) (eOp1 fNeg ma) := by
  refine PEwk (pe_un un_neg ha) fun σ H Q ⟨g, ρ, S, V, o⟩ => ?_
  refine ⟨g, ρ, S, V, o.bind.mono fun dx g1 H1 S1 L1 o1 v rv => ?_⟩
  obtain ⟨i, e, o1⟩ := int_of S1 rv o1.bind
  exact ⟨i, e, vI_out S1 o1⟩

/-! ### slices -/
abbrev Om := Ro → Mm (Option Int)
def tO (K : PySem.W.Frag) (cz : Cxx) (mg : Mg) (E : XK) (m : Om) : TO := fun σ H Q => ∃ g ρ, Sim K g H ∧ EnvR K cz g H ρ σ ∧ Out K mg E g H (m ρ g.cs) fun i _ H' => Q i H'
abbrev MO (X : Cx) (E : XK) (e : Option Expr) (m : Om) : Prop := PO X e (tO X.K (cx X) X.mg E m)
def oNone : Om := fun _ => mP none
def oSome (a : Em) : Om := fun ρ => mB (a ρ) fun x => mB (mInt x) fun i => mP (some i)
theorem mo_none : MO X E none oNone := ⟨fun pins s σ H Q I ⟨g, ρ, S, V, o⟩ => po_none.run pins s σ H Q I (o.pure S)⟩
theorem mo_some (ha : ME X E a ma) : MO X E (some a) (oSome ma) := ⟨fun pins s σ H Q I ⟨g, ρ, S, V, o⟩ => (po_some ha).run pins s σ H Q I (by
  refine ⟨g, ρ, S, V, o.bind.mono fun dx g1 H1 S1 L1 o1 v rv => ?_⟩
  obtain ⟨i, e, o1⟩ := int_of S1 rv o1.bind
  exact ⟨i, e, o1.pure S1⟩)⟩

def cutD (xs : List PyData) (lo hi : Option Int) : List PyData := (xs.drop (HT.sIx xs.length 0 lo)).take (HT.sIx xs.length xs.length hi - HT.sIx xs.length 0 lo)
theorem RDs.cut {K : PySem.W.Frag} {g : Gh} {H : Hp} {vs : List V} {ds : List PyData} (r : RDs K g H vs ds) (lo hi : Option Int) : RDs K g H (cutV vs lo hi) (cutD ds lo hi) := by
  unfold cutV cutD
  rw [r.length]
  exact (r.drop _).take _
theorem cutD_whole {xs : List PyData} {lo hi : Option Int} (h : HT.sIx xs.length 0 lo = 0 ∧ HT.sIx xs.length xs.length hi = xs.length) : cutD xs lo hi = xs := by
  unfold cutD
  rw [h.1, h.2]
  simp
/-- a list's items -/
def mLs (d : SV) : Mm (List PyData) := fun h => match d with
  | .val (.list xs) => .ok xs h
  | .ref n => match h[n]? with
    | some (some (.lst xs)) => .ok xs h
    | _ => .stuck
  | _ => .stuck
theorem ls_of {K : PySem.W.Frag} {mg : Mg} {g : Gh} {H : Hp} {d : SV} {v : V} {P : List PyData → Gh → Hp → Prop} (S : Sim K g H) (r : RSV K cz g H v d) (o : Out K mg E g H (mLs d g.cs) P) :
    ∃ a vs xs, v = .ref a ∧ RDs K g H vs xs ∧ Rd H a (.lst vs) ∧ P xs g H := by
  unfold mLs at o
  cases d with
  | rng l h => exact o.elim
  | exc _ => exact o.elim
  | ref n =>
    obtain ⟨a, e2, e3⟩ := r
    cases q : g.cs[n]? with
    | none => simp only [q] at o; exact o.elim
    | some oc =>
      cases oc with
      | none => simp only [q] at o; exact o.elim
      | some cc =>
        cases cc with
        | lst ds =>
          simp only [q] at o
          obtain ⟨vs, e, r⟩ := S.cell n _ a q e3
          exact ⟨a, vs, ds, e2, r, .inl e, o g H rfl S (Le.refl _ _)⟩
  | val d =>
    cases d with
    | list xs =>
      cases r with
      | lst h1 h2 => exact ⟨_, _, _, rfl, h2, h1.1, o g H rfl S (Le.refl _ _)⟩
    | _ => exact o.elim
def fSl (o : Bool) (x : SV) (lo hi : Option Int) : Mm SV := match x with
  | .val (.tuple xs) => mP (.val (.tuple (cutD xs lo hi)))
  | x => mB (mLs x) fun xs => mNew o (cutD xs lo hi)
def eSl (o : Bool) (a : Em) (l u : Om) : Em := fun ρ => mB (a ρ) fun x => mB (l ρ) fun lo => mB (u ρ) fun hi => fSl o x lo hi
theorem me_slice {o : Bool} {lo hi : Option Expr} {ml mu : Om} {p2 : Pos} (ha : ME X E a ma) (hl : MO X E lo ml) (hu : MO X E hi mu) : ME X E (.Subscript a (.Slice lo hi none p2) pos) (eSl o ma ml mu) := by
  refine PEwk (pe_slice (sl_list.or sl_tupA) ha hl hu) fun σ H Q ⟨g, ρ, S, V, out⟩ => ?_
  refine ⟨g, ρ, S, V, out.bind.mono fun dx g1 H1 S1 L1 o1 v rv => ?_⟩
  refine ⟨g1, ρ, S1, V.mono S L1, o1.bind.mono fun lo g2 H2 S2 L2 o2 => ?_⟩
  refine ⟨g2, ρ, S2, V.mono S (L1.trans L2), o2.bind.mono fun hi g3 H3 S3 L3 o3 => ?_⟩
  have rv3 := rv.mono S1 (L2.trans L3)
  unfold fSl at o3
  split at o3
  · rename_i xs
    cases rv3 with
    | tup h1 r1 =>
      refine .inr ⟨_, _, rfl, h1, fun w => ?_, fun _ p hp => new_tup S3 (r1.cut lo hi) hp o3⟩
      rw [r1.length] at w
      rw [cutD_whole w] at o3
      exact o3.pure S3 _ (RD.tup h1 r1)
  · obtain ⟨p, vs, xs, e, r, h, o3⟩ := ls_of S3 rv3 o3.bind
    exact .inl ⟨p, vs, e, .inl h, fun p hp => new_list S3 (r.cut lo hi) hp o3⟩

/-! ### stars -/
def aStar (a : Em) (r : Am) : Am := fun ρ => mB (a ρ) fun x => mB (mSeq x) fun xs => mB (r ρ) fun ys => mP (xs.map SV.val ++ ys)
theorem RSVs.ofD {K : PySem.W.Frag} {g : Gh} {H : Hp} : ∀ {vs : List V} {ds : List PyData}, RDs K g H vs ds → RSVs K cz g H vs (ds.map SV.val)
  | _, _, .nil => .nil
  | _, _, .cons r t => .cons r (RSVs.ofD t)
theorem RSVs.append {K : PySem.W.Frag} {g : Gh} {H : Hp} : ∀ {vs ws : List V} {ds es : List SV}, RSVs K cz g H vs ds → RSVs K cz g H ws es → RSVs K cz g H (vs ++ ws) (ds ++ es)
  | _, _, _, _, .nil, s => s
  | _, _, _, _, .cons r t, s => .cons r (RSVs.append t s)
theorem ma_star {es : List Expr} {ms : Am} {p : Pos} (ha : ME X E a ma) (hr : MA X E es ms) (hs : starEach (.Starred a p :: es) X.env = (true, eval a X.env) :: starEach es X.env) : MA X E (.Starred a p :: es) (aStar ma ms) := by
  refine PAwk (StX.pa_star ha hr hs) fun σ H Q ⟨g, ρ, S, V, o⟩ => ?_
  refine ⟨g, ρ, S, V, o.bind.mono fun dx g1 H1 S1 L1 o1 v rv => ?_⟩
  obtain ⟨a, vs, xs, e, r, h, o1⟩ := seq_of S1 rv o1.bind
  refine ⟨a, vs, e, ?_, g1, ρ, S1, V.mono S L1, o1.bind.mono fun ds g2 H2 S2 L2 o2 us rs => ?_⟩
  · rcases h with h | h
    · exact .inr (.inl h)
    · exact .inl h
  · exact o2.pure S2 _ ((RSVs.ofD (r.mono S1 L2)).append rs)

/-! ### built-in functions -/
def SL (K : PySem.W.Frag) (cz : Cxx) (mg : Mg) (E : XK) (r : List V → Hp → VK → Prop) (F : List SV → Mm SV) : Prop :=
  ∀ g H xs ds Q, Sim K g H → RSVs K cz g H xs ds → Out K mg E g H (F ds g.cs) (fun d g' H' => ∀ v, RSV K cz g' H' v d → Q v H') → r xs H Q
/-- a built-in function or type by its value -/
structure BltOk (X : Cx) (E : XK) (f : Value) (F : List SV → Mm SV) : Prop where
  ex : ∃ r, CallR X f r ∧ SL X.K (cx X) X.mg E r F
theorem me_cb {F : List SV → Mm SV} {id : String} {x : Str} {p : Pos} {es : List Expr} {ms : Am} (B : BltOk X E (.builtin id) F) (hg : Gl X x) (hm : X.mg x = none) (hv : bootBuiltins x = some (.builtin id)) (ha : MA X E (a :: es) ms) (hn : x ≠ "__name__") (hdb : (x == ("__debug__" : Str)) = false)
    (he : starEach (a :: es) X.env = (false, eval a X.env) :: starEach es X.env) (hpl : (backTo pos (starEach es X.env)).any (·.1) = false) : ME X E (.Call (.Name x p) (a :: es) [] pos) (eArgs F ms) := by
  obtain ⟨r, h1, h2⟩ := B.ex
  refine PEwk (pe_callB h1 hg hm hv ha hn hdb he hpl) fun σ H Q ⟨g, ρ, S, V, o⟩ => ?_
  exact ⟨g, ρ, S, V, o.bind.mono fun ds g1 H1 S1 L1 o1 vs rs => h2 g1 H1 vs ds Q S1 rs o1⟩
theorem me_ct {F : List SV → Mm SV} {T : String} {x : Str} {p : Pos} {es : List Expr} {ms : Am} (B : BltOk X E (.type T) F) (hg : Gl X x) (hm : X.mg x = none) (hv : bootBuiltins x = some (.type T)) (ha : MA X E (a :: es) ms) (hn : x ≠ "__name__") (hdb : (x == ("__debug__" : Str)) = false)
    (he : starEach (a :: es) X.env = (false, eval a X.env) :: starEach es X.env) (hpl : (backTo pos (starEach es X.env)).any (·.1) = false) : ME X E (.Call (.Name x p) (a :: es) [] pos) (eArgs F ms) := by
  obtain ⟨r, h1, h2⟩ := B.ex
  refine PEwk (pe_callTy h1 hg hm hv ha hn hdb he hpl) fun σ H Q ⟨g, ρ, S, V, o⟩ => ?_
  exact ⟨g, ρ, S, V, o.bind.mono fun ds g1 H1 S1 L1 o1 vs rs => h2 g1 H1 vs ds Q S1 rs o1⟩
theorem me_cg {F : List SV → Mm SV} {id : String} {x : Str} {p : Pos} {es : List Expr} {ms : Am} (B : BltOk X E (.builtin id) F) (hg : Gl X x) (hm : X.mg x = some (.builtin id)) (ha : MA X E (a :: es) ms) (hdb : (x == ("__debug__" : Str)) = false)
    (he : starEach (a :: es) X.env = (false, eval a X.env) :: starEach es X.env) (hpl : (backTo pos (starEach es X.env)).any (·.1) = false) : ME X E (.Call (.Name x p) (a :: es) [] pos) (eArgs F ms) := by
  obtain ⟨r, h1, h2⟩ := B.ex
  refine PEwk (pe_callBfun h1 hg hm ha hdb he hpl) fun σ H Q ⟨g, ρ, S, V, o⟩ => ?_
  exact ⟨g, ρ, S, V, o.bind.mono fun ds g1 H1 S1 L1 o1 vs rs => h2 g1 H1 vs ds Q S1 rs o1⟩

def b1 (F : SV → Mm SV) : List SV → Mm SV
  | [x] => F x
  | _ => mStuck
def b2 (F : SV → SV → Mm SV) : List SV → Mm SV
  | [x, y] => F x y
  | _ => mStuck
def intsD : List PyData → Option (List Int)
  | [] => some []
  | .int i :: r => (intsD r).map (i :: ·)
  | _ :: _ => none
def boolsD : List PyData → Option (List Bool)
  | [] => some []
  | .bool i :: r => (boolsD r).map (i :: ·)
  | _ :: _ => none
theorem ints_of {K : PySem.W.Frag} {g : Gh} {H : Hp} : ∀ {vs : List V} {ds : List PyData} {is : List Int}, RDs K g H vs ds → intsD ds = some is → vs = is.map V.int
  | _, _, _, .nil, e => by cases e; rfl
  | _, .int i :: ds, is, .cons r t, e => by
    unfold intsD at e
    cases q : intsD ds with
    | none => rw [q] at e; cases e
    | some js =>
      rw [q] at e
      cases e
      cases r
      rw [ints_of t q]; rfl
  | _, .none :: _, _, .cons _ _, e => nomatch e
  | _, .bool _ :: _, _, .cons _ _, e => nomatch e
  | _, .str _ :: _, _, .cons _ _, e => nomatch e
  | _, .list _ :: _, _, .cons _ _, e => nomatch e
  | _, .tuple _ :: _, _, .cons _ _, e => nomatch e
  | _, .dict _ :: _, _, .cons _ _, e => nomatch e
theorem bools_of {K : PySem.W.Frag} {g : Gh} {H : Hp} : ∀ {vs : List V} {ds : List PyData} {is : List Bool}, RDs K g H vs ds → boolsD ds = some is → vs = is.map V.bl
  | _, _, _, .nil, e => by cases e; rfl
  | _, .bool i :: ds, is, .cons r t, e => by
    unfold boolsD at e
    cases q : boolsD ds with
    | none => rw [q] at e; cases e
    | some js =>
      rw [q] at e
      cases e
      cases r
      rw [bools_of t q]; rfl
  | _, .none :: _, _, .cons _ _, e => nomatch e
  | _, .int _ :: _, _, .cons _ _, e => nomatch e
  | _, .str _ :: _, _, .cons _ _, e => nomatch e
  | _, .list _ :: _, _, .cons _ _, e => nomatch e
  | _, .tuple _ :: _, _, .cons _ _, e => nomatch e
  | _, .dict _ :: _, _, .cons _ _, e => nomatch e
def bLen : SV → Mm SV := fun x => mB (mSeq x) fun xs => vI (xs.length : Nat)
def bAbs : SV → Mm SV := fun x => mB (mInt x) fun i => vI (if i < 0 then -i else i)
def bMax2 : SV → SV → Mm SV := int2 fun i j => vI (if j > i then j else i)
def bMin2 : SV → SV → Mm SV := int2 fun i j => vI (if j < i then j else i)
def maxI : List Int → Int
  | [] => 0
  | [a] => a
  | a :: b :: r => let m := maxI (b :: r); if a < m then m else a
def minI : List Int → Int
  | [] => 0
  | [a] => a
  | a :: b :: r => let m := minI (b :: r); if m < a then m else a
theorem maxI_spec : ∀ l : List Int, l ≠ [] → maxI l ∈ l ∧ ∀ y ∈ l, y ≤ maxI l
  | [], h => absurd rfl h
  | [a], _ => by unfold maxI; simp
  | a :: b :: r, _ => by
    obtain ⟨h1, h2⟩ := maxI_spec (b :: r) (by simp)
    unfold maxI
    by_cases c : a < maxI (b :: r)
    · simp only [c, if_true]
      exact ⟨List.mem_cons_of_mem _ h1, fun y hy => (List.mem_cons.mp hy).elim (fun e => by omega) (h2 y)⟩
    · simp only [c, if_false]
      exact ⟨List.mem_cons_self, fun y hy => (List.mem_cons.mp hy).elim (fun e => by omega) fun q => by have := h2 y q; omega⟩
theorem minI_spec : ∀ l : List Int, l ≠ [] → minI l ∈ l ∧ ∀ y ∈ l, minI l ≤ y
  | [], h => absurd rfl h
  | [a], _ => by unfold minI; simp
  | a :: b :: r, _ => by
    obtain ⟨h1, h2⟩ := minI_spec (b :: r) (by simp)
    unfold minI
    by_cases c : minI (b :: r) < a
    · simp only [c, if_true]
      exact ⟨List.mem_cons_of_mem _ h1, fun y hy => (List.mem_cons.mp hy).elim (fun e => by omega) (h2 y)⟩
    · simp only [c, if_false]
      exact ⟨List.mem_cons_self, fun y hy => (List.mem_cons.mp hy).elim (fun e => by omega) fun q => by have := h2 y q; omega⟩
def bMax : SV → Mm SV := fun x => mB (mLs x) fun xs => mB (opt (intsD xs)) fun is => mB (guard (!is.isEmpty)) fun _ => vI (maxI is)
def bMin : SV → Mm SV := fun x => mB (mLs x) fun xs => mB (opt (intsD xs)) fun is => mB (guard (!is.isEmpty)) fun _ => vI (minI is)
def bSum : SV → Mm SV := fun x => mB (mLs x) fun xs => mB (opt (intsD xs)) fun is => vI is.sum
def bAny : SV → Mm SV := fun x => mB (mLs x) fun xs => mB (opt (boolsD xs)) fun is => vB (is.any id)
def bAll : SV → Mm SV := fun x => mB (mLs x) fun xs => mB (opt (boolsD xs)) fun is => vB (is.all id)
def bList (o : Bool) : SV → Mm SV := fun x => mB (mSeq x) fun xs => mNew o xs
def bTuple : SV → Mm SV := fun x => mB (mSeq x) fun xs => mP (.val (.tuple xs))
def bInt : SV → Mm SV := fun x => mB (mInt x) fun i => vI i
def bDivmod : SV → SV → Mm SV := int2 fun i j => mB (guard (decide (0 < j) && !Builtin.divisionGoesByPylong i j)) fun _ => mP (.val (.tuple [.int (i / j), .int (i % j)]))
def bGcd : SV → SV → Mm SV := int2 fun i j => vI (Nat.gcd i.natAbs j.natAbs : Nat)
def bRange1 : SV → Mm SV := fun x => mB (mInt x) fun i => mP (.rng 0 i)
section
variable {K : PySem.W.Frag} {mg : Mg}
theorem sl_1 {r : List V → Hp → VK → Prop} {F : SV → Mm SV} (h : ∀ g H x d (Q : VK), Sim K g H → RSV K cz g H x d → Out K mg E g H (F d g.cs) (fun d g' H' => ∀ v, RSV K cz g' H' v d → Q v H') → r [x] H Q) : SL K cz mg E r (b1 F) := by
  intro g H xs ds Q S rs o
  cases rs with
  | nil => exact o.elim
  | cons r1 t =>
    cases t with
    | cons _ _ => exact o.elim
    | nil => exact h g H _ _ Q S r1 o
theorem sl_2 {r : List V → Hp → VK → Prop} {F : SV → SV → Mm SV} (h : ∀ g H x y d e (Q : VK), Sim K g H → RSV K cz g H x d → RSV K cz g H y e → Out K mg E g H (F d e g.cs) (fun d g' H' => ∀ v, RSV K cz g' H' v d → Q v H') → r [x, y] H Q) : SL K cz mg E r (b2 F) := by
  intro g H xs ds Q S rs o
  cases rs with
  | nil => exact o.elim
  | cons r1 t =>
    cases t with
    | nil => exact o.elim
    | cons r2 t =>
      cases t with
      | cons _ _ => exact o.elim
      | nil => exact h g H _ _ _ _ Q S r1 r2 o
theorem sl_int2 {r : List V → Hp → VK → Prop} {F : Int → Int → Mm SV} (h : ∀ g H i j (Q : VK), Sim K g H → Out K mg E g H (F i j g.cs) (fun d g' H' => ∀ v, RSV K cz g' H' v d → Q v H') → r [.int i, .int j] H Q) : SL K cz mg E r (b2 (int2 F)) :=
  sl_2 fun g H x y d e Q S rx ry o => by
    obtain ⟨i, e1, o⟩ := int_of S rx o.bind
    obtain ⟨j, e2, o⟩ := int_of S ry o.bind
    subst e1 e2
    exact h g H i j Q S o
end
theorem bo_len : BltOk X E (.builtin "len") (b1 bLen) := ⟨_, call_len_seq, sl_1 fun g H x d Q S r o => by
  obtain ⟨a, vs, xs, e, rs, h, o⟩ := seq_of S r o.bind
  subst e
  have := vI_out S o
  rw [← rs.length] at this
  exact ⟨a, vs, rfl, h.elim (fun h => .inl (.inl h)) .inr, this⟩⟩
theorem bo_abs : BltOk X E (.builtin "abs") (b1 bAbs) := ⟨_, call_abs, sl_1 fun g H x d Q S r o => by
  obtain ⟨i, e, o⟩ := int_of S r o.bind
  subst e
  exact ⟨i, rfl, vI_out S o⟩⟩
theorem bo_int : BltOk X E (.type "int") (b1 bInt) := ⟨_, call_int1, sl_1 fun g H x d Q S r o => by
  obtain ⟨i, e, o⟩ := int_of S r o.bind
  subst e
  exact .inl ⟨i, rfl, vI_out S o⟩⟩
theorem bo_max2 (hc : X.calm = true) : BltOk X E (.builtin "max") (b2 bMax2) := ⟨_, call_max2 hc, sl_int2 fun g H i j Q S o => ⟨i, j, rfl, vI_out S o⟩⟩
theorem bo_min2 (hc : X.calm = true) : BltOk X E (.builtin "min") (b2 bMin2) := ⟨_, call_min2 hc, sl_int2 fun g H i j Q S o => ⟨i, j, rfl, vI_out S o⟩⟩
theorem bo_gcd : BltOk X E (.builtin "math.gcd") (b2 bGcd) := ⟨_, cr_gcd, sl_int2 fun g H i j Q S o => ⟨i, j, rfl, vI_out S o⟩⟩
theorem bo_divmod : BltOk X E (.builtin "divmod") (b2 bDivmod) := ⟨_, call_divmodW, sl_int2 fun g H i j Q S o => by
  obtain ⟨c, o⟩ := guard_of S o.bind
  simp only [Bool.and_eq_true, decide_eq_true_eq, Bool.not_eq_true'] at c
  exact ⟨i, j, rfl, c, fun p hp => new_tup S (.cons (.int _) (.cons (.int _) .nil)) hp o⟩⟩
theorem bo_max (hc : X.calm = true) : BltOk X E (.builtin "max") (b1 bMax) := ⟨_, cr_max hc, sl_1 fun g H x d Q S r o => by
  obtain ⟨a, vs, xs, e, rs, h, o⟩ := ls_of S r o.bind
  obtain ⟨is, q, o⟩ := opt_of S o.bind
  obtain ⟨c, o⟩ := guard_of S o.bind
  subst e
  have hne : is ≠ [] := by intro z; subst z; simp at c
  obtain ⟨m1, m2⟩ := maxI_spec is hne
  refine ⟨a, is, rfl, by rw [← ints_of rs q]; exact .inl h, List.length_pos_iff.mpr hne, fun m h1 h2 => ?_⟩
  have e : m = maxI is := Int.le_antisymm (m2 m h1) (h2 _ m1)
  rw [e]
  exact vI_out S o⟩
theorem bo_min (hc : X.calm = true) : BltOk X E (.builtin "min") (b1 bMin) := ⟨_, cr_min hc, sl_1 fun g H x d Q S r o => by
  obtain ⟨a, vs, xs, e, rs, h, o⟩ := ls_of S r o.bind
  obtain ⟨is, q, o⟩ := opt_of S o.bind
  obtain ⟨c, o⟩ := guard_of S o.bind
  subst e
  have hne : is ≠ [] := by intro z; subst z; simp at c
  obtain ⟨m1, m2⟩ := minI_spec is hne
  refine ⟨a, is, rfl, by rw [← ints_of rs q]; exact .inl h, List.length_pos_iff.mpr hne, fun m h1 h2 => ?_⟩
  have e : m = minI is := Int.le_antisymm (h2 _ m1) (m2 m h1)
  rw [e]
  exact vI_out S o⟩
theorem bo_sum (hc : X.calm = true) : BltOk X E (.builtin "sum") (b1 bSum) := ⟨_, cr_sum hc, sl_1 fun g H x d Q S r o => by
  obtain ⟨a, vs, xs, e, rs, h, o⟩ := ls_of S r o.bind
  obtain ⟨is, q, o⟩ := opt_of S o.bind
  subst e
  exact ⟨a, is, rfl, by rw [← ints_of rs q]; exact .inl h, vI_out S o⟩⟩
theorem bo_any (hc : X.calm = true) : BltOk X E (.builtin "any") (b1 bAny) := ⟨_, cr_any hc, sl_1 fun g H x d Q S r o => by
  obtain ⟨a, vs, xs, e, rs, h, o⟩ := ls_of S r o.bind
  obtain ⟨is, q, o⟩ := opt_of S o.bind
  subst e
  exact ⟨a, is, rfl, by rw [← bools_of rs q]; exact .inl h, vB_out S o⟩⟩
theorem bo_all (hc : X.calm = true) : BltOk X E (.builtin "all") (b1 bAll) := ⟨_, cr_all hc, sl_1 fun g H x d Q S r o => by
  obtain ⟨a, vs, xs, e, rs, h, o⟩ := ls_of S r o.bind
  obtain ⟨is, q, o⟩ := opt_of S o.bind
  subst e
  exact ⟨a, is, rfl, by rw [← bools_of rs q]; exact .inl h, vB_out S o⟩⟩
theorem bo_list {o : Bool} : BltOk X E (.type "list") (b1 (bList o)) := ⟨_, call_list_of, sl_1 fun g H x d Q S r o => by
  obtain ⟨a, vs, xs, e, rs, h, o⟩ := seq_of S r o.bind
  subst e
  exact ⟨a, vs, rfl, h.elim (fun h => .inl (.inl h)) .inr, fun p hp => new_list S rs hp o⟩⟩
theorem bo_tuple : BltOk X E (.type "tuple") (b1 bTuple) := ⟨_, call_tuple_of, sl_1 fun g H x d Q S r o => by
  obtain ⟨a, vs, xs, e, rs, h, o⟩ := seq_of S r o.bind
  subst e
  refine ⟨a, vs, rfl, ?_⟩
  rcases h with h | h
  · exact .inl ⟨.inl h, fun p hp => new_tup S rs hp o⟩
  · exact .inr ⟨h, o.pure S _ (RD.tup h rs)⟩⟩
theorem bo_range1 : BltOk X E (.type "range") (b1 bRange1) := ⟨_, cr_range1, sl_1 fun g H x d Q S r o => by
  obtain ⟨i, e, o⟩ := int_of S r o.bind
  subst e
  refine ⟨i, rfl, fun p hp => ?_⟩
  obtain ⟨S', L'⟩ := S.laid (o := .rng 0 i) hp
  exact o g _ rfl S' L' _ ⟨p, rfl, upd_same⟩⟩
end
end MK
set_option Elab.async false
set_option linter.all false
set_option maxRecDepth 100000
set_option maxHeartbeats 1000000
/-! MKe: statements, targets, loops, comprehensions, calls, defs. -/
namespace MK
open PySem PySem.Spec PyProof.Rows L2
variable {cz : Cxx} [Tb]

theorem Out.bind' {K : PySem.W.Frag} {mg : Mg} {E : XK} {g : Gh} {H : Hp} {α β : Type} {m : Mm α} {f : α → Mm β} {h : Hm} {P : β → Gh → Hp → Prop} (o : Out K mg E g H (mB m f h) P) : Out K mg E g H (m h) fun d g1 _ => Out K mg E g H (f d g1.cs) P := by
  unfold mB at o
  cases q : m h with
  | ok d h' =>
    rw [q] at o
    intro g1 H1 e S1 L1
    subst e
    exact o
  | exn x h' => rw [q] at o; exact o
  | stuck => rw [q] at o; exact o

/-! ### statements -/
inductive Fl where
  | nx | rt (d : SV) | bk | ct
abbrev Sm := Ro → Mm (Fl × Ro)
def EndR (K : PySem.W.Frag) (cz : Cxx) (D : Ends) (r : Fl × Ro) (g : Gh) (H : Hp) : Prop := match r.1 with
  | .nx => ∀ σ, EnvR K cz g H r.2 σ → D.nx σ H
  | .rt d => ∀ v, RSV K cz g H v d → D.rt v H
  | .bk => ∀ σ, EnvR K cz g H r.2 σ → D.bk σ H
  | .ct => ∀ σ, EnvR K cz g H r.2 σ → D.ct σ H
def tS (K : PySem.W.Frag) (cz : Cxx) (mg : Mg) (E : XK) (m : Sm) : TS := fun D σ H => ∃ g ρ, Sim K g H ∧ EnvR K cz g H ρ σ ∧ Out K mg E g H (m ρ g.cs) (EndR K cz D)
abbrev MS (X : Cx) (E : XK) (st : Stmt) (m : Sm) : Prop := PS X st (tS X.K (cx X) X.mg E m)
abbrev MSs (X : Cx) (E : XK) (st : List Stmt) (m : Sm) : Prop := PSs X st (tS X.K (cx X) X.mg E m)
def sNil : Sm := fun ρ => mP (.nx, ρ)
def sCons (a b : Sm) : Sm := fun ρ => mB (a ρ) fun r => match r.1 with
  | .nx => b r.2
  | _ => mP r
def sRet (a : Em) : Sm := fun ρ => mB (a ρ) fun d => mP (.rt d, ρ)
def sRetN : Sm := fun ρ => mP (.rt (.val .none), ρ)
def sIf (c : Tm) (a b : Sm) : Sm := fun ρ => mB (c ρ) fun k => if k then a ρ else b ρ
def sExpr (a : Em) : Sm := fun ρ => mB (a ρ) fun _ => mP (.nx, ρ)
/-- targets: what is written -/
abbrev Gm := SV → Ro → Mm Ro
def tG (K : PySem.W.Frag) (cz : Cxx) (mg : Mg) (E : XK) (ws : List Nat) (m : Gm) : TG := fun v σ H Q => ∃ g ρ d, Sim K g H ∧ EnvR K cz g H ρ σ ∧ RSV K cz g H v d ∧ Out K mg E g H (m d ρ g.cs) fun ρ' g' H' => ∀ σ', EnvR K cz g' H' ρ' σ' → wipe σ' ws = wipe σ ws → Q σ' H'
abbrev MG (X : Cx) (E : XK) (ws : List Nat) (t : Expr) (m : Gm) : Prop := PG X t (tG X.K (cx X) X.mg E ws m)
def gVar (i : Nat) : Gm := fun d ρ => mP (ρ.set i (some d))
def sAsg (a : Em) (t : Gm) : Sm := fun ρ => mB (a ρ) fun d => mB (t d ρ) fun ρ' => mP (.nx, ρ')
theorem PGwk {X : Cx} {e : Expr} {t t' : TG} (h : PG X e t) (w : ∀ v σ H Q, t' v σ H Q → t v σ H Q) : PG X e t' := ⟨fun pins s σ H v u Q I r q => h.run pins s σ H v u Q I r (w v σ H Q q)⟩
theorem wipe_get {ws : List Nat} {σ : L2.St} {j : Nat} : (wipe σ ws)[j]? = if j ∈ ws ∧ j < σ.length then some none else σ[j]? := by
  induction ws with
  | nil => simp [wipe]
  | cons w ws ih =>
    unfold wipe
    by_cases h : w = j
    · subst h
      by_cases hl : w < σ.length
      · rw [List.getElem?_set_self (by rw [wipe_length]; exact hl), if_pos ⟨List.mem_cons_self, hl⟩]
      · rw [List.getElem?_eq_none (by rw [List.length_set, wipe_length]; omega), if_neg (fun q => hl q.2), List.getElem?_eq_none (by omega)]
    · rw [List.getElem?_set_ne h, ih]
      by_cases hj : j ∈ ws
      · by_cases hl : j < σ.length
        · rw [if_pos ⟨hj, hl⟩, if_pos ⟨List.mem_cons_of_mem _ hj, hl⟩]
        · rw [if_neg (fun q => hl q.2), if_neg (fun q => hl q.2)]
      · rw [if_neg (fun q => hj q.1), if_neg (fun q => (List.mem_cons.mp q.1).elim (fun e => h e.symm) hj)]
theorem wipe_set {ws : List Nat} {σ : L2.St} {i : Nat} {o : Option V} (h : i ∈ ws) : wipe (σ.set i o) ws = wipe σ ws := by
  apply List.ext_getElem?
  intro j
  rw [wipe_get, wipe_get, List.length_set]
  by_cases hj : i = j
  · subst hj
    by_cases hl : i < σ.length
    · rw [if_pos ⟨h, hl⟩, if_pos ⟨h, hl⟩]
    · rw [if_neg (fun q => hl q.2), if_neg (fun q => hl q.2), List.getElem?_eq_none (by rw [List.length_set]; omega), List.getElem?_eq_none (by omega)]
  · rw [List.getElem?_set_ne hj]
section
variable {X : Cx} {E : XK} {e a b c : Expr} {es : List Expr} {ma mb mc : Em} {ta tb : Tm} {ms : Am} {pos : Pos} {st : Stmt} {rest bs cs : List Stmt} {sa sb sc : Sm} {ws : List Nat}
theorem ms_nil : MSs X E [] sNil := PSswk pss_nil fun D σ H ⟨g, ρ, S, V, o⟩ => o.pure S σ V
theorem ms_cons (h1 : MS X E st sa) (h2 : MSs X E rest sb) : MSs X E (st :: rest) (sCons sa sb) := by
  refine PSswk (pss_cons h1 h2) fun D σ H ⟨g, ρ, S, V, o⟩ => ?_
  refine ⟨g, ρ, S, V, o.bind.mono fun r g1 H1 S1 L1 o1 => ?_⟩
  obtain ⟨f, ρ1⟩ := r
  cases f with
  | nx => exact fun σ1 V1 => ⟨g1, ρ1, S1, V1, o1⟩
  | rt d => exact Out.pure (mg := X.mg) (E := E) (a := (Fl.rt d, ρ1)) (P := EndR X.K (cx X) D) S1 o1
  | bk => exact Out.pure (mg := X.mg) (E := E) (a := (Fl.bk, ρ1)) (P := EndR X.K (cx X) D) S1 o1
  | ct => exact Out.pure (mg := X.mg) (E := E) (a := (Fl.ct, ρ1)) (P := EndR X.K (cx X) D) S1 o1
theorem ms_one (h1 : MS X E st sa) : MSs X E [st] sa := pss_one h1
theorem ms_ret (ha : ME X E e ma) : MS X E (.Return (some e) pos) (sRet ma) := PSwk (ps_ret ha) fun D σ H ⟨g, ρ, S, V, o⟩ => ⟨g, ρ, S, V, o.bind.mono fun d g1 H1 S1 L1 o1 => o1.pure S1⟩
theorem ms_retN : MS X E (.Return none pos) sRetN := PSwk ps_retN fun D σ H ⟨g, ρ, S, V, o⟩ => o.pure S _ RD.non
theorem ms_pass : MS X E (.Pass pos) sNil := PSwk ps_pass fun D σ H ⟨g, ρ, S, V, o⟩ => o.pure S σ V
theorem ms_if (hc : MT X E c ta) (ha : MSs X E bs sa) (hb : MSs X E cs sb) : MS X E (.If c bs cs pos) (sIf ta sa sb) := by
  refine PSwk (ps_if hc ha hb) fun D σ H ⟨g, ρ, S, V, o⟩ => ?_
  refine ⟨g, ρ, S, V, o.bind.mono fun k g1 H1 S1 L1 o1 => ?_⟩
  cases k with
  | true => rw [if_pos rfl]; exact ⟨g1, ρ, S1, V.mono S L1, o1⟩
  | false => rw [if_neg Bool.false_ne_true]; exact ⟨g1, ρ, S1, V.mono S L1, o1⟩
theorem ms_expr (ha : ME X E e ma) (hs : swapsWith e none pos.line X.env = pure false) : MS X E (.Expr e pos) (sExpr ma) := by
  refine PSwk (ps_expr ha hs) fun D σ H ⟨g, ρ, S, V, o⟩ => ?_
  exact ⟨g, ρ, S, V, o.bind.mono fun d g1 H1 S1 L1 o1 v _ => o1.pure S1 σ (V.mono S L1)⟩
theorem mg_var {i : Nat} {x : Str} (hN : X.N.Nodup) (hi : X.N[i]? = some x) (hx : Loc X.env.scope x) (hw : i ∈ ws) (hf : X.fn x = true ∨ X.env.scope.names.lookup x = some .local) : MG X E ws (.Name x pos) (gVar i) := by
  refine PGwk (pg_name (i := i) hN hi hx hf) fun v σ H Q ⟨g, ρ, d, S, V, r, o⟩ => ?_
  exact o.pure S _ (V.set r i) (wipe_set hw)
theorem ms_asg {tg : Expr} {t : Gm} (he : ME X E e ma) (hg : MG X E ws tg t) (hs : swapsWithSole [tg] e pos.line X.env = pure false) (hw : swappedStores [tg] e X.env = pure none)
    (h1 : (assignEach [tg] X.env).map (·.2) = [assign tg X.env]) : MS X E (.Assign [tg] e pos) (sAsg ma t) := by
  refine PSwk (ps_asg he hg hs hw h1) fun D σ H ⟨g, ρ, S, V, o⟩ => ?_
  refine ⟨g, ρ, S, V, o.bind.mono fun d g1 H1 S1 L1 o1 v r => ?_⟩
  exact ⟨g1, ρ, d, S1, V.mono S L1, r, o1.bind.mono fun ρ' g2 H2 S2 L2 o2 σ' V' _ => o2.pure S2 σ' V'⟩
theorem ms_set {i : Nat} {x : Str} {p' : Pos} (hN : X.N.Nodup) (hi : X.N[i]? = some x) (hx : Loc X.env.scope x) (he : ME X E e ma) (hs : swapsWith e (some (.Name x p')) pos.line X.env = pure false) (hf : X.fn x = true ∨ X.env.scope.names.lookup x = some .local) :
    MS X E (.Assign [.Name x p'] e pos) (sAsg ma (gVar i)) := by
  refine PSwk (ps_set (i := i) hN hi hx he hs hf) fun D σ H ⟨g, ρ, S, V, o⟩ => ?_
  refine ⟨g, ρ, S, V, o.bind.mono fun d g1 H1 S1 L1 o1 v r => ?_⟩
  exact (o1.bind.pure S1).pure S1 _ ((V.mono S L1).set r i)
/-- a, b = x, y with plain local names -/
def sPar (i j : Nat) (a : Am) : Sm := fun ρ => mB (a ρ) fun ds => match ds with
  | [d, e] => mP (.nx, (ρ.set i (some d)).set j (some e))
  | _ => mStuck
theorem ms_par {i j : Nat} {x y : Str} {px py pt : Pos} {kt k2 : Nat} {pt2 : Pos} (hc : X.calm = true) (hN : X.N.Nodup) (hi : X.N[i]? = some x) (hj : X.N[j]? = some y) (hij : i ≠ j)
    (hx : X.env.scope.names.lookup x = some .local) (hy : X.env.scope.names.lookup y = some .local) (ha : MA X E [a, b] ms)
    (hw : swappedStores [.Tuple [.Name x px, .Name y py] kt pt] (.Tuple [a, b] k2 pt2) X.env = pure (some [x, y]))
    (hs : swapsWithSole [.Tuple [.Name x px, .Name y py] kt pt] (.Tuple [a, b] k2 pt2) pos.line X.env = pure false) :
    MS X E (.Assign [.Tuple [.Name x px, .Name y py] kt pt] (.Tuple [a, b] k2 pt2) pos) (sPar i j ms) := by
  refine PSwk (ps_par hc hN hi hj hij hx hy ha hw hs) fun D σ H ⟨g, ρ, S, V, o⟩ => ?_
  refine ⟨g, ρ, S, V, o.bind.mono fun ds g1 H1 S1 L1 o1 vs rs => ?_⟩
  have V1 := V.mono S L1
  cases rs with
  | nil => exact o1.elim
  | cons r1 t =>
    cases t with
    | nil => exact o1.elim
    | cons r2 t =>
      cases t with
      | cons _ _ => exact o1.elim
      | nil => exact ⟨_, _, rfl, o1.pure S1 _ ((V1.set r1 i).set r2 j)⟩

/-! ### more targets -/
abbrev Gsm := List PyData → Ro → Mm Ro
def tGs (K : PySem.W.Frag) (cz : Cxx) (mg : Mg) (E : XK) (ws : List Nat) (m : Gsm) : TGs := fun vs σ H Q => ∃ g ρ ds, Sim K g H ∧ EnvR K cz g H ρ σ ∧ RDs K g H vs ds ∧ Out K mg E g H (m ds ρ g.cs) fun ρ' g' H' => ∀ σ', EnvR K cz g' H' ρ' σ' → wipe σ' ws = wipe σ ws → Q σ' H'
abbrev MGs (X : Cx) (E : XK) (ws : List Nat) (ts : List Expr) (m : Gsm) : Prop := PGs X ts (tGs X.K (cx X) X.mg E ws m)
def gsNil : Gsm := fun ds ρ => match ds with
  | [] => mP ρ
  | _ => mStuck
def gsCons (t : Gm) (r : Gsm) : Gsm := fun ds ρ => match ds with
  | d :: ds => mB (t (.val d) ρ) fun ρ' => r ds ρ'
  | [] => mStuck
theorem PGswk {es : List Expr} {t t' : TGs} (h : PGs X es t) (w : ∀ v σ H Q, t' v σ H Q → t v σ H Q) : PGs X es t' := ⟨fun pins s σ H v u Q I r q => h.run pins s σ H v u Q I r (w v σ H Q q)⟩
theorem mgs_nil : MGs X E ws [] gsNil := by
  refine PGswk pgs_nil fun vs σ H Q ⟨g, ρ, ds, S, V, r, o⟩ => ?_
  cases r with
  | nil => exact ⟨rfl, o.pure S σ V rfl⟩
  | cons _ _ => exact o.elim
theorem mgs_cons {t : Gm} {ts : List Expr} {tr : Gsm} (h1 : MG X E ws e t) (h2 : MGs X E ws ts tr) (hs : (assignEach (e :: ts) X.env).map (·.2) = assign e X.env :: (assignEach ts X.env).map (·.2)) : MGs X E ws (e :: ts) (gsCons t tr) := by
  refine PGswk (pgs_cons h1 h2 hs) fun vs σ H Q ⟨g, ρ, ds, S, V, r, o⟩ => ?_
  cases r with
  | nil => exact o.elim
  | @cons v0 vs0 d0 ds0 r1 rt =>
    have o : Out X.K X.mg E g H (mB (t (.val d0) ρ) (fun ρ' => tr ds0 ρ') g.cs) _ := o
    refine ⟨_, _, rfl, g, ρ, .val d0, S, V, r1, o.bind.mono fun ρ1 g1 H1 S1 L1 o1 σ1 V1 w1 => ?_⟩
    exact ⟨g1, ρ1, _, S1, V1, rt.mono S L1, o1.mono fun ρ2 g2 H2 S2 L2 q σ2 V2 w2 => q σ2 V2 (w2.trans w1)⟩
/-- unpacking a tuple -/
def gTup (n : Nat) (t : Gsm) : Gm := fun d ρ => match d with
  | .val (.tuple ds) => mB (guard (decide (ds.length = n))) fun _ => t ds ρ
  | _ => mStuck
theorem mg_tup {ts : List Expr} {k n : Nat} {t : Gsm} (hc : X.calm = true) (h : MGs X E ws ts t) (hn : (assignEach ts X.env).length = n) (hst : (assignEach ts X.env).findIdx? (·.1) = none) : MG X E ws (.Tuple ts k pos) (gTup n t) := by
  refine PGwk (pg_tup hc h hn hst) fun v σ H Q ⟨g, ρ, d, S, V, r, o⟩ => ?_
  unfold gTup at o
  split at o
  · obtain ⟨c, o⟩ := guard_of S o.bind
    cases r with
    | tup h1 h2 => exact ⟨_, _, rfl, h1, by rw [h2.length]; exact of_decide_eq_true c, g, ρ, _, S, V, h2, o⟩
  · exact o.stuck.elim
/-- o[i] = v, o an owned list -/
def mSetIx (o i v : SV) : Mm Unit := mB (mInt i) fun k => mB (mD v) fun d => match o with
  | .ref n => fun h => match h[n]? with
    | some (some (.lst xs)) => match ixN xs.length k with
      | some j => .ok () (h.set n (some (.lst (xs.set j d))))
      | none => .stuck
    | _ => .stuck
  | _ => mStuck
def gIx (a b : Em) : Gm := fun v ρ => mB (a ρ) fun o => mB (b ρ) fun i => mB (mSetIx o i v) fun _ => mP ρ
theorem md_of {K : PySem.W.Frag} {mg : Mg} {g : Gh} {H : Hp} {d : SV} {v : V} {P : PyData → Gh → Hp → Prop} (S : Sim K g H) (r : RSV K cz g H v d) (o : Out K mg E g H (mD d g.cs) P) : ∃ e, RD K g H v e ∧ P e g H := by
  cases d with
  | val d => exact ⟨d, r, o.pure S⟩
  | ref n => exact o.elim
  | rng l h => exact o.elim
  | exc _ => exact o.elim
theorem mg_ix (ha : ME X E a ma) (hb : ME X E b mb)
    (hs : ∀ v, assign (.Subscript a b pos) X.env v = (do
      let ov ← holding [v] (eval a X.env)
      let iv ← holding [v, ov] (eval b X.env)
      standAt pos
      holding [v, ov, iv] (setItem ov iv v)
      release [v, ov, iv] [])) : MG X E ws (.Subscript a b pos) (gIx ma mb) := by
  refine PGwk (pg_sub ha hb set_list hs) fun v σ H Q ⟨g, ρ, d, S, V, r, o⟩ => ?_
  refine ⟨g, ρ, S, V, o.bind.mono fun dx g1 H1 S1 L1 o1 x rx => ?_⟩
  refine ⟨g1, ρ, S1, V.mono S L1, o1.bind.mono fun dy g2 H2 S2 L2 o2 y ry => ?_⟩
  obtain ⟨k, ey, o2⟩ := int_of S2 ry o2.bind.bind
  obtain ⟨e, re, o2⟩ := md_of S2 (r.mono S (L1.trans L2)) o2.bind
  have rx2 := rx.mono S1 L2
  cases dx with
  | val _ => exact o2.elim
  | rng _ _ => exact o2.elim
  | exc _ => exact o2.elim
  | ref n =>
    obtain ⟨p, ex, ep⟩ := rx2
    cases q : g2.cs[n]? with
    | none => simp only [q] at o2; exact o2.elim
    | some oc =>
      cases oc with
      | none => simp only [q] at o2; exact o2.elim
      | some cc =>
        cases cc with
        | lst ds =>
          simp only [q] at o2
          obtain ⟨vs, e1, rs⟩ := S2.cell n _ p q ep
          cases qj : ixN ds.length k with
          | none => simp only [qj] at o2; exact o2.elim
          | some j =>
            simp only [qj] at o2
            obtain ⟨S3, L3⟩ := S2.write q ep (rs.set re j)
            have o3 := (o2 _ _ rfl S3 L3).pure S3
            exact ⟨p, vs, k, j, ex, ey, e1, by rw [rs.length]; exact qj, o3 σ ((V.mono S (L1.trans L2)).mono S2 L3) rfl⟩
/-- o.append(e), o an owned list -/
def mApp (o v : SV) : Mm SV := mB (mD v) fun d => match o with
  | .ref n => fun h => match h[n]? with
    | some (some (.lst xs)) => if xs.length ≤ 10000 then .ok (.val .none) (h.set n (some (.lst (xs ++ [d])))) else .stuck
    | _ => .stuck
  | _ => mStuck
/-- the receiver first, then the item -/
def eApp (a b : Em) : Em := eOp2 mApp a b
def isLs (d : SV) : Mm Unit := mB (mLs d) fun _ => mP ()
theorem me_append {apos : Pos} (ha : ME X E a ma) (hb : ME X E b mb) (hbase : attributeBase a "append" X.env (eval a X.env) = eval a X.env)
    (hfew : ((backTo pos (starEach [b] X.env)).all (fun x => !x.1) && (backToKw pos (keywordEach [] X.env)).all (fun x => x.1.isSome)
      && decide ([b].length + ([] : List Keyword).length + (if ([] : List Keyword).isEmpty then 0 else 1) < 30)) = true)
    (hline : (apos.endLine == pos.line) = true) (hs : starEach [b] X.env = (false, eval b X.env) :: starEach [] X.env) (hplain : (backTo pos (starEach [] X.env)).any (·.1) = false) :
    ME X E (.Call (.Attribute a "append" apos) [b] [] pos) (fun ρ => mB (ma ρ) fun x => mB (isLs x) fun _ => mB (mb ρ) fun y => mApp x y) := by
  refine PEwk (pe_bm PySem.F.plainAttrs_list PySem.F.slot_list_append PySem.F.type_list_append mt_append ha (pa_cons hb pa_nil hs) hbase hfew hline hs hplain) fun σ H Q ⟨g, ρ, S, V, o⟩ => ?_
  refine ⟨g, ρ, S, V, o.bind.mono fun dx g1 H1 S1 L1 o1 x rx => ?_⟩
  obtain ⟨p0, vs0, xs0, ex0, _, h0, o1⟩ := ls_of S1 rx o1.bind.bind
  refine ⟨?_, ?_⟩
  · subst ex0
    exact .inl ⟨rfl, _, .inl h0⟩
  · refine ⟨g1, ρ, S1, V.mono S L1, (o1.pure S1).bind.mono fun dy g2 H2 S2 L2 o2 y ry => ?_⟩
    show rAppend x [y] H2 Q
    obtain ⟨e, re, o2⟩ := md_of S2 ry o2.bind
    have rx2 := rx.mono S1 L2
    cases dx with
    | val _ => exact o2.elim
    | rng _ _ => exact o2.elim
    | exc _ => exact o2.elim
    | ref n =>
      obtain ⟨p, ex, ep⟩ := rx2
      cases q : g2.cs[n]? with
      | none => simp only [q] at o2; exact o2.elim
      | some oc =>
        cases oc with
        | none => simp only [q] at o2; exact o2.elim
        | some cc =>
          cases cc with
          | lst ds =>
            simp only [q] at o2
            obtain ⟨vs, e1, rs⟩ := S2.cell n _ p q ep
            by_cases hl : ds.length ≤ 10000
            · rw [if_pos hl] at o2
              obtain ⟨S3, L3⟩ := S2.write q ep (rs.append (RDs.one re))
              exact ⟨p, vs, y, ex, rfl, e1, by rw [rs.length, sizeLine_eq]; omega, o2 _ _ rfl S3 L3 _ RD.non⟩
            · rw [if_neg hl] at o2; exact o2.elim
end
end MK
set_option Elab.async false
set_option linter.all false
set_option maxRecDepth 100000
set_option maxHeartbeats 2000000
/-! MKf: loops, comprehensions, what they walk. -/
namespace MK
open PySem PySem.Spec PyProof.Rows L2
variable {cz : Cxx} [Tb]

/-! ### what is walked: its items are known ahead -/
structure Kp (K : PySem.W.Frag) (g0 : Gh) (H0 : Hp) (g : Gh) (H : Hp) : Prop where
  rd : ∀ {d : PyData} {v : V}, RD K g0 H0 v d → RD K g H v d
  rng : ∀ {a : Addr} {lo hi : Int}, H0 a = some (.rng lo hi) → H a = some (.rng lo hi)
theorem Kp.of {K : PySem.W.Frag} {g0 g : Gh} {H0 H : Hp} (S : Sim K g0 H0) (L : Le g0 H0 g H) : Kp K g0 H0 g H := ⟨fun h => h.mono S L, fun h => (L.keep _ _ h (fun _ z => nomatch z) (S.not_own h fun z => z)).1⟩
theorem Kp.trans {K : PySem.W.Frag} {g0 g1 g : Gh} {H0 H1 H : Hp} (a : Kp K g0 H0 g1 H1) (b : Kp K g1 H1 g H) : Kp K g0 H0 g H := ⟨fun h => b.rd (a.rd h), fun h => b.rng (a.rng h)⟩
def IEn (K : PySem.W.Frag) (g0 : Gh) (H0 : Hp) (J : It) (ds : List PyData) : Prop := ∀ g H, Sim K g H → Kp K g0 H0 g H →
  (∀ (i : Nat) (d : PyData), ds[i]? = some d → J.go i H ∧ ∀ x H', J.yld i H x H' → Sim K g H' ∧ Le g H g H' ∧ RD K g H' x d) ∧ J.stop ds.length H
abbrev Im := Ro → Mm (List PyData)
def tI (K : PySem.W.Frag) (cz : Cxx) (mg : Mg) (E : XK) (m : Im) : TI := fun σ H R => ∃ g ρ, Sim K g H ∧ EnvR K cz g H ρ σ ∧ Out K mg E g H (m ρ g.cs) fun ds g' H' => ∀ J, IEn K g' H' J ds → R J H'
abbrev MI (X : Cx) (E : XK) (tg it : Expr) (m : Im) : Prop := PI X tg it (tI X.K (cx X) X.mg E m)
theorem PIwk {X : Cx} {tg e : Expr} {t t' : TI} (h : PI X tg e t) (w : ∀ σ H R, t' σ H R → t σ H R) : PI X tg e t' := ⟨fun pins s σ H R I q => h.run pins s σ H R I (w σ H R q)⟩

/-- for -/
def forM (t : Gm) (b : Sm) : List PyData → Sm
  | [] => fun ρ => mP (.nx, ρ)
  | d :: ds => fun ρ => mB (t (.val d) ρ) fun ρ1 => mB (b ρ1) fun r => match r.1 with
    | .nx => forM t b ds r.2
    | .ct => forM t b ds r.2
    | .bk => mP (.nx, r.2)
    | .rt d => mP (.rt d, r.2)
def sFor (it : Im) (t : Gm) (b : Sm) : Sm := fun ρ => mB (it ρ) fun ds => forM t b ds ρ
section
variable {X : Cx} {E : XK} {tg it : Expr} {mi : Im} {t : Gm} {b : Sm} {body : List Stmt} {ws : List Nat} {pos : Pos}
theorem ms_for (hp : PassesOwn (model X.prog X.w) X.A X.env X.xe) (hc : X.calm = true) (hi : MI X E tg it mi) (hg : MG X E ws tg t) (hb : MSs X E body b) (hs : ∀ x, foldedSetIterable it X.env x = pure x) : MS X E (.For tg it body [] pos) (sFor mi t b) := by
  refine PSwk (ps_for hp hc hi hg hb hs) fun D σ H ⟨g, ρ, S, V, o⟩ => ?_
  refine ⟨g, ρ, S, V, o.bind.mono fun ds g1 H1 S1 L1 o1 J en => ?_⟩
  refine ⟨fun i m σ H => m = ds.length - i ∧ i ≤ ds.length ∧ ∃ g ρ, Sim X.K g H ∧ Le g1 H1 g H ∧ EnvR X.K (cx X) g H ρ σ ∧ Out X.K X.mg E g H (forM t b (ds.drop i) ρ g.cs) (EndR X.K (cx X) D),
    ⟨ds.length, by simp, Nat.zero_le _, g1, ρ, S1, Le.refl _ _, V.mono S L1, o1⟩, ?_⟩
  rintro i m σ2 H2 ⟨rfl, hi, g2, ρ2, S2, L2, V2, o2⟩
  obtain ⟨e1, e2⟩ := en g2 H2 S2 (.of S1 L2)
  by_cases hlt : i < ds.length
  · right
    have hd : ds[i]? = some ds[i] := List.getElem?_eq_getElem hlt
    obtain ⟨go, yl⟩ := e1 i _ hd
    rw [List.drop_eq_getElem_cons hlt] at o2
    refine ⟨go, fun σ' H' => i + 1 ≤ ds.length ∧ ∃ g ρ, Sim X.K g H' ∧ Le g1 H1 g H' ∧ EnvR X.K (cx X) g H' ρ σ' ∧ Out X.K X.mg E g H' (forM t b (ds.drop (i + 1)) ρ g.cs) (EndR X.K (cx X) D),
      fun σ' H' q => ⟨ds.length - (i + 1), by omega, rfl, q⟩, fun x H3 y3 => ?_⟩
    obtain ⟨S3, L3, r3⟩ := yl x H3 y3
    have V3 := V2.mono S2 L3
    -- the step from H2 to H3 lays at most a new thing
    have o3 : Out X.K X.mg E g2 H3 (forM t b (ds[i] :: ds.drop (i + 1)) ρ2 g2.cs) (EndR X.K (cx X) D) := by
      cases q : forM t b (ds[i] :: ds.drop (i + 1)) ρ2 g2.cs with
      | ok r h' => rw [q] at o2; exact fun g' H' e S' L' => o2 g' H' e S' (L3.trans L')
      | exn x h' => rw [q] at o2; exact fun g' H' cls oa e S' L' => o2 g' H' cls oa e S' (L3.trans L')
      | stuck => rw [q] at o2; exact o2
    unfold forM at o3
    refine ⟨g2, ρ2, .val ds[i], S3, V3, r3, o3.bind.mono fun ρ4 g4 H4 S4 L4 o4 σ4 V4 _ => ?_⟩
    refine ⟨g4, ρ4, S4, V4, o4.bind.mono fun r g5 H5 S5 L5 o5 => ?_⟩
    obtain ⟨f, ρ5⟩ := r
    have LL := L2.trans (L3.trans (L4.trans L5))
    cases f with
    | nx => exact fun σ5 V5 => ⟨hlt, g5, ρ5, S5, LL, V5, o5⟩
    | ct => exact fun σ5 V5 => ⟨hlt, g5, ρ5, S5, LL, V5, o5⟩
    | bk => exact fun σ5 V5 => Out.pure (mg := X.mg) (E := E) (a := (Fl.nx, ρ5)) (P := EndR X.K (cx X) D) S5 o5 σ5 V5
    | rt d => exact fun v rv => Out.pure (mg := X.mg) (E := E) (a := (Fl.rt d, ρ5)) (P := EndR X.K (cx X) D) S5 o5 v rv
  · left
    have e : i = ds.length := by omega
    rw [e, List.drop_length] at o2
    exact ⟨by rw [e]; exact e2, Out.pure (mg := X.mg) (E := E) (a := (Fl.nx, ρ2)) (P := EndR X.K (cx X) D) S2 o2 σ2 V2⟩
end

/-- while: at most so many turns -/
def whileM (c : Tm) (b : Sm) : Nat → Sm
  | 0 => fun _ => mStuck
  | n + 1 => fun ρ => mB (c ρ) fun k => if k then mB (b ρ) fun r => match r.1 with
    | .nx => whileM c b n r.2
    | .ct => whileM c b n r.2
    | .bk => mP (.nx, r.2)
    | .rt d => mP (.rt d, r.2)
    else mP (.nx, ρ)
def sWhile (fuel : Ro → Nat) (c : Tm) (b : Sm) : Sm := fun ρ => whileM c b (fuel ρ) ρ
section
variable {X : Cx} {E : XK} {c : Expr} {tc : Tm} {b : Sm} {body : List Stmt} {pos : Pos}
theorem ms_while {fuel : Ro → Nat} (hp : PassesOwn (model X.prog X.w) X.A X.env X.xe) (hc : MT X E c tc) (hb : MSs X E body b) : MS X E (.While c body [] pos) (sWhile fuel tc b) := by
  refine PSwk (ps_while hp hc hb) fun D σ H ⟨g, ρ, S, V, o⟩ => ?_
  refine ⟨fun m σ H => ∃ g ρ, Sim X.K g H ∧ EnvR X.K (cx X) g H ρ σ ∧ Out X.K X.mg E g H (whileM tc b m ρ g.cs) (EndR X.K (cx X) D), ⟨fuel ρ, g, ρ, S, V, o⟩, ?_⟩
  rintro m σ1 H1 ⟨g1, ρ1, S1, V1, o1⟩
  cases m with
  | zero => exact o1.elim
  | succ n =>
    unfold whileM at o1
    refine ⟨g1, ρ1, S1, V1, o1.bind.mono fun k g2 H2 S2 L2 o2 => ?_⟩
    cases k with
    | false => 
      rw [if_neg Bool.false_ne_true]
      exact Out.pure (mg := X.mg) (E := E) (a := (Fl.nx, ρ1)) (P := EndR X.K (cx X) D) S2 o2 σ1 (V1.mono S1 L2)
    | true =>
      rw [if_pos rfl]
      refine ⟨fun σ' H' => ∃ g ρ, Sim X.K g H' ∧ EnvR X.K (cx X) g H' ρ σ' ∧ Out X.K X.mg E g H' (whileM tc b n ρ g.cs) (EndR X.K (cx X) D), fun σ' H' q => ⟨n, Nat.lt_succ_self n, q⟩, ?_⟩
      have o2 : Out X.K X.mg E g2 H2 (mB (b ρ1) _ g2.cs) (EndR X.K (cx X) D) := o2
      refine ⟨g2, ρ1, S2, V1.mono S1 L2, o2.bind.mono fun r g5 H5 S5 L5 o5 => ?_⟩
      obtain ⟨f, ρ5⟩ := r
      cases f with
      | nx => exact fun σ5 V5 => ⟨g5, ρ5, S5, V5, o5⟩
      | ct => exact fun σ5 V5 => ⟨g5, ρ5, S5, V5, o5⟩
      | bk => exact fun σ5 V5 => Out.pure (mg := X.mg) (E := E) (a := (Fl.nx, ρ5)) (P := EndR X.K (cx X) D) S5 o5 σ5 V5
      | rt d => exact fun v rv => Out.pure (mg := X.mg) (E := E) (a := (Fl.rt d, ρ5)) (P := EndR X.K (cx X) D) S5 o5 v rv
end

/-! ### comprehensions -/
def wipeR (ρ : Ro) : List Nat → Ro
  | [] => ρ
  | v :: vs => (wipeR ρ vs).set v none
theorem EnvR.wipe {K : PySem.W.Frag} {g : Gh} {H : Hp} {ρ : Ro} {σ : L2.St} (h : EnvR K cz g H ρ σ) : ∀ vs : List Nat, EnvR K cz g H (wipeR ρ vs) (L2.wipe σ vs)
  | [] => h
  | v :: vs => (EnvR.wipe h vs).clear v none
def lcLoop (t : Gm) (c : Tm) (e : Em) (ρ : Ro) : List PyData → Mm (List PyData)
  | [] => mP []
  | d :: ds => mB (t (.val d) ρ) fun ρ1 => mB (c ρ1) fun b => if b then mB (e ρ1) fun y => mB (mD y) fun yd => mB (lcLoop t c e ρ ds) fun r => mP (yd :: r) else lcLoop t c e ρ ds
def tYesM : Tm := fun _ => mP true

section
variable {K : PySem.W.Frag} {mg : Mg} {E : XK} {g : Gh} {H : Hp}
/-- an owned address less -/
theorem own_less {g : Gh} {l : List Addr} {D b : Addr} (he : g.ex = D :: l) (h : own ⟨g.mu, g.cs, l⟩ b) : own g b := by
  rcases h with h | h
  · exact .inl h
  · exact .inr (by rw [he]; exact List.mem_cons_of_mem _ h)
theorem RD.less {l : List Addr} {D : Addr} (he : g.ex = D :: l) {d : PyData} {v : V} (h : RD K g H v d) : RD K ⟨g.mu, g.cs, l⟩ H v d := by
  have fl : ∀ {a xs}, FL K g H a xs → FL K ⟨g.mu, g.cs, l⟩ H a xs := fun {a xs} h => ⟨h.1, fun z => h.2 (own_less he z)⟩
  induction h using RD.rec (motive_2 := fun vs ds _ => RDs K ⟨g.mu, g.cs, l⟩ H vs ds) with
  | non => exact .non
  | bl b => exact .bl b
  | int i => exact .int i
  | str x => exact .str x
  | lst h1 _ ih => exact .lst (fl h1) ih
  | tup h1 _ ih => exact .tup h1 ih
  | nil => exact .nil
  | cons _ _ i1 i2 => exact .cons i1 i2
theorem RDs.less {l : List Addr} {D : Addr} (he : g.ex = D :: l) : ∀ {ds : List PyData} {vs : List V}, RDs K g H vs ds → RDs K ⟨g.mu, g.cs, l⟩ H vs ds
  | _, _, .nil => .nil
  | _, _, .cons r t => .cons (r.less he) (RDs.less he t)
theorem Sim.less {l : List Addr} {D : Addr} (he : g.ex = D :: l) (S : Sim K g H) : Sim K ⟨g.mu, g.cs, l⟩ H := by
  refine ⟨S.len, fun n c a h1 h2 => ?_, S.inj, S.trk, fun a ha => S.exm a (by rw [he]; exact List.mem_cons_of_mem _ ha), fun n a h z => S.exn n a h (by rw [he]; exact List.mem_cons_of_mem _ z), S.tabs⟩
  have q := S.cell n c a h1 h2
  cases c with
  | lst ds => obtain ⟨vs, e, r⟩ := q; exact ⟨vs, e, r.less he⟩
theorem XA.less {l : List Addr} {D : Addr} (he : g.ex = D :: l) {x : Xn} {oa : Option Addr} (h : XA K g H x oa) : XA K ⟨g.mu, g.cs, l⟩ H x oa := by
  unfold XA at *
  cases q : x.arg with
  | none => rw [q] at h; exact h
  | some p =>
    rw [q] at h
    obtain ⟨dx, v, e1, e2, r⟩ := h
    exact ⟨dx, v, e1, e2, r.less he⟩
theorem XR.less {l : List Addr} {D : Addr} (he : g.ex = D :: l) {x : Xn} {cls : Value} {oa : Option Addr} (h : XR K mg g H x cls oa) : XR K mg ⟨g.mu, g.cs, l⟩ H x cls oa := ⟨h.1, h.2.less he⟩
theorem RD.up {D : Addr} {o : HO} (S : Sim K g H) (hD : H D = none) {d : PyData} {v : V} (h : RD K g H v d) : RD K ⟨g.mu, g.cs, D :: g.ex⟩ (upd H D o) v d := by
  obtain ⟨S', L'⟩ := S.laid (o := o) hD
  induction h using RD.rec (motive_2 := fun vs ds _ => RDs K ⟨g.mu, g.cs, D :: g.ex⟩ (upd H D o) vs ds) with
  | non => exact .non
  | bl b => exact .bl b
  | int i => exact .int i
  | str x => exact .str x
  | lst h1 _ ih =>
    obtain ⟨f1, f2⟩ := L'.fl S h1
    refine .lst ⟨f1, fun z => ?_⟩ ih
    rcases z with z | z
    · exact f2 (.inl z)
    · rcases List.mem_cons.mp z with z | z
      · obtain ⟨h0, _⟩ := h1
        rw [z] at h0
        rcases h0 with h0 | ⟨_, h0⟩ <;> (rw [hD] at h0; cases h0)
      · exact f2 (.inr z)
  | tup h1 _ ih => exact .tup (L'.sqt S h1) ih
  | nil => exact .nil
  | cons _ _ i1 i2 => exact .cons i1 i2
theorem RDs.up {D : Addr} {o : HO} (S : Sim K g H) (hD : H D = none) : ∀ {ds : List PyData} {vs : List V}, RDs K g H vs ds → RDs K ⟨g.mu, g.cs, D :: g.ex⟩ (upd H D o) vs ds
  | _, _, .nil => .nil
  | _, _, .cons r t => .cons (r.up S hD) (RDs.up S hD t)
/-- a new thing D is laid and owned for a while -/
theorem Sim.more {D : Addr} {o : HO} (S : Sim K g H) (hD : H D = none) (hm : Mut (some o)) : Sim K ⟨g.mu, g.cs, D :: g.ex⟩ (upd H D o) := by
  obtain ⟨S', L'⟩ := S.laid (o := o) hD
  refine ⟨S'.len, fun n c a h1 h2 => ?_, S'.inj, S'.trk, fun a ha => ?_, fun n a h z => ?_, S'.tabs⟩
  · have q := S.cell n c a h1 h2
    have hne : a ≠ D := fun z => (S.trk n a h2).some (by rw [z]; exact hD)
    cases c with
    | lst ds =>
      obtain ⟨vs, e, r⟩ := q
      exact ⟨vs, by rw [upd_ne hne]; exact e, r.up S hD⟩
  · rcases List.mem_cons.mp ha with z | z
    · subst z; rw [upd_same]; exact hm
    · exact S'.exm a z
  · rcases List.mem_cons.mp z with z | z
    · exact (S.trk n a h).some (by rw [z]; exact hD)
    · exact S.exn n a h z
theorem own_up {D a : Addr} (h : own ⟨g.mu, g.cs, D :: g.ex⟩ a) : own g a ∨ a = D := by
  rcases h with h | h
  · exact .inl (.inl h)
  · rcases List.mem_cons.mp h with h | h
    · exact .inr h
    · exact .inl (.inr h)
theorem own_drop {l : List Addr} {D a : Addr} (he : g.ex = D :: l) (h : own g a) : own ⟨g.mu, g.cs, l⟩ a ∨ a = D := by
  rcases h with h | h
  · exact .inl (.inl h)
  · rw [he] at h
    rcases List.mem_cons.mp h with h | h
    · exact .inr h
    · exact .inl (.inr h)
theorem Le.dropTrans {l : List Addr} {D : Addr} {g1 g' : Gh} {H1 H' : Hp} (hl : g1.ex = l) (hD : H1 D = none) (he : g.ex = D :: l) (a : Le g1 H1 ⟨g.mu, g.cs, l⟩ H) (b : Le g H g' H') : Le g1 H1 ⟨g'.mu, g'.cs, l⟩ H' := by
  refine ⟨fun n x h => b.pre n x (a.pre n x h), fun x u h t n => ?_, hl.symm, fun x hx => ?_, fun x h => b.trk x (a.trk x h)⟩
  · obtain ⟨h1, h2⟩ := a.keep x u h t n
    obtain ⟨h3, h4⟩ := b.keep x u h1 t fun q => (own_drop he q).elim h2 (ne_of_none h hD)
    exact ⟨h3, fun q => h4 (own_less (b.exe.trans he) q)⟩
  · exact (b.exk x (by rw [he]; exact List.mem_cons_of_mem _ (hl ▸ hx))).trans (a.exk x hx)
theorem RD.exw {D : Addr} {o : HO} (S : Sim K g H) (hD : D ∈ g.ex) {d : PyData} {v : V} (h : RD K g H v d) : RD K g (upd H D o) v d := by
  have hm := S.exm D hD
  have rd : ∀ {a u}, ¬ Mut (some u) → Rd H a u → Rd (upd H D o) a u := fun {a u} nm r => by
    rcases r with r | ⟨q, r⟩
    · exact .inl (by rw [upd_ne (fun z => nm (by rw [z] at r; rw [r] at hm; exact hm))]; exact r)
    · exact .inr ⟨q, by rw [upd_ne (fun z => by rw [z] at r; rw [r] at hm; exact hm)]; exact r⟩
  induction h using RD.rec (motive_2 := fun vs ds _ => RDs K g (upd H D o) vs ds) with
  | non => exact .non
  | bl b => exact .bl b
  | int i => exact .int i
  | str x => exact .str x
  | @lst a xs ds h1 _ ih =>
    have hne : a ≠ D := fun z => h1.2 (by rw [z]; exact .inr hD)
    refine .lst ⟨?_, h1.2⟩ ih
    rcases h1.1 with r | ⟨q, r⟩
    · exact .inl (by rw [upd_ne hne]; exact r)
    · exact .inr ⟨q, by rw [upd_ne hne]; exact r⟩
  | tup h1 _ ih =>
    refine .tup ?_ ih
    rcases h1 with h1 | h1
    · exact .inl (rd (fun z => z) h1)
    · exact .inr h1
  | nil => exact .nil
  | cons _ _ i1 i2 => exact .cons i1 i2
theorem RDs.exw {D : Addr} {o : HO} (S : Sim K g H) (hD : D ∈ g.ex) : ∀ {ds : List PyData} {vs : List V}, RDs K g H vs ds → RDs K g (upd H D o) vs ds
  | _, _, .nil => .nil
  | _, _, .cons r t => .cons (r.exw S hD) (RDs.exw S hD t)
theorem Sim.exw {D : Addr} {o : HO} (S : Sim K g H) (hD : D ∈ g.ex) (hl : ∃ us, H D = some (.lst us)) (hm : Mut (some o)) : Sim K g (upd H D o) := by
  refine ⟨S.len, fun n c a h1 h2 => ?_, S.inj, fun n a h => ?_, fun a ha => ?_, S.exn, tabs_write S.tabs hl⟩
  · have hne : a ≠ D := fun z => S.exn n a h2 (by rw [z]; exact hD)
    have q := S.cell n c a h1 h2
    cases c with
    | lst ds =>
      obtain ⟨vs, e, r⟩ := q
      exact ⟨vs, by rw [upd_ne hne]; exact e, r.exw S hD⟩
  · have hne : a ≠ D := fun z => S.exn n a h (by rw [z]; exact hD)
    rw [upd_ne hne]; exact S.trk n a h
  · by_cases hb : a = D
    · rw [hb, upd_same]; exact hm
    · rw [upd_ne hb]; exact S.exm a ha
theorem RSV.exw {D : Addr} {o : HO} (S : Sim K g H) (hD : D ∈ g.ex) {d : SV} {v : V} (h : RSV K cz g H v d) : RSV K cz g (upd H D o) v d := by
  cases d with
  | val d => exact RD.exw S hD h
  | ref n => exact h
  | rng lo hi =>
    obtain ⟨a, e1, e2⟩ := h
    have hm := S.exm D hD
    exact ⟨a, e1, by rw [upd_ne (fun z => by rw [z] at e2; rw [e2] at hm; exact hm)]; exact e2⟩
  | exc x =>
    obtain ⟨a, oe, mg, C, e1, e2, c1, c2, e3⟩ := h
    refine ⟨a, oe, mg, C, e1, e2, c1, c2, ?_⟩
    unfold XA at *
    cases q : x.arg with
    | none => rw [q] at e3; exact e3
    | some p =>
      rw [q] at e3
      obtain ⟨dx, v, e4, e5, r⟩ := e3
      have hm := S.exm D hD
      exact ⟨dx, v, e4, by rw [upd_ne (fun z => by rw [z] at e5; rw [e5] at hm; exact hm)]; exact e5, r.exw S hD⟩
theorem EnvR.exw {D : Addr} {o : HO} (S : Sim K g H) (hD : D ∈ g.ex) {ρ : Ro} {σ : L2.St} (h : EnvR K cz g H ρ σ) : EnvR K cz g (upd H D o) ρ σ :=
  ⟨h.1, fun i d e => let ⟨v, e1, r⟩ := h.2 i d e; ⟨v, e1, r.exw S hD⟩⟩
theorem EnvR.up {D : Addr} {o : HO} (S : Sim K g H) (hD : H D = none) {ρ : Ro} {σ : L2.St} (h : EnvR K cz g H ρ σ) : EnvR K cz ⟨g.mu, g.cs, D :: g.ex⟩ (upd H D o) ρ σ :=
  ⟨h.1, fun i d e => by
    obtain ⟨v, e1, r⟩ := h.2 i d e
    refine ⟨v, e1, ?_⟩
    cases d with
    | val d => exact RD.up S hD r
    | ref n => exact r
    | rng lo hi =>
      obtain ⟨a, e2, e3⟩ := r
      exact ⟨a, e2, upd_grow hD a _ e3⟩
    | exc x =>
      obtain ⟨a, oe, mg, C, e4, e2, c1, c2, e3⟩ := r
      refine ⟨a, oe, mg, C, e4, e2, c1, c2, ?_⟩
      unfold XA at *
      cases q : x.arg with
      | none => rw [q] at e3; exact e3
      | some p =>
        rw [q] at e3
        obtain ⟨dx, v, e5, e6, r⟩ := e3
        exact ⟨dx, v, e5, upd_grow hD _ _ e6, r.up S hD⟩⟩
theorem Out.of {α β : Type} {m : Mm α} {f : α → Mm β} {h : Hm} {C : Res β → Prop} (hx : ∀ x h, ¬ C (.exn x h)) (hs : ¬ C .stuck) (c : C (mB m f h)) : Out K mg E g H (m h) fun a g' _ => C (f a g'.cs) := by
  unfold mB at c
  cases q : m h with
  | ok a h' =>
    rw [q] at c
    intro g' H' e _ _
    rw [e]; exact c
  | exn x h' => rw [q] at c; exact absurd c (hx x h')
  | stuck => rw [q] at c; exact absurd c hs
theorem wipe_wipe {vs : List Nat} {σ : L2.St} : wipe (wipe σ vs) vs = wipe σ vs := by
  apply List.ext_getElem?
  intro j
  rw [wipe_get, wipe_length, wipe_get]
  split <;> rfl
theorem RD.sub {g' : Gh} (h0 : ∀ a, own g' a → own g a) {d : PyData} {v : V} (h : RD K g H v d) : RD K g' H v d := by
  induction h using RD.rec (motive_2 := fun vs ds _ => RDs K g' H vs ds) with
  | non => exact .non
  | bl b => exact .bl b
  | int i => exact .int i
  | str x => exact .str x
  | lst h1 _ ih => exact .lst ⟨h1.1, fun z => h1.2 (h0 _ z)⟩ ih
  | tup h1 _ ih => exact .tup h1 ih
  | nil => exact .nil
  | cons _ _ i1 i2 => exact .cons i1 i2
theorem RDs.sub {g' : Gh} (h0 : ∀ a, own g' a → own g a) : ∀ {ds : List PyData} {vs : List V}, RDs K g H vs ds → RDs K g' H vs ds
  | _, _, .nil => .nil
  | _, _, .cons r t => .cons (r.sub h0) (RDs.sub h0 t)
theorem CellR.sub {g' : Gh} (h0 : ∀ a, own g' a → own g a) {c : Cell} {a : Addr} (h : CellR K g H c a) : CellR K g' H c a := by
  cases c with
  | lst ds => obtain ⟨vs, e, r⟩ := h; exact ⟨vs, e, r.sub h0⟩
theorem snoc_get {α : Type} {l : List α} {x y : α} {n : Nat} (h : (l ++ [x])[n]? = some y) : l[n]? = some y ∨ (n = l.length ∧ y = x) := by
  by_cases hn : n < l.length
  · rw [List.getElem?_append_left hn] at h; exact .inl h
  · rw [List.getElem?_append_right (by omega)] at h
    by_cases h0 : n - l.length = 0
    · rw [h0] at h
      exact .inr ⟨by omega, by simpa using h.symm⟩
    · rw [List.getElem?_eq_none (by simp; omega)] at h
      cases h
theorem adopt_own {l : List Addr} {D a : Addr} {c : Cell} (S : Sim K g H) (he : g.ex = D :: l) (h : own ⟨g.mu ++ [D], g.cs ++ [some c], l⟩ a) : own g a := by
  rcases h with ⟨n, c', h1, h2⟩ | h
  · rcases snoc_get h2 with q | ⟨_, q⟩
    · rcases snoc_get h1 with q1 | ⟨e1, _⟩
      · exact .inl ⟨n, c', q1, q⟩
      · have := (List.getElem?_eq_some_iff.mp q).1
        rw [S.len] at this
        omega
    · exact .inr (by rw [he, q]; exact List.mem_cons_self)
  · exact .inr (by rw [he]; exact List.mem_cons_of_mem _ h)
/-- an owned address becomes a cell -/
theorem Sim.adopt {l : List Addr} {D : Addr} {vs : List V} {ds : List PyData} (S : Sim K g H) (he : g.ex = D :: l) (hl : D ∉ l) (e : H D = some (.lst vs)) (r : RDs K g H vs ds) : Sim K ⟨g.mu ++ [D], g.cs ++ [some (.lst ds)], l⟩ H := by
  have h0 : ∀ a, own ⟨g.mu ++ [D], g.cs ++ [some (.lst ds)], l⟩ a → own g a := fun a h => adopt_own S he h
  have hD : D ∈ g.ex := by rw [he]; exact List.mem_cons_self
  refine ⟨?_, fun n c a h1 h2 => ?_, fun n m a h1 h2 => ?_, fun n a h => ?_, fun a ha => S.exm a (by rw [he]; exact List.mem_cons_of_mem _ ha), fun n a h => ?_, S.tabs⟩
  · show (g.mu ++ [D]).length = (g.cs ++ [some (Cell.lst ds)]).length
    rw [List.length_append, List.length_append, S.len]; rfl
  · rcases snoc_get h2 with q | ⟨e1, e2⟩
    · rcases snoc_get h1 with q1 | ⟨e1, _⟩
      · exact (S.cell n c a q1 q).sub h0
      · have := (List.getElem?_eq_some_iff.mp q).1
        rw [S.len] at this
        omega
    · rcases snoc_get h1 with q1 | ⟨_, e4⟩
      · have := (List.getElem?_eq_some_iff.mp q1).1
        rw [← S.len] at this
        omega
      · have e4 : c = Cell.lst ds := Option.some.inj e4
        subst e4 e2
        exact ⟨vs, e, r.sub h0⟩
  · rcases snoc_get h1 with q | ⟨e1, e2⟩ <;> rcases snoc_get h2 with q' | ⟨e1', e2'⟩
    · exact S.inj n m a q q'
    · subst e2'; exact absurd hD (S.exn n _ q)
    · subst e2; exact absurd hD (S.exn m _ q')
    · rw [e1, e1']
  · rcases snoc_get h with q | ⟨e1, e2⟩
    · exact S.trk n a q
    · rw [e2, e]; trivial
  · rcases snoc_get h with q | ⟨e1, e2⟩
    · exact fun z => S.exn n a q (by rw [he]; exact List.mem_cons_of_mem _ z)
    · rw [e2]; exact hl
end
def noX {α : Type} (m : Mm α) : Mm α := fun h => match m h with
  | .exn _ _ => .stuck
  | r => r

/-- a comprehension's own block knows nothing of a caught error -/
def noExc (ρ : Ro) : Ro := ρ.map fun o => match o with
  | some (.exc _) => none
  | o => o
theorem EnvR.noExc {K : PySem.W.Frag} {g : Gh} {H : Hp} {ρ : Ro} {σ : L2.St} (h : EnvR K cz g H ρ σ) : EnvR K none g H (noExc ρ) σ := by
  refine ⟨by unfold MK.noExc; rw [List.length_map]; exact h.1, fun i d e => ?_⟩
  unfold MK.noExc at e
  rw [List.getElem?_map] at e
  cases q : ρ[i]? with
  | none => rw [q] at e; cases e
  | some o =>
    rw [q] at e
    cases o with
    | none => cases e
    | some d' =>
      cases d' with
      | exc x => cases e
      | val d0 => cases e; exact h.2 i _ q
      | ref n => cases e; exact h.2 i _ q
      | rng lo hi => cases e; exact h.2 i _ q
/-- [elt for tg in it if ..]: a list, owned or by value -/
def eLc (o : Bool) (it : Im) (t : Gm) (c : Tm) (e : Em) (vs : List Nat) : Em := fun ρ => mB (it ρ) fun ds => mB (guard (decide (ds.length ≤ 10000))) fun _ => mB (noX (lcLoop t c e (wipeR (noExc ρ) vs) ds)) fun xs => mNew o xs
section
variable {X : Cx} {E : XK} {elt tg it : Expr} {ifs : List Expr} {mi : Im} {t : Gm} {tc : Tm} {te : Em} {pos : Pos} {scope : Scope} {own' : List (Str × Nat)} {o : Bool}
theorem PTswk {ifs : List Expr} {t t' : TT} (h : PTs X ifs t) (w : ∀ σ H Q, t' σ H Q → t σ H Q) : PTs X ifs t' := ⟨fun pins s σ H Q I q => h.run pins s σ H Q I (w σ H Q q)⟩
abbrev MTs (X : Cx) (E : XK) (ifs : List Expr) (m : Tm) : Prop := PTs X ifs (tT X.K (cx X) X.mg E m)
theorem mts_nil : MTs X E [] tYesM := PTswk pts_nil fun σ H Q ⟨g, ρ, S, V, o⟩ => o.pure S
theorem mts_one {c : Expr} (h : MT X E c tc) : MTs X E [c] tc := pts_one h
/-- what the rest of a loop comes to -/
def LoopC (K : PySem.W.Frag) (cz : Cxx) (mg : Mg) (E : XK) (g1 : Gh) (H1 : Hp) (o : Bool) (Q : VK) (acc : List PyData) : Res (List PyData) → Prop
  | .ok xs h' => Out K mg E g1 H1 (mNew o (acc ++ xs) h') fun d g' H' => ∀ v, RSV K cz g' H' v d → Q v H'
  | _ => False
theorem lc_read {vs : List Nat} {σ : L2.St} {H : Hp} {Q : VK} (q : tM X.K (cx X) X.mg E (eLc o mi t tc te vs) σ H Q) : tLc (tI X.K (cx X) X.mg E mi) (tG X.K none X.mg E0 vs t) (tT X.K none X.mg E0 tc) (tM X.K none X.mg E0 te) vs σ H Q := by
  obtain ⟨g, ρ, S, V, out⟩ := q
  refine ⟨g, ρ, S, V, out.bind.mono fun ds g1 H1 S1 L1 o1 J en D hD => ?_⟩
  obtain ⟨c, o1⟩ := guard_of S1 o1.bind
  have hlen := of_decide_eq_true c
  have V1 := V.mono S L1
  have hDl : D ∉ g1.ex := fun z => by have := S1.exm D z; rw [hD] at this; exact this
  -- the whole loop
  have C0 : LoopC X.K (cx X) X.mg E g1 H1 o Q [] (lcLoop t tc te (wipeR (noExc ρ) vs) ds g1.cs) := by
    unfold mB noX at o1
    cases q : lcLoop t tc te (wipeR (noExc ρ) vs) ds g1.cs with
    | ok xs h' => rw [q] at o1; exact o1
    | exn x h' => rw [q] at o1; exact o1.elim
    | stuck => rw [q] at o1; exact o1.elim
  let Wp : Nat → Hp → Prop := fun i H => i ≤ ds.length ∧ ∃ g vacc acc, Sim X.K g H ∧ g.ex = D :: g1.ex ∧ Le g1 H1 ⟨g.mu, g.cs, g1.ex⟩ H ∧ H D = some (.lst vacc) ∧ RDs X.K g H vacc acc ∧ acc.length ≤ i ∧
    EnvR X.K none g H (wipeR (noExc ρ) vs) (wipe σ vs) ∧ Kp X.K g1 H1 g H ∧ LoopC X.K (cx X) X.mg E g1 H1 o Q acc (lcLoop t tc te (wipeR (noExc ρ) vs) (ds.drop i) g.cs)
  have K0 : Kp X.K g1 H1 ⟨g1.mu, g1.cs, D :: g1.ex⟩ (upd H1 D (.lst [])) := ⟨fun h => h.up S1 hD, fun h => upd_grow hD _ _ h⟩
  refine ⟨fun i m H => m = ds.length - i ∧ Wp i H, ⟨ds.length, by simp, Nat.zero_le _, ⟨g1.mu, g1.cs, D :: g1.ex⟩, [], [], S1.more hD trivial, rfl, (S1.laid hD).2, upd_same, .nil, Nat.zero_le _, (V1.noExc.wipe vs).up S1 hD, K0, C0⟩, ?_⟩
  rintro i m H2 ⟨rfl, hi, g2, vacc, acc, S2, x2, L2, d2, r2, a2, V2, K2, C2⟩
  have hDx : D ∈ g2.ex := by rw [x2]; exact List.mem_cons_self
  have en2 := en g2 H2 S2 K2
  by_cases hlt : i < ds.length
  · right
    have hd : ds[i]? = some ds[i] := List.getElem?_eq_getElem hlt
    obtain ⟨go, yl⟩ := en2.1 i _ hd
    rw [List.drop_eq_getElem_cons hlt] at C2
    refine ⟨go, fun H' => Wp (i + 1) H', fun H' q => ⟨ds.length - (i + 1), by omega, rfl, q⟩, fun x H3 y3 => ?_⟩
    obtain ⟨S3, L3, r3⟩ := yl x H3 y3
    have nx : ∀ {x h}, ¬ LoopC X.K (cx X) X.mg E g1 H1 o Q acc (.exn x h) := fun z => z
    have ns : ¬ LoopC X.K (cx X) X.mg E g1 H1 o Q acc .stuck := fun z => z
    unfold lcLoop at C2
    refine ⟨g2, wipeR (noExc ρ) vs, .val ds[i], S3, V2.mono S2 L3, r3, (Out.of (fun _ _ => nx) ns C2).mono fun ρ4 g4 H4 S4 L4 C4 σ4 V4 w4 => ?_⟩
    refine ⟨w4.trans wipe_wipe, g4, ρ4, S4, V4, (Out.of (fun _ _ => nx) ns C4).mono fun b g5 H5 S5 L5 C5 => ?_⟩
    have L35 := L3.trans (L4.trans L5)
    cases b with
    | false =>
      refine iteF ?_
      have d5 : H5 D = some (.lst vacc) := (L35.exk D hDx).trans d2
      exact ⟨hlt, g5, vacc, acc, S5, L35.exe.trans x2, L2.dropTrans rfl hD x2 L35, d5, r2.mono S2 L35, by omega, V2.mono S2 L35, K2.trans (.of S2 L35), C5⟩
    | true =>
      refine iteT ?_
      refine ⟨g5, ρ4, S5, V4.mono S4 L5, (Out.of (fun _ _ => nx) ns C5).mono fun y g6 H6 S6 L6 C6 v rv => ?_⟩
      have L36 := L35.trans L6
      have d6 : H6 D = some (.lst vacc) := (L36.exk D hDx).trans d2
      have x6 := L36.exe.trans x2
      have hDx6 : D ∈ g6.ex := by rw [x6]; exact List.mem_cons_self
      have r6 := r2.mono S2 L36
      refine ⟨vacc, d6, ?_, ?_⟩
      · rw [r6.length, sizeLine_eq]; omega
      · cases y with
        | ref n => exact C6.elim
        | rng l h => exact C6.elim
        | exc _ => exact C6.elim
        | val yd =>
          have C6 : LoopC X.K (cx X) X.mg E g1 H1 o Q acc (mB (lcLoop t tc te (wipeR (noExc ρ) vs) (ds.drop (i + 1))) (fun r => mP (yd :: r)) g6.cs) := C6
          refine ⟨hlt, g6, vacc ++ [v], acc ++ [yd], S6.exw hDx6 ⟨_, d6⟩ trivial, x6, ?_, upd_same, (r6.exw S6 hDx6).append (RDs.one (RD.exw S6 hDx6 rv)), by rw [List.length_append]; simp; omega, (V2.mono S2 L36).exw S6 hDx6, ?_, ?_⟩
          · have L26 := L2.dropTrans rfl hD x2 L36
            refine ⟨L26.pre, fun a u h t n => ?_, rfl, fun a ha => ?_, fun a h => ?_⟩
            · rw [upd_ne (ne_of_none h hD)]; exact L26.keep a u h t n
            · rw [upd_ne (show a ≠ D from fun z => hDl (by rw [← z]; exact ha))]; exact L26.exk a ha
            · rw [upd_ne (fun z => h.some (by rw [z]; exact hD))]; exact L26.trk a h
          · refine ⟨fun h => RD.exw S6 hDx6 ((K2.trans (.of S2 L36)).rd h), fun {a lo hi} h => ?_⟩
            rw [upd_ne (ne_of_none h hD)]
            exact (K2.trans (.of S2 L36)).rng h
          · unfold mB at C6
            cases q : lcLoop t tc te (wipeR (noExc ρ) vs) (ds.drop (i + 1)) g6.cs with
            | ok xs h' =>
              rw [q] at C6
              have C6 : Out X.K X.mg E g1 H1 (mNew o (acc ++ (yd :: xs)) h') fun d g' H' => ∀ v, RSV X.K (cx X) g' H' v d → Q v H' := C6
              show Out X.K X.mg E g1 H1 (mNew o ((acc ++ [yd]) ++ xs) h') fun d g' H' => ∀ v, RSV X.K (cx X) g' H' v d → Q v H'
              rw [List.append_assoc]
              exact C6
            | exn x h' => rw [q] at C6; exact C6.elim
            | stuck => rw [q] at C6; exact C6.elim
  · left
    have e : i = ds.length := by omega
    rw [e, List.drop_length] at C2
    refine ⟨by rw [e]; exact en2.2, ?_⟩
    have C2 : Out X.K X.mg E g1 H1 (mNew o (acc ++ []) g2.cs) fun d g' H' => ∀ v, RSV X.K (cx X) g' H' v d → Q v H' := C2
    rw [List.append_nil] at C2
    cases o with
    | true =>
      refine C2 ⟨g2.mu ++ [D], g2.cs ++ [some (.lst acc)], g1.ex⟩ H2 rfl (S2.adopt x2 hDl d2 r2) ⟨fun n a h => ?_, fun a u h t n => ?_, rfl, L2.exk, L2.trk⟩ _ ⟨D, rfl, ?_⟩
      · show (g2.mu ++ [D])[n]? = some a
        have q := L2.pre n a h
        have q : g2.mu[n]? = some a := q
        rw [List.getElem?_append_left (List.getElem?_eq_some_iff.mp q).1]
        exact q
      · obtain ⟨h1, h2⟩ := L2.keep a u h t n
        exact ⟨h1, fun q => (own_drop x2 (adopt_own S2 x2 q)).elim h2 (ne_of_none h hD)⟩
      · show (g2.mu ++ [D])[g2.cs.length]? = some D
        rw [← S2.len, List.getElem?_append_right (Nat.le_refl _), Nat.sub_self]
        rfl
    | false =>
      refine C2 ⟨g2.mu, g2.cs, g1.ex⟩ H2 rfl (S2.less x2) L2 _ (RD.lst ⟨.inl d2, fun q => ?_⟩ (r2.less x2))
      rcases q with ⟨n, c', _, h2⟩ | q
      · exact S2.exn n D h2 hDx
      · exact hDl q
theorem me_lc (hc : X.calm = true) (hN : X.N.Nodup) (hi : MI X E tg it mi) (ok : BlkOk X.N X.env.scope scope own')
    (hg : ∀ (s : Shared) (H : Hp) (C : Addr) (cl : List (Str × Addr)) (fp : List Addr), MG (X.blk s H scope (compEnvC scope cl C X.env) fp) E0 (own'.map (·.2)) tg t)
    (ht : ∀ (s : Shared) (H : Hp) (C : Addr) (cl : List (Str × Addr)) (fp : List Addr), MTs (X.blk s H scope (compEnvC scope cl C X.env) fp) E0 ifs tc)
    (he : ∀ (s : Shared) (H : Hp) (C : Addr) (cl : List (Str × Addr)) (fp : List Addr), ME (X.blk s H scope (compEnvC scope cl C X.env) fp) E0 elt te)
    (hs : ∀ x, foldedSetIterable it X.env x = pure x) : ME X E (.ListComp elt [⟨tg, it, ifs, 0⟩] scope pos) (eLc o mi t tc te (own'.map (·.2))) := by
  exact PEwk (pe_lc (g := tG X.K none X.mg E0 (own'.map fun p : Str × Nat => p.2) t) (tt := tT X.K none X.mg E0 tc) (te := tM X.K none X.mg E0 te) hc hN hi ok hg ht he hs) fun σ H Q q => lc_read q
end
end MK
set_option Elab.async false
set_option linter.all false
set_option maxRecDepth 100000
set_option maxHeartbeats 2000000
/-! MKg: what is walked: lists, tuples, ranges, enumerate, zip. -/
namespace MK
open PySem PySem.Spec PyProof.Rows L2
variable {cz : Cxx} [Tb]

/-! ### one source: a list or a tuple -/
def SeqS (b : Bool) (h : Heap) (a : Addr) (its : Array Value) : Prop := match b with
  | true => h.IsTuple a its
  | false => h.IsList a its
def IterS (b : Bool) (h : Heap) (it a : Addr) (i : Nat) : Prop := match b with
  | true => h.IsTupleIter it a i
  | false => h.IsListIter it a i
def iterO (b : Bool) (a : Addr) : Obj := match b with
  | true => { cls := .type "tuple_iterator", data := .fields #[.ref a, .int 0 0] }
  | false => { cls := .type "list_iterator", data := .fields #[.ref a, .int 0 0] }
def SqS (b : Bool) (K : PySem.W.Frag) (H : Hp) (a : Addr) (xs : List V) : Prop := match b with
  | true => SqT K H a xs
  | false => SqL K H a xs
theorem draws_s {P : Program} {w : World} {A : Around} (hh : A.handled = none) (b : Bool) (it a : Addr) (hne : a ≠ it) (its : Array Value) : Draws P w A it [it, a] its.size (fun i v => its[i]? = some v) (fun i h => IterS b h it a i ∧ SeqS b h a its) := by
  cases b with
  | true => exact Draws.tuple hh it a hne its
  | false => exact Draws.list hh it a hne its
theorem begins_s (b : Bool) (a : Addr) (its : Array Value) : Begins (.ref a) (iterO b a) fun h => SeqS b h a its := by
  cases b with
  | true => exact begins_tuple a its
  | false => exact begins_list a its
theorem iter_s {b : Bool} {h : Heap} {it a : Addr} (e : h.get? it = some (iterO b a)) : IterS b h it a 0 := by
  cases b with
  | true => exact ⟨_, e, rfl, rfl⟩
  | false => exact ⟨_, e, rfl, rfl⟩
theorem IterS.keep {b : Bool} {h h' : Heap} {it a : Addr} {i : Nat} (x : IterS b h it a i) (k : ∀ o, h.get? it = some o → h'.get? it = some o) : IterS b h' it a i := by
  cases b with
  | true => exact Heap.IsTupleIter.at x k
  | false => exact Heap.IsListIter.at x k
theorem IterS.obj {b : Bool} {h : Heap} {it a : Addr} {i : Nat} (x : IterS b h it a i) : ∃ o, h.get? it = some o ∧ ∀ v, o.data ≠ .cell v := by
  cases b with
  | true => obtain ⟨o, e, _, d⟩ := x; exact ⟨o, e, fun v q => by rw [d] at q; cases q⟩
  | false => obtain ⟨o, e, _, d⟩ := x; exact ⟨o, e, fun v q => by rw [d] at q; cases q⟩
section
variable {X : Cx} {pins : List (Addr × Obj)} {σ : L2.St} {H : Hp} {s : Shared}
theorem sq_items {b : Bool} {a : Addr} {xs : List V} (I : Inv X pins σ H s) (h : SqS b X.K H a xs) : ∃ its : List Value, Vals xs its ∧ SeqS b s.heap a its.toArray := by
  cases b with
  | true => obtain ⟨its, rv, p, _⟩ := I.tuple h; exact ⟨its, rv, p⟩
  | false => obtain ⟨its, rv, p, _⟩ := I.list h; exact ⟨its, rv, p.isList⟩
theorem sq_inj {b : Bool} {a : Addr} {xs ys : List V} (I : Inv X pins σ H s) (h : SqS b X.K H a xs) (h' : SqS b X.K H a ys) : xs = ys := by
  cases b with
  | true => exact I.tuple_inj h h'
  | false => exact I.list_inj h h'
theorem seq_lt {b : Bool} {h : Heap} {a : Addr} {its : Array Value} (x : SeqS b h a its) : a < h.objs.size := by
  cases b with
  | true => exact IsTup.lt x
  | false => obtain ⟨o, e, _⟩ := x; exact Heap.lt_size e
end
/-- enumerate over one source -/
def IteS (K : PySem.W.Frag) (b : Bool) (a : Addr) : It :=
  ⟨fun i H => ∃ (xs : List V) (x : V), SqS b K H a xs ∧ xs[i]? = some x, fun i H v H' => ∃ T x, v = .ref T ∧ H T = none ∧ H' = upd H T (.tup [.int (i : Nat), x]) ∧ ∀ xs, SqS b K H a xs → xs[i]? = some x, fun i H => ∃ xs : List V, SqS b K H a xs ∧ xs.length = i⟩
theorem turn_enumS {P : Program} {w : World} {K : PySem.W.Frag} {elts : List Expr} {kk : Nat} {tpos : Pos} (b : Bool) (a e it : Addr) (hei : e ≠ it) (hea : e ≠ a) (hia : it ≠ a) :
    Turn P w K (.Tuple elts kk tpos) (IteS K b a) [e, it] e (fun i h => (∃ old, IsEnum h e it ((0 : Int) + (i : Int)) old) ∧ IterS b h it a i) where
  mem := by simp
  obj := fun i h st c hc => by
    obtain ⟨⟨old, he⟩, hi⟩ := st
    have e' : c = e ∨ c = it := by simpa using hc
    rcases e' with z | z
    · rw [z]; exact ⟨_, he, fun v q => nomatch q⟩
    · rw [z]; exact hi.obj
  keep := fun i h h' st k => ⟨let ⟨old, he⟩ := st.1; ⟨old, k e (by simp) _ he⟩, st.2.keep fun o q => k it (by simp) o q⟩
  item := by
    intro X hP hw hK hc i pins s σ H E I hf st hg
    subst hP hw hK
    obtain ⟨xs, x, hq, hx⟩ := hg
    obtain ⟨its, rv, p⟩ := sq_items I hq
    obtain ⟨u, hu, ru⟩ := rv.get hx
    have W := GoesN.enumFrom (elts := elts) (x1 := kk) (pos := tpos) 0 (draws_s (P := X.prog) (w := X.w) (A := X.A.in1) (I.ok.hd hc) b it a (Ne.symm hia) its.toArray) e hei (by simp [hei, hea]) (by simp)
    have hi : i < its.toArray.size := by
      have := (List.getElem?_eq_some_iff.mp hu).1
      simpa using this
    refine W.goes i s _ E hi ⟨st.1, st.2, p⟩ fun v h' tk hY st' hk htk => ?_
    obtain ⟨T, t, y, rfl, hT, hy, hIs⟩ := hY
    have ey : y = u := by
      have hu' : its.toArray[i]? = some u := by simpa using hu
      rw [hu'] at hy
      exact (Option.some.inj hy).symm
    subst ey
    have hTn : H T = none := I.hok.fresh hT
    have new : ObjOk X.prog X.w (upd H T (.tup [.int (i : Nat), x])) h' T (.tup [.int (i : Nat), x]) :=
      ⟨by show 2 ≤ sizeLine; decide, [.int ((0 : Int) + (i : Int)) t, y], .cons ⟨t, by simp⟩ (.cons ru .nil), hIs⟩
    have I1 : Inv X pins σ (upd H T (.tup [.int (i : Nat), x])) { s with heap := h', toks := tk } := I.turnedNew (ch := [e, it]) (fun c ob hb q => hk c ob (by simpa using hb) q) hf hT new
    refine ⟨.ref T, _, I1, rfl, ⟨T, x, rfl, hTn, rfl, fun ys hy => by rw [sq_inj I hy hq]; exact hx⟩, ⟨st'.1, st'.2.1⟩, fun c hcm => ?_⟩
    have hne : c ≠ T := by
      intro z
      rw [z] at hcm
      have e' : T = e ∨ T = it := by simpa using hcm
      rcases e' with q | q
      · obtain ⟨old, he⟩ := st.1
        have := Heap.lt_size he
        rw [q] at hT; exact absurd (Nat.lt_of_lt_of_le this hT) (Nat.lt_irrefl _)
      · obtain ⟨o, he, _⟩ := st.2.obj
        have := Heap.lt_size he
        rw [q] at hT; exact absurd (Nat.lt_of_lt_of_le this hT) (Nat.lt_irrefl _)
    rw [upd_ne hne]
    exact (hf c hcm).1
  done := by
    intro X hP hw hK hc i pins s σ H E I hf st hg
    subst hP hw hK
    obtain ⟨xs, hq, hx⟩ := hg
    obtain ⟨its, rv, p⟩ := sq_items I hq
    have W := GoesN.enumFrom (elts := elts) (x1 := kk) (pos := tpos) 0 (draws_s (P := X.prog) (w := X.w) (A := X.A.in1) (I.ok.hd hc) b it a (Ne.symm hia) its.toArray) e hei (by simp [hei, hea]) (by simp)
    have hi : i = its.toArray.size := by rw [← hx, rv.length]; simp
    subst hi
    exact W.stops s _ E ⟨st.1, st.2, p⟩ fun h' tk hk htk => I.turnedL (ch := [e, it]) (fun c o hb q => hk c o (by simpa using hb) q) hf
  self := fun A i s Q E st h => let ⟨⟨_, he⟩, _⟩ := st; wpAny_pyIter_enum he h
/-- zip over two sources -/
def ItzS (K : PySem.W.Frag) (b1 b2 : Bool) (a1 a2 : Addr) : It :=
  ⟨fun i H => ∃ (xs ys : List V) (x y : V), SqS b1 K H a1 xs ∧ SqS b2 K H a2 ys ∧ xs[i]? = some x ∧ ys[i]? = some y,
    fun i H v H' => ∃ T x y, v = .ref T ∧ H T = none ∧ H' = upd H T (.tup [x, y]) ∧ (∀ xs, SqS b1 K H a1 xs → xs[i]? = some x) ∧ ∀ ys, SqS b2 K H a2 ys → ys[i]? = some y,
    fun i H => ∃ xs ys : List V, SqS b1 K H a1 xs ∧ SqS b2 K H a2 ys ∧ min xs.length ys.length = i⟩
theorem turn_zipS {P : Program} {w : World} {K : PySem.W.Frag} {elts : List Expr} {kk : Nat} {tpos : Pos} (b1 b2 : Bool) (a1 a2 z TI TO i1 i2 : Addr) (S : ZipSep2 z TI TO i1 i2 [i1, a1] [i2, a2]) (h1 : a1 ≠ i1) (h2 : a2 ≠ i2) :
    Turn P w K (.Tuple elts kk tpos) (ItzS K b1 b2 a1 a2) [z, TI, TO, i1, i2] z (fun i h => IsZip h z TI TO .none ∧ IsTupOf2 h TI (.ref i1) (.ref i2) ∧ (∃ x y, IsTupOf2 h TO x y) ∧ IterS b1 h i1 a1 i ∧ IterS b2 h i2 a2 i) where
  mem := by simp
  obj := fun i h st c hc => by
    obtain ⟨hz, hTI, ⟨x, y, hTO⟩, g1, g2⟩ := st
    have e' : c = z ∨ c = TI ∨ c = TO ∨ c = i1 ∨ c = i2 := by simpa using hc
    rcases e' with q | q | q | q | q
    · rw [q]; exact ⟨_, hz, fun v q => nomatch q⟩
    · rw [q]; exact ⟨_, hTI, fun v q => nomatch q⟩
    · rw [q]; exact ⟨_, hTO, fun v q => nomatch q⟩
    · rw [q]; exact g1.obj
    · rw [q]; exact g2.obj
  keep := fun i h h' st k => by
    obtain ⟨hz, hTI, ⟨x, y, hTO⟩, g1, g2⟩ := st
    exact ⟨k z (by simp) _ hz, k TI (by simp) _ hTI, ⟨x, y, k TO (by simp) _ hTO⟩, g1.keep fun o q => k i1 (by simp) o q, g2.keep fun o q => k i2 (by simp) o q⟩
  item := by
    intro X hP hw hK hc i pins s σ H E I hf st hg
    subst hP hw hK
    obtain ⟨xs, ys, x, y, hqx, hqy, hx, hy⟩ := hg
    obtain ⟨its, rv, p⟩ := sq_items I hqx
    obtain ⟨its2, rv2, p2⟩ := sq_items I hqy
    obtain ⟨u, hu, ru⟩ := rv.get hx
    obtain ⟨u2, hu2, ru2⟩ := rv2.get hy
    have W := GoesN.zip2 (elts := elts) (x1 := kk) (pos := tpos) S (draws_s (P := X.prog) (w := X.w) (A := X.A.in1) (I.ok.hd hc) b1 i1 a1 h1 its.toArray) (draws_s (P := X.prog) (w := X.w) (A := X.A.in1) (I.ok.hd hc) b2 i2 a2 h2 its2.toArray)
    have hi : i < min its.toArray.size its2.toArray.size := by
      have q1 := (List.getElem?_eq_some_iff.mp hu).1
      have q2 := (List.getElem?_eq_some_iff.mp hu2).1
      rw [List.size_toArray, List.size_toArray]
      omega
    refine W.goes i s _ E hi ⟨st.1, st.2.1, st.2.2.1, ⟨st.2.2.2.1, p⟩, ⟨st.2.2.2.2, p2⟩⟩ fun v h' tk hY st' hk htk => ?_
    obtain ⟨T, v1, v2, rfl, hT, hv1, hv2, hIs⟩ := hY
    have e1 : v1 = u := by
      have hu' : its.toArray[i]? = some u := by simpa using hu
      rw [hu'] at hv1
      exact (Option.some.inj hv1).symm
    have e2 : v2 = u2 := by
      have hu' : its2.toArray[i]? = some u2 := by simpa using hu2
      rw [hu'] at hv2
      exact (Option.some.inj hv2).symm
    subst e1 e2
    have hTn : H T = none := I.hok.fresh hT
    have new : ObjOk X.prog X.w (upd H T (.tup [x, y])) h' T (.tup [x, y]) := ⟨by show 2 ≤ sizeLine; decide, [v1, v2], .cons ru (.cons ru2 .nil), hIs⟩
    have I1 : Inv X pins σ (upd H T (.tup [x, y])) { s with heap := h', toks := tk } := I.turnedNew (ch := [z, TI, TO, i1, i2]) (fun c ob hb q => hk c ob (fun q2 => hb (by simp at q2 ⊢; rcases q2 with q2 | q2 | q2 | q2 <;> simp [q2])) q) hf hT new
    refine ⟨.ref T, _, I1, rfl, ⟨T, x, y, rfl, hTn, rfl, fun ys hy => by rw [sq_inj I hy hqx]; exact hx, fun l hl => by rw [sq_inj I hl hqy]; exact hy⟩, ⟨st'.1, st'.2.1, st'.2.2.1, st'.2.2.2.1.1, st'.2.2.2.2.1⟩, fun c hcm => ?_⟩
    have hne : c ≠ T := by
      intro q0
      obtain ⟨hz, hTI, ⟨x, y, hTO⟩, g1, g2⟩ := st
      obtain ⟨o1, ho1, _⟩ := g1.obj
      obtain ⟨o2, ho2, _⟩ := g2.obj
      have e' : c = z ∨ c = TI ∨ c = TO ∨ c = i1 ∨ c = i2 := by simpa using hcm
      have lt : c < s.heap.objs.size := by
        rcases e' with q | q | q | q | q
        · rw [q]; exact Heap.lt_size hz
        · rw [q]; exact Heap.lt_size hTI
        · rw [q]; exact Heap.lt_size hTO
        · rw [q]; exact Heap.lt_size ho1
        · rw [q]; exact Heap.lt_size ho2
      rw [q0] at lt
      exact absurd (Nat.lt_of_lt_of_le lt hT) (Nat.lt_irrefl _)
    rw [upd_ne hne]
    exact (hf c hcm).1
  done := by
    intro X hP hw hK hc i pins s σ H E I hf st hg
    subst hP hw hK
    obtain ⟨xs, ys, hqx, hqy, hx⟩ := hg
    obtain ⟨its, rv, p⟩ := sq_items I hqx
    obtain ⟨its2, rv2, p2⟩ := sq_items I hqy
    have W := GoesN.zip2 (elts := elts) (x1 := kk) (pos := tpos) S (draws_s (P := X.prog) (w := X.w) (A := X.A.in1) (I.ok.hd hc) b1 i1 a1 h1 its.toArray) (draws_s (P := X.prog) (w := X.w) (A := X.A.in1) (I.ok.hd hc) b2 i2 a2 h2 its2.toArray)
    have hi : i = min its.toArray.size its2.toArray.size := by rw [← hx, rv.length, rv2.length]; simp
    subst hi
    exact W.stops s _ E ⟨st.1, st.2.1, st.2.2.1, ⟨st.2.2.2.1, p⟩, ⟨st.2.2.2.2, p2⟩⟩ fun h' tk hk htk => I.turnedL (ch := [z, TI, TO, i1, i2]) (fun c o hb q => hk c o (fun q2 => hb (by simp at q2 ⊢; rcases q2 with q2 | q2 | q2 | q2 <;> simp [q2])) q) hf
  self := fun A i s Q E st h => wpAny_pyIter_zip st.1 h

/-- zip over three sources -/
def ItzS3 (K : PySem.W.Frag) (b1 b2 b3 : Bool) (a1 a2 a3 : Addr) : It :=
  ⟨fun i H => ∃ (xs ys zs : List V) (x y z : V), SqS b1 K H a1 xs ∧ SqS b2 K H a2 ys ∧ SqS b3 K H a3 zs ∧ xs[i]? = some x ∧ ys[i]? = some y ∧ zs[i]? = some z,
    fun i H v H' => ∃ T x y z, v = .ref T ∧ H T = none ∧ H' = upd H T (.tup [x, y, z]) ∧ (∀ xs, SqS b1 K H a1 xs → xs[i]? = some x) ∧ (∀ ys, SqS b2 K H a2 ys → ys[i]? = some y) ∧ ∀ ys, SqS b3 K H a3 ys → ys[i]? = some z,
    fun i H => ∃ xs ys zs : List V, SqS b1 K H a1 xs ∧ SqS b2 K H a2 ys ∧ SqS b3 K H a3 zs ∧ min (min xs.length ys.length) zs.length = i⟩
theorem turn_zipS3 {P : Program} {w : World} {K : PySem.W.Frag} {elts : List Expr} {kk : Nat} {tpos : Pos} (b1 b2 b3 : Bool) (a1 a2 a3 z TI TO i1 i2 i3 : Addr) (S : ZipSep3 z TI TO i1 i2 i3 [i1, a1] [i2, a2] [i3, a3]) (h1 : a1 ≠ i1) (h2 : a2 ≠ i2) (h3 : a3 ≠ i3) :
    Turn P w K (.Tuple elts kk tpos) (ItzS3 K b1 b2 b3 a1 a2 a3) [z, TI, TO, i1, i2, i3] z (fun i h => IsZip h z TI TO .none ∧ IsTupOf3 h TI (.ref i1) (.ref i2) (.ref i3) ∧ (∃ x y u, IsTupOf3 h TO x y u) ∧ IterS b1 h i1 a1 i ∧ IterS b2 h i2 a2 i ∧ IterS b3 h i3 a3 i) where
  mem := by simp
  obj := fun i h st c hc => by
    obtain ⟨hz, hTI, ⟨x, y, u, hTO⟩, g1, g2, g3⟩ := st
    have e' : c = z ∨ c = TI ∨ c = TO ∨ c = i1 ∨ c = i2 ∨ c = i3 := by simpa using hc
    rcases e' with q | q | q | q | q | q
    · rw [q]; exact ⟨_, hz, fun v q => nomatch q⟩
    · rw [q]; exact ⟨_, hTI, fun v q => nomatch q⟩
    · rw [q]; exact ⟨_, hTO, fun v q => nomatch q⟩
    · rw [q]; exact g1.obj
    · rw [q]; exact g2.obj
    · rw [q]; exact g3.obj
  keep := fun i h h' st k => by
    obtain ⟨hz, hTI, ⟨x, y, u, hTO⟩, g1, g2, g3⟩ := st
    exact ⟨k z (by simp) _ hz, k TI (by simp) _ hTI, ⟨x, y, u, k TO (by simp) _ hTO⟩, g1.keep fun o q => k i1 (by simp) o q, g2.keep fun o q => k i2 (by simp) o q, g3.keep fun o q => k i3 (by simp) o q⟩
  item := by
    intro X hP hw hK hc i pins s σ H E I hf st hg
    subst hP hw hK
    obtain ⟨xs, ys, zs, x, y, zz, hqx, hqy, hqz, hx, hy, hz0⟩ := hg
    obtain ⟨its, rv, p⟩ := sq_items I hqx
    obtain ⟨its2, rv2, p2⟩ := sq_items I hqy
    obtain ⟨its3, rv3, p3⟩ := sq_items I hqz
    obtain ⟨u, hu, ru⟩ := rv.get hx
    obtain ⟨u2, hu2, ru2⟩ := rv2.get hy
    obtain ⟨u3, hu3, ru3⟩ := rv3.get hz0
    have W := GoesN.zip3 (elts := elts) (x1 := kk) (pos := tpos) S (draws_s (P := X.prog) (w := X.w) (A := X.A.in1) (I.ok.hd hc) b1 i1 a1 h1 its.toArray) (draws_s (P := X.prog) (w := X.w) (A := X.A.in1) (I.ok.hd hc) b2 i2 a2 h2 its2.toArray)
      (draws_s (P := X.prog) (w := X.w) (A := X.A.in1) (I.ok.hd hc) b3 i3 a3 h3 its3.toArray)
    have hi : i < min (min its.toArray.size its2.toArray.size) its3.toArray.size := by
      have q1 := (List.getElem?_eq_some_iff.mp hu).1
      have q2 := (List.getElem?_eq_some_iff.mp hu2).1
      have q3 := (List.getElem?_eq_some_iff.mp hu3).1
      rw [List.size_toArray, List.size_toArray, List.size_toArray]
      omega
    refine W.goes i s _ E hi ⟨st.1, st.2.1, st.2.2.1, ⟨st.2.2.2.1, p⟩, ⟨st.2.2.2.2.1, p2⟩, ⟨st.2.2.2.2.2, p3⟩⟩ fun v h' tk hY st' hk htk => ?_
    obtain ⟨T, v1, v2, v3, rfl, hT, hv1, hv2, hv3, hIs⟩ := hY
    have e1 : v1 = u := by
      have hu' : its.toArray[i]? = some u := by simpa using hu
      rw [hu'] at hv1
      exact (Option.some.inj hv1).symm
    have e2 : v2 = u2 := by
      have hu' : its2.toArray[i]? = some u2 := by simpa using hu2
      rw [hu'] at hv2
      exact (Option.some.inj hv2).symm
    have e3 : v3 = u3 := by
      have hu' : its3.toArray[i]? = some u3 := by simpa using hu3
      rw [hu'] at hv3
      exact (Option.some.inj hv3).symm
    subst e1 e2 e3
    have hTn : H T = none := I.hok.fresh hT
    have new : ObjOk X.prog X.w (upd H T (.tup [x, y, zz])) h' T (.tup [x, y, zz]) := ⟨by show 3 ≤ sizeLine; decide, [v1, v2, v3], .cons ru (.cons ru2 (.cons ru3 .nil)), hIs⟩
    have I1 : Inv X pins σ (upd H T (.tup [x, y, zz])) { s with heap := h', toks := tk } := I.turnedNew (ch := [z, TI, TO, i1, i2, i3]) (fun c ob hb q => hk c ob (fun q2 => hb (by simp at q2 ⊢; rcases q2 with q2 | q2 | q2 | q2 | q2 <;> simp [q2])) q) hf hT new
    refine ⟨.ref T, _, I1, rfl, ⟨T, x, y, zz, rfl, hTn, rfl, fun ys hy => by rw [sq_inj I hy hqx]; exact hx, fun l hl => by rw [sq_inj I hl hqy]; exact hy, fun l hl => by rw [sq_inj I hl hqz]; exact hz0⟩, ⟨st'.1, st'.2.1, st'.2.2.1, st'.2.2.2.1.1, st'.2.2.2.2.1.1, st'.2.2.2.2.2.1⟩, fun c hcm => ?_⟩
    have hne : c ≠ T := by
      intro q0
      obtain ⟨hz, hTI, ⟨x, y, u, hTO⟩, g1, g2, g3⟩ := st
      obtain ⟨o1, ho1, _⟩ := g1.obj
      obtain ⟨o2, ho2, _⟩ := g2.obj
      obtain ⟨o3, ho3, _⟩ := g3.obj
      have e' : c = z ∨ c = TI ∨ c = TO ∨ c = i1 ∨ c = i2 ∨ c = i3 := by simpa using hcm
      have lt : c < s.heap.objs.size := by
        rcases e' with q | q | q | q | q | q
        · rw [q]; exact Heap.lt_size hz
        · rw [q]; exact Heap.lt_size hTI
        · rw [q]; exact Heap.lt_size hTO
        · rw [q]; exact Heap.lt_size ho1
        · rw [q]; exact Heap.lt_size ho2
        · rw [q]; exact Heap.lt_size ho3
      rw [q0] at lt
      exact absurd (Nat.lt_of_lt_of_le lt hT) (Nat.lt_irrefl _)
    rw [upd_ne hne]
    exact (hf c hcm).1
  done := by
    intro X hP hw hK hc i pins s σ H E I hf st hg
    subst hP hw hK
    obtain ⟨xs, ys, zs, hqx, hqy, hqz, hx⟩ := hg
    obtain ⟨its, rv, p⟩ := sq_items I hqx
    obtain ⟨its2, rv2, p2⟩ := sq_items I hqy
    obtain ⟨its3, rv3, p3⟩ := sq_items I hqz
    have W := GoesN.zip3 (elts := elts) (x1 := kk) (pos := tpos) S (draws_s (P := X.prog) (w := X.w) (A := X.A.in1) (I.ok.hd hc) b1 i1 a1 h1 its.toArray) (draws_s (P := X.prog) (w := X.w) (A := X.A.in1) (I.ok.hd hc) b2 i2 a2 h2 its2.toArray)
      (draws_s (P := X.prog) (w := X.w) (A := X.A.in1) (I.ok.hd hc) b3 i3 a3 h3 its3.toArray)
    have hi : i = min (min its.toArray.size its2.toArray.size) its3.toArray.size := by rw [← hx, rv.length, rv2.length, rv3.length]; simp
    subst hi
    exact W.stops s _ E ⟨st.1, st.2.1, st.2.2.1, ⟨st.2.2.2.1, p⟩, ⟨st.2.2.2.2.1, p2⟩, ⟨st.2.2.2.2.2, p3⟩⟩ fun h' tk hk htk => I.turnedL (ch := [z, TI, TO, i1, i2, i3]) (fun c o hb q => hk c o (fun q2 => hb (by simp at q2 ⊢; rcases q2 with q2 | q2 | q2 | q2 | q2 <;> simp [q2])) q) hf
  self := fun A i s Q E st h => wpAny_pyIter_zip st.1 h

/-! ### enumerate(v) by its one argument -/
set_option maxHeartbeats 2000000 in
theorem meets_enumerate_new1 {v : Value} {o : Obj} {H : Heap → Prop} (B : Begins v o H) :
    Meets (Builtin.«enumerate.__new__» ⟨[.type "enumerate", v], []⟩) (fun _ R s => H s.heap ∧
      R (.ok (.ret (.ref (s.heap.push o).objs.size))) { s with heap := (s.heap.push o).push { cls := .type "enumerate", data := .fields #[.none, .bool false, .ref s.heap.objs.size, rawInt 0, .none, .none] } }) :=
  .of_wp fun prog w A R s h => by
    obtain ⟨hp, g, d, tk, os⟩ := s; obtain ⟨h1, h⟩ := h
    have hsub := sub_enumerate
    have q1 : ∀ {A' : Around} {E : Value → Shared → Prop} {Q : Value → Shared → Prop}, Q (.ref hp.objs.size) ⟨hp.push o, g, d, tk, os⟩ → wpAny (model prog w) A' (pyIter v) Q E ⟨hp, g, d, tk, os⟩ :=
      fun q => B.iter prog w _ _ ⟨hp, g, d, tk, os⟩ _ h1 q
    wp_walk using q1
    refine wpAny_stack_any fun st => wpAny_pure ?_
    split
    · rename_i c _ _ _ _ _
      cases (c == Value.type "enumerate")
      · wp_walk using q1
        exact ⟨_, rfl, h⟩
      · wp_walk using q1
        exact ⟨_, rfl, h⟩
    · wp_walk using q1
      exact ⟨_, rfl, h⟩
theorem enum_begins1 {prog : Program} {w : World} {A : Around} {E : Value → Shared → Prop} {s : Shared} {v : Value} {o : Obj} {H : Heap → Prop} {Q : Value → Shared → Prop} (B : Begins v o H) (h1 : H s.heap)
    (h : ∀ h', IsEnum h' (s.heap.objs.size + 1) s.heap.objs.size 0 .none → h'.get? s.heap.objs.size = some o → h'.objs.size = s.heap.objs.size + 2 →
      (∀ b o, s.heap.get? b = some o → h'.get? b = some o) → Q (.ref (s.heap.objs.size + 1)) { s with heap := h' }) :
    wpAny (model prog w) A (call (.type "enumerate") [v]) Q E s := by
  refine callType_new F.called_enumerate (by decide) (F.typeCall_enumerate_1 _) (F.newCall_enumerate_1 _) (fun obj => F.args_object_init_2 obj _) F.entry_enumerate_new
    (meets_enumerate_new1 B) ⟨h1, ?_⟩
  have hz : (s.heap.push o).objs.size = s.heap.objs.size + 1 := Heap.size_push ..
  show _ ∧ _
  rw [hz]
  have he : IsEnum ((s.heap.push o).push { cls := .type "enumerate", data := .fields #[.none, .bool false, .ref s.heap.objs.size, rawInt 0, .none, .none] }) (s.heap.objs.size + 1) s.heap.objs.size 0 .none := by
    have := Heap.get?_push_size (s.heap.push o) (o := { cls := .type "enumerate", data := .fields #[.none, .bool false, .ref s.heap.objs.size, rawInt 0, .none, .none] }) rfl
    rw [hz] at this; exact this
  refine ⟨⟨_, he, rfl⟩, h _ he (Heap.get?_push_of_some _ (Heap.get?_push_size _ B.free)) (by rw [Heap.size_push, hz]) fun b o x => Heap.get?_push_of_some _ (Heap.get?_push_of_some _ x)⟩
end MK
set_option Elab.async false
set_option linter.all false
set_option maxRecDepth 100000
set_option maxHeartbeats 2000000
/-! MKh: the rules for what is walked; isinstance; calls and defs. -/
namespace MK
open PySem PySem.Spec PyProof.Rows L2
variable {cz : Cxx} [Tb]

def ItsS (K : PySem.W.Frag) (b : Bool) (a : Addr) : It := match b with
  | true => Itt K a
  | false => Itl K a
section
variable {X : Cx} {tg e e1 e2 e3 : Expr} {elts : List Expr} {kk : Nat} {tpos p pos : Pos} {tl : TE} {ta : TA}
theorem pi_src (hl : PE X e tl) : PI X tg e (fun σ H R => tl σ H fun x H1 => ∃ b a xs, x = .ref a ∧ SqS b X.K H1 a xs ∧ R (ItsS X.K b a) H1) := by
  refine ⟨fun pins s σ H R I h => ?_⟩
  refine thn (hl.run pins s σ H _ I h) fun v s1 ⟨x, H1, I1, r1, b, a, xs, ex, hq, q⟩ => ?_
  subst ex
  obtain rfl : v = Value.ref a := r1
  have hfp : ∀ b ∈ [s1.heap.objs.size], FpOk X pins H1 b := fun b hb => by
    have e : b = s1.heap.objs.size := by simpa using hb
    subst e
    exact I1.fpOk (Nat.le_refl _) (I1.hok.fresh (Nat.le_refl _))
  cases b with
  | true =>
    obtain ⟨its, rv, p, hz⟩ := I1.tuple hq
    refine wpAny_pyIter_tuple (show s1.heap.IsTuple a its.toArray from p) ?_
    exact ⟨s1.heap.objs.size, [s1.heap.objs.size], _, _, H1, rfl, I1.kept (t' := s1.toks) fun b o e => Heap.get?_push_of_some _ e, turn_tuple a _, ⟨_, Heap.get?_push_size _ rfl, rfl, rfl⟩, hfp, q⟩
  | false =>
    obtain ⟨its, rv, p, hz⟩ := I1.list hq
    refine wpAny_pyIter_list p.isList ?_
    exact ⟨s1.heap.objs.size, [s1.heap.objs.size], _, _, H1, rfl, I1.kept (t' := s1.toks) fun b o e => Heap.get?_push_of_some _ e, turn_list a _, ⟨_, Heap.get?_push_size _ rfl, rfl, rfl⟩, hfp, q⟩
theorem pi_enumS (hg : Gl X "enumerate") (hm : X.mg "enumerate" = none) (ha : PA X [e] ta) (hs : starEach [e] X.env = [(false, eval e X.env)]) :
    PI X (.Tuple elts kk tpos) (.Call (.Name "enumerate" p) [e] [] pos) (fun σ H R => ta σ H fun vs H1 => ∃ b a xs, vs = [.ref a] ∧ SqS b X.K H1 a xs ∧ R (IteS X.K b a) H1) := by
  refine ⟨fun pins s σ H R I h => ?_⟩
  refine Call_ (ld_blt I hg hm boot_enumerate (PyProof.Rows.callWith_type1 (thn (ha.run pos pins s σ H _ I h) fun us s1 ⟨vs, H1, I1, r1, b, a, xs, ex, hq, q⟩ => ?_) hs rfl))
  subst ex
  rw [Vals.ref1 r1]
  obtain ⟨its, rv, p'⟩ := sq_items I1 hq
  have la := seq_lt p'
  refine enum_begins1 (begins_s b a its.toArray) p' fun h' he hit hsz hk => wpAny_pyIter_enum he ?_
  have I2 : Inv X pins σ H1 { s1 with heap := h' } := I1.kept (t' := s1.toks) hk
  refine ⟨s1.heap.objs.size + 1, [s1.heap.objs.size + 1, s1.heap.objs.size], _, _, H1, rfl, I2, turn_enumS b a (s1.heap.objs.size + 1) s1.heap.objs.size (Nat.succ_ne_self _) (Nat.ne_of_gt (Nat.lt_succ_of_lt la)) (Nat.ne_of_gt la), ⟨⟨.none, ?_⟩, iter_s hit⟩, fun c hc => ?_, q⟩
  · exact he
  · have e' : c = s1.heap.objs.size + 1 ∨ c = s1.heap.objs.size := by simpa using hc
    have hle : s1.heap.objs.size ≤ c := by
      rcases e' with z | z
      · rw [z]; exact Nat.le_add_right _ _
      · rw [z]; exact Nat.le_refl _
    exact I1.fpOk hle (I1.hok.fresh hle)
theorem vals_ref2 {a b : Addr} {us : List Value} (r : Vals [V.ref a, V.ref b] us) : us = [.ref a, .ref b] := by
  cases r with
  | cons r1 t =>
    cases t with
    | cons r2 t =>
      cases t
      cases r1
      cases r2
      rfl
theorem vals_ref3 {a b c : Addr} {us : List Value} (r : Vals [V.ref a, V.ref b, V.ref c] us) : us = [.ref a, .ref b, .ref c] := by
  cases r with
  | cons r1 t =>
    cases r1
    rw [vals_ref2 t]
theorem pi_zipS (hg : Gl X "zip") (hm : X.mg "zip" = none) (ha : PA X [e1, e2] ta) (hs : starEach [e1, e2] X.env = (false, eval e1 X.env) :: starEach [e2] X.env) (hpl : (backTo pos (starEach [e2] X.env)).any (·.1) = false) :
    PI X (.Tuple elts kk tpos) (.Call (.Name "zip" p) [e1, e2] [] pos) (fun σ H R => ta σ H fun vs H1 => ∃ b1 b2 a1 a2 xs ys, vs = [.ref a1, .ref a2] ∧ SqS b1 X.K H1 a1 xs ∧ SqS b2 X.K H1 a2 ys ∧ R (ItzS X.K b1 b2 a1 a2) H1) := by
  refine ⟨fun pins s σ H R I h => ?_⟩
  refine Call_ (ld_blt I hg hm PyProof.Rows.boot_zip (PyProof.Rows.callWith_type1 (thn (ha.run pos pins s σ H _ I h) fun us s1 ⟨vs, H1, I1, r1, b1, b2, a1, a2, xs, ys, ex, hqx, hqy, q⟩ => ?_) hs hpl))
  subst ex
  rw [vals_ref2 r1]
  obtain ⟨its, rv, p1⟩ := sq_items I1 hqx
  obtain ⟨its2, rv2, p2⟩ := sq_items I1 hqy
  have l1 := seq_lt p1
  have l2 := seq_lt p2
  refine zip_begins2 (begins_s b1 a1 its.toArray) (begins_s b2 a2 its2.toArray) p1 p2 fun h' hz hTI hTO h1 h2 hsz hk => wpAny_pyIter_zip hz ?_
  have I2 : Inv X pins σ H1 { s1 with heap := h' } := I1.kept (t' := s1.toks) hk
  refine ⟨s1.heap.objs.size + 4, [s1.heap.objs.size + 4, s1.heap.objs.size + 2, s1.heap.objs.size + 3, s1.heap.objs.size, s1.heap.objs.size + 1], _, _, H1, rfl, I2,
    turn_zipS b1 b2 a1 a2 _ _ _ _ _ (zip_sep2 (N := s1.heap.objs.size) (fp1 := [a1]) (fp2 := [a2]) (by simpa using l1) (by simpa using l2)) (Nat.ne_of_lt l1) (Nat.ne_of_lt (Nat.lt_succ_of_lt l2)), ⟨hz, hTI, ⟨_, _, hTO⟩, iter_s h1, iter_s h2⟩, fun c hcm => ?_, q⟩
  have e' : c = s1.heap.objs.size + 4 ∨ c = s1.heap.objs.size + 2 ∨ c = s1.heap.objs.size + 3 ∨ c = s1.heap.objs.size ∨ c = s1.heap.objs.size + 1 := by simpa using hcm
  have hle : s1.heap.objs.size ≤ c := by
    rcases e' with z | z | z | z | z <;> rw [z] <;> first | exact Nat.le_add_right _ _ | exact Nat.le_refl _
  exact I1.fpOk hle (I1.hok.fresh hle)
theorem pi_zipS3 (hg : Gl X "zip") (hm : X.mg "zip" = none) (ha : PA X [e1, e2, e3] ta) (hs : starEach [e1, e2, e3] X.env = (false, eval e1 X.env) :: starEach [e2, e3] X.env) (hpl : (backTo pos (starEach [e2, e3] X.env)).any (·.1) = false) :
    PI X (.Tuple elts kk tpos) (.Call (.Name "zip" p) [e1, e2, e3] [] pos) (fun σ H R => ta σ H fun vs H1 => ∃ b1 b2 b3 a1 a2 a3 xs ys zs, vs = [.ref a1, .ref a2, .ref a3] ∧ SqS b1 X.K H1 a1 xs ∧ SqS b2 X.K H1 a2 ys ∧ SqS b3 X.K H1 a3 zs ∧ R (ItzS3 X.K b1 b2 b3 a1 a2 a3) H1) := by
  refine ⟨fun pins s σ H R I h => ?_⟩
  refine Call_ (ld_blt I hg hm PyProof.Rows.boot_zip (PyProof.Rows.callWith_type1 (thn (ha.run pos pins s σ H _ I h) fun us s1 ⟨vs, H1, I1, r1, b1, b2, b3, a1, a2, a3, xs, ys, zs, ex, hqx, hqy, hqz, q⟩ => ?_) hs hpl))
  subst ex
  rw [vals_ref3 r1]
  obtain ⟨its, rv, p1⟩ := sq_items I1 hqx
  obtain ⟨its2, rv2, p2⟩ := sq_items I1 hqy
  obtain ⟨its3, rv3, p3⟩ := sq_items I1 hqz
  have l1 := seq_lt p1
  have l2 := seq_lt p2
  have l3 := seq_lt p3
  refine zip_begins3 (begins_s b1 a1 its.toArray) (begins_s b2 a2 its2.toArray) (begins_s b3 a3 its3.toArray) p1 p2 p3 fun h' hz hTI hTO h1 h2 h3 hsz hk => wpAny_pyIter_zip hz ?_
  have I2 : Inv X pins σ H1 { s1 with heap := h' } := I1.kept (t' := s1.toks) hk
  refine ⟨s1.heap.objs.size + 5, [s1.heap.objs.size + 5, s1.heap.objs.size + 3, s1.heap.objs.size + 4, s1.heap.objs.size, s1.heap.objs.size + 1, s1.heap.objs.size + 2], _, _, H1, rfl, I2,
    turn_zipS3 b1 b2 b3 a1 a2 a3 _ _ _ _ _ _ (zip_sep3 (N := s1.heap.objs.size) (fp1 := [a1]) (fp2 := [a2]) (fp3 := [a3]) (by simpa using l1) (by simpa using l2) (by simpa using l3)) (Nat.ne_of_lt l1) (Nat.ne_of_lt (Nat.lt_succ_of_lt l2)) (Nat.ne_of_lt (Nat.lt_succ_of_lt (Nat.lt_succ_of_lt l3))),
    ⟨hz, hTI, ⟨_, _, _, hTO⟩, iter_s h1, iter_s h2, iter_s h3⟩, fun c hcm => ?_, q⟩
  have e' : c = s1.heap.objs.size + 5 ∨ c = s1.heap.objs.size + 3 ∨ c = s1.heap.objs.size + 4 ∨ c = s1.heap.objs.size ∨ c = s1.heap.objs.size + 1 ∨ c = s1.heap.objs.size + 2 := by simpa using hcm
  have hle : s1.heap.objs.size ≤ c := by
    rcases e' with z | z | z | z | z | z <;> rw [z] <;> first | exact Nat.le_add_right _ _ | exact Nat.le_refl _
  exact I1.fpOk hle (I1.hok.fresh hle)
/-- a range that stands in a name -/
theorem pi_rngV (hl : PE X e tl) : PI X tg e (fun σ H R => tl σ H fun x H1 => ∃ a lo hi, x = .ref a ∧ H1 a = some (.rng lo hi) ∧ (-(2 ^ 62) ≤ lo ∧ lo < 2 ^ 62 ∧ -(2 ^ 62) ≤ hi ∧ hi < 2 ^ 62) ∧ R (Itr lo (hi - lo).toNat) H1) := by
  refine ⟨fun pins s σ H R I h => ?_⟩
  refine thn (hl.run pins s σ H _ I h) fun v s1 ⟨x, H1, I1, r1, a, lo, hi, ex, hq, ⟨h1, h2, h3, h4⟩, q⟩ => ?_
  subst ex
  obtain rfl : v = Value.ref a := r1
  obtain ⟨t, u, w', hr⟩ := I1.hok a _ hq
  refine wpAny_pyIter_range (show IsRange s1.heap a lo hi 1 t u w' from hr) (small_one h1 h2 h3 h4) ?_
  refine ⟨s1.heap.objs.size, [s1.heap.objs.size], _, _, H1, rfl, I1.kept (t' := s1.toks) fun b o e => Heap.get?_push_of_some _ e, turn_range _ lo (hi - lo).toNat, ?_, fun b hb => ?_, q⟩
  · have e1 : lo + ((0 : Nat) : Int) * 1 = lo := by simp
    have e2 : (((hi - lo).toNat : Nat) : Int) - ((0 : Nat) : Int) = Builtin.Range.rangeSize lo hi 1 := by rw [rangeSize_one]; split <;> omega
    show IsRangeIter _ _ (lo + ((0 : Nat) : Int) * 1) ((((hi - lo).toNat : Nat) : Int) - ((0 : Nat) : Int)) 1
    rw [e1, e2]
    exact Heap.get?_push_size _ rfl
  · have e : b = s1.heap.objs.size := by simpa using hb
    subst e
    exact I1.fpOk (Nat.le_refl _) (I1.hok.fresh (Nat.le_refl _))
end

/-! ### the rules -/
def mIter (d : SV) : Mm (List PyData) := match d with
  | .val (.list xs) => mP xs
  | .val (.tuple xs) => mP xs
  | _ => mStuck
section
variable {K : PySem.W.Frag} {mg : Mg} {E : XK} {g : Gh} {H : Hp}
theorem src_of {d : SV} {v : V} {P : List PyData → Gh → Hp → Prop} (S : Sim K g H) (r : RSV K cz g H v d) (o : Out K mg E g H (mIter d g.cs) P) :
    ∃ b a xs, v = .ref a ∧ P xs g H ∧ ∀ g' H', Kp K g H g' H' → ∃ vs, SqS b K H' a vs ∧ RDs K g' H' vs xs := by
  unfold mIter at o
  split at o
  · cases r with
    | lst h1 h2 =>
      refine ⟨false, _, _, rfl, o.pure S, fun g' H' k => ?_⟩
      have := k.rd (RD.lst h1 h2)
      cases this with
      | lst h3 h4 => exact ⟨_, h3.sq, h4⟩
  · cases r with
    | tup h1 h2 =>
      refine ⟨true, _, _, rfl, o.pure S, fun g' H' k => ?_⟩
      have := k.rd (RD.tup h1 h2)
      cases this with
      | tup h3 h4 => exact ⟨_, h3, h4⟩
  · exact o.stuck.elim
theorem Kp.refl : Kp K g H g H := ⟨fun h => h, fun h => h⟩
theorem ien_src {b : Bool} {a : Addr} {xs : List PyData} (h : ∀ g' H', Kp K g H g' H' → ∃ vs, SqS b K H' a vs ∧ RDs K g' H' vs xs) : IEn K g H (ItsS K b a) xs := by
  intro g' H' S k
  obtain ⟨vs, hq, r⟩ := h g' H' k
  have hl := r.length
  cases b with
  | true =>
    refine ⟨fun i d hd => ?_, ⟨vs, hq, by omega⟩⟩
    obtain ⟨v, hv, rv⟩ := r.get hd
    refine ⟨⟨vs, v, hq, hv⟩, fun x H2 ⟨e, hy⟩ => ?_⟩
    subst e
    have := hy vs hq
    rw [hv] at this
    cases this
    exact ⟨S, Le.refl _ _, rv⟩
  | false =>
    refine ⟨fun i d hd => ?_, ⟨vs, hq, by omega⟩⟩
    obtain ⟨v, hv, rv⟩ := r.get hd
    refine ⟨⟨vs, v, hq, hv⟩, fun x H2 ⟨e, hy⟩ => ?_⟩
    subst e
    have := hy vs hq
    rw [hv] at this
    cases this
    exact ⟨S, Le.refl _ _, rv⟩
def enumD : Nat → List PyData → List PyData
  | _, [] => []
  | n, d :: ds => .tuple [.int n, d] :: enumD (n + 1) ds
theorem enumD_length : ∀ (n : Nat) (ds : List PyData), (enumD n ds).length = ds.length
  | _, [] => rfl
  | n, d :: ds => by unfold enumD; rw [List.length_cons, List.length_cons, enumD_length]
theorem enumD_get : ∀ (n : Nat) (ds : List PyData) (i : Nat) (e : PyData), (enumD n ds)[i]? = some e → ∃ d, ds[i]? = some d ∧ e = .tuple [.int ((n + i : Nat) : Int), d]
  | _, [], _, _, h => by simp [enumD] at h
  | n, d :: ds, 0, e, h => by
    simp [enumD] at h
    exact ⟨d, by simp, by rw [← h]; simp⟩
  | n, d :: ds, i + 1, e, h => by
    simp [enumD] at h
    obtain ⟨d', h1, h2⟩ := enumD_get (n + 1) ds i e h
    exact ⟨d', by simpa using h1, by rw [h2]; congr 4; omega⟩
theorem ien_enum {b : Bool} {a : Addr} {xs : List PyData} (h : ∀ g' H', Kp K g H g' H' → ∃ vs, SqS b K H' a vs ∧ RDs K g' H' vs xs) : IEn K g H (IteS K b a) (enumD 0 xs) := by
  intro g' H' S k
  obtain ⟨vs, hq, r⟩ := h g' H' k
  have hl := r.length
  refine ⟨fun i e he => ?_, ⟨vs, hq, by rw [enumD_length]; exact hl⟩⟩
  obtain ⟨d, hd, ee⟩ := enumD_get 0 xs i e he
  obtain ⟨v, hv, rv⟩ := r.get hd
  refine ⟨⟨vs, v, hq, hv⟩, fun x H2 ⟨T, y, ex, hT, eH, hy⟩ => ?_⟩
  have := hy vs hq
  rw [hv] at this
  cases this
  obtain ⟨S', L'⟩ := S.laid (o := .tup [.int (i : Nat), v]) hT
  subst ex eH ee
  refine ⟨S', L', .tup (.inl (.inl upd_same)) (.cons ?_ (.cons (rv.mono S L') .nil))⟩
  rw [Nat.zero_add]
  exact .int _
def zipD : List PyData → List PyData → List PyData
  | d :: ds, e :: es => .tuple [d, e] :: zipD ds es
  | _, _ => []
theorem zipD_length : ∀ ds es : List PyData, (zipD ds es).length = min ds.length es.length
  | [], _ => by simp [zipD]
  | _ :: _, [] => by simp [zipD]
  | d :: ds, e :: es => by unfold zipD; rw [List.length_cons, List.length_cons, List.length_cons, zipD_length]; omega
theorem zipD_get : ∀ (ds es : List PyData) (i : Nat) (z : PyData), (zipD ds es)[i]? = some z → ∃ d e, ds[i]? = some d ∧ es[i]? = some e ∧ z = .tuple [d, e]
  | [], _, _, _, h => by simp [zipD] at h
  | _ :: _, [], _, _, h => by simp [zipD] at h
  | d :: ds, e :: es, 0, z, h => by simp [zipD] at h; exact ⟨d, e, by simp, by simp, h.symm⟩
  | d :: ds, e :: es, i + 1, z, h => by
    simp [zipD] at h
    obtain ⟨d', e', h1, h2, h3⟩ := zipD_get ds es i z h
    exact ⟨d', e', by simpa using h1, by simpa using h2, h3⟩
theorem ien_zip {b1 b2 : Bool} {a1 a2 : Addr} {xs ys : List PyData} (h1 : ∀ g' H', Kp K g H g' H' → ∃ vs, SqS b1 K H' a1 vs ∧ RDs K g' H' vs xs) (h2 : ∀ g' H', Kp K g H g' H' → ∃ vs, SqS b2 K H' a2 vs ∧ RDs K g' H' vs ys) :
    IEn K g H (ItzS K b1 b2 a1 a2) (zipD xs ys) := by
  intro g' H' S k
  obtain ⟨vs, hq, r⟩ := h1 g' H' k
  obtain ⟨ws, hq2, r2⟩ := h2 g' H' k
  refine ⟨fun i e he => ?_, ⟨vs, ws, hq, hq2, by rw [zipD_length, r.length, r2.length]⟩⟩
  obtain ⟨d, d2, hd, hd2, ee⟩ := zipD_get xs ys i e he
  obtain ⟨v, hv, rv⟩ := r.get hd
  obtain ⟨v2, hv2, rv2⟩ := r2.get hd2
  refine ⟨⟨vs, ws, v, v2, hq, hq2, hv, hv2⟩, fun x H2 ⟨T, y, y2, ex, hT, eH, hy, hy2⟩ => ?_⟩
  have t1 := hy vs hq
  rw [hv] at t1
  cases t1
  have t2 := hy2 ws hq2
  rw [hv2] at t2
  cases t2
  obtain ⟨S', L'⟩ := S.laid (o := .tup [v, v2]) hT
  subst ex eH ee
  exact ⟨S', L', .tup (.inl (.inl upd_same)) (.cons (rv.mono S L') (.cons (rv2.mono S L') .nil))⟩
def zipD3 : List PyData → List PyData → List PyData → List PyData
  | d :: ds, e :: es, f :: fs => .tuple [d, e, f] :: zipD3 ds es fs
  | _, _, _ => []
theorem zipD3_length : ∀ ds es fs : List PyData, (zipD3 ds es fs).length = min (min ds.length es.length) fs.length
  | [], _, _ => by simp [zipD3]
  | _ :: _, [], _ => by simp [zipD3]
  | _ :: _, _ :: _, [] => by simp [zipD3]
  | d :: ds, e :: es, f :: fs => by unfold zipD3; rw [List.length_cons, List.length_cons, List.length_cons, List.length_cons, zipD3_length]; omega
theorem zipD3_get : ∀ (ds es fs : List PyData) (i : Nat) (z : PyData), (zipD3 ds es fs)[i]? = some z → ∃ d e f, ds[i]? = some d ∧ es[i]? = some e ∧ fs[i]? = some f ∧ z = .tuple [d, e, f]
  | [], _, _, _, _, h => by simp [zipD3] at h
  | _ :: _, [], _, _, _, h => by simp [zipD3] at h
  | _ :: _, _ :: _, [], _, _, h => by simp [zipD3] at h
  | d :: ds, e :: es, f :: fs, 0, z, h => by simp [zipD3] at h; exact ⟨d, e, f, by simp, by simp, by simp, h.symm⟩
  | d :: ds, e :: es, f :: fs, i + 1, z, h => by
    simp [zipD3] at h
    obtain ⟨d', e', f', h1, h2, h3, h4⟩ := zipD3_get ds es fs i z h
    exact ⟨d', e', f', by simpa using h1, by simpa using h2, by simpa using h3, h4⟩
theorem ien_zip3 {b1 b2 b3 : Bool} {a1 a2 a3 : Addr} {xs ys zs : List PyData} (h1 : ∀ g' H', Kp K g H g' H' → ∃ vs, SqS b1 K H' a1 vs ∧ RDs K g' H' vs xs) (h2 : ∀ g' H', Kp K g H g' H' → ∃ vs, SqS b2 K H' a2 vs ∧ RDs K g' H' vs ys)
    (h3 : ∀ g' H', Kp K g H g' H' → ∃ vs, SqS b3 K H' a3 vs ∧ RDs K g' H' vs zs) : IEn K g H (ItzS3 K b1 b2 b3 a1 a2 a3) (zipD3 xs ys zs) := by
  intro g' H' S k
  obtain ⟨vs, hq, r⟩ := h1 g' H' k
  obtain ⟨ws, hq2, r2⟩ := h2 g' H' k
  obtain ⟨us, hq3, r3⟩ := h3 g' H' k
  refine ⟨fun i e he => ?_, ⟨vs, ws, us, hq, hq2, hq3, by rw [zipD3_length, r.length, r2.length, r3.length]⟩⟩
  obtain ⟨d, d2, d3, hd, hd2, hd3, ee⟩ := zipD3_get xs ys zs i e he
  obtain ⟨v, hv, rv⟩ := r.get hd
  obtain ⟨v2, hv2, rv2⟩ := r2.get hd2
  obtain ⟨v3, hv3, rv3⟩ := r3.get hd3
  refine ⟨⟨vs, ws, us, v, v2, v3, hq, hq2, hq3, hv, hv2, hv3⟩, fun x H2 ⟨T, y, y2, y3, ex, hT, eH, hy, hy2, hy3⟩ => ?_⟩
  have t1 := hy vs hq
  rw [hv] at t1
  cases t1
  have t2 := hy2 ws hq2
  rw [hv2] at t2
  cases t2
  have t3 := hy3 us hq3
  rw [hv3] at t3
  cases t3
  obtain ⟨S', L'⟩ := S.laid (o := .tup [v, v2, v3]) hT
  subst ex eH ee
  exact ⟨S', L', .tup (.inl (.inl upd_same)) (.cons (rv.mono S L') (.cons (rv2.mono S L') (.cons (rv3.mono S L') .nil)))⟩
def rngD (lo : Int) : Nat → List PyData
  | 0 => []
  | n + 1 => .int lo :: rngD (lo + 1) n
theorem rngD_length : ∀ (lo : Int) (n : Nat), (rngD lo n).length = n
  | _, 0 => rfl
  | lo, n + 1 => by unfold rngD; rw [List.length_cons, rngD_length]
theorem rngD_get : ∀ (lo : Int) (n i : Nat) (e : PyData), (rngD lo n)[i]? = some e → i < n ∧ e = .int (lo + i)
  | _, 0, _, _, h => by simp [rngD] at h
  | lo, n + 1, 0, e, h => by simp [rngD] at h; exact ⟨by omega, by rw [← h]; simp⟩
  | lo, n + 1, i + 1, e, h => by
    simp [rngD] at h
    obtain ⟨h1, h2⟩ := rngD_get (lo + 1) n i e h
    exact ⟨by omega, by rw [h2]; congr 1; omega⟩
theorem ien_rng {lo : Int} {n : Nat} : IEn K g H (Itr lo n) (rngD lo n) := by
  intro g' H' S k
  refine ⟨fun i e he => ?_, by show n ≤ (rngD lo n).length; rw [rngD_length]; exact Nat.le_refl _⟩
  obtain ⟨h1, h2⟩ := rngD_get lo n i e he
  refine ⟨h1, fun x H2 ⟨e1, e2⟩ => ?_⟩
  subst e1 e2 h2
  exact ⟨S, Le.refl _ _, .int _⟩
end
def smallI (i : Int) : Bool := decide (-100000 ≤ i ∧ i ≤ 100000)
def iSeq (a : Em) : Im := fun ρ => mB (a ρ) mIter
def iEnum (a : Em) : Im := fun ρ => mB (a ρ) fun d => mB (mIter d) fun xs => mP (enumD 0 xs)
def iZip (a b : Em) : Im := fun ρ => mB (a ρ) fun d => mB (b ρ) fun e => mB (mIter d) fun xs => mB (mIter e) fun ys => mP (zipD xs ys)
def iZip3 (a b c : Em) : Im := fun ρ => mB (a ρ) fun d => mB (b ρ) fun e => mB (c ρ) fun f => mB (mIter d) fun xs => mB (mIter e) fun ys => mB (mIter f) fun zs => mP (zipD3 xs ys zs)
def iRng1 (a : Em) : Im := fun ρ => mB (a ρ) fun d => mB (mInt d) fun i => mB (guard (smallI i)) fun _ => mP (rngD 0 i.toNat)
def iRng2 (a b : Em) : Im := fun ρ => mB (a ρ) fun d => mB (b ρ) fun e => mB (mInt d) fun i => mB (mInt e) fun j => mB (guard (smallI i && smallI j)) fun _ => mP (rngD i (j - i).toNat)
def mRng : SV → Mm (Int × Int)
  | .rng lo hi => mP (lo, hi)
  | _ => mStuck
def iRngV (a : Em) : Im := fun ρ => mB (a ρ) fun d => mB (mRng d) fun q => mB (guard (smallI q.1 && smallI q.2)) fun _ => mP (rngD q.1 (q.2 - q.1).toNat)
theorem small_of {i : Int} (h : smallI i = true) : -(2 ^ 62) ≤ i ∧ i < 2 ^ 62 := by
  have := of_decide_eq_true h
  omega
section
variable {X : Cx} {E : XK} {tg e e1 e2 e3 : Expr} {elts : List Expr} {kk : Nat} {tpos p pos : Pos} {ma mb mc : Em}
theorem mi_seq (ha : ME X E e ma) : MI X E tg e (iSeq ma) := by
  refine PIwk (pi_src ha) fun σ H R ⟨g, ρ, S, V, o⟩ => ?_
  refine ⟨g, ρ, S, V, o.bind.mono fun d g1 H1 S1 L1 o1 v rv => ?_⟩
  obtain ⟨b, a, xs, ev, P, st⟩ := src_of S1 rv o1
  obtain ⟨vs, hq, _⟩ := st g1 H1 .refl
  exact ⟨b, a, vs, ev, hq, P _ (ien_src st)⟩
theorem mi_enum (hg : Gl X "enumerate") (hm : X.mg "enumerate" = none) (ha : ME X E e ma) (hs : starEach [e] X.env = [(false, eval e X.env)]) : MI X E (.Tuple elts kk tpos) (.Call (.Name "enumerate" p) [e] [] pos) (iEnum ma) := by
  refine PIwk (pi_enumS hg hm (pa_cons ha pa_nil hs) hs) fun σ H R ⟨g, ρ, S, V, o⟩ => ?_
  refine ⟨g, ρ, S, V, o.bind.mono fun d g1 H1 S1 L1 o1 v rv => ?_⟩
  obtain ⟨b, a, xs, ev, P, st⟩ := src_of S1 rv o1.bind
  obtain ⟨vs, hq, _⟩ := st g1 H1 .refl
  exact ⟨b, a, vs, by rw [ev], hq, P.pure S1 _ (ien_enum st)⟩
theorem mi_zip (hg : Gl X "zip") (hm : X.mg "zip" = none) (ha : ME X E e1 ma) (hb : ME X E e2 mb) (hs : starEach [e1, e2] X.env = (false, eval e1 X.env) :: starEach [e2] X.env) (hs2 : starEach [e2] X.env = (false, eval e2 X.env) :: starEach [] X.env)
    (hpl : (backTo pos (starEach [e2] X.env)).any (·.1) = false) : MI X E (.Tuple elts kk tpos) (.Call (.Name "zip" p) [e1, e2] [] pos) (iZip ma mb) := by
  refine PIwk (pi_zipS hg hm (pa_cons ha (pa_cons hb pa_nil hs2) hs) hs hpl) fun σ H R ⟨g, ρ, S, V, o⟩ => ?_
  refine ⟨g, ρ, S, V, o.bind.mono fun d g1 H1 S1 L1 o1 v rv => ?_⟩
  refine ⟨g1, ρ, S1, V.mono S L1, o1.bind.mono fun d2 g2 H2 S2 L2 o2 v2 rv2 => ?_⟩
  obtain ⟨b, a, xs, ev, P, st⟩ := src_of S2 (rv.mono S1 L2) o2.bind
  obtain ⟨b2, a2, ys, ev2, P2, st2⟩ := src_of S2 rv2 P.bind
  obtain ⟨vs, hq, _⟩ := st g2 H2 .refl
  obtain ⟨ws, hq2, _⟩ := st2 g2 H2 .refl
  exact ⟨b, b2, a, a2, vs, ws, by rw [ev, ev2], hq, hq2, P2.pure S2 _ (ien_zip st st2)⟩
theorem mi_zip3 (hg : Gl X "zip") (hm : X.mg "zip" = none) (ha : ME X E e1 ma) (hb : ME X E e2 mb) (hc : ME X E e3 mc) (hs : starEach [e1, e2, e3] X.env = (false, eval e1 X.env) :: starEach [e2, e3] X.env)
    (hs2 : starEach [e2, e3] X.env = (false, eval e2 X.env) :: starEach [e3] X.env) (hs3 : starEach [e3] X.env = (false, eval e3 X.env) :: starEach [] X.env)
    (hpl : (backTo pos (starEach [e2, e3] X.env)).any (·.1) = false) : MI X E (.Tuple elts kk tpos) (.Call (.Name "zip" p) [e1, e2, e3] [] pos) (iZip3 ma mb mc) := by
  refine PIwk (pi_zipS3 hg hm (pa_cons ha (pa_cons hb (pa_cons hc pa_nil hs3) hs2) hs) hs hpl) fun σ H R ⟨g, ρ, S, V, o⟩ => ?_
  refine ⟨g, ρ, S, V, o.bind.mono fun d g1 H1 S1 L1 o1 v rv => ?_⟩
  refine ⟨g1, ρ, S1, V.mono S L1, o1.bind.mono fun d2 g2 H2 S2 L2 o2 v2 rv2 => ?_⟩
  refine ⟨g2, ρ, S2, V.mono S (L1.trans L2), o2.bind.mono fun d3 g3 H3 S3 L3 o3 v3 rv3 => ?_⟩
  obtain ⟨b, a, xs, ev, P, st⟩ := src_of S3 (rv.mono S1 (L2.trans L3)) o3.bind
  obtain ⟨b2, a2, ys, ev2, P2, st2⟩ := src_of S3 (rv2.mono S2 L3) P.bind
  obtain ⟨b3, a3, zs, ev3, P3, st3⟩ := src_of S3 rv3 P2.bind
  obtain ⟨vs, hq, _⟩ := st g3 H3 .refl
  obtain ⟨ws, hq2, _⟩ := st2 g3 H3 .refl
  obtain ⟨us, hq3, _⟩ := st3 g3 H3 .refl
  exact ⟨b, b2, b3, a, a2, a3, vs, ws, us, by rw [ev, ev2, ev3], hq, hq2, hq3, P3.pure S3 _ (ien_zip3 st st2 st3)⟩
theorem mi_rng1 (hg : Gl X "range") (hm : X.mg "range" = none) (ha : ME X E e ma) (hs : starEach [e] X.env = [(false, eval e X.env)]) : MI X E tg (.Call (.Name "range" p) [e] [] pos) (iRng1 ma) := by
  refine PIwk (pi_range1 hg hm (pa_cons ha pa_nil hs) hs) fun σ H R ⟨g, ρ, S, V, o⟩ => ?_
  refine ⟨g, ρ, S, V, o.bind.mono fun d g1 H1 S1 L1 o1 v rv => ?_⟩
  obtain ⟨i, ev, o1⟩ := int_of S1 rv o1.bind
  obtain ⟨c, o1⟩ := guard_of S1 o1.bind
  exact ⟨i, by rw [ev], (small_of c).1, (small_of c).2, o1.pure S1 _ ien_rng⟩
theorem mi_rng2 (hg : Gl X "range") (hm : X.mg "range" = none) (ha : ME X E e1 ma) (hb : ME X E e2 mb) (hs : starEach [e1, e2] X.env = [(false, eval e1 X.env), (false, eval e2 X.env)]) (hs2 : starEach [e2] X.env = [(false, eval e2 X.env)]) : MI X E tg (.Call (.Name "range" p) [e1, e2] [] pos) (iRng2 ma mb) := by
  refine PIwk (pi_range2 hg hm (pa_cons ha (pa_cons hb pa_nil hs2) (by rw [hs, hs2])) hs hs2) fun σ H R ⟨g, ρ, S, V, o⟩ => ?_
  refine ⟨g, ρ, S, V, o.bind.mono fun d g1 H1 S1 L1 o1 v rv => ?_⟩
  refine ⟨g1, ρ, S1, V.mono S L1, o1.bind.mono fun d2 g2 H2 S2 L2 o2 v2 rv2 => ?_⟩
  obtain ⟨i, ev, o2⟩ := int_of S2 (rv.mono S1 L2) o2.bind
  obtain ⟨j, ev2, o2⟩ := int_of S2 rv2 o2.bind
  obtain ⟨c, o2⟩ := guard_of S2 o2.bind
  rw [Bool.and_eq_true] at c
  exact ⟨i, j, by rw [ev, ev2], ⟨(small_of c.1).1, (small_of c.1).2, (small_of c.2).1, (small_of c.2).2⟩, o2.pure S2 _ ien_rng⟩
theorem mi_rngV (ha : ME X E e ma) : MI X E tg e (iRngV ma) := by
  refine PIwk (pi_rngV ha) fun σ H R ⟨g, ρ, S, V, o⟩ => ?_
  refine ⟨g, ρ, S, V, o.bind.mono fun d g1 H1 S1 L1 o1 v rv => ?_⟩
  cases d with
  | val d => exact o1.bind.elim
  | ref n => exact o1.bind.elim
  | exc _ => exact o1.bind.elim
  | rng lo hi =>
    obtain ⟨a, ev, ea⟩ := rv
    obtain ⟨c, o1⟩ := guard_of S1 (o1.bind.pure S1).bind
    rw [Bool.and_eq_true] at c
    exact ⟨a, lo, hi, ev, ea, ⟨(small_of c.1).1, (small_of c.1).2, (small_of c.2).1, (small_of c.2).2⟩, o1.pure S1 _ ien_rng⟩
end
end MK
set_option Elab.async false
set_option linter.all false
set_option maxRecDepth 100000
set_option maxHeartbeats 1000000
/-! MKi: defs and their calls. -/
namespace MK
open PySem PySem.Spec PyProof.Rows L2
variable {cz : Cxx} [Tb]

/-- a def's mirror: what it makes of its arguments -/
abbrev Fm := List SV → Mm SV
def tSp (K : PySem.W.Frag) (mg : Mg) (F : Fm) : Sp := fun vs H Q E => ∃ g ds, Sim K g H ∧ RSVs K none g H vs ds ∧ Out K mg E g H (F ds g.cs) fun d g' H' => ∀ v, RSV K none g' H' v d → Q v H'
/-- a body's end as a call's value; the cells made in it are forgotten -/
def mCall (m : Mm (Fl × Ro)) : Mm SV := fun h => match m h with
  | .ok (.nx, _) h' => .ok (.val .none) (h'.take h.length)
  | .ok (.rt (.val d), _) h' => .ok (.val d) (h'.take h.length)
  | .ok (.rt (.rng lo hi), _) h' => .ok (.rng lo hi) (h'.take h.length)
  | .ok (.rt (.ref n), _) h' => if n < h.length then .ok (.ref n) (h'.take h.length) else match h'[n]? with
    | some (some c) => .ok (.ref h.length) (h'.take h.length ++ [some c])
    | _ => .stuck
  | .ok _ _ => .stuck
  | .exn x h' => .exn x (h'.take h.length)
  | .stuck => .stuck
def fnV (n m : Nat) (b : Sm) : Fm := fun ds => mB (guard (decide (ds.length = n))) fun _ => mCall (b (ds.map some ++ List.replicate (m - n) none))
section
variable {K : PySem.W.Frag} {mg : Mg} {E : XK} {g : Gh} {H : Hp}
theorem RSVs.get : ∀ {vs : List V} {ds : List SV} {i : Nat} {d : SV}, RSVs K cz g H vs ds → ds[i]? = some d → ∃ v, vs[i]? = some v ∧ RSV K cz g H v d
  | _, _, i, _, .nil, e => by simp at e
  | _, _, 0, _, .cons h1 h2, e => by simp at e; subst e; exact ⟨_, rfl, h1⟩
  | _, _, i + 1, _, .cons h1 h2, e => by
    obtain ⟨v, e1, r⟩ := RSVs.get (i := i) h2 (by simpa using e)
    exact ⟨v, by simpa using e1, r⟩
theorem EnvR.start {N : List Str} {vs : List V} {ds : List SV} {m : Nat} (hm : N.length = m) (r : RSVs K cz g H vs ds) : EnvR K cz g H (ds.map some ++ List.replicate (m - ds.length) none) (L2.start N vs) := by
  subst hm
  unfold L2.start
  refine ⟨by simp [r.length], fun i d e => ?_⟩
  by_cases hi : i < ds.length
  · rw [List.getElem?_append_left (by simpa using hi), List.getElem?_map] at e
    cases q : ds[i]? with
    | none => rw [q] at e; cases e
    | some d' =>
      rw [q] at e
      cases e
      obtain ⟨v, e1, r1⟩ := r.get q
      refine ⟨v, ?_, r1⟩
      have hv : i < vs.length := by rw [r.length]; exact hi
      rw [List.getElem?_append_left (by simpa using hv), List.getElem?_map, e1]
      rfl
  · rw [List.getElem?_append_right (by simpa using hi), List.getElem?_replicate] at e
    split at e <;> cases e
theorem XA.cut (n : Nat) {x : Xn} {oa : Option Addr} (h : XA K g H x oa) : XA K ⟨g.mu.take n, g.cs.take n, g.ex⟩ H x oa := by
  unfold XA at *
  cases q : x.arg with
  | none => rw [q] at h; exact h
  | some p =>
    rw [q] at h
    obtain ⟨dx, v, e1, e2, r⟩ := h
    exact ⟨dx, v, e1, e2, r.cut n⟩
/-- a cell that was made in the call is handed out -/
theorem Sim.keepOne {g' : Gh} {H' : Hp} {n : Nat} {a : Addr} {c : Cell} (S : Sim K g H) (S' : Sim K g' H') (L : Le g H g' H') (hc : g'.cs[n]? = some (some c)) (ha : g'.mu[n]? = some a) (hn : g.mu.length ≤ n) :
    Sim K ⟨g'.mu.take g.mu.length ++ [a], g'.cs.take g.mu.length ++ [some c], g'.ex⟩ H' ∧ Le g H ⟨g'.mu.take g.mu.length ++ [a], g'.cs.take g.mu.length ++ [some c], g'.ex⟩ H' := by
  have hk : g.mu.length ≤ g'.mu.length := Nat.le_trans hn (Nat.le_of_lt (List.getElem?_eq_some_iff.mp ha).1)
  have hlm : (g'.mu.take g.mu.length).length = g.mu.length := by rw [List.length_take]; omega
  have hlc : (g'.cs.take g.mu.length).length = g.mu.length := by rw [List.length_take, ← S'.len]; omega
  -- where an index of the new ghost points in the old one
  have mu' : ∀ (m : Nat) (b : Addr), (g'.mu.take g.mu.length ++ [a])[m]? = some b → (m < g.mu.length ∧ g'.mu[m]? = some b) ∨ (m = g.mu.length ∧ b = a) := fun m b h => by
    by_cases hm : m < g.mu.length
    · rw [List.getElem?_append_left (by rw [hlm]; exact hm), List.getElem?_take, if_pos hm] at h
      exact .inl ⟨hm, h⟩
    · rw [List.getElem?_append_right (by rw [hlm]; omega), hlm] at h
      by_cases h0 : m - g.mu.length = 0
      · rw [h0] at h
        exact .inr ⟨by omega, by simpa using h.symm⟩
      · rw [List.getElem?_eq_none (by simp; omega)] at h
        cases h
  have cs' : ∀ (m : Nat) (o : Option Cell), (g'.cs.take g.mu.length ++ [some c])[m]? = some o → (m < g.mu.length ∧ g'.cs[m]? = some o) ∨ (m = g.mu.length ∧ o = some c) := fun m o h => by
    by_cases hm : m < g.mu.length
    · rw [List.getElem?_append_left (by rw [hlc]; exact hm), List.getElem?_take, if_pos hm] at h
      exact .inl ⟨hm, h⟩
    · rw [List.getElem?_append_right (by rw [hlc]; omega), hlc] at h
      by_cases h0 : m - g.mu.length = 0
      · rw [h0] at h
        exact .inr ⟨by omega, by simpa using h.symm⟩
      · rw [List.getElem?_eq_none (by simp; omega)] at h
        cases h
  have hown : ∀ b, own ⟨g'.mu.take g.mu.length ++ [a], g'.cs.take g.mu.length ++ [some c], g'.ex⟩ b → own g' b := fun b h => by
    rcases h with ⟨m, c', h1, h2⟩ | h
    · rcases mu' m b h2 with ⟨q1, q2⟩ | ⟨q1, q2⟩
      · rcases cs' m _ h1 with ⟨_, q3⟩ | ⟨q3, _⟩
        · exact .inl ⟨m, c', q3, q2⟩
        · omega
      · rw [q2]; exact .inl ⟨n, c, hc, ha⟩
    · exact .inr h
  refine ⟨⟨?_, fun m c' b h1 h2 => ?_, fun m m' b h1 h2 => ?_, fun m b h => ?_, S'.exm, fun m b h => ?_, S'.tabs⟩, ⟨fun m b h => ?_, fun b o h t nb => ⟨(L.keep b o h t nb).1, fun q => (L.keep b o h t nb).2 (hown b q)⟩, L.exe, L.exk, L.trk⟩⟩
  · show (g'.mu.take g.mu.length ++ [a]).length = (g'.cs.take g.mu.length ++ [some c]).length
    rw [List.length_append, List.length_append, hlm, hlc]; rfl
  · rcases mu' m b h2 with ⟨q1, q2⟩ | ⟨q1, q2⟩ <;> rcases cs' m _ h1 with ⟨q3, q4⟩ | ⟨q3, q4⟩
    · exact (S'.cell m c' b q4 q2).sub hown
    · omega
    · omega
    · cases q4
      rw [q2]
      exact (S'.cell n c a hc ha).sub hown
  · rcases mu' m b h1 with ⟨q1, q2⟩ | ⟨q1, q2⟩ <;> rcases mu' m' b h2 with ⟨q3, q4⟩ | ⟨q3, q4⟩
    · exact S'.inj m m' b q2 q4
    · have := S'.inj m n b q2 (by rw [q4]; exact ha); omega
    · have := S'.inj m' n b q4 (by rw [q2]; exact ha); omega
    · omega
  · rcases mu' m b h with ⟨_, q2⟩ | ⟨_, q2⟩
    · exact S'.trk m b q2
    · rw [q2]; exact S'.trk n a ha
  · rcases mu' m b h with ⟨_, q2⟩ | ⟨_, q2⟩
    · exact S'.exn m b q2
    · rw [q2]; exact S'.exn n a ha
  · show (g'.mu.take g.mu.length ++ [a])[m]? = some b
    have hm := (List.getElem?_eq_some_iff.mp h).1
    rw [List.getElem?_append_left (by rw [hlm]; exact hm), List.getElem?_take, if_pos hm]
    exact L.pre m b h
theorem out_call {D : Ends} {Q : VK} {m : Mm (Fl × Ro)} (S : Sim K g H) (o : Out K mg E g H (mCall m g.cs) fun d g' H' => ∀ v, RSV K none g' H' v d → Q v H') (hnx : ∀ σ H', Q .non H' → D.nx σ H') (hrt : ∀ v H', Q v H' → D.rt v H') :
    Out K mg E g H (m g.cs) (EndR K cz D) := by
  have ct : ∀ {g' : Gh} {H' : Hp} {h' : Hm}, g'.cs = h' → Sim K g' H' → Le g H g' H' → (Gh.mk (g'.mu.take g.mu.length) (g'.cs.take g.mu.length) g'.ex).cs = h'.take g.cs.length ∧
      Sim K ⟨g'.mu.take g.mu.length, g'.cs.take g.mu.length, g'.ex⟩ H' ∧ Le g H ⟨g'.mu.take g.mu.length, g'.cs.take g.mu.length, g'.ex⟩ H' := fun {g' H' h'} e S' L' => by
    refine ⟨?_, S'.cut _, L'.cut S⟩
    show g'.cs.take g.mu.length = h'.take g.cs.length
    rw [e, S.len]
  unfold mCall at o
  cases q : m g.cs with
  | stuck => rw [q] at o; exact o
  | exn x h' =>
    rw [q] at o
    intro g' H' cls oa e S' L' xr
    obtain ⟨c1, c2, c3⟩ := ct e S' L'
    exact o _ H' cls oa c1 c2 c3 ⟨xr.1, xr.2.cut _⟩
  | ok r h' =>
    obtain ⟨f, ρ⟩ := r
    rw [q] at o
    cases f with
    | nx =>
      intro g' H' e S' L' σ V
      obtain ⟨c1, c2, c3⟩ := ct e S' L'
      exact hnx _ _ (o _ H' c1 c2 c3 _ RD.non)
    | bk => exact o.elim
    | ct => exact o.elim
    | rt d =>
      cases d with
      | exc _ => exact o.elim
      | val d =>
        intro g' H' e S' L' v r
        obtain ⟨c1, c2, c3⟩ := ct e S' L'
        exact hrt _ _ (o _ H' c1 c2 c3 _ (RD.cut _ r))
      | rng lo hi =>
        intro g' H' e S' L' v r
        obtain ⟨c1, c2, c3⟩ := ct e S' L'
        exact hrt _ _ (o _ H' c1 c2 c3 _ r)
      | ref n =>
        simp only at o
        split at o
        · rename_i hn
          intro g' H' e S' L' v r
          obtain ⟨c1, c2, c3⟩ := ct e S' L'
          obtain ⟨a, e1, e2⟩ := r
          refine hrt _ _ (o _ H' c1 c2 c3 _ ⟨a, e1, ?_⟩)
          show (g'.mu.take g.mu.length)[n]? = some a
          rw [List.getElem?_take, if_pos (by rw [S.len]; exact hn)]
          exact e2
        · rename_i hn
          cases qc : h'[n]? with
          | none => simp only [qc] at o; exact o.elim
          | some oc =>
            cases oc with
            | none => simp only [qc] at o; exact o.elim
            | some c =>
              simp only [qc] at o
              intro g' H' e S' L' v r
              obtain ⟨a, e1, e2⟩ := r
              obtain ⟨S2, L2⟩ := S.keepOne S' L' (by rw [e]; exact qc) e2 (by rw [S.len]; omega)
              refine hrt _ _ (o _ H' ?_ S2 L2 _ ⟨a, e1, ?_⟩)
              · show g'.cs.take g.mu.length ++ [some c] = h'.take g.cs.length ++ [some c]
                rw [e, S.len]
              · show (g'.mu.take g.mu.length ++ [a])[g.cs.length]? = some a
                have hlm : (g'.mu.take g.mu.length).length = g.cs.length := by
                  have := (List.getElem?_eq_some_iff.mp e2).1
                  rw [List.length_take, ← S.len]
                  have := S.len
                  omega
                rw [List.getElem?_append_right (by rw [hlm]; exact Nat.le_refl _), hlm, Nat.sub_self]
                rfl
end

/-! ### a def -/
section
variable {P : Program} {w : World} {K : PySem.W.Frag} {mg : Mg} {base : Heap}
theorem fn_ok {x qual : Str} {st : Stmt} {f : Addr} {fd : FuncData} {N ps : List Str} {k n m : Nat} {b : Sm} (F : Fun K x qual st f fd) (S : FnScope N ps (defScope st)) (hn : ps.length = n) (hm : N.length = m)
    (hbody : ∀ (cdv : Value) (A : Around) (outer : List Env) (s : Shared) (H : Hp) (E : XK), Room k (A.deeper (envOfC qual (defScope st) s.heap.objs.size f cdv)) →
      MSs (cxOf (L2N.CX P w) P w K mg base N qual (defScope st) f cdv A outer s H E) E (defBody st) b) : FnOk P w K mg base (L2N.CX P w) (k + 1) f fd ps (tSp K mg (fnV n m b)) := by
  obtain ⟨oc, od, kV, doc, pm, an, cdv, ct, osl, rfl, lk, hcd⟩ := F.ex
  refine fn_of lk hcd S (fun vs H Q E ⟨g, ds, S, r, o⟩ => ?_) fun A outer s H vs Q E hr ⟨g, ds, S, r, o⟩ => ?_
  · obtain ⟨c, _⟩ := guard_of S o.bind
    rw [r.length, hn]
    exact of_decide_eq_true c
  · obtain ⟨c, o⟩ := guard_of S o.bind
    have hl : ds.length = n := of_decide_eq_true c
    refine ⟨_, hbody cdv A outer s H E hr, g, _, S, EnvR.start hm r, out_call S ?_ (fun _ _ q => q) fun _ _ q => q⟩
    rw [hl]
    exact o
/-- what a call of x asks -/
structure FnD (P : Program) (w : World) (K : PySem.W.Frag) (mg : Mg) (base : Heap) (k : Nat) (x : Str) (n : Nat) (F : Fm) : Prop where
  ex : ∃ f fd ps, FnOk P w K mg base (L2N.CX P w) k f fd ps (tSp K mg F) ∧ mg x = some (.ref f) ∧ PySem.W.keepIn K (.ref f) = true ∧ Binds K fd ps []
theorem FnD.up {j k : Nat} {x : Str} {n : Nat} {F : Fm} (D : FnD P w K mg base j x n F) (h : j ≤ k) : FnD P w K mg base k x n F := by
  obtain ⟨f, fd, ps, a, b, c, d⟩ := D.ex
  exact ⟨f, fd, ps, a.mono h, b, c, d⟩
end
section
variable {X : Cx} {E : XK} {e : Expr} {es : List Expr} {ms : Am} {pos p : Pos} {x : Str} {k n : Nat} {F : Fm}
theorem RSV.all {K : PySem.W.Frag} {g : Gh} {H : Hp} {v : V} {d : SV} (h : RSV K none g H v d) : RSV K cz g H v d := by
  cases d with
  | exc x => obtain ⟨_, _, _, _, e, _⟩ := h; cases e
  | _ => exact h
def notExc : SV → Bool
  | .exc _ => false
  | _ => true
theorem RSVs.non {K : PySem.W.Frag} {g : Gh} {H : Hp} : ∀ {vs : List V} {ds : List SV}, RSVs K cz g H vs ds → ds.all notExc = true → RSVs K none g H vs ds
  | _, _, .nil, _ => .nil
  | _, _, @RSVs.cons _ _ _ _ _ _ d _ r t, h => by
    rw [List.all_cons, Bool.and_eq_true] at h
    refine .cons ?_ (RSVs.non t h.2)
    cases d with
    | exc x => cases h.1
    | _ => exact r
def eCall (F : Fm) (a : Am) : Em := fun ρ => mB (a ρ) fun ds => mB (guard (ds.all notExc)) fun _ => F ds
theorem me_call (D : FnD X.prog X.w X.K X.mg X.base k x n F) (hr : Room k X.A) (hg : Gl X x) (hx : Passes (L2N.CX X.prog X.w) X E) (ha : MA X E (e :: es) ms)
    (hdb : (x == ("__debug__" : Str)) = false := by decide) (he : starEach (e :: es) X.env = (false, eval e X.env) :: starEach es X.env := by rfl) (hpl : (backTo pos (starEach es X.env)).any (·.1) = false := by rfl) :
    ME X E (.Call (.Name x p) (e :: es) [] pos) (eCall F ms) := by
  obtain ⟨f, fd, ps, ok, hm, hk, hb⟩ := D.ex
  refine PEwk (pe_call ok hr hg hm hk hb .nil hx ha hdb he hpl) fun σ H Q ⟨g, ρ, S, V, o⟩ => ?_
  refine ⟨g, ρ, S, V, o.bind.mono fun ds g1 H1 S1 L1 o1 vs rs => ?_⟩
  show tSp X.K X.mg F (vs ++ []) H1 Q E
  rw [List.append_nil]
  obtain ⟨c, o1⟩ := guard_of S1 o1.bind
  exact ⟨g1, ds, S1, rs.non c, o1.mono fun d g2 H2 S2 L2 q v r => q v r.all⟩
theorem me_call0 (D : FnD X.prog X.w X.K X.mg X.base k x n F) (hr : Room k X.A) (hg : Gl X x) (hx : Passes (L2N.CX X.prog X.w) X E)
    (hdb : (x == ("__debug__" : Str)) = false := by decide) : ME X E (.Call (.Name x p) [] [] pos) (fun _ => F []) := by
  obtain ⟨f, fd, ps, ok, hm, hk, hb⟩ := D.ex
  refine PEwk (pe_call0 ok hr hg hm hk hb .nil hx hdb) fun σ H Q ⟨g, ρ, S, V, o⟩ => ?_
  exact ⟨g, [], S, .nil, o.mono fun d g2 H2 S2 L2 q v r => q v r.all⟩
/-- in a def's body what a callee lets out is let out -/
theorem passesX {P : Program} {w : World} {K : PySem.W.Frag} {mg : Mg} {base : Heap} {N : List Str} {qual : Str} {scope : Scope} {f : Addr} {cd : Value} {A : Around} {outer : List Env} {s : Shared} {H : Hp} {E : XK} :
    Passes (L2N.CX P w) (cxOf (L2N.CX P w) P w K mg base N qual scope f cd A outer s H E) E := L2N.passes_call (X := cxOf (L2N.CX P w) P w K mg base N qual scope f cd A outer s H E) (L2N.takes_of rfl rfl rfl rfl) fun _ _ _ _ h => h
end

/-! ### isinstance -/
inductive Ty where
  | int | bool | tuple | list | str
  deriving DecidableEq
def Ty.nm : Ty → String
  | .int => "int" | .bool => "bool" | .tuple => "tuple" | .list => "list" | .str => "str"
def isTy (T : Ty) : PyData → Bool
  | .int _ => match T with | .int => true | _ => false
  | .bool _ => match T with | .int => true | .bool => true | _ => false
  | .tuple _ => match T with | .tuple => true | _ => false
  | .list _ => match T with | .list => true | _ => false
  | .str _ => match T with | .str => true | _ => false
  | _ => false
def fIsi (T : Ty) : SV → Mm SV
  | .val (.dict _) => mStuck
  | .val d => mP (.val (.bool (isTy T d)))
  | _ => mStuck
theorem ty_of {K : PySem.W.Frag} {g : Gh} {H : Hp} {d : PyData} {v : V} (h : RD K g H v d) : ∃ t : String, TyX K H v (.type t) ∧ ∀ T : Ty, kitB t T.nm = some (isTy T d) := by
  cases h with
  | non => exact ⟨_, .base .non, fun T => by cases T <;> decide +kernel⟩
  | bl b => exact ⟨_, .base (.bl b), fun T => by cases T <;> (simp only [isTy]; decide +kernel)⟩
  | int i => exact ⟨_, .base (.int i), fun T => by cases T <;> (simp only [isTy]; decide +kernel)⟩
  | str x => exact ⟨_, .base (.str x), fun T => by cases T <;> (simp only [isTy]; decide +kernel)⟩
  | lst h1 _ =>
    refine ⟨"list", ?_, fun T => by cases T <;> (simp only [isTy]; decide +kernel)⟩
    rcases h1.1 with q | ⟨o, q⟩
    · exact .base (.lst q)
    · exact .base (.frz q)
  | tup h1 _ =>
    refine ⟨"tuple", ?_, fun T => by cases T <;> (simp only [isTy]; decide +kernel)⟩
    rcases h1 with (q | ⟨o, q⟩) | h1
    · exact .base (.tup q)
    · exact .fTuple q
    · obtain ⟨o, its, n, e, c, _⟩ := h1
      exact .kTuple e c
/-- isinstance(value, T) -/
theorem me_isi {X : Cx} {E : XK} {e : Expr} {ma : Em} {x : Str} {p p2 pos : Pos} (T : Ty) (ha : ME X E e ma) (hg : Gl X "isinstance") (hm : X.mg "isinstance" = none) (hgt : Gl X x) (hmt : X.mg x = none) (hv : bootBuiltins x = some (.type T.nm))
    (hn : x ≠ "__name__" := by decide) (hdb : (x == ("__debug__" : Str)) = false := by decide)
    (he : starEach (e :: [Expr.Name x p2]) X.env = (false, eval e X.env) :: starEach [Expr.Name x p2] X.env := by rfl) (hpl : (backTo pos (starEach [Expr.Name x p2] X.env)).any (·.1) = false := by rfl)
    (he2 : starEach [Expr.Name x p2] X.env = (false, eval (.Name x p2) X.env) :: starEach [] X.env := by rfl) :
    ME X E (.Call (.Name "isinstance" p) [e, .Name x p2] [] pos) (eOp1 (fIsi T) ma) := by
  have ht : PE X (.Name x p2) (fun _ H Q => Q (.ty T.nm) H) := ⟨fun pins s σ H Q I q => ld_blt I hgt hmt hv ⟨.ty T.nm, H, I, rfl, q⟩ hn hdb⟩
  refine PEwk (pe_callB call_isi hg hm (by first | exact PyProof.Rows.Boot.«isinstance» | kernel_rfl) (pa_cons ha (pa_cons ht pa_nil he2) he) (by decide) (by decide) he hpl) fun σ H Q ⟨g, ρ, S, V, o⟩ => ?_
  refine ⟨g, ρ, S, V, o.bind.mono fun dx g1 H1 S1 L1 o1 v rv => ?_⟩
  cases dx with
  | ref n => exact o1.elim
  | rng _ _ => exact o1.elim
  | exc _ => exact o1.elim
  | val d =>
    obtain ⟨t, ty, kb⟩ := ty_of rv
    have o2 : Out X.K X.mg E g1 H1 (mP (SV.val (.bool (isTy T d))) g1.cs) fun d g' H' => ∀ v, RSV X.K (cx X) g' H' v d → Q v H' := by
      cases d with
      | dict _ => exact o1.elim
      | _ => exact o1
    exact ⟨v, .ty T.nm, _, _, _, rfl, .ty _, ty, kit_ty (kb T), o2.pure S1 _ (RD.bl _)⟩

/-! ### raise -/
/-- an own error with one field -/
def sRaiseX (nm fld : Str) (a : Em) : Sm := fun ρ => mB (a ρ) fun d => match d with
  | .val d => mX ⟨nm, some (fld, d)⟩
  | _ => mStuck
def sRaise0 (nm : Str) : Sm := fun _ => mX ⟨nm, none⟩
section
variable {X : Cx} {E : XK} {a : Expr} {ma : Em} {nm fld : Str} {C fI : Addr} {p pos pos2 : Pos} {k : Nat}
theorem ms_raiseX (hc : X.calm = true) (tk : L2N.Takes X (fun cls d _ H => E cls d H)) (FO : PySem.MKX.FldOk fld) (T : PySem.MKX.XTxt X.prog X.K X.mg nm fld C fI) (hr : Room k X.A) (ha : ME X E a ma) (hg : Gl X nm)
    (hdb : (nm == ("__debug__" : Str)) = false := by decide) (he : starEach (a :: []) X.env = (false, eval a X.env) :: starEach [] X.env := by rfl) (hpl : (backTo pos (starEach [] X.env)).any (·.1) = false := by rfl) :
    MS X E (.Raise (some (.Call (.Name nm p) [a] [] pos)) none pos2) (sRaiseX nm fld ma) := by
  refine PSwk (L2N.ps_raise hc tk (pmk_x FO T hr (pa_cons ha pa_nil he) hg hdb he hpl)) fun D σ H ⟨g, ρ, S, V, o⟩ => ?_
  refine ⟨g, ρ, S, V, o.bind.mono fun dx g1 H1 S1 L1 o1 v rv => ?_⟩
  cases dx with
  | ref n => exact o1.elim
  | rng _ _ => exact o1.elim
  | exc _ => exact o1.elim
  | val d =>
    refine ⟨v, rfl, fun dd hd => ?_⟩
    obtain ⟨S2, L2⟩ := S1.laid (o := .xd [(fld, v)]) hd
    exact o1 g1 _ _ _ rfl S2 L2 ⟨⟨C, T.gC, rfl⟩, dd, v, rfl, upd_same, RD.mono S1 L2 rv⟩
theorem ms_raise0 {bmB : List Value} {B newId initId : String} (hc : X.calm = true) (tk : L2N.Takes X (fun cls d _ H => E cls d H)) (F : PySem.ExcBaseFacts B newId initId bmB) (q : PySem.W.excIn X.K C bmB newId = true) (gC : X.mg nm = some (.ref C)) (kC : PySem.W.keepIn X.K (.ref C) = true) (r : Raises X (.ref C)) (hg : Gl X nm)
    (hdb : (nm == ("__debug__" : Str)) = false := by decide) : MS X E (.Raise (some (.Call (.Name nm p) [] [] pos)) none pos2) (sRaise0 nm) := by
  refine PSwk (L2N.ps_raise hc tk (pmk_own0 F q gC kC r hg hdb)) fun D σ H ⟨g, ρ, S, V, o⟩ => ?_
  exact o g H _ _ rfl S (Le.refl _ _) ⟨⟨C, gC, rfl⟩, rfl⟩
end
end MK
set_option Elab.async false
set_option linter.all false
set_option maxRecDepth 100000
set_option maxHeartbeats 2000000
/-! MKs: while an error is handled: the end of a list, a tuple unpacked, a comprehension over a list. -/
namespace HotY
open PySem PySem.Spec PyProof.Rows HotX
section
variable {prog : Program} {w : World} {A : Around} {E : Value → Shared → Prop} {s : Shared}
theorem hot_kept {x1 : Addr} {h h' : Heap} (hot : HotAt A x1 h) (k : ∀ o, h.get? x1 = some o → h'.get? x1 = some o) : HotAt A x1 h' := by
  obtain ⟨hh, o, vs, h1, d1, c1⟩ := hot
  exact ⟨hh, o, vs, k _ h1, d1, c1⟩
/-- the end of an iterator: StopIteration is made, raised, caught -/
theorem stop_hot {x1 : Addr} {Q : Option Value → Shared → Prop} {QF : Fin → Shared → Prop} (hot : HotAt A x1 s.heap)
    (hQ : ∀ h', (∀ b o, s.heap.get? b = some o → h'.get? b = some o) → Q none { s with heap := h' }) :
    wpAny (model prog w) A.in1 Builtin.SmallTypes.stopIteration QF
      (fun e s' => wpAny (model prog w) A (do let b ← isInstance e (.type "StopIteration"); if b = true then pure none else throw e) Q E s') s := by
  obtain ⟨hh, o1, vs1, h1, d1, c1⟩ := hot
  show wpAny _ _ (newExc (.type "StopIteration") [] >>= _) _ _ _
  refine wpAny_bind ?_
  simp only [newExc, newTuple]
  refine wpAny_bind (wpAny_newObj_type ?_ (by size_fits))
  refine wpAny_bind (m := firstArgMember _ _) (wpAny_of_eq (a := Value.none) (by first | rfl | (simp only [firstArgMember]; rfl)) ?_)
  refine wpAny_newObj_type ?_ (by size_fits)
  refine raiseNew_hot (A := A.in1) ⟨hh, o1, vs1, Heap.get?_push_of_some _ (Heap.get?_push_of_some _ h1), d1, c1⟩ (Nat.ne_of_lt (Heap.lt_size (Heap.get?_push_of_some _ h1))) (Heap.get?_push_size _ rfl) rfl (by first | (simp; done) | (simp; omega) | (simp only [Array.size_append]; simp; omega)) ?_
  refine wpAny_bind (wpAny_isInstance (T := "StopIteration") (b := true) ⟨_, Heap.get?_update_self _ (Heap.get?_push_size _ rfl) rfl, rfl⟩ isSubtype_stop ?_)
  refine wpAny_pure (hQ _ fun b o e => ?_)
  rw [Heap.get?_update_other _ _ (Nat.ne_of_gt (Heap.lt_size (Heap.get?_push_of_some _ e)))]
  exact Heap.get?_push_of_some _ (Heap.get?_push_of_some _ e)
theorem list_end_hot {it l x1 : Addr} {i : Nat} {items} {Q : Option Value → Shared → Prop} (hot : HotAt A x1 s.heap) (hne : x1 ≠ it)
    (hit : s.heap.IsListIter it l i) (hl : s.heap.IsList l items) (hx : items[i]? = none)
    (hQ : ∀ h', Heap.ExtBut it s.heap h' → Q none { s with heap := h' }) : wpAny (model prog w) A (pyNext (.ref it)) Q E s := by
  obtain ⟨o, ho, hc, hd⟩ := id hit
  obtain ⟨ol, hol, _, nl, hdl⟩ := hl
  unfold pyNext
  refine wpAny_bind (wpAny_attempt (wpAny_callSpecial?_slot (name := Str.ofString "__next__") hit.typeIs slot_listiter_next
    (wpAny_call_entry slot_listiter_next hit.typeIs entry_listiter_next ?_ (args_listiter_next _))))
  show wpAny _ _ (field (.ref it) 0 >>= _) _ _ s
  refine wpAny_bind (wpAny_field ho hd (x := .ref l) rfl ?_)
  show wpAny _ _ (if (Value.ref l == Value.none) = true then _ else _) _ _ s
  rw [if_neg (show ¬ ((Value.ref l == Value.none) = true) from Bool.false_ne_true)]
  show wpAny _ _ (field (.ref it) 1 >>= _) _ _ s
  refine wpAny_bind (wpAny_field ho hd (x := .int i 0) rfl ?_)
  show wpAny _ _ (seqItems? (.ref l) >>= _) _ _ s
  refine wpAny_bind (wpAny_seqItems hol hdl ?_)
  simp only [Int.toNat_natCast, hx]
  refine wpAny_bind (wpAny_rule (wpAny_bind (wpAny_setField ho hd (by simp) ?_)))
  have sb : ∀ b o', b ≠ it → s.heap.get? b = some o' → (s.heap.update it (Obj.mapFields (·.setIfInBounds 0 Value.none))).get? b = some o' := fun b o' hb e => by
    rw [Heap.get?_update_other _ _ (Ne.symm hb)]; exact e
  have hot' := hot_kept hot (fun o e => sb x1 o hne e)
  exact stop_hot hot' fun h' k => hQ h' fun b o' hb e => k b o' (sb b o' hb e)
theorem tuple_end_hot {it t x1 : Addr} {i : Nat} {items} {Q : Option Value → Shared → Prop} (hot : HotAt A x1 s.heap) (hne : x1 ≠ it)
    (hit : IsTupIter s.heap it t i) (ht : IsTup s.heap t items) (hx : items[i]? = none)
    (hQ : ∀ h', Heap.ExtBut it s.heap h' → Q none { s with heap := h' }) : wpAny (model prog w) A (pyNext (.ref it)) Q E s := by
  obtain ⟨o, ho, hc, hd⟩ := id hit
  obtain ⟨ol, hol, _, nl, hdl⟩ := ht
  unfold pyNext
  refine wpAny_bind (wpAny_attempt (wpAny_callSpecial?_slot (name := Str.ofString "__next__") hit.typeIs slot_tupleiter_next
    (wpAny_call_entry slot_tupleiter_next hit.typeIs entry_tupleiter_next ?_ (args_tupleiter_next _))))
  show wpAny _ _ (field (.ref it) 0 >>= _) _ _ s
  refine wpAny_bind (wpAny_field ho hd (x := .ref t) rfl ?_)
  show wpAny _ _ (if (Value.ref t == Value.none) = true then _ else _) _ _ s
  rw [if_neg (show ¬ ((Value.ref t == Value.none) = true) from Bool.false_ne_true)]
  show wpAny _ _ (field (.ref it) 1 >>= _) _ _ s
  refine wpAny_bind (wpAny_field ho hd (x := .int i 0) rfl ?_)
  show wpAny _ _ (seqItems? (.ref t) >>= _) _ _ s
  refine wpAny_bind (wpAny_seqItems hol hdl ?_)
  simp only [Int.toNat_natCast, hx]
  refine wpAny_bind (wpAny_rule (wpAny_bind (wpAny_setField ho hd (by simp) ?_)))
  have sb : ∀ b o', b ≠ it → s.heap.get? b = some o' → (s.heap.update it (Obj.mapFields (·.setIfInBounds 0 Value.none))).get? b = some o' := fun b o' hb e => by
    rw [Heap.get?_update_other _ _ (Ne.symm hb)]; exact e
  have hot' := hot_kept hot (fun o e => sb x1 o hne e)
  exact stop_hot hot' fun h' k => hQ h' fun b o' hb e => k b o' (sb b o' hb e)
theorem unpackItems_hot {t x1 : Addr} {items : Array Value} {Q : List Value → Shared → Prop} (hot : HotAt A x1 s.heap) (ht : IsTup s.heap t items)
    (hQ : ∀ h', Heap.ExtBut s.heap.objs.size s.heap h' → Q items.toList { s with heap := h' }) : wpAny (model prog w) A (unpackItems (.ref t) items.size none) Q E s := by
  have hlt : t ≠ s.heap.objs.size := by obtain ⟨o, ho, _⟩ := ht; exact Nat.ne_of_lt (Heap.lt_size ho)
  have hx1 : x1 ≠ s.heap.objs.size := by obtain ⟨_, o, _, ho, _⟩ := id hot; exact Nat.ne_of_lt (Heap.lt_size ho)
  unfold unpackItems
  refine wpAny_bind ?_
  unfold notIterableAtAll
  refine wpAny_bind (wpAny_specialOf ht.typeIs slot_tuple_iter.lookup ?_)
  refine wpAny_pure ?_
  simp only [Bool.false_eq_true, if_false]
  refine wpAny_bind (wpAny_holding (iter_tuple ht ?_))
  refine wpAny_bind (wpAny_holding (draw_tuple hlt items.size 0 _ _ ⟨_, Heap.get?_push_size _ rfl, rfl, rfl⟩ (ht.push _) (by omega) fun h₁ hit₁ hs₁ => ?_))
  have hall : List.take items.size (List.drop 0 items.toList) = items.toList := by
    rw [List.drop_zero]; exact List.take_of_length_le (by simp)
  rw [hall]
  rw [if_neg (by simp)]
  have ht₁ : IsTup h₁ t items := (ht.push _).extBut hs₁.extBut hlt
  have hot₁ : HotAt A x1 h₁ := hot_kept hot fun o e => hs₁.extBut _ _ hx1 (Heap.get?_push_of_some _ e)
  refine wpAny_bind (wpAny_holding (tuple_end_hot hot₁ hx1 hit₁ ht₁ (by simp) fun h₂ he₂ => ?_))
  simp only [Option.isSome_none, Bool.false_eq_true, if_false]
  exact wpAny_pure (hQ h₂ fun b o hb e => he₂ b o hb (hs₁.extBut b o hb (Heap.get?_push_of_some _ e)))
theorem assign_hot {env : Env} {elts : List Expr} {k : Nat} {pos : Pos} {t x1 : Addr} {items : Array Value} {Q : Unit → Shared → Prop} (hot : HotAt A x1 s.heap) (ht : IsTup s.heap t items)
    (hn : (assignEach elts env).length = items.size) (hstar : (assignEach elts env).findIdx? (·.1) = none)
    (h : ∀ h', Heap.ExtBut s.heap.objs.size s.heap h' → wpAny (model prog w) A (assignInOrder ((assignEach elts env).map (·.2)) items.toList) Q E { s with heap := h' }) :
    wpAny (model prog w) A (assign (.Tuple elts k pos) env (.ref t)) Q E s := by
  rw [assign_Tuple]
  refine wpAny_bind (wpAny_standAt ?_)
  unfold unpack
  rw [hn, hstar]
  exact wpAny_bind (wpAny_holding (unpackItems_hot hot ht h))
end
end HotY

namespace L2
open PySem PySem.Spec PyProof.Rows HotX
/-- an error is handled: in every state of the context it stands as it must -/
def Hot (Y : Cx) : Prop := ∀ (pins : List (Addr × Obj)) (σ : St) (H : Hp) (s : Shared), Inv Y pins σ H s → ∃ x1, HotAt Y.A x1 s.heap ∧ H x1 = none
structure HotS (Y : Cx) : Prop where
  ex : ∃ a, Y.A.handled = some (.ref a) ∧ (∃ (o : Obj) (vs : Array Value), Y.s_0.heap.get? a = some o ∧ o.data = .fields vs ∧ vs[2]? = some .none) ∧ Y.H_0 a = none ∧ a ∉ Y.ex
theorem HotS.hot {Y : Cx} (h : HotS Y) : Hot Y := fun pins σ H s I => by
  obtain ⟨a, hh, ⟨o, vs, e, d, c⟩, h0, hx⟩ := h.ex
  have nf : a ∉ Y.fs := fun z => by
    obtain ⟨_, o', e', hnf⟩ := I.ok.funs.mem z
    rw [e] at e'; cases e'
    exact hnf _ d
  exact ⟨a, ⟨hh, o, vs, I.base.keep a o e h0 nf hx, d, c⟩, I.base.free a o e h0 hx⟩
theorem hot_suite {X : Cx} {a : Addr} {oe : Obj} {cls : Value} {d : Option Addr} {pn : List (Addr × Obj)} (hz : L2N.Zn cls d oe) (hf : ∃ vs, oe.data = .fields vs) : Hot (X.suite a ((a, oe) :: pn)) := fun pins σ H s I => by
  obtain ⟨e, h0, _⟩ := I.pin (a, oe) (List.mem_append_left _ List.mem_cons_self)
  obtain ⟨vs, hv⟩ := hf
  exact ⟨a, ⟨rfl, oe, vs, e, hv, hz.2.2 vs hv⟩, h0⟩
theorem pg_tupH {X : Cx} {es : List Expr} {k : Nat} {pos : Pos} {t : TGs} {n : Nat} (hot : Hot X) (h : PGs X es t)
    (hn : (assignEach es X.env).length = n) (hst : (assignEach es X.env).findIdx? (·.1) = none) : PG X (.Tuple es k pos) (gTup X.K n t) := by
  refine ⟨fun pins s σ H v u Q I r hw => ?_⟩
  obtain ⟨a, xs, e1, hq, hl, hw⟩ := hw
  subst e1
  cases r
  obtain ⟨its, rv, ht, hz⟩ := I.tuple hq
  obtain ⟨x1, ha, _⟩ := hot pins σ H s I
  refine HotY.assign_hot ha ht (by simp [hn, ← hl, rv.length]) hst fun h' hx => ?_
  have I1 : Inv X pins σ H { s with heap := h' } := I.kept (t' := s.toks) fun b o e => hx b o (Nat.ne_of_lt (Heap.lt_size e)) e
  exact h.run pins _ σ H xs _ Q I1 (by simpa using rv) hw
section
variable {X : Cx}
/-- [elt for target in l if ..] while an error is handled: the walk -/
theorem lc_coreH {pins : List (Addr × Obj)} {s : Shared} {σ : St} {H : Hp} {Q : VK} {elt tg l : Expr} {ifs : List Expr} {scope : Scope} {own : List (Str × Nat)} {pos pos' : Pos} {tl : TE} {g : TG} {tt : TT} {te : TE} {use : Option (Value → Sem Unit)} {Qf : Value → Shared → Prop} (hot : Hot X) (hN : X.N.Nodup) (I : Inv X pins σ H s) (hl : PE X l tl) (ok : BlkOk X.N X.env.scope scope own)
    (hg : ∀ (s : Shared) (H : Hp) (C : Addr) (cl : List (Str × Addr)) (fp : List Addr), Hot (X.blk s H scope (compEnvC scope cl C X.env) fp) → PG (X.blk s H scope (compEnvC scope cl C X.env) fp) tg g) (ht : ∀ (s : Shared) (H : Hp) (C : Addr) (cl : List (Str × Addr)) (fp : List Addr), PTs (X.blk s H scope (compEnvC scope cl C X.env) fp) ifs tt)
    (he : ∀ (s : Shared) (H : Hp) (C : Addr) (cl : List (Str × Addr)) (fp : List Addr), PE (X.blk s H scope (compEnvC scope cl C X.env) fp) elt te) (hs : ∀ x, foldedSetIterable l X.env x = pure x)
    (h : tLc (iList X.K tl) g tt te (own.map (·.2)) σ H Q)
    (hRR : ∀ D C s' m H', Inv X pins σ H' s' → Q (.ref D) H' → s'.heap.Ns C m → FpOk X pins H' C → compPost (model X.prog X.w) X.A X.xe use Qf (.ref D) C (.ok .next) s') :
    wpAny (model X.prog X.w) X.A (comprehension (.ListComp elt [⟨tg, l, ifs, 0⟩] scope pos) scope X.env pos' (newList []) false (eval l X.env) use) Qf X.xe s := by
  have hfree : ∀ y ∈ scope.names, y.2 = .free → ∃ c, X.env.cells.lookup y.1 = some c := fun y hy e => by
    rcases ok.free y hy e with k | k
    · exact I.ok.has _ (.inl k)
    · exact I.ok.has _ (.inr k)
  refine wpAny_comprehension_free (use := use) rfl hs (closure_ok hfree) ok.kind (fun y hy e => by rw [ok.uniq y hy, e])
    (thn (hl.run pins s σ H _ I h) fun xv s1 hx => ?_)
  obtain ⟨x0, H1, I1, r1, a, ex0, ⟨xs, hq⟩, q1⟩ := hx
  subst ex0
  cases r1
  obtain ⟨its, rv, p, hz⟩ := I1.list hq
  refine wpAny_pyIter_list p.isList ?_
  generalize hit : s1.heap.objs.size = it
  have st2 : Heap.IsListIter (s1.heap.push { cls := .type "list_iterator", data := .fields #[.ref a, .int 0 0] }) it a 0 := ⟨_, by rw [← hit]; exact Heap.get?_push_size _ rfl, rfl, rfl⟩
  have I2 : Inv X pins σ H1 { s1 with heap := s1.heap.push { cls := .type "list_iterator", data := .fields #[.ref a, .int 0 0] } } := I1.kept (t' := s1.toks) fun b o e => Heap.get?_push_of_some _ e
  have T : Turn X.prog X.w X.K tg (Itl X.K a) [it] it (fun i h => h.IsListIter it a i) := turn_list a it
  have f2 : ∀ b ∈ [it], FpOk X pins H1 b := fun b hb => by
    have e : b = it := by simpa using hb
    rw [e, ← hit]
    exact I1.fpOk (Nat.le_refl _) (I1.hok.fresh (Nat.le_refl _))
  generalize hs2 : ({ s1 with heap := s1.heap.push { cls := .type "list_iterator", data := .fields #[.ref a, .int 0 0] } } : Shared) = s2 at I2
  have st2' : s2.heap.IsListIter it a 0 := by rw [← hs2]; exact st2
  show wpAny _ _ _ _ _ s2
  refine wpAny_newObj_type (newEnv_comp ?_) (by show 0 ≤ sizeLine; decide)
  generalize hD : s2.heap.objs.size = D
  have hDn : H1 D = none := I2.hok.fresh (Nat.le_of_eq hD)
  obtain ⟨W, ⟨m0, w0⟩, turn⟩ := q1 D hDn
  generalize hs3 : ({ s2 with heap := s2.heap.push { cls := .type "list", data := .seq ([] : List Value).toArray } } : Shared) = s3
  have I3 : Inv X pins σ (upd H1 D (.lst [])) s3 := by
    rw [← hs3]
    refine I2.laid (t' := s2.toks) (fun b o e => Heap.get?_push_of_some _ e) (Nat.le_of_eq hD) ⟨Nat.zero_le _, [], 0, .nil, ?_⟩
    rw [← hD]
    exact Heap.get?_push_size _ rfl
  have h3 : s3.heap = s2.heap.push { cls := .type "list", data := .seq ([] : List Value).toArray } := by rw [← hs3]
  have ltit : it < s2.heap.objs.size := by
    obtain ⟨o, e, _⟩ := st2'
    exact Heap.lt_size e
  have f3 : ∀ b ∈ [it], FpOk X pins (upd H1 D (.lst [])) b ∧ b < s3.heap.objs.size := fun b hb => by
    have eb : b = it := by simpa using hb
    have hlt : b < s2.heap.objs.size := by rw [eb]; exact ltit
    refine ⟨⟨?_, (f2 b hb).2⟩, by rw [h3, Heap.size_push]; exact Nat.lt_succ_of_lt hlt⟩
    rw [upd_ne (by rw [← hD]; exact Nat.ne_of_lt hlt)]
    exact (f2 b hb).1
  have st3 : s3.heap.IsListIter it a 0 := T.keep _ _ _ st2' fun b _ o e => by rw [h3]; exact Heap.get?_push_of_some _ e
  have I4 := block_start I3 ok hN f3
  -- the error at hand stands in the block, too
  have hotB : HotS (X.blk s3 (upd H1 D (.lst [])) scope (compEnvC scope (cellsFrom (s3.heap.objs.size + 1) scope.names (cloFrom X.env.cells scope.names [])) s3.heap.objs.size X.env) [it]) := by
    obtain ⟨x1, ⟨hh, o, vs, e, d, c⟩, n⟩ := hot pins σ _ s3 I3
    refine ⟨x1, hh, ⟨o, vs, e, d, c⟩, n, fun z => ?_⟩
    have eb : x1 = it := by simpa using z
    obtain ⟨o', e', _, d'⟩ := st3
    rw [eb, e'] at e
    cases e
    rw [d'] at d
    cases d
    simp at c
  have hotB' := hotB.hot
  have pg := hg s3 (upd H1 D (.lst [])) s3.heap.objs.size (cellsFrom (s3.heap.objs.size + 1) scope.names (cloFrom X.env.cells scope.names [])) [it] hotB'
  have pt := ht s3 (upd H1 D (.lst [])) s3.heap.objs.size (cellsFrom (s3.heap.objs.size + 1) scope.names (cloFrom X.env.cells scope.names [])) [it]
  have pe := he s3 (upd H1 D (.lst [])) s3.heap.objs.size (cellsFrom (s3.heap.objs.size + 1) scope.names (cloFrom X.env.cells scope.names [])) [it]
  show codeAny _ _ (.compStart (.ListComp elt [⟨tg, l, ifs, 0⟩] scope pos) 0 (.ref it) (.ref D) (compEnvC scope (cellsFrom (s3.heap.objs.size + 1) scope.names (cloFrom X.env.cells scope.names [])) s3.heap.objs.size X.env)) _ { s3 with heap := pushCells (s3.heap.push { cls := .type "dict", data := .dict #[] }) scope.names }
  have nfp : ∀ b ∈ [it], (upd H1 D (.lst [])) b = none := fun b hb => (f3 b hb).1.1
  generalize hce : compEnvC scope (cellsFrom (s3.heap.objs.size + 1) scope.names (cloFrom X.env.cells scope.names [])) s3.heap.objs.size X.env = ce at I4 pg pt pe hotB hotB' ⊢
  have cL : ce.locals = s3.heap.objs.size := by subst hce; rfl
  generalize hH3 : upd H1 D (.lst []) = H3 at I3 I4 pg pt pe w0 nfp f3 hotB hotB'
  generalize hs4 : ({ s3 with heap := pushCells (s3.heap.push { cls := .type "dict", data := .dict #[] }) scope.names } : Shared) = s4 at I4 ⊢
  have st4 : s4.heap.IsListIter it a 0 := T.keep _ _ _ st3 fun b _ o e => by rw [← hs4]; exact pushCells_keeps _ _ _ _ (Heap.get?_push_of_some _ e)
  have stat : ∀ {σ' : St} {H' : Hp} {s' : Shared}, Inv (X.blk s3 H3 scope ce [it]) [] σ' H' s' → (∀ b ∈ [it], H' b = none) → ∀ b ∈ [it], FpOk (X.blk s3 H3 scope ce [it]) [] H' b := fun {σ' H' s'} I' hn b hb =>
    ⟨hn b hb, (I'.ok.exf b hb).1, I'.ok.exfs b hb, .inl hb, fun x c e => (I'.ok.exf b hb).2 x c e, fun p hp => absurd (show p ∈ ([] : List (Addr × Obj)) ++ [] from hp) (by simp)⟩
  refine codeAny_compStart_list ?loop (T.self X.A 0 _ _ _ st4 ?loop)
  refine compLoop_any (fun n s' => ∃ i H', Inv (X.blk s3 H3 scope ce [it]) [] (wipe σ (own.map (·.2))) H' s' ∧ s'.heap.IsListIter it a i ∧ (∀ b ∈ [it], H' b = none) ∧ W i n H') ?_ m0 ⟨0, H3, I4, st4, nfp, w0⟩
  rintro n s5 ⟨i, H5, I5, st5, n5, w5⟩
  obtain ⟨f0, f1, g2, g3, g4, g5⟩ := stat I5 n5 it (by simp)
  rcases turn i n H5 w5 with ⟨⟨xs', hq', hx'⟩, qq⟩ | ⟨⟨xs', x', hq', hx'⟩, Nx, hNx, step⟩
  · obtain ⟨its', rv', p', hz'⟩ := I5.list hq'
    obtain ⟨x1, ha, hx1⟩ := hotB' _ _ _ _ I5
    have hne : x1 ≠ it := fun z => by
      obtain ⟨_, o, vs, e, d, c⟩ := ha
      obtain ⟨o', e', _, d'⟩ := st5
      rw [z, e'] at e
      cases e
      rw [d'] at d
      cases d
      simp at c
    have hlen := rv'.length
    refine thnF (HotY.list_end_hot (Q := fun r s6 => r = none ∧ Inv (X.blk s3 H3 scope ce [it]) [] (wipe σ (own.map (·.2))) H5 s6) ha hne st5 p'.isList (by simp; omega) fun h' eb => ⟨rfl, I5.turned (t' := s5.toks) (fun b o hb e => eb b o hb e) f0 f1 g3 g4 g5⟩) fun r s6 ⟨hr, I6⟩ => ?_
    subst hr
    have I7 : Inv X pins σ H5 s6 := I3.call' (ch := [it]) I6.os I6.base I6.hok I6.bare fun b hb => ⟨(f3 b hb).1.2.2.2.1, (f3 b hb).1.2.1, (f3 b hb).1.2.2.2.2.1, (f3 b hb).1.2.2.2.2.2⟩
    have nC : H5 s3.heap.objs.size = none := by
      have z : H5 ce.locals = none := I6.free
      rw [cL] at z
      exact z
    obtain ⟨m, hn, _⟩ := I6.loc
    have hn : s6.heap.Ns ce.locals m := hn
    rw [cL] at hn
    have fC := I3.fpOk (Nat.le_refl _) nC
    exact hRR D s3.heap.objs.size s6 m H5 I7 qq hn fC
  · obtain ⟨its', rv', p', hz'⟩ := I5.list hq'
    obtain ⟨u, hu, ru⟩ := rv'.get hx'
    refine wpAny_pyNext_list_item st5 p'.isList (x := u) (by simpa using hu) fun h' st' sb => ?_
    have I6 : Inv (X.blk s3 H3 scope ce [it]) [] (wipe σ (own.map (·.2))) H5 { s5 with heap := h' } := I5.turned (t' := s5.toks) (fun b o hb e => (sb.2 b hb).trans e) f0 f1 g3 g4 g5
    obtain ⟨o, e, c, d⟩ := id st'
    refine thnF (go_of (s := { s5 with heap := h' }) (Q := fun _ s7 => s7 = { s5 with heap := h' }) e c d (by decide) rfl) fun _ s7 hs7 => ?_
    subst hs7
    have I7' := I6.pinned (stat I6 n5) (T.obj _ _ st')
    refine thnF (pg.run _ _ _ H5 x' u _ I7' ru (step x' H5 ⟨rfl, fun ys hy => by rw [I6.list_inj hy hq']; exact hx'⟩)) fun _ s8 ⟨σ8, H8, I8, hw8, q8⟩ => ?_
    refine thnF (pt.run _ s8 σ8 H8 _ I8 q8) fun b s9 ⟨H9, I9, q9⟩ => ?_
    have fin : ∀ {s' : Shared} {H' : Hp}, Inv (X.blk s3 H3 scope ce [it]) ([] ++ pinsAt [it] h') σ8 H' s' → Nx H' → ∃ m, m < n ∧ ∃ i H', Inv (X.blk s3 H3 scope ce [it]) [] (wipe σ (own.map (·.2))) H' s' ∧ s'.heap.IsListIter it a i ∧ (∀ b ∈ [it], H' b = none) ∧ W i m H' := fun {s' H'} I' nx => by
      obtain ⟨m', hm, w'⟩ := hNx H' nx
      have pin' : ∀ b ∈ [it], ∀ o, h'.get? b = some o → s'.heap.get? b = some o ∧ H' b = none := fun b hb o e =>
        let z := I'.pin (b, o) (List.mem_append_right _ (List.mem_append_right _ (mem_pinsAt hb e)))
        ⟨z.1, z.2.1⟩
      have hl : (wipe σ (own.map (·.2))).length = σ8.length := by rw [← hw8, wipe_length]
      refine ⟨m', hm, i + 1, H', (I'.unpinned (pins := [])).weak hl (fun j v e => ?_), T.keep _ _ _ st' fun b hb o e => (pin' b hb o e).1, fun b hb => ?_, w'⟩
      · rw [← hw8] at e
        exact (wipe_some e).1
      · obtain ⟨o, e, _⟩ := T.obj _ _ st' b hb
        exact (pin' b hb o e).2
    cases b with
    | false =>
      simp only [Bool.false_eq_true, if_false] at q9 ⊢
      exact fin I9 q9
    | true =>
      simp only [if_true] at q9 ⊢
      refine thnF (pe.run _ s9 σ8 H9 _ I9 q9) fun z s10 ⟨yv, H10, I10, r10, acc, hD10, hz10, nx⟩ => ?_
      exact app_ok (X := X.blk s3 H3 scope ce [it]) I10 hD10 hz10 r10 fun s11 I11 => fin I11 nx
/-- as a value -/
theorem pe_lcH {elt tg l : Expr} {ifs : List Expr} {scope : Scope} {own : List (Str × Nat)} {pos : Pos} {tl : TE} {g : TG} {tt : TT} {te : TE} (hot : Hot X) (hN : X.N.Nodup) (hl : PE X l tl) (ok : BlkOk X.N X.env.scope scope own)
    (hg : ∀ (s : Shared) (H : Hp) (C : Addr) (cl : List (Str × Addr)) (fp : List Addr), Hot (X.blk s H scope (compEnvC scope cl C X.env) fp) → PG (X.blk s H scope (compEnvC scope cl C X.env) fp) tg g) (ht : ∀ (s : Shared) (H : Hp) (C : Addr) (cl : List (Str × Addr)) (fp : List Addr), PTs (X.blk s H scope (compEnvC scope cl C X.env) fp) ifs tt)
    (he : ∀ (s : Shared) (H : Hp) (C : Addr) (cl : List (Str × Addr)) (fp : List Addr), PE (X.blk s H scope (compEnvC scope cl C X.env) fp) elt te) (hs : ∀ x, foldedSetIterable l X.env x = pure x) :
    PE X (.ListComp elt [⟨tg, l, ifs, 0⟩] scope pos) (tLc (iList X.K tl) g tt te (own.map (·.2))) := by
  refine ⟨fun pins s σ H Q I h => ?_⟩
  rw [eval_ListComp]
  refine lc_coreH hot hN I hl ok hg ht he hs h fun D C s' m H' I' q hn f => ⟨m, hn, fun h'' sb => ?_⟩
  obtain ⟨f0, f1, f2, f3, f4, f5⟩ := f
  exact ⟨.ref D, H', I'.turned (t' := s'.toks) (fun b o hb e => (sb.2 b hb).trans e) f0 f1 f3 f4 f5, rfl, q⟩
/-- name = [..] on one line, the name a local -/
theorem ps_setLcH {i : Nat} {y : Str} {py : Pos} {elt tg l : Expr} {ifs : List Expr} {scope : Scope} {own : List (Str × Nat)} {pos spos : Pos} {tl : TE} {g : TG} {tt : TT} {te : TE} (hot : Hot X) (hN : X.N.Nodup) (hy : X.N[i]? = some y) (hyl : X.env.scope.names.lookup y = some .local)
    (hsw : swapsWith (.ListComp elt [⟨tg, l, ifs, 0⟩] scope pos) (some (.Name y py)) spos.line X.env = pure true) (hl : PE X l tl) (ok : BlkOk X.N X.env.scope scope own)
    (hg : ∀ (s : Shared) (H : Hp) (C : Addr) (cl : List (Str × Addr)) (fp : List Addr), Hot (X.blk s H scope (compEnvC scope cl C X.env) fp) → PG (X.blk s H scope (compEnvC scope cl C X.env) fp) tg g) (ht : ∀ (s : Shared) (H : Hp) (C : Addr) (cl : List (Str × Addr)) (fp : List Addr), PTs (X.blk s H scope (compEnvC scope cl C X.env) fp) ifs tt)
    (he : ∀ (s : Shared) (H : Hp) (C : Addr) (cl : List (Str × Addr)) (fp : List Addr), PE (X.blk s H scope (compEnvC scope cl C X.env) fp) elt te) (hs : ∀ x, foldedSetIterable l X.env x = pure x) :
    PS X (.Assign [.Name y py] (.ListComp elt [⟨tg, l, ifs, 0⟩] scope pos) spos) (tAsg (tLc (iList X.K tl) g tt te (own.map (·.2))) (gName i)) := by
  refine ⟨fun pins s σ H D I h => ?_⟩
  rw [exec_Assign_Name_used _ _ _ _ hsw]
  refine wpAny_bind (wpAny_standAt (wpAny_bind ?_))
  show wpAny _ X.A (do let _ ← comprehension (.ListComp elt [⟨tg, l, ifs, 0⟩] scope pos) scope X.env (firstIterPos [⟨tg, l, ifs, 0⟩] pos) (newList []) false (eval l X.env) (some (assign (.Name y py) X.env))) _ _ s
  have h : tLc (iList X.K tl) g tt te (own.map (·.2)) σ H (fun x H1 => gName i x σ H1 D.nx) := h
  refine wpAny_bind (thn (lc_coreH (Qf := fun _ s' => SP X pins D .next s') hot hN I hl ok hg ht he hs h fun L C s' m H' I' q hn f => ?_) fun _ s' hq => wpAny_pure (wpAny_pure hq))
  show wpAny _ _ (assign (.Name y py) X.env (.ref L)) _ _ _
  refine wpAny_assign_Name (store_ok2 (v := V.ref L) I' hN hy (.inl hyl) rfl (fun s2 I2 ⟨a, sb, ha⟩ => ?_) (.inr hyl))
  obtain ⟨f0, f1, f2, f3, f4, f5⟩ := f
  have haC : C ≠ a := by
    rcases ha with z | z
    · rw [z]; exact f1
    · exact fun e => f4 y a z e.symm
  refine ⟨m, hn.sameBut sb haC, fun h3 sb3 => ?_⟩
  exact ⟨_, H', I2.turned (t' := s2.toks) (fun b o hb e => (sb3.2 b hb).trans e) f0 f1 f3 f4 f5, q⟩
end
end L2
set_option Elab.async false
set_option linter.all false
set_option maxRecDepth 100000
set_option maxHeartbeats 1000000
/-! MKj: repr; a caught error: isinstance, its field; a def that calls what it got. -/
namespace MK
open PySem PySem.Spec PyProof.Rows L2
variable {cz : Cxx} [Tb]

/-! ### repr -/
def fRepr : SV → Mm SV
  | .val d => mB (guard (d.showable && (!d.hasDict && (decide (d.depth ≤ 20) && decide (d.shown.length ≤ 10000))))) fun _ => mP (.val (.str d.shown))
  | _ => mStuck
section
variable {X : Cx} {E : XK} {pins : List (Addr × Obj)} {σ : L2.St} {H : Hp} {s : Shared} {g : Gh}
mutual
theorem reads_of (I : Inv X pins σ H s) : ∀ {d : PyData} {v : V} {u : Value}, RD X.K g H v d → RelV v u → ∃ as, Reads s.heap u d as
  | .none, _, _, h, r => by cases h; cases (show _ = Value.none from r); exact ⟨_, .none⟩
  | .bool b, _, _, h, r => by cases h; cases (show _ = Value.bool b from r); exact ⟨_, .bool b⟩
  | .int i, _, _, h, r => by cases h; obtain ⟨t, q⟩ := (show ∃ t, _ = Value.int i t from r); rw [q]; exact ⟨_, .int i t⟩
  | .str x, _, _, h, r => by cases h; obtain ⟨t, q⟩ := (show ∃ t, _ = Value.str x t from r); rw [q]; exact ⟨_, .str x t⟩
  | .list ds, _, _, h, r => by
    cases h with
    | @lst a xs _ h1 h2 =>
      cases (show _ = Value.ref a from r)
      obtain ⟨_, its, n, rv, e⟩ := (show ObjOk X.prog X.w H s.heap a (.lst xs) from h1.1.ok I.hok)
      obtain ⟨as, ra⟩ := readsAll_of I h2 rv
      exact ⟨_, .list e rfl rfl ra⟩
  | .tuple ds, _, _, h, r => by
    cases h with
    | @tup a xs _ h1 h2 =>
      cases (show _ = Value.ref a from r)
      rcases h1 with h1 | ⟨o, its, n, e, c, d, _, rv⟩
      · obtain ⟨_, its, rv, o, e, c, n, d⟩ := (show ObjOk X.prog X.w H s.heap a (.tup xs) from h1.ok I.hok)
        obtain ⟨as, ra⟩ := readsAll_of I h2 rv
        exact ⟨_, .tuple e c d ra⟩
      · obtain ⟨as, ra⟩ := readsAll_of I h2 rv
        exact ⟨_, .tuple (I.kIn _ _ e) c d ra⟩
  | .dict _, _, _, h, _ => by cases h
theorem readsAll_of (I : Inv X pins σ H s) : ∀ {ds : List PyData} {vs : List V} {us : List Value}, RDs X.K g H vs ds → Vals vs us → ∃ as, ReadsAll s.heap us ds as
  | [], _, _, h, r => by cases h; cases r; exact ⟨_, .nil⟩
  | d :: ds, _, _, h, r => by
    cases h with
    | cons h1 h2 =>
      cases r with
      | cons r1 r2 =>
        obtain ⟨as, q⟩ := reads_of I h1 r1
        obtain ⟨bs, q2⟩ := readsAll_of I h2 r2
        exact ⟨_, .cons q q2⟩
end
def rRepr (K : PySem.W.Frag) : List V → Hp → VK → Prop := fun xs H Q => ∃ v d g, xs = [v] ∧ RD K g H v d ∧ d.showable = true ∧ d.hasDict = false ∧ d.depth ≤ 20 ∧ d.shown.length ≤ 10000 ∧ Q (.str d.shown) H
theorem call_repr (hg : X.A.guards = some []) (hu : X.A.units + 30 < cLine) : CallR X (.builtin "repr") (rRepr X.K) := by
  intro pins s σ H xs us Q I r h
  obtain ⟨v, d, g, rfl, rd, h1, h2, h3, h4, q⟩ := h
  cases r with
  | @cons _ u _ us' ru rn =>
    cases rn
    have hz : d.shown.length ≤ sizeLine := by rw [sizeLine_eq]; omega
    obtain ⟨as, R⟩ := reads_of I rd ru
    cases rd with
    | non => cases (show u = Value.none from ru); exact PySem.P.repr_of_none ⟨.str _, H, I.tok _, ⟨_, rfl⟩, q⟩
    | bl b => cases (show u = Value.bool b from ru); exact PySem.P.repr_of_bool ⟨.str _, H, I.tok _, ⟨_, rfl⟩, by simpa only [PyData.shown] using q⟩
    | int i =>
      obtain ⟨t, e⟩ := (show ∃ t, u = Value.int i t from ru)
      subst e
      exact PySem.P.repr_of_int (by simpa only [PyData.showable, decide_eq_true_eq] using h1) ⟨.str _, H, I.tok _, ⟨_, rfl⟩, by simpa only [PyData.shown] using q⟩
    | str x =>
      obtain ⟨t, e⟩ := (show ∃ t, u = Value.str x t from ru)
      subst e
      exact PySem.P.repr_of_str ⟨.str _, H, I.tok _, ⟨_, rfl⟩, by simpa only [PyData.shown] using q⟩ (by simpa only [PyData.shown] using hz)
    | @lst a _ _ _ _ =>
      cases (show u = Value.ref a from ru)
      exact repr_of_reads' R h1 (PyData.noDict_hsm h2) hg (by omega) (fun _ _ z => z) (fun h' u tk k => ⟨.str _, H, I.kept k, ⟨_, rfl⟩, q⟩) hz
    | @tup a _ _ _ _ =>
      cases (show u = Value.ref a from ru)
      exact repr_of_reads' R h1 (PyData.noDict_hsm h2) hg (by omega) (fun _ _ z => z) (fun h' u tk k => ⟨.str _, H, I.kept k, ⟨_, rfl⟩, q⟩) hz
end
section
variable {X : Cx} {E : XK} {e : Expr} {ma : Em} {p p2 pos : Pos}
theorem me_repr (hgd : X.A.guards = some []) (hu : X.A.units + 30 < cLine) (ha : ME X E e ma) (hg : Gl X "repr") (hm : X.mg "repr" = none)
    (he : starEach [e] X.env = (false, eval e X.env) :: starEach [] X.env := by rfl) (hpl : (backTo pos (starEach [] X.env)).any (·.1) = false := by rfl) :
    ME X E (.Call (.Name "repr" p) [e] [] pos) (eOp1 fRepr ma) := by
  refine PEwk (pe_callB (call_repr hgd hu) hg hm (by first | exact PyProof.Rows.Boot.«repr» | kernel_rfl) (pa_cons ha pa_nil he) (by decide) (by decide) he hpl) fun σ H Q ⟨g, ρ, S, V, o⟩ => ?_
  refine ⟨g, ρ, S, V, o.bind.mono fun dx g1 H1 S1 L1 o1 v rv => ?_⟩
  cases dx with
  | ref n => exact o1.elim
  | rng _ _ => exact o1.elim
  | exc _ => exact o1.elim
  | val d =>
    obtain ⟨c, o1⟩ := guard_of S1 o1.bind
    simp only [Bool.and_eq_true, Bool.not_eq_true', decide_eq_true_eq] at c
    exact ⟨v, d, g1, rfl, rv, c.1, c.2.1, c.2.2.1, c.2.2.2, o1.pure S1 _ (RD.str _)⟩
end

/-! ### while an error is handled -/
theorem mg_tupH {X : Cx} {E : XK} {ws : List Nat} {ts : List Expr} {k n : Nat} {t : Gsm} {pos : Pos} (hot : Hot X) (h : MGs X E ws ts t) (hn : (assignEach ts X.env).length = n) (hst : (assignEach ts X.env).findIdx? (·.1) = none) : MG X E ws (.Tuple ts k pos) (gTup n t) := by
  refine PGwk (pg_tupH hot h hn hst) fun v σ H Q ⟨g, ρ, d, S, V, r, o⟩ => ?_
  unfold gTup at o
  split at o
  · obtain ⟨c, o⟩ := guard_of S o.bind
    cases r with
    | tup h1 h2 => exact ⟨_, _, rfl, h1, by rw [h2.length]; exact of_decide_eq_true c, g, ρ, _, S, V, h2, o⟩
  · exact o.stuck.elim
/-- over a list by value -/
def iLsH (a : Em) : Im := fun ρ => mB (a ρ) fun d => match d with
  | .val (.list xs) => mP xs
  | _ => mStuck
theorem lcH_read {X : Cx} {E : XK} {ma : Em} {t : Gm} {tc : Tm} {te : Em} {vs : List Nat} {o : Bool} {σ : L2.St} {H : Hp} {Q : VK} (q : tM X.K (cx X) X.mg E (eLc o (iLsH ma) t tc te vs) σ H Q) :
    tLc (iList X.K (tM X.K (cx X) X.mg E ma)) (tG X.K none X.mg E0 vs t) (tT X.K none X.mg E0 tc) (tM X.K none X.mg E0 te) vs σ H Q := by
  have r := lc_read q
  obtain ⟨g, ρ, S, V, out⟩ := r
  refine ⟨g, ρ, S, V, out.bind.mono fun d g1 H1 S1 L1 o1 v rv => ?_⟩
  cases d with
  | ref n => exact o1.elim
  | rng _ _ => exact o1.elim
  | exc _ => exact o1.elim
  | val d =>
    cases d with
    | list xs =>
      have P := o1.pure S1
      cases rv with
      | @lst a vs _ h1 h2 =>
        refine ⟨a, rfl, ⟨vs, h1.sq⟩, ?_⟩
        refine P (ItsS X.K false a) (ien_src fun g' H' k => ?_)
        have := k.rd (RD.lst h1 h2)
        cases this with
        | lst h3 h4 => exact ⟨_, h3.sq, h4⟩
    | _ => exact o1.elim
section
variable {X : Cx} {E : XK} {elt tg l : Expr} {ifs : List Expr} {ma : Em} {t : Gm} {tc : Tm} {te : Em} {pos spos p' : Pos} {scope : Scope} {o : Bool} {x : Str}
theorem me_lcH (own' : List (Str × Nat)) (hot : Hot X) (hN : X.N.Nodup) (ha : ME X E l ma)
    (hg : ∀ (s : Shared) (H : Hp) (C : Addr) (cl : List (Str × Addr)) (fp : List Addr), Hot (X.blk s H scope (compEnvC scope cl C X.env) fp) → MG (X.blk s H scope (compEnvC scope cl C X.env) fp) E0 (own'.map (·.2)) tg t)
    (ht : ∀ (s : Shared) (H : Hp) (C : Addr) (cl : List (Str × Addr)) (fp : List Addr), MTs (X.blk s H scope (compEnvC scope cl C X.env) fp) E0 ifs tc)
    (he : ∀ (s : Shared) (H : Hp) (C : Addr) (cl : List (Str × Addr)) (fp : List Addr), ME (X.blk s H scope (compEnvC scope cl C X.env) fp) E0 elt te)
    (ok : blkC X.N X.env.scope scope own' = true := by rfl) (hs : ∀ x, foldedSetIterable l X.env x = pure x := by intro _; rfl) : ME X E (.ListComp elt [⟨tg, l, ifs, 0⟩] scope pos) (eLc o (iLsH ma) t tc te (own'.map (·.2))) :=
  PEwk (pe_lcH (g := tG X.K none X.mg E0 (own'.map fun p : Str × Nat => p.2) t) (tt := tT X.K none X.mg E0 tc) (te := tM X.K none X.mg E0 te) hot hN ha (blkOk_by ok) hg ht he hs) fun σ H Q q => lcH_read q
theorem ssetLcH (i : Nat) (own' : List (Str × Nat)) (hot : Hot X) (hN : X.N.Nodup) (ha : ME X E l ma)
    (hg : ∀ (s : Shared) (H : Hp) (C : Addr) (cl : List (Str × Addr)) (fp : List Addr), Hot (X.blk s H scope (compEnvC scope cl C X.env) fp) → MG (X.blk s H scope (compEnvC scope cl C X.env) fp) E0 (own'.map (·.2)) tg t)
    (ht : ∀ (s : Shared) (H : Hp) (C : Addr) (cl : List (Str × Addr)) (fp : List Addr), MTs (X.blk s H scope (compEnvC scope cl C X.env) fp) E0 ifs tc)
    (he : ∀ (s : Shared) (H : Hp) (C : Addr) (cl : List (Str × Addr)) (fp : List Addr), ME (X.blk s H scope (compEnvC scope cl C X.env) fp) E0 elt te)
    (hy : X.N[i]? = some x := by rfl) (hyl : X.env.scope.names.lookup x = some .local := by rfl) (hsw : swapsWith (.ListComp elt [⟨tg, l, ifs, 0⟩] scope pos) (some (.Name x p')) spos.line X.env = pure true := by rfl)
    (ok : blkC X.N X.env.scope scope own' = true := by rfl) (hs : ∀ x, foldedSetIterable l X.env x = pure x := by intro _; rfl) :
    MS X E (.Assign [.Name x p'] (.ListComp elt [⟨tg, l, ifs, 0⟩] scope pos) spos) (sAsg (eLc o (iLsH ma) t tc te (own'.map (·.2))) (gVar i)) := by
  refine PSwk (ps_setLcH (i := i) (g := tG X.K none X.mg E0 (own'.map fun p : Str × Nat => p.2) t) (tt := tT X.K none X.mg E0 tc) (te := tM X.K none X.mg E0 te) hot hN hy hyl hsw ha (blkOk_by ok) hg ht he hs) fun D σ H ⟨g, ρ, S, V, q⟩ => ?_
  refine lcH_read (Q := fun x H1 => gName i x σ H1 D.nx) ⟨g, ρ, S, V, q.bind.mono fun d g1 H1 S1 L1 o1 v r => ?_⟩
  exact (o1.bind.pure S1).pure S1 _ ((V.mono S L1).set r i)
end
/-- what the class nm, at C, must bear so that isinstance asks its errors rightly -/
structure ExI (K : PySem.W.Frag) (mg : Mg) (nm : Str) : Prop where
  ex : ∃ C, mg nm = some (.ref C) ∧ ExcC K C ∧ (PySem.W.clsIn K C).isSome = true
/-- isinstance(e, c) for the caught error -/
def fIsE (tb : List (Str × Bool)) : SV → Mm SV
  | .exc x => match tb.lookup x.cls with
    | some b => mP (.val (.bool b))
    | none => mStuck
  | _ => mStuck
/-- the table tb tells rightly which errors are of the class cv -/
def IsTab (K : PySem.W.Frag) (mg : Mg) (cv : Value) (tb : List (Str × Bool)) : Prop := ∀ p ∈ tb, ∃ C, mg p.1 = some (.ref C) ∧ ExcC K C ∧ (PySem.W.clsIn K C).isSome = true ∧ PySem.W.kitOne K (.ref C) cv = some p.2
def rIsEd (K : PySem.W.Frag) (a : Addr) (D : Addr) (d : Option Addr) : List V → Hp → VK → Prop := fun xs H Q => ∃ (c : V) (cv : Value) (b : Bool), xs = [.ref a, c] ∧ (∀ u, RelV c u → u = cv) ∧ (d = none ∨ ∃ dd fs, d = some dd ∧ H dd = some (.xd fs)) ∧ PySem.W.kitOne K (.ref D) cv = some b ∧ Q (.bl b) H
theorem call_isEd {X : Cx} {a D : Addr} {oe : Obj} {d : Option Addr} {pn : List (Addr × Obj)} (C : ExcC X.K D) (hc : (PySem.W.clsIn X.K D).isSome = true) (hz : Zc (.ref D) d oe) (hf : ∃ vs, oe.data = .fields vs) : CallR (X.suite a ((a, oe) :: pn)) (.builtin "isinstance") (rIsEd X.K a D d) := by
  intro pins s σ H xs us Q I r h
  obtain ⟨c, cv, b, rfl, hcv, hd, e, q⟩ := h
  cases r with
  | cons rx rr =>
    cases rr with
    | cons rt rr =>
      cases rr
      cases rx
      have ec := hcv _ rt
      subst ec
      obtain ⟨hget, _⟩ := I.pin (a, oe) (List.mem_append.mpr (.inl List.mem_cons_self))
      obtain ⟨vs, hv⟩ := hf
      have no : PySem.W.notCls oe = true := by unfold PySem.W.notCls; rw [hv] <;> rfl
      rcases hd with hd | ⟨dd, fs, hd, hx⟩
      · have J : PySem.W.InstAt s.heap a oe D none := ⟨hget, hz.1, no, by rw [hz.2, hd]; trivial⟩
        exact PySem.W.kia_one (PySem.W.kitx_exc hc C.hg C.hk C.hs C.ha C.hn C.ht C.hm) I.kIn J e (fun z => nomatch z) fun tk => ⟨.bl b, H, I.kept (t' := tk) fun _ _ z => z, rfl, q⟩
      · have hx' : ObjOk X.prog X.w H s.heap dd (.xd fs) := I.hok dd _ hx
        obtain ⟨mA, hns, hr⟩ := hx'
        obtain ⟨od, ho, hl⟩ := lookIn_ns hns
        have J : PySem.W.InstAt s.heap a oe D (some od) := ⟨hget, hz.1, no, by rw [hz.2, hd]; exact ho⟩
        exact PySem.W.kia_one (PySem.W.kitx_exc hc C.hg C.hk C.hs C.ha C.hn C.ht C.hm) I.kIn J e (fun z => nomatch z) fun tk => ⟨.bl b, H, I.kept (t' := tk) fun _ _ z => z, rfl, q⟩

section
variable {X : Cx} {E : XK} {a : Addr} {oe : Obj} {pn : List (Addr × Obj)} {e : Expr} {ma : Em} {x f : Str} {p p2 pos : Pos} {tb : List (Str × Bool)} {cv : Value} {cV : V}
def rIsX (K : PySem.W.Frag) (a : Addr) (oe : Obj) : List V → Hp → VK → Prop := fun xs H Q => ∃ (c : V) (cv : Value) (b : Bool) (D : Addr), xs = [.ref a, c] ∧ (∀ u, RelV c u → u = cv) ∧ oe.cls = .ref D ∧ ExcC K D ∧ (PySem.W.clsIn K D).isSome = true ∧
  (oe.dict = none ∨ ∃ dd fs, oe.dict = some dd ∧ H dd = some (.xd fs)) ∧ PySem.W.kitOne K (.ref D) cv = some b ∧ Q (.bl b) H
theorem call_isX (hf : ∃ vs, oe.data = .fields vs) : CallR (X.suite a ((a, oe) :: pn)) (.builtin "isinstance") (rIsX X.K a oe) := by
  intro pins s σ H xs us Q I r h
  obtain ⟨c, cv, b, D, ex, hcv, ec, C, hcl, hd, k, q⟩ := h
  exact call_isEd (d := oe.dict) C hcl ⟨ec, rfl⟩ hf pins s σ H xs us Q I r ⟨c, cv, b, ex, hcv, hd, k, q⟩
theorem lookup_mem {α : Type} {l : List (Str × α)} {k : Str} {b : α} (h : l.lookup k = some b) : (k, b) ∈ l := by
  induction l with
  | nil => cases h
  | cons p l ih =>
    obtain ⟨k', b'⟩ := p
    rw [List.lookup_cons] at h
    split at h
    · rename_i q
      cases h
      rw [beq_iff_eq.mp q]
      exact List.mem_cons_self
    · exact List.mem_cons_of_mem _ (ih h)
theorem xa_dict {K : PySem.W.Frag} {g : Gh} {H : Hp} {x : Xn} {oa : Option Addr} (h : XA K g H x oa) : oa = none ∨ ∃ dd fs, oa = some dd ∧ H dd = some (.xd fs) := by
  unfold XA at h
  cases q : x.arg with
  | none => rw [q] at h; exact .inl h
  | some p =>
    rw [q] at h
    obtain ⟨dx, v, e1, e2, _⟩ := h
    exact .inr ⟨dx, _, e1, e2⟩
theorem me_isE0 (hf : ∃ vs, oe.data = .fields vs) (ht : PE (X.suite a ((a, oe) :: pn)) (.Name x p2) (fun _ H Q => Q cV H)) (hcv : ∀ u, RelV cV u → u = cv) (T : IsTab X.K X.mg cv tb) (ha : ME (X.suite a ((a, oe) :: pn)) E e ma)
    (hg : Gl X "isinstance") (hm : X.mg "isinstance" = none) (he : starEach (e :: [Expr.Name x p2]) X.env = (false, eval e X.env) :: starEach [Expr.Name x p2] X.env) (hpl : (backTo pos (starEach [Expr.Name x p2] X.env)).any (·.1) = false)
    (he2 : starEach [Expr.Name x p2] X.env = (false, eval (.Name x p2) X.env) :: starEach [] X.env) : ME (X.suite a ((a, oe) :: pn)) E (.Call (.Name "isinstance" p) [e, .Name x p2] [] pos) (eOp1 (fIsE tb) ma) := by
  refine PEwk (pe_callB (call_isX hf) hg hm (by first | exact PyProof.Rows.Boot.«isinstance» | kernel_rfl) (pa_cons ha (pa_cons ht pa_nil he2) he) (by decide) (by decide) he hpl) fun σ H Q ⟨g, ρ, S, V, o⟩ => ?_
  refine ⟨g, ρ, S, V, o.bind.mono fun dx g1 H1 S1 L1 o1 v rv => ?_⟩
  cases dx with
  | ref n => exact o1.elim
  | rng _ _ => exact o1.elim
  | val d => exact o1.elim
  | exc xn =>
    obtain ⟨a', oe', mg', C, e1, e2, e3, e4, xa⟩ := rv
    have e1 : some (a, oe, X.mg) = some (a', oe', mg') := e1
    cases e1
    unfold fIsE at o1
    cases q : tb.lookup xn.cls with
    | none => simp only [q] at o1; exact o1.elim
    | some b =>
      simp only [q] at o1
      obtain ⟨C', m1, m2, m3, m4⟩ := T _ (lookup_mem q)
      have eC : C' = C := by
        have z := e4.symm.trans m1
        cases z; rfl
      subst eC
      exact ⟨cV, cv, b, C', by rw [e2], hcv, e3, m2, m3, xa_dict xa, m4, o1.pure S1 _ (RD.bl b)⟩
/-- isinstance(e, C), C an own class -/
theorem me_isE {D : Addr} (hf : ∃ vs, oe.data = .fields vs) (hgx : Gl X x) (hmx : X.mg x = some (.ref D)) (T : IsTab X.K X.mg (.ref D) tb) (ha : ME (X.suite a ((a, oe) :: pn)) E e ma)
    (hg : Gl X "isinstance") (hm : X.mg "isinstance" = none) (hdb : (x == ("__debug__" : Str)) = false := by decide) (he : starEach (e :: [Expr.Name x p2]) X.env = (false, eval e X.env) :: starEach [Expr.Name x p2] X.env := by rfl) (hpl : (backTo pos (starEach [Expr.Name x p2] X.env)).any (·.1) = false := by rfl)
    (he2 : starEach [Expr.Name x p2] X.env = (false, eval (.Name x p2) X.env) :: starEach [] X.env := by rfl) : ME (X.suite a ((a, oe) :: pn)) E (.Call (.Name "isinstance" p) [e, .Name x p2] [] pos) (eOp1 (fIsE tb) ma) :=
  me_isE0 (cV := .ref D) hf (PEwk (pe_glob (X := X.suite a ((a, oe) :: pn)) (v := .ref D) hgx hmx rfl hdb) fun σ H Q q => q) (fun u r => r) T ha hg hm he hpl he2
/-- isinstance(e, C), C a built-in class -/
theorem me_isEB {n : String} (hf : ∃ vs, oe.data = .fields vs) (hgx : Gl X x) (hmx : X.mg x = none) (hv : bootBuiltins x = some (.type n)) (T : IsTab X.K X.mg (.type n) tb) (ha : ME (X.suite a ((a, oe) :: pn)) E e ma)
    (hg : Gl X "isinstance") (hm : X.mg "isinstance" = none) (hn : x ≠ "__name__" := by decide) (hdb : (x == ("__debug__" : Str)) = false := by decide) (he : starEach (e :: [Expr.Name x p2]) X.env = (false, eval e X.env) :: starEach [Expr.Name x p2] X.env := by rfl) (hpl : (backTo pos (starEach [Expr.Name x p2] X.env)).any (·.1) = false := by rfl)
    (he2 : starEach [Expr.Name x p2] X.env = (false, eval (.Name x p2) X.env) :: starEach [] X.env := by rfl) : ME (X.suite a ((a, oe) :: pn)) E (.Call (.Name "isinstance" p) [e, .Name x p2] [] pos) (eOp1 (fIsE tb) ma) :=
  me_isE0 (cV := .ty n) hf ⟨fun pins s σ H Q I q => ld_blt (X := X.suite a ((a, oe) :: pn)) I hgx hmx hv ⟨.ty n, H, I, rfl, q⟩ hn hdb⟩ (fun u r => r) T ha hg hm he hpl he2

/-- e.f -/
def fGiv (nms : List Str) (f : Str) : SV → Mm SV
  | .exc x => match x.arg with
    | some (f', d) => if f' = f ∧ x.cls ∈ nms then mP (.val d) else mStuck
    | none => mStuck
  | _ => mStuck
theorem pe_xg {te : TE} (hf : ∃ vs, oe.data = .fields vs) (he : PE (X.suite a ((a, oe) :: pn)) e te) (hb : attributeBase e f X.env (eval e X.env) = eval e X.env) :
    PE (X.suite a ((a, oe) :: pn)) (.Attribute e f pos) (fun σ H Q => te σ H fun x H1 => x = .ref a ∧ ∃ (C dd : Addr) (fs : List (Str × V)) (v : V), oe.cls = .ref C ∧ XfC X.K C ∧ PySem.W.findIn X.K (.ref C) f = some none ∧ oe.dict = some dd ∧ H1 dd = some (.xd fs) ∧ fs.lookup f = some v ∧ Q v H1) := by
  refine ⟨fun pins s σ H Q I h => ?_⟩
  refine attr_of hb (thn (he.run pins s σ H _ I h) fun u s1 hh => ?_)
  obtain ⟨x, H1, I1, rx, ex, C, dd, fs, v, ec, T, hno, ed, ea, l, q⟩ := hh
  subst ex
  obtain rfl : u = Value.ref a := rx
  obtain ⟨ha, _⟩ := I1.pin (a, oe) (List.mem_append_left _ List.mem_cons_self)
  obtain ⟨vs, hd⟩ := hf
  have hx : ObjOk X.prog X.w H1 s1.heap dd (.xd fs) := I1.hok dd _ ea
  obtain ⟨mA, hns, hr⟩ := hx
  obtain ⟨od, ho, hl⟩ := lookIn_ns hns
  obtain ⟨u, hu, ru⟩ := RelO.some_of (v := v) (o := mA f) (by rw [← l]; exact hr f)
  have J : PySem.W.InstAt s1.heap a oe C (some od) := ⟨ha, ec, by unfold PySem.W.notCls; rw [hd] <;> rfl, by rw [ed]; exact ho⟩
  exact HandSPX.exc_get I1.kIn J T.ga T.gg T.exC (PySem.W.findObj_own T.hdC hno rfl (by rw [hl, hu])) (handed_of ru) ⟨v, H1, I1.tok _, ru, q⟩
theorem me_giv {nms : List Str} (hf : ∃ vs, oe.data = .fields vs) (T : ∀ nm ∈ nms, ∃ C, X.mg nm = some (.ref C) ∧ XfC X.K C ∧ PySem.W.findIn X.K (.ref C) f = some none) (ha : ME (X.suite a ((a, oe) :: pn)) E e ma) (hb : attributeBase e f X.env (eval e X.env) = eval e X.env := by rfl) :
    ME (X.suite a ((a, oe) :: pn)) E (.Attribute e f pos) (eOp1 (fGiv nms f) ma) := by
  refine PEwk (pe_xg hf ha hb) fun σ H Q ⟨g, ρ, S, V, o⟩ => ?_
  refine ⟨g, ρ, S, V, o.bind.mono fun dx g1 H1 S1 L1 o1 v rv => ?_⟩
  cases dx with
  | ref n => exact o1.elim
  | rng _ _ => exact o1.elim
  | val d => exact o1.elim
  | exc xn =>
    obtain ⟨a', oe', mg', C, e1, e2, e3, e4, xa⟩ := rv
    have e1 : some (a, oe, X.mg) = some (a', oe', mg') := e1
    cases e1
    unfold fGiv at o1
    unfold XA at xa
    cases q : xn.arg with
    | none => simp only [q] at o1; exact o1.elim
    | some fd =>
      obtain ⟨f', d⟩ := fd
      simp only [q] at o1
      rw [q] at xa
      obtain ⟨dx, w, x1, x2, x3⟩ := xa
      split at o1
      · rename_i hc
        obtain ⟨C', m1, m2, m3⟩ := T _ hc.2
        have eC : C' = C := by
          have z := e4.symm.trans m1
          cases z; rfl
        subst eC
        rw [hc.1] at x2
        exact ⟨e2, C', dx, _, w, e3, m2, m3, x1, x2, by simp [List.lookup], o1.pure S1 _ x3⟩
      · exact o1.elim
end
end MK
set_option Elab.async false
set_option linter.all false
set_option maxRecDepth 100000
set_option maxHeartbeats 2000000
/-! MKl: a lambda handed to a def that calls it in a try. -/
namespace MK
open PySem PySem.Spec PyProof.Rows L2 LamX
variable {cz : Cxx} [Tb]
/-- the lambda's body, what it lets out told with its context -/
def lamN (X : Cx) (A : Around) (outer : List Env) (s : Shared) (H : Hp) (E : XK) (scope : Scope) (f c' : Addr) : Cx :=
  (lamCx X A outer s H (fun _ _ _ => False) scope f c').wish fun e s' => wpAny (model X.prog X.w) (A.deeper (lamEnv X scope s.heap.objs.size f c')) (leaving (lamEnv X scope s.heap.objs.size f c') e) (fun _ s'' => L2N.CX X.prog X.w outer H s E e s'') (fun e' s'' => L2N.CX X.prog X.w outer H s E e' s'') s'
section
variable {X : Cx} {pins : List (Addr × Obj)} {σ : L2.St} {H HZ : Hp} {s s1 : Shared}
theorem pe_actN {CXg : CXT} {Eg : XK} {Ng : List Str} {qg : Str} {sg : Scope} {g f c' : Addr} {cdg pm ctv : Value} {params : Arguments} {body : Expr} {scope : Scope} {k i : Nat} {a : Str} {pn : List (Addr × Obj)} {xe : Value → Shared → Prop} {W : WX} {tb : XK → TE} {p1 p2 : Pos}
    (I : Inv X pins σ H s) (L : LamS X.env.scope scope) (hf : s.heap.get? f = some (PySem.W.kla_obj "<lambda>" (X.env.qual ++ "<lambda>") params body scope (cloFrom X.env.cells scope.names []) pm c' ctv)) (hfn : H f = none) (hfr : f ∉ frs X.stack)
    (hbind : bindArgs (PySem.W.kla_fn "<lambda>" (X.env.qual ++ "<lambda>") params body scope (cloFrom X.env.cells scope.names []) pm (.ref c') ctv) ⟨[], []⟩ = pure [])
    (tk : L2N.Takes ((cxOf CXg X.prog X.w X.K X.mg X.base Ng qg sg g cdg X.A X.stack s H Eg).tr pn xe) W) (hr : Room (k + 1) (X.A.deeper (envOfC qg sg s.heap.objs.size g cdg)))
    (hbody : ∀ (A : Around) (outer : List Env) (s : Shared) (H : Hp) (E : XK), Room k (A.deeper (lamEnv X scope s.heap.objs.size f c')) → PE (lamN X A outer s H E scope f c') body (tb E))
    (hN : Ng[i]? = some a) (hv : Vis sg a) (hd : (a == ("__debug__" : Str)) = false := by decide) (hcd : (a == ("__classdict__" : Str)) = false := by decide) :
    PE ((cxOf CXg X.prog X.w X.K X.mg X.base Ng qg sg g cdg X.A X.stack s H Eg).tr pn xe) (.Call (.Name a p1) [] [] p2)
      (fun σZ HZ Q => σZ[i]? = some (some (.ref f)) ∧ HZ c' = some (CodeO c' (X.env.qual ++ "<lambda>")) ∧ tb (WE W σZ) σ HZ Q) := by
  refine ⟨fun pinsZ sZ σZ HZ Q IZ h => ?_⟩
  obtain ⟨hs, hc, ht⟩ := h
  refine wpAny_Call_Name_kw (thn ((pe_var (pos := p1) (i := i) hN hv hd hcd).run pinsZ sZ σZ HZ (fun v H1 => v = .ref f ∧ H1 = HZ) IZ ⟨.ref f, hs, rfl, rfl⟩) fun u s1 ⟨v, H1, I1, r1, q1⟩ => ?_)
  obtain ⟨ev, eH⟩ := q1
  subst ev
  rw [eH] at I1
  obtain rfl : u = Value.ref f := r1
  have of1 : s1.heap.get? f = some (PySem.W.kla_obj "<lambda>" (X.env.qual ++ "<lambda>") params body scope (cloFrom X.env.cells scope.names []) pm c' ctv) := I1.base.keep f _ hf hfn hfr (fun z => nomatch (show f ∈ ([] : List Addr) from z))
  refine PySem.W.callWith_F0 ⟨_, _, _, _, of1⟩ ?_
  have un : Un (frs X.stack) [] H HZ s.heap s1.heap := I1.base
  obtain ⟨⟨oc, vs, t, hoc, hdc, hvc⟩, _, _⟩ := I1.hok c' _ hc
  have rc : codeAny (model X.prog X.w) (X.A.deeper (envOfC qg sg s.heap.objs.size g cdg)) (.call (.ref f) ⟨[], []⟩) (CR (L2N.CX X.prog X.w) (envOfC qg sg s.heap.objs.size g cdg :: X.stack) X.prog X.w HZ s1 Q (WE W σZ)) s1 := by
    refine PySem.W.kla_callFunE hr.depth of1 rfl L.co L.gen rfl ⟨c', oc, vs, t, rfl, hoc, hdc, hvc⟩ ?_
    rw [hbind]
    refine wpAny_pure (wpAny_newFunctionEnv (fun y hy => (L.own y hy).2) (fun y hy => absurd hy (by simp)) (fun h₁ hns hsb => ⟨I1.nolimit.fresh _ hsb, ?_⟩) L.kind)
    show codeAny _ _ (.expr body (lamEnv X scope s1.heap.objs.size f c')) _ _
    have kp : ∀ b o, s1.heap.get? b = some o → h₁.get? b = some o := fun b o e => hsb.extBut b o (Nat.ne_of_lt (Heap.lt_size e)) (Heap.get?_push_of_some _ e)
    have J : Inv (lamCx X (X.A.deeper (envOfC qg sg s.heap.objs.size g cdg)) (envOfC qg sg s.heap.objs.size g cdg :: X.stack) s1 HZ (fun _ _ _ => False) scope f c') [] σ HZ { s1 with heap := h₁, toks := s1.toks + ([] : List (Str × Value)).length } :=
      lam_start2 I L I1.env0 hr.hd un hns kp
    refine PySem.W.kla_codeExpr (wpAny_mono ((hbody _ _ s1 HZ (WE W σZ) (hr.deeper _)).run [] _ _ HZ Q (J.wish _) ht) (fun v s' hq => ?_) fun e s' hq => hq)
    obtain ⟨w', H', J', rv, q⟩ := hq
    exact ⟨w', H', J'.os, J'.bare, J'.base, J'.hok, rv, q⟩
  have hx := L2N.passAt tk σZ
  refine wpAny_call (codeAny_mono rc fun r s' hq => ?_)
  cases r with
  | error e => exact hx pinsZ HZ s1 e s' I1 hq
  | ok fl =>
    cases fl with
    | ret u => exact I1.after hq
    | next => exact False.elim hq
    | brk => exact False.elim hq
    | cont => exact False.elim hq
/-- the def that calls what it got -/
def GivesN (X : Cx) (Ng : List Str) (x : Str) (sg : Scope) (g : Addr) (cdg : Value) (bg : List Stmt) (a : Str) (q : Str) (j : Nat) (TT : (XK → Hp → VK → Prop) → Hp → VK → Prop) : Prop :=
  ∀ (f c' : Addr) (s : Shared) (H : Hp) (Q : VK) (tl : XK → Hp → VK → Prop), Room j (X.A.deeper (envOfC x sg s.heap.objs.size g cdg)) →
    (∀ (W : WX) (pn : List (Addr × Obj)) (xe : Value → Shared → Prop) (p1 p2 : Pos), L2N.Takes ((cxOf C8.CX0 X.prog X.w X.K X.mg X.base Ng x sg g cdg X.A X.stack s H C8.E0).tr pn xe) W →
      PE ((cxOf C8.CX0 X.prog X.w X.K X.mg X.base Ng x sg g cdg X.A X.stack s H C8.E0).tr pn xe) (.Call (.Name a p1) [] [] p2) (fun σZ HZ Q => σZ[0]? = some (some (.ref f)) ∧ HZ c' = some (CodeO c' q) ∧ tl (WE W σZ) HZ Q)) →
    H c' = some (CodeO c' q) → TT tl H Q →
    ∃ t, PSs (cxOf C8.CX0 X.prog X.w X.K X.mg X.base Ng x sg g cdg X.A X.stack s H C8.E0).nox bg t ∧ t { nx := fun _ H' => Q .non H', rt := Q } (L2.start Ng [.ref f]) H
theorem pe_lamcallN {T : List (Addr × Str)} {TT : (XK → Hp → VK → Prop) → Hp → VK → Prop} {x a : Str} {g c P : Addr} {k : Nat} {pg : Arguments} {bg : List Stmt} {sg : Scope} {dV kV doc pm cdv ct oc : Value} {an od : Option Addr} {osl : Array (Option Value)} {Ng : List Str}
    {params : Arguments} {body : Expr} {scope : Scope} {t : XK → TE} {p lpos pos : Pos} (hg : Gl X x) (hm : X.mg x = some (.ref g)) (hk : PySem.W.keepIn X.K (.ref g) = true)
    (lk : X.K.lookup g = some ⟨oc, od, .func (PySem.W.fnOf x x pg bg sg dV kV doc pm an cdv ct), osl⟩) (hcg : PySem.W.codeIn X.K cdv x = true) (hb : L2.Binds X.K (PySem.W.fnOf x x pg bg sg dV kV doc pm an cdv ct) [a] []) (Sg : FnScope Ng [a] sg) (hNg : Ng[0]? = some a) (hva : Vis sg a)
    (hG : GivesN X Ng x sg g cdv bg a (X.env.qual ++ "<lambda>") (k + 1) TT)
    (TB : TabB X.base X.mg c P) (hcode : X.env.code = .ref c) (hmT : (P, X.env.qual ++ "<lambda>") ∈ T) (hu : ∀ p ∈ T, p.1 = P → p.2 = X.env.qual ++ "<lambda>") (hr : Room (k + 2) X.A) (L : LamS X.env.scope scope) (hdef : defaultsOf params X.env = ([], []))
    (hbind : ∀ (q : Str) (cl : List (Str × Addr)) (pm cv ctv : Value), bindArgs (PySem.W.kla_fn "<lambda>" q params body scope cl pm cv ctv) ⟨[], []⟩ = pure [])
    (hbody : ∀ (A : Around) (outer : List Env) (s : Shared) (H : Hp) (E : XK) (f c' : Addr), Room k (A.deeper (lamEnv X scope s.heap.objs.size f c')) → PE (lamN X A outer s H E scope f c') body (t E))
    (hdb : (x == ("__debug__" : Str)) = false := by decide) (hd : (a == ("__debug__" : Str)) = false := by decide) (hcd : (a == ("__classdict__" : Str)) = false := by decide) :
    PE X (.Call (.Name x p) [.Lambda params body scope lpos] [] pos) (tLam T TT t) := by
  refine ⟨fun pins s σ H Q I h => ?_⟩
  obtain ⟨hT, h⟩ := h
  refine wpAny_Call_Name_kw (ld_glob I hg hm ?_ hdb)
  refine PySem.W.callWith_K (h₀ := X.base) I.ok.mod.kin hk ?_ (by rfl) (by rfl)
  show wpAny _ _ (spliced ((false, eval (.Lambda params body scope lpos) X.env) :: backTo pos (starEach [] X.env))) _ _ s
  refine Calls.spliced_cons (lam_make2 I TB hcode hmT hu hT hdef (L.has I.ok) fun f c' pm' ctv H1 s' I1 eN T1 hf hfn hfr hco => ?_)
  refine Calls.spliced_nil ⟨I1.kIn, ?_⟩
  have rc : codeAny (model X.prog X.w) X.A (.call (.ref g) ⟨[.ref f], []⟩) (CR C8.CX0 X.stack X.prog X.w H1 s' Q C8.E0) s' := by
    refine run_ofS (N := Ng) (ps := [a]) (us := [.ref f]) (vs := [.ref f]) lk hcg Sg hr I1.env0 (hb s' [.ref f] I1.kIn rfl) (.cons rfl .nil) rfl fun hr' => ?_
    obtain ⟨t', ht', hq'⟩ := hG f c' s' H1 Q (fun E H' Q' => t E σ H' Q') hr' (fun W pn xe p1 p2 tk => pe_actN (i := 0) I1 L hf hfn hfr (hbind _ _ _ _ _) tk hr' (fun A outer s H E hr2 => hbody A outer s H E f c' hr2) hNg hva hd hcd) hco (h H1 eN T1)
    exact ⟨t', ht'.nox, hq'⟩
  refine wpAny_call (codeAny_mono rc fun r s2 hq => ?_)
  cases r with
  | error e => exact (show False from hq).elim
  | ok fl =>
    cases fl with
    | ret u => exact I1.after hq
    | next => exact False.elim hq
    | brk => exact False.elim hq
    | cont => exact False.elim hq
end

/-! ### said: try: act() / except e as n: .. / .. -/
def hdl (n i : Nat) (nms : List Str) (hm rest : Sm) (act : Mm SV) : Mm (Fl × Ro) := fun h => match act h with
  | .ok _ h' => rest (List.replicate n none) h'
  | .exn x h' => if x.cls ∈ nms then mB (hm ((List.replicate n none).set i (some (.exc x)))) (fun r => match r.1 with
    | .nx => rest (noExc (r.2.set i none))
    | _ => mP r) h' else .stuck
  | .stuck => .stuck
def fSaid (n i : Nat) (nms : List Str) (hm rest : Sm) (act : Mm SV) : Mm SV := mCall (hdl n i nms hm rest act)
theorem Out.le {K : PySem.W.Frag} {mg : Mg} {E : XK} {g g' : Gh} {H H' : Hp} {α : Type} {r : Res α} {P : α → Gh → Hp → Prop} (L : Le g H g' H') (o : Out K mg E g H r P) : Out K mg E g' H' r P := by
  cases r with
  | ok d h' => exact fun g2 H2 e S L2 => o g2 H2 e S (L.trans L2)
  | exn x h' => exact fun g2 H2 cls oa e S L2 => o g2 H2 cls oa e S (L.trans L2)
  | stuck => exact o
/-- between the lambda's making and the call -/
theorem Sim.extN {K : PySem.W.Frag} {g : Gh} {H H' : Hp} (S : Sim K g H) (e : ExtN H H') (t : Tabs Tb.T H') : Sim K g H' ∧ Le g H g H' := by
  have key : ∀ a, Mut (H a) → H' a = H a := fun a hm => by
    cases q : H a with
    | none => rw [q] at hm; exact hm.elim
    | some o => exact e a o q fun ps z => by rw [q, z] at hm; exact hm
  have L : Le g H g H' := ⟨fun _ _ h => h, fun a o h nt n => ⟨e a o h nt, n⟩, rfl, fun a ha => key a (S.exm a ha), fun a h => ?_⟩
  · refine ⟨⟨S.len, fun n c a h1 h2 => ?_, S.inj, fun n a h => L.trk a (S.trk n a h), fun a ha => by rw [L.exk a ha]; exact S.exm a ha, S.exn, t⟩, L⟩
    have hq := S.cell n c a h1 h2
    exact hq.mono S L (key a hq.mut)
  · cases q : H a with
    | none => exact absurd q h.some
    | some o =>
      rw [q] at h
      rw [e a o q fun ps z => by rw [z] at h; exact h]
      exact h

theorem replicate_env {K : PySem.W.Frag} {g : Gh} {H : Hp} {n : Nat} {σ : L2.St} (h : σ.length = n) : EnvR K cz g H (List.replicate n none) σ := by
  refine ⟨by rw [List.length_replicate, h], fun i d e => ?_⟩
  rw [List.getElem?_replicate] at e
  split at e <;> cases e
theorem EnvR.all {K : PySem.W.Frag} {g : Gh} {H : Hp} {ρ : Ro} {σ : L2.St} (h : EnvR K none g H ρ σ) : EnvR K cz g H ρ σ := ⟨h.1, fun i d e => let ⟨v, e1, r⟩ := h.2 i d e; ⟨v, e1, r.all⟩⟩
/-- what said makes of the lambda's reading -/
def TTs (K : PySem.W.Frag) (mg : Mg) (n i : Nat) (nms : List Str) (hm rs : Sm) : (XK → Hp → VK → Prop) → Hp → VK → Prop := fun tl H Q => ∃ g m, Sim K g H ∧ Out K mg E0 g H (fSaid n i nms hm rs m g.cs) (fun d g' H' => ∀ v, RSV K none g' H' v d → Q v H') ∧
  ∀ E' Q', Out K mg E' g H (m g.cs) (fun d g' H' => ∀ v, RSV K none g' H' v d → Q' v H') → tl E' H Q'
theorem takes0N {X : Cx} : L2N.Takes X (fun _ _ _ _ => False) := fun _ _ x => by
  obtain ⟨_, _, _, _, _, _, _, _, _, _, _, _, _, _, _, _, z⟩ := x
  exact z.elim
section
variable {X : Cx} {Ng : List Str} {x a q e en : Str} {sg : Scope} {g CS : Addr} {cdg : Value} {b₀ : Stmt} {suite rest : List Stmt} {n i j : Nat} {nms : List Str} {hm rs : Sm} {p1 p2 p3 p4 p7 p8 : Pos}
theorem said_gives (hn : Ng.length = n) (hN : Ng.Nodup) (h0 : Ng[0]? = some a) (hi : Ng[i]? = some en) (hln : sg.names.lookup en = some .local) (hge : sg.names.lookup e = some .globalImplicit) (hme : X.mg e = some (.ref CS)) (hde : (e == ("__debug__" : Str)) = false)
    (hcl : ∀ nm ∈ nms, ∃ C, X.mg nm = some (.ref C) ∧ PySem.W.exmOne X.K (.ref C) (.ref CS) = some true) (hsw : ∀ env : Env, swapsWith (.Call (.Name a p1) [] [] p2) none p3.line env = pure false)
    (hsu : ∀ (s : Shared) (H : Hp) (ad : Addr) (oe : Obj) (cls : Value) (d : Option Addr) (pn : List (Addr × Obj)), Room j (X.A.deeper (envOfC x sg s.heap.objs.size g cdg)) → L2N.Zn cls d oe → (∃ vs, oe.data = .fields vs) →
      MSs ((cxOf C8.CX0 X.prog X.w X.K X.mg X.base Ng x sg g cdg X.A X.stack s H C8.E0).nox.suite ad ((ad, oe) :: pn)) E0 (b₀ :: suite) hm)
    (hrs : ∀ (s : Shared) (H : Hp), Room j (X.A.deeper (envOfC x sg s.heap.objs.size g cdg)) → MSs (cxOf C8.CX0 X.prog X.w X.K X.mg X.base Ng x sg g cdg X.A X.stack s H C8.E0).nox E0 rest rs) :
    GivesN X Ng x sg g cdg (.Try [.Expr (.Call (.Name a p1) [] [] p2) p3] [.ExceptHandler (some (.Name e p4)) (some en) (b₀ :: suite) p7] [] [] p8 :: rest) a q j (TTs X.K X.mg n i nms hm rs) := by
  intro f c' s H Q tl hr act hc h
  obtain ⟨g0, m, S, o, tlk⟩ := h
  have hgl : Gl (cxOf C8.CX0 X.prog X.w X.K X.mg X.base Ng x sg g cdg X.A X.stack s H C8.E0).nox e := hge
  have hlen : (L2.start Ng [V.ref f]).length = n := by
    unfold L2.start
    have : 0 < Ng.length := (List.getElem?_eq_some_iff.mp h0).1
    simp; omega
  have hs0 : (L2.start Ng [V.ref f])[0]? = some (some (V.ref f)) := by unfold L2.start; rfl
  refine ⟨_, pss_cons (L2N.ps_try_as (X := (cxOf C8.CX0 X.prog X.w X.K X.mg X.base Ng x sg g cdg X.A X.stack s H C8.E0).nox) (c := .ref CS) (i := i)
      (tb := fun W D σ H => σ[0]? = some (some (V.ref f)) ∧ H c' = some (CodeO c' q) ∧ tl (WE W σ) H (fun _ H' => D.nx σ H'))
      (ts := fun ad cls d D σ H => ∀ oe, L2N.Zn cls d oe → tS X.K (some (ad, oe, X.mg)) X.mg E0 hm D σ H)
      rfl rfl hN hi hln ⟨hgl, hde, .inl hme⟩ takes0N (fun W pn xe tk _ => pss_one (PSwk (ps_expr (act W pn xe p1 p2 tk) (hsw _)) fun D σ H z => z)) (fun ad oe cls d pn hz hf => PSswk (hsu s H ad oe cls d pn hr hz hf) fun D σ H z => z oe hz)) (hrs s H hr), ?_⟩
  -- the whole, flow by flow
  have O : ∀ cz : Cxx, Out X.K X.mg E0 g0 H (hdl n i nms hm rs m g0.cs) (EndR X.K cz { nx := fun _ H' => Q .non H', rt := Q }) := fun cz => out_call S o (fun _ _ z => z) fun _ _ z => z
  refine ⟨hs0, hc, tlk _ _ ?_⟩
  unfold hdl at O
  cases qm : m g0.cs with
  | stuck =>
    have z := O none
    rw [qm] at z
    exact z
  | ok d h' =>
    intro g1 H1 e1 S1 L1 v _
    have z := O none
    rw [qm] at z
    subst e1
    exact ⟨g1, List.replicate n none, S1, replicate_env hlen, z.le L1⟩
  | exn xn h' =>
    intro g1 H1 cls oa e1 S1 L1 xr
    subst e1
    have z : ∀ cz : Cxx, xn.cls ∈ nms ∧ Out X.K X.mg E0 g0 H (mB (hm ((List.replicate n none).set i (some (.exc xn)))) (fun r => match r.1 with
      | .nx => rs (noExc (r.2.set i none))
      | _ => mP r) g1.cs) (EndR X.K cz { nx := fun _ H' => Q .non H', rt := Q }) := fun cz => by
      have z := O cz
      rw [qm] at z
      simp only at z
      split at z
      · rename_i hc; exact ⟨hc, z⟩
      · exact z.elim
    obtain ⟨C, m1, m2⟩ := hcl _ (z none).1
    obtain ⟨⟨C', m3, m4⟩, xa⟩ := xr
    have eC : C = C' := by rw [m1] at m3; cases m3; rfl
    subst eC
    subst m4
    refine ⟨true, m2, fun _ ad hn0 oe hz => ?_, fun b => by cases b⟩
    have V : EnvR X.K (some (ad, oe, X.mg)) g1 H1 ((List.replicate n none).set i (some (.exc xn))) ((L2.start Ng [V.ref f]).set i (some (.ref ad))) :=
      EnvR.set (d := .exc xn) (v := V.ref ad) (replicate_env hlen) ⟨ad, oe, X.mg, C, rfl, rfl, hz.1, m1, by rw [hz.2.1]; exact xa⟩ i
    refine ⟨g1, _, S1, V, ((z (some (ad, oe, X.mg))).2.le L1).bind.mono fun r g2 H2 S2 L2 o2 => ?_⟩
    obtain ⟨fl, ρ2⟩ := r
    cases fl with
    | nx =>
      intro σ2 V2
      have o3 : Out X.K X.mg E0 g2 H2 (rs (noExc (ρ2.set i none)) g2.cs) (EndR X.K (some (ad, oe, X.mg)) { nx := fun _ H' => Q .non H', rt := Q }) := o2
      refine ⟨g2, _, S2, (V2.clear i none).noExc, o3.mono fun r g3 H3 S3 L3 e3 => ?_⟩
      obtain ⟨fl, ρ3⟩ := r
      cases fl with
      | nx => exact fun σ3 V3 => e3 σ3 V3.all
      | rt d => exact fun v r => e3 v r.all
      | bk => exact fun σ3 V3 => e3 σ3 V3.all
      | ct => exact fun σ3 V3 => e3 σ3 V3.all
    | rt d => exact Out.pure (mg := X.mg) (E := E0) (a := (Fl.rt d, ρ2)) (P := EndR X.K (some (ad, oe, X.mg)) _) S2 o2
    | bk => exact fun σ2 V2 => (Out.pure (mg := X.mg) (E := E0) (a := (Fl.bk, ρ2)) (P := EndR X.K (some (ad, oe, X.mg)) { nx := fun _ H' => Q .non H', rt := Q }) S2 o2) σ2 V2
    | ct => exact fun σ2 V2 => (Out.pure (mg := X.mg) (E := E0) (a := (Fl.ct, ρ2)) (P := EndR X.K (some (ad, oe, X.mg)) { nx := fun _ H' => Q .non H', rt := Q }) S2 o2) σ2 V2
end

theorem Out.noX {K : PySem.W.Frag} {mg : Mg} {E E' : XK} {g : Gh} {H : Hp} {α : Type} {m : Mm α} {h : Hm} {P : α → Gh → Hp → Prop} (o : Out K mg E g H (MK.noX m h) P) : Out K mg E' g H (m h) P := by
  unfold MK.noX at o
  cases q : m h with
  | ok d h' => rw [q] at o; exact o
  | exn x h' => rw [q] at o; exact o.elim
  | stuck => rw [q] at o; exact o.elim
/-- said(lambda: body) -/
def eSaid (n i : Nat) (nms : List Str) (hm rs : Sm) (mb : Em) : Em := fun ρ => noX (fSaid n i nms hm rs (mb (noExc ρ)))
theorem me_said {X : Cx} {E : XK} {x a : Str} {g c P : Addr} {k : Nat} {pg : Arguments} {bg : List Stmt} {sg : Scope} {dV kV doc pm cdv ct oc : Value} {an od : Option Addr} {osl : Array (Option Value)} {Ng : List Str}
    {params : Arguments} {body : Expr} {scope : Scope} {mb : Em} {p lpos pos : Pos} {n i : Nat} {nms : List Str} {hm rs : Sm} (hg : Gl X x) (hmx : X.mg x = some (.ref g)) (hk : PySem.W.keepIn X.K (.ref g) = true)
    (lk : X.K.lookup g = some ⟨oc, od, .func (PySem.W.fnOf x x pg bg sg dV kV doc pm an cdv ct), osl⟩) (hcg : PySem.W.codeIn X.K cdv x = true) (hb : L2.Binds X.K (PySem.W.fnOf x x pg bg sg dV kV doc pm an cdv ct) [a] []) (Sg : FnScope Ng [a] sg) (hNg : Ng[0]? = some a) (hva : Vis sg a)
    (hG : GivesN X Ng x sg g cdv bg a (X.env.qual ++ "<lambda>") (k + 1) (TTs X.K X.mg n i nms hm rs))
    (TB : TabB X.base X.mg c P) (hcode : X.env.code = .ref c) (hmT : (P, X.env.qual ++ "<lambda>") ∈ Tb.T) (hu : ∀ p ∈ Tb.T, p.1 = P → p.2 = X.env.qual ++ "<lambda>") (hr : Room (k + 2) X.A) (L : LamS X.env.scope scope) (hdef : defaultsOf params X.env = ([], []))
    (hbind : ∀ (q : Str) (cl : List (Str × Addr)) (pm cv ctv : Value), bindArgs (PySem.W.kla_fn "<lambda>" q params body scope cl pm cv ctv) ⟨[], []⟩ = pure [])
    (hbody : ∀ (A : Around) (outer : List Env) (s : Shared) (H : Hp) (E : XK) (f c' : Addr), Room k (A.deeper (lamEnv X scope s.heap.objs.size f c')) → ME (lamN X A outer s H E scope f c') E body mb)
    (hdb : (x == ("__debug__" : Str)) = false := by decide) (hd : (a == ("__debug__" : Str)) = false := by decide) (hcd : (a == ("__classdict__" : Str)) = false := by decide) :
    ME X E (.Call (.Name x p) [.Lambda params body scope lpos] [] pos) (eSaid n i nms hm rs mb) := by
  refine PEwk (pe_lamcallN (T := Tb.T) (t := fun E => tM X.K none X.mg E mb) hg hmx hk lk hcg hb Sg hNg hva hG TB hcode hmT hu hr L hdef hbind hbody hdb hd hcd) fun σ H Q ⟨g0, ρ, S, V, o⟩ => ?_
  refine ⟨S.tabs, fun H1 eN T1 => ?_⟩
  obtain ⟨S1, L1⟩ := S.extN eN T1
  refine ⟨g0, mb (noExc ρ), S1, (Out.noX (o.le L1)).mono fun d g' H' _ _ q v r => q v r.all, fun E' Q' o' => ⟨g0, noExc ρ, S1, (V.mono S L1).noExc, o'⟩⟩
end MK
set_option Elab.async false
set_option linter.all false
set_option maxRecDepth 100000
set_option maxHeartbeats 2000000
/-! MKm: calls by name alone; defs that know that no repr runs around them; the law's end. -/
namespace MK
open PySem PySem.Spec PyProof.Rows L2 LamX
variable {cz : Cxx} [Tb]

/-! ### keywords alone -/
/-- the values of k = e, .. in the order in which they are written -/
def tK (K : PySem.W.Frag) (cz : Cxx) (mg : Mg) (E : XK) (m : Am) : TA := tA K cz mg E m
theorem mk_nil {X : Cx} {E : XK} : PK X [] (tA X.K (cx X) X.mg E aNil) := ⟨fun pos pins s σ H Q I ⟨g, ρ, S, V, o⟩ => pk_nil.run pos pins s σ H Q I (o.pure S _ .nil)⟩
theorem mk_cons {X : Cx} {E : XK} {e : Expr} {ma : Em} {kws : List Keyword} {mr : Am} {nm : Option Str} {kpos : Pos} (ha : ME X E e ma) (hr : PK X kws (tA X.K (cx X) X.mg E mr)) : PK X (⟨nm, e, kpos⟩ :: kws) (tA X.K (cx X) X.mg E (aCons ma mr)) := by
  refine ⟨fun pos pins s σ H Q I ⟨g, ρ, S, V, o⟩ => (pk_cons ha hr).run pos pins s σ H Q I ?_⟩
  refine ⟨g, ρ, S, V, o.bind.mono fun d g1 H1 S1 L1 o1 v rv => ?_⟩
  refine ⟨g1, ρ, S1, V.mono S L1, o1.bind.mono fun ds g2 H2 S2 L2 o2 vs rs => ?_⟩
  exact o2.pure S2 _ (.cons (rv.mono S1 L2) rs)
/-- the arguments from the order of writing to the parameters' -/
def permD {α : Type} (is : List Nat) (l : List α) : List α := is.filterMap fun i => l[i]?
/-- how a def binds keywords alone -/
structure KwB (fd : FuncData) (ps ks : List Str) (is : List Nat) : Prop where
  bd : ∀ us : List Value, us.length = ks.length → bindArgs fd ⟨[], ks.zip us⟩ = pure (ps.zip (permD is us))
structure FnKw (P : Program) (w : World) (K : PySem.W.Frag) (mg : Mg) (base : Heap) (k : Nat) (x : Str) (F : Fm) (ks : List Str) (is : List Nat) : Prop where
  ex : ∃ f fd ps, FnOk P w K mg base (L2N.CX P w) k f fd ps (tSp K mg F) ∧ mg x = some (.ref f) ∧ PySem.W.keepIn K (.ref f) = true ∧ KwB fd ps ks is
theorem _root_.L2.Fun.kwb {K : PySem.W.Frag} {x qual : Str} {st : Stmt} {f : Addr} {fd : FuncData} {ps ks : List Str} {is : List Nat} (F : Fun K x qual st f fd)
    (h : ∀ (kV doc pm : Value) (an : Option Addr) (cdv ct : Value) (us : List Value), us.length = ks.length → bindArgs (PySem.W.fnOf x qual (defArgs st) (defBody st) (defScope st) .none kV doc pm an cdv ct) ⟨[], ks.zip us⟩ = pure (ps.zip (permD is us))) : KwB fd ps ks is := by
  obtain ⟨oc, od, kV, doc, pm, an, cdv, ct, osl, rfl, lk, hcd⟩ := F.ex
  exact ⟨h kV doc pm an cdv ct⟩
theorem vals_permD {is : List Nat} {vs : List V} {us : List Value} (r : Vals vs us) : Vals (permD is vs) (permD is us) := by
  induction is with
  | nil => exact .nil
  | cons i is ih =>
    unfold permD
    rw [List.filterMap_cons, List.filterMap_cons]
    cases q : vs[i]? with
    | none =>
      have : us[i]? = none := by
        rw [List.getElem?_eq_none_iff] at q ⊢
        rw [← r.length]; exact q
      rw [this]
      exact ih
    | some v =>
      obtain ⟨u, hu, ru⟩ := r.get q
      rw [hu]
      exact .cons ru ih
theorem rsvs_permD {K : PySem.W.Frag} {g : Gh} {H : Hp} {is : List Nat} {vs : List V} {ds : List SV} (r : RSVs K cz g H vs ds) : RSVs K cz g H (permD is vs) (permD is ds) := by
  induction is with
  | nil => exact .nil
  | cons i is ih =>
    unfold permD
    rw [List.filterMap_cons, List.filterMap_cons]
    cases q : ds[i]? with
    | none =>
      have : vs[i]? = none := by
        rw [List.getElem?_eq_none_iff] at q ⊢
        rw [r.length]; exact q
      rw [this]
      exact ih
    | some d =>
      obtain ⟨v, hv, rv⟩ := r.get q
      rw [hv]
      exact .cons rv ih
def eCallK (F : Fm) (is : List Nat) (a : Am) : Em := fun ρ => mB (a ρ) fun ds => mB (guard (ds.all notExc && decide (ds.length = is.length))) fun _ => F (permD is ds)
theorem me_callK {X : Cx} {E : XK} {x : Str} {p pos : Pos} {kws : List Keyword} {ms : Am} {k : Nat} {F : Fm} {ks : List Str} {is : List Nat} (D : FnKw X.prog X.w X.K X.mg X.base k x F ks is) (hks : ks.length = is.length) (hr : Room k X.A) (hg : Gl X x) (hx : Passes (L2N.CX X.prog X.w) X E)
    (ha : PK X kws (tA X.K (cx X) X.mg E ms)) (hdb : (x == ("__debug__" : Str)) = false := by decide) (hall : (backToKw pos (keywordEach kws X.env)).all (·.1.isSome) = true := by rfl) (hkn : (backToKw pos (keywordEach kws X.env)).filterMap (·.1) = ks := by rfl)
    (hpl : ((backTo pos (starEach [] X.env)).any (·.1) || (backToKw pos (keywordEach kws X.env)).any (·.1.isNone)) = false := by rfl) :
    ME X E (.Call (.Name x p) [] kws pos) (eCallK F is ms) := by
  obtain ⟨f, fd, ps, ok, hm, hk, hb⟩ := D.ex
  refine ⟨fun pins s σ H Q I ⟨g, ρ, S, V, o⟩ => ?_⟩
  refine wpAny_Call_Name_kw (ld_glob I hg hm ?_ hdb)
  refine PySem.W.callWith_KW0 (h₀ := X.base) I.ok.mod.kin hk hall (thn (ha.run pos pins s σ H (fun vs H1 => ∃ g1 ds, Sim X.K g1 H1 ∧ RSVs X.K (cx X) g1 H1 vs ds ∧ Out X.K X.mg E g1 H1 (mB (guard (ds.all notExc && decide (ds.length = is.length))) (fun _ => F (permD is ds)) g1.cs) fun d g' H' => ∀ v, RSV X.K (cx X) g' H' v d → Q v H') I
    ⟨g, ρ, S, V, o.bind.mono fun ds g1 H1 S1 L1 o1 vs rs => ⟨g1, ds, S1, rs, o1⟩⟩) fun us s1 ⟨vs, H1, I1, r1, g1, ds, S1, rs, o1⟩ => ⟨I1.kIn, ?_⟩) hpl
  obtain ⟨c, o1⟩ := guard_of S1 o1.bind
  rw [Bool.and_eq_true] at c
  have hl : ds.length = is.length := of_decide_eq_true c.2
  rw [hkn]
  show wpAny _ _ (call (.ref f) ([] ++ []) (ks.zip us)) _ _ _
  have hus : us.length = ks.length := by rw [← r1.length, rs.length, hl, hks]
  refine wpAny_call (codeAny_mono (ok.run X.A X.stack s1 H1 ⟨[], ks.zip us⟩ (permD is us) (permD is vs) Q E hr I1.env0 (.of_eq (hb.bd us hus)) (vals_permD r1) ⟨g1, permD is ds, S1, rsvs_permD (rs.non c.1), o1.mono fun d g2 H2 S2 L2 q v r => q v r.all⟩) fun r s' hq => ?_)
  cases r with
  | error e => exact hx pins σ H1 s1 e s' I1 hq
  | ok fl =>
    cases fl with
    | ret u => exact I1.after hq
    | next => exact False.elim hq
    | brk => exact False.elim hq
    | cont => exact False.elim hq

/-! ### no repr runs around -/
structure FnOkG (P : Program) (w : World) (K : PySem.W.Frag) (mg : Mg) (base : Heap) (k : Nat) (f : Addr) (fd : FuncData) (ps : List Str) (sp : Sp) : Prop where
  len : ∀ vs H Q E, sp vs H Q E → vs.length = ps.length
  run : ∀ (A : Around) (outer : List Env) (s : Shared) (H : Hp) (args : Args) (us : List Value) (vs : List V) (Q : VK) (E : XK), A.guards = some [] → Room k A → Env0 P w K mg base A outer s H → BindsTo s fd args (ps.zip us) → Vals vs us → sp vs H Q E →
    codeAny (model P w) A (.call (.ref f) args) (CR (L2N.CX P w) outer P w H s Q E) s
theorem fn_okG {P : Program} {w : World} {K : PySem.W.Frag} {mg : Mg} {base : Heap} {x qual : Str} {st : Stmt} {f : Addr} {fd : FuncData} {N ps : List Str} {k n m : Nat} {b : Sm} (F : Fun K x qual st f fd) (S : FnScope N ps (defScope st)) (hn : ps.length = n) (hm : N.length = m)
    (hbody : ∀ (cdv : Value) (A : Around) (outer : List Env) (s : Shared) (H : Hp) (E : XK), fd.code = cdv → PySem.W.codeIn K cdv qual = true → A.guards = some [] → Room k (A.deeper (envOfC qual (defScope st) s.heap.objs.size f cdv)) →
      MSs (cxOf (L2N.CX P w) P w K mg base N qual (defScope st) f cdv A outer s H E) E (defBody st) b) : FnOkG P w K mg base (k + 1) f fd ps (tSp K mg (fnV n m b)) := by
  obtain ⟨oc, od, kV, doc, pm, an, cdv, ct, osl, rfl, lk, hcd⟩ := F.ex
  have len : ∀ vs H Q E, tSp K mg (fnV n m b) vs H Q E → vs.length = ps.length := fun vs H Q E ⟨g, ds, S, r, o⟩ => by
    obtain ⟨c, _⟩ := guard_of S o.bind
    rw [r.length, hn]
    exact of_decide_eq_true c
  refine ⟨len, fun A outer s H args us vs Q E hgd hr e0 hb rv hsp => ?_⟩
  have hl := len _ _ _ _ hsp
  refine run_ofS lk hcd S hr e0 hb rv hl fun hr' => ?_
  obtain ⟨g, ds, S, r, o⟩ := hsp
  obtain ⟨c, o⟩ := guard_of S o.bind
  have hl : ds.length = n := of_decide_eq_true c
  refine ⟨_, hbody cdv A outer s H E rfl hcd hgd hr', g, _, S, EnvR.start hm r, out_call S ?_ (fun _ _ q => q) fun _ _ q => q⟩
  rw [hl]
  exact o
structure FnDG (P : Program) (w : World) (K : PySem.W.Frag) (mg : Mg) (base : Heap) (k : Nat) (x : Str) (F : Fm) : Prop where
  ex : ∃ f fd ps, FnOkG P w K mg base k f fd ps (tSp K mg F) ∧ mg x = some (.ref f) ∧ PySem.W.keepIn K (.ref f) = true ∧ Binds K fd ps []
theorem me_callG {X : Cx} {E : XK} {e : Expr} {es : List Expr} {ms : Am} {pos p : Pos} {x : Str} {k : Nat} {F : Fm} (D : FnDG X.prog X.w X.K X.mg X.base k x F) (hgd : X.A.guards = some []) (hr : Room k X.A) (hg : Gl X x) (hx : Passes (L2N.CX X.prog X.w) X E) (ha : MA X E (e :: es) ms)
    (hdb : (x == ("__debug__" : Str)) = false := by decide) (he : starEach (e :: es) X.env = (false, eval e X.env) :: starEach es X.env := by rfl) (hpl : (backTo pos (starEach es X.env)).any (·.1) = false := by rfl) :
    ME X E (.Call (.Name x p) (e :: es) [] pos) (eCall F ms) := by
  obtain ⟨f, fd, ps, ok, hm, hk, hb⟩ := D.ex
  refine ⟨fun pins s σ H Q I ⟨g, ρ, S, V, o⟩ => ?_⟩
  refine wpAny_Call_Name_kw (ld_glob I hg hm ?_ hdb)
  refine PySem.W.callWith_K (h₀ := X.base) I.ok.mod.kin hk (thn (ha.run pos pins s σ H (fun vs H1 => ∃ g1 ds, Sim X.K g1 H1 ∧ RSVs X.K (cx X) g1 H1 vs ds ∧ Out X.K X.mg E g1 H1 (mB (guard (ds.all notExc)) (fun _ => F ds) g1.cs) fun d g' H' => ∀ v, RSV X.K (cx X) g' H' v d → Q v H') I
    ⟨g, ρ, S, V, o.bind.mono fun ds g1 H1 S1 L1 o1 vs rs => ⟨g1, ds, S1, rs, o1⟩⟩) fun us s1 ⟨vs, H1, I1, r1, g1, ds, S1, rs, o1⟩ => ⟨I1.kIn, ?_⟩) he hpl
  obtain ⟨c, o1⟩ := guard_of S1 o1.bind
  show wpAny _ _ (call (.ref f) us) _ _ _
  have sp : tSp X.K X.mg F vs H1 Q E := ⟨g1, ds, S1, rs.non c, o1.mono fun d g2 H2 S2 L2 q v r => q v r.all⟩
  have b := hb s1 us I1.kIn (by rw [List.append_nil, ← r1.length]; exact ok.len _ _ _ _ sp)
  rw [List.append_nil] at b
  refine wpAny_call (codeAny_mono (ok.run X.A X.stack s1 H1 ⟨us, []⟩ us vs Q E hgd hr I1.env0 b r1 sp) fun r s' hq => ?_)
  cases r with
  | error e => exact hx pins σ H1 s1 e s' I1 hq
  | ok fl =>
    cases fl with
    | ret u => exact I1.after hq
    | next => exact False.elim hq
    | brk => exact False.elim hq
    | cont => exact False.elim hq
end MK
set_option Elab.async false
set_option linter.all false
set_option maxRecDepth 100000
set_option maxHeartbeats 2000000
/-! MKn: the law's end: the caller's frame knows that no repr runs around (the way of the library's end with tables, for FnOkG). -/
namespace MK
open PySem PySem.Spec PyProof.Rows L2 LamX
variable {cz : Cxx} [Tb]
/-- what the heap behind the script tells -/
structure LawHeap (K : PySem.W.Frag) (mg : Mg) (cs : List (Addr × Addr)) (a : Addr) (vs : List Value) (h : Heap) : Prop where
  KX : K.In h
  ns : h.Ns mainGlobals mg
  nb : ∃ mb, h.Ns builtinsNs mb ∧ ∀ x : Str, x ≠ "__name__" → mb x = bootBuiltins x
  lim : h.NoLimit
  hT : ∀ p ∈ cs, h.get? p.2 = some { cls := .none, data := .fields #[] }
  nT : ∀ p ∈ cs, K.lookup p.2 = none
  hd : ∀ p ∈ cs, PySem.W.CodeHd h p.1 p.2
  bm : ∃ (bm : Addr) (ob : Obj), mg "__builtins__" = some (.ref bm) ∧ bm ≠ builtinsNs ∧ h.get? bm = some ob ∧ ob.cls = .type "module" ∧ ob.dict = some builtinsNs ∧ ob.data = .plain
  ha : h.get? a = some { cls := .type "list", data := .seq vs.toArray }
  nK : K.lookup a = none
/-- the abstract heap at the law's call: the script, the tables -/
def lawH (cs : List (Addr × Addr)) (a : Addr) (vs : List Value) (ns : List Int) : Hp := fun b =>
  if b = a then some (.frz { cls := .type "list", data := .seq vs.toArray } (.lst (ns.map V.int))) else if b ∈ cs.map (·.2) then some (.tbl #[]) else none
section
variable {P : Program} {w : World} {K : PySem.W.Frag} {mg : Mg} {cs : List (Addr × Addr)} {a : Addr} {vs : List Value} {ns : List Int} {s₁ : Shared}
theorem LawHeap.tb (L : LawHeap K mg cs a vs s₁.heap) {b : Addr} (hb : b ∈ cs.map (·.2)) : s₁.heap.get? b = some { cls := .none, data := .fields #[] } := by
  obtain ⟨p, hp, e⟩ := List.mem_map.mp hb
  rw [← e]
  exact L.hT p hp
theorem LawHeap.aT (L : LawHeap K mg cs a vs s₁.heap) : a ∉ cs.map (·.2) := fun z => by
  have q := L.tb z
  rw [L.ha] at q
  have z' : Data.seq vs.toArray _ = Data.fields #[] := congrArg Obj.data (Option.some.inj q)
  cases z'
theorem lawH_a : lawH cs a vs ns a = some (.frz { cls := .type "list", data := .seq vs.toArray } (.lst (ns.map V.int))) := if_pos rfl
theorem LawHeap.at_ (L : LawHeap K mg cs a vs s₁.heap) {b : Addr} (hb : b ∈ cs.map (·.2)) : lawH cs a vs ns b = some (.tbl #[]) := (if_neg fun z => L.aT (by rw [← z]; exact hb)).trans (if_pos hb)
theorem lawH_off {b : Addr} (h1 : b ≠ a) (h2 : b ∉ cs.map (·.2)) : lawH cs a vs ns b = none := (if_neg h1).trans (if_neg h2)
theorem lawH_some {b : Addr} {u : HO} (h : lawH cs a vs ns b = some u) : (b = a ∧ u = .frz { cls := .type "list", data := .seq vs.toArray } (.lst (ns.map V.int))) ∨ (b ≠ a ∧ b ∈ cs.map (·.2) ∧ u = .tbl #[]) := by
  unfold lawH at h
  by_cases h1 : b = a
  · rw [if_pos h1] at h
    exact .inl ⟨h1, (Option.some.inj h).symm⟩
  · rw [if_neg h1] at h
    by_cases h2 : b ∈ cs.map (·.2)
    · rw [if_pos h2] at h
      exact .inr ⟨h1, h2, (Option.some.inj h).symm⟩
    · rw [if_neg h2] at h
      cases h
theorem LawHeap.ok (L : LawHeap K mg cs a vs s₁.heap) (hi : IntsAre vs ns) (hl : ns.length ≤ sizeLine) : HOk P w (lawH cs a vs ns) s₁.heap := fun b u h => by
  rcases lawH_some h with ⟨e1, e2⟩ | ⟨_, e1, e2⟩
  · subst e1 e2
    exact ⟨L.ha, by rw [List.length_map]; exact hl, vs, _, vals_ints hi, L.ha⟩
  · subst e2
    exact L.tb e1
/-- objects that are neither lists nor empty records are not tracked -/
theorem LawHeap.off (L : LawHeap K mg cs a vs s₁.heap) {b : Addr} {o : Obj} (e : s₁.heap.get? b = some o) (h1 : ∀ vs n, o.data ≠ .seq vs n) (h2 : o.data ≠ .fields #[]) : lawH cs a vs ns b = none := by
  cases q : lawH cs a vs ns b with
  | none => rfl
  | some u =>
    rcases lawH_some q with ⟨e1, _⟩ | ⟨_, e1, _⟩
    · rw [e1, L.ha] at e
      cases e
      exact (h1 _ _ rfl).elim
    · rw [L.tb e1] at e
      cases e
      exact (h2 rfl).elim
theorem LawHeap.offD (L : LawHeap K mg cs a vs s₁.heap) {b : Addr} {o : Obj} {es : Array DictEntry} {ep : Nat} (e : s₁.heap.get? b = some o) (d : o.data = .dict es ep) : lawH cs a vs ns b = none :=
  L.off e (fun vs n z => by rw [d] at z; cases z) fun z => by rw [d] at z; cases z
theorem LawHeap.nsK (L : LawHeap K mg cs a vs s₁.heap) {b : Addr} {m : Str → Option Value} (h : s₁.heap.Ns b m) : (hidT s₁.heap (lawH cs a vs ns)).Ns b m := by
  obtain ⟨o, es, ep, e, d, r⟩ := h
  exact ⟨o, es, ep, hidT_get e (L.offD e d), d, r⟩
theorem LawHeap.inK (L : LawHeap K mg cs a vs s₁.heap) : K.In (hidT s₁.heap (lawH cs a vs ns)) := fun b o e => hidT_get (L.KX b o e) (by
  cases q : lawH cs a vs ns b with
  | none => rfl
  | some u =>
    rcases lawH_some q with ⟨e1, _⟩ | ⟨_, e1, _⟩
    · rw [e1, L.nK] at e; cases e
    · obtain ⟨p, hp, ep⟩ := List.mem_map.mp e1
      rw [← ep, L.nT p hp] at e
      cases e)
theorem LawHeap.mod (L : LawHeap K mg cs a vs s₁.heap) : L2.Mod K mg (hidT s₁.heap (lawH cs a vs ns)) := by
  obtain ⟨mb, h1, h2⟩ := L.nb
  obtain ⟨mc, h3, h4⟩ := L.lim
  exact ⟨L.inK, L.nsK L.ns, ⟨mb, L.nsK h1, h2⟩, ⟨mc, L.nsK h3, h4⟩⟩
theorem LawHeap.tabB (L : LawHeap K mg cs a vs s₁.heap) : ∀ p ∈ cs, TabB (hidT s₁.heap (lawH cs a vs ns)) mg p.1 p.2 := fun p hp => by
  have hTp := L.hT p hp
  refine ⟨?_, ?_, fun z => ?_⟩
  · obtain ⟨o, us, file, tf, flags, tg, inF, text, tt, e1, r1, r2, r3, r4, r5, r6, r7, r8, hne⟩ := L.hd p hp
    refine ⟨o, us, file, tf, flags, tg, inF, text, tt, hidT_get e1 (L.off e1 (fun vs n z => by rw [r2] at z; cases z) fun z => ?_), r1, r2, r3, r4, r5, r6, r7, r8, hne⟩
    rw [r2] at z
    cases z
    simp at r3
  · obtain ⟨bm, ob, b1, b2, b3, b4, b5, b6⟩ := L.bm
    have nG : bm ≠ mainGlobals := fun q => by
      obtain ⟨o, es, ep, e, hd, _⟩ := L.ns
      rw [q, e] at b3
      cases b3
      rw [hd] at b6
      cases b6
    have nP : bm ≠ p.2 := fun q => by
      rw [q, hTp] at b3
      cases b3
      cases b6
    exact ⟨bm, ob, b1, b2, nG, nP, hidT_get b3 (L.off b3 (fun vs n z => by rw [b6] at z; cases z) fun z => by rw [b6] at z; cases z), b4, b5, b6⟩
  · obtain ⟨o, es, ep, e, hd, _⟩ := L.ns
    rw [z, hTp] at e
    cases e
    cases hd
theorem LawHeap.env0 (L : LawHeap K mg cs a vs s₁.heap) (hi : IntsAre vs ns) (hl : ns.length ≤ sizeLine) (hg : s₁.gens = #[]) : Env0 P w K mg (hidT s₁.heap (lawH cs a vs ns)) callerA [] s₁ (lawH cs a vs ns) :=
  ⟨rfl, L.mod, fun b o e => of_hidT e, Nat.le_of_eq (hidT_size _ _), trivial, fun b hb => absurd (show b ∈ ([] : List Addr) from hb) (by simp), L.ok hi hl, .of_eq hg⟩
theorem law_callG {k : Nat} {fa : Addr} {fd : FuncData} {x : Str} {sp : Sp} (L : LawHeap K mg cs a vs s₁.heap) (hi : IntsAre vs ns) (hl : ns.length ≤ sizeLine) (hg : s₁.gens = #[]) (hr : Room k callerA)
    (F : ∀ base : Heap, K.In base → base.Ns mainGlobals mg → (∀ p ∈ cs, TabB base mg p.1 p.2) → FnOkG P w K mg base k fa fd [x] sp) (hbind : ∀ (s : Shared) (u : Value), BindsTo s fd ⟨[u], []⟩ [(x, u)])
    (hsp : sp [.ref a] (lawH cs a vs ns) (fun v _ => v = .bl true) fun _ _ _ => False) :
    codeAny (model P w) callerA (.call (.ref fa) ⟨[.ref a], []⟩) (fun r s' => r = .ok (.ret (.bool true)) ∧ OldK s₁.heap s'.heap ∧ s'.os = s₁.os ∧ AllBare s'.gens) s₁ := by
  refine codeAny_mono ((F _ L.inK (L.nsK L.ns) L.tabB).run callerA [] s₁ _ ⟨[.ref a], []⟩ [.ref a] [.ref a] _ _ rfl hr (L.env0 hi hl hg) (hbind s₁ (.ref a)) (.cons rfl .nil) hsp) fun r s' h => ?_
  cases r with
  | error e =>
    obtain ⟨_, _, _, _, _, _, _, _, _, _, _, _, z⟩ := (show L2N.CX P w [] _ s₁ _ e s' from h)
    exact z.elim
  | ok fl =>
    cases fl with
    | next => exact False.elim h
    | brk => exact False.elim h
    | cont => exact False.elim h
    | ret u =>
      obtain ⟨v, H', os, bare, un, hok', r', q⟩ := h
      have q' : v = .bl true := q
      subst q'
      obtain rfl : u = Value.bool true := r'
      have key : ∀ b o, b ∉ cs.map (·.2) → s₁.heap.get? b = some o → s'.heap.get? b = some o := fun b o nb e => by
        by_cases hb : b = a
        · have z2 := un.frzs b _ _ (by rw [hb]; exact lawH_a)
          obtain ⟨e2, _⟩ := hok' b _ z2
          rw [hb, L.ha] at e
          cases e
          exact e2
        · exact un.keep b o e (lawH_off hb nb) (by intro z; exact absurd (show b ∈ ([] : List Addr) from z) (by simp)) (by simp)
      have grown : ∀ b ∈ cs.map (·.2), ∃ more : Array Value, s'.heap.get? b = some { cls := .none, data := .fields more } := fun b hb => by
        obtain ⟨more, z⟩ := un.tbls b #[] (L.at_ hb)
        exact ⟨_, hok' b _ z⟩
      refine ⟨rfl, ⟨fun b o e => ?_, fun b o e => ?_⟩, os, bare⟩
      · by_cases hb : b ∈ cs.map (·.2)
        · obtain ⟨more, hm⟩ := grown b hb
          obtain ⟨p, hp, ep⟩ := List.mem_map.mp hb
          rw [← ep] at e hm ⊢
          rw [L.hT p hp] at e
          cases e
          exact .inr (.inl ⟨((L.hd p hp).tab (L.hT p hp)).isCodeTable, rfl, #[], more, rfl, by rw [Array.empty_append]; exact hm⟩)
        · exact .inl (key b o hb e)
      · by_cases hb : b ∈ cs.map (·.2)
        · obtain ⟨more, hm⟩ := grown b hb
          exact ⟨_, hm⟩
        · exact ⟨o, key b o hb e⟩
end
end MK
set_option Elab.async false
set_option linter.all false
set_option maxRecDepth 100000
set_option maxHeartbeats 1000000
/-! MKo: a call of values alone: what it computes does not lean on the caller's cells. -/
namespace MK
open PySem PySem.Spec PyProof.Rows L2 LamX
variable {cz : Cxx} [Tb]
def isVal : SV → Bool
  | .val _ => true
  | _ => false
/-- run with no cells; the caller's stay -/
def iso (m : Mm SV) : Mm SV := fun h => match m [] with
  | .ok (.val d) _ => .ok (.val d) h
  | .exn x _ => .exn x h
  | _ => .stuck
def eCallI (F : Fm) (a : Am) : Em := fun ρ => mB (a ρ) fun ds => mB (guard (ds.all isVal)) fun _ => iso (F ds)
def live (g : Gh) : List Addr := (List.range g.cs.length).filterMap fun n => match g.cs[n]?, g.mu[n]? with
  | some (some _), some a => some a
  | _, _ => none
theorem mem_live {g : Gh} {a : Addr} : a ∈ live g ↔ ∃ (n : Nat) (c : Cell), g.cs[n]? = some (some c) ∧ g.mu[n]? = some a := by
  unfold live
  rw [List.mem_filterMap]
  constructor
  · rintro ⟨n, _, h⟩
    split at h
    · rename_i c b e1 e2
      cases h
      exact ⟨n, c, e1, e2⟩
    · cases h
  · rintro ⟨n, c, e1, e2⟩
    refine ⟨n, List.mem_range.mpr (List.getElem?_eq_some_iff.mp e1).1, ?_⟩
    rw [e1, e2]
def bare0 (g : Gh) : Gh := ⟨[], [], live g ++ g.ex⟩
theorem own_bare {g : Gh} {a : Addr} : own (bare0 g) a ↔ own g a := by
  constructor
  · rintro (⟨n, c, h, _⟩ | h)
    · simp [bare0] at h
    · rcases List.mem_append.mp h with h | h
      · exact .inl (mem_live.mp h)
      · exact .inr h
  · rintro (h | h)
    · exact .inr (List.mem_append_left _ (mem_live.mpr h))
    · exact .inr (List.mem_append_right _ h)
section
variable {K : PySem.W.Frag} {mg : Mg} {E : XK} {g : Gh} {H : Hp}
theorem Sim.bare (S : Sim K g H) : Sim K (bare0 g) H :=
  ⟨rfl, fun n c a h => by simp [bare0] at h, fun n m a h => by simp [bare0] at h, fun n a h => by simp [bare0] at h, fun a ha => S.mut (own_bare.mp (.inr ha)), fun n a h => by simp [bare0] at h, S.tabs⟩
theorem XA.sub {g' : Gh} (h0 : ∀ a, own g' a → own g a) {x : Xn} {oa : Option Addr} (h : XA K g H x oa) : XA K g' H x oa := by
  unfold XA at *
  cases q : x.arg with
  | none => rw [q] at h; exact h
  | some p =>
    rw [q] at h
    obtain ⟨dx, v, e1, e2, r⟩ := h
    exact ⟨dx, v, e1, e2, r.sub h0⟩
/-- back among the caller's cells -/
theorem Sim.back {g1 : Gh} {H1 : Hp} (S : Sim K g H) (S1 : Sim K g1 H1) (L : Le (bare0 g) H g1 H1) : Sim K g H1 ∧ Le g H g H1 ∧ ∀ a, own g a → own g1 a := by
  have ow : ∀ a, own g a → own g1 a := fun a h => .inr (by
    rw [L.exe]
    rcases own_bare.mpr h with ⟨n, c, h', _⟩ | h'
    · simp [bare0] at h'
    · exact h')
  have ek : ∀ a, own g a → H1 a = H a := fun a h => L.exk a (by
    rcases own_bare.mpr h with ⟨n, c, h', _⟩ | h'
    · simp [bare0] at h'
    · exact h')
  refine ⟨⟨S.len, fun n c a h1 h2 => ?_, S.inj, fun n a h => L.trk a (S.trk n a h), fun a ha => by rw [ek a (.inr ha)]; exact S.exm a ha, S.exn, S1.tabs⟩, ⟨fun _ _ h => h, fun a o h t n => ⟨(L.keep a o h t fun q => n (own_bare.mp q)).1, n⟩, rfl, fun a ha => ek a (.inr ha), L.trk⟩, ow⟩
  have q := S.cell n c a h1 h2
  have oa : own g a := .inl ⟨n, c, h1, h2⟩
  cases c with
  | lst ds =>
    obtain ⟨vs, e, r⟩ := q
    exact ⟨vs, (ek a oa).trans e, ((r.sub fun a h => own_bare.mp h).mono S.bare L).sub ow⟩
theorem Out.iso {m : Mm SV} {Q : VK} (S : Sim K g H) (o : Out K mg E g H (MK.iso m g.cs) fun d g' H' => ∀ v, RSV K none g' H' v d → Q v H') : Out K mg E (bare0 g) H (m (bare0 g).cs) fun d g' H' => ∀ v, RSV K none g' H' v d → Q v H' := by
  show Out K mg E (bare0 g) H (m []) _
  unfold MK.iso at o
  cases q : m [] with
  | stuck => rw [q] at o; exact o
  | exn x h =>
    rw [q] at o
    intro g1 H1 cls oa e S1 L xr
    obtain ⟨S2, L2, ow⟩ := S.back S1 L
    exact o g H1 cls oa rfl S2 L2 ⟨xr.1, xr.2.sub ow⟩
  | ok d h =>
    rw [q] at o
    cases d with
    | ref n => exact o.elim
    | rng _ _ => exact o.elim
    | exc _ => exact o.elim
    | val d =>
      intro g1 H1 e S1 L v r
      obtain ⟨S2, L2, ow⟩ := S.back S1 L
      exact o g H1 rfl S2 L2 v (RD.sub ow r)
theorem RSVs.bare : ∀ {vs : List V} {ds : List SV}, RSVs K cz g H vs ds → ds.all isVal = true → RSVs K none (bare0 g) H vs ds
  | _, _, .nil, _ => .nil
  | _, _, .cons (d := d) r t, h => by
    rw [List.all_cons, Bool.and_eq_true] at h
    refine .cons ?_ (RSVs.bare t h.2)
    cases d with
    | val d => exact RD.sub (fun a q => own_bare.mp q) r
    | ref _ => cases h.1
    | rng _ _ => cases h.1
    | exc _ => cases h.1
end
section
variable {X : Cx} {E : XK} {e : Expr} {es : List Expr} {ms : Am} {pos p : Pos} {x : Str} {k n : Nat} {F : Fm}
theorem me_callI (D : FnD X.prog X.w X.K X.mg X.base k x n F) (hr : Room k X.A) (hg : Gl X x) (hx : Passes (L2N.CX X.prog X.w) X E) (ha : MA X E (e :: es) ms)
    (hdb : (x == ("__debug__" : Str)) = false := by decide) (he : starEach (e :: es) X.env = (false, eval e X.env) :: starEach es X.env := by rfl) (hpl : (backTo pos (starEach es X.env)).any (·.1) = false := by rfl) :
    ME X E (.Call (.Name x p) (e :: es) [] pos) (eCallI F ms) := by
  obtain ⟨f, fd, ps, ok, hm, hk, hb⟩ := D.ex
  refine PEwk (pe_call ok hr hg hm hk hb .nil hx ha hdb he hpl) fun σ H Q ⟨g, ρ, S, V, o⟩ => ?_
  refine ⟨g, ρ, S, V, o.bind.mono fun ds g1 H1 S1 L1 o1 vs rs => ?_⟩
  show tSp X.K X.mg F (vs ++ []) H1 Q E
  rw [List.append_nil]
  obtain ⟨c, o1⟩ := guard_of S1 o1.bind
  exact ⟨bare0 g1, ds, S1.bare, rs.bare c, Out.iso S1 (o1.mono fun d g2 H2 S2 L2 q v r => q v r.all)⟩
def eCallKI (F : Fm) (is : List Nat) (a : Am) : Em := fun ρ => mB (a ρ) fun ds => mB (guard (ds.all isVal && decide (ds.length = is.length))) fun _ => iso (F (permD is ds))
theorem me_callKI {kws : List Keyword} {ks : List Str} {is : List Nat} (D : FnKw X.prog X.w X.K X.mg X.base k x F ks is) (hks : ks.length = is.length) (hr : Room k X.A) (hg : Gl X x) (hx : Passes (L2N.CX X.prog X.w) X E)
    (ha : PK X kws (tA X.K (cx X) X.mg E ms)) (hdb : (x == ("__debug__" : Str)) = false := by decide) (hall : (backToKw pos (keywordEach kws X.env)).all (·.1.isSome) = true := by rfl) (hkn : (backToKw pos (keywordEach kws X.env)).filterMap (·.1) = ks := by rfl)
    (hpl : ((backTo pos (starEach [] X.env)).any (·.1) || (backToKw pos (keywordEach kws X.env)).any (·.1.isNone)) = false := by rfl) :
    ME X E (.Call (.Name x p) [] kws pos) (eCallKI F is ms) := by
  obtain ⟨f, fd, ps, ok, hm, hk, hb⟩ := D.ex
  refine ⟨fun pins s σ H Q I ⟨g, ρ, S, V, o⟩ => ?_⟩
  refine wpAny_Call_Name_kw (ld_glob I hg hm ?_ hdb)
  refine PySem.W.callWith_KW0 (h₀ := X.base) I.ok.mod.kin hk hall (thn (ha.run pos pins s σ H (fun vs H1 => ∃ g1 ds, Sim X.K g1 H1 ∧ RSVs X.K (cx X) g1 H1 vs ds ∧ Out X.K X.mg E g1 H1 (mB (guard (ds.all isVal && decide (ds.length = is.length))) (fun _ => iso (F (permD is ds))) g1.cs) fun d g' H' => ∀ v, RSV X.K (cx X) g' H' v d → Q v H') I
    ⟨g, ρ, S, V, o.bind.mono fun ds g1 H1 S1 L1 o1 vs rs => ⟨g1, ds, S1, rs, o1⟩⟩) fun us s1 ⟨vs, H1, I1, r1, g1, ds, S1, rs, o1⟩ => ⟨I1.kIn, ?_⟩) hpl
  obtain ⟨c, o1⟩ := guard_of S1 o1.bind
  rw [Bool.and_eq_true] at c
  have hl : ds.length = is.length := of_decide_eq_true c.2
  rw [hkn]
  show wpAny _ _ (call (.ref f) ([] ++ []) (ks.zip us)) _ _ _
  have hus : us.length = ks.length := by rw [← r1.length, rs.length, hl, hks]
  refine wpAny_call (codeAny_mono (ok.run X.A X.stack s1 H1 ⟨[], ks.zip us⟩ (permD is us) (permD is vs) Q E hr I1.env0 (.of_eq (hb.bd us hus)) (vals_permD r1) ⟨bare0 g1, permD is ds, S1.bare, rsvs_permD (rs.bare c.1), Out.iso S1 (o1.mono fun d g2 H2 S2 L2 q v r => q v r.all)⟩) fun r s' hq => ?_)
  cases r with
  | error e => exact hx pins σ H1 s1 e s' I1 hq
  | ok fl =>
    cases fl with
    | ret u => exact I1.after hq
    | next => exact False.elim hq
    | brk => exact False.elim hq
    | cont => exact False.elim hq
end
end MK
set_option Elab.async false
set_option linter.all false
set_option maxRecDepth 100000
set_option maxHeartbeats 1000000
/-! MKp: sorted of a list of tuples whose first is the empty one (the keys are then of one type, not taken apart). -/
namespace PySem.W
open PySem PySem.Calls PyProof.Rows PySem.SeqAt
section
variable {prog : Program} {w : World} {A : Around} {E : Value → Shared → Prop} {s : Shared}
theorem call_tuple_lt {Q : Value → Shared → Prop} {l b : Addr} {items items2 : Array Value} {e r : Nat → Bool} (hl : s.heap.IsTuple l items) (hb : s.heap.IsTuple b items2)
    (he : ∀ j (h1 : j < items.size) (h2 : j < items2.size), EqAt A.in1 s items[j] items2[j] (e j)) (hr : ∀ j (h1 : j < items.size) (h2 : j < items2.size), e j = false → RcLt A.in1 s items[j] items2[j] (r j))
    (h : Q (.bool (firstLt e r (decide (items.size < items2.size)) (List.range (min items.size items2.size)))) s) : wpAny (model prog w) A (call (.builtin "tuple.__lt__") [.ref l, .ref b]) Q E s := by
  obtain ⟨⟨cls, dd, data, sl⟩, ho, hc, n, hd⟩ := id hl
  obtain ⟨⟨cls2, dd2, data2, sl2⟩, ho2, hc2, n2, hd2⟩ := id hb
  simp only at hc hd hc2 hd2
  subst hc hd hc2 hd2
  exact call_meets F.slot_tuple_lt ⟨_, ho, rfl⟩ F.entry_tuple_lt (F.args_tuple_lt_2 _ _) (tuple_ltAt l b items items2 n n2 dd dd2 sl sl2 e r) ⟨ho, ho2, he, hr, h⟩
theorem oneLt_tup {xs ys : List PyData} {a b : Value} {as bs : List Addr} {Q : Bool → Shared → Prop} (ra : Reads s.heap a (.tuple xs) as) (rb : Reads s.heap b (.tuple ys) bs) (h : alike (.tuple xs) (.tuple ys) = true)
    (hu : A.units + min (PyData.tuple xs).depth (PyData.tuple ys).depth < cLine) (hq : Q (dataLt (.tuple xs) (.tuple ys)) s) : wpAny (model prog w) A (oneLt' true a b) Q E s := by
  have hal : alikeAll xs ys = true := by simpa [alike] using h
  cases ra with
  | @tuple l o vs n _ as₁ h1 h2 h3 h4 =>
    cases rb with
    | @tuple l' o' vs' n' _ bs₁ k1 k2 k3 k4 =>
      have n1 : vs.size = xs.length := by simpa using ReadsAll.length _ _ _ h4
      have n2 : vs'.size = ys.length := by simpa using ReadsAll.length _ _ _ k4
      rw [dataLt_tuple, ← firstLt_toks xs ys hal, ← n1, ← n2] at hq
      rw [oneLt'_eq]
      simp only [if_true]
      refine wpAny_bind (wpAny_cRoomFor (room_here hu) ?_)
      refine wpAny_bind (wpAny_callSpecialIfBound?_slot (T := "tuple") ⟨_, h1, h2⟩ F.slot_tuple_lt (call_tuple_lt (e := pairEq xs ys) (r := fun j => dataLt (xs.getD j .none) (ys.getD j .none)) ⟨_, h1, h2, _, h3⟩ ⟨_, k1, k2, _, k3⟩ (fun j j1 j2 => ?_) (fun j j1 j2 hj => ?_) ?_))
      · have := eqAt_alikeAll xs ys A.in1 s vs.toList vs'.toList _ _ h4 k4 hal (room_in hu) j (by simpa using j1) (by simpa using j2)
        simpa using this
      · have := rcLt_alikeAll xs ys A.in1 s vs.toList vs'.toList _ _ h4 k4 hal (room_in hu) j (by simpa using j1) (by simpa using j2) hj
        simpa using this
      · exact wpAny_truthy_bool hq
theorem mapM_each {α β : Type} {M : Model} {f : α → Sem β} : ∀ {vs : List α} {rs : List β} {Q : List β → Shared → Prop}, EachIs (fun v r => ∀ Q' : β → Shared → Prop, Q' r s → wpAny M A (f v) Q' E s) vs rs → Q rs s → wpAny M A (vs.mapM f) Q E s
  | _, _, _, .nil, hq => by rw [List.mapM_nil]; exact wpAny_pure hq
  | _, _, _, .cons h t, hq => by
    rw [List.mapM_cons]
    exact wpAny_bind (h _ (wpAny_bind (mapM_each (Q := fun rs s => wpAny _ A (pure (_ :: rs)) _ E s) t (wpAny_pure hq))))
/-- tuples, the first one empty: keys of one type -/
theorem kind_empty {M : Model} {v : Value} {vs : List Value} {ds : List PyData} {as₀ : List Addr} {Q : SortKind → Shared → Prop} (r₀ : Reads s.heap v (.tuple []) as₀) (e : EachIs (fun v d => ∃ as, Reads s.heap v d as) vs ds) (ht : ∀ d ∈ ds, ∃ xs, d = .tuple xs) (hq : Q oneType' s) :
    wpAny M A (keyKind' (v :: vs).toArray) Q E s := by
  have first : ∀ {v : Value} {xs : List PyData} {as : List Addr}, Reads s.heap v (.tuple xs) as → ∃ r : Option Value, (xs = [] → r = none) ∧ ∀ Q' : Option Value → Shared → Prop, Q' r s → wpAny M A (firstOfTuple' v) Q' E s := fun {v xs as} rd => by
    cases rd with
    | @tuple l o its n _ _ h1 h2 h3 h4 =>
      refine ⟨its[0]?, fun e => ?_, fun Q' q => ?_⟩
      · subst e
        have n1 : its.size = 0 := by simpa using ReadsAll.length _ _ _ h4
        rw [Array.getElem?_eq_none (by omega)]
      · rw [kas_first_eq]
        refine wpAny_bind ((h2 ▸ (Looks.ld h1).andThen .now : Looks M s.heap (typeOf (Value.ref l)) (.type "tuple")).here ?_)
        rw [if_neg (by decide)]
        exact wpAny_bind (listItems_at h1 h3 (wpAny_pure q))
  have tT : ∀ {v : Value} {xs : List PyData} {as : List Addr}, Reads s.heap v (.tuple xs) as → Looks M s.heap (typeOf v) (.type "tuple") := fun rd => looks_reads rd
  obtain ⟨r0, n0, f0⟩ := first r₀
  obtain ⟨rs, hrs⟩ : ∃ rs : List (Option Value), EachIs (fun v r => ∀ Q' : Option Value → Shared → Prop, Q' r s → wpAny M A (firstOfTuple' v) Q' E s) vs rs := by
    clear hq r₀ n0 f0
    induction e with
    | nil => exact ⟨[], .nil⟩
    | cons h t ih =>
      obtain ⟨rs, q⟩ := ih fun d hd => ht d (List.mem_cons_of_mem _ hd)
      obtain ⟨as, rd⟩ := h
      obtain ⟨xs, rfl⟩ := ht _ List.mem_cons_self
      obtain ⟨r, _, f⟩ := first rd
      exact ⟨r :: rs, .cons f q⟩
  have hty : ∀ u ∈ v :: vs, Looks M s.heap (typeOf u) (.type "tuple") := fun u hu => by
    rcases List.mem_cons.mp hu with rfl | hu
    · exact tT r₀
    · obtain ⟨d, hd, as, rd⟩ := e.left u hu
      obtain ⟨xs, rfl⟩ := ht d hd
      exact tT rd
  rw [keyKind'_eq, List.mapM_toArray, map_eq_pure_bind]
  refine wpAny_bind (wpAny_bind (mapM_each (.cons f0 hrs) (wpAny_pure ?_)))
  rw [n0 rfl]
  rw [if_neg (by simp), if_neg (by simp)]
  rw [oneTypeOnly'_eq, List.mapM_toArray, map_eq_pure_bind]
  refine wpAny_bind (wpAny_bind (wpAny_bind (kas_mapM (r := Value.type "tuple") _ (fun v hv Q' hq => (hty v hv).here hq) (wpAny_pure ?_))))
  have hall : ((List.map (fun _ => Value.type "tuple") (v :: vs)).toArray.all fun x => x == Value.type "tuple") = true := by
    simp only [List.all_toArray, List.all_map, List.all_eq_true]
    intro _ _
    rfl
  have h0 : (List.map (fun _ => Value.type "tuple") (v :: vs)).toArray[0]? = some (Value.type "tuple") := by simp
  rw [h0]
  simp only [hall, if_true]
  exact wpAny_pure (wpAny_pure hq)
theorem SortsAt.tups {v : Value} {vs : List Value} {ds : List PyData} {as₀ : List Addr} (r₀ : Reads s.heap v (.tuple []) as₀) (e : EachIs (fun v d => ∃ as, Reads s.heap v d as) vs ds) (ht : ∀ d ∈ ds, ∃ xs, d = .tuple xs) (hal : AllAlike (.tuple [] :: ds)) (hu : ∀ d, d ∈ PyData.tuple [] :: ds → A.units + d.depth < cLine) :
    SortsAt prog w A s (dataKind s.heap (.tuple [] :: ds)) (v :: vs) := by
  have e' : EachIs (fun v d => ∃ as, Reads s.heap v d as) (v :: vs) (.tuple [] :: ds) := .cons ⟨as₀, r₀⟩ e
  have ht' : ∀ d ∈ PyData.tuple [] :: ds, ∃ xs, d = .tuple xs := fun d hd => by
    rcases List.mem_cons.mp hd with rfl | hd
    · exact ⟨[], rfl⟩
    · exact ht d hd
  refine ⟨fun u hv => ?_, oneType', ?_, fun h2 E Q hq => kind_empty r₀ e ht hq⟩
  · obtain ⟨d, hd, as, r⟩ := e'.left u hv
    exact ⟨_, dataKind_some hal hd r⟩
  · intro E x y a b Q ha hb hq
    obtain ⟨d, as, hd, ra, rfl⟩ := dataKind_inv ha
    obtain ⟨d', as', hd', rb, rfl⟩ := dataKind_inv hb
    rw [keyLt'_oneType]
    obtain ⟨xs, rfl⟩ := ht' d hd
    obtain ⟨ys, rfl⟩ := ht' d' hd'
    exact oneLt_tup ra rb (hal _ hd _ hd') (Nat.lt_of_le_of_lt (Nat.add_le_add_left (Nat.min_le_left _ _) _) (hu _ hd)) hq
end
end PySem.W

namespace PySem.W
section
variable {α : Type} {le : α → α → Bool}
def ins (le : α → α → Bool) (x : α) : List α → List α
  | [] => [x]
  | y :: l => if le x y then x :: y :: l else y :: ins le x l
def isort (le : α → α → Bool) : List α → List α
  | [] => []
  | x :: l => ins le x (isort le l)
theorem ins_mem {x z : α} : ∀ {l : List α}, z ∈ ins le x l → z = x ∨ z ∈ l
  | [], h => by simp [ins] at h; exact .inl h
  | y :: l, h => by
    unfold ins at h
    split at h
    · rcases List.mem_cons.mp h with h | h
      · exact .inl h
      · exact .inr h
    · rcases List.mem_cons.mp h with h | h
      · exact .inr (by rw [h]; exact List.mem_cons_self)
      · rcases ins_mem h with h | h
        · exact .inl h
        · exact .inr (List.mem_cons_of_mem _ h)
theorem ins_sorted (h : TotalLe le) {x : α} : ∀ {l : List α}, l.Pairwise (fun a b => le a b = true) → (ins le x l).Pairwise (fun a b => le a b = true)
  | [], _ => by unfold ins; exact List.pairwise_singleton _ _
  | y :: l, hp => by
    obtain ⟨h1, h2⟩ := List.pairwise_cons.mp hp
    unfold ins
    split
    · rename_i hxy
      refine List.pairwise_cons.mpr ⟨fun z hz => ?_, hp⟩
      rcases List.mem_cons.mp hz with rfl | hz
      · exact hxy
      · exact h.trans _ _ _ hxy (h1 z hz)
    · rename_i hxy
      have hyx : le y x = true := (h.total x y).elim (fun z => absurd z hxy) id
      refine List.pairwise_cons.mpr ⟨fun z hz => ?_, ins_sorted h h2⟩
      rcases ins_mem hz with rfl | hz
      · exact hyx
      · exact h1 z hz
theorem isort_sorted (h : TotalLe le) : ∀ l : List α, (isort le l).Pairwise (fun a b => le a b = true)
  | [] => List.Pairwise.nil
  | x :: l => ins_sorted h (isort_sorted h l)
theorem ins_filter (h : TotalLe le) {x c : α} : ∀ l : List α, (ins le x l).filter (sameRank le c) = (x :: l).filter (sameRank le c)
  | [] => rfl
  | y :: l => by
    unfold ins
    split
    · rfl
    · rename_i hxy
      rw [List.filter_cons, ins_filter h l, List.filter_cons, List.filter_cons, List.filter_cons]
      by_cases px : sameRank le c x = true
      · by_cases py : sameRank le c y = true
        · unfold sameRank at px py
          rw [Bool.and_eq_true] at px py
          exact absurd (h.trans _ _ _ px.2 py.1) hxy
        · simp [px, py]
      · by_cases py : sameRank le c y = true
        · rw [if_pos py, if_neg px, if_neg px, if_pos py]
        · rw [if_neg py, if_neg px, if_neg px, if_neg py]
theorem isort_filter (h : TotalLe le) (c : α) : ∀ l : List α, (isort le l).filter (sameRank le c) = l.filter (sameRank le c)
  | [] => rfl
  | x :: l => by
    show (ins le x (isort le l)).filter _ = _
    rw [ins_filter h, List.filter_cons, List.filter_cons, isort_filter h c l]
theorem isort_eq (h : TotalLe le) (l : List α) : isort le l = l.mergeSort le := sort_unique h (isort_sorted h l) fun c => isort_filter h c l
end
end PySem.W
namespace MK
open PySem PySem.Spec PyProof.Rows L2 PySem.W
variable {cz : Cxx} [Tb]
def isTup : PyData → Bool
  | .tuple _ => true
  | _ => false
def srtOk (ds : List PyData) : Bool := ds.all isTup && ((ds.all fun d => ds.all fun e => alike d e) && ((ds.all fun d => decide (d.depth ≤ 10)) && decide (ds.length ≤ 10000)))
def bSorted : SV → Mm SV
  | .val (.list (.tuple [] :: ds)) => mB (guard (srtOk (.tuple [] :: ds))) fun _ => mP (.val (.list (isort (dataLe false id) (.tuple [] :: ds))))
  | _ => mStuck
def rSrt (K : PySem.W.Frag) : List V → Hp → VK → Prop := fun xs H Q => ∃ x g ds, xs = [x] ∧ RD K g H x (.list (.tuple [] :: ds)) ∧ srtOk (.tuple [] :: ds) = true ∧ ∀ ys p, H p = none → RDs K g H ys (isort (dataLe false id) (.tuple [] :: ds)) → Q (.ref p) (upd H p (.lst ys))
section
variable {X : Cx} {E : XK}
theorem each_of {K : PySem.W.Frag} {g : Gh} {H : Hp} : ∀ {xs : List V} {us : List Value} {ds : List PyData}, Vals xs us → RDs K g H xs ds → EachIs (fun u d => ∃ y, RelV y u ∧ RD K g H y d) us ds
  | _, _, _, .nil, .nil => .nil
  | _, _, _, .cons r t, .cons q v => .cons ⟨_, r, q⟩ (each_of t v)
theorem of_each {K : PySem.W.Frag} {g : Gh} {H : Hp} : ∀ {us : List Value} {ds : List PyData}, EachIs (fun u d => ∃ y, RelV y u ∧ RD K g H y d) us ds → ∃ ys, Vals ys us ∧ RDs K g H ys ds
  | _, _, .nil => ⟨[], .nil, .nil⟩
  | _, _, .cons ⟨y, r, q⟩ t => let ⟨ys, a, b⟩ := of_each t; ⟨y :: ys, .cons r a, .cons q b⟩
theorem call_srt (hu : X.A.units + 65 < cLine) : CallR X (.builtin "sorted") (rSrt X.K) := by
  intro pins s σ H vs us Q I r h
  obtain ⟨x, g, ds, rfl, rd, ok, q⟩ := h
  unfold srtOk at ok
  simp only [Bool.and_eq_true, List.all_eq_true, decide_eq_true_eq] at ok
  obtain ⟨o1, o2, o3, o4⟩ := ok
  cases rd with
  | @lst a xs _ h1 h2 =>
    obtain ⟨u, rfl, ru⟩ := vals1 r
    obtain rfl : u = Value.ref a := ru
    obtain ⟨its, rv, hl, hz⟩ := I.list h1.sq
    have e := each_of rv h2
    have er : EachIs (fun v b => ∃ as, Reads s.heap v b as) its (.tuple [] :: ds) := e.mono fun u d ⟨y, ry, rdy⟩ => reads_of I rdy ry
    have er' : EachIs (fun v b => ∃ as, Reads (sortingHeap (copyHeap s.heap its) (s.heap.objs.size + 1) its) v b as) its (.tuple [] :: ds) := er.mono fun _ _ ⟨as, r⟩ => ⟨as, PyProof.Rows.Reads.keeps (fun _ _ => sorting_copy_old) r⟩
    have hal : AllAlike (PyData.tuple [] :: ds) := fun d hd d' hd' => o2 d hd d' hd'
    have tot : TotalLe (dataLe false (id : PyData → PyData)) := sortLe_total _ _ _
    have ht : ∀ d ∈ ds, ∃ xs, d = PyData.tuple xs := fun d hd => by
      have := o1 d (List.mem_cons_of_mem _ hd)
      cases d <;> first | exact ⟨_, rfl⟩ | cases this
    refine sorted_vals (κ := dataKind (sortingHeap (copyHeap s.heap its) (s.heap.objs.size + 1) its) (.tuple [] :: ds)) hl.isList ?_ (by rw [← rv.length]; exact hz) ?_
    · cases er' with
      | cons r0 rest =>
        obtain ⟨as0, r0⟩ := r0
        refine SortsAt.tups r0 rest ht hal fun d hd => ?_
        have := o3 d hd
        show X.A.units + 1 + 1 + d.depth < cLine
        omega
    · have out := sortVals_data (h' := sortingHeap (copyHeap s.heap its) (s.heap.objs.size + 1) its) (enc := id) false e er' (by rw [List.map_id]; exact hal)
      rw [List.map_id] at out
      rw [← isort_eq tot] at out
      obtain ⟨ys, rv2, rd2⟩ := of_each out
      obtain ⟨c, hc⟩ := sortedAll_at s.heap its (sortVals (dataKind (sortingHeap (copyHeap s.heap its) (s.heap.objs.size + 1) its) (.tuple [] :: ds)) false its its).toArray
      refine ⟨.ref (s.heap.objs.size + 1), upd H (s.heap.objs.size + 1) (.lst ys), I.laid (t' := s.toks) (fun b o z => sortedAll_old z) (Nat.le_succ _) ⟨?_, _, c, rv2, hc⟩, rfl, q ys _ (I.hok.fresh (Nat.le_succ _)) rd2⟩
      rw [rv2.length, sortVals_length false rfl, ← rv.length]
      exact hz
theorem bo_sorted (hu : X.A.units + 65 < cLine) : BltOk X E (.builtin "sorted") (b1 bSorted) := by
  refine ⟨rSrt X.K, call_srt hu, fun g H vs ds Q S r o => ?_⟩
  cases r with
  | nil => exact o.elim
  | cons r1 t =>
    rename_i v vs d ds0
    cases t with
    | cons _ _ => exact o.elim
    | nil =>
      have o : Out X.K X.mg E g H (bSorted d g.cs) _ := o
      unfold bSorted at o
      split at o
      · rename_i ds _
        obtain ⟨c, o⟩ := guard_of S o.bind
        refine ⟨v, g, ds, rfl, r1, c, fun ys p hp rd => ?_⟩
        obtain ⟨q, S2, L2⟩ := Out.laid (u := .lst ys) S hp o
        exact q _ (RD.lst ⟨.inl upd_same, fun z => S.fresh_own hp z⟩ (rd.mono S L2))
      · exact o.stuck.elim
end
end MK
set_option Elab.async false
set_option linter.all false
set_option maxRecDepth 100000
set_option maxHeartbeats 1000000
/-! MKz: the rules in short words, what is plain left to the kernel. -/
namespace MK
open PySem PySem.Spec PyProof.Rows L2 LamX
variable {cz : Cxx} [Tb]
/-! ### powers of constants -/
def fPow : SV → SV → Mm SV := int2 fun i j => mB (guard (decide (0 ≤ j ∧ j ≤ 1000000) && decide (i.natAbs < 2 ^ 64))) fun _ => vI (i ^ j.toNat)
section
variable {X : Cx} {E : XK} {K : PySem.W.Frag} {mg : Mg} {a b : Expr} {ma mb : Em} {pos : Pos}
theorem s2_pow : S2 K cz mg E (rI CPow fun i j => .int (i ^ j.toNat)) fPow := by
  intro g H x y dx dy Q S rx ry o
  obtain ⟨i, ex, o⟩ := int_of S rx o.bind
  obtain ⟨j, ey, o⟩ := int_of S ry o.bind
  obtain ⟨c, o⟩ := guard_of S o.bind
  rw [Bool.and_eq_true] at c
  have c1 := of_decide_eq_true c.1
  exact ⟨i, j, ex, ey, ⟨c1.1, c1.2, of_decide_eq_true c.2⟩, o.pure S _ (RD.int _)⟩
theorem me_pow (ha : ME X E a ma) (hb : ME X E b mb) : ME X E (.BinOp a .Pow b pos) (eOp2 fPow ma mb) := me_op op_pow s2_pow ha hb
end
theorem passLN {X : Cx} : Passes (L2N.CX X.prog X.w) X E0 := fun _ _ _ _ _ _ _ h => by
  obtain ⟨_, _, _, _, _, _, _, _, _, _, _, _, z⟩ := h
  exact z.elim
theorem passLam {X : Cx} {A : Around} {outer : List Env} {s : Shared} {H : Hp} {E : XK} {scope : Scope} {f c' : Addr} : Passes (L2N.CX (lamN X A outer s H E scope f c').prog (lamN X A outer s H E scope f c').w) (lamN X A outer s H E scope f c') E :=
  L2N.passes_call (X := lamN X A outer s H E scope f c') (L2N.takes_of rfl rfl rfl rfl) fun _ _ _ _ h => h
theorem hu65 {k : Nat} {A : Around} (r : Room k A) : A.units + 65 < cLine := by have := r.un; omega
theorem hu30 {k : Nat} {A : Around} (r : Room k A) : A.units + 30 < cLine := by have := r.un; omega
theorem FunD.toFun {K : PySem.W.Frag} {x qual : Str} {st : Stmt} {f : Addr} {fd : FuncData} (F : FunD K x qual (defArgs st) (defBody st) (defScope st) [] [] f fd) : Fun K x qual st f fd := by
  obtain ⟨oc, od, dV, kV, doc, pm, an, cdv, ct, osl, e, lk, hc, hd, _⟩ := F.ex
  rcases hd with ⟨_, hd⟩ | ⟨hd, _⟩
  · subst hd
    exact ⟨⟨oc, od, kV, doc, pm, an, cdv, ct, osl, e, lk, hc⟩, F.kp⟩
  · exact absurd rfl hd
section
variable {X : Cx} {E : XK} {e a b c d : Expr} {es : List Expr} {ma mb mc md : Em} {ta tb : Tm} {ms : Am} {pos p p2 : Pos} {x : Str} {k n : Nat} {F : Fm} {ws : List Nat} {o : Bool}
theorem mv (i : Nat) (hN : X.N[i]? = some x := by rfl) (hv : Vis X.env.scope x := by first | exact Or.inl rfl | exact Or.inr (Or.inl rfl) | exact Or.inr (Or.inr rfl)) (hd : (x == ("__debug__" : Str)) = false := by decide) (hcd : (x == ("__classdict__" : Str)) = false := by decide) :
    ME X E (.Name x pos) (eVar i) := me_var hN hv hd hcd
theorem mz (i : Nat) (hN : X.N[i]? = some x := by rfl) (hv : Vis X.env.scope x := by first | exact Or.inl rfl | exact Or.inr (Or.inl rfl) | exact Or.inr (Or.inr rfl)) (hd : (x == ("__debug__" : Str)) = false := by decide) (hcd : (x == ("__classdict__" : Str)) = false := by decide) :
    ME X E (.Name x pos) (eFrz i) := me_frz hN hv hd hcd
theorem mgl {d : PyData} (G : GlobD X.K X.mg x d) (hg : Gl X x := by rfl) (hd : (x == ("__debug__" : Str)) = false := by decide) : ME X E (.Name x pos) (eC d) := me_glob G hg hd
theorem mcmp {op : CmpOp} {F : SV → SV → Mm SV} (c : CmpOk X E op F) (ha : ME X E a ma) (hb : ME X E b mb) (hm : behindInMarks op b = false := by rfl) : ME X E (.Compare a [op] [b] pos) (eOp2 F ma mb) := me_cmp' c ha hb hm
theorem tcmp {op : CmpOp} {F : SV → SV → Mm SV} (c : CmpOk X E op F) (ha : ME X E a ma) (hb : ME X E b mb) (hm : behindInMarks op b = false := by rfl) : MT X E (.Compare a [op] [b] pos) (tE (eOp2 F ma mb)) := mt_cmp' c ha hb hm
theorem mchain {op op' : CmpOp} {F G : SV → SV → Mm SV} (c : CmpOk X E op F) (c' : CmpOk X E op' G) (ha : ME X E a ma) (hb : ME X E b mb) (hc : ME X E d mc) (hm : lastMarks [op, op'] [b, d] = false := by rfl) : ME X E (.Compare a [op, op'] [b, d] pos) (eChain F G ma mb mc) := me_chain' c c' ha hb hc hm
theorem tchain {op op' : CmpOp} {F G : SV → SV → Mm SV} (c : CmpOk X E op F) (c' : CmpOk X E op' G) (ha : ME X E a ma) (hb : ME X E b mb) (hc : ME X E d mc) (hm : lastMarks [op, op'] [b, d] = false := by rfl) : MT X E (.Compare a [op, op'] [b, d] pos) (tE (eChain F G ma mb mc)) := mt_chain' c c' ha hb hc hm
theorem tval (ha : ME X E a ma) (he : ∀ whole, isTrue a X.env whole = (do let v ← whole; standAt a.pos; holding [v] (truthy v)) := by intro _; rfl) : MT X E a (tE ma) := mt_val ha he
theorem mac (ha : ME X E e ma) (hr : MA X E es ms) (hs : starEach (e :: es) X.env = (false, eval e X.env) :: starEach es X.env := by rfl) : MA X E (e :: es) (aCons ma ms) := ma_cons ha hr hs
theorem mas (ha : ME X E a ma) (hr : MA X E es ms) (hs : starEach (.Starred a p :: es) X.env = (true, eval a X.env) :: starEach es X.env := by rfl) : MA X E (.Starred a p :: es) (aStar ma ms) := ma_star ha hr hs
theorem mxi (ha : ME X E a ma) (hb : ME X E b mb) (hs : PlainIx b := by intro _ _; rfl) : ME X E (.Subscript a b pos) (eOp2 fIx ma mb) := me_ix ha hb hs
theorem mcb {G : List SV → Mm SV} {id : String} (B : BltOk X E (.builtin id) G) (hm : X.mg x = none) (hv : bootBuiltins x = some (.builtin id)) (ha : MA X E (a :: es) ms) (hg : Gl X x := by rfl) (hn : x ≠ "__name__" := by decide) (hdb : (x == ("__debug__" : Str)) = false := by decide)
    (he : starEach (a :: es) X.env = (false, eval a X.env) :: starEach es X.env := by rfl) (hpl : (backTo pos (starEach es X.env)).any (·.1) = false := by rfl) : ME X E (.Call (.Name x p) (a :: es) [] pos) (eArgs G ms) := me_cb B hg hm hv ha hn hdb he hpl
theorem mct {G : List SV → Mm SV} {T : String} (B : BltOk X E (.type T) G) (hm : X.mg x = none) (hv : bootBuiltins x = some (.type T)) (ha : MA X E (a :: es) ms) (hg : Gl X x := by rfl) (hn : x ≠ "__name__" := by decide) (hdb : (x == ("__debug__" : Str)) = false := by decide)
    (he : starEach (a :: es) X.env = (false, eval a X.env) :: starEach es X.env := by rfl) (hpl : (backTo pos (starEach es X.env)).any (·.1) = false := by rfl) : ME X E (.Call (.Name x p) (a :: es) [] pos) (eArgs G ms) := me_ct B hg hm hv ha hn hdb he hpl
theorem mcg {G : List SV → Mm SV} {id : String} (B : BltOk X E (.builtin id) G) (hm : X.mg x = some (.builtin id)) (ha : MA X E (a :: es) ms) (hg : Gl X x := by rfl) (hdb : (x == ("__debug__" : Str)) = false := by decide)
    (he : starEach (a :: es) X.env = (false, eval a X.env) :: starEach es X.env := by rfl) (hpl : (backTo pos (starEach es X.env)).any (·.1) = false := by rfl) : ME X E (.Call (.Name x p) (a :: es) [] pos) (eArgs G ms) := me_cg B hg hm ha hdb he hpl
theorem mcall (D : FnD X.prog X.w X.K X.mg X.base k x n F) (hr : Room k X.A) (hx : Passes (L2N.CX X.prog X.w) X E) (ha : MA X E (e :: es) ms) (hg : Gl X x := by rfl)
    (hdb : (x == ("__debug__" : Str)) = false := by decide) (he : starEach (e :: es) X.env = (false, eval e X.env) :: starEach es X.env := by rfl) (hpl : (backTo pos (starEach es X.env)).any (·.1) = false := by rfl) :
    ME X E (.Call (.Name x p) (e :: es) [] pos) (eCallI F ms) := me_callI D hr hg hx ha hdb he hpl
theorem mcallR (D : FnD X.prog X.w X.K X.mg X.base k x n F) (hr : Room k X.A) (hx : Passes (L2N.CX X.prog X.w) X E) (ha : MA X E (e :: es) ms) (hg : Gl X x := by rfl)
    (hdb : (x == ("__debug__" : Str)) = false := by decide) (he : starEach (e :: es) X.env = (false, eval e X.env) :: starEach es X.env := by rfl) (hpl : (backTo pos (starEach es X.env)).any (·.1) = false := by rfl) :
    ME X E (.Call (.Name x p) (e :: es) [] pos) (eCall F ms) := me_call D hr hg hx ha hdb he hpl
theorem misi (T : Ty) (hm : X.mg "isinstance" = none) (hmt : X.mg x = none) (hv : bootBuiltins x = some (.type T.nm)) (ha : ME X E e ma) (hg : Gl X "isinstance" := by rfl) (hgt : Gl X x := by rfl)
    (hn : x ≠ "__name__" := by decide) (hdb : (x == ("__debug__" : Str)) = false := by decide)
    (he : starEach (e :: [Expr.Name x p2]) X.env = (false, eval e X.env) :: starEach [Expr.Name x p2] X.env := by rfl) (hpl : (backTo pos (starEach [Expr.Name x p2] X.env)).any (·.1) = false := by rfl)
    (he2 : starEach [Expr.Name x p2] X.env = (false, eval (.Name x p2) X.env) :: starEach [] X.env := by rfl) : ME X E (.Call (.Name "isinstance" p) [e, .Name x p2] [] pos) (eOp1 (fIsi T) ma) := me_isi T ha hg hm hgt hmt hv hn hdb he hpl he2
variable {st : Stmt} {rest bs cs : List Stmt} {sa sb : Sm} {tg it : Expr} {mi : Im} {t : Gm} {tc : Tm} {te : Em} {scope : Scope} {own' : List (Str × Nat)} {ifs : List Expr}
theorem gv (i : Nat) (hN : X.N.Nodup) (hi : X.N[i]? = some x := by rfl) (hx : Loc X.env.scope x := by first | exact Or.inl rfl | exact Or.inr rfl) (hw : i ∈ ws := by decide) (hf : X.fn x = true ∨ X.env.scope.names.lookup x = some .local := by first | exact Or.inl rfl | exact Or.inr rfl) : MG X E ws (.Name x pos) (gVar i) := mg_var hN hi hx hw hf
theorem gc {t : Gm} {ts : List Expr} {tr : Gsm} (h1 : MG X E ws e t) (h2 : MGs X E ws ts tr) (hs : (assignEach (e :: ts) X.env).map (·.2) = assign e X.env :: (assignEach ts X.env).map (·.2) := by rfl) : MGs X E ws (e :: ts) (gsCons t tr) := mgs_cons h1 h2 hs
theorem gt {ts : List Expr} {k n : Nat} {t : Gsm} (h : MGs X E ws ts t) (hc : X.calm = true := by rfl) (hn : (assignEach ts X.env).length = n := by rfl) (hst : (assignEach ts X.env).findIdx? (·.1) = none := by rfl) : MG X E ws (.Tuple ts k pos) (gTup n t) := mg_tup hc h hn hst
theorem gi (ha : ME X E a ma) (hb : ME X E b mb) (hs : ∀ v, assign (.Subscript a b pos) X.env v = (do
      let ov ← holding [v] (eval a X.env)
      let iv ← holding [v, ov] (eval b X.env)
      standAt pos
      holding [v, ov, iv] (setItem ov iv v)
      release [v, ov, iv] []) := by intro _; rfl) : MG X E ws (.Subscript a b pos) (gIx ma mb) := mg_ix ha hb hs
theorem sexpr (ha : ME X E e ma) (hs : swapsWith e none pos.line X.env = pure false := by rfl) : MS X E (.Expr e pos) (sExpr ma) := ms_expr ha hs
theorem sset (i : Nat) {p' : Pos} (hN : X.N.Nodup) (he : ME X E e ma) (hi : X.N[i]? = some x := by rfl) (hx : Loc X.env.scope x := by first | exact Or.inl rfl | exact Or.inr rfl) (hs : swapsWith e (some (.Name x p')) pos.line X.env = pure false := by rfl) (hf : X.fn x = true ∨ X.env.scope.names.lookup x = some .local := by first | exact Or.inl rfl | exact Or.inr rfl) :
    MS X E (.Assign [.Name x p'] e pos) (sAsg ma (gVar i)) := ms_set hN hi hx he hs hf
theorem sasg {tg : Expr} {t : Gm} (ws : List Nat) (he : ME X E e ma) (hg : MG X E ws tg t) (hs : swapsWithSole [tg] e pos.line X.env = pure false := by rfl) (hw : swappedStores [tg] e X.env = pure none := by rfl)
    (h1 : (assignEach [tg] X.env).map (·.2) = [assign tg X.env] := by rfl) : MS X E (.Assign [tg] e pos) (sAsg ma t) := ms_asg he hg hs hw h1
theorem spar (i j : Nat) {x y : Str} {px py pt : Pos} {kt k2 : Nat} {pt2 : Pos} (hN : X.N.Nodup) (ha : MA X E [a, b] ms) (hij : i ≠ j := by decide) (hc : X.calm = true := by rfl) (hi : X.N[i]? = some x := by rfl) (hj : X.N[j]? = some y := by rfl)
    (hx : X.env.scope.names.lookup x = some .local := by rfl) (hy : X.env.scope.names.lookup y = some .local := by rfl)
    (hw : swappedStores [.Tuple [.Name x px, .Name y py] kt pt] (.Tuple [a, b] k2 pt2) X.env = pure (some [x, y]) := by rfl)
    (hs : swapsWithSole [.Tuple [.Name x px, .Name y py] kt pt] (.Tuple [a, b] k2 pt2) pos.line X.env = pure false := by rfl) :
    MS X E (.Assign [.Tuple [.Name x px, .Name y py] kt pt] (.Tuple [a, b] k2 pt2) pos) (sPar i j ms) := ms_par hc hN hi hj hij hx hy ha hw hs
theorem sapp {apos : Pos} (ha : ME X E a ma) (hb : ME X E b mb) (hbase : attributeBase a "append" X.env (eval a X.env) = eval a X.env := by rfl)
    (hfew : ((backTo pos (starEach [b] X.env)).all (fun x => !x.1) && (backToKw pos (keywordEach [] X.env)).all (fun x => x.1.isSome)
      && decide ([b].length + ([] : List Keyword).length + (if ([] : List Keyword).isEmpty then 0 else 1) < 30)) = true := by rfl)
    (hline : (apos.endLine == pos.line) = true := by rfl) (hs : starEach [b] X.env = (false, eval b X.env) :: starEach [] X.env := by rfl) (hplain : (backTo pos (starEach [] X.env)).any (·.1) = false := by rfl) :
    ME X E (.Call (.Attribute a "append" apos) [b] [] pos) (fun ρ => mB (ma ρ) fun x => mB (isLs x) fun _ => mB (mb ρ) fun y => mApp x y) := me_append ha hb hbase hfew hline hs hplain
theorem sfor (ws : List Nat) (hp : PassesOwn (model X.prog X.w) X.A X.env X.xe) (hi : MI X E tg it mi) (hg : MG X E ws tg t) (hb : MSs X E bs sb) (hc : X.calm = true := by rfl) (hs : ∀ x, foldedSetIterable it X.env x = pure x := by intro _; rfl) : MS X E (.For tg it bs [] pos) (sFor mi t sb) := ms_for hp hc hi hg hb hs
theorem mlc (own' : List (Str × Nat)) (hN : X.N.Nodup) (hi : MI X E tg it mi)
    (hg : ∀ (s : Shared) (H : Hp) (C : Addr) (cl : List (Str × Addr)) (fp : List Addr), MG (X.blk s H scope (compEnvC scope cl C X.env) fp) E0 (own'.map (·.2)) tg t)
    (ht : ∀ (s : Shared) (H : Hp) (C : Addr) (cl : List (Str × Addr)) (fp : List Addr), MTs (X.blk s H scope (compEnvC scope cl C X.env) fp) E0 ifs tc)
    (he : ∀ (s : Shared) (H : Hp) (C : Addr) (cl : List (Str × Addr)) (fp : List Addr), ME (X.blk s H scope (compEnvC scope cl C X.env) fp) E0 c te)
    (ok : blkC X.N X.env.scope scope own' = true := by rfl) (hc : X.calm = true := by rfl) (hs : ∀ x, foldedSetIterable it X.env x = pure x := by intro _; rfl) : ME X E (.ListComp c [⟨tg, it, ifs, 0⟩] scope pos) (eLc o mi t tc te (own'.map (·.2))) := me_lc hc hN hi (blkOk_by ok) hg ht he hs
theorem ienum {elts : List Expr} {kk : Nat} {tpos : Pos} (hm : X.mg "enumerate" = none) (ha : ME X E e ma) (hg : Gl X "enumerate" := by rfl) (hs : starEach [e] X.env = [(false, eval e X.env)] := by rfl) : MI X E (.Tuple elts kk tpos) (.Call (.Name "enumerate" p) [e] [] pos) (iEnum ma) := mi_enum hg hm ha hs
theorem izip {elts : List Expr} {kk : Nat} {tpos : Pos} (hm : X.mg "zip" = none) (ha : ME X E a ma) (hb : ME X E b mb) (hg : Gl X "zip" := by rfl) (hs : starEach [a, b] X.env = (false, eval a X.env) :: starEach [b] X.env := by rfl) (hs2 : starEach [b] X.env = (false, eval b X.env) :: starEach [] X.env := by rfl)
    (hpl : (backTo pos (starEach [b] X.env)).any (·.1) = false := by rfl) : MI X E (.Tuple elts kk tpos) (.Call (.Name "zip" p) [a, b] [] pos) (iZip ma mb) := mi_zip hg hm ha hb hs hs2 hpl
theorem izip3 {elts : List Expr} {kk : Nat} {tpos : Pos} (hm : X.mg "zip" = none) (ha : ME X E a ma) (hb : ME X E b mb) (hc : ME X E c mc) (hg : Gl X "zip" := by rfl) (hs : starEach [a, b, c] X.env = (false, eval a X.env) :: starEach [b, c] X.env := by rfl)
    (hs2 : starEach [b, c] X.env = (false, eval b X.env) :: starEach [c] X.env := by rfl) (hs3 : starEach [c] X.env = (false, eval c X.env) :: starEach [] X.env := by rfl) (hpl : (backTo pos (starEach [b, c] X.env)).any (·.1) = false := by rfl) :
    MI X E (.Tuple elts kk tpos) (.Call (.Name "zip" p) [a, b, c] [] pos) (iZip3 ma mb mc) := mi_zip3 hg hm ha hb hc hs hs2 hs3 hpl
theorem irng1 (hm : X.mg "range" = none) (ha : ME X E e ma) (hg : Gl X "range" := by rfl) (hs : starEach [e] X.env = [(false, eval e X.env)] := by rfl) : MI X E tg (.Call (.Name "range" p) [e] [] pos) (iRng1 ma) := mi_rng1 hg hm ha hs
theorem irng2 (hm : X.mg "range" = none) (ha : ME X E a ma) (hb : ME X E b mb) (hg : Gl X "range" := by rfl) (hs : starEach [a, b] X.env = [(false, eval a X.env), (false, eval b X.env)] := by rfl) (hs2 : starEach [b] X.env = [(false, eval b X.env)] := by rfl) : MI X E tg (.Call (.Name "range" p) [a, b] [] pos) (iRng2 ma mb) := mi_rng2 hg hm ha hb hs hs2
theorem sraise {C fI : Addr} {nm fld : Str} {pos2 : Pos} (FO : PySem.MKX.FldOk fld) (T : PySem.MKX.XTxt X.prog X.K X.mg nm fld C fI) (hr : Room k X.A) (tk : L2N.Takes X (fun cls d _ H => E cls d H)) (ha : ME X E a ma) (hc : X.calm = true := by rfl) (hg : Gl X nm := by rfl)
    (hdb : (nm == ("__debug__" : Str)) = false := by decide) (he : starEach (a :: []) X.env = (false, eval a X.env) :: starEach [] X.env := by rfl) (hpl : (backTo pos (starEach [] X.env)).any (·.1) = false := by rfl) :
    MS X E (.Raise (some (.Call (.Name nm p) [a] [] pos)) none pos2) (sRaiseX nm fld ma) := ms_raiseX hc tk FO T hr ha hg hdb he hpl
end

end MK
namespace L2
open PySem PySem.Spec PyProof.Rows
/-- a, b = x, y where the stores are not swapped (captured names, constants): the pair itself is not tracked -/
theorem ps_parC {X : Cx} {i j : Nat} {x y : Str} {a b : Expr} {ta : TA} {px py pt pos : Pos} {kt k2 : Nat} {pt2 : Pos} (hc : X.calm = true) (hN : X.N.Nodup) (hi : X.N[i]? = some x) (hj : X.N[j]? = some y)
    (hx : Loc X.env.scope x) (hy : Loc X.env.scope y) (hfx : X.fn x = true ∨ X.env.scope.names.lookup x = some .local) (hfy : X.fn y = true ∨ X.env.scope.names.lookup y = some .local) (ha : PA X [a, b] ta)
    (hw : swappedStores [.Tuple [.Name x px, .Name y py] kt pt] (.Tuple [a, b] k2 pt2) X.env = pure none)
    (hs : swapsWithSole [.Tuple [.Name x px, .Name y py] kt pt] (.Tuple [a, b] k2 pt2) pos.line X.env = pure false)
    (h1 : (assignEach [.Tuple [.Name x px, .Name y py] kt pt] X.env).map (·.2) = [assign (.Tuple [.Name x px, .Name y py] kt pt) X.env])
    (h2 : (assignEach [.Name x px, .Name y py] X.env).map (·.2) = [assign (.Name x px) X.env, assign (.Name y py) X.env]) (h3 : (assignEach [.Name x px, .Name y py] X.env).length = 2) (h4 : (assignEach [.Name x px, .Name y py] X.env).findIdx? (·.1) = none) :
    PS X (.Assign [.Tuple [.Name x px, .Name y py] kt pt] (.Tuple [a, b] k2 pt2) pos) (tPar i j ta) := by
  refine ⟨fun pins s σ H D I h => ?_⟩
  refine wpAny_Assign_stores (Tuple_ (thn (ha.run _ pins s σ H _ I h) fun us s1 ⟨vs, H1, I1, r1, q1⟩ => ?_)) hs hw
  obtain ⟨v, w, e1, q1⟩ := q1
  subst e1
  obtain ⟨u1, u2, rfl, rv, rw'⟩ : ∃ u1 u2, us = [u1, u2] ∧ RelV v u1 ∧ RelV w u2 := by
    cases r1 with
    | cons p q =>
      cases q with
      | cons p' q' =>
        cases q'
        exact ⟨_, _, rfl, p, p'⟩
  refine wpAny_newObj_type ?_ (by show 2 ≤ sizeLine; decide)
  have I2 : Inv X pins σ H1 { s1 with heap := s1.heap.push { cls := .type "tuple", data := .seq [u1, u2].toArray } } := I1.kept (t' := s1.toks) fun b o e => Heap.get?_push_of_some _ e
  rw [h1]
  show wpAny (model X.prog X.w) X.A (assign (.Tuple [.Name x px, .Name y py] kt pt) X.env (.ref s1.heap.objs.size)) _ _ _
  refine assign_Tuple_tuple (items := #[u1, u2]) (I.ok.hd hc) (IsTup.new s1.heap _) h3 h4 fun h' hx' => ?_
  have I3 := I2.kept (h' := h') (t' := s1.toks) fun b o e => hx' b o (Nat.ne_of_lt (Heap.lt_size e)) e
  rw [h2]
  refine assignInOrder_cons (wpAny_assign_Name (store_ok I3 hN hi hx rv (fun s2 I4 => ?_) hfx))
  refine assignInOrder_cons (wpAny_assign_Name (store_ok I4 hN hj hy rw' (fun s3 I5 => assignInOrder_nil ⟨_, H1, I5, q1⟩) hfy))
end L2
namespace MK
open PySem PySem.Spec PyProof.Rows L2 LamX
variable {cz : Cxx} [Tb]
theorem sparC {X : Cx} {E : XK} {a b : Expr} {ms : Am} {pos : Pos} (i j : Nat) {x y : Str} {px py pt : Pos} {kt k2 : Nat} {pt2 : Pos} (hN : X.N.Nodup) (ha : MA X E [a, b] ms) (hc : X.calm = true := by rfl) (hi : X.N[i]? = some x := by rfl) (hj : X.N[j]? = some y := by rfl)
    (hx : Loc X.env.scope x := by first | exact Or.inl rfl | exact Or.inr rfl) (hy : Loc X.env.scope y := by first | exact Or.inl rfl | exact Or.inr rfl)
    (hfx : X.fn x = true ∨ X.env.scope.names.lookup x = some .local := by first | exact Or.inl rfl | exact Or.inr rfl) (hfy : X.fn y = true ∨ X.env.scope.names.lookup y = some .local := by first | exact Or.inl rfl | exact Or.inr rfl)
    (hw : swappedStores [.Tuple [.Name x px, .Name y py] kt pt] (.Tuple [a, b] k2 pt2) X.env = pure none := by rfl)
    (hs : swapsWithSole [.Tuple [.Name x px, .Name y py] kt pt] (.Tuple [a, b] k2 pt2) pos.line X.env = pure false := by rfl)
    (h1 : (assignEach [.Tuple [.Name x px, .Name y py] kt pt] X.env).map (·.2) = [assign (.Tuple [.Name x px, .Name y py] kt pt) X.env] := by rfl)
    (h2 : (assignEach [.Name x px, .Name y py] X.env).map (·.2) = [assign (.Name x px) X.env, assign (.Name y py) X.env] := by rfl) (h3 : (assignEach [.Name x px, .Name y py] X.env).length = 2 := by rfl) (h4 : (assignEach [.Name x px, .Name y py] X.env).findIdx? (·.1) = none := by rfl) :
    MS X E (.Assign [.Tuple [.Name x px, .Name y py] kt pt] (.Tuple [a, b] k2 pt2) pos) (sPar i j ms) := by
  refine PSwk (ps_parC hc hN hi hj hx hy hfx hfy ha hw hs h1 h2 h3 h4) fun D σ H ⟨g, ρ, S, V, o⟩ => ?_
  refine ⟨g, ρ, S, V, o.bind.mono fun ds g1 H1 S1 L1 o1 vs rs => ?_⟩
  have V1 := V.mono S L1
  cases rs with
  | nil => exact o1.elim
  | cons r1 t =>
    cases t with
    | nil => exact o1.elim
    | cons r2 t =>
      cases t with
      | cons _ _ => exact o1.elim
      | nil => exact ⟨_, _, rfl, o1.pure S1 _ ((V1.set r1 i).set r2 j)⟩
theorem sraise0 {X : Cx} {E : XK} {nm : Str} {p pos pos2 : Pos} (h : ∃ C, X.mg nm = some (.ref C) ∧ PySem.W.excIn X.K C He.veBase "ValueError.__new__" = true ∧ PySem.W.keepIn X.K (.ref C) = true ∧ PySem.W.subIn X.K (.ref C) (.type "BaseException") = some true ∧ PySem.W.typeIn X.K (.ref C) = some (.type "type"))
    (tk : L2N.Takes X (fun cls d _ H => E cls d H)) (hc : X.calm = true := by rfl) (hg : Gl X nm := by rfl) (hdb : (nm == ("__debug__" : Str)) = false := by decide) : MS X E (.Raise (some (.Call (.Name nm p) [] [] pos)) none pos2) (sRaise0 nm) := by
  obtain ⟨C, h1, h2, h3, h4, h5⟩ := h
  exact ms_raise0 hc tk F.excBase_ValueError h2 h1 h3 (raises_own h4 h5) hg hdb

/-- name = [..] on one line, the name a local -/
theorem ssetLc {X : Cx} {E : XK} {x : Str} {p' pos spos : Pos} {c tg it : Expr} {ifs : List Expr} {scope : Scope} {mi : Im} {t : Gm} {tc : Tm} {te : Em} {o : Bool} (i : Nat) (own' : List (Str × Nat)) (hN : X.N.Nodup) (hi : MI X E tg it mi)
    (hg : ∀ (s : Shared) (H : Hp) (C : Addr) (cl : List (Str × Addr)) (fp : List Addr), MG (X.blk s H scope (compEnvC scope cl C X.env) fp) E0 (own'.map (·.2)) tg t)
    (ht : ∀ (s : Shared) (H : Hp) (C : Addr) (cl : List (Str × Addr)) (fp : List Addr), MTs (X.blk s H scope (compEnvC scope cl C X.env) fp) E0 ifs tc)
    (he : ∀ (s : Shared) (H : Hp) (C : Addr) (cl : List (Str × Addr)) (fp : List Addr), ME (X.blk s H scope (compEnvC scope cl C X.env) fp) E0 c te)
    (hy : X.N[i]? = some x := by rfl) (hyl : X.env.scope.names.lookup x = some .local := by rfl) (hsw : swapsWith (.ListComp c [⟨tg, it, ifs, 0⟩] scope pos) (some (.Name x p')) spos.line X.env = pure true := by rfl)
    (ok : blkC X.N X.env.scope scope own' = true := by rfl) (hc : X.calm = true := by rfl) (hs : ∀ x, foldedSetIterable it X.env x = pure x := by intro _; rfl) :
    MS X E (.Assign [.Name x p'] (.ListComp c [⟨tg, it, ifs, 0⟩] scope pos) spos) (sAsg (eLc o mi t tc te (own'.map (·.2))) (gVar i)) := by
  refine PSwk (ps_setLc (i := i) (g := tG X.K none X.mg E0 (own'.map fun p : Str × Nat => p.2) t) (tt := tT X.K none X.mg E0 tc) (te := tM X.K none X.mg E0 te) hc hN hy hyl hsw hi (blkOk_by ok) hg ht he hs) fun D σ H ⟨g, ρ, S, V, q⟩ => ?_
  refine lc_read (Q := fun x H1 => gName i x σ H1 D.nx) ⟨g, ρ, S, V, q.bind.mono fun d g1 H1 S1 L1 o1 v r => ?_⟩
  exact (o1.bind.pure S1).pure S1 _ ((V.mono S L1).set r i)
end MK
set_option Elab.async false
set_option linter.all false
set_option maxRecDepth 100000
set_option maxHeartbeats 2000000
/-! MKq: the head's facts for a text with own errors (super().__init__() and one field), tables of constants, one def with lambdas. -/
namespace MKQ
open PySem PySem.Spec PyProof.Rows L2 He
/-- addresses looked at -/
def asM (g : Addr → Option Obj) (n : Nat) : List Addr := asD g n ++ [cStatics]
abbrev InitV : Type := Option (Str × Str × Arguments × FuncBody × Scope × Addr × List Str × Addr)
def initW (K : PySem.W.Frag) (nm : Str) : InitV := match K.lookup (ma K (ga K nm) "__init__") with
  | some ⟨_, _, .func fd, _⟩ => some (fd.name, fd.qualname, fd.params, fd.body, fd.scope, fd.globals, fd.closure.map (·.1), fd.builtins)
  | _ => none
/-- an own error's class: its name, its field, its __init__'s text -/
structure InitD where
  nm : Str
  fld : Str
  qual : Str
  st : Stmt
def InitD.val (d : InitD) : InitV := some ("__init__", d.qual, defArgs d.st, .stmts (defBody d.st), defScope d.st, mainGlobals, ["__class__"], builtinsNs)
def initB (K : PySem.W.Frag) (nm file : Str) : Bool := match K.lookup (ma K (ga K nm) "__init__") with
  | some ⟨_, _, .func fd, _⟩ => (match fd.defaults with | .none => true | _ => false) && ((match fd.kwdefaults with | .none => true | _ => false) && ((match fd.code with
    | .ref c => PySem.W.codeIn K (.ref c) fd.qualname && (match K.lookup c with
      | some ⟨_, _, .fields vs, _⟩ => (match (vs[2]? : Option Value) with
        | some (.str f _) => file == f
        | _ => false)
      | _ => false)
    | _ => false) && (match fd.closure with
    | [(_, cc)] => (match K.lookup cc with
      | some ⟨_, _, .cell (some (.ref C)), _⟩ => C == ga K nm
      | _ => false)
    | _ => false)))
  | _ => false
def clsB (K : PySem.W.Frag) (C : Addr) : Bool := match K.lookup C with
  | some ⟨.type t, _, .cls cd, sl⟩ => (match cd.mro, sl.toList with
    | .ref C' :: bm, [_, _, _, _, some (.builtin n), _] => decide (t = "type") && (C' == C && (n == "ValueError.__new__" && (!cd.hasDel && (cd.hasDict && PySem.HandSPX.refsVE bm))))
    | _, _ => false)
  | _ => false
theorem clsB_ok {K : PySem.W.Frag} {C : Addr} (q : clsB K C = true) : ∃ nm q N bs bm sn sub ab col dd k0 k1 k2 k3 k5, K.lookup C = some (excClassObj nm q C N bs bm true sn sub ab col dd k0 k1 k2 k3 k5 "ValueError.__new__") ∧ PySem.HandSPX.refsVE bm = true := by
  unfold clsB at q
  split at q
  · rename_i t dd cd sl ho
    split at q
    · rename_i C' bm k0 k1 k2 k3 n k5 hm hs
      simp only [Bool.and_eq_true, beq_iff_eq, Bool.not_eq_true', decide_eq_true_eq] at q
      obtain ⟨rfl, rfl, rfl, hdel, hd, hb⟩ := q
      obtain ⟨nm, bs, mro, ns, qn, hd', sn, sub, ab, col, del⟩ := cd
      dsimp only at hm hdel hd
      subst hm hdel hd
      have hsl : sl = #[k0, k1, k2, k3, some (.builtin "ValueError.__new__"), k5] := by
        obtain ⟨l⟩ := sl
        simp only at hs
        rw [hs]
      subst hsl
      exact ⟨nm, qn, ns, bs, bm, sn, sub, ab, col, dd, k0, k1, k2, k3, k5, ho, hb⟩
    · cases q
  · cases q
def eqB (a b : Option Bool) : Bool := decide (a = b)
def xtB (K : PySem.W.Frag) (nm fld file : Str) : Bool :=
  clsB K (ga K nm) && (eqO (PySem.W.findIn K (.ref (ga K nm)) "__setattr__") (some (some (.builtin "object.__setattr__"))) && (eqO (PySem.W.findIn K (.ref (ga K nm)) "__getattribute__") (some (some (.builtin "BaseException.__getattribute__"))) &&
  (eqO (PySem.W.findIn K (.ref (ga K nm)) "__getattr__") (some none) && (eqO (PySem.W.findIn K (.ref (ga K nm)) fld) (some none) && (eqO (PySem.W.findIn K (.ref (ga K nm)) "__init__") (some (some (.ref (ma K (ga K nm) "__init__")))) &&
  (decide (PySem.W.typeIn K (.ref (ma K (ga K nm) "__init__")) = some (.type "function")) && (PySem.W.keepIn K (.ref (ga K nm)) && (decide (PySem.W.subIn K (.ref (ga K nm)) (.type "BaseException") = some true) && (decide (PySem.W.typeIn K (.ref (ga K nm)) = some (.type "type")) &&
  (PySem.W.hasDictIn K (ga K nm) && (eqO (PySem.W.ks_superIn K (ga K nm) (ga K nm) "__init__") (some (some (.builtin "ValueError.__init__"))) && (decide (PySem.W.subIn K (.ref (ga K nm)) (.type "ValueError") = some true) && (decide (PySem.W.mroIn K (ga K nm) (.ref (ga K nm)) = some true) &&
  (eqO (PySem.W.nsIn K cStatics "thirdparty.any") (some none) && initB K nm file))))))))))))))
/-- what the class's text must be -/
def TxtOk (fld : Str) (st : Stmt) : Prop := ∃ (p1 p2 q1 q2 q3 q4 q5 q6 q7 q8 q9 : Pos), defArgs st = PySem.MKX.iA fld p1 p2 ∧ defBody st = PySem.MKX.iB fld q1 q2 q3 q4 q5 q6 q7 q8 q9 ∧ defScope st = PySem.MKX.iS fld ∧ ∃ pl : Sem Bool, ∀ env : Env, eval (.Call (.Attribute (.Call (.Name "super" q1) [] [] q2) "__init__" q3) [] [] q4) env = (do
      let ov ← attributeBase (.Call (.Name "super" q1) [] [] q2) "__init__" env (eval (.Call (.Name "super" q1) [] [] q2) env)
      standAt q3.atName
      let (f, first) ← holding [ov] (getMethod ov "__init__" pl)
      callWith q4 f first (backTo q4 (starEach [] env)) [])
theorem xt_ok {P : Program} {K : PySem.W.Frag} {h : Heap} {mg : Str → Option Value} {d : InitD} (X : K.In h) (G : h.Ns mainGlobals mg) (hg : (Fa.glo d.nm).ok K = true) (hs : (Fa.free "super").ok K = true) (ht : (P.main.scope.names.lookup ("super" : Str)).isSome = false)
    (hx : xtB K d.nm d.fld P.main.file = true) (hw : initW K d.nm = d.val) (ht2 : TxtOk d.fld d.st) : PySem.MKX.XTxt P K mg d.nm d.fld (ga K d.nm) (ma K (ga K d.nm) "__init__") := by
  unfold xtB at hx
  simp only [Bool.and_eq_true, decide_eq_true_eq] at hx
  obtain ⟨c1, c2, c3, c4, c5, c6, c7, c8, c9, c10, c11, c12, c13, c14, c15, c16⟩ := hx
  obtain ⟨p1, p2, q1, q2, q3, q4, q5, q6, q7, q8, q9, e1, e2, e3, e4⟩ := ht2
  refine ⟨glo_ok X G hg, clsB_ok c1, eqO_ok c2, eqO_ok c3, eqO_ok c4, eqO_ok c5, eqO_ok c6, c7, c8, c9, c10, c11, eqO_ok c12, c13, c14, eqO_ok c15, free_ok X G hs, ht, ?_⟩
  unfold initB at c16
  unfold initW at hw
  cases q : K.lookup (ma K (ga K d.nm) "__init__") with
  | none => rw [q] at hw; cases hw
  | some o =>
    obtain ⟨oc, od, dt, osl⟩ := o
    rw [q] at hw c16
    cases dt with
    | func fd =>
      obtain ⟨n1, n2, n3, n4, n5, n6, n7, n8, n9, n10, n11, n12, n13, n14, n15⟩ := fd
      have hw2 : (some (n1, n2, n3, n4, n5, n6, n7.map (·.1), n15) : InitV) = some (("__init__" : Str), d.qual, defArgs d.st, FuncBody.stmts (defBody d.st), defScope d.st, mainGlobals, [("__class__" : Str)], builtinsNs) := hw
      simp only [Option.some.injEq, Prod.mk.injEq] at hw2
      obtain ⟨h1, h2, h3, h4, h5, h6, h7, h8⟩ := hw2
      subst h1 h2 h3 h4 h5 h6 h8
      simp only [Bool.and_eq_true] at c16
      obtain ⟨d1, d2, d3, d4⟩ := c16
      cases n8 with
      | none =>
        cases n9 with
        | none =>
          cases n13 with
          | ref c =>
            simp only [Bool.and_eq_true] at d3
            obtain ⟨d5, d6⟩ := d3
            cases n7 with
            | nil => cases d4
            | cons z zs =>
              cases zs with
              | cons _ _ => cases d4
              | nil =>
                obtain ⟨x, cc⟩ := z
                have hx : x = "__class__" := by simpa using h7
                subst hx
                simp only at d4
                split at d4
                · rename_i cl cld C csl qc
                  have eC : C = ga K d.nm := beq_iff_eq.mp d4
                  subst eC
                  split at d6
                  · rename_i ccl cdd vs ccs qv
                    split at d6
                    · rename_i f tf qf
                      exact ⟨oc, od, n10, n11, n12, n14, osl, c, cc, d.qual, p1, p2, q1, q2, q3, q4, q5, q6, q7, q8, q9, ccl, cl, cdd, cld, ccs, csl, vs, f, tf, (by rw [e1, e2, e3]), d5, qv, qf, d6, qc, e4⟩
                    · cases d6
                  · cases d6
                · cases d4
          | _ => cases d3
        | _ => cases d2
      | _ => cases d1
    | _ => cases hw
/-! ### the Hook -/
structure Says (fa : List Fa) (fn : List DefD) (is : List InitD) (file : Str) (tf : List Defn) (ex : PySem.W.Frag → Bool) (h : Heap) (K : PySem.W.Frag) : Prop where
  d : SaysD fa fn K
  more : ex K = true
  init : ∀ d ∈ is, xtB K d.nm d.fld file = true ∧ initW K d.nm = d.val
  nol : ∀ (a : Addr) (o : Obj), K.lookup a = some o → o.cls = .type "list" → False
  hd : ∀ p ∈ tf, PySem.W.codeHdIn K (cT K p).1 (cT K p).2 = true
  out : ∀ p ∈ tf, K.lookup (cT K p).2 = none
  empty : ∀ p ∈ tf, h.get? (cT K p).2 = some { cls := .none, data := .fields #[] }
def isLst (o : Obj) : Bool := match o.cls with
  | .type t => decide (t = "list")
  | _ => false
abbrev AlM : Type := AlD × (Bool × List InitV)
def obsM (n : Nat) (fa : List Fa) (fn : List DefD) (is : List InitD) (file : Str) (tf : List Defn) (ex : PySem.W.Frag → Bool) (g : Addr → Option Obj) : AlM :=
  (obsD fa fn (frT g (asM g n)), (ex (frT g (asM g n)) && (is.all (fun d => xtB (frT g (asM g n)) d.nm d.fld file) && ((frT g (asM g n)).all (fun q => !isLst q.2) && tabsB g tf (frT g (asM g n)))), is.map fun d => initW (frT g (asM g n)) d.nm))
def valM (fn : List DefD) (is : List InitD) : AlM := (valD fn, (true, is.map InitD.val))
theorem says_of {n : Nat} {fa : List Fa} {fn : List DefD} {is : List InitD} {file : Str} {tf : List Defn} {ex : PySem.W.Frag → Bool} {h : Heap} (e : obsM n fa fn is file tf ex h.get? = valM fn is) : Says fa fn is file tf ex h (frT h.get? (asM h.get? n)) := by
  have e1 : obsD fa fn (frT h.get? (asM h.get? n)) = valD fn := congrArg (fun z : AlM => z.1) e
  have e2 : (ex (frT h.get? (asM h.get? n)) && (is.all (fun d => xtB (frT h.get? (asM h.get? n)) d.nm d.fld file) && ((frT h.get? (asM h.get? n)).all (fun q => !isLst q.2) && tabsB h.get? tf (frT h.get? (asM h.get? n))))) = true := congrArg (fun z : AlM => z.2.1) e
  have e3 : (is.map fun d => initW (frT h.get? (asM h.get? n)) d.nm) = is.map InitD.val := congrArg (fun z : AlM => z.2.2) e
  obtain ⟨h1, h2⟩ := ba e2
  obtain ⟨h3, h4⟩ := ba h2
  obtain ⟨h5, h6⟩ := ba h4
  have key : ∀ p ∈ tf, PySem.W.codeHdIn (frT h.get? (asM h.get? n)) (cT (frT h.get? (asM h.get? n)) p).1 (cT (frT h.get? (asM h.get? n)) p).2 = true ∧ ∃ o, h.get? (cT (frT h.get? (asM h.get? n)) p).2 = some o ∧ emptyTab o = true := fun p hp => by
    obtain ⟨k1, k2⟩ := ba (List.all_eq_true.mp h6 p hp)
    refine ⟨k1, ?_⟩
    cases q : h.get? (cT (frT h.get? (asM h.get? n)) p).2 with
    | none =>
      rw [q] at k2
      cases k2
    | some o =>
      rw [q] at k2
      exact ⟨o, rfl, k2⟩
  refine ⟨e1, h1, fun d hd => ⟨List.all_eq_true.mp h3 d hd, ?_⟩, fun a o lk hc => ?_, fun p hp => (key p hp).1, fun p hp => ?_, fun p hp => ?_⟩
  · obtain ⟨i, hi, e⟩ := List.mem_iff_getElem.mp hd
    have z : (is.map fun d => initW (frT h.get? (asM h.get? n)) d.nm)[i]? = (is.map InitD.val)[i]? := by rw [e3]
    rw [List.getElem?_map, List.getElem?_map, List.getElem?_eq_getElem hi, e] at z
    exact Option.some.inj z
  · have z := List.all_eq_true.mp h5 (a, o) (lookup_mem lk)
    unfold isLst at z
    simp only [hc] at z
    cases z
  · obtain ⟨_, o, q, z⟩ := key p hp
    exact frT_none q z
  · obtain ⟨_, o, q, z⟩ := key p hp
    rw [q, emptyTab_eq z]
def hookM (n : Nat) (fa : List Fa) (fn : List DefD) (is : List InitD) (file : Str) (tf : List Defn) (ex : PySem.W.Frag → Bool) : PySem.W.Hook where
  α := AlM
  obs := fun s => obsM n fa fn is file tf ex s.heap.get?
  val := fun _ => valM fn is
  says := fun _ h => ∃ K : PySem.W.Frag, K.In h ∧ Says fa fn is file tf ex h K
  of := fun _ _ e => ⟨_, frT_in, says_of e⟩
  keeps := fun _ _ _ ⟨K, hK, c⟩ k => ⟨K, PySem.W.Frag.In.keeps hK k, ⟨c.d, c.more, c.init, c.nol, c.hd, c.out, fun p hp => k _ _ (c.empty p hp)⟩⟩
theorem obsM_eq {n : Nat} {fa : List Fa} {fn : List DefD} {is : List InitD} {file : Str} {tf : List Defn} {ex : PySem.W.Frag → Bool} {g : Addr → Option Obj} {s : Shared} (h : ∀ a, g a = s.heap.get? a) : obsM n fa fn is file tf ex g = (hookM n fa fn is file tf ex).obs s := by
  have e : g = s.heap.get? := funext h
  rw [e] <;> rfl
/-! ### further facts -/
def excB (K : PySem.W.Frag) (D : Addr) : Bool := eqO (PySem.W.findIn K (.ref D) "__getattribute__") (some (some (.builtin "BaseException.__getattribute__"))) && (eqO (PySem.W.findIn K (.ref D) "__getattr__") (some none) && (decide (PySem.W.subIn K (.ref D) (.type "BaseException") = some true) && (PySem.W.hasDictIn K D &&
  (eqO (PySem.W.findIn K (.ref D) "__class__") (some (some (.builtin "object.__class__"))) && (eqO (PySem.W.specialIn K (.builtin "object.__class__") "__get__") (some (some (.builtin "getset_descriptor.__get__"))) && (eqB (PySem.W.takesIn K (.builtin "object.__class__")) (some true) && eqB (PySem.W.mroIn K D (.type "object")) (some true)))))))
theorem excB_ok {K : PySem.W.Frag} {D : Addr} (h : excB K D = true) : ExcC K D := by
  unfold excB at h
  simp only [Bool.and_eq_true, decide_eq_true_eq] at h
  obtain ⟨c1, c2, c3, c4, c5, c6, c7, c8⟩ := h
  exact ⟨eqO_ok c1, eqO_ok c2, c3, c4, eqO_ok c5, eqO_ok c6, of_decide_eq_true c7, of_decide_eq_true c8⟩
def tabIn (K : PySem.W.Frag) (cv : Value) (tb : List (Str × Bool)) : Bool := tb.all fun p => (Fa.glo p.1).ok K && (excB K (ga K p.1) && ((PySem.W.clsIn K (ga K p.1)).isSome && decide (PySem.W.kitOne K (.ref (ga K p.1)) cv = some p.2)))
theorem tabIn_ok {K : PySem.W.Frag} {h : Heap} {mg : Str → Option Value} (X : K.In h) (G : h.Ns mainGlobals mg) {cv : Value} {tb : List (Str × Bool)} (z : tabIn K cv tb = true) : MK.IsTab K mg cv tb := fun p hp => by
  have z := List.all_eq_true.mp z p hp
  simp only [Bool.and_eq_true, decide_eq_true_eq] at z
  obtain ⟨c1, c2, c3, c4⟩ := z
  exact ⟨ga K p.1, glo_ok X G c1, excB_ok c2, c3, c4⟩
def givB (K : PySem.W.Frag) (f : Str) (nms : List Str) : Bool := nms.all fun nm => (Fa.glo nm).ok K && (xfB K (ga K nm) && eqO (PySem.W.findIn K (.ref (ga K nm)) f) (some none))
theorem givB_ok {K : PySem.W.Frag} {h : Heap} {mg : Str → Option Value} (X : K.In h) (G : h.Ns mainGlobals mg) {f : Str} {nms : List Str} (z : givB K f nms = true) : ∀ nm ∈ nms, ∃ C, mg nm = some (.ref C) ∧ XfC K C ∧ PySem.W.findIn K (.ref C) f = some none := fun nm hm => by
  have z := List.all_eq_true.mp z nm hm
  simp only [Bool.and_eq_true] at z
  obtain ⟨c1, c2, c3⟩ := z
  exact ⟨ga K nm, glo_ok X G c1, xfB_ok c2, eqO_ok c3⟩
def supB (K : PySem.W.Frag) (S : Str) (nms : List Str) : Bool := (Fa.glo S).ok K && nms.all fun nm => (Fa.glo nm).ok K && decide (PySem.W.exmOne K (.ref (ga K nm)) (.ref (ga K S)) = some true)
theorem supB_ok {K : PySem.W.Frag} {h : Heap} {mg : Str → Option Value} (X : K.In h) (G : h.Ns mainGlobals mg) {S : Str} {nms : List Str} (z : supB K S nms = true) : ∃ CS, mg S = some (.ref CS) ∧ ∀ nm ∈ nms, ∃ C, mg nm = some (.ref C) ∧ PySem.W.exmOne K (.ref C) (.ref CS) = some true := by
  obtain ⟨z1, z2⟩ := ba z
  refine ⟨ga K S, glo_ok X G z1, fun nm hm => ?_⟩
  have z := List.all_eq_true.mp z2 nm hm
  simp only [Bool.and_eq_true, decide_eq_true_eq] at z
  exact ⟨ga K nm, glo_ok X G z.1, z.2⟩
/-- a constant of the module: a tuple of integers -/
theorem globT {K : PySem.W.Frag} {h : Heap} {mg : Str → Option Value} (X : K.In h) (G : h.Ns mainGlobals mg) {x : Str} {is : List Int} (hg : (Fa.glo x).ok K = true) (ht : tupB K x (is.map Dv.int) = true) : MK.GlobD K mg x (.tuple (is.map .int)) := by
  refine ⟨_, .ref (ga K x), glo_ok X G hg, rfl, fun g H => ?_⟩
  have t := tupB_ok ht H
  refine MK.RD.tup t ?_
  rw [List.map_map]
  clear ht t
  induction is with
  | nil => exact .nil
  | cons i is ih => exact .cons (.int i) ih
theorem globI {K : PySem.W.Frag} {h : Heap} {mg : Str → Option Value} (X : K.In h) (G : h.Ns mainGlobals mg) {x : Str} {i : Int} (hg : (Fa.int x i).ok K = true) : MK.GlobD K mg x (.int i) := by
  obtain ⟨t, e⟩ := int_ok X G hg
  exact ⟨_, .int i, e, ⟨t, rfl⟩, fun g H => .int i⟩
end MKQ
set_option Elab.async false
set_option linter.all false
set_option maxRecDepth 100000
set_option maxHeartbeats 2000000
/-! MKv: the head's facts over all objects below a bound; the run in parts. -/
namespace MKQ
open PySem PySem.Spec PyProof.Rows L2 He
/-- all objects below n but lists and empty tables -/
def frN (g : Addr → Option Obj) (n : Nat) : PySem.W.Frag := (frT g (List.range n)).filter fun q => !isLst q.2
theorem frN_mem {g : Addr → Option Obj} {n : Nat} {a : Addr} {o : Obj} (h : (a, o) ∈ frN g n) : g a = some o ∧ emptyTab o = false := by
  unfold frN frT at h
  obtain ⟨h1, _⟩ := List.mem_filter.mp h
  obtain ⟨h3, h4⟩ := List.mem_filter.mp h1
  exact ⟨frG_mem h3, by simpa using h4⟩
theorem frN_in {h : Heap} {n : Nat} : PySem.W.Frag.In (frN h.get? n) h := fun a o e => (frN_mem (lookup_mem e)).1
theorem frN_none {g : Addr → Option Obj} {n : Nat} {a : Addr} {o : Obj} (q : g a = some o) (z : emptyTab o = true) : (frN g n).lookup a = none := by
  cases e : (frN g n).lookup a with
  | none => rfl
  | some u =>
    obtain ⟨h1, h2⟩ := frN_mem (lookup_mem e)
    rw [q] at h1
    cases h1
    rw [z] at h2
    cases h2
def obsN (n : Nat) (fa : List Fa) (fn : List DefD) (is : List InitD) (file : Str) (tf : List Defn) (ex : PySem.W.Frag → Bool) (g : Addr → Option Obj) : AlM :=
  (obsD fa fn (frN g n), (ex (frN g n) && (is.all (fun d => xtB (frN g n) d.nm d.fld file) && ((frN g n).all (fun q => !isLst q.2) && tabsB g tf (frN g n))), is.map fun d => initW (frN g n) d.nm))
theorem saysN_of {n : Nat} {fa : List Fa} {fn : List DefD} {is : List InitD} {file : Str} {tf : List Defn} {ex : PySem.W.Frag → Bool} {h : Heap} (e : obsN n fa fn is file tf ex h.get? = valM fn is) : Says fa fn is file tf ex h (frN h.get? n) := by
  have e1 : obsD fa fn (frN h.get? n) = valD fn := congrArg (fun z : AlM => z.1) e
  have e2 : (ex (frN h.get? n) && (is.all (fun d => xtB (frN h.get? n) d.nm d.fld file) && ((frN h.get? n).all (fun q => !isLst q.2) && tabsB h.get? tf (frN h.get? n)))) = true := congrArg (fun z : AlM => z.2.1) e
  have e3 : (is.map fun d => initW (frN h.get? n) d.nm) = is.map InitD.val := congrArg (fun z : AlM => z.2.2) e
  obtain ⟨h1, h2⟩ := ba e2
  obtain ⟨h3, h4⟩ := ba h2
  obtain ⟨h5, h6⟩ := ba h4
  have key : ∀ p ∈ tf, PySem.W.codeHdIn (frN h.get? n) (cT (frN h.get? n) p).1 (cT (frN h.get? n) p).2 = true ∧ ∃ o, h.get? (cT (frN h.get? n) p).2 = some o ∧ emptyTab o = true := fun p hp => by
    obtain ⟨k1, k2⟩ := ba (List.all_eq_true.mp h6 p hp)
    refine ⟨k1, ?_⟩
    cases q : h.get? (cT (frN h.get? n) p).2 with
    | none =>
      rw [q] at k2
      cases k2
    | some o =>
      rw [q] at k2
      exact ⟨o, rfl, k2⟩
  refine ⟨e1, h1, fun d hd => ⟨List.all_eq_true.mp h3 d hd, ?_⟩, fun a o lk hc => ?_, fun p hp => (key p hp).1, fun p hp => ?_, fun p hp => ?_⟩
  · obtain ⟨i, hi, e⟩ := List.mem_iff_getElem.mp hd
    have z : (is.map fun d => initW (frN h.get? n) d.nm)[i]? = (is.map InitD.val)[i]? := by rw [e3]
    rw [List.getElem?_map, List.getElem?_map, List.getElem?_eq_getElem hi, e] at z
    exact Option.some.inj z
  · have z := List.all_eq_true.mp h5 (a, o) (lookup_mem lk)
    unfold isLst at z
    simp only [hc] at z
    cases z
  · obtain ⟨_, o, q, z⟩ := key p hp
    exact frN_none q z
  · obtain ⟨_, o, q, z⟩ := key p hp
    rw [q, emptyTab_eq z]
def hookN (n : Nat) (fa : List Fa) (fn : List DefD) (is : List InitD) (file : Str) (tf : List Defn) (ex : PySem.W.Frag → Bool) : PySem.W.Hook where
  α := AlM
  obs := fun s => obsN n fa fn is file tf ex s.heap.get?
  val := fun _ => valM fn is
  says := fun _ h => ∃ K : PySem.W.Frag, K.In h ∧ Says fa fn is file tf ex h K
  of := fun _ _ e => ⟨_, frN_in, saysN_of e⟩
  keeps := fun _ _ _ ⟨K, hK, c⟩ k => ⟨K, PySem.W.Frag.In.keeps hK k, ⟨c.d, c.more, c.init, c.nol, c.hd, c.out, fun p hp => k _ _ (c.empty p hp)⟩⟩
theorem obsN_eq {n : Nat} {fa : List Fa} {fn : List DefD} {is : List InitD} {file : Str} {tf : List Defn} {ex : PySem.W.Frag → Bool} {g : Addr → Option Obj} {s : Shared} (h : ∀ a, g a = s.heap.get? a) : obsN n fa fn is file tf ex g = (hookN n fa fn is file tf ex).obs s := by
  have e : g = s.heap.get? := funext h
  rw [e] <;> rfl
/-! ### the run in parts -/
theorem map_pair {α β γ : Type} {o : Option α} {A : α → β} {B : α → γ} {a : β} {b : γ} (h1 : o.map A = some a) (h2 : o.map B = some b) : o.map (fun x => (A x, B x)) = some (a, b) := by
  cases o with
  | none => cases h1
  | some x =>
    cases h1
    cases h2
    rfl
theorem run_parts {α β γ δ ε : Type} {o : Option α} {A : α → β} {B : α → γ} {C : α → δ} {D : α → ε} {a : β} {b : γ} {c : δ} {d : ε} (h1 : o.map (fun x => (A x, B x)) = some (a, b)) (h2 : o.map C = some c) (h3 : o.map D = some d) :
    o.map (fun x => (A x, B x, (C x, D x))) = some (a, b, (c, d)) := by
  cases o with
  | none => cases h1
  | some x =>
    cases h1
    cases h2
    cases h3
    rfl
end MKQ
set_option Elab.async false
set_option linter.all false
set_option maxRecDepth 100000
set_option maxHeartbeats 2000000
/-! MKr: the law's walk from its mirror. -/
namespace MKQ
open PySem PySem.Spec PyProof.Rows L2 He MK
/-- what is to be told at the law's call -/
structure LawM (P : Program) (w : World) (k n : Nat) (x : Str) (mg : Str → Option Value) (fa : Addr) (h : Heap) (K : PySem.W.Frag) (T : Tb) (fd : FuncData) (cs : List (Addr × Addr)) (V : Fm) : Prop where
  KX : K.In h
  nol : ∀ (a : Addr) (o : Obj), K.lookup a = some o → o.cls = .type "list" → False
  empty : ∀ p ∈ cs, h.get? p.2 = some { cls := .none, data := .fields #[] }
  out : ∀ p ∈ cs, K.lookup p.2 = none
  hd : ∀ p ∈ cs, PySem.W.codeHdIn K p.1 p.2 = true
  tb : ∀ p ∈ T.T, p.1 ∈ cs.map (·.2)
  bind : ∀ (s : Shared) (u : Value), BindsTo s fd ⟨[u], []⟩ [(x, u)]
  ok : ∀ base : Heap, K.In base → base.Ns mainGlobals mg → (∀ p ∈ cs, LamX.TabB base mg p.1 p.2) → FnOkG P w K mg base k fa fd [x] (@tSp T K mg V)
  law : ∀ ns : List Int, ns.length ≤ n → ∃ h', V [.val (.list (ns.map .int))] [] = .ok (.val (.bool true)) h'
theorem ints_RDs [Tb] {K : PySem.W.Frag} {g : Gh} {H : Hp} : ∀ ns : List Int, RDs K g H (ns.map V.int) (ns.map PyData.int)
  | [] => .nil
  | n :: ns => .cons (.int n) (ints_RDs ns)
theorem hsp_of [Tb] {K : PySem.W.Frag} {mg : Str → Option Value} {cs : List (Addr × Addr)} {a : Addr} {vs : List Value} {ns : List Int} {h : Heap} {V : Fm} {h' : Hm} (L : LawHeap K mg cs a vs h) {s : Shared} (es : s.heap = h) (tb : ∀ p ∈ Tb.T, p.1 ∈ cs.map (·.2)) (e : V [.val (.list (ns.map .int))] [] = .ok (.val (.bool true)) h') :
    tSp K mg V [.ref a] (lawH cs a vs ns) (fun v _ => v = .bl true) fun _ _ _ => False := by
  subst es
  refine ⟨⟨[], [], []⟩, [.val (.list (ns.map .int))], ?_, ?_, ?_⟩
  · refine Sim.mk rfl (fun n c a h _ => ?_) (fun n m a h _ => ?_) (fun n a h => ?_) (fun a h => ?_) (fun n a h => ?_) (fun p hp => ?_)
    · cases (show (none : Option (Option Cell)) = _ from h)
    · cases (show (none : Option Addr) = _ from h)
    · cases (show (none : Option Addr) = _ from h)
    · cases h
    · cases (show (none : Option Addr) = _ from h)
    · exact ⟨#[], L.at_ (tb p hp), by first | trivial | exact .nil | simp [LamX.TriplesOk] | decide, fun pos cv z => by cases z⟩
  · refine .cons ?_ .nil
    refine RD.lst ⟨?_, ?_⟩ (ints_RDs ns)
    · exact .inr ⟨_, lawH_a⟩
    · rintro (⟨n, c, z, _⟩ | z)
      · cases (show (none : Option (Option Cell)) = _ from z)
      · cases z
  · show Out K mg _ _ _ (V [.val (.list (ns.map .int))] []) _
    rw [e]
    intro g' H' _ S' L' v rv
    cases rv
    rfl
theorem walk_ofG {l : PySem.W.OpenLaw} {n k : Nat} {q : Program} {loose : List Str} {XP : (Str → Option Value) → Heap → Prop} {YP : World → Heap → Prop} {d : DefRec} {x : Str}
    (hn : l.most = some n) (hn2 : n ≤ sizeLine) (hdf : d.params.defaults = []) (hr : Room k callerA)
    (F : ∀ (w : World) (mg : Str → Option Value) (fa : Addr) (h : Heap), YP w h → h.Ns mainGlobals mg → mg d.name = some (.ref fa) → ∃ (K : PySem.W.Frag) (T : Tb) (fd : FuncData) (cs : List (Addr × Addr)) (V : Fm), LawM l.prog w k n x mg fa h K T fd cs V) :
    PySem.W.WalkO q loose XP YP l.row.toRowW d [] (fun f vs => PySem.call f vs) := by
  refine Att.attach_callB hn hdf fun w s₀ s₁ mg mb fa o pm cd doc a vs ns G Y ho hd hcd hmg hobj hints hlen hbits hg => ?_
  obtain ⟨K, T, fd, cs, V, M⟩ := F w mg fa _ Y G.T.g hmg
  haveI : Tb := T
  have L : LawHeap K mg cs a vs s₁.heap := ⟨M.KX, G.T.g, ⟨mb, G.T.b, G.T.builtins⟩, G.T.nolimit, M.empty, M.out, fun p hp => PySem.W.codeHd_of_K M.KX (M.hd p hp), G.T.bmain, hobj, by
    cases q : K.lookup a with
    | none => rfl
    | some u =>
      have e := M.KX a u q
      rw [hobj] at e
      cases e
      exact (M.nol a _ q rfl).elim⟩
  refine law_callG L hints (Nat.le_trans hlen hn2) hg hr M.ok M.bind ?_
  obtain ⟨h', e⟩ := M.law ns hlen
  exact @hsp_of T K mg cs a vs ns s₁.heap V h' L s₁ rfl M.tb e
end MKQ
set_option Elab.async false
set_option linter.all false
set_option maxRecDepth 100000
set_option maxHeartbeats 1000000
/-! MKy: more rules: a list backwards, a truth less a truth. -/
namespace MK
open PySem PySem.Spec PyProof.Rows L2 LamX
variable {cz : Cxx} [Tb]
section
variable {X : Cx} {E : XK} {K : PySem.W.Frag} {mg : Mg} {a b e : Expr} {ma mb : Em} {pos : Pos}
theorem RDs.reverse {g : Gh} {H : Hp} : ∀ {vs : List V} {ds : List PyData}, RDs K g H vs ds → RDs K g H vs.reverse ds.reverse
  | _, _, .nil => .nil
  | _, _, .cons r t => by
    rw [List.reverse_cons, List.reverse_cons]
    exact (RDs.reverse t).append (.cons r .nil)
def fRev (o : Bool) (x : SV) : Mm SV := mB (mLs x) fun xs => mNew o xs.reverse
theorem me_rev {o : Bool} {k : Nat} {p1 p2 p3 : Pos} (ha : ME X E a ma) : ME X E (.Subscript a (.Slice none none (some (.UnaryOp .USub (.Constant (.int 1) k p1) p2)) p3) pos) (eOp1 (fRev o) ma) := by
  refine PEwk (L2.pe_revL ha) fun σ H Q ⟨g, ρ, S, V, out⟩ => ?_
  refine ⟨g, ρ, S, V, out.bind.mono fun dx g1 H1 S1 L1 o1 v rv => ?_⟩
  obtain ⟨p, vs, xs, e, r, h, o2⟩ := ls_of S1 rv o1.bind
  exact ⟨p, vs, e, .inl h, fun p hp => new_list S1 r.reverse hp o2⟩
/-- a difference of two truths, or of two numbers -/
def fSubB : SV → SV → Mm SV := fun x y => match x, y with
  | .val (.bool p), .val (.bool q) => vI (b2i p - b2i q)
  | x, y => fSub x y
theorem op_subB : OpR X (binaryOp .Sub) (fun x y H Q => ∃ p q, x = .bl p ∧ y = .bl q ∧ Q (.int (b2i p - b2i q)) H) := by
  intro pins s σ H x y v u Q I rx ry h
  obtain ⟨p, q, rfl, rfl, hq⟩ := h
  obtain rfl : v = Value.bool p := rx
  obtain rfl : u = Value.bool q := ry
  refine sub_bool ?_
  exact ⟨.int (b2i p - b2i q), H, I.tok _, ⟨_, rfl⟩, hq⟩
theorem s2_subB : S2 K cz mg E (fun x y H Q => (rI0 fun i j => .int (i - j)) x y H Q ∨ (∃ p q, x = .bl p ∧ y = .bl q ∧ Q (.int (b2i p - b2i q)) H)) fSubB := by
  intro g H x y dx dy Q S rx ry out
  unfold fSubB at out
  split at out
  · cases rx
    cases ry
    exact .inr ⟨_, _, rfl, rfl, vI_out S out⟩
  · exact .inl (s2_sub g H x y _ _ Q S rx ry out)
theorem me_subB (ha : ME X E a ma) (hb : ME X E b mb) : ME X E (.BinOp a .Sub b pos) (eOp2 fSubB ma mb) := me_op (op_sub.or op_subB) s2_subB ha hb
end
section
variable {X : Cx} {E : XK} {e : Expr} {es : List Expr} {ms : Am} {pos p : Pos} {x : Str} {k n : Nat} {F : Fm}
theorem me_callGI (D : FnDG X.prog X.w X.K X.mg X.base k x F) (hgd : X.A.guards = some []) (hr : Room k X.A) (hg : Gl X x) (hx : Passes (L2N.CX X.prog X.w) X E) (ha : MA X E (e :: es) ms)
    (hdb : (x == ("__debug__" : Str)) = false := by decide) (he : starEach (e :: es) X.env = (false, eval e X.env) :: starEach es X.env := by rfl) (hpl : (backTo pos (starEach es X.env)).any (·.1) = false := by rfl) :
    ME X E (.Call (.Name x p) (e :: es) [] pos) (eCallI F ms) := by
  obtain ⟨f, fd, ps, ok, hm, hk, hb⟩ := D.ex
  refine ⟨fun pins s σ H Q I ⟨g, ρ, S, V, o⟩ => ?_⟩
  refine wpAny_Call_Name_kw (ld_glob I hg hm ?_ hdb)
  refine PySem.W.callWith_K (h₀ := X.base) I.ok.mod.kin hk (thn (ha.run pos pins s σ H (fun vs H1 => ∃ g1 ds, Sim X.K g1 H1 ∧ RSVs X.K (cx X) g1 H1 vs ds ∧ Out X.K X.mg E g1 H1 (mB (guard (ds.all isVal)) (fun _ => iso (F ds)) g1.cs) fun d g' H' => ∀ v, RSV X.K (cx X) g' H' v d → Q v H') I
    ⟨g, ρ, S, V, o.bind.mono fun ds g1 H1 S1 L1 o1 vs rs => ⟨g1, ds, S1, rs, o1⟩⟩) fun us s1 ⟨vs, H1, I1, r1, g1, ds, S1, rs, o1⟩ => ⟨I1.kIn, ?_⟩) he hpl
  obtain ⟨c, o1⟩ := guard_of S1 o1.bind
  show wpAny _ _ (call (.ref f) us) _ _ _
  have sp : tSp X.K X.mg F vs H1 Q E := ⟨bare0 g1, ds, S1.bare, rs.bare c, Out.iso S1 (o1.mono fun d g2 H2 S2 L2 q v r => q v r.all)⟩
  have b := hb s1 us I1.kIn (by rw [List.append_nil, ← r1.length]; exact ok.len _ _ _ _ sp)
  rw [List.append_nil] at b
  refine wpAny_call (codeAny_mono (ok.run X.A X.stack s1 H1 ⟨us, []⟩ us vs Q E hgd hr I1.env0 b r1 sp) fun r s' hq => ?_)
  cases r with
  | error e => exact hx pins σ H1 s1 e s' I1 hq
  | ok fl =>
    cases fl with
    | ret u => exact I1.after hq
    | next => exact False.elim hq
    | brk => exact False.elim hq
    | cont => exact False.elim hq
end
/-! ### sorted: tuples (the first one empty, or none empty), or things that are no tuples -/
section
open PySem.W
def isTup1 : PyData → Bool
  | .tuple (_ :: _) => true
  | _ => false
def noTup : PyData → Bool
  | .tuple _ => false
  | .none => false
  | _ => true
def sKind (ds : List PyData) : Bool := (match ds with
  | .tuple [] :: _ => ds.all isTup
  | _ => false) || (ds.all isTup1 || ds.all noTup)
def srtOk2 (ds : List PyData) : Bool := sKind ds && ((ds.all fun d => ds.all fun e => alike d e) && ((ds.all fun d => decide (d.depth ≤ 10)) && decide (ds.length ≤ 10000)))
def bSorted2 : SV → Mm SV
  | .val (.list ds) => mB (guard (srtOk2 ds)) fun _ => mP (.val (.list (isort (dataLe false id) ds)))
  | _ => mStuck
def rSrt2 (K : PySem.W.Frag) : List V → Hp → VK → Prop := fun xs H Q => ∃ x g ds, xs = [x] ∧ RD K g H x (.list ds) ∧ srtOk2 ds = true ∧ ∀ ys p, H p = none → RDs K g H ys (isort (dataLe false id) ds) → Q (.ref p) (upd H p (.lst ys))
variable {X : Cx} {E : XK}
theorem call_srt2 (hu : X.A.units + 65 < cLine) : CallR X (.builtin "sorted") (rSrt2 X.K) := by
  intro pins s σ H vs us Q I r h
  obtain ⟨x, g, ds, rfl, rd, ok, q⟩ := h
  unfold srtOk2 at ok
  simp only [Bool.and_eq_true, List.all_eq_true, decide_eq_true_eq] at ok
  obtain ⟨o1, o2, o3, o4⟩ := ok
  cases rd with
  | @lst a xs _ h1 h2 =>
    obtain ⟨u, rfl, ru⟩ := vals1 r
    obtain rfl : u = Value.ref a := ru
    obtain ⟨its, rv, hl, hz⟩ := I.list h1.sq
    have e := each_of rv h2
    have er : EachIs (fun v b => ∃ as, Reads s.heap v b as) its ds := e.mono fun u d ⟨y, ry, rdy⟩ => reads_of I rdy ry
    have er' : EachIs (fun v b => ∃ as, Reads (sortingHeap (copyHeap s.heap its) (s.heap.objs.size + 1) its) v b as) its ds := er.mono fun _ _ ⟨as, r⟩ => ⟨as, PyProof.Rows.Reads.keeps (fun _ _ => sorting_copy_old) r⟩
    have hal : AllAlike ds := fun d hd d' hd' => o2 d hd d' hd'
    have tot : TotalLe (dataLe false (id : PyData → PyData)) := sortLe_total _ _ _
    have hdep : ∀ d, d ∈ ds → X.A.in1.in1.units + d.depth < cLine := fun d hd => by
      have := o3 d hd
      show X.A.units + 1 + 1 + d.depth < cLine
      omega
    refine sorted_vals (κ := dataKind (sortingHeap (copyHeap s.heap its) (s.heap.objs.size + 1) its) ds) hl.isList ?_ (by rw [← rv.length]; exact hz) ?_
    · unfold sKind at o1
      rw [Bool.or_eq_true, Bool.or_eq_true] at o1
      rcases o1 with o1 | o1 | o1
      · split at o1
        · rename_i rest0
          have ht : ∀ d ∈ rest0, ∃ xs, d = PyData.tuple xs := fun d hd => by
            have := List.all_eq_true.mp o1 d (List.mem_cons_of_mem _ hd)
            cases d <;> first | exact ⟨_, rfl⟩ | cases this
          cases er' with
          | cons r0 rest =>
            obtain ⟨as0, r0⟩ := r0
            exact SortsAt.tups r0 rest ht hal hdep
        · cases o1
      · refine SortsAt.data er' hal (.inl fun d hd => ?_) hdep
        have := List.all_eq_true.mp o1 d hd
        unfold isTup1 at this
        split at this
        · exact ⟨_, _, rfl⟩
        · cases this
      · refine SortsAt.data er' hal (.inr fun d hd => ?_) hdep
        have := List.all_eq_true.mp o1 d hd
        unfold noTup at this
        split at this
        · cases this
        · cases this
        · rename_i n1 n2
          exact ⟨n2, n1⟩
    · have out := sortVals_data (h' := sortingHeap (copyHeap s.heap its) (s.heap.objs.size + 1) its) (enc := id) false e er' (by rw [List.map_id]; exact hal)
      rw [List.map_id] at out
      rw [← isort_eq tot] at out
      obtain ⟨ys, rv2, rd2⟩ := of_each out
      obtain ⟨c, hc⟩ := sortedAll_at s.heap its (sortVals (dataKind (sortingHeap (copyHeap s.heap its) (s.heap.objs.size + 1) its) ds) false its its).toArray
      refine ⟨.ref (s.heap.objs.size + 1), upd H (s.heap.objs.size + 1) (.lst ys), I.laid (t' := s.toks) (fun b o z => sortedAll_old z) (Nat.le_succ _) ⟨?_, _, c, rv2, hc⟩, rfl, q ys _ (I.hok.fresh (Nat.le_succ _)) rd2⟩
      rw [rv2.length, sortVals_length false rfl, ← rv.length]
      exact hz
theorem bo_sorted2 (hu : X.A.units + 65 < cLine) : BltOk X E (.builtin "sorted") (b1 bSorted2) := by
  refine ⟨rSrt2 X.K, call_srt2 hu, fun g H vs ds Q S r o => ?_⟩
  cases r with
  | nil => exact o.elim
  | cons r1 t =>
    rename_i v vs d ds0
    cases t with
    | cons _ _ => exact o.elim
    | nil =>
      have o : Out X.K X.mg E g H (bSorted2 d g.cs) _ := o
      unfold bSorted2 at o
      split at o
      · obtain ⟨c, o⟩ := guard_of S o.bind
        refine ⟨v, g, _, rfl, r1, c, fun ys p hp rd => ?_⟩
        obtain ⟨q, S2, L2⟩ := Out.laid (u := .lst ys) S hp o
        exact q _ (RD.lst ⟨.inl upd_same, fun z => S.fresh_own hp z⟩ (rd.mono S L2))
      · exact o.stuck.elim
end
end MK
set_option Elab.async false
set_option linter.all false
set_option maxRecDepth 100000
set_option maxHeartbeats 1000000
/-! MKu: a comprehension over an owned list that stays as it is meanwhile. -/
namespace MK
open PySem PySem.Spec PyProof.Rows L2
variable {cz : Cxx} [Tb]
mutual
def pdB : PyData → PyData → Bool
  | .none, .none => true
  | .bool a, .bool b => a == b
  | .int a, .int b => a == b
  | .str a, .str b => a == b
  | .list a, .list b => pdsB a b
  | .tuple a, .tuple b => pdsB a b
  | _, _ => false
def pdsB : List PyData → List PyData → Bool
  | [], [] => true
  | a :: as, b :: bs => pdB a b && pdsB as bs
  | _, _ => false
end
mutual
theorem pdB_eq : ∀ {a b : PyData}, pdB a b = true → a = b
  | .none, b, h => by cases b <;> first | rfl | (simp [pdB] at h)
  | .bool x, b, h => by cases b <;> simp_all [pdB]
  | .int x, b, h => by cases b <;> simp_all [pdB]
  | .str x, b, h => by cases b <;> simp_all [pdB]
  | .list x, b, h => by
    cases b with
    | list y =>
      have q : pdsB x y = true := by simpa [pdB] using h
      rw [pdsB_eq q]
    | _ => simp [pdB] at h
  | .tuple x, b, h => by
    cases b with
    | tuple y =>
      have q : pdsB x y = true := by simpa [pdB] using h
      rw [pdsB_eq q]
    | _ => simp [pdB] at h
  | .dict x, b, h => by cases b <;> simp [pdB] at h
theorem pdsB_eq : ∀ {a b : List PyData}, pdsB a b = true → a = b
  | [], b, h => by cases b <;> first | rfl | (simp [pdsB] at h)
  | a :: as, b, h => by
    cases b with
    | nil => simp [pdsB] at h
    | cons b bs =>
      simp [pdsB] at h
      rw [pdB_eq h.1, pdsB_eq h.2]
end
/-- the owned list at n is still so -/
def cellB (n : Nat) (ds0 : List PyData) : Mm Unit := fun h => match h[n]? with
  | some (some (.lst ds)) => if pdsB ds ds0 then .ok () h else .stuck
  | _ => .stuck
theorem cellB_cases (n : Nat) (ds0 : List PyData) (h : Hm) : (cellB n ds0 h = .ok () h ∧ h[n]? = some (some (.lst ds0))) ∨ cellB n ds0 h = .stuck := by
  unfold cellB
  split
  · rename_i ds e
    split
    · rename_i q
      left
      exact ⟨rfl, by rw [e, pdsB_eq q]⟩
    · exact .inr rfl
  · exact .inr rfl
/-- what is walked: the cell, what it holds, the items -/
abbrev Icm := Ro → Mm (Nat × List PyData × List PyData)
mutual
def lcLoopC (n : Nat) (ds0 : List PyData) (t : Gm) (c : Tm) (e : Em) (ρ : Ro) : List PyData → Mm (List PyData)
  | [] => mB (cellB n ds0) fun _ => mP []
  | d :: ds => mB (cellB n ds0) fun _ => mB (t (.val d) ρ) fun ρ1 => mB (c ρ1) fun b => if b then mB (e ρ1) fun y => mB (mD y) fun yd => mB (lcLoopC n ds0 t c e ρ ds) fun r => mP (yd :: r) else lcLoopC n ds0 t c e ρ ds
end
def lcLoopD (n : Nat) (ds0 : List PyData) (t : Gm) (c : Tm) (e : Em) (ρ : Ro) : List PyData → Mm (List PyData)
  | [] => mP []
  | d :: ds => mB (t (.val d) ρ) fun ρ1 => mB (c ρ1) fun b => if b then mB (e ρ1) fun y => mB (mD y) fun yd => mB (lcLoopC n ds0 t c e ρ ds) fun r => mP (yd :: r) else lcLoopC n ds0 t c e ρ ds
def eLcC (o : Bool) (it : Icm) (t : Gm) (c : Tm) (e : Em) (vs : List Nat) : Em := fun ρ => mB (it ρ) fun q => mB (guard (decide (q.2.2.length ≤ 10000))) fun _ => mB (noX (lcLoopC q.1 q.2.1 t c e (wipeR (noExc ρ) vs) q.2.2)) fun xs => mNew o xs
def IEnC (K : PySem.W.Frag) (n : Nat) (ds0 : List PyData) (g0 : Gh) (J : It) (ds : List PyData) : Prop := ∀ g H, Sim K g H → (∀ a, g0.mu[n]? = some a → g.mu[n]? = some a) → g.cs[n]? = some (some (.lst ds0)) →
  (∀ (i : Nat) (d : PyData), ds[i]? = some d → J.go i H ∧ ∀ x H', J.yld i H x H' → Sim K g H' ∧ Le g H g H' ∧ RD K g H' x d) ∧ J.stop ds.length H
def tIC (K : PySem.W.Frag) (cz : Cxx) (mg : Mg) (E : XK) (m : Icm) : TI := fun σ H R => ∃ g ρ, Sim K g H ∧ EnvR K cz g H ρ σ ∧ Out K mg E g H (m ρ g.cs) fun q g' H' => ∀ J, (∃ a, g'.mu[q.1]? = some a) ∧ IEnC K q.1 q.2.1 g' J q.2.2 → R J H'
section
variable {X : Cx} {E : XK} {elt tg it : Expr} {ifs : List Expr} {mi : Im} {t : Gm} {tc : Tm} {te : Em} {pos : Pos} {scope : Scope} {own' : List (Str × Nat)} {o : Bool}
theorem lc_readC {ic : Icm} {vs : List Nat} {σ : L2.St} {H : Hp} {Q : VK} (q : tM X.K (cx X) X.mg E (eLcC o ic t tc te vs) σ H Q) : tLc (tIC X.K (cx X) X.mg E ic) (tG X.K none X.mg E0 vs t) (tT X.K none X.mg E0 tc) (tM X.K none X.mg E0 te) vs σ H Q := by
  obtain ⟨g, ρ, S, V, out⟩ := q
  refine ⟨g, ρ, S, V, out.bind.mono fun q g1 H1 S1 L1 o1 J en D hD => ?_⟩
  obtain ⟨n0, ds0, ds⟩ := q
  simp only at o1 en
  obtain ⟨hn1, en⟩ := en
  obtain ⟨c, o1⟩ := guard_of S1 o1.bind
  have hlen := of_decide_eq_true c
  have V1 := V.mono S L1
  have hDl : D ∉ g1.ex := fun z => by have := S1.exm D z; rw [hD] at this; exact this
  -- the whole loop
  have C0 : LoopC X.K (cx X) X.mg E g1 H1 o Q [] (lcLoopC n0 ds0 t tc te (wipeR (noExc ρ) vs) ds g1.cs) := by
    unfold mB noX at o1
    cases q : lcLoopC n0 ds0 t tc te (wipeR (noExc ρ) vs) ds g1.cs with
    | ok xs h' => rw [q] at o1; exact o1
    | exn x h' => rw [q] at o1; exact o1.elim
    | stuck => rw [q] at o1; exact o1.elim
  let Wp : Nat → Hp → Prop := fun i H => i ≤ ds.length ∧ ∃ g vacc acc, Sim X.K g H ∧ g.ex = D :: g1.ex ∧ Le g1 H1 ⟨g.mu, g.cs, g1.ex⟩ H ∧ H D = some (.lst vacc) ∧ RDs X.K g H vacc acc ∧ acc.length ≤ i ∧
    EnvR X.K none g H (wipeR (noExc ρ) vs) (wipe σ vs) ∧ LoopC X.K (cx X) X.mg E g1 H1 o Q acc (lcLoopC n0 ds0 t tc te (wipeR (noExc ρ) vs) (ds.drop i) g.cs)
  refine ⟨fun i m H => m = ds.length - i ∧ Wp i H, ⟨ds.length, by simp, Nat.zero_le _, ⟨g1.mu, g1.cs, D :: g1.ex⟩, [], [], S1.more hD trivial, rfl, (S1.laid hD).2, upd_same, .nil, Nat.zero_le _, (V1.noExc.wipe vs).up S1 hD, C0⟩, ?_⟩
  rintro i m H2 ⟨rfl, hi, g2, vacc, acc, S2, x2, L2, d2, r2, a2, V2, C2⟩
  have hDx : D ∈ g2.ex := by rw [x2]; exact List.mem_cons_self
  have nx : ∀ {x h}, ¬ LoopC X.K (cx X) X.mg E g1 H1 o Q acc (.exn x h) := fun z => z
  have ns : ¬ LoopC X.K (cx X) X.mg E g1 H1 o Q acc .stuck := fun z => z
  have C2' : ∃ r, lcLoopC n0 ds0 t tc te (wipeR (noExc ρ) vs) (ds.drop i) = r := ⟨_, rfl⟩
  obtain ⟨k2, C2⟩ : g2.cs[n0]? = some (some (.lst ds0)) ∧ LoopC X.K (cx X) X.mg E g1 H1 o Q acc (lcLoopD n0 ds0 t tc te (wipeR (noExc ρ) vs) (ds.drop i) g2.cs) := by
    have e : lcLoopC n0 ds0 t tc te (wipeR (noExc ρ) vs) (ds.drop i) = mB (cellB n0 ds0) fun _ => lcLoopD n0 ds0 t tc te (wipeR (noExc ρ) vs) (ds.drop i) := by
      cases ds.drop i <;> rfl
    rw [e] at C2
    unfold mB at C2
    rcases cellB_cases n0 ds0 g2.cs with ⟨z, z2⟩ | z
    · rw [z] at C2
      exact ⟨z2, C2⟩
    · rw [z] at C2
      exact C2.elim
  have en2 := en g2 H2 S2 (fun a ha => L2.pre n0 a ha) k2
  by_cases hlt : i < ds.length
  · right
    have hd : ds[i]? = some ds[i] := List.getElem?_eq_getElem hlt
    obtain ⟨go, yl⟩ := en2.1 i _ hd
    rw [List.drop_eq_getElem_cons hlt] at C2
    refine ⟨go, fun H' => Wp (i + 1) H', fun H' q => ⟨ds.length - (i + 1), by omega, rfl, q⟩, fun x H3 y3 => ?_⟩
    obtain ⟨S3, L3, r3⟩ := yl x H3 y3
    unfold lcLoopD at C2
    refine ⟨g2, wipeR (noExc ρ) vs, .val ds[i], S3, V2.mono S2 L3, r3, (Out.of (fun _ _ => nx) ns C2).mono fun ρ4 g4 H4 S4 L4 C4 σ4 V4 w4 => ?_⟩
    refine ⟨w4.trans wipe_wipe, g4, ρ4, S4, V4, (Out.of (fun _ _ => nx) ns C4).mono fun b g5 H5 S5 L5 C5 => ?_⟩
    have L35 := L3.trans (L4.trans L5)
    cases b with
    | false =>
      refine iteF ?_
      have d5 : H5 D = some (.lst vacc) := (L35.exk D hDx).trans d2
      exact ⟨hlt, g5, vacc, acc, S5, L35.exe.trans x2, L2.dropTrans rfl hD x2 L35, d5, r2.mono S2 L35, by omega, V2.mono S2 L35, C5⟩
    | true =>
      refine iteT ?_
      refine ⟨g5, ρ4, S5, V4.mono S4 L5, (Out.of (fun _ _ => nx) ns C5).mono fun y g6 H6 S6 L6 C6 v rv => ?_⟩
      have L36 := L35.trans L6
      have d6 : H6 D = some (.lst vacc) := (L36.exk D hDx).trans d2
      have x6 := L36.exe.trans x2
      have hDx6 : D ∈ g6.ex := by rw [x6]; exact List.mem_cons_self
      have r6 := r2.mono S2 L36
      refine ⟨vacc, d6, ?_, ?_⟩
      · rw [r6.length, sizeLine_eq]; omega
      · cases y with
        | ref n => exact C6.elim
        | rng l h => exact C6.elim
        | exc _ => exact C6.elim
        | val yd =>
          have C6 : LoopC X.K (cx X) X.mg E g1 H1 o Q acc (mB (lcLoopC n0 ds0 t tc te (wipeR (noExc ρ) vs) (ds.drop (i + 1))) (fun r => mP (yd :: r)) g6.cs) := C6
          refine ⟨hlt, g6, vacc ++ [v], acc ++ [yd], S6.exw hDx6 ⟨_, d6⟩ trivial, x6, ?_, upd_same, (r6.exw S6 hDx6).append (RDs.one (RD.exw S6 hDx6 rv)), by rw [List.length_append]; simp; omega, (V2.mono S2 L36).exw S6 hDx6, ?_⟩
          · have L26 := L2.dropTrans rfl hD x2 L36
            refine ⟨L26.pre, fun a u h t n => ?_, rfl, fun a ha => ?_, fun a h => ?_⟩
            · rw [upd_ne (ne_of_none h hD)]; exact L26.keep a u h t n
            · rw [upd_ne (show a ≠ D from fun z => hDl (by rw [← z]; exact ha))]; exact L26.exk a ha
            · rw [upd_ne (fun z => h.some (by rw [z]; exact hD))]; exact L26.trk a h
          · unfold mB at C6
            cases q : lcLoopC n0 ds0 t tc te (wipeR (noExc ρ) vs) (ds.drop (i + 1)) g6.cs with
            | ok xs h' =>
              rw [q] at C6
              have C6 : Out X.K X.mg E g1 H1 (mNew o (acc ++ (yd :: xs)) h') fun d g' H' => ∀ v, RSV X.K (cx X) g' H' v d → Q v H' := C6
              show Out X.K X.mg E g1 H1 (mNew o ((acc ++ [yd]) ++ xs) h') fun d g' H' => ∀ v, RSV X.K (cx X) g' H' v d → Q v H'
              rw [List.append_assoc]
              exact C6
            | exn x h' => rw [q] at C6; exact C6.elim
            | stuck => rw [q] at C6; exact C6.elim
  · left
    have e : i = ds.length := by omega
    rw [e, List.drop_length] at C2
    refine ⟨by rw [e]; exact en2.2, ?_⟩
    have C2 : Out X.K X.mg E g1 H1 (mNew o (acc ++ []) g2.cs) fun d g' H' => ∀ v, RSV X.K (cx X) g' H' v d → Q v H' := C2
    rw [List.append_nil] at C2
    cases o with
    | true =>
      refine C2 ⟨g2.mu ++ [D], g2.cs ++ [some (.lst acc)], g1.ex⟩ H2 rfl (S2.adopt x2 hDl d2 r2) ⟨fun n a h => ?_, fun a u h t n => ?_, rfl, L2.exk, L2.trk⟩ _ ⟨D, rfl, ?_⟩
      · show (g2.mu ++ [D])[n]? = some a
        have q := L2.pre n a h
        have q : g2.mu[n]? = some a := q
        rw [List.getElem?_append_left (List.getElem?_eq_some_iff.mp q).1]
        exact q
      · obtain ⟨h1, h2⟩ := L2.keep a u h t n
        exact ⟨h1, fun q => (own_drop x2 (adopt_own S2 x2 q)).elim h2 (ne_of_none h hD)⟩
      · show (g2.mu ++ [D])[g2.cs.length]? = some D
        rw [← S2.len, List.getElem?_append_right (Nat.le_refl _), Nat.sub_self]
        rfl
    | false =>
      refine C2 ⟨g2.mu, g2.cs, g1.ex⟩ H2 rfl (S2.less x2) L2 _ (RD.lst ⟨.inl d2, fun q => ?_⟩ (r2.less x2))
      rcases q with ⟨n, c', _, h2⟩ | q
      · exact S2.exn n D h2 hDx
      · exact hDl q

end
/-! ### what is walked -/
def mCell : SV → Mm (Nat × List PyData)
  | .ref n => fun h => match h[n]? with
    | some (some (.lst xs)) => .ok (n, xs) h
    | _ => .stuck
  | _ => mStuck
def iEnumC (a : Em) : Icm := fun ρ => mB (a ρ) fun d => mB (mCell d) fun q => mP (q.1, q.2, enumD 0 q.2)
def iSeqC (a : Em) : Icm := fun ρ => mB (a ρ) fun d => mB (mCell d) fun q => mP (q.1, q.2, q.2)
section
variable {K : PySem.W.Frag} {mg : Mg} {E : XK} {g : Gh} {H : Hp}
theorem cell_of {d : SV} {v : V} {P : Nat × List PyData → Gh → Hp → Prop} (S : Sim K g H) (r : RSV K cz g H v d) (o : Out K mg E g H (mCell d g.cs) P) :
    ∃ n a xs, v = .ref a ∧ g.mu[n]? = some a ∧ g.cs[n]? = some (some (.lst xs)) ∧ P (n, xs) g H := by
  unfold mCell at o
  cases d with
  | rng l h => exact o.elim
  | exc _ => exact o.elim
  | val d => exact o.elim
  | ref n =>
    obtain ⟨a, e2, e3⟩ := r
    cases q : g.cs[n]? with
    | none => simp only [q] at o; exact o.elim
    | some oc =>
      cases oc with
      | none => simp only [q] at o; exact o.elim
      | some cc =>
        cases cc with
        | lst ds =>
          simp only [q] at o
          exact ⟨n, a, ds, e2, e3, q, o g H rfl S (Le.refl _ _)⟩
theorem ienC_src {n : Nat} {a : Addr} {xs : List PyData} (ha : g.mu[n]? = some a) : IEnC K n xs g (ItsS K false a) xs := by
  intro g' H' S k c
  obtain ⟨vs, hq0, r⟩ := S.cell n _ a c (k a ha)
  have hq : SqS false K H' a vs := .inl (.inl hq0)
  have hl := r.length
  refine ⟨fun i d hd => ?_, ⟨vs, hq, by omega⟩⟩
  obtain ⟨v, hv, rv⟩ := r.get hd
  refine ⟨⟨vs, v, hq, hv⟩, fun x H2 ⟨e, hy⟩ => ?_⟩
  subst e
  have := hy vs hq
  rw [hv] at this
  cases this
  exact ⟨S, Le.refl _ _, rv⟩
theorem ienC_enum {n : Nat} {a : Addr} {xs : List PyData} (ha : g.mu[n]? = some a) : IEnC K n xs g (IteS K false a) (enumD 0 xs) := by
  intro g' H' S k c
  obtain ⟨vs, hq0, r⟩ := S.cell n _ a c (k a ha)
  have hq : SqS false K H' a vs := .inl (.inl hq0)
  have hl := r.length
  refine ⟨fun i e he => ?_, ⟨vs, hq, by rw [enumD_length]; exact hl⟩⟩
  obtain ⟨d, hd, ee⟩ := enumD_get 0 xs i e he
  obtain ⟨v, hv, rv⟩ := r.get hd
  refine ⟨⟨vs, v, hq, hv⟩, fun x H2 ⟨T, y, ex, hT, eH, hy⟩ => ?_⟩
  have := hy vs hq
  rw [hv] at this
  cases this
  obtain ⟨S', L'⟩ := S.laid (o := .tup [.int (i : Nat), v]) hT
  subst ex eH ee
  refine ⟨S', L', .tup (.inl (.inl upd_same)) (.cons ?_ (.cons (rv.mono S L') .nil))⟩
  rw [Nat.zero_add]
  exact .int _
end
section
variable {X : Cx} {E : XK} {tg it e elt : Expr} {elts ifs : List Expr} {kk : Nat} {tpos p pos : Pos} {ma : Em} {ic : Icm} {t : Gm} {tc : Tm} {te : Em} {scope : Scope} {o : Bool}
abbrev MIC (X : Cx) (E : XK) (tg it : Expr) (m : Icm) : Prop := PI X tg it (tIC X.K (cx X) X.mg E m)
theorem mic_seq (ha : ME X E e ma) : MIC X E tg e (iSeqC ma) := by
  refine PIwk (pi_src ha) fun σ H R ⟨g, ρ, S, V, o⟩ => ?_
  refine ⟨g, ρ, S, V, o.bind.mono fun d g1 H1 S1 L1 o1 v rv => ?_⟩
  obtain ⟨n, a, xs, ev, hm, hc, P⟩ := cell_of S1 rv o1.bind
  obtain ⟨vs, hq, _⟩ := S1.cell n _ a hc hm
  exact ⟨false, a, vs, ev, .inl (.inl hq), P.pure S1 _ ⟨⟨a, hm⟩, ienC_src hm⟩⟩
theorem mic_enum (hm : X.mg "enumerate" = none) (ha : ME X E e ma) (hg : Gl X "enumerate" := by rfl) (hs : starEach [e] X.env = [(false, eval e X.env)] := by rfl) : MIC X E (.Tuple elts kk tpos) (.Call (.Name "enumerate" p) [e] [] pos) (iEnumC ma) := by
  refine PIwk (pi_enumS hg hm (pa_cons ha pa_nil hs) hs) fun σ H R ⟨g, ρ, S, V, o⟩ => ?_
  refine ⟨g, ρ, S, V, o.bind.mono fun d g1 H1 S1 L1 o1 v rv => ?_⟩
  obtain ⟨n, a, xs, ev, hm, hc, P⟩ := cell_of S1 rv o1.bind
  obtain ⟨vs, hq, _⟩ := S1.cell n _ a hc hm
  exact ⟨false, a, vs, by rw [ev], .inl (.inl hq), P.pure S1 _ ⟨⟨a, hm⟩, ienC_enum hm⟩⟩
theorem mlcC (own' : List (Str × Nat)) (hN : X.N.Nodup) (hi : MIC X E tg it ic)
    (hg : ∀ (s : Shared) (H : Hp) (C : Addr) (cl : List (Str × Addr)) (fp : List Addr), MG (X.blk s H scope (compEnvC scope cl C X.env) fp) E0 (own'.map (·.2)) tg t)
    (ht : ∀ (s : Shared) (H : Hp) (C : Addr) (cl : List (Str × Addr)) (fp : List Addr), MTs (X.blk s H scope (compEnvC scope cl C X.env) fp) E0 ifs tc)
    (he : ∀ (s : Shared) (H : Hp) (C : Addr) (cl : List (Str × Addr)) (fp : List Addr), ME (X.blk s H scope (compEnvC scope cl C X.env) fp) E0 elt te)
    (ok : blkC X.N X.env.scope scope own' = true := by rfl) (hc : X.calm = true := by rfl) (hs : ∀ x, foldedSetIterable it X.env x = pure x := by intro _; rfl) : ME X E (.ListComp elt [⟨tg, it, ifs, 0⟩] scope pos) (eLcC o ic t tc te (own'.map (·.2))) := by
  exact PEwk (pe_lc (g := tG X.K none X.mg E0 (own'.map fun p : Str × Nat => p.2) t) (tt := tT X.K none X.mg E0 tc) (te := tM X.K none X.mg E0 te) hc hN hi (blkOk_by ok) hg ht he hs) fun σ H Q q => lc_readC q
end
end MK
set_option Elab.async false
set_option linter.all false
set_option maxRecDepth 100000
set_option maxHeartbeats 1000000
/-! MKt: pop at a place, int of a truth, a def that calls itself (so many levels), what is not followed. -/
namespace MK
open PySem PySem.Spec PyProof.Rows L2 LamX
variable {cz : Cxx} [Tb]
/-! ### o.pop(i), o an owned list -/
def mPop (o v : SV) : Mm SV := mB (mInt v) fun i => match o with
  | .ref n => fun h => match h[n]? with
    | some (some (.lst xs)) => match ixN xs.length i with
      | some k => match xs[k]? with
        | some d => if xs.length ≤ 10000 then .ok (.val d) (h.set n (some (.lst (xs.eraseIdx k)))) else .stuck
        | none => .stuck
      | none => .stuck
    | _ => .stuck
  | _ => mStuck
theorem RDs.eraseIdx {K : PySem.W.Frag} {g : Gh} {H : Hp} : ∀ {vs : List V} {ds : List PyData} (i : Nat), RDs K g H vs ds → RDs K g H (vs.eraseIdx i) (ds.eraseIdx i)
  | _, _, _, .nil => .nil
  | _, _, 0, .cons _ t => t
  | _, _, i + 1, .cons q t => .cons q (RDs.eraseIdx i t)
theorem ixN_seq {n : Nat} {i : Int} {k : Nat} (h : ixN n i = some k) (hn : n ≤ 10000) : -(2 ^ 63) ≤ i ∧ i < 2 ^ 63 ∧ seqIndex? i n = some k := by
  unfold ixN at h
  unfold seqIndex?
  split at h
  · rename_i h0
    split at h
    · rename_i h1
      cases h
      have hd : (if i < 0 then i + (n : Int) else i) = i := if_neg (by omega)
      have hb : (decide (0 ≤ i) && decide (i < (n : Int))) = true := by
        rw [decide_eq_true h0, decide_eq_true (by omega)]
        rfl
      refine ⟨by omega, by omega, ?_⟩
      simp only [hd, hb, if_true]
    · cases h
  · rename_i h0
    split at h
    · rename_i h1
      cases h
      have hd : (if i < 0 then i + (n : Int) else i) = i + n := if_pos (by omega)
      have hb : (decide (0 ≤ i + (n : Int)) && decide (i + (n : Int) < (n : Int))) = true := by
        rw [decide_eq_true (by omega), decide_eq_true (by omega)]
        rfl
      refine ⟨by omega, by omega, ?_⟩
      simp only [hd, hb, if_true]
    · cases h
section
variable {X : Cx} {E : XK} {a b e : Expr} {es : List Expr} {ms : Am} {ma mb : Em} {pos p : Pos} {x : Str} {k n : Nat} {F : Fm}
theorem spop {apos : Pos} (ha : ME X E a ma) (hb : ME X E b mb) (hbase : attributeBase a "pop" X.env (eval a X.env) = eval a X.env := by rfl)
    (hfew : ((backTo pos (starEach [b] X.env)).all (fun x => !x.1) && (backToKw pos (keywordEach [] X.env)).all (fun x => x.1.isSome)
      && decide ([b].length + ([] : List Keyword).length + (if ([] : List Keyword).isEmpty then 0 else 1) < 30)) = true := by rfl)
    (hline : (apos.endLine == pos.line) = true := by rfl) (hs : starEach [b] X.env = (false, eval b X.env) :: starEach [] X.env := by rfl) (hplain : (backTo pos (starEach [] X.env)).any (·.1) = false := by rfl) :
    ME X E (.Call (.Attribute a "pop" apos) [b] [] pos) (fun ρ => mB (ma ρ) fun x => mB (isLs x) fun _ => mB (mb ρ) fun y => mPop x y) := by
  refine PEwk (pe_bm PySem.F.plainAttrs_list PySem.F.slot_list_pop PySem.F.type_list_pop mt_popAt ha (pa_cons hb pa_nil hs) hbase hfew hline hs hplain) fun σ H Q ⟨g, ρ, S, V, o⟩ => ?_
  refine ⟨g, ρ, S, V, o.bind.mono fun dx g1 H1 S1 L1 o1 x rx => ?_⟩
  obtain ⟨p0, vs0, xs0, ex0, _, h0, o1⟩ := ls_of S1 rx o1.bind.bind
  refine ⟨?_, ?_⟩
  · subst ex0
    exact .inl ⟨rfl, _, .inl h0⟩
  · refine ⟨g1, ρ, S1, V.mono S L1, (o1.pure S1).bind.mono fun dy g2 H2 S2 L2 o2 y ry => ?_⟩
    show rPopAt x [y] H2 Q
    obtain ⟨i, ei, o2⟩ := int_of S2 ry o2.bind
    have rx2 := rx.mono S1 L2
    cases dx with
    | val _ => exact o2.elim
    | rng _ _ => exact o2.elim
    | exc _ => exact o2.elim
    | ref n =>
      obtain ⟨p, ex, ep⟩ := rx2
      cases q : g2.cs[n]? with
      | none => simp only [q] at o2; exact o2.elim
      | some oc =>
        cases oc with
        | none => simp only [q] at o2; exact o2.elim
        | some cc =>
          cases cc with
          | lst ds =>
            simp only [q] at o2
            obtain ⟨vs, e1, rs⟩ := S2.cell n _ p q ep
            cases qk : ixN ds.length i with
            | none => simp only [qk] at o2; exact o2.elim
            | some k =>
              simp only [qk] at o2
              cases qd : ds[k]? with
              | none => simp only [qd] at o2; exact o2.elim
              | some d =>
                simp only [qd] at o2
                by_cases hl : ds.length ≤ 10000
                · rw [if_pos hl] at o2
                  obtain ⟨v, hv, rv⟩ := rs.get qd
                  obtain ⟨S3, L3⟩ := S2.write q ep (rs.eraseIdx k)
                  obtain ⟨i1, i2, i3⟩ := ixN_seq qk hl
                  exact ⟨p, vs, i, k, v, ex, by rw [ei], e1, i1, i2, by rw [rs.length]; exact i3, hv, o2 _ _ rfl S3 L3 _ (rv.mono S2 L3)⟩
                · rw [if_neg hl] at o2; exact o2.elim
/-! ### int of a number or a truth -/
def bIntB : SV → Mm SV := fun x => match x with
  | .val (.bool b) => vI (if b then 1 else 0)
  | x => mB (mInt x) fun i => vI i
theorem bo_intB : BltOk X E (.type "int") (b1 bIntB) := ⟨_, call_int1, sl_1 fun g H x d Q S r o => by
  unfold bIntB at o
  split at o
  · cases r
    exact .inr ⟨_, rfl, vI_out S o⟩
  · obtain ⟨i, e, o⟩ := int_of S r o.bind
    subst e
    exact .inl ⟨i, rfl, vI_out S o⟩⟩
/-! ### what no run comes to -/
def eStuck : Em := fun _ => mStuck
theorem mstk : ME X E e eStuck := ⟨fun pins s σ H Q I ⟨g, ρ, S, V, o⟩ => o.elim⟩
def sStuck : Sm := fun _ => mStuck
theorem ms_stuck {st : Stmt} : MS X E st sStuck := ⟨fun pins s σ H D I ⟨g, ρ, S, V, o⟩ => o.elim⟩
/-- so many turns as a slot's number says, and one -/
def fuV (i : Nat) (ρ : Ro) : Nat := match slot ρ i with
  | some (.val (.int k)) => k.natAbs + 1
  | _ => 0
end
section
variable {P : Program} {w : World} {K : PySem.W.Frag} {mg : Mg} {base : Heap} {k n : Nat} {x qual : Str} {st : Stmt} {f : Addr} {fd : FuncData} {ps : List Str} {F : Fm}
/-- a def that is never called -/
theorem FnOk.none : FnOk P w K mg base (L2N.CX P w) k f fd ps (tSp K mg fun _ => mStuck) :=
  ⟨fun vs H Q E ⟨g, ds, S, r, o⟩ => o.elim, fun A outer s H args us vs Q E _ _ _ _ ⟨g, ds, S, r, o⟩ => o.elim⟩
end
/-! ### four names at once -/
def sPar4 (i j k l : Nat) (a : Am) : Sm := fun ρ => mB (a ρ) fun ds => match ds with
  | [d, e, f, u] => mP (.nx, (((ρ.set i (some d)).set j (some e)).set k (some f)).set l (some u))
  | _ => mStuck
section
variable {X : Cx} {E : XK} {a b c d : Expr} {ms : Am} {pos : Pos}
theorem spar4 (i j k l : Nat) {x y z u : Str} {px py pz pu pt : Pos} {kt k2 : Nat} {pt2 : Pos} (hN : X.N.Nodup) (ha : MA X E [a, b, c, d] ms) (hc : X.calm = true := by rfl)
    (hi : X.N[i]? = some x := by rfl) (hj : X.N[j]? = some y := by rfl) (hk : X.N[k]? = some z := by rfl) (hl : X.N[l]? = some u := by rfl)
    (hx : Loc X.env.scope x := by first | exact Or.inl rfl | exact Or.inr rfl) (hy : Loc X.env.scope y := by first | exact Or.inl rfl | exact Or.inr rfl) (hz : Loc X.env.scope z := by first | exact Or.inl rfl | exact Or.inr rfl) (hu : Loc X.env.scope u := by first | exact Or.inl rfl | exact Or.inr rfl)
    (fx : X.fn x = true ∨ X.env.scope.names.lookup x = some .local := by first | exact Or.inl rfl | exact Or.inr rfl) (fy : X.fn y = true ∨ X.env.scope.names.lookup y = some .local := by first | exact Or.inl rfl | exact Or.inr rfl)
    (fz : X.fn z = true ∨ X.env.scope.names.lookup z = some .local := by first | exact Or.inl rfl | exact Or.inr rfl) (fu : X.fn u = true ∨ X.env.scope.names.lookup u = some .local := by first | exact Or.inl rfl | exact Or.inr rfl)
    (s1 : (assignEach [.Name x px, .Name y py, .Name z pz, .Name u pu] X.env).map (·.2) = assign (.Name x px) X.env :: (assignEach [.Name y py, .Name z pz, .Name u pu] X.env).map (·.2) := by rfl)
    (s2 : (assignEach [.Name y py, .Name z pz, .Name u pu] X.env).map (·.2) = assign (.Name y py) X.env :: (assignEach [.Name z pz, .Name u pu] X.env).map (·.2) := by rfl)
    (s3 : (assignEach [.Name z pz, .Name u pu] X.env).map (·.2) = assign (.Name z pz) X.env :: (assignEach [.Name u pu] X.env).map (·.2) := by rfl)
    (s4 : (assignEach [.Name u pu] X.env).map (·.2) = assign (.Name u pu) X.env :: (assignEach [] X.env).map (·.2) := by rfl)
    (hn : (assignEach [.Name x px, .Name y py, .Name z pz, .Name u pu] X.env).length = 4 := by rfl) (hst : (assignEach [.Name x px, .Name y py, .Name z pz, .Name u pu] X.env).findIdx? (·.1) = none := by rfl)
    (hs : swapsWithSole [.Tuple [.Name x px, .Name y py, .Name z pz, .Name u pu] kt pt] (.Tuple [a, b, c, d] k2 pt2) pos.line X.env = pure false := by rfl)
    (hw : swappedStores [.Tuple [.Name x px, .Name y py, .Name z pz, .Name u pu] kt pt] (.Tuple [a, b, c, d] k2 pt2) X.env = pure none := by rfl)
    (h1 : (assignEach [.Tuple [.Name x px, .Name y py, .Name z pz, .Name u pu] kt pt] X.env).map (·.2) = [assign (.Tuple [.Name x px, .Name y py, .Name z pz, .Name u pu] kt pt) X.env] := by rfl) :
    MS X E (.Assign [.Tuple [.Name x px, .Name y py, .Name z pz, .Name u pu] kt pt] (.Tuple [a, b, c, d] k2 pt2) pos) (sPar4 i j k l ms) := by
  refine PSwk (ps_asg (pe_tup ha) (pg_tup hc (pgs_cons (pg_name (i := i) hN hi hx fx) (pgs_cons (pg_name (i := j) hN hj hy fy) (pgs_cons (pg_name (i := k) hN hk hz fz) (pgs_cons (pg_name (i := l) hN hl hu fu) pgs_nil s4) s3) s2) s1) hn hst) hs hw h1) fun D σ H ⟨g, ρ, S, V, o⟩ => ?_
  refine ⟨g, ρ, S, V, o.bind.mono fun ds g1 H1 S1 L1 o1 vs rs => ?_⟩
  cases rs with
  | nil => exact o1.elim
  | cons r1 t1 =>
    cases t1 with
    | nil => exact o1.elim
    | cons r2 t2 =>
      cases t2 with
      | nil => exact o1.elim
      | cons r3 t3 =>
        cases t3 with
        | nil => exact o1.elim
        | cons r4 t4 =>
          cases t4 with
          | cons _ _ => exact o1.elim
          | nil =>
            rename_i v1 d1 v2 d2 v3 d3 v4 d4
            refine ⟨by show 4 ≤ sizeLine; decide, fun p hp => ?_⟩
            obtain ⟨q, S2, L2⟩ := Out.laid (u := .tup [v1, v2, v3, v4]) S1 hp o1
            refine ⟨p, [v1, v2, v3, v4], rfl, .inl (.inl upd_same), rfl, v1, _, rfl, v2, _, rfl, v3, _, rfl, v4, _, rfl, rfl, ?_⟩
            have V1 := V.mono S L1
            have V2 := V1.mono S1 L2
            exact q _ ((((V2.set (r1.mono S1 L2) i).set (r2.mono S1 L2) j).set (r3.mono S1 L2) k).set (r4.mono S1 L2) l)
end
/-! ### lists put one behind the other, owned or not -/
def fAddR (o : Bool) : SV → SV → Mm SV := fun x y => mB (mLs x) fun xs => mB (mLs y) fun ys => mB (guard (decide (xs.length + ys.length ≤ 10000))) fun _ => mNew o (xs ++ ys)
theorem s2_addR {K : PySem.W.Frag} {mg : Mg} {E : XK} {o : Bool} : S2 K cz mg E rCatL (fAddR o) := by
  intro g H x y dx dy Q S rx ry out
  obtain ⟨a, vs, xs, ea, r, h, out⟩ := ls_of S rx out.bind
  obtain ⟨b, us, ys, eb, r2, h2, out⟩ := ls_of S ry out.bind
  obtain ⟨c, out⟩ := guard_of S out.bind
  have c := of_decide_eq_true c
  exact ⟨a, b, vs, us, ea, eb, h, h2, line10 (by rw [r.length, r2.length]; exact c), fun p hp => new_list S (r.append r2) hp out⟩
theorem me_addR {X : Cx} {E : XK} {a b : Expr} {ma mb : Em} {pos : Pos} {o : Bool} (ha : ME X E a ma) (hb : ME X E b mb) : ME X E (.BinOp a .Add b pos) (eOp2 (fAddR o) ma mb) := me_op op_catL s2_addR ha hb
/-! ### tuple(range(n)), list(range(n)) -/
theorem rngD_map : ∀ (lo : Int) (n : Nat), rngD lo n = (List.range n).map fun (k : Nat) => .int (lo + k)
  | _, 0 => rfl
  | lo, n + 1 => by
    show _ :: rngD (lo + 1) n = _
    rw [rngD_map (lo + 1) n, List.range_succ_eq_map, List.map_cons, List.map_map]
    congr 1
    · simp
    · apply List.map_congr_left
      intro k _
      show PyData.int _ = PyData.int _
      congr 1
      simp only [Nat.succ_eq_add_one]
      push_cast
      omega
theorem rds_map {K : PySem.W.Frag} {g : Gh} {H : Hp} {f : Nat → Int} : ∀ xs : List Nat, RDs K g H (xs.map fun i => V.int (f i)) (xs.map fun i => PyData.int (f i))
  | [] => .nil
  | x :: xs => .cons (.int _) (rds_map xs)
theorem rds_rg {K : PySem.W.Frag} {g : Gh} {H : Hp} {i : Int} : RDs K g H (rgV 0 i) (rngD 0 i.toNat) := by
  unfold rgV
  rw [rngD_map, Int.sub_zero]
  exact rds_map (f := fun k => 0 + (k : Int)) _
def eTupRg (a : Em) : Em := fun ρ => mB (a ρ) fun d => mB (mInt d) fun i => mB (guard (smallI i)) fun _ => mP (.val (.tuple (rngD 0 i.toNat)))
def eLstRg (o : Bool) (a : Em) : Em := fun ρ => mB (a ρ) fun d => mB (mInt d) fun i => mB (guard (smallI i)) fun _ => mNew o (rngD 0 i.toNat)
section
variable {X : Cx} {E : XK} {a : Expr} {ma : Em} {p p2 pos pos2 : Pos}
theorem mtupRg (hm : X.mg "tuple" = none) (hm2 : X.mg "range" = none) (ha : ME X E a ma) (hg : Gl X "tuple" := by rfl) (hg2 : Gl X "range" := by rfl) (hc : X.calm = true := by rfl) (na : starEach [a] X.env = (false, eval a X.env) :: starEach [] X.env := by rfl)
    (na2 : starEach [.Call (.Name "range" p2) [a] [] pos2] X.env = (false, eval (.Call (.Name "range" p2) [a] [] pos2) X.env) :: starEach [] X.env := by rfl) : ME X E (.Call (.Name "tuple" p) [.Call (.Name "range" p2) [a] [] pos2] [] pos) (eTupRg ma) := by
  refine PEwk (pe_tupRg hc hg hm (prg_1 hg2 hm2 ha na) na2) fun σ H Q ⟨g, ρ, S, V, o⟩ => ?_
  refine ⟨g, ρ, S, V, o.bind.mono fun d g1 H1 S1 L1 o1 v rv => ?_⟩
  obtain ⟨i, e, o1⟩ := int_of S1 rv o1.bind
  obtain ⟨c, o1⟩ := guard_of S1 o1.bind
  have c := of_decide_eq_true c
  exact ⟨i, e, ⟨by omega, by omega, by omega, by omega, by omega⟩, fun q hq => new_tup S1 rds_rg hq o1⟩
theorem mlstRg {o : Bool} (hm : X.mg "list" = none) (hm2 : X.mg "range" = none) (ha : ME X E a ma) (hg : Gl X "list" := by rfl) (hg2 : Gl X "range" := by rfl) (hc : X.calm = true := by rfl) (na : starEach [a] X.env = (false, eval a X.env) :: starEach [] X.env := by rfl)
    (na2 : starEach [.Call (.Name "range" p2) [a] [] pos2] X.env = (false, eval (.Call (.Name "range" p2) [a] [] pos2) X.env) :: starEach [] X.env := by rfl) : ME X E (.Call (.Name "list" p) [.Call (.Name "range" p2) [a] [] pos2] [] pos) (eLstRg o ma) := by
  refine PEwk (pe_listRg hc hg hm (prg_1 hg2 hm2 ha na) na2) fun σ H Q ⟨g, ρ, S, V, o⟩ => ?_
  refine ⟨g, ρ, S, V, o.bind.mono fun d g1 H1 S1 L1 o1 v rv => ?_⟩
  obtain ⟨i, e, o1⟩ := int_of S1 rv o1.bind
  obtain ⟨c, o1⟩ := guard_of S1 o1.bind
  have c := of_decide_eq_true c
  exact ⟨i, e, ⟨by omega, by omega, by omega, by omega, by omega⟩, fun q hq => new_list S1 rds_rg hq o1⟩
end
end MK
set_option Elab.async false
set_option linter.all false
set_option maxRecDepth 100000
set_option maxHeartbeats 4000000
namespace GL
open PySem PySem.Spec PyProof.Rows L2 LamX MK
variable [Tb]
def top (i : Nat) : Stmt := PySem.Challenge.pw_trialways_k78_whole_mixes_of_effects.main.body.getD i (.Pass ⟨0, 0, 0, 0⟩)
def frees : List Str := ["abs", "all", "any", "bool", "divmod", "enumerate", "int", "isinstance", "len", "list", "max", "min", "range", "str", "tuple", "zip"]
def sd_nms : List Str := []
def g_given : List Str := []
def g_index : List Str := []
abbrev st__law_pool : Stmt := top 67
abbrev st__law_below : Stmt := top 68
abbrev st__law_one : Stmt := top 69
abbrev st__law_effects : Stmt := top 84
abbrev st__law_runs : Stmt := top 89
abbrev st__law_sign : Stmt := top 82
abbrev st__law_plan : Stmt := top 88
abbrev st__law_same : Stmt := top 76
abbrev st_is_whole : Stmt := top 8
abbrev st_is_sign : Stmt := top 31
abbrev st_is_run_by : Stmt := top 32
abbrev st_wrong_in_runs : Stmt := top 42
abbrev st_check_runs : Stmt := top 59
abbrev st_is_between : Stmt := top 9
abbrev st_wrong_in_effect : Stmt := top 33
abbrev st_is_effect_by : Stmt := top 34
abbrev st_check_tried : Stmt := top 60
abbrev st_sign_in : Stmt := top 35
abbrev st_trial_by : Stmt := top 43
abbrev st_trial_of : Stmt := top 61
abbrev st__law_fr : Stmt := top 70
abbrev st__law_number : Stmt := top 78
abbrev st__law_plus : Stmt := top 71
abbrev st__law_over : Stmt := top 74
abbrev st__law_minus : Stmt := top 72
abbrev st__law_times : Stmt := top 73
abbrev st__law_any : Stmt := top 79
abbrev st__law_sum : Stmt := top 75
abbrev st__law_groups : Stmt := top 80
abbrev st__law_table : Stmt := top 81
abbrev st__law_dot : Stmt := top 77
abbrev st__law_weights : Stmt := top 85
abbrev st__law_trial_of : Stmt := top 83
abbrev st__law_unit : Stmt := top 86
abbrev st__law_mix : Stmt := top 87
abbrev st_check_model : Stmt := top 63
abbrev st_check_effect : Stmt := top 37
abbrev st_check_other : Stmt := top 64
abbrev st_ratio : Stmt := top 13
abbrev st_over : Stmt := top 17
abbrev st_plus : Stmt := top 14
abbrev st_total : Stmt := top 18
abbrev st_times : Stmt := top 16
abbrev st_dot : Stmt := top 19
abbrev st_yield_by : Stmt := top 24
abbrev st_many_plots : Stmt := top 22
abbrev st_yields_by : Stmt := top 25
abbrev st_loaded : Stmt := top 52
abbrev st_minus : Stmt := top 15
abbrev st_without_column : Stmt := top 45
abbrev st_brought : Stmt := top 46
abbrev st_some_answer : Stmt := top 47
abbrev st_many_levels : Stmt := top 23
abbrev st_whole_rows : Stmt := top 26
abbrev st_turned : Stmt := top 48
abbrev st_normal_rows : Stmt := top 50
abbrev st_whole_question : Stmt := top 27
abbrev st_many_unknowns : Stmt := top 21
abbrev st_parted_world : Stmt := top 28
abbrev st_load_by : Stmt := top 51
abbrev st_best_by : Stmt := top 53
abbrev st_lone_question : Stmt := top 56
abbrev st_signs_of : Stmt := top 55
abbrev st_mix_by : Stmt := top 57
abbrev st_mix : Stmt := top 65
abbrev st__law_right : Stmt := top 90
abbrev st_law : Stmt := top 91
structure Wd (P : Program) (K : PySem.W.Frag) (mg : Str → Option Value) : Prop where
  fr : ∀ x ∈ frees, mg x = none
  gcd : mg "gcd" = some (.builtin "math.gcd")
  g_MOST_EFFECTS : GlobD K mg "MOST_EFFECTS" (.int 5)
  g_MOST_FACTORS : GlobD K mg "MOST_FACTORS" (.int 6)
  g_MOST_RUNS : GlobD K mg "MOST_RUNS" (.int 64)
  g_MOST_TRIED : GlobD K mg "MOST_TRIED" (.int 10)
  g_ONE : GlobD K mg "ONE" (.tuple [.int 1, .int 1])
  g_ZERO : GlobD K mg "ZERO" (.tuple [.int 0, .int 1])
  f__law_pool : ∃ f fd, Fun K "_law_pool" "_law_pool" st__law_pool f fd ∧ mg "_law_pool" = some (.ref f)
  f__law_below : ∃ f fd, Fun K "_law_below" "_law_below" st__law_below f fd ∧ mg "_law_below" = some (.ref f)
  f__law_one : ∃ f fd, Fun K "_law_one" "_law_one" st__law_one f fd ∧ mg "_law_one" = some (.ref f)
  f__law_effects : ∃ f fd, Fun K "_law_effects" "_law_effects" st__law_effects f fd ∧ mg "_law_effects" = some (.ref f)
  f__law_runs : ∃ f fd, Fun K "_law_runs" "_law_runs" st__law_runs f fd ∧ mg "_law_runs" = some (.ref f)
  f__law_sign : ∃ f fd, Fun K "_law_sign" "_law_sign" st__law_sign f fd ∧ mg "_law_sign" = some (.ref f)
  f__law_plan : ∃ f fd, Fun K "_law_plan" "_law_plan" st__law_plan f fd ∧ mg "_law_plan" = some (.ref f)
  f__law_same : ∃ f fd, Fun K "_law_same" "_law_same" st__law_same f fd ∧ mg "_law_same" = some (.ref f)
  f_is_whole : ∃ f fd, Fun K "is_whole" "is_whole" st_is_whole f fd ∧ mg "is_whole" = some (.ref f)
  f_is_sign : ∃ f fd, Fun K "is_sign" "is_sign" st_is_sign f fd ∧ mg "is_sign" = some (.ref f)
  f_is_run_by : ∃ f fd, Fun K "is_run_by" "is_run_by" st_is_run_by f fd ∧ mg "is_run_by" = some (.ref f)
  f_wrong_in_runs : ∃ f fd, Fun K "wrong_in_runs" "wrong_in_runs" st_wrong_in_runs f fd ∧ mg "wrong_in_runs" = some (.ref f)
  f_check_runs : ∃ f fd, Fun K "check_runs" "check_runs" st_check_runs f fd ∧ mg "check_runs" = some (.ref f)
  f_is_between : ∃ f fd, Fun K "is_between" "is_between" st_is_between f fd ∧ mg "is_between" = some (.ref f)
  f_wrong_in_effect : ∃ f fd, Fun K "wrong_in_effect" "wrong_in_effect" st_wrong_in_effect f fd ∧ mg "wrong_in_effect" = some (.ref f)
  f_is_effect_by : ∃ f fd, Fun K "is_effect_by" "is_effect_by" st_is_effect_by f fd ∧ mg "is_effect_by" = some (.ref f)
  f_check_tried : ∃ f fd, Fun K "check_tried" "check_tried" st_check_tried f fd ∧ mg "check_tried" = some (.ref f)
  f_sign_in : ∃ f fd, Fun K "sign_in" "sign_in" st_sign_in f fd ∧ mg "sign_in" = some (.ref f)
  f_trial_by : ∃ f fd, Fun K "trial_by" "trial_by" st_trial_by f fd ∧ mg "trial_by" = some (.ref f)
  f_trial_of : ∃ f fd, Fun K "trial_of" "trial_of" st_trial_of f fd ∧ mg "trial_of" = some (.ref f)
  f__law_fr : ∃ f fd, Fun K "_law_fr" "_law_fr" st__law_fr f fd ∧ mg "_law_fr" = some (.ref f)
  f__law_number : ∃ f fd, Fun K "_law_number" "_law_number" st__law_number f fd ∧ mg "_law_number" = some (.ref f)
  f__law_plus : ∃ f fd, Fun K "_law_plus" "_law_plus" st__law_plus f fd ∧ mg "_law_plus" = some (.ref f)
  f__law_over : ∃ f fd, Fun K "_law_over" "_law_over" st__law_over f fd ∧ mg "_law_over" = some (.ref f)
  f__law_minus : ∃ f fd, Fun K "_law_minus" "_law_minus" st__law_minus f fd ∧ mg "_law_minus" = some (.ref f)
  f__law_times : ∃ f fd, Fun K "_law_times" "_law_times" st__law_times f fd ∧ mg "_law_times" = some (.ref f)
  f__law_any : ∃ f fd, Fun K "_law_any" "_law_any" st__law_any f fd ∧ mg "_law_any" = some (.ref f)
  f__law_sum : ∃ f fd, Fun K "_law_sum" "_law_sum" st__law_sum f fd ∧ mg "_law_sum" = some (.ref f)
  f__law_groups : ∃ f fd, Fun K "_law_groups" "_law_groups" st__law_groups f fd ∧ mg "_law_groups" = some (.ref f)
  f__law_table : ∃ f fd, Fun K "_law_table" "_law_table" st__law_table f fd ∧ mg "_law_table" = some (.ref f)
  f__law_dot : ∃ f fd, Fun K "_law_dot" "_law_dot" st__law_dot f fd ∧ mg "_law_dot" = some (.ref f)
  f__law_weights : ∃ f fd, Fun K "_law_weights" "_law_weights" st__law_weights f fd ∧ mg "_law_weights" = some (.ref f)
  f__law_trial_of : ∃ f fd, Fun K "_law_trial_of" "_law_trial_of" st__law_trial_of f fd ∧ mg "_law_trial_of" = some (.ref f)
  f__law_unit : ∃ f fd, Fun K "_law_unit" "_law_unit" st__law_unit f fd ∧ mg "_law_unit" = some (.ref f)
  f__law_mix : ∃ f fd, Fun K "_law_mix" "_law_mix" st__law_mix f fd ∧ mg "_law_mix" = some (.ref f)
  f_check_model : ∃ f fd, Fun K "check_model" "check_model" st_check_model f fd ∧ mg "check_model" = some (.ref f)
  f_check_effect : ∃ f fd, Fun K "check_effect" "check_effect" st_check_effect f fd ∧ mg "check_effect" = some (.ref f)
  f_check_other : ∃ f fd, Fun K "check_other" "check_other" st_check_other f fd ∧ mg "check_other" = some (.ref f)
  f_ratio : ∃ f fd, Fun K "ratio" "ratio" st_ratio f fd ∧ mg "ratio" = some (.ref f)
  f_over : ∃ f fd, Fun K "over" "over" st_over f fd ∧ mg "over" = some (.ref f)
  f_plus : ∃ f fd, Fun K "plus" "plus" st_plus f fd ∧ mg "plus" = some (.ref f)
  f_total : ∃ f fd, Fun K "total" "total" st_total f fd ∧ mg "total" = some (.ref f)
  f_times : ∃ f fd, Fun K "times" "times" st_times f fd ∧ mg "times" = some (.ref f)
  f_dot : ∃ f fd, Fun K "dot" "dot" st_dot f fd ∧ mg "dot" = some (.ref f)
  f_yield_by : ∃ f fd, Fun K "yield_by" "yield_by" st_yield_by f fd ∧ mg "yield_by" = some (.ref f)
  f_many_plots : ∃ f fd, Fun K "many_plots" "many_plots" st_many_plots f fd ∧ mg "many_plots" = some (.ref f)
  f_yields_by : ∃ f fd, Fun K "yields_by" "yields_by" st_yields_by f fd ∧ mg "yields_by" = some (.ref f)
  f_loaded : ∃ f fd, Fun K "loaded" "loaded" st_loaded f fd ∧ mg "loaded" = some (.ref f)
  f_minus : ∃ f fd, Fun K "minus" "minus" st_minus f fd ∧ mg "minus" = some (.ref f)
  f_without_column : ∃ f fd, Fun K "without_column" "without_column" st_without_column f fd ∧ mg "without_column" = some (.ref f)
  f_brought : ∃ f fd, Fun K "brought" "brought" st_brought f fd ∧ mg "brought" = some (.ref f)
  f_some_answer : ∃ f fd, Fun K "some_answer" "some_answer" st_some_answer f fd ∧ mg "some_answer" = some (.ref f)
  f_many_levels : ∃ f fd, Fun K "many_levels" "many_levels" st_many_levels f fd ∧ mg "many_levels" = some (.ref f)
  f_whole_rows : ∃ f fd, Fun K "whole_rows" "whole_rows" st_whole_rows f fd ∧ mg "whole_rows" = some (.ref f)
  f_turned : ∃ f fd, Fun K "turned" "turned" st_turned f fd ∧ mg "turned" = some (.ref f)
  f_normal_rows : ∃ f fd, Fun K "normal_rows" "normal_rows" st_normal_rows f fd ∧ mg "normal_rows" = some (.ref f)
  f_whole_question : ∃ f fd, Fun K "whole_question" "whole_question" st_whole_question f fd ∧ mg "whole_question" = some (.ref f)
  f_many_unknowns : ∃ f fd, Fun K "many_unknowns" "many_unknowns" st_many_unknowns f fd ∧ mg "many_unknowns" = some (.ref f)
  f_parted_world : ∃ f fd, Fun K "parted_world" "parted_world" st_parted_world f fd ∧ mg "parted_world" = some (.ref f)
  f_load_by : ∃ f fd, Fun K "load_by" "load_by" st_load_by f fd ∧ mg "load_by" = some (.ref f)
  f_best_by : ∃ f fd, Fun K "best_by" "best_by" st_best_by f fd ∧ mg "best_by" = some (.ref f)
  f_lone_question : ∃ f fd, Fun K "lone_question" "lone_question" st_lone_question f fd ∧ mg "lone_question" = some (.ref f)
  f_signs_of : ∃ f fd, Fun K "signs_of" "signs_of" st_signs_of f fd ∧ mg "signs_of" = some (.ref f)
  f_mix_by : ∃ f fd, Fun K "mix_by" "mix_by" st_mix_by f fd ∧ mg "mix_by" = some (.ref f)
  f_mix : ∃ f fd, Fun K "mix" "mix" st_mix f fd ∧ mg "mix" = some (.ref f)
  f__law_right : ∃ f fd, Fun K "_law_right" "_law_right" st__law_right f fd ∧ mg "_law_right" = some (.ref f)
  f_law : ∃ f fd, Fun K "law" "law" st_law f fd ∧ mg "law" = some (.ref f)
variable {P : Program} {w : World} {K : PySem.W.Frag} {mg : Str → Option Value} {base : Heap}
theorem sc__law_pool : FnScope ["script", "lap", "cell", "stirred", "each"] ["script", "lap"] (defScope st__law_pool) := ⟨rfl, rfl, rfl, by decide +kernel, rfl, by decide +kernel, by decide +kernel⟩
def B__law_pool : Sm := (sCons (sAsg (eIf (tE (eOp2 fLt (eVar 1) (eArgs (b1 bLen) (aCons (eVar 0) aNil)))) (eArgs (b1 bIntB) (aCons (eOp2 fIx (eVar 0) (eVar 1)) aNil)) (eOp2 (fAdd false) (eOp2 (fMul false) (eC (.int 8887)) (eVar 1)) (eC (.int 1237)))) (gVar 2))
    (sCons (sAsg (eOp2 (fAdd false) (eC (.int 95261)) (eOp2 (fMul false) (eC (.int 9013)) (eVar 1))) (gVar 3))
    (sCons (sFor (iSeq (eSl false (eVar 0) oNone (oSome (eC (.int 63))))) (gVar 4) (sAsg (eOp2 fMod (eArgs (b1 bIntB) (aCons (eOp2 (fAdd false) (eOp2 (fAdd false) (eOp2 (fMul false) (eVar 3) (eC (.int 40699))) (eOp2 fMod (eArgs (b1 bIntB) (aCons (eVar 4) aNil)) (eC (.int 2147483587)))) (eC (.int 23))) aNil)) (eC (.int 2147483629))) (gVar 3)))
    (sCons (sAsg (eOp2 fMod (eArgs (b1 bIntB) (aCons (eOp2 (fAdd false) (eOp2 (fAdd false) (eOp2 (fMul false) (eVar 3) (eC (.int 97))) (eOp2 (fMul false) (eOp2 fMod (eArgs (b1 bIntB) (aCons (eVar 2) aNil)) (eC (.int 2147483587))) (eC (.int 31013)))) (eC (.int 7))) aNil)) (eC (.int 2147483629))) (gVar 3))
    (sRet (eLst true (aCons (eIf (tOr (tE (eOp2 fLt (eVar 2) (eC (.int 0)))) (tE (eOp2 fGe (eVar 2) (eOp2 fPow (eC (.int 10)) (eC (.int 15)))))) (eArgs (b1 bAbs) (aCons (eVar 2) aNil)) (eC (.int 0))) (aCons (eVar 3) (aCons (eC (.int 0)) aNil)))))))))
def V__law_pool : Fm := fnV 2 5 B__law_pool
theorem ok__law_pool (W : Wd P K mg) {f : Addr} {fd : FuncData} (F : Fun K "_law_pool" "_law_pool" st__law_pool f fd) : FnOk P w K mg base (L2N.CX P w) 1 f fd ["script", "lap"] (tSp K mg V__law_pool) :=
  fn_ok F sc__law_pool rfl rfl (fun cdv A outer s H E hr => (ms_cons (sset 2 sc__law_pool.nd (me_ifE (tcmp c_lt (mv 1) (mcb (bo_len) (W.fr "len" (by decide)) PyProof.Rows.Boot.«len» (mac (mv 0) ma_nil))) (mct (bo_intB) (W.fr "int" (by decide)) PyProof.Rows.Boot.«int» (mac (mxi (mv 0) (mv 1)) ma_nil)) (me_add (me_mul me_int (mv 1)) me_int)))
    (ms_cons (sset 3 sc__law_pool.nd (me_add me_int (me_mul me_int (mv 1))))
    (ms_cons (sfor [4] (passes_of rfl) (mi_seq (me_slice (mv 0) mo_none (mo_some me_int))) (gv 4 sc__law_pool.nd) (ms_one (sset 3 sc__law_pool.nd (me_mod (mct (bo_intB) (W.fr "int" (by decide)) PyProof.Rows.Boot.«int» (mac (me_add (me_add (me_mul (mv 3) me_int) (me_mod (mct (bo_intB) (W.fr "int" (by decide)) PyProof.Rows.Boot.«int» (mac (mv 4) ma_nil)) me_int)) me_int) ma_nil)) me_int))))
    (ms_cons (sset 3 sc__law_pool.nd (me_mod (mct (bo_intB) (W.fr "int" (by decide)) PyProof.Rows.Boot.«int» (mac (me_add (me_add (me_mul (mv 3) me_int) (me_mul (me_mod (mct (bo_intB) (W.fr "int" (by decide)) PyProof.Rows.Boot.«int» (mac (mv 2) ma_nil)) me_int) me_int)) me_int) ma_nil)) me_int))
    (ms_one (ms_ret (me_lst (mac (me_ifE (PW.pt (mw_or (tcmp c_lt (mv 2) me_int) (mw_or1 (tcmp c_ge (mv 2) (me_pow me_int me_int))))) (mcb (bo_abs) (W.fr "abs" (by decide)) PyProof.Rows.Boot.«abs» (mac (mv 2) ma_nil)) me_int) (mac (mv 3) (mac me_int ma_nil)))))))))))
theorem D__law_pool (W : Wd P K mg) : FnD P w K mg base 1 "_law_pool" 2 V__law_pool := by
  obtain ⟨f, fd, F, hm⟩ := W.f__law_pool
  exact ⟨f, fd, _, ok__law_pool W F, hm, F.kp, F.binds fun _ _ _ _ _ _ us hl => match us, hl with | [_, _], _ => rfl⟩
theorem sc__law_below : FnScope ["pool", "many", "figure", "stirred"] ["pool", "many"] (defScope st__law_below) := ⟨rfl, rfl, rfl, by decide +kernel, rfl, by decide +kernel, by decide +kernel⟩
def B__law_below : Sm := (sCons (sIf (tE (eOp2 fGt (eOp2 fIx (eVar 0) (eC (.int 0))) (eC (.int 0)))) (sCons (sAsg (eArgs (b2 bDivmod) (aCons (eOp2 fIx (eVar 0) (eC (.int 0))) (aCons (eVar 1) aNil))) (gTup 2 (gsCons (gIx (eVar 0) (eC (.int 0))) (gsCons (gVar 2) gsNil))))
    (sRet (eVar 2))) sNil)
    (sCons (sAsg (eOp2 (fAdd false) (eOp2 fIx (eVar 0) (eC (.int 2))) (eC (.int 1))) (gIx (eVar 0) (eC (.int 2))))
    (sCons (sAsg (eOp2 fMod (eArgs (b1 bIntB) (aCons (eOp2 (fAdd false) (eOp2 (fAdd false) (eOp2 (fMul false) (eOp2 fIx (eVar 0) (eC (.int 1))) (eC (.int 48677))) (eOp2 (fMul false) (eC (.int 3413)) (eOp2 fIx (eVar 0) (eC (.int 2))))) (eC (.int 61))) aNil)) (eC (.int 2147483563))) (gVar 3))
    (sCons (sAsg (eOp2 fMod (eArgs (b1 bIntB) (aCons (eOp2 (fAdd false) (eOp2 (fMul false) (eVar 3) (eOp2 (fAdd false) (eOp2 fMod (eArgs (b1 bIntB) (aCons (eVar 3) aNil)) (eC (.int 4001))) (eC (.int 17911)))) (eOp2 fIx (eVar 0) (eC (.int 2)))) aNil)) (eC (.int 2147483563))) (gIx (eVar 0) (eC (.int 1))))
    (sRet (eOp2 fMod (eArgs (b1 bIntB) (aCons (eOp2 fDiv (eOp2 fIx (eVar 0) (eC (.int 1))) (eC (.int 367))) aNil)) (eVar 1)))))))
def V__law_below : Fm := fnV 2 4 B__law_below
theorem ok__law_below (W : Wd P K mg) {f : Addr} {fd : FuncData} (F : Fun K "_law_below" "_law_below" st__law_below f fd) : FnOk P w K mg base (L2N.CX P w) 1 f fd ["pool", "many"] (tSp K mg V__law_below) :=
  fn_ok F sc__law_below rfl rfl (fun cdv A outer s H E hr => (ms_cons (ms_if (tcmp c_gt (mxi (mv 0) me_int) me_int) (ms_cons (sasg [2] (mcb (bo_divmod) (W.fr "divmod" (by decide)) PyProof.Rows.Boot.«divmod» (mac (mxi (mv 0) me_int) (mac (mv 1) ma_nil))) (gt (gc (gi (mv 0) me_int) (gc (gv 2 sc__law_below.nd) mgs_nil))))
    (ms_one (ms_ret (mv 2)))) ms_nil)
    (ms_cons (sasg [] (me_add (mxi (mv 0) me_int) me_int) (gi (mv 0) me_int))
    (ms_cons (sset 3 sc__law_below.nd (me_mod (mct (bo_intB) (W.fr "int" (by decide)) PyProof.Rows.Boot.«int» (mac (me_add (me_add (me_mul (mxi (mv 0) me_int) me_int) (me_mul me_int (mxi (mv 0) me_int))) me_int) ma_nil)) me_int))
    (ms_cons (sasg [] (me_mod (mct (bo_intB) (W.fr "int" (by decide)) PyProof.Rows.Boot.«int» (mac (me_add (me_mul (mv 3) (me_add (me_mod (mct (bo_intB) (W.fr "int" (by decide)) PyProof.Rows.Boot.«int» (mac (mv 3) ma_nil)) me_int) me_int)) (mxi (mv 0) me_int)) ma_nil)) me_int) (gi (mv 0) me_int))
    (ms_one (ms_ret (me_mod (mct (bo_intB) (W.fr "int" (by decide)) PyProof.Rows.Boot.«int» (mac (me_div (mxi (mv 0) me_int) me_int) ma_nil)) (mv 1)))))))))
theorem D__law_below (W : Wd P K mg) : FnD P w K mg base 1 "_law_below" 2 V__law_below := by
  obtain ⟨f, fd, F, hm⟩ := W.f__law_below
  exact ⟨f, fd, _, ok__law_below W F, hm, F.kp, F.binds fun _ _ _ _ _ _ us hl => match us, hl with | [_, _], _ => rfl⟩
theorem sc__law_one : FnScope ["pool", "some"] ["pool", "some"] (defScope st__law_one) := ⟨rfl, rfl, rfl, by decide +kernel, rfl, by decide +kernel, by decide +kernel⟩
def B__law_one : Sm := (sRet (eOp2 fIx (eVar 1) (eCall V__law_below (aCons (eVar 0) (aCons (eArgs (b1 bLen) (aCons (eVar 1) aNil)) aNil)))))
def V__law_one : Fm := fnV 2 2 B__law_one
theorem ok__law_one (W : Wd P K mg) {f : Addr} {fd : FuncData} (F : Fun K "_law_one" "_law_one" st__law_one f fd) : FnOk P w K mg base (L2N.CX P w) 2 f fd ["pool", "some"] (tSp K mg V__law_one) :=
  fn_ok F sc__law_one rfl rfl (fun cdv A outer s H E hr => (ms_one (ms_ret (mxi (mv 1) (mcallR (D__law_below W) (hr.mono (by decide)) passesX (mac (mv 0) (mac (mcb (bo_len) (W.fr "len" (by decide)) PyProof.Rows.Boot.«len» (mac (mv 1) ma_nil)) ma_nil)))))))
theorem D__law_one (W : Wd P K mg) : FnD P w K mg base 2 "_law_one" 2 V__law_one := by
  obtain ⟨f, fd, F, hm⟩ := W.f__law_one
  exact ⟨f, fd, _, ok__law_one W F, hm, F.kp, F.binds fun _ _ _ _ _ _ us hl => match us, hl with | [_, _], _ => rfl⟩
theorem sc__law_effects : FnScope ["factors", "found", "factor", "effect"] ["factors"] (defScope st__law_effects) := ⟨rfl, rfl, rfl, by decide +kernel, rfl, by decide +kernel, by decide +kernel⟩
def B__law_effects : Sm := (sCons (sAsg (eLst true (aCons (eTup aNil) aNil)) (gVar 1))
    (sCons (sFor (iRng1 (eVar 0)) (gVar 2) (sAsg (eOp2 (fAddR true) (eVar 1) (eLcC false (iSeqC (eVar 1)) (gVar 3) tYesM (eOp2 (fAdd false) (eVar 3) (eTup (aCons (eVar 2) aNil))) [3])) (gVar 1)))
    (sRet (eVar 1))))
def V__law_effects : Fm := fnV 1 4 B__law_effects
theorem ok__law_effects (W : Wd P K mg) {f : Addr} {fd : FuncData} (F : Fun K "_law_effects" "_law_effects" st__law_effects f fd) : FnOk P w K mg base (L2N.CX P w) 1 f fd ["factors"] (tSp K mg V__law_effects) :=
  fn_ok F sc__law_effects rfl rfl (fun cdv A outer s H E hr => (ms_cons (sset 1 sc__law_effects.nd (me_lst (mac (me_tup ma_nil) ma_nil)))
    (ms_cons (sfor [2] (passes_of rfl) (irng1 (W.fr "range" (by decide)) (mv 0)) (gv 2 sc__law_effects.nd) (ms_one (sset 1 sc__law_effects.nd (me_addR (mv 1) (mlcC ([("effect", 3)] : List (Str × Nat)) sc__law_effects.nd (mic_seq (mv 1)) (fun s H C cl fp => (gv 3 sc__law_effects.nd)) (fun s H C cl fp => mts_nil) (fun s H C cl fp => (me_add (mv 3) (me_tup (mac (mv 2) ma_nil)))))))))
    (ms_one (ms_ret (mv 1))))))
theorem D__law_effects (W : Wd P K mg) : FnD P w K mg base 1 "_law_effects" 1 V__law_effects := by
  obtain ⟨f, fd, F, hm⟩ := W.f__law_effects
  exact ⟨f, fd, _, ok__law_effects W F, hm, F.kp, F.binds fun _ _ _ _ _ _ us hl => match us, hl with | [_], _ => rfl⟩
theorem sc__law_runs : FnScope ["factors", "found", "factor", "run"] ["factors"] (defScope st__law_runs) := ⟨rfl, rfl, rfl, by decide +kernel, rfl, by decide +kernel, by decide +kernel⟩
def B__law_runs : Sm := (sCons (sAsg (eLst false (aCons (eTup aNil) aNil)) (gVar 1))
    (sCons (sFor (iRng1 (eVar 0)) (gVar 2) (sAsg (eOp2 (fAdd false) (eLc false (iSeq (eVar 1)) (gVar 3) tYesM (eOp2 (fAdd false) (eVar 3) (eTup (aCons (eOp1 fNeg (eC (.int 1))) aNil))) [3]) (eLc false (iSeq (eVar 1)) (gVar 3) tYesM (eOp2 (fAdd false) (eVar 3) (eTup (aCons (eC (.int 1)) aNil))) [3])) (gVar 1)))
    (sRet (eVar 1))))
def V__law_runs : Fm := fnV 1 4 B__law_runs
theorem ok__law_runs (W : Wd P K mg) {f : Addr} {fd : FuncData} (F : Fun K "_law_runs" "_law_runs" st__law_runs f fd) : FnOk P w K mg base (L2N.CX P w) 1 f fd ["factors"] (tSp K mg V__law_runs) :=
  fn_ok F sc__law_runs rfl rfl (fun cdv A outer s H E hr => (ms_cons (sset 1 sc__law_runs.nd (me_lst (mac (me_tup ma_nil) ma_nil)))
    (ms_cons (sfor [2] (passes_of rfl) (irng1 (W.fr "range" (by decide)) (mv 0)) (gv 2 sc__law_runs.nd) (ms_one (sset 1 sc__law_runs.nd (me_add (mlc ([("run", 3)] : List (Str × Nat)) sc__law_runs.nd (mi_seq (mv 1)) (fun s H C cl fp => (gv 3 sc__law_runs.nd)) (fun s H C cl fp => mts_nil) (fun s H C cl fp => (me_add (mv 3) (me_tup (mac (me_neg me_int) ma_nil))))) (mlc ([("run", 3)] : List (Str × Nat)) sc__law_runs.nd (mi_seq (mv 1)) (fun s H C cl fp => (gv 3 sc__law_runs.nd)) (fun s H C cl fp => mts_nil) (fun s H C cl fp => (me_add (mv 3) (me_tup (mac me_int ma_nil)))))))))
    (ms_one (ms_ret (mv 1))))))
theorem D__law_runs (W : Wd P K mg) : FnD P w K mg base 1 "_law_runs" 1 V__law_runs := by
  obtain ⟨f, fd, F, hm⟩ := W.f__law_runs
  exact ⟨f, fd, _, ok__law_runs W F, hm, F.kp, F.binds fun _ _ _ _ _ _ us hl => match us, hl with | [_], _ => rfl⟩
theorem sc__law_sign : FnScope ["run", "effect", "found", "factor"] ["run", "effect"] (defScope st__law_sign) := ⟨rfl, rfl, rfl, by decide +kernel, rfl, by decide +kernel, by decide +kernel⟩
def B__law_sign : Sm := (sCons (sAsg (eC (.int 1)) (gVar 2))
    (sCons (sFor (iSeq (eVar 1)) (gVar 3) (sAsg (eOp2 (fMul false) (eVar 2) (eOp2 fIx (eVar 0) (eVar 3))) (gVar 2)))
    (sRet (eVar 2))))
def V__law_sign : Fm := fnV 2 4 B__law_sign
theorem ok__law_sign (W : Wd P K mg) {f : Addr} {fd : FuncData} (F : Fun K "_law_sign" "_law_sign" st__law_sign f fd) : FnOk P w K mg base (L2N.CX P w) 1 f fd ["run", "effect"] (tSp K mg V__law_sign) :=
  fn_ok F sc__law_sign rfl rfl (fun cdv A outer s H E hr => (ms_cons (sset 2 sc__law_sign.nd me_int)
    (ms_cons (sfor [3] (passes_of rfl) (mi_seq (mv 1)) (gv 3 sc__law_sign.nd) (ms_one (sset 2 sc__law_sign.nd (me_mul (mv 2) (mxi (mv 0) (mv 3))))))
    (ms_one (ms_ret (mv 2))))))
theorem D__law_sign (W : Wd P K mg) : FnD P w K mg base 1 "_law_sign" 2 V__law_sign := by
  obtain ⟨f, fd, F, hm⟩ := W.f__law_sign
  exact ⟨f, fd, _, ok__law_sign W F, hm, F.kp, F.binds fun _ _ _ _ _ _ us hl => match us, hl with | [_, _], _ => rfl⟩
theorem sc__law_plan : FnScope ["pool", "factors", "most", "runs", "pieces", "lap", "left", "effects", "run"] ["pool"] (defScope st__law_plan) := ⟨rfl, rfl, rfl, by decide +kernel, rfl, by decide +kernel, by decide +kernel⟩
def B__law_plan : Sm := (sCons (sPar 1 2 (aCons (eOp2 (fAdd false) (eC (.int 1)) (eCall V__law_below (aCons (eVar 0) (aCons (eC (.int 4)) aNil)))) (aCons (eCall V__law_one (aCons (eVar 0) (aCons (eTup (aCons (eC (.int 1)) (aCons (eC (.int 2)) (aCons (eC (.int 4)) (aCons (eC (.int 4)) (aCons (eC (.int 8)) (aCons (eC (.int 10)) aNil))))))) aNil))) aNil)))
    (sCons (sPar 3 4 (aCons (eLst true aNil) (aCons (eLc false (iSeq (eCallI V__law_runs (aCons (eVar 1) aNil))) (gVar 8) tYesM (eVar 8) [8]) aNil)))
    (sCons (sFor (iRng1 (eVar 2)) (gVar 5) (sExpr (fun ρ => mB ((eVar 3) ρ) fun x => mB (isLs x) fun _ => mB ((eCall V__law_one (aCons (eVar 0) (aCons (eVar 4) aNil))) ρ) fun y => mApp x y)))
    (sCons (sIf (tE (eOp2 fEq (eCall V__law_below (aCons (eVar 0) (aCons (eC (.int 3)) aNil))) (eC (.int 0)))) (sAsg (eSl true (eLc false (iSeq (eVar 4)) (gVar 8) (tE (eOp2 fEq (eCallI V__law_sign (aCons (eVar 8) (aCons (eTupRg (eVar 1)) aNil))) (eC (.int 1)))) (eVar 8) [8]) oNone (oSome (eC (.int 10)))) (gVar 3)) sNil)
    (sCons (sPar 6 7 (aCons (eCall V__law_effects (aCons (eVar 1) aNil)) (aCons (eLst true aNil) aNil)))
    (sCons (sFor (iRng1 (eArgs (b2 bMin2) (aCons (eOp2 fSub (eArgs (b1 bLen) (aCons (eVar 6) aNil)) (eC (.int 1))) (aCons (eOp2 (fAdd false) (eC (.int 1)) (eCall V__law_below (aCons (eVar 0) (aCons (eC (.int 4)) aNil)))) aNil)))) (gVar 5) (sExpr (fun ρ => mB ((eVar 7) ρ) fun x => mB (isLs x) fun _ => mB ((fun ρ => mB ((eVar 6) ρ) fun x => mB (isLs x) fun _ => mB ((eCall V__law_below (aCons (eVar 0) (aCons (eArgs (b1 bLen) (aCons (eVar 6) aNil)) aNil))) ρ) fun y => mPop x y) ρ) fun y => mApp x y)))
    (sRet (eTup (aCons (eArgs (b1 bTuple) (aCons (eVar 3) aNil)) (aCons (eArgs (b1 bTuple) (aCons (eVar 7) aNil)) (aCons (eFrz 6) aNil)))))))))))
def V__law_plan : Fm := fnV 1 9 B__law_plan
theorem ok__law_plan (W : Wd P K mg) {f : Addr} {fd : FuncData} (F : Fun K "_law_plan" "_law_plan" st__law_plan f fd) : FnOk P w K mg base (L2N.CX P w) 3 f fd ["pool"] (tSp K mg V__law_plan) :=
  fn_ok F sc__law_plan rfl rfl (fun cdv A outer s H E hr => (ms_cons (sparC 1 2 sc__law_plan.nd (mac (me_add me_int (mcallR (D__law_below W) (hr.mono (by decide)) passesX (mac (mv 0) (mac me_int ma_nil)))) (mac (mcallR (D__law_one W) (hr.mono (by decide)) passesX (mac (mv 0) (mac (me_tup (mac me_int (mac me_int (mac me_int (mac me_int (mac me_int (mac me_int ma_nil))))))) ma_nil))) ma_nil)))
    (ms_cons (spar 3 4 sc__law_plan.nd (mac (me_lst ma_nil) (mac (mlc ([("run", 8)] : List (Str × Nat)) sc__law_plan.nd (mi_seq (mcall (D__law_runs W) (hr.mono (by decide)) passesX (mac (mv 1) ma_nil))) (fun s H C cl fp => (gv 8 sc__law_plan.nd)) (fun s H C cl fp => mts_nil) (fun s H C cl fp => (mv 8))) ma_nil)))
    (ms_cons (sfor [5] (passes_of rfl) (irng1 (W.fr "range" (by decide)) (mv 2)) (gv 5 sc__law_plan.nd) (ms_one (sexpr (sapp (mv 3) (mcallR (D__law_one W) (hr.mono (by decide)) passesX (mac (mv 0) (mac (mv 4) ma_nil)))))))
    (ms_cons (ms_if (tcmp (c_eq (hu65 hr)) (mcallR (D__law_below W) (hr.mono (by decide)) passesX (mac (mv 0) (mac me_int ma_nil))) me_int) (ms_one (sset 3 sc__law_plan.nd (me_slice (mlc ([("run", 8)] : List (Str × Nat)) sc__law_plan.nd (mi_seq (mv 4)) (fun s H C cl fp => (gv 8 sc__law_plan.nd)) (fun s H C cl fp => (mts_one (tcmp (c_eq (hu65 hr)) (mcall (D__law_sign W) (hr.mono (by decide)) passLN (mac (mv 8) (mac (mtupRg (W.fr "tuple" (by decide)) (W.fr "range" (by decide)) (mv 1)) ma_nil))) me_int))) (fun s H C cl fp => (mv 8))) mo_none (mo_some me_int)))) ms_nil)
    (ms_cons (spar 6 7 sc__law_plan.nd (mac (mcallR (D__law_effects W) (hr.mono (by decide)) passesX (mac (mv 1) ma_nil)) (mac (me_lst ma_nil) ma_nil)))
    (ms_cons (sfor [5] (passes_of rfl) (irng1 (W.fr "range" (by decide)) (mcb (bo_min2 rfl) (W.fr "min" (by decide)) PyProof.Rows.Boot.«min» (mac (me_sub (mcb (bo_len) (W.fr "len" (by decide)) PyProof.Rows.Boot.«len» (mac (mv 6) ma_nil)) me_int) (mac (me_add me_int (mcallR (D__law_below W) (hr.mono (by decide)) passesX (mac (mv 0) (mac me_int ma_nil)))) ma_nil)))) (gv 5 sc__law_plan.nd) (ms_one (sexpr (sapp (mv 7) (spop (mv 6) (mcallR (D__law_below W) (hr.mono (by decide)) passesX (mac (mv 0) (mac (mcb (bo_len) (W.fr "len" (by decide)) PyProof.Rows.Boot.«len» (mac (mv 6) ma_nil)) ma_nil))))))))
    (ms_one (ms_ret (me_tup (mac (mct (bo_tuple) (W.fr "tuple" (by decide)) PyProof.Rows.Boot.«tuple» (mac (mv 3) ma_nil)) (mac (mct (bo_tuple) (W.fr "tuple" (by decide)) PyProof.Rows.Boot.«tuple» (mac (mv 7) ma_nil)) (mac (mz 6) ma_nil)))))))))))))
theorem D__law_plan (W : Wd P K mg) : FnD P w K mg base 3 "_law_plan" 1 V__law_plan := by
  obtain ⟨f, fd, F, hm⟩ := W.f__law_plan
  exact ⟨f, fd, _, ok__law_plan W F, hm, F.kp, F.binds fun _ _ _ _ _ _ us hl => match us, hl with | [_], _ => rfl⟩
theorem sc__law_same : FnScope ["told", "due", "fits", "k"] ["told", "due"] (defScope st__law_same) := ⟨rfl, rfl, rfl, by decide +kernel, rfl, by decide +kernel, by decide +kernel⟩
def B__law_same (R : Fm) : Sm := (sCons (sIf (tOr (tE (eOp1 (fIsi .tuple) (eVar 1))) (tE (eOp1 (fIsi .list) (eVar 1)))) (sCons (sAsg (eIf (tE (eOp1 (fIsi .tuple) (eVar 1))) (eOp1 (fIsi .tuple) (eVar 0)) (eOp1 (fIsi .list) (eVar 0))) (gVar 2))
    (sRet (eAnd (eVar 2) (eAnd (eOp2 fEq (eArgs (b1 bLen) (aCons (eVar 0) aNil)) (eArgs (b1 bLen) (aCons (eVar 1) aNil))) (eArgs (b1 bAll) (aCons (eLc false (iRng1 (eArgs (b1 bLen) (aCons (eVar 1) aNil))) (gVar 3) tYesM (eCallI R (aCons (eOp2 fIx (eVar 0) (eVar 3)) (aCons (eOp2 fIx (eVar 1) (eVar 3)) aNil))) [3]) aNil)))))) sNil)
    (sCons (sIf (tE (eOp2 fIsN (eVar 1) (eC .none))) (sRet (eOp2 fIsN (eVar 0) (eC .none))) sNil)
    (sCons (sIf (tE (eOp1 (fIsi .bool) (eVar 1))) (sRet (eAnd (eOp1 (fIsi .bool) (eVar 0)) (eOp2 fEq (eVar 0) (eVar 1)))) sNil)
    (sCons (sIf (tE (eOp1 (fIsi .int) (eVar 1))) (sRet (eAnd (eOp1 (fIsi .int) (eVar 0)) (eAnd (eNot (eOp1 (fIsi .bool) (eVar 0))) (eOp2 fEq (eVar 0) (eVar 1))))) sNil)
    (sRet (eAnd (eOp1 (fIsi .str) (eVar 1)) (eAnd (eOp1 (fIsi .str) (eVar 0)) (eOp2 fEq (eVar 0) (eVar 1)))))))))
def V__law_same : Nat → Fm
  | 0 => fun _ => mStuck
  | d + 1 => fnV 2 4 (B__law_same (V__law_same d))
theorem D__law_same (W : Wd P K mg) : ∀ d : Nat, FnD P w K mg base (1 + d) "_law_same" 2 (V__law_same d)
  | 0 => by
    obtain ⟨f, fd, F, hm⟩ := W.f__law_same
    exact ⟨f, fd, ["told", "due"], FnOk.none, hm, F.kp, F.binds fun _ _ _ _ _ _ us hl => match us, hl with | [_, _], _ => rfl⟩
  | d + 1 => by
    have IH := D__law_same W d
    obtain ⟨f, fd, F, hm⟩ := W.f__law_same
    exact ⟨f, fd, _, fn_ok F sc__law_same rfl rfl (fun cdv A outer s H E hr => (ms_cons (ms_if (PW.pt (mw_or (tval (misi .tuple (W.fr "isinstance" (by decide)) (W.fr "tuple" (by decide)) PyProof.Rows.Boot.«tuple» (mv 1))) (mw_or1 (tval (misi .list (W.fr "isinstance" (by decide)) (W.fr "list" (by decide)) PyProof.Rows.Boot.«list» (mv 1)))))) (ms_cons (sset 2 sc__law_same.nd (me_ifE (tval (misi .tuple (W.fr "isinstance" (by decide)) (W.fr "tuple" (by decide)) PyProof.Rows.Boot.«tuple» (mv 1))) (misi .tuple (W.fr "isinstance" (by decide)) (W.fr "tuple" (by decide)) PyProof.Rows.Boot.«tuple» (mv 0)) (misi .list (W.fr "isinstance" (by decide)) (W.fr "list" (by decide)) PyProof.Rows.Boot.«list» (mv 0))))
    (ms_one (ms_ret (me_and (mv 2) (me_and (mcmp (c_eq (hu65 hr)) (mcb (bo_len) (W.fr "len" (by decide)) PyProof.Rows.Boot.«len» (mac (mv 0) ma_nil)) (mcb (bo_len) (W.fr "len" (by decide)) PyProof.Rows.Boot.«len» (mac (mv 1) ma_nil))) (me_one (mcb (bo_all rfl) (W.fr "all" (by decide)) PyProof.Rows.Boot.«all» (mac (mlc ([("k", 3)] : List (Str × Nat)) sc__law_same.nd (irng1 (W.fr "range" (by decide)) (mcb (bo_len) (W.fr "len" (by decide)) PyProof.Rows.Boot.«len» (mac (mv 1) ma_nil))) (fun s H C cl fp => (gv 3 sc__law_same.nd)) (fun s H C cl fp => mts_nil) (fun s H C cl fp => (mcall IH (hr.mono (Nat.le_refl _)) passLN (mac (mxi (mv 0) (mv 3)) (mac (mxi (mv 1) (mv 3)) ma_nil))))) ma_nil)))))))) ms_nil)
    (ms_cons (ms_if (tcmp c_is (mv 1) me_non) (ms_one (ms_ret (mcmp c_is (mv 0) me_non))) ms_nil)
    (ms_cons (ms_if (tval (misi .bool (W.fr "isinstance" (by decide)) (W.fr "bool" (by decide)) PyProof.Rows.Boot.«bool» (mv 1))) (ms_one (ms_ret (me_and (misi .bool (W.fr "isinstance" (by decide)) (W.fr "bool" (by decide)) PyProof.Rows.Boot.«bool» (mv 0)) (me_one (mcmp (c_eq (hu65 hr)) (mv 0) (mv 1)))))) ms_nil)
    (ms_cons (ms_if (tval (misi .int (W.fr "isinstance" (by decide)) (W.fr "int" (by decide)) PyProof.Rows.Boot.«int» (mv 1))) (ms_one (ms_ret (me_and (misi .int (W.fr "isinstance" (by decide)) (W.fr "int" (by decide)) PyProof.Rows.Boot.«int» (mv 0)) (me_and (me_not (misi .bool (W.fr "isinstance" (by decide)) (W.fr "bool" (by decide)) PyProof.Rows.Boot.«bool» (mv 0))) (me_one (mcmp (c_eq (hu65 hr)) (mv 0) (mv 1))))))) ms_nil)
    (ms_one (ms_ret (me_and (misi .str (W.fr "isinstance" (by decide)) (W.fr "str" (by decide)) PyProof.Rows.Boot.«str» (mv 1)) (me_and (misi .str (W.fr "isinstance" (by decide)) (W.fr "str" (by decide)) PyProof.Rows.Boot.«str» (mv 0)) (me_one (mcmp (c_eq (hu65 hr)) (mv 0) (mv 1)))))))))))), hm, F.kp, F.binds fun _ _ _ _ _ _ us hl => match us, hl with | [_, _], _ => rfl⟩
theorem sc_is_whole : FnScope ["value"] ["value"] (defScope st_is_whole) := ⟨rfl, rfl, rfl, by decide +kernel, rfl, by decide +kernel, by decide +kernel⟩
def B_is_whole : Sm := (sRet (eAnd (eOp1 (fIsi .int) (eVar 0)) (eNot (eOp1 (fIsi .bool) (eVar 0)))))
def V_is_whole : Fm := fnV 1 1 B_is_whole
theorem ok_is_whole (W : Wd P K mg) {f : Addr} {fd : FuncData} (F : Fun K "is_whole" "is_whole" st_is_whole f fd) : FnOk P w K mg base (L2N.CX P w) 1 f fd ["value"] (tSp K mg V_is_whole) :=
  fn_ok F sc_is_whole rfl rfl (fun cdv A outer s H E hr => (ms_one (ms_ret (me_and (misi .int (W.fr "isinstance" (by decide)) (W.fr "int" (by decide)) PyProof.Rows.Boot.«int» (mv 0)) (me_one (me_not (misi .bool (W.fr "isinstance" (by decide)) (W.fr "bool" (by decide)) PyProof.Rows.Boot.«bool» (mv 0))))))))
theorem D_is_whole (W : Wd P K mg) : FnD P w K mg base 1 "is_whole" 1 V_is_whole := by
  obtain ⟨f, fd, F, hm⟩ := W.f_is_whole
  exact ⟨f, fd, _, ok_is_whole W F, hm, F.kp, F.binds fun _ _ _ _ _ _ us hl => match us, hl with | [_], _ => rfl⟩
theorem sc_is_sign : FnScope ["value"] ["value"] (defScope st_is_sign) := ⟨rfl, rfl, rfl, by decide +kernel, rfl, by decide +kernel, by decide +kernel⟩
def B_is_sign : Sm := (sRet (eAnd (eCallI V_is_whole (aCons (eVar 0) aNil)) (eOp2 fIn (eVar 0) (eTup (aCons (eC (.int 1)) (aCons (eOp1 fNeg (eC (.int 1))) aNil))))))
def V_is_sign : Fm := fnV 1 1 B_is_sign
theorem ok_is_sign (W : Wd P K mg) {f : Addr} {fd : FuncData} (F : Fun K "is_sign" "is_sign" st_is_sign f fd) : FnOk P w K mg base (L2N.CX P w) 2 f fd ["value"] (tSp K mg V_is_sign) :=
  fn_ok F sc_is_sign rfl rfl (fun cdv A outer s H E hr => (ms_one (ms_ret (me_and (mcall (D_is_whole W) (hr.mono (by decide)) passesX (mac (mv 0) ma_nil)) (me_one (mcmp (c_in (hu65 hr)) (mv 0) (me_tup (mac me_int (mac (me_neg me_int) ma_nil)))))))))
theorem D_is_sign (W : Wd P K mg) : FnD P w K mg base 2 "is_sign" 1 V_is_sign := by
  obtain ⟨f, fd, F, hm⟩ := W.f_is_sign
  exact ⟨f, fd, _, ok_is_sign W F, hm, F.kp, F.binds fun _ _ _ _ _ _ us hl => match us, hl with | [_], _ => rfl⟩
theorem sc_is_run_by : FnScope ["value", "each"] ["value"] (defScope st_is_run_by) := ⟨rfl, rfl, rfl, by decide +kernel, rfl, by decide +kernel, by decide +kernel⟩
def B_is_run_by : Sm := (sCons (sIf (tOr (tNot (tE (eOp1 (fIsi .tuple) (eVar 0)))) (tNot (tE (eChain fLe fLe (eC (.int 1)) (eArgs (b1 bLen) (aCons (eVar 0) aNil)) (eC (.int 6)))))) (sRet (eC (.bool false))) sNil)
    (sRet (eArgs (b1 bAll) (aCons (eLc false (iSeq (eVar 0)) (gVar 1) tYesM (eCallI V_is_sign (aCons (eVar 1) aNil)) [1]) aNil))))
def V_is_run_by : Fm := fnV 1 2 B_is_run_by
theorem ok_is_run_by (W : Wd P K mg) {f : Addr} {fd : FuncData} (F : Fun K "is_run_by" "is_run_by" st_is_run_by f fd) : FnOk P w K mg base (L2N.CX P w) 3 f fd ["value"] (tSp K mg V_is_run_by) :=
  fn_ok F sc_is_run_by rfl rfl (fun cdv A outer s H E hr => (ms_cons (ms_if (PW.pt (mw_or (mt_not (tval (misi .tuple (W.fr "isinstance" (by decide)) (W.fr "tuple" (by decide)) PyProof.Rows.Boot.«tuple» (mv 0)))) (mw_or1 (mt_not (tchain c_le c_le me_int (mcb (bo_len) (W.fr "len" (by decide)) PyProof.Rows.Boot.«len» (mac (mv 0) ma_nil)) (mgl W.g_MOST_FACTORS)))))) (ms_one (ms_ret me_bl)) ms_nil)
    (ms_one (ms_ret (mcb (bo_all rfl) (W.fr "all" (by decide)) PyProof.Rows.Boot.«all» (mac (mlc ([("each", 1)] : List (Str × Nat)) sc_is_run_by.nd (mi_seq (mv 0)) (fun s H C cl fp => (gv 1 sc_is_run_by.nd)) (fun s H C cl fp => mts_nil) (fun s H C cl fp => (mcall (D_is_sign W) (hr.mono (by decide)) passLN (mac (mv 1) ma_nil)))) ma_nil))))))
theorem D_is_run_by (W : Wd P K mg) : FnD P w K mg base 3 "is_run_by" 1 V_is_run_by := by
  obtain ⟨f, fd, F, hm⟩ := W.f_is_run_by
  exact ⟨f, fd, _, ok_is_run_by W F, hm, F.kp, F.binds fun _ _ _ _ _ _ us hl => match us, hl with | [_], _ => rfl⟩
theorem sc_wrong_in_runs : FnScope ["value", "index", "each"] ["value"] (defScope st_wrong_in_runs) := ⟨rfl, rfl, rfl, by decide +kernel, rfl, by decide +kernel, by decide +kernel⟩
def B_wrong_in_runs : Sm := (sCons (sIf (tOr (tNot (tE (eOp1 (fIsi .tuple) (eVar 0)))) (tNot (tE (eChain fLe fLe (eC (.int 1)) (eArgs (b1 bLen) (aCons (eVar 0) aNil)) (eC (.int 64)))))) (sRet (eLst false (aCons (eC .none) aNil))) sNil)
    (sCons (sFor (iEnum (eVar 0)) (gTup 2 (gsCons (gVar 1) (gsCons (gVar 2) gsNil))) (sIf (tOr (tNot (tE (eCallI V_is_run_by (aCons (eVar 2) aNil)))) (tE (eOp2 fNe (eArgs (b1 bLen) (aCons (eVar 2) aNil)) (eArgs (b1 bLen) (aCons (eOp2 fIx (eVar 0) (eC (.int 0))) aNil))))) (sRet (eLst false (aCons (eVar 1) aNil))) sNil))
    (sRet (eLst false aNil))))
def V_wrong_in_runs : Fm := fnV 1 3 B_wrong_in_runs
theorem ok_wrong_in_runs (W : Wd P K mg) {f : Addr} {fd : FuncData} (F : Fun K "wrong_in_runs" "wrong_in_runs" st_wrong_in_runs f fd) : FnOk P w K mg base (L2N.CX P w) 4 f fd ["value"] (tSp K mg V_wrong_in_runs) :=
  fn_ok F sc_wrong_in_runs rfl rfl (fun cdv A outer s H E hr => (ms_cons (ms_if (PW.pt (mw_or (mt_not (tval (misi .tuple (W.fr "isinstance" (by decide)) (W.fr "tuple" (by decide)) PyProof.Rows.Boot.«tuple» (mv 0)))) (mw_or1 (mt_not (tchain c_le c_le me_int (mcb (bo_len) (W.fr "len" (by decide)) PyProof.Rows.Boot.«len» (mac (mv 0) ma_nil)) (mgl W.g_MOST_RUNS)))))) (ms_one (ms_ret (me_lst (mac me_non ma_nil)))) ms_nil)
    (ms_cons (sfor [1, 2] (passes_of rfl) (ienum (W.fr "enumerate" (by decide)) (mv 0)) (gt (gc (gv 1 sc_wrong_in_runs.nd) (gc (gv 2 sc_wrong_in_runs.nd) mgs_nil))) (ms_one (ms_if (PW.pt (mw_or (mt_not (tval (mcall (D_is_run_by W) (hr.mono (by decide)) passesX (mac (mv 2) ma_nil)))) (mw_or1 (tcmp (c_ne (hu65 hr)) (mcb (bo_len) (W.fr "len" (by decide)) PyProof.Rows.Boot.«len» (mac (mv 2) ma_nil)) (mcb (bo_len) (W.fr "len" (by decide)) PyProof.Rows.Boot.«len» (mac (mxi (mv 0) me_int) ma_nil)))))) (ms_one (ms_ret (me_lst (mac (mv 1) ma_nil)))) ms_nil)))
    (ms_one (ms_ret (me_lst ma_nil))))))
theorem D_wrong_in_runs (W : Wd P K mg) : FnD P w K mg base 4 "wrong_in_runs" 1 V_wrong_in_runs := by
  obtain ⟨f, fd, F, hm⟩ := W.f_wrong_in_runs
  exact ⟨f, fd, _, ok_wrong_in_runs W F, hm, F.kp, F.binds fun _ _ _ _ _ _ us hl => match us, hl with | [_], _ => rfl⟩
theorem sc_check_runs : FnScope ["value", "index"] ["value"] (defScope st_check_runs) := ⟨rfl, rfl, rfl, by decide +kernel, rfl, by decide +kernel, by decide +kernel⟩
def B_check_runs : Sm := (sFor (iSeq (eCallI V_wrong_in_runs (aCons (eVar 0) aNil))) (gVar 1) sStuck)
def V_check_runs : Fm := fnV 1 2 B_check_runs
theorem ok_check_runs (W : Wd P K mg) {f : Addr} {fd : FuncData} (F : Fun K "check_runs" "check_runs" st_check_runs f fd) : FnOk P w K mg base (L2N.CX P w) 5 f fd ["value"] (tSp K mg V_check_runs) :=
  fn_ok F sc_check_runs rfl rfl (fun cdv A outer s H E hr => (ms_one (sfor [1] (passes_of rfl) (mi_seq (mcall (D_wrong_in_runs W) (hr.mono (by decide)) passesX (mac (mv 0) ma_nil))) (gv 1 sc_check_runs.nd) (ms_one ms_stuck))))
theorem D_check_runs (W : Wd P K mg) : FnD P w K mg base 5 "check_runs" 1 V_check_runs := by
  obtain ⟨f, fd, F, hm⟩ := W.f_check_runs
  exact ⟨f, fd, _, ok_check_runs W F, hm, F.kp, F.binds fun _ _ _ _ _ _ us hl => match us, hl with | [_], _ => rfl⟩
theorem sc_is_between : FnScope ["value", "low", "high"] ["value", "low", "high"] (defScope st_is_between) := ⟨rfl, rfl, rfl, by decide +kernel, rfl, by decide +kernel, by decide +kernel⟩
def B_is_between : Sm := (sRet (eAnd (eCallI V_is_whole (aCons (eVar 0) aNil)) (eChain fLe fLe (eVar 1) (eVar 0) (eVar 2))))
def V_is_between : Fm := fnV 3 3 B_is_between
theorem ok_is_between (W : Wd P K mg) {f : Addr} {fd : FuncData} (F : Fun K "is_between" "is_between" st_is_between f fd) : FnOk P w K mg base (L2N.CX P w) 2 f fd ["value", "low", "high"] (tSp K mg V_is_between) :=
  fn_ok F sc_is_between rfl rfl (fun cdv A outer s H E hr => (ms_one (ms_ret (me_and (mcall (D_is_whole W) (hr.mono (by decide)) passesX (mac (mv 0) ma_nil)) (me_one (mchain c_le c_le (mv 1) (mv 0) (mv 2)))))))
theorem D_is_between (W : Wd P K mg) : FnD P w K mg base 2 "is_between" 3 V_is_between := by
  obtain ⟨f, fd, F, hm⟩ := W.f_is_between
  exact ⟨f, fd, _, ok_is_between W F, hm, F.kp, F.binds fun _ _ _ _ _ _ us hl => match us, hl with | [_, _, _], _ => rfl⟩
theorem sc_wrong_in_effect : FnScope ["factors", "value", "index", "each"] ["factors", "value"] (defScope st_wrong_in_effect) := ⟨rfl, rfl, rfl, by decide +kernel, rfl, by decide +kernel, by decide +kernel⟩
def B_wrong_in_effect : Sm := (sCons (sIf (tNot (tE (eOp1 (fIsi .tuple) (eVar 1)))) (sRet (eLst false (aCons (eC .none) aNil))) sNil)
    (sCons (sFor (iEnum (eVar 1)) (gTup 2 (gsCons (gVar 2) (gsCons (gVar 3) gsNil))) (sIf (tOr (tNot (tE (eCallI V_is_between (aCons (eVar 3) (aCons (eC (.int 0)) (aCons (eOp2 fSub (eVar 0) (eC (.int 1))) aNil)))))) (tAnd (tE (eOp2 fGt (eVar 2) (eC (.int 0)))) (tE (eOp2 fGe (eOp2 fIx (eVar 1) (eOp2 fSub (eVar 2) (eC (.int 1)))) (eVar 3))))) (sRet (eLst false (aCons (eVar 2) aNil))) sNil))
    (sRet (eLst false aNil))))
def V_wrong_in_effect : Fm := fnV 2 4 B_wrong_in_effect
theorem ok_wrong_in_effect (W : Wd P K mg) {f : Addr} {fd : FuncData} (F : Fun K "wrong_in_effect" "wrong_in_effect" st_wrong_in_effect f fd) : FnOk P w K mg base (L2N.CX P w) 3 f fd ["factors", "value"] (tSp K mg V_wrong_in_effect) :=
  fn_ok F sc_wrong_in_effect rfl rfl (fun cdv A outer s H E hr => (ms_cons (ms_if (mt_not (tval (misi .tuple (W.fr "isinstance" (by decide)) (W.fr "tuple" (by decide)) PyProof.Rows.Boot.«tuple» (mv 1)))) (ms_one (ms_ret (me_lst (mac me_non ma_nil)))) ms_nil)
    (ms_cons (sfor [2, 3] (passes_of rfl) (ienum (W.fr "enumerate" (by decide)) (mv 1)) (gt (gc (gv 2 sc_wrong_in_effect.nd) (gc (gv 3 sc_wrong_in_effect.nd) mgs_nil))) (ms_one (ms_if (PW.pt (mw_or (mt_not (tval (mcall (D_is_between W) (hr.mono (by decide)) passesX (mac (mv 3) (mac me_int (mac (me_sub (mv 0) me_int) ma_nil)))))) (mw_or1 (PW.pt (mw_and (tcmp c_gt (mv 2) me_int) (mw_and1 (tcmp c_ge (mxi (mv 1) (me_sub (mv 2) me_int)) (mv 3)))))))) (ms_one (ms_ret (me_lst (mac (mv 2) ma_nil)))) ms_nil)))
    (ms_one (ms_ret (me_lst ma_nil))))))
theorem D_wrong_in_effect (W : Wd P K mg) : FnD P w K mg base 3 "wrong_in_effect" 2 V_wrong_in_effect := by
  obtain ⟨f, fd, F, hm⟩ := W.f_wrong_in_effect
  exact ⟨f, fd, _, ok_wrong_in_effect W F, hm, F.kp, F.binds fun _ _ _ _ _ _ us hl => match us, hl with | [_, _], _ => rfl⟩
theorem sc_is_effect_by : FnScope ["factors", "value"] ["factors", "value"] (defScope st_is_effect_by) := ⟨rfl, rfl, rfl, by decide +kernel, rfl, by decide +kernel, by decide +kernel⟩
def B_is_effect_by : Sm := (sRet (eOp2 fEq (eCallI V_wrong_in_effect (aCons (eVar 0) (aCons (eVar 1) aNil))) (eLst false aNil)))
def V_is_effect_by : Fm := fnV 2 2 B_is_effect_by
theorem ok_is_effect_by (W : Wd P K mg) {f : Addr} {fd : FuncData} (F : Fun K "is_effect_by" "is_effect_by" st_is_effect_by f fd) : FnOk P w K mg base (L2N.CX P w) 4 f fd ["factors", "value"] (tSp K mg V_is_effect_by) :=
  fn_ok F sc_is_effect_by rfl rfl (fun cdv A outer s H E hr => (ms_one (ms_ret (mcmp (c_eq (hu65 hr)) (mcall (D_wrong_in_effect W) (hr.mono (by decide)) passesX (mac (mv 0) (mac (mv 1) ma_nil))) (me_lst ma_nil)))))
theorem D_is_effect_by (W : Wd P K mg) : FnD P w K mg base 4 "is_effect_by" 2 V_is_effect_by := by
  obtain ⟨f, fd, F, hm⟩ := W.f_is_effect_by
  exact ⟨f, fd, _, ok_is_effect_by W F, hm, F.kp, F.binds fun _ _ _ _ _ _ us hl => match us, hl with | [_, _], _ => rfl⟩
theorem sc_check_tried : FnScope ["factors", "value", "index", "each"] ["factors", "value"] (defScope st_check_tried) := ⟨rfl, rfl, rfl, by decide +kernel, rfl, by decide +kernel, by decide +kernel⟩
def B_check_tried : Sm := (sCons (sIf (tOr (tNot (tE (eOp1 (fIsi .tuple) (eVar 1)))) (tNot (tE (eChain fLe fLe (eC (.int 1)) (eArgs (b1 bLen) (aCons (eVar 1) aNil)) (eC (.int 5)))))) sStuck sNil)
    (sFor (iEnum (eVar 1)) (gTup 2 (gsCons (gVar 2) (gsCons (gVar 3) gsNil))) (sIf (tOr (tNot (tE (eCallI V_is_effect_by (aCons (eVar 0) (aCons (eVar 3) aNil))))) (tE (eOp2 fIn (eVar 3) (eSl false (eVar 1) oNone (oSome (eVar 2)))))) sStuck sNil)))
def V_check_tried : Fm := fnV 2 4 B_check_tried
theorem ok_check_tried (W : Wd P K mg) {f : Addr} {fd : FuncData} (F : Fun K "check_tried" "check_tried" st_check_tried f fd) : FnOk P w K mg base (L2N.CX P w) 5 f fd ["factors", "value"] (tSp K mg V_check_tried) :=
  fn_ok F sc_check_tried rfl rfl (fun cdv A outer s H E hr => (ms_cons (ms_if (PW.pt (mw_or (mt_not (tval (misi .tuple (W.fr "isinstance" (by decide)) (W.fr "tuple" (by decide)) PyProof.Rows.Boot.«tuple» (mv 1)))) (mw_or1 (mt_not (tchain c_le c_le me_int (mcb (bo_len) (W.fr "len" (by decide)) PyProof.Rows.Boot.«len» (mac (mv 1) ma_nil)) (mgl W.g_MOST_EFFECTS)))))) (ms_one ms_stuck) ms_nil)
    (ms_one (sfor [2, 3] (passes_of rfl) (ienum (W.fr "enumerate" (by decide)) (mv 1)) (gt (gc (gv 2 sc_check_tried.nd) (gc (gv 3 sc_check_tried.nd) mgs_nil))) (ms_one (ms_if (PW.pt (mw_or (mt_not (tval (mcall (D_is_effect_by W) (hr.mono (by decide)) passesX (mac (mv 0) (mac (mv 3) ma_nil))))) (mw_or1 (tcmp (c_in (hu65 hr)) (mv 3) (me_slice (mv 1) mo_none (mo_some (mv 2))))))) (ms_one ms_stuck) ms_nil))))))
theorem D_check_tried (W : Wd P K mg) : FnD P w K mg base 5 "check_tried" 2 V_check_tried := by
  obtain ⟨f, fd, F, hm⟩ := W.f_check_tried
  exact ⟨f, fd, _, ok_check_tried W F, hm, F.kp, F.binds fun _ _ _ _ _ _ us hl => match us, hl with | [_, _], _ => rfl⟩
theorem sc_sign_in : FnScope ["run", "effect", "found", "factor"] ["run", "effect"] (defScope st_sign_in) := ⟨rfl, rfl, rfl, by decide +kernel, rfl, by decide +kernel, by decide +kernel⟩
def B_sign_in : Sm := (sCons (sAsg (eC (.int 1)) (gVar 2))
    (sCons (sFor (iSeq (eVar 1)) (gVar 3) (sAsg (eOp2 (fMul false) (eVar 2) (eOp2 fIx (eVar 0) (eVar 3))) (gVar 2)))
    (sRet (eVar 2))))
def V_sign_in : Fm := fnV 2 4 B_sign_in
theorem ok_sign_in (W : Wd P K mg) {f : Addr} {fd : FuncData} (F : Fun K "sign_in" "sign_in" st_sign_in f fd) : FnOk P w K mg base (L2N.CX P w) 1 f fd ["run", "effect"] (tSp K mg V_sign_in) :=
  fn_ok F sc_sign_in rfl rfl (fun cdv A outer s H E hr => (ms_cons (sset 2 sc_sign_in.nd me_int)
    (ms_cons (sfor [3] (passes_of rfl) (mi_seq (mv 1)) (gv 3 sc_sign_in.nd) (ms_one (sset 2 sc_sign_in.nd (me_mul (mv 2) (mxi (mv 0) (mv 3))))))
    (ms_one (ms_ret (mv 2))))))
theorem D_sign_in (W : Wd P K mg) : FnD P w K mg base 1 "sign_in" 2 V_sign_in := by
  obtain ⟨f, fd, F, hm⟩ := W.f_sign_in
  exact ⟨f, fd, _, ok_sign_in W F, hm, F.kp, F.binds fun _ _ _ _ _ _ us hl => match us, hl with | [_, _], _ => rfl⟩
theorem sc_trial_by : FnScope ["runs", "effects", "rows", "run", "effect"] ["runs", "effects"] (defScope st_trial_by) := ⟨rfl, rfl, rfl, by decide +kernel, rfl, by decide +kernel, by decide +kernel⟩
def B_trial_by : Sm := (sCons (sAsg (eLc false (iSeq (eVar 0)) (gVar 3) tYesM (eArgs (b1 bTuple) (aCons (eLc false (iSeq (eVar 1)) (gVar 4) tYesM (eTup (aCons (eCallI V_sign_in (aCons (eVar 3) (aCons (eVar 4) aNil))) (aCons (eC (.int 1)) aNil))) [4]) aNil)) [3]) (gVar 2))
    (sRet (eTup (aCons (eArgs (b1 bTuple) (aCons (eVar 2) aNil)) (aCons (eOp2 (fMul false) (eTup (aCons (eC (.tuple [.int 1, .int 1])) aNil)) (eArgs (b1 bLen) (aCons (eVar 0) aNil))) (aCons (eTup aNil) aNil))))))
def V_trial_by : Fm := fnV 2 5 B_trial_by
theorem ok_trial_by (W : Wd P K mg) {f : Addr} {fd : FuncData} (F : Fun K "trial_by" "trial_by" st_trial_by f fd) : FnOk P w K mg base (L2N.CX P w) 2 f fd ["runs", "effects"] (tSp K mg V_trial_by) :=
  fn_ok F sc_trial_by rfl rfl (fun cdv A outer s H E hr => (ms_cons (ssetLc 2 ([("run", 3)] : List (Str × Nat)) sc_trial_by.nd (mi_seq (mv 0)) (fun s H C cl fp => (gv 3 sc_trial_by.nd)) (fun s H C cl fp => mts_nil) (fun s H C cl fp => (mct (bo_tuple) (W.fr "tuple" (by decide)) PyProof.Rows.Boot.«tuple» (mac (mlc ([("effect", 4)] : List (Str × Nat)) sc_trial_by.nd (mi_seq (mv 1)) (fun s H C cl fp => (gv 4 sc_trial_by.nd)) (fun s H C cl fp => mts_nil) (fun s H C cl fp => (me_tup (mac (mcall (D_sign_in W) (hr.mono (by decide)) passLN (mac (mv 3) (mac (mv 4) ma_nil))) (mac me_int ma_nil))))) ma_nil))))
    (ms_one (ms_ret (me_tup (mac (mct (bo_tuple) (W.fr "tuple" (by decide)) PyProof.Rows.Boot.«tuple» (mac (mv 2) ma_nil)) (mac (me_mul (me_tup (mac (mgl W.g_ONE) ma_nil)) (mcb (bo_len) (W.fr "len" (by decide)) PyProof.Rows.Boot.«len» (mac (mv 0) ma_nil))) (mac (me_tup ma_nil) ma_nil))))))))
theorem D_trial_by (W : Wd P K mg) : FnD P w K mg base 2 "trial_by" 2 V_trial_by := by
  obtain ⟨f, fd, F, hm⟩ := W.f_trial_by
  exact ⟨f, fd, _, ok_trial_by W F, hm, F.kp, F.binds fun _ _ _ _ _ _ us hl => match us, hl with | [_, _], _ => rfl⟩
theorem sc_trial_of : FnScope ["runs", "effects"] ["runs", "effects"] (defScope st_trial_of) := ⟨rfl, rfl, rfl, by decide +kernel, rfl, by decide +kernel, by decide +kernel⟩
def B_trial_of : Sm := (sCons (sIf (tAnd (tE (eOp1 (fIsi .tuple) (eVar 0))) (tE (eOp2 fGt (eArgs (b1 bLen) (aCons (eVar 0) aNil)) (eC (.int 10))))) sStuck sNil)
    (sCons (sExpr (eCallI V_check_runs (aCons (eVar 0) aNil)))
    (sCons (sExpr (eCallI V_check_tried (aCons (eArgs (b1 bLen) (aCons (eOp2 fIx (eVar 0) (eC (.int 0))) aNil)) (aCons (eVar 1) aNil))))
    (sRet (eCallI V_trial_by (aCons (eVar 0) (aCons (eVar 1) aNil)))))))
def V_trial_of : Fm := fnV 2 2 B_trial_of
theorem ok_trial_of (W : Wd P K mg) {f : Addr} {fd : FuncData} (F : Fun K "trial_of" "trial_of" st_trial_of f fd) : FnOk P w K mg base (L2N.CX P w) 6 f fd ["runs", "effects"] (tSp K mg V_trial_of) :=
  fn_ok F sc_trial_of rfl rfl (fun cdv A outer s H E hr => (ms_cons (ms_if (PW.pt (mw_and (tval (misi .tuple (W.fr "isinstance" (by decide)) (W.fr "tuple" (by decide)) PyProof.Rows.Boot.«tuple» (mv 0))) (mw_and1 (tcmp c_gt (mcb (bo_len) (W.fr "len" (by decide)) PyProof.Rows.Boot.«len» (mac (mv 0) ma_nil)) (mgl W.g_MOST_TRIED))))) (ms_one ms_stuck) ms_nil)
    (ms_cons (sexpr (mcall (D_check_runs W) (hr.mono (by decide)) passesX (mac (mv 0) ma_nil)))
    (ms_cons (sexpr (mcall (D_check_tried W) (hr.mono (by decide)) passesX (mac (mcb (bo_len) (W.fr "len" (by decide)) PyProof.Rows.Boot.«len» (mac (mxi (mv 0) me_int) ma_nil)) (mac (mv 1) ma_nil))))
    (ms_one (ms_ret (mcall (D_trial_by W) (hr.mono (by decide)) passesX (mac (mv 0) (mac (mv 1) ma_nil)))))))))
theorem D_trial_of (W : Wd P K mg) : FnD P w K mg base 6 "trial_of" 2 V_trial_of := by
  obtain ⟨f, fd, F, hm⟩ := W.f_trial_of
  exact ⟨f, fd, _, ok_trial_of W F, hm, F.kp, F.binds fun _ _ _ _ _ _ us hl => match us, hl with | [_, _], _ => rfl⟩
theorem sc__law_fr : FnScope ["n", "m", "low", "high"] ["n", "m"] (defScope st__law_fr) := ⟨rfl, rfl, rfl, by decide +kernel, rfl, by decide +kernel, by decide +kernel⟩
def B__law_fr : Sm := (sCons (sPar 2 3 (aCons (eArgs (b1 bAbs) (aCons (eVar 1) aNil)) (aCons (eArgs (b1 bAbs) (aCons (eVar 0) aNil)) aNil)))
    (sCons (sWhile (fuV 3) (tE (eOp2 fGt (eVar 3) (eC (.int 0)))) (sPar 2 3 (aCons (eVar 3) (aCons (eOp2 fMod (eArgs (b1 bIntB) (aCons (eVar 2) aNil)) (eVar 3)) aNil))))
    (sRet (eIf (tE (eOp2 fGt (eVar 1) (eC (.int 0)))) (eTup (aCons (eOp2 fDiv (eVar 0) (eVar 2)) (aCons (eOp2 fDiv (eVar 1) (eVar 2)) aNil))) (eTup (aCons (eOp2 fDiv (eOp1 fNeg (eVar 0)) (eVar 2)) (aCons (eOp2 fDiv (eOp1 fNeg (eVar 1)) (eVar 2)) aNil)))))))
def V__law_fr : Fm := fnV 2 4 B__law_fr
theorem ok__law_fr (W : Wd P K mg) {f : Addr} {fd : FuncData} (F : Fun K "_law_fr" "_law_fr" st__law_fr f fd) : FnOk P w K mg base (L2N.CX P w) 1 f fd ["n", "m"] (tSp K mg V__law_fr) :=
  fn_ok F sc__law_fr rfl rfl (fun cdv A outer s H E hr => (ms_cons (spar 2 3 sc__law_fr.nd (mac (mcb (bo_abs) (W.fr "abs" (by decide)) PyProof.Rows.Boot.«abs» (mac (mv 1) ma_nil)) (mac (mcb (bo_abs) (W.fr "abs" (by decide)) PyProof.Rows.Boot.«abs» (mac (mv 0) ma_nil)) ma_nil)))
    (ms_cons (ms_while (passes_of rfl) (tcmp c_gt (mv 3) me_int) (ms_one (spar 2 3 sc__law_fr.nd (mac (mv 3) (mac (me_mod (mct (bo_intB) (W.fr "int" (by decide)) PyProof.Rows.Boot.«int» (mac (mv 2) ma_nil)) (mv 3)) ma_nil)))))
    (ms_one (ms_ret (me_ifE (tcmp c_gt (mv 1) me_int) (me_tup (mac (me_div (mv 0) (mv 2)) (mac (me_div (mv 1) (mv 2)) ma_nil))) (me_tup (mac (me_div (me_neg (mv 0)) (mv 2)) (mac (me_div (me_neg (mv 1)) (mv 2)) ma_nil)))))))))
theorem D__law_fr (W : Wd P K mg) : FnD P w K mg base 1 "_law_fr" 2 V__law_fr := by
  obtain ⟨f, fd, F, hm⟩ := W.f__law_fr
  exact ⟨f, fd, _, ok__law_fr W F, hm, F.kp, F.binds fun _ _ _ _ _ _ us hl => match us, hl with | [_, _], _ => rfl⟩
theorem sc__law_number : FnScope ["pool", "way"] ["pool"] (defScope st__law_number) := ⟨rfl, rfl, rfl, by decide +kernel, rfl, by decide +kernel, by decide +kernel⟩
def B__law_number : Sm := (sCons (sAsg (eCall V__law_below (aCons (eVar 0) (aCons (eC (.int 8)) aNil))) (gVar 1))
    (sCons (sIf (tE (eOp2 fLt (eVar 1) (eC (.int 6)))) (sRet (eTup (aCons (eCall V__law_one (aCons (eVar 0) (aCons (eTup (aCons (eC (.int 0)) (aCons (eC (.int 0)) (aCons (eC (.int 1)) (aCons (eC (.int 1)) (aCons (eOp1 fNeg (eC (.int 1))) (aCons (eC (.int 2)) (aCons (eOp1 fNeg (eC (.int 2))) (aCons (eC (.int 3)) aNil))))))))) aNil))) (aCons (eC (.int 1)) aNil)))) sNil)
    (sRet (eCallI V__law_fr (aCons (eOp2 fSub (eCall V__law_below (aCons (eVar 0) (aCons (eC (.int 13)) aNil))) (eC (.int 6))) (aCons (eOp2 (fAdd false) (eC (.int 1)) (eCall V__law_below (aCons (eVar 0) (aCons (eC (.int 4)) aNil)))) aNil))))))
def V__law_number : Fm := fnV 1 2 B__law_number
theorem ok__law_number (W : Wd P K mg) {f : Addr} {fd : FuncData} (F : Fun K "_law_number" "_law_number" st__law_number f fd) : FnOk P w K mg base (L2N.CX P w) 3 f fd ["pool"] (tSp K mg V__law_number) :=
  fn_ok F sc__law_number rfl rfl (fun cdv A outer s H E hr => (ms_cons (sset 1 sc__law_number.nd (mcallR (D__law_below W) (hr.mono (by decide)) passesX (mac (mv 0) (mac me_int ma_nil))))
    (ms_cons (ms_if (tcmp c_lt (mv 1) me_int) (ms_one (ms_ret (me_tup (mac (mcallR (D__law_one W) (hr.mono (by decide)) passesX (mac (mv 0) (mac (me_tup (mac me_int (mac me_int (mac me_int (mac me_int (mac (me_neg me_int) (mac me_int (mac (me_neg me_int) (mac me_int ma_nil))))))))) ma_nil))) (mac me_int ma_nil))))) ms_nil)
    (ms_one (ms_ret (mcall (D__law_fr W) (hr.mono (by decide)) passesX (mac (me_sub (mcallR (D__law_below W) (hr.mono (by decide)) passesX (mac (mv 0) (mac me_int ma_nil))) me_int) (mac (me_add me_int (mcallR (D__law_below W) (hr.mono (by decide)) passesX (mac (mv 0) (mac me_int ma_nil)))) ma_nil))))))))
theorem D__law_number (W : Wd P K mg) : FnD P w K mg base 3 "_law_number" 1 V__law_number := by
  obtain ⟨f, fd, F, hm⟩ := W.f__law_number
  exact ⟨f, fd, _, ok__law_number W F, hm, F.kp, F.binds fun _ _ _ _ _ _ us hl => match us, hl with | [_], _ => rfl⟩
theorem sc__law_plus : FnScope ["one", "two"] ["one", "two"] (defScope st__law_plus) := ⟨rfl, rfl, rfl, by decide +kernel, rfl, by decide +kernel, by decide +kernel⟩
def B__law_plus : Sm := (sRet (eCallI V__law_fr (aCons (eOp2 (fAdd false) (eOp2 (fMul false) (eOp2 fIx (eVar 0) (eC (.int 0))) (eOp2 fIx (eVar 1) (eC (.int 1)))) (eOp2 (fMul false) (eOp2 fIx (eVar 1) (eC (.int 0))) (eOp2 fIx (eVar 0) (eC (.int 1))))) (aCons (eOp2 (fMul false) (eOp2 fIx (eVar 0) (eC (.int 1))) (eOp2 fIx (eVar 1) (eC (.int 1)))) aNil))))
def V__law_plus : Fm := fnV 2 2 B__law_plus
theorem ok__law_plus (W : Wd P K mg) {f : Addr} {fd : FuncData} (F : Fun K "_law_plus" "_law_plus" st__law_plus f fd) : FnOk P w K mg base (L2N.CX P w) 2 f fd ["one", "two"] (tSp K mg V__law_plus) :=
  fn_ok F sc__law_plus rfl rfl (fun cdv A outer s H E hr => (ms_one (ms_ret (mcall (D__law_fr W) (hr.mono (by decide)) passesX (mac (me_add (me_mul (mxi (mv 0) me_int) (mxi (mv 1) me_int)) (me_mul (mxi (mv 1) me_int) (mxi (mv 0) me_int))) (mac (me_mul (mxi (mv 0) me_int) (mxi (mv 1) me_int)) ma_nil))))))
theorem D__law_plus (W : Wd P K mg) : FnD P w K mg base 2 "_law_plus" 2 V__law_plus := by
  obtain ⟨f, fd, F, hm⟩ := W.f__law_plus
  exact ⟨f, fd, _, ok__law_plus W F, hm, F.kp, F.binds fun _ _ _ _ _ _ us hl => match us, hl with | [_, _], _ => rfl⟩
theorem sc__law_over : FnScope ["one", "two"] ["one", "two"] (defScope st__law_over) := ⟨rfl, rfl, rfl, by decide +kernel, rfl, by decide +kernel, by decide +kernel⟩
def B__law_over : Sm := (sRet (eCallI V__law_fr (aCons (eOp2 (fMul false) (eOp2 fIx (eVar 0) (eC (.int 0))) (eOp2 fIx (eVar 1) (eC (.int 1)))) (aCons (eOp2 (fMul false) (eOp2 fIx (eVar 0) (eC (.int 1))) (eOp2 fIx (eVar 1) (eC (.int 0)))) aNil))))
def V__law_over : Fm := fnV 2 2 B__law_over
theorem ok__law_over (W : Wd P K mg) {f : Addr} {fd : FuncData} (F : Fun K "_law_over" "_law_over" st__law_over f fd) : FnOk P w K mg base (L2N.CX P w) 2 f fd ["one", "two"] (tSp K mg V__law_over) :=
  fn_ok F sc__law_over rfl rfl (fun cdv A outer s H E hr => (ms_one (ms_ret (mcall (D__law_fr W) (hr.mono (by decide)) passesX (mac (me_mul (mxi (mv 0) me_int) (mxi (mv 1) me_int)) (mac (me_mul (mxi (mv 0) me_int) (mxi (mv 1) me_int)) ma_nil))))))
theorem D__law_over (W : Wd P K mg) : FnD P w K mg base 2 "_law_over" 2 V__law_over := by
  obtain ⟨f, fd, F, hm⟩ := W.f__law_over
  exact ⟨f, fd, _, ok__law_over W F, hm, F.kp, F.binds fun _ _ _ _ _ _ us hl => match us, hl with | [_, _], _ => rfl⟩
theorem sc__law_minus : FnScope ["one", "two"] ["one", "two"] (defScope st__law_minus) := ⟨rfl, rfl, rfl, by decide +kernel, rfl, by decide +kernel, by decide +kernel⟩
def B__law_minus : Sm := (sRet (eCallI V__law_fr (aCons (eOp2 fSub (eOp2 (fMul false) (eOp2 fIx (eVar 0) (eC (.int 0))) (eOp2 fIx (eVar 1) (eC (.int 1)))) (eOp2 (fMul false) (eOp2 fIx (eVar 1) (eC (.int 0))) (eOp2 fIx (eVar 0) (eC (.int 1))))) (aCons (eOp2 (fMul false) (eOp2 fIx (eVar 0) (eC (.int 1))) (eOp2 fIx (eVar 1) (eC (.int 1)))) aNil))))
def V__law_minus : Fm := fnV 2 2 B__law_minus
theorem ok__law_minus (W : Wd P K mg) {f : Addr} {fd : FuncData} (F : Fun K "_law_minus" "_law_minus" st__law_minus f fd) : FnOk P w K mg base (L2N.CX P w) 2 f fd ["one", "two"] (tSp K mg V__law_minus) :=
  fn_ok F sc__law_minus rfl rfl (fun cdv A outer s H E hr => (ms_one (ms_ret (mcall (D__law_fr W) (hr.mono (by decide)) passesX (mac (me_sub (me_mul (mxi (mv 0) me_int) (mxi (mv 1) me_int)) (me_mul (mxi (mv 1) me_int) (mxi (mv 0) me_int))) (mac (me_mul (mxi (mv 0) me_int) (mxi (mv 1) me_int)) ma_nil))))))
theorem D__law_minus (W : Wd P K mg) : FnD P w K mg base 2 "_law_minus" 2 V__law_minus := by
  obtain ⟨f, fd, F, hm⟩ := W.f__law_minus
  exact ⟨f, fd, _, ok__law_minus W F, hm, F.kp, F.binds fun _ _ _ _ _ _ us hl => match us, hl with | [_, _], _ => rfl⟩
theorem sc__law_times : FnScope ["one", "two"] ["one", "two"] (defScope st__law_times) := ⟨rfl, rfl, rfl, by decide +kernel, rfl, by decide +kernel, by decide +kernel⟩
def B__law_times : Sm := (sRet (eCallI V__law_fr (aCons (eOp2 (fMul false) (eOp2 fIx (eVar 0) (eC (.int 0))) (eOp2 fIx (eVar 1) (eC (.int 0)))) (aCons (eOp2 (fMul false) (eOp2 fIx (eVar 0) (eC (.int 1))) (eOp2 fIx (eVar 1) (eC (.int 1)))) aNil))))
def V__law_times : Fm := fnV 2 2 B__law_times
theorem ok__law_times (W : Wd P K mg) {f : Addr} {fd : FuncData} (F : Fun K "_law_times" "_law_times" st__law_times f fd) : FnOk P w K mg base (L2N.CX P w) 2 f fd ["one", "two"] (tSp K mg V__law_times) :=
  fn_ok F sc__law_times rfl rfl (fun cdv A outer s H E hr => (ms_one (ms_ret (mcall (D__law_fr W) (hr.mono (by decide)) passesX (mac (me_mul (mxi (mv 0) me_int) (mxi (mv 1) me_int)) (mac (me_mul (mxi (mv 0) me_int) (mxi (mv 1) me_int)) ma_nil))))))
theorem D__law_times (W : Wd P K mg) : FnD P w K mg base 2 "_law_times" 2 V__law_times := by
  obtain ⟨f, fd, F, hm⟩ := W.f__law_times
  exact ⟨f, fd, _, ok__law_times W F, hm, F.kp, F.binds fun _ _ _ _ _ _ us hl => match us, hl with | [_, _], _ => rfl⟩
theorem sc__law_any : FnScope ["rows", "right", "size", "pivots", "at", "k", "some", "j", "found", "each", "i"] ["rows", "right"] (defScope st__law_any) := ⟨rfl, rfl, rfl, by decide +kernel, rfl, by decide +kernel, by decide +kernel⟩
def B__law_any : Sm := (sCons (sPar4 2 0 3 4 (aCons (eArgs (b1 bLen) (aCons (eOp2 fIx (eVar 0) (eC (.int 0))) aNil)) (aCons (eLc true (iRng1 (eArgs (b1 bLen) (aCons (eVar 0) aNil))) (gVar 5) tYesM (eOp2 (fAdd false) (eArgs (b1 (bList false)) (aCons (eOp2 fIx (eVar 0) (eVar 5)) aNil)) (eLst false (aCons (eOp2 fIx (eVar 1) (eVar 5)) aNil))) [5]) (aCons (eLst true aNil) (aCons (eC (.int 0)) aNil)))))
    (sCons (sFor (iRng1 (eVar 2)) (gVar 5) (sCons (sAsg (eLc false (iRng2 (eVar 4) (eArgs (b1 bLen) (aCons (eVar 0) aNil))) (gVar 7) (tE (eOp2 fNe (eOp2 fIx (eOp2 fIx (eOp2 fIx (eVar 0) (eVar 7)) (eVar 5)) (eC (.int 0))) (eC (.int 0)))) (eVar 7) [7]) (gVar 6))
    (sIf (tE (eOp2 fNe (eVar 6) (eLst false aNil))) (sCons (sAsg (eTup (aCons (eOp2 fIx (eVar 0) (eOp2 fIx (eVar 6) (eC (.int 0)))) (aCons (eOp2 fIx (eVar 0) (eVar 4)) aNil))) (gTup 2 (gsCons (gIx (eVar 0) (eVar 4)) (gsCons (gIx (eVar 0) (eOp2 fIx (eVar 6) (eC (.int 0)))) gsNil))))
    (sCons (sAsg (eLc false (iSeq (eOp2 fIx (eVar 0) (eVar 4))) (gVar 9) tYesM (eCallI V__law_over (aCons (eVar 9) (aCons (eOp2 fIx (eOp2 fIx (eVar 0) (eVar 4)) (eVar 5)) aNil))) [9]) (gIx (eVar 0) (eVar 4)))
    (sCons (sFor (iRng1 (eArgs (b1 bLen) (aCons (eVar 0) aNil))) (gVar 7) (sIf (tAnd (tE (eOp2 fNe (eVar 7) (eVar 4))) (tE (eOp2 fNe (eOp2 fIx (eOp2 fIx (eOp2 fIx (eVar 0) (eVar 7)) (eVar 5)) (eC (.int 0))) (eC (.int 0))))) (sAsg (eLc false (iRng1 (eOp2 (fAdd false) (eVar 2) (eC (.int 1)))) (gVar 10) tYesM (eCallI V__law_minus (aCons (eOp2 fIx (eOp2 fIx (eVar 0) (eVar 7)) (eVar 10)) (aCons (eCallI V__law_times (aCons (eOp2 fIx (eOp2 fIx (eVar 0) (eVar 7)) (eVar 5)) (aCons (eOp2 fIx (eOp2 fIx (eVar 0) (eVar 4)) (eVar 10)) aNil))) aNil))) [10]) (gIx (eVar 0) (eVar 7))) sNil))
    (sCons (sExpr (fun ρ => mB ((eVar 3) ρ) fun x => mB (isLs x) fun _ => mB ((eVar 5) ρ) fun y => mApp x y))
    (sAsg (eOp2 (fAdd false) (eVar 4) (eC (.int 1))) (gVar 4)))))) sNil)))
    (sCons (sIf (tE (eOp2 fNe (eLc false (iRng2 (eVar 4) (eArgs (b1 bLen) (aCons (eVar 0) aNil))) (gVar 7) (tE (eOp2 fNe (eOp2 fIx (eOp2 fIx (eOp2 fIx (eVar 0) (eVar 7)) (eVar 2)) (eC (.int 0))) (eC (.int 0)))) (eVar 7) [7]) (eLst false aNil))) (sRet (eC .none)) sNil)
    (sCons (sAsg (eOp2 (fMul true) (eLst false (aCons (eTup (aCons (eC (.int 0)) (aCons (eC (.int 1)) aNil))) aNil)) (eVar 2)) (gVar 8))
    (sCons (sFor (iEnum (eFrz 3)) (gTup 2 (gsCons (gVar 7) (gsCons (gVar 5) gsNil))) (sAsg (eOp2 fIx (eOp2 fIx (eVar 0) (eVar 7)) (eVar 2)) (gIx (eVar 8) (eVar 5))))
    (sRet (eFrz 8)))))))
def V__law_any : Fm := fnV 2 11 B__law_any
theorem ok__law_any (W : Wd P K mg) {f : Addr} {fd : FuncData} (F : Fun K "_law_any" "_law_any" st__law_any f fd) : FnOk P w K mg base (L2N.CX P w) 3 f fd ["rows", "right"] (tSp K mg V__law_any) :=
  fn_ok F sc__law_any rfl rfl (fun cdv A outer s H E hr => (ms_cons (spar4 2 0 3 4 sc__law_any.nd (mac (mcb (bo_len) (W.fr "len" (by decide)) PyProof.Rows.Boot.«len» (mac (mxi (mv 0) me_int) ma_nil)) (mac (mlc ([("k", 5)] : List (Str × Nat)) sc__law_any.nd (irng1 (W.fr "range" (by decide)) (mcb (bo_len) (W.fr "len" (by decide)) PyProof.Rows.Boot.«len» (mac (mv 0) ma_nil))) (fun s H C cl fp => (gv 5 sc__law_any.nd)) (fun s H C cl fp => mts_nil) (fun s H C cl fp => (me_add (mct bo_list (W.fr "list" (by decide)) PyProof.Rows.Boot.«list» (mac (mxi (mv 0) (mv 5)) ma_nil)) (me_lst (mac (mxi (mv 1) (mv 5)) ma_nil))))) (mac (me_lst ma_nil) (mac me_int ma_nil)))))
    (ms_cons (sfor [5] (passes_of rfl) (irng1 (W.fr "range" (by decide)) (mv 2)) (gv 5 sc__law_any.nd) (ms_cons (ssetLc 6 ([("j", 7)] : List (Str × Nat)) sc__law_any.nd (irng2 (W.fr "range" (by decide)) (mv 4) (mcb (bo_len) (W.fr "len" (by decide)) PyProof.Rows.Boot.«len» (mac (mv 0) ma_nil))) (fun s H C cl fp => (gv 7 sc__law_any.nd)) (fun s H C cl fp => (mts_one (tcmp (c_ne (hu65 hr)) (mxi (mxi (mxi (mv 0) (mv 7)) (mv 5)) me_int) me_int))) (fun s H C cl fp => (mv 7)))
    (ms_one (ms_if (tcmp (c_ne (hu65 hr)) (mv 6) (me_lst ma_nil)) (ms_cons (sasg [] (me_tup (mac (mxi (mv 0) (mxi (mv 6) me_int)) (mac (mxi (mv 0) (mv 4)) ma_nil))) (gt (gc (gi (mv 0) (mv 4)) (gc (gi (mv 0) (mxi (mv 6) me_int)) mgs_nil))))
    (ms_cons (sasg [] (mlc ([("each", 9)] : List (Str × Nat)) sc__law_any.nd (mi_seq (mxi (mv 0) (mv 4))) (fun s H C cl fp => (gv 9 sc__law_any.nd)) (fun s H C cl fp => mts_nil) (fun s H C cl fp => (mcall (D__law_over W) (hr.mono (by decide)) passLN (mac (mv 9) (mac (mxi (mxi (mv 0) (mv 4)) (mv 5)) ma_nil))))) (gi (mv 0) (mv 4)))
    (ms_cons (sfor [7] (passes_of rfl) (irng1 (W.fr "range" (by decide)) (mcb (bo_len) (W.fr "len" (by decide)) PyProof.Rows.Boot.«len» (mac (mv 0) ma_nil))) (gv 7 sc__law_any.nd) (ms_one (ms_if (PW.pt (mw_and (tcmp (c_ne (hu65 hr)) (mv 7) (mv 4)) (mw_and1 (tcmp (c_ne (hu65 hr)) (mxi (mxi (mxi (mv 0) (mv 7)) (mv 5)) me_int) me_int)))) (ms_one (sasg [] (mlc ([("i", 10)] : List (Str × Nat)) sc__law_any.nd (irng1 (W.fr "range" (by decide)) (me_add (mv 2) me_int)) (fun s H C cl fp => (gv 10 sc__law_any.nd)) (fun s H C cl fp => mts_nil) (fun s H C cl fp => (mcall (D__law_minus W) (hr.mono (by decide)) passLN (mac (mxi (mxi (mv 0) (mv 7)) (mv 10)) (mac (mcall (D__law_times W) (hr.mono (by decide)) passLN (mac (mxi (mxi (mv 0) (mv 7)) (mv 5)) (mac (mxi (mxi (mv 0) (mv 4)) (mv 10)) ma_nil))) ma_nil))))) (gi (mv 0) (mv 7)))) ms_nil)))
    (ms_cons (sexpr (sapp (mv 3) (mv 5)))
    (ms_one (sset 4 sc__law_any.nd (me_add (mv 4) me_int))))))) ms_nil))))
    (ms_cons (ms_if (tcmp (c_ne (hu65 hr)) (mlc ([("j", 7)] : List (Str × Nat)) sc__law_any.nd (irng2 (W.fr "range" (by decide)) (mv 4) (mcb (bo_len) (W.fr "len" (by decide)) PyProof.Rows.Boot.«len» (mac (mv 0) ma_nil))) (fun s H C cl fp => (gv 7 sc__law_any.nd)) (fun s H C cl fp => (mts_one (tcmp (c_ne (hu65 hr)) (mxi (mxi (mxi (mv 0) (mv 7)) (mv 2)) me_int) me_int))) (fun s H C cl fp => (mv 7))) (me_lst ma_nil)) (ms_one (ms_ret me_non)) ms_nil)
    (ms_cons (sset 8 sc__law_any.nd (me_mul (me_lst (mac (me_tup (mac me_int (mac me_int ma_nil))) ma_nil)) (mv 2)))
    (ms_cons (sfor [7, 5] (passes_of rfl) (ienum (W.fr "enumerate" (by decide)) (mz 3)) (gt (gc (gv 7 sc__law_any.nd) (gc (gv 5 sc__law_any.nd) mgs_nil))) (ms_one (sasg [] (mxi (mxi (mv 0) (mv 7)) (mv 2)) (gi (mv 8) (mv 5)))))
    (ms_one (ms_ret (mz 8)))))))))
theorem D__law_any (W : Wd P K mg) : FnD P w K mg base 3 "_law_any" 2 V__law_any := by
  obtain ⟨f, fd, F, hm⟩ := W.f__law_any
  exact ⟨f, fd, _, ok__law_any W F, hm, F.kp, F.binds fun _ _ _ _ _ _ us hl => match us, hl with | [_, _], _ => rfl⟩
theorem sc__law_sum : FnScope ["some", "found", "each"] ["some"] (defScope st__law_sum) := ⟨rfl, rfl, rfl, by decide +kernel, rfl, by decide +kernel, by decide +kernel⟩
def B__law_sum : Sm := (sCons (sAsg (eTup (aCons (eC (.int 0)) (aCons (eC (.int 1)) aNil))) (gVar 1))
    (sCons (sFor (iSeq (eVar 0)) (gVar 2) (sAsg (eCallI V__law_plus (aCons (eVar 1) (aCons (eVar 2) aNil))) (gVar 1)))
    (sRet (eVar 1))))
def V__law_sum : Fm := fnV 1 3 B__law_sum
theorem ok__law_sum (W : Wd P K mg) {f : Addr} {fd : FuncData} (F : Fun K "_law_sum" "_law_sum" st__law_sum f fd) : FnOk P w K mg base (L2N.CX P w) 3 f fd ["some"] (tSp K mg V__law_sum) :=
  fn_ok F sc__law_sum rfl rfl (fun cdv A outer s H E hr => (ms_cons (sset 1 sc__law_sum.nd (me_tup (mac me_int (mac me_int ma_nil))))
    (ms_cons (sfor [2] (passes_of rfl) (mi_seq (mv 0)) (gv 2 sc__law_sum.nd) (ms_one (sset 1 sc__law_sum.nd (mcall (D__law_plus W) (hr.mono (by decide)) passesX (mac (mv 1) (mac (mv 2) ma_nil))))))
    (ms_one (ms_ret (mv 1))))))
theorem D__law_sum (W : Wd P K mg) : FnD P w K mg base 3 "_law_sum" 1 V__law_sum := by
  obtain ⟨f, fd, F, hm⟩ := W.f__law_sum
  exact ⟨f, fd, _, ok__law_sum W F, hm, F.kp, F.binds fun _ _ _ _ _ _ us hl => match us, hl with | [_], _ => rfl⟩
theorem sc__law_groups : FnScope ["trial", "found", "block", "p"] ["trial"] (defScope st__law_groups) := ⟨rfl, rfl, rfl, by decide +kernel, rfl, by decide +kernel, by decide +kernel⟩
def B__law_groups : Sm := (sCons (sIf (tE (eOp2 fEq (eOp2 fIx (eVar 0) (eC (.int 2))) (eTup aNil))) (sRet (eLst false aNil)) sNil)
    (sCons (sAsg (eLst true aNil) (gVar 1))
    (sCons (sFor (iSeq eStuck) (gVar 2) (sExpr (fun ρ => mB ((eVar 1) ρ) fun x => mB (isLs x) fun _ => mB ((eLc false (iRng1 (eArgs (b1 bLen) (aCons (eOp2 fIx (eVar 0) (eC (.int 0))) aNil))) (gVar 3) (tE (eOp2 fEq (eOp2 fIx (eOp2 fIx (eVar 0) (eC (.int 2))) (eVar 3)) (eVar 2))) (eVar 3) [3]) ρ) fun y => mApp x y)))
    (sRet (eFrz 1)))))
def V__law_groups : Fm := fnV 1 4 B__law_groups
theorem ok__law_groups (W : Wd P K mg) {f : Addr} {fd : FuncData} (F : Fun K "_law_groups" "_law_groups" st__law_groups f fd) : FnOk P w K mg base (L2N.CX P w) 1 f fd ["trial"] (tSp K mg V__law_groups) :=
  fn_ok F sc__law_groups rfl rfl (fun cdv A outer s H E hr => (ms_cons (ms_if (tcmp (c_eq (hu65 hr)) (mxi (mv 0) me_int) (me_tup ma_nil)) (ms_one (ms_ret (me_lst ma_nil))) ms_nil)
    (ms_cons (sset 1 sc__law_groups.nd (me_lst ma_nil))
    (ms_cons (sfor [2] (passes_of rfl) (mi_seq mstk) (gv 2 sc__law_groups.nd) (ms_one (sexpr (sapp (mv 1) (mlc ([("p", 3)] : List (Str × Nat)) sc__law_groups.nd (irng1 (W.fr "range" (by decide)) (mcb (bo_len) (W.fr "len" (by decide)) PyProof.Rows.Boot.«len» (mac (mxi (mv 0) me_int) ma_nil))) (fun s H C cl fp => (gv 3 sc__law_groups.nd)) (fun s H C cl fp => (mts_one (tcmp (c_eq (hu65 hr)) (mxi (mxi (mv 0) me_int) (mv 3)) (mv 2)))) (fun s H C cl fp => (mv 3)))))))
    (ms_one (ms_ret (mz 1)))))))
theorem D__law_groups (W : Wd P K mg) : FnD P w K mg base 1 "_law_groups" 1 V__law_groups := by
  obtain ⟨f, fd, F, hm⟩ := W.f__law_groups
  exact ⟨f, fd, _, ok__law_groups W F, hm, F.kp, F.binds fun _ _ _ _ _ _ us hl => match us, hl with | [_], _ => rfl⟩
theorem sc__law_table : FnScope ["trial", "rows", "spreads", "blocks", "size", "hefts", "found", "i", "line", "j", "total_v", "group", "one", "two", "spread", "p"] ["trial"] (defScope st__law_table) := ⟨rfl, rfl, rfl, by decide +kernel, rfl, by decide +kernel, by decide +kernel⟩
def B__law_table : Sm := (sCons (sAsg (eVar 0) (gTup 3 (gsCons (gVar 1) (gsCons (gVar 2) (gsCons (gVar 3) gsNil)))))
    (sCons (sPar 4 5 (aCons (eArgs (b1 bLen) (aCons (eOp2 fIx (eVar 1) (eC (.int 0))) aNil)) (aCons (eLc false (iSeq (eOp2 fIx (eVar 0) (eC (.int 1)))) (gVar 14) tYesM (eCallI V__law_over (aCons (eTup (aCons (eC (.int 1)) (aCons (eC (.int 1)) aNil))) (aCons (eVar 14) aNil))) [14]) aNil)))
    (sCons (sAsg (eLst true aNil) (gVar 6))
    (sCons (sFor (iRng1 (eVar 4)) (gVar 7) (sCons (sAsg (eLst true aNil) (gVar 8))
    (sCons (sFor (iRng1 (eVar 4)) (gVar 9) (sCons (sAsg (eCallI V__law_sum (aCons (eLc false (iRng1 (eArgs (b1 bLen) (aCons (eVar 1) aNil))) (gVar 15) tYesM (eCallI V__law_times (aCons (eOp2 fIx (eVar 5) (eVar 15)) (aCons (eCallI V__law_times (aCons (eOp2 fIx (eOp2 fIx (eVar 1) (eVar 15)) (eVar 7)) (aCons (eOp2 fIx (eOp2 fIx (eVar 1) (eVar 15)) (eVar 9)) aNil))) aNil))) [15]) aNil)) (gVar 10))
    (sCons (sFor (iSeq (eCallI V__law_groups (aCons (eVar 0) aNil))) (gVar 11) (sCons (sAsg (eCallI V__law_sum (aCons (eLc false (iSeq (eVar 11)) (gVar 15) tYesM (eCallI V__law_times (aCons (eOp2 fIx (eVar 5) (eVar 15)) (aCons (eOp2 fIx (eOp2 fIx (eVar 1) (eVar 15)) (eVar 7)) aNil))) [15]) aNil)) (gVar 12))
    (sCons (sAsg (eCallI V__law_sum (aCons (eLc false (iSeq (eVar 11)) (gVar 15) tYesM (eCallI V__law_times (aCons (eOp2 fIx (eVar 5) (eVar 15)) (aCons (eOp2 fIx (eOp2 fIx (eVar 1) (eVar 15)) (eVar 9)) aNil))) [15]) aNil)) (gVar 13))
    (sAsg (eCallI V__law_minus (aCons (eVar 10) (aCons (eCallI V__law_over (aCons (eCallI V__law_times (aCons (eVar 12) (aCons (eVar 13) aNil))) (aCons (eCallI V__law_sum (aCons (eLc false (iSeq (eVar 11)) (gVar 15) tYesM (eOp2 fIx (eVar 5) (eVar 15)) [15]) aNil)) aNil))) aNil))) (gVar 10)))))
    (sExpr (fun ρ => mB ((eVar 8) ρ) fun x => mB (isLs x) fun _ => mB ((eVar 10) ρ) fun y => mApp x y)))))
    (sExpr (fun ρ => mB ((eVar 6) ρ) fun x => mB (isLs x) fun _ => mB ((eFrz 8) ρ) fun y => mApp x y)))))
    (sRet (eFrz 6))))))
def V__law_table : Fm := fnV 1 16 B__law_table
theorem ok__law_table (W : Wd P K mg) {f : Addr} {fd : FuncData} (F : Fun K "_law_table" "_law_table" st__law_table f fd) : FnOk P w K mg base (L2N.CX P w) 4 f fd ["trial"] (tSp K mg V__law_table) :=
  fn_ok F sc__law_table rfl rfl (fun cdv A outer s H E hr => (ms_cons (sasg [1, 2, 3] (mv 0) (gt (gc (gv 1 sc__law_table.nd) (gc (gv 2 sc__law_table.nd) (gc (gv 3 sc__law_table.nd) mgs_nil)))))
    (ms_cons (sparC 4 5 sc__law_table.nd (mac (mcb (bo_len) (W.fr "len" (by decide)) PyProof.Rows.Boot.«len» (mac (mxi (mv 1) me_int) ma_nil)) (mac (mlc ([("spread", 14)] : List (Str × Nat)) sc__law_table.nd (mi_seq (mxi (mv 0) me_int)) (fun s H C cl fp => (gv 14 sc__law_table.nd)) (fun s H C cl fp => mts_nil) (fun s H C cl fp => (mcall (D__law_over W) (hr.mono (by decide)) passLN (mac (me_tup (mac me_int (mac me_int ma_nil))) (mac (mv 14) ma_nil))))) ma_nil)))
    (ms_cons (sset 6 sc__law_table.nd (me_lst ma_nil))
    (ms_cons (sfor [7] (passes_of rfl) (irng1 (W.fr "range" (by decide)) (mv 4)) (gv 7 sc__law_table.nd) (ms_cons (sset 8 sc__law_table.nd (me_lst ma_nil))
    (ms_cons (sfor [9] (passes_of rfl) (irng1 (W.fr "range" (by decide)) (mv 4)) (gv 9 sc__law_table.nd) (ms_cons (sset 10 sc__law_table.nd (mcall (D__law_sum W) (hr.mono (by decide)) passesX (mac (mlc ([("p", 15)] : List (Str × Nat)) sc__law_table.nd (irng1 (W.fr "range" (by decide)) (mcb (bo_len) (W.fr "len" (by decide)) PyProof.Rows.Boot.«len» (mac (mv 1) ma_nil))) (fun s H C cl fp => (gv 15 sc__law_table.nd)) (fun s H C cl fp => mts_nil) (fun s H C cl fp => (mcall (D__law_times W) (hr.mono (by decide)) passLN (mac (mxi (mv 5) (mv 15)) (mac (mcall (D__law_times W) (hr.mono (by decide)) passLN (mac (mxi (mxi (mv 1) (mv 15)) (mv 7)) (mac (mxi (mxi (mv 1) (mv 15)) (mv 9)) ma_nil))) ma_nil))))) ma_nil)))
    (ms_cons (sfor [11] (passes_of rfl) (mi_seq (mcall (D__law_groups W) (hr.mono (by decide)) passesX (mac (mv 0) ma_nil))) (gv 11 sc__law_table.nd) (ms_cons (sset 12 sc__law_table.nd (mcall (D__law_sum W) (hr.mono (by decide)) passesX (mac (mlc ([("p", 15)] : List (Str × Nat)) sc__law_table.nd (mi_seq (mv 11)) (fun s H C cl fp => (gv 15 sc__law_table.nd)) (fun s H C cl fp => mts_nil) (fun s H C cl fp => (mcall (D__law_times W) (hr.mono (by decide)) passLN (mac (mxi (mv 5) (mv 15)) (mac (mxi (mxi (mv 1) (mv 15)) (mv 7)) ma_nil))))) ma_nil)))
    (ms_cons (sset 13 sc__law_table.nd (mcall (D__law_sum W) (hr.mono (by decide)) passesX (mac (mlc ([("p", 15)] : List (Str × Nat)) sc__law_table.nd (mi_seq (mv 11)) (fun s H C cl fp => (gv 15 sc__law_table.nd)) (fun s H C cl fp => mts_nil) (fun s H C cl fp => (mcall (D__law_times W) (hr.mono (by decide)) passLN (mac (mxi (mv 5) (mv 15)) (mac (mxi (mxi (mv 1) (mv 15)) (mv 9)) ma_nil))))) ma_nil)))
    (ms_one (sset 10 sc__law_table.nd (mcall (D__law_minus W) (hr.mono (by decide)) passesX (mac (mv 10) (mac (mcall (D__law_over W) (hr.mono (by decide)) passesX (mac (mcall (D__law_times W) (hr.mono (by decide)) passesX (mac (mv 12) (mac (mv 13) ma_nil))) (mac (mcall (D__law_sum W) (hr.mono (by decide)) passesX (mac (mlc ([("p", 15)] : List (Str × Nat)) sc__law_table.nd (mi_seq (mv 11)) (fun s H C cl fp => (gv 15 sc__law_table.nd)) (fun s H C cl fp => mts_nil) (fun s H C cl fp => (mxi (mv 5) (mv 15)))) ma_nil)) ma_nil))) ma_nil))))))))
    (ms_one (sexpr (sapp (mv 8) (mv 10)))))))
    (ms_one (sexpr (sapp (mv 6) (mz 8)))))))
    (ms_one (ms_ret (mz 6))))))))
theorem D__law_table (W : Wd P K mg) : FnD P w K mg base 4 "_law_table" 1 V__law_table := by
  obtain ⟨f, fd, F, hm⟩ := W.f__law_table
  exact ⟨f, fd, _, ok__law_table W F, hm, F.kp, F.binds fun _ _ _ _ _ _ us hl => match us, hl with | [_], _ => rfl⟩
theorem sc__law_dot : FnScope ["row", "point", "k"] ["row", "point"] (defScope st__law_dot) := ⟨rfl, rfl, rfl, by decide +kernel, rfl, by decide +kernel, by decide +kernel⟩
def B__law_dot : Sm := (sRet (eCallI V__law_sum (aCons (eLc false (iRng1 (eArgs (b1 bLen) (aCons (eVar 0) aNil))) (gVar 2) tYesM (eCallI V__law_times (aCons (eOp2 fIx (eVar 0) (eVar 2)) (aCons (eOp2 fIx (eVar 1) (eVar 2)) aNil))) [2]) aNil)))
def V__law_dot : Fm := fnV 2 3 B__law_dot
theorem ok__law_dot (W : Wd P K mg) {f : Addr} {fd : FuncData} (F : Fun K "_law_dot" "_law_dot" st__law_dot f fd) : FnOk P w K mg base (L2N.CX P w) 4 f fd ["row", "point"] (tSp K mg V__law_dot) :=
  fn_ok F sc__law_dot rfl rfl (fun cdv A outer s H E hr => (ms_one (ms_ret (mcall (D__law_sum W) (hr.mono (by decide)) passesX (mac (mlc ([("k", 2)] : List (Str × Nat)) sc__law_dot.nd (irng1 (W.fr "range" (by decide)) (mcb (bo_len) (W.fr "len" (by decide)) PyProof.Rows.Boot.«len» (mac (mv 0) ma_nil))) (fun s H C cl fp => (gv 2 sc__law_dot.nd)) (fun s H C cl fp => mts_nil) (fun s H C cl fp => (mcall (D__law_times W) (hr.mono (by decide)) passLN (mac (mxi (mv 0) (mv 2)) (mac (mxi (mv 1) (mv 2)) ma_nil))))) ma_nil)))))
theorem D__law_dot (W : Wd P K mg) : FnD P w K mg base 4 "_law_dot" 2 V__law_dot := by
  obtain ⟨f, fd, F, hm⟩ := W.f__law_dot
  exact ⟨f, fd, _, ok__law_dot W F, hm, F.kp, F.binds fun _ _ _ _ _ _ us hl => match us, hl with | [_, _], _ => rfl⟩
theorem sc__law_weights : FnScope ["trial", "question", "told", "p"] ["trial", "question"] (defScope st__law_weights) := ⟨rfl, rfl, rfl, by decide +kernel, rfl, by decide +kernel, by decide +kernel⟩
def B__law_weights : Sm := (sCons (sAsg (eCallI V__law_any (aCons (eCallI V__law_table (aCons (eVar 0) aNil)) (aCons (eVar 1) aNil))) (gVar 2))
    (sCons (sIf (tE (eOp2 fIsN (eVar 2) (eC .none))) (sRet (eC .none)) sNil)
    (sRet (eLc false (iRng1 (eArgs (b1 bLen) (aCons (eOp2 fIx (eVar 0) (eC (.int 0))) aNil))) (gVar 3) tYesM (eCallI V__law_over (aCons (eCallI V__law_dot (aCons (eOp2 fIx (eOp2 fIx (eVar 0) (eC (.int 0))) (eVar 3)) (aCons (eVar 2) aNil))) (aCons (eOp2 fIx (eOp2 fIx (eVar 0) (eC (.int 1))) (eVar 3)) aNil))) [3]))))
def V__law_weights : Fm := fnV 2 4 B__law_weights
theorem ok__law_weights (W : Wd P K mg) {f : Addr} {fd : FuncData} (F : Fun K "_law_weights" "_law_weights" st__law_weights f fd) : FnOk P w K mg base (L2N.CX P w) 5 f fd ["trial", "question"] (tSp K mg V__law_weights) :=
  fn_ok F sc__law_weights rfl rfl (fun cdv A outer s H E hr => (ms_cons (sset 2 sc__law_weights.nd (mcall (D__law_any W) (hr.mono (by decide)) passesX (mac (mcall (D__law_table W) (hr.mono (by decide)) passesX (mac (mv 0) ma_nil)) (mac (mv 1) ma_nil))))
    (ms_cons (ms_if (tcmp c_is (mv 2) me_non) (ms_one (ms_ret me_non)) ms_nil)
    (ms_one (ms_ret (mlc ([("p", 3)] : List (Str × Nat)) sc__law_weights.nd (irng1 (W.fr "range" (by decide)) (mcb (bo_len) (W.fr "len" (by decide)) PyProof.Rows.Boot.«len» (mac (mxi (mv 0) me_int) ma_nil))) (fun s H C cl fp => (gv 3 sc__law_weights.nd)) (fun s H C cl fp => mts_nil) (fun s H C cl fp => (mcall (D__law_over W) (hr.mono (by decide)) passLN (mac (mcall (D__law_dot W) (hr.mono (by decide)) passLN (mac (mxi (mxi (mv 0) me_int) (mv 3)) (mac (mv 2) ma_nil))) (mac (mxi (mxi (mv 0) me_int) (mv 3)) ma_nil))))))))))
theorem D__law_weights (W : Wd P K mg) : FnD P w K mg base 5 "_law_weights" 2 V__law_weights := by
  obtain ⟨f, fd, F, hm⟩ := W.f__law_weights
  exact ⟨f, fd, _, ok__law_weights W F, hm, F.kp, F.binds fun _ _ _ _ _ _ us hl => match us, hl with | [_, _], _ => rfl⟩
theorem sc__law_trial_of : FnScope ["runs", "effects", "run", "effect"] ["runs", "effects"] (defScope st__law_trial_of) := ⟨rfl, rfl, rfl, by decide +kernel, rfl, by decide +kernel, by decide +kernel⟩
def B__law_trial_of : Sm := (sRet (eTup (aCons (eArgs (b1 bTuple) (aCons (eLc false (iSeq (eVar 0)) (gVar 2) tYesM (eArgs (b1 bTuple) (aCons (eLc false (iSeq (eVar 1)) (gVar 3) tYesM (eTup (aCons (eCallI V__law_sign (aCons (eVar 2) (aCons (eVar 3) aNil))) (aCons (eC (.int 1)) aNil))) [3]) aNil)) [2]) aNil)) (aCons (eOp2 (fMul false) (eTup (aCons (eTup (aCons (eC (.int 1)) (aCons (eC (.int 1)) aNil))) aNil)) (eArgs (b1 bLen) (aCons (eVar 0) aNil))) (aCons (eTup aNil) aNil)))))
def V__law_trial_of : Fm := fnV 2 4 B__law_trial_of
theorem ok__law_trial_of (W : Wd P K mg) {f : Addr} {fd : FuncData} (F : Fun K "_law_trial_of" "_law_trial_of" st__law_trial_of f fd) : FnOk P w K mg base (L2N.CX P w) 2 f fd ["runs", "effects"] (tSp K mg V__law_trial_of) :=
  fn_ok F sc__law_trial_of rfl rfl (fun cdv A outer s H E hr => (ms_one (ms_ret (me_tup (mac (mct (bo_tuple) (W.fr "tuple" (by decide)) PyProof.Rows.Boot.«tuple» (mac (mlc ([("run", 2)] : List (Str × Nat)) sc__law_trial_of.nd (mi_seq (mv 0)) (fun s H C cl fp => (gv 2 sc__law_trial_of.nd)) (fun s H C cl fp => mts_nil) (fun s H C cl fp => (mct (bo_tuple) (W.fr "tuple" (by decide)) PyProof.Rows.Boot.«tuple» (mac (mlc ([("effect", 3)] : List (Str × Nat)) sc__law_trial_of.nd (mi_seq (mv 1)) (fun s H C cl fp => (gv 3 sc__law_trial_of.nd)) (fun s H C cl fp => mts_nil) (fun s H C cl fp => (me_tup (mac (mcall (D__law_sign W) (hr.mono (by decide)) passLN (mac (mv 2) (mac (mv 3) ma_nil))) (mac me_int ma_nil))))) ma_nil)))) ma_nil)) (mac (me_mul (me_tup (mac (me_tup (mac me_int (mac me_int ma_nil))) ma_nil)) (mcb (bo_len) (W.fr "len" (by decide)) PyProof.Rows.Boot.«len» (mac (mv 0) ma_nil))) (mac (me_tup ma_nil) ma_nil)))))))
theorem D__law_trial_of (W : Wd P K mg) : FnD P w K mg base 2 "_law_trial_of" 2 V__law_trial_of := by
  obtain ⟨f, fd, F, hm⟩ := W.f__law_trial_of
  exact ⟨f, fd, _, ok__law_trial_of W F, hm, F.kp, F.binds fun _ _ _ _ _ _ us hl => match us, hl with | [_, _], _ => rfl⟩
theorem sc__law_unit : FnScope ["size", "k", "j"] ["size", "k"] (defScope st__law_unit) := ⟨rfl, rfl, rfl, by decide +kernel, rfl, by decide +kernel, by decide +kernel⟩
def B__law_unit : Sm := (sRet (eArgs (b1 bTuple) (aCons (eLc false (iRng1 (eVar 0)) (gVar 2) tYesM (eTup (aCons (eArgs (b1 bIntB) (aCons (eOp2 fEq (eVar 2) (eVar 1)) aNil)) (aCons (eC (.int 1)) aNil))) [2]) aNil)))
def V__law_unit : Fm := fnV 2 3 B__law_unit
theorem ok__law_unit (W : Wd P K mg) {f : Addr} {fd : FuncData} (F : Fun K "_law_unit" "_law_unit" st__law_unit f fd) : FnOk P w K mg base (L2N.CX P w) 1 f fd ["size", "k"] (tSp K mg V__law_unit) :=
  fn_ok F sc__law_unit rfl rfl (fun cdv A outer s H E hr => (ms_one (ms_ret (mct (bo_tuple) (W.fr "tuple" (by decide)) PyProof.Rows.Boot.«tuple» (mac (mlc ([("j", 2)] : List (Str × Nat)) sc__law_unit.nd (irng1 (W.fr "range" (by decide)) (mv 0)) (fun s H C cl fp => (gv 2 sc__law_unit.nd)) (fun s H C cl fp => mts_nil) (fun s H C cl fp => (me_tup (mac (mct (bo_intB) (W.fr "int" (by decide)) PyProof.Rows.Boot.«int» (mac (mcmp (c_eq (hu65 hr)) (mv 2) (mv 1)) ma_nil)) (mac me_int ma_nil))))) ma_nil)))))
theorem D__law_unit (W : Wd P K mg) : FnD P w K mg base 1 "_law_unit" 2 V__law_unit := by
  obtain ⟨f, fd, F, hm⟩ := W.f__law_unit
  exact ⟨f, fd, _, ok__law_unit W F, hm, F.kp, F.binds fun _ _ _ _ _ _ us hl => match us, hl with | [_, _], _ => rfl⟩
theorem sc__law_mix : FnScope ["runs", "effects", "index", "other", "weights", "run"] ["runs", "effects", "index", "other"] (defScope st__law_mix) := ⟨rfl, rfl, rfl, by decide +kernel, rfl, by decide +kernel, by decide +kernel⟩
def B__law_mix : Sm := (sCons (sAsg (eCallI V__law_weights (aCons (eCallI V__law_trial_of (aCons (eVar 0) (aCons (eVar 1) aNil))) (aCons (eCallI V__law_unit (aCons (eArgs (b1 bLen) (aCons (eVar 1) aNil)) (aCons (eVar 2) aNil))) aNil))) (gVar 4))
    (sRet (eIf (tE (eOp2 fIsN (eVar 4) (eC .none))) (eC .none) (eCallI V__law_dot (aCons (eVar 4) (aCons (eLc false (iSeq (eVar 0)) (gVar 5) tYesM (eTup (aCons (eCallI V__law_sign (aCons (eVar 5) (aCons (eVar 3) aNil))) (aCons (eC (.int 1)) aNil))) [5]) aNil))))))
def V__law_mix : Fm := fnV 4 6 B__law_mix
theorem ok__law_mix (W : Wd P K mg) {f : Addr} {fd : FuncData} (F : Fun K "_law_mix" "_law_mix" st__law_mix f fd) : FnOk P w K mg base (L2N.CX P w) 6 f fd ["runs", "effects", "index", "other"] (tSp K mg V__law_mix) :=
  fn_ok F sc__law_mix rfl rfl (fun cdv A outer s H E hr => (ms_cons (sset 4 sc__law_mix.nd (mcall (D__law_weights W) (hr.mono (by decide)) passesX (mac (mcall (D__law_trial_of W) (hr.mono (by decide)) passesX (mac (mv 0) (mac (mv 1) ma_nil))) (mac (mcall (D__law_unit W) (hr.mono (by decide)) passesX (mac (mcb (bo_len) (W.fr "len" (by decide)) PyProof.Rows.Boot.«len» (mac (mv 1) ma_nil)) (mac (mv 2) ma_nil))) ma_nil))))
    (ms_one (ms_ret (me_ifE (tcmp c_is (mv 4) me_non) me_non (mcall (D__law_dot W) (hr.mono (by decide)) passesX (mac (mv 4) (mac (mlc ([("run", 5)] : List (Str × Nat)) sc__law_mix.nd (mi_seq (mv 0)) (fun s H C cl fp => (gv 5 sc__law_mix.nd)) (fun s H C cl fp => mts_nil) (fun s H C cl fp => (me_tup (mac (mcall (D__law_sign W) (hr.mono (by decide)) passLN (mac (mv 5) (mac (mv 3) ma_nil))) (mac me_int ma_nil))))) ma_nil))))))))
theorem D__law_mix (W : Wd P K mg) : FnD P w K mg base 6 "_law_mix" 4 V__law_mix := by
  obtain ⟨f, fd, F, hm⟩ := W.f__law_mix
  exact ⟨f, fd, _, ok__law_mix W F, hm, F.kp, F.binds fun _ _ _ _ _ _ us hl => match us, hl with | [_, _, _, _], _ => rfl⟩
theorem sc_check_model : FnScope ["runs", "effects"] ["runs", "effects"] (defScope st_check_model) := ⟨rfl, rfl, rfl, by decide +kernel, rfl, by decide +kernel, by decide +kernel⟩
def B_check_model : Sm := (sCons (sIf (tAnd (tE (eOp1 (fIsi .tuple) (eVar 0))) (tE (eOp2 fGt (eArgs (b1 bLen) (aCons (eVar 0) aNil)) (eC (.int 10))))) sStuck sNil)
    (sCons (sExpr (eCallI V_check_runs (aCons (eVar 0) aNil)))
    (sExpr (eCallI V_check_tried (aCons (eArgs (b1 bLen) (aCons (eOp2 fIx (eVar 0) (eC (.int 0))) aNil)) (aCons (eVar 1) aNil))))))
def V_check_model : Fm := fnV 2 2 B_check_model
theorem ok_check_model (W : Wd P K mg) {f : Addr} {fd : FuncData} (F : Fun K "check_model" "check_model" st_check_model f fd) : FnOk P w K mg base (L2N.CX P w) 6 f fd ["runs", "effects"] (tSp K mg V_check_model) :=
  fn_ok F sc_check_model rfl rfl (fun cdv A outer s H E hr => (ms_cons (ms_if (PW.pt (mw_and (tval (misi .tuple (W.fr "isinstance" (by decide)) (W.fr "tuple" (by decide)) PyProof.Rows.Boot.«tuple» (mv 0))) (mw_and1 (tcmp c_gt (mcb (bo_len) (W.fr "len" (by decide)) PyProof.Rows.Boot.«len» (mac (mv 0) ma_nil)) (mgl W.g_MOST_TRIED))))) (ms_one ms_stuck) ms_nil)
    (ms_cons (sexpr (mcall (D_check_runs W) (hr.mono (by decide)) passesX (mac (mv 0) ma_nil)))
    (ms_one (sexpr (mcall (D_check_tried W) (hr.mono (by decide)) passesX (mac (mcb (bo_len) (W.fr "len" (by decide)) PyProof.Rows.Boot.«len» (mac (mxi (mv 0) me_int) ma_nil)) (mac (mv 1) ma_nil))))))))
theorem D_check_model (W : Wd P K mg) : FnD P w K mg base 6 "check_model" 2 V_check_model := by
  obtain ⟨f, fd, F, hm⟩ := W.f_check_model
  exact ⟨f, fd, _, ok_check_model W F, hm, F.kp, F.binds fun _ _ _ _ _ _ us hl => match us, hl with | [_, _], _ => rfl⟩
theorem sc_check_effect : FnScope ["factors", "value", "index"] ["factors", "value"] (defScope st_check_effect) := ⟨rfl, rfl, rfl, by decide +kernel, rfl, by decide +kernel, by decide +kernel⟩
def B_check_effect : Sm := (sFor (iSeq (eCallI V_wrong_in_effect (aCons (eVar 0) (aCons (eVar 1) aNil)))) (gVar 2) sStuck)
def V_check_effect : Fm := fnV 2 3 B_check_effect
theorem ok_check_effect (W : Wd P K mg) {f : Addr} {fd : FuncData} (F : Fun K "check_effect" "check_effect" st_check_effect f fd) : FnOk P w K mg base (L2N.CX P w) 4 f fd ["factors", "value"] (tSp K mg V_check_effect) :=
  fn_ok F sc_check_effect rfl rfl (fun cdv A outer s H E hr => (ms_one (sfor [2] (passes_of rfl) (mi_seq (mcall (D_wrong_in_effect W) (hr.mono (by decide)) passesX (mac (mv 0) (mac (mv 1) ma_nil)))) (gv 2 sc_check_effect.nd) (ms_one ms_stuck))))
theorem D_check_effect (W : Wd P K mg) : FnD P w K mg base 4 "check_effect" 2 V_check_effect := by
  obtain ⟨f, fd, F, hm⟩ := W.f_check_effect
  exact ⟨f, fd, _, ok_check_effect W F, hm, F.kp, F.binds fun _ _ _ _ _ _ us hl => match us, hl with | [_, _], _ => rfl⟩
theorem sc_check_other : FnScope ["runs", "effects", "other"] ["runs", "effects", "other"] (defScope st_check_other) := ⟨rfl, rfl, rfl, by decide +kernel, rfl, by decide +kernel, by decide +kernel⟩
def B_check_other : Sm := (sCons (sExpr (eCallI V_check_effect (aCons (eArgs (b1 bLen) (aCons (eOp2 fIx (eVar 0) (eC (.int 0))) aNil)) (aCons (eVar 2) aNil))))
    (sIf (tE (eOp2 fIn (eVar 2) (eVar 1))) sStuck sNil))
def V_check_other : Fm := fnV 3 3 B_check_other
theorem ok_check_other (W : Wd P K mg) {f : Addr} {fd : FuncData} (F : Fun K "check_other" "check_other" st_check_other f fd) : FnOk P w K mg base (L2N.CX P w) 5 f fd ["runs", "effects", "other"] (tSp K mg V_check_other) :=
  fn_ok F sc_check_other rfl rfl (fun cdv A outer s H E hr => (ms_cons (sexpr (mcall (D_check_effect W) (hr.mono (by decide)) passesX (mac (mcb (bo_len) (W.fr "len" (by decide)) PyProof.Rows.Boot.«len» (mac (mxi (mv 0) me_int) ma_nil)) (mac (mv 2) ma_nil))))
    (ms_one (ms_if (tcmp (c_in (hu65 hr)) (mv 2) (mv 1)) (ms_one ms_stuck) ms_nil))))
theorem D_check_other (W : Wd P K mg) : FnD P w K mg base 5 "check_other" 3 V_check_other := by
  obtain ⟨f, fd, F, hm⟩ := W.f_check_other
  exact ⟨f, fd, _, ok_check_other W F, hm, F.kp, F.binds fun _ _ _ _ _ _ us hl => match us, hl with | [_, _, _], _ => rfl⟩
theorem sc_ratio : FnScope ["top", "low", "part"] ["top", "low"] (defScope st_ratio) := ⟨rfl, rfl, rfl, by decide +kernel, rfl, by decide +kernel, by decide +kernel⟩
def B_ratio : Sm := (sCons (sAsg (eIf (tE (eOp2 fGt (eVar 1) (eC (.int 0)))) (eArgs (b2 bGcd) (aCons (eVar 0) (aCons (eVar 1) aNil))) (eOp1 fNeg (eArgs (b2 bGcd) (aCons (eVar 0) (aCons (eVar 1) aNil))))) (gVar 2))
    (sRet (eTup (aCons (eOp2 fDiv (eVar 0) (eVar 2)) (aCons (eOp2 fDiv (eVar 1) (eVar 2)) aNil)))))
def V_ratio : Fm := fnV 2 3 B_ratio
theorem ok_ratio (W : Wd P K mg) {f : Addr} {fd : FuncData} (F : Fun K "ratio" "ratio" st_ratio f fd) : FnOk P w K mg base (L2N.CX P w) 1 f fd ["top", "low"] (tSp K mg V_ratio) :=
  fn_ok F sc_ratio rfl rfl (fun cdv A outer s H E hr => (ms_cons (sset 2 sc_ratio.nd (me_ifE (tcmp c_gt (mv 1) me_int) (mcg bo_gcd W.gcd (mac (mv 0) (mac (mv 1) ma_nil))) (me_neg (mcg bo_gcd W.gcd (mac (mv 0) (mac (mv 1) ma_nil))))))
    (ms_one (ms_ret (me_tup (mac (me_div (mv 0) (mv 2)) (mac (me_div (mv 1) (mv 2)) ma_nil)))))))
theorem D_ratio (W : Wd P K mg) : FnD P w K mg base 1 "ratio" 2 V_ratio := by
  obtain ⟨f, fd, F, hm⟩ := W.f_ratio
  exact ⟨f, fd, _, ok_ratio W F, hm, F.kp, F.binds fun _ _ _ _ _ _ us hl => match us, hl with | [_, _], _ => rfl⟩
theorem sc_over : FnScope ["one", "two"] ["one", "two"] (defScope st_over) := ⟨rfl, rfl, rfl, by decide +kernel, rfl, by decide +kernel, by decide +kernel⟩
def B_over : Sm := (sRet (eCallI V_ratio (aCons (eOp2 (fMul false) (eOp2 fIx (eVar 0) (eC (.int 0))) (eOp2 fIx (eVar 1) (eC (.int 1)))) (aCons (eOp2 (fMul false) (eOp2 fIx (eVar 0) (eC (.int 1))) (eOp2 fIx (eVar 1) (eC (.int 0)))) aNil))))
def V_over : Fm := fnV 2 2 B_over
theorem ok_over (W : Wd P K mg) {f : Addr} {fd : FuncData} (F : Fun K "over" "over" st_over f fd) : FnOk P w K mg base (L2N.CX P w) 2 f fd ["one", "two"] (tSp K mg V_over) :=
  fn_ok F sc_over rfl rfl (fun cdv A outer s H E hr => (ms_one (ms_ret (mcall (D_ratio W) (hr.mono (by decide)) passesX (mac (me_mul (mxi (mv 0) me_int) (mxi (mv 1) me_int)) (mac (me_mul (mxi (mv 0) me_int) (mxi (mv 1) me_int)) ma_nil))))))
theorem D_over (W : Wd P K mg) : FnD P w K mg base 2 "over" 2 V_over := by
  obtain ⟨f, fd, F, hm⟩ := W.f_over
  exact ⟨f, fd, _, ok_over W F, hm, F.kp, F.binds fun _ _ _ _ _ _ us hl => match us, hl with | [_, _], _ => rfl⟩
theorem sc_plus : FnScope ["one", "two"] ["one", "two"] (defScope st_plus) := ⟨rfl, rfl, rfl, by decide +kernel, rfl, by decide +kernel, by decide +kernel⟩
def B_plus : Sm := (sRet (eCallI V_ratio (aCons (eOp2 (fAdd false) (eOp2 (fMul false) (eOp2 fIx (eVar 0) (eC (.int 0))) (eOp2 fIx (eVar 1) (eC (.int 1)))) (eOp2 (fMul false) (eOp2 fIx (eVar 1) (eC (.int 0))) (eOp2 fIx (eVar 0) (eC (.int 1))))) (aCons (eOp2 (fMul false) (eOp2 fIx (eVar 0) (eC (.int 1))) (eOp2 fIx (eVar 1) (eC (.int 1)))) aNil))))
def V_plus : Fm := fnV 2 2 B_plus
theorem ok_plus (W : Wd P K mg) {f : Addr} {fd : FuncData} (F : Fun K "plus" "plus" st_plus f fd) : FnOk P w K mg base (L2N.CX P w) 2 f fd ["one", "two"] (tSp K mg V_plus) :=
  fn_ok F sc_plus rfl rfl (fun cdv A outer s H E hr => (ms_one (ms_ret (mcall (D_ratio W) (hr.mono (by decide)) passesX (mac (me_add (me_mul (mxi (mv 0) me_int) (mxi (mv 1) me_int)) (me_mul (mxi (mv 1) me_int) (mxi (mv 0) me_int))) (mac (me_mul (mxi (mv 0) me_int) (mxi (mv 1) me_int)) ma_nil))))))
theorem D_plus (W : Wd P K mg) : FnD P w K mg base 2 "plus" 2 V_plus := by
  obtain ⟨f, fd, F, hm⟩ := W.f_plus
  exact ⟨f, fd, _, ok_plus W F, hm, F.kp, F.binds fun _ _ _ _ _ _ us hl => match us, hl with | [_, _], _ => rfl⟩
theorem sc_total : FnScope ["fractions", "found", "each"] ["fractions"] (defScope st_total) := ⟨rfl, rfl, rfl, by decide +kernel, rfl, by decide +kernel, by decide +kernel⟩
def B_total : Sm := (sCons (sAsg (eC (.tuple [.int 0, .int 1])) (gVar 1))
    (sCons (sFor (iSeq (eVar 0)) (gVar 2) (sAsg (eCallI V_plus (aCons (eVar 1) (aCons (eVar 2) aNil))) (gVar 1)))
    (sRet (eVar 1))))
def V_total : Fm := fnV 1 3 B_total
theorem ok_total (W : Wd P K mg) {f : Addr} {fd : FuncData} (F : Fun K "total" "total" st_total f fd) : FnOk P w K mg base (L2N.CX P w) 3 f fd ["fractions"] (tSp K mg V_total) :=
  fn_ok F sc_total rfl rfl (fun cdv A outer s H E hr => (ms_cons (sset 1 sc_total.nd (mgl W.g_ZERO))
    (ms_cons (sfor [2] (passes_of rfl) (mi_seq (mv 0)) (gv 2 sc_total.nd) (ms_one (sset 1 sc_total.nd (mcall (D_plus W) (hr.mono (by decide)) passesX (mac (mv 1) (mac (mv 2) ma_nil))))))
    (ms_one (ms_ret (mv 1))))))
theorem D_total (W : Wd P K mg) : FnD P w K mg base 3 "total" 1 V_total := by
  obtain ⟨f, fd, F, hm⟩ := W.f_total
  exact ⟨f, fd, _, ok_total W F, hm, F.kp, F.binds fun _ _ _ _ _ _ us hl => match us, hl with | [_], _ => rfl⟩
theorem sc_times : FnScope ["one", "two"] ["one", "two"] (defScope st_times) := ⟨rfl, rfl, rfl, by decide +kernel, rfl, by decide +kernel, by decide +kernel⟩
def B_times : Sm := (sRet (eCallI V_ratio (aCons (eOp2 (fMul false) (eOp2 fIx (eVar 0) (eC (.int 0))) (eOp2 fIx (eVar 1) (eC (.int 0)))) (aCons (eOp2 (fMul false) (eOp2 fIx (eVar 0) (eC (.int 1))) (eOp2 fIx (eVar 1) (eC (.int 1)))) aNil))))
def V_times : Fm := fnV 2 2 B_times
theorem ok_times (W : Wd P K mg) {f : Addr} {fd : FuncData} (F : Fun K "times" "times" st_times f fd) : FnOk P w K mg base (L2N.CX P w) 2 f fd ["one", "two"] (tSp K mg V_times) :=
  fn_ok F sc_times rfl rfl (fun cdv A outer s H E hr => (ms_one (ms_ret (mcall (D_ratio W) (hr.mono (by decide)) passesX (mac (me_mul (mxi (mv 0) me_int) (mxi (mv 1) me_int)) (mac (me_mul (mxi (mv 0) me_int) (mxi (mv 1) me_int)) ma_nil))))))
theorem D_times (W : Wd P K mg) : FnD P w K mg base 2 "times" 2 V_times := by
  obtain ⟨f, fd, F, hm⟩ := W.f_times
  exact ⟨f, fd, _, ok_times W F, hm, F.kp, F.binds fun _ _ _ _ _ _ us hl => match us, hl with | [_, _], _ => rfl⟩
theorem sc_dot : FnScope ["one", "two", "here", "there"] ["one", "two"] (defScope st_dot) := ⟨rfl, rfl, rfl, by decide +kernel, rfl, by decide +kernel, by decide +kernel⟩
def B_dot : Sm := (sRet (eCallI V_total (aCons (eLc false (iZip (eVar 0) (eVar 1)) (gTup 2 (gsCons (gVar 2) (gsCons (gVar 3) gsNil))) tYesM (eCallI V_times (aCons (eVar 2) (aCons (eVar 3) aNil))) [2, 3]) aNil)))
def V_dot : Fm := fnV 2 4 B_dot
theorem ok_dot (W : Wd P K mg) {f : Addr} {fd : FuncData} (F : Fun K "dot" "dot" st_dot f fd) : FnOk P w K mg base (L2N.CX P w) 4 f fd ["one", "two"] (tSp K mg V_dot) :=
  fn_ok F sc_dot rfl rfl (fun cdv A outer s H E hr => (ms_one (ms_ret (mcall (D_total W) (hr.mono (by decide)) passesX (mac (mlc ([("here", 2), ("there", 3)] : List (Str × Nat)) sc_dot.nd (izip (W.fr "zip" (by decide)) (mv 0) (mv 1)) (fun s H C cl fp => (gt (gc (gv 2 sc_dot.nd) (gc (gv 3 sc_dot.nd) mgs_nil)))) (fun s H C cl fp => mts_nil) (fun s H C cl fp => (mcall (D_times W) (hr.mono (by decide)) passLN (mac (mv 2) (mac (mv 3) ma_nil))))) ma_nil)))))
theorem D_dot (W : Wd P K mg) : FnD P w K mg base 4 "dot" 2 V_dot := by
  obtain ⟨f, fd, F, hm⟩ := W.f_dot
  exact ⟨f, fd, _, ok_dot W F, hm, F.kp, F.binds fun _ _ _ _ _ _ us hl => match us, hl with | [_, _], _ => rfl⟩
theorem sc_yield_by : FnScope ["trial", "plot", "world", "found"] ["trial", "plot", "world"] (defScope st_yield_by) := ⟨rfl, rfl, rfl, by decide +kernel, rfl, by decide +kernel, by decide +kernel⟩
def B_yield_by : Sm := (sCons (sAsg (eCallI V_dot (aCons (eOp2 fIx (eOp2 fIx (eVar 0) (eC (.int 0))) (eVar 1)) (aCons (eOp2 fIx (eVar 2) (eC (.int 0))) aNil))) (gVar 3))
    (sRet (eIf (tE (eOp2 fNe (eOp2 fIx (eVar 0) (eC (.int 2))) (eTup aNil))) (eCallI V_plus (aCons (eVar 3) (aCons (eOp2 fIx (eOp2 fIx (eVar 2) (eC (.int 1))) (eOp2 fIx (eOp2 fIx (eVar 0) (eC (.int 2))) (eVar 1))) aNil))) (eVar 3))))
def V_yield_by : Fm := fnV 3 4 B_yield_by
theorem ok_yield_by (W : Wd P K mg) {f : Addr} {fd : FuncData} (F : Fun K "yield_by" "yield_by" st_yield_by f fd) : FnOk P w K mg base (L2N.CX P w) 5 f fd ["trial", "plot", "world"] (tSp K mg V_yield_by) :=
  fn_ok F sc_yield_by rfl rfl (fun cdv A outer s H E hr => (ms_cons (sset 3 sc_yield_by.nd (mcall (D_dot W) (hr.mono (by decide)) passesX (mac (mxi (mxi (mv 0) me_int) (mv 1)) (mac (mxi (mv 2) me_int) ma_nil))))
    (ms_one (ms_ret (me_ifE (tcmp (c_ne (hu65 hr)) (mxi (mv 0) me_int) (me_tup ma_nil)) (mcall (D_plus W) (hr.mono (by decide)) passesX (mac (mv 3) (mac (mxi (mxi (mv 2) me_int) (mxi (mxi (mv 0) me_int) (mv 1))) ma_nil))) (mv 3))))))
theorem D_yield_by (W : Wd P K mg) : FnD P w K mg base 5 "yield_by" 3 V_yield_by := by
  obtain ⟨f, fd, F, hm⟩ := W.f_yield_by
  exact ⟨f, fd, _, ok_yield_by W F, hm, F.kp, F.binds fun _ _ _ _ _ _ us hl => match us, hl with | [_, _, _], _ => rfl⟩
theorem sc_many_plots : FnScope ["trial"] ["trial"] (defScope st_many_plots) := ⟨rfl, rfl, rfl, by decide +kernel, rfl, by decide +kernel, by decide +kernel⟩
def B_many_plots : Sm := (sRet (eArgs (b1 bLen) (aCons (eOp2 fIx (eVar 0) (eC (.int 0))) aNil)))
def V_many_plots : Fm := fnV 1 1 B_many_plots
theorem ok_many_plots (W : Wd P K mg) {f : Addr} {fd : FuncData} (F : Fun K "many_plots" "many_plots" st_many_plots f fd) : FnOk P w K mg base (L2N.CX P w) 1 f fd ["trial"] (tSp K mg V_many_plots) :=
  fn_ok F sc_many_plots rfl rfl (fun cdv A outer s H E hr => (ms_one (ms_ret (mcb (bo_len) (W.fr "len" (by decide)) PyProof.Rows.Boot.«len» (mac (mxi (mv 0) me_int) ma_nil)))))
theorem D_many_plots (W : Wd P K mg) : FnD P w K mg base 1 "many_plots" 1 V_many_plots := by
  obtain ⟨f, fd, F, hm⟩ := W.f_many_plots
  exact ⟨f, fd, _, ok_many_plots W F, hm, F.kp, F.binds fun _ _ _ _ _ _ us hl => match us, hl with | [_], _ => rfl⟩
theorem sc_yields_by : FnScope ["trial", "world", "plot"] ["trial", "world"] (defScope st_yields_by) := ⟨rfl, rfl, rfl, by decide +kernel, rfl, by decide +kernel, by decide +kernel⟩
def B_yields_by : Sm := (sRet (eArgs (b1 bTuple) (aCons (eLc false (iRng1 (eCallI V_many_plots (aCons (eVar 0) aNil))) (gVar 2) tYesM (eCallI V_yield_by (aCons (eVar 0) (aCons (eVar 2) (aCons (eVar 1) aNil)))) [2]) aNil)))
def V_yields_by : Fm := fnV 2 3 B_yields_by
theorem ok_yields_by (W : Wd P K mg) {f : Addr} {fd : FuncData} (F : Fun K "yields_by" "yields_by" st_yields_by f fd) : FnOk P w K mg base (L2N.CX P w) 6 f fd ["trial", "world"] (tSp K mg V_yields_by) :=
  fn_ok F sc_yields_by rfl rfl (fun cdv A outer s H E hr => (ms_one (ms_ret (mct (bo_tuple) (W.fr "tuple" (by decide)) PyProof.Rows.Boot.«tuple» (mac (mlc ([("plot", 2)] : List (Str × Nat)) sc_yields_by.nd (irng1 (W.fr "range" (by decide)) (mcall (D_many_plots W) (hr.mono (by decide)) passesX (mac (mv 0) ma_nil))) (fun s H C cl fp => (gv 2 sc_yields_by.nd)) (fun s H C cl fp => mts_nil) (fun s H C cl fp => (mcall (D_yield_by W) (hr.mono (by decide)) passLN (mac (mv 0) (mac (mv 2) (mac (mv 1) ma_nil)))))) ma_nil)))))
theorem D_yields_by (W : Wd P K mg) : FnD P w K mg base 6 "yields_by" 2 V_yields_by := by
  obtain ⟨f, fd, F, hm⟩ := W.f_yields_by
  exact ⟨f, fd, _, ok_yields_by W F, hm, F.kp, F.binds fun _ _ _ _ _ _ us hl => match us, hl with | [_, _], _ => rfl⟩
theorem sc_loaded : FnScope ["trial", "world", "each", "spread"] ["trial", "world"] (defScope st_loaded) := ⟨rfl, rfl, rfl, by decide +kernel, rfl, by decide +kernel, by decide +kernel⟩
def B_loaded : Sm := (sRet (eArgs (b1 bTuple) (aCons (eLc false (iZip (eCallI V_yields_by (aCons (eVar 0) (aCons (eVar 1) aNil))) (eOp2 fIx (eVar 0) (eC (.int 1)))) (gTup 2 (gsCons (gVar 2) (gsCons (gVar 3) gsNil))) tYesM (eCallI V_over (aCons (eVar 2) (aCons (eVar 3) aNil))) [2, 3]) aNil)))
def V_loaded : Fm := fnV 2 4 B_loaded
theorem ok_loaded (W : Wd P K mg) {f : Addr} {fd : FuncData} (F : Fun K "loaded" "loaded" st_loaded f fd) : FnOk P w K mg base (L2N.CX P w) 7 f fd ["trial", "world"] (tSp K mg V_loaded) :=
  fn_ok F sc_loaded rfl rfl (fun cdv A outer s H E hr => (ms_one (ms_ret (mct (bo_tuple) (W.fr "tuple" (by decide)) PyProof.Rows.Boot.«tuple» (mac (mlc ([("each", 2), ("spread", 3)] : List (Str × Nat)) sc_loaded.nd (izip (W.fr "zip" (by decide)) (mcall (D_yields_by W) (hr.mono (by decide)) passesX (mac (mv 0) (mac (mv 1) ma_nil))) (mxi (mv 0) me_int)) (fun s H C cl fp => (gt (gc (gv 2 sc_loaded.nd) (gc (gv 3 sc_loaded.nd) mgs_nil)))) (fun s H C cl fp => mts_nil) (fun s H C cl fp => (mcall (D_over W) (hr.mono (by decide)) passLN (mac (mv 2) (mac (mv 3) ma_nil))))) ma_nil)))))
theorem D_loaded (W : Wd P K mg) : FnD P w K mg base 7 "loaded" 2 V_loaded := by
  obtain ⟨f, fd, F, hm⟩ := W.f_loaded
  exact ⟨f, fd, _, ok_loaded W F, hm, F.kp, F.binds fun _ _ _ _ _ _ us hl => match us, hl with | [_, _], _ => rfl⟩
theorem sc_minus : FnScope ["one", "two"] ["one", "two"] (defScope st_minus) := ⟨rfl, rfl, rfl, by decide +kernel, rfl, by decide +kernel, by decide +kernel⟩
def B_minus : Sm := (sRet (eCallI V_ratio (aCons (eOp2 fSub (eOp2 (fMul false) (eOp2 fIx (eVar 0) (eC (.int 0))) (eOp2 fIx (eVar 1) (eC (.int 1)))) (eOp2 (fMul false) (eOp2 fIx (eVar 1) (eC (.int 0))) (eOp2 fIx (eVar 0) (eC (.int 1))))) (aCons (eOp2 (fMul false) (eOp2 fIx (eVar 0) (eC (.int 1))) (eOp2 fIx (eVar 1) (eC (.int 1)))) aNil))))
def V_minus : Fm := fnV 2 2 B_minus
theorem ok_minus (W : Wd P K mg) {f : Addr} {fd : FuncData} (F : Fun K "minus" "minus" st_minus f fd) : FnOk P w K mg base (L2N.CX P w) 2 f fd ["one", "two"] (tSp K mg V_minus) :=
  fn_ok F sc_minus rfl rfl (fun cdv A outer s H E hr => (ms_one (ms_ret (mcall (D_ratio W) (hr.mono (by decide)) passesX (mac (me_sub (me_mul (mxi (mv 0) me_int) (mxi (mv 1) me_int)) (me_mul (mxi (mv 1) me_int) (mxi (mv 0) me_int))) (mac (me_mul (mxi (mv 0) me_int) (mxi (mv 1) me_int)) ma_nil))))))
theorem D_minus (W : Wd P K mg) : FnD P w K mg base 2 "minus" 2 V_minus := by
  obtain ⟨f, fd, F, hm⟩ := W.f_minus
  exact ⟨f, fd, _, ok_minus W F, hm, F.kp, F.binds fun _ _ _ _ _ _ us hl => match us, hl with | [_, _], _ => rfl⟩
theorem sc_without_column : FnScope ["row", "lead", "column", "by", "here", "there"] ["row", "lead", "column"] (defScope st_without_column) := ⟨rfl, rfl, rfl, by decide +kernel, rfl, by decide +kernel, by decide +kernel⟩
def B_without_column : Sm := (sCons (sAsg (eOp2 fIx (eVar 0) (eVar 2)) (gVar 3))
    (sRet (eIf (tE (eOp2 fEq (eVar 3) (eC (.tuple [.int 0, .int 1])))) (eVar 0) (eLc false (iZip (eVar 0) (eVar 1)) (gTup 2 (gsCons (gVar 4) (gsCons (gVar 5) gsNil))) tYesM (eCallI V_minus (aCons (eVar 4) (aCons (eCallI V_times (aCons (eVar 3) (aCons (eVar 5) aNil))) aNil))) [4, 5]))))
def V_without_column : Fm := fnV 3 6 B_without_column
theorem ok_without_column (W : Wd P K mg) {f : Addr} {fd : FuncData} (F : Fun K "without_column" "without_column" st_without_column f fd) : FnOk P w K mg base (L2N.CX P w) 3 f fd ["row", "lead", "column"] (tSp K mg V_without_column) :=
  fn_ok F sc_without_column rfl rfl (fun cdv A outer s H E hr => (ms_cons (sset 3 sc_without_column.nd (mxi (mv 0) (mv 2)))
    (ms_one (ms_ret (me_ifE (tcmp (c_eq (hu65 hr)) (mv 3) (mgl W.g_ZERO)) (mv 0) (mlc ([("here", 4), ("there", 5)] : List (Str × Nat)) sc_without_column.nd (izip (W.fr "zip" (by decide)) (mv 0) (mv 1)) (fun s H C cl fp => (gt (gc (gv 4 sc_without_column.nd) (gc (gv 5 sc_without_column.nd) mgs_nil)))) (fun s H C cl fp => mts_nil) (fun s H C cl fp => (mcall (D_minus W) (hr.mono (by decide)) passLN (mac (mv 4) (mac (mcall (D_times W) (hr.mono (by decide)) passLN (mac (mv 3) (mac (mv 5) ma_nil))) ma_nil))))))))))
theorem D_without_column (W : Wd P K mg) : FnD P w K mg base 3 "without_column" 3 V_without_column := by
  obtain ⟨f, fd, F, hm⟩ := W.f_without_column
  exact ⟨f, fd, _, ok_without_column W F, hm, F.kp, F.binds fun _ _ _ _ _ _ us hl => match us, hl with | [_, _, _], _ => rfl⟩
theorem sc_brought : FnScope ["table", "many", "rows", "leads", "column", "done", "spots", "lead", "row", "at", "each"] ["table", "many"] (defScope st_brought) := ⟨rfl, rfl, rfl, by decide +kernel, rfl, by decide +kernel, by decide +kernel⟩
def B_brought : Sm := (sCons (sPar 2 3 (aCons (eLc true (iSeq (eVar 0)) (gVar 8) tYesM (eArgs (b1 (bList false)) (aCons (eVar 8) aNil)) [8]) (aCons (eLst true aNil) aNil)))
    (sCons (sFor (iRng1 (eVar 1)) (gVar 4) (sCons (sAsg (eArgs (b1 bLen) (aCons (eVar 3) aNil)) (gVar 5))
    (sCons (sAsg (eLc false (iRng2 (eVar 5) (eArgs (b1 bLen) (aCons (eVar 2) aNil))) (gVar 9) (tE (eOp2 fNe (eOp2 fIx (eOp2 fIx (eVar 2) (eVar 9)) (eVar 4)) (eC (.tuple [.int 0, .int 1])))) (eVar 9) [9]) (gVar 6))
    (sIf (tE (eOp2 fNe (eVar 6) (eLst false aNil))) (sCons (sAsg (eTup (aCons (eOp2 fIx (eVar 2) (eOp2 fIx (eVar 6) (eC (.int 0)))) (aCons (eOp2 fIx (eVar 2) (eVar 5)) aNil))) (gTup 2 (gsCons (gIx (eVar 2) (eVar 5)) (gsCons (gIx (eVar 2) (eOp2 fIx (eVar 6) (eC (.int 0)))) gsNil))))
    (sCons (sAsg (eLc false (iSeq (eOp2 fIx (eVar 2) (eVar 5))) (gVar 10) tYesM (eCallI V_over (aCons (eVar 10) (aCons (eOp2 fIx (eOp2 fIx (eVar 2) (eVar 5)) (eVar 4)) aNil))) [10]) (gVar 7))
    (sCons (sAsg (eLc true (iEnum (eFrz 2)) (gTup 2 (gsCons (gVar 9) (gsCons (gVar 8) gsNil))) tYesM (eIf (tE (eOp2 fEq (eVar 9) (eVar 5))) (eVar 7) (eCallI V_without_column (aCons (eVar 8) (aCons (eVar 7) (aCons (eVar 4) aNil))))) [9, 8]) (gVar 2))
    (sExpr (fun ρ => mB ((eVar 3) ρ) fun x => mB (isLs x) fun _ => mB ((eVar 4) ρ) fun y => mApp x y))))) sNil))))
    (sRet (eTup (aCons (eFrz 2) (aCons (eFrz 3) aNil))))))
def V_brought : Fm := fnV 2 11 B_brought
theorem ok_brought (W : Wd P K mg) {f : Addr} {fd : FuncData} (F : Fun K "brought" "brought" st_brought f fd) : FnOk P w K mg base (L2N.CX P w) 4 f fd ["table", "many"] (tSp K mg V_brought) :=
  fn_ok F sc_brought rfl rfl (fun cdv A outer s H E hr => (ms_cons (sparC 2 3 sc_brought.nd (mac (mlc ([("row", 8)] : List (Str × Nat)) sc_brought.nd (mi_seq (mv 0)) (fun s H C cl fp => (gv 8 sc_brought.nd)) (fun s H C cl fp => mts_nil) (fun s H C cl fp => (mct bo_list (W.fr "list" (by decide)) PyProof.Rows.Boot.«list» (mac (mv 8) ma_nil)))) (mac (me_lst ma_nil) ma_nil)))
    (ms_cons (sfor [4] (passes_of rfl) (irng1 (W.fr "range" (by decide)) (mv 1)) (gv 4 sc_brought.nd) (ms_cons (sset 5 sc_brought.nd (mcb (bo_len) (W.fr "len" (by decide)) PyProof.Rows.Boot.«len» (mac (mv 3) ma_nil)))
    (ms_cons (ssetLc 6 ([("at", 9)] : List (Str × Nat)) sc_brought.nd (irng2 (W.fr "range" (by decide)) (mv 5) (mcb (bo_len) (W.fr "len" (by decide)) PyProof.Rows.Boot.«len» (mac (mv 2) ma_nil))) (fun s H C cl fp => (gv 9 sc_brought.nd)) (fun s H C cl fp => (mts_one (tcmp (c_ne (hu65 hr)) (mxi (mxi (mv 2) (mv 9)) (mv 4)) (mgl W.g_ZERO)))) (fun s H C cl fp => (mv 9)))
    (ms_one (ms_if (tcmp (c_ne (hu65 hr)) (mv 6) (me_lst ma_nil)) (ms_cons (sasg [] (me_tup (mac (mxi (mv 2) (mxi (mv 6) me_int)) (mac (mxi (mv 2) (mv 5)) ma_nil))) (gt (gc (gi (mv 2) (mv 5)) (gc (gi (mv 2) (mxi (mv 6) me_int)) mgs_nil))))
    (ms_cons (sset 7 sc_brought.nd (mlc ([("each", 10)] : List (Str × Nat)) sc_brought.nd (mi_seq (mxi (mv 2) (mv 5))) (fun s H C cl fp => (gv 10 sc_brought.nd)) (fun s H C cl fp => mts_nil) (fun s H C cl fp => (mcall (D_over W) (hr.mono (by decide)) passLN (mac (mv 10) (mac (mxi (mxi (mv 2) (mv 5)) (mv 4)) ma_nil))))))
    (ms_cons (sset 2 sc_brought.nd (mlc ([("at", 9), ("row", 8)] : List (Str × Nat)) sc_brought.nd (ienum (W.fr "enumerate" (by decide)) (mz 2)) (fun s H C cl fp => (gt (gc (gv 9 sc_brought.nd) (gc (gv 8 sc_brought.nd) mgs_nil)))) (fun s H C cl fp => mts_nil) (fun s H C cl fp => (me_ifE (tcmp (c_eq (hu65 hr)) (mv 9) (mv 5)) (mv 7) (mcall (D_without_column W) (hr.mono (by decide)) passLN (mac (mv 8) (mac (mv 7) (mac (mv 4) ma_nil))))))))
    (ms_one (sexpr (sapp (mv 3) (mv 4))))))) ms_nil)))))
    (ms_one (ms_ret (me_tup (mac (mz 2) (mac (mz 3) ma_nil))))))))
theorem D_brought (W : Wd P K mg) : FnD P w K mg base 4 "brought" 2 V_brought := by
  obtain ⟨f, fd, F, hm⟩ := W.f_brought
  exact ⟨f, fd, _, ok_brought W F, hm, F.kp, F.binds fun _ _ _ _ _ _ us hl => match us, hl with | [_, _], _ => rfl⟩
theorem sc_some_answer : FnScope ["table", "rights", "many", "rows", "leads", "found", "row", "column", "right"] ["table", "rights"] (defScope st_some_answer) := ⟨rfl, rfl, rfl, by decide +kernel, rfl, by decide +kernel, by decide +kernel⟩
def B_some_answer : Sm := (sCons (sAsg (eArgs (b1 bLen) (aCons (eOp2 fIx (eVar 0) (eC (.int 0))) aNil)) (gVar 2))
    (sCons (sAsg (eCallI V_brought (aCons (eLc false (iZip (eVar 0) (eVar 1)) (gTup 2 (gsCons (gVar 6) (gsCons (gVar 8) gsNil))) tYesM (eLst false (aStar (eVar 6) (aCons (eVar 8) aNil))) [6, 8]) (aCons (eVar 2) aNil))) (gTup 2 (gsCons (gVar 3) (gsCons (gVar 4) gsNil))))
    (sCons (sIf (tE (eArgs (b1 bAny) (aCons (eLc false (iSeq (eSl false (eVar 3) (oSome (eArgs (b1 bLen) (aCons (eVar 4) aNil))) oNone)) (gVar 6) tYesM (eOp2 fNe (eOp2 fIx (eVar 6) (eVar 2)) (eC (.tuple [.int 0, .int 1]))) [6]) aNil))) (sRet (eLst false aNil)) sNil)
    (sCons (sAsg (eOp2 (fMul true) (eLst false (aCons (eC (.tuple [.int 0, .int 1])) aNil)) (eVar 2)) (gVar 5))
    (sCons (sFor (iZip (eVar 3) (eVar 4)) (gTup 2 (gsCons (gVar 6) (gsCons (gVar 7) gsNil))) (sAsg (eOp2 fIx (eVar 6) (eVar 2)) (gIx (eVar 5) (eVar 7))))
    (sRet (eLst false (aCons (eFrz 5) aNil))))))))
def V_some_answer : Fm := fnV 2 9 B_some_answer
theorem ok_some_answer (W : Wd P K mg) {f : Addr} {fd : FuncData} (F : Fun K "some_answer" "some_answer" st_some_answer f fd) : FnOk P w K mg base (L2N.CX P w) 5 f fd ["table", "rights"] (tSp K mg V_some_answer) :=
  fn_ok F sc_some_answer rfl rfl (fun cdv A outer s H E hr => (ms_cons (sset 2 sc_some_answer.nd (mcb (bo_len) (W.fr "len" (by decide)) PyProof.Rows.Boot.«len» (mac (mxi (mv 0) me_int) ma_nil)))
    (ms_cons (sasg [3, 4] (mcall (D_brought W) (hr.mono (by decide)) passesX (mac (mlc ([("row", 6), ("right", 8)] : List (Str × Nat)) sc_some_answer.nd (izip (W.fr "zip" (by decide)) (mv 0) (mv 1)) (fun s H C cl fp => (gt (gc (gv 6 sc_some_answer.nd) (gc (gv 8 sc_some_answer.nd) mgs_nil)))) (fun s H C cl fp => mts_nil) (fun s H C cl fp => (me_lst (mas (mv 6) (mac (mv 8) ma_nil))))) (mac (mv 2) ma_nil))) (gt (gc (gv 3 sc_some_answer.nd) (gc (gv 4 sc_some_answer.nd) mgs_nil))))
    (ms_cons (ms_if (tval (mcb (bo_any rfl) (W.fr "any" (by decide)) PyProof.Rows.Boot.«any» (mac (mlc ([("row", 6)] : List (Str × Nat)) sc_some_answer.nd (mi_seq (me_slice (mv 3) (mo_some (mcb (bo_len) (W.fr "len" (by decide)) PyProof.Rows.Boot.«len» (mac (mv 4) ma_nil))) mo_none)) (fun s H C cl fp => (gv 6 sc_some_answer.nd)) (fun s H C cl fp => mts_nil) (fun s H C cl fp => (mcmp (c_ne (hu65 hr)) (mxi (mv 6) (mv 2)) (mgl W.g_ZERO)))) ma_nil))) (ms_one (ms_ret (me_lst ma_nil))) ms_nil)
    (ms_cons (sset 5 sc_some_answer.nd (me_mul (me_lst (mac (mgl W.g_ZERO) ma_nil)) (mv 2)))
    (ms_cons (sfor [6, 7] (passes_of rfl) (izip (W.fr "zip" (by decide)) (mv 3) (mv 4)) (gt (gc (gv 6 sc_some_answer.nd) (gc (gv 7 sc_some_answer.nd) mgs_nil))) (ms_one (sasg [] (mxi (mv 6) (mv 2)) (gi (mv 5) (mv 7)))))
    (ms_one (ms_ret (me_lst (mac (mz 5) ma_nil))))))))))
theorem D_some_answer (W : Wd P K mg) : FnD P w K mg base 5 "some_answer" 2 V_some_answer := by
  obtain ⟨f, fd, F, hm⟩ := W.f_some_answer
  exact ⟨f, fd, _, ok_some_answer W F, hm, F.kp, F.binds fun _ _ _ _ _ _ us hl => match us, hl with | [_, _], _ => rfl⟩
theorem sc_many_levels : FnScope ["trial"] ["trial"] (defScope st_many_levels) := ⟨rfl, rfl, rfl, by decide +kernel, rfl, by decide +kernel, by decide +kernel⟩
def B_many_levels : Sm := (sRet (eIf (tE (eOp2 fNe (eOp2 fIx (eVar 0) (eC (.int 2))) (eTup aNil))) (eOp2 (fAdd false) (eArgs (b1 bMax) (aCons (eOp2 fIx (eVar 0) (eC (.int 2))) aNil)) (eC (.int 1))) (eC (.int 0))))
def V_many_levels : Fm := fnV 1 1 B_many_levels
theorem ok_many_levels (W : Wd P K mg) {f : Addr} {fd : FuncData} (F : Fun K "many_levels" "many_levels" st_many_levels f fd) : FnOk P w K mg base (L2N.CX P w) 1 f fd ["trial"] (tSp K mg V_many_levels) :=
  fn_ok F sc_many_levels rfl rfl (fun cdv A outer s H E hr => (ms_one (ms_ret (me_ifE (tcmp (c_ne (hu65 hr)) (mxi (mv 0) me_int) (me_tup ma_nil)) (me_add (mcb (bo_max rfl) (W.fr "max" (by decide)) PyProof.Rows.Boot.«max» (mac (mxi (mv 0) me_int) ma_nil)) me_int) me_int))))
theorem D_many_levels (W : Wd P K mg) : FnD P w K mg base 1 "many_levels" 1 V_many_levels := by
  obtain ⟨f, fd, F, hm⟩ := W.f_many_levels
  exact ⟨f, fd, _, ok_many_levels W F, hm, F.kp, F.binds fun _ _ _ _ _ _ us hl => match us, hl with | [_], _ => rfl⟩
theorem sc_whole_rows : FnScope ["trial", "levels", "plot", "row", "level"] ["trial"] (defScope st_whole_rows) := ⟨rfl, rfl, rfl, by decide +kernel, rfl, by decide +kernel, by decide +kernel⟩
def B_whole_rows : Sm := (sCons (sAsg (eArgs (b1 bRange1) (aCons (eCallI V_many_levels (aCons (eVar 0) aNil)) aNil)) (gVar 1))
    (sRet (eLc false (iEnum (eOp2 fIx (eVar 0) (eC (.int 0)))) (gTup 2 (gsCons (gVar 2) (gsCons (gVar 3) gsNil))) tYesM (eLst false (aStar (eVar 3) (aStar (eLc false (iRngV (eVar 1)) (gVar 4) tYesM (eIf (tE (eOp2 fEq (eOp2 fIx (eOp2 fIx (eVar 0) (eC (.int 2))) (eVar 2)) (eVar 4))) (eC (.tuple [.int 1, .int 1])) (eC (.tuple [.int 0, .int 1]))) [4]) aNil))) [2, 3])))
def V_whole_rows : Fm := fnV 1 5 B_whole_rows
theorem ok_whole_rows (W : Wd P K mg) {f : Addr} {fd : FuncData} (F : Fun K "whole_rows" "whole_rows" st_whole_rows f fd) : FnOk P w K mg base (L2N.CX P w) 2 f fd ["trial"] (tSp K mg V_whole_rows) :=
  fn_ok F sc_whole_rows rfl rfl (fun cdv A outer s H E hr => (ms_cons (sset 1 sc_whole_rows.nd (mct (bo_range1) (W.fr "range" (by decide)) PyProof.Rows.Boot.«range» (mac (mcall (D_many_levels W) (hr.mono (by decide)) passesX (mac (mv 0) ma_nil)) ma_nil)))
    (ms_one (ms_ret (mlc ([("plot", 2), ("row", 3)] : List (Str × Nat)) sc_whole_rows.nd (ienum (W.fr "enumerate" (by decide)) (mxi (mv 0) me_int)) (fun s H C cl fp => (gt (gc (gv 2 sc_whole_rows.nd) (gc (gv 3 sc_whole_rows.nd) mgs_nil)))) (fun s H C cl fp => mts_nil) (fun s H C cl fp => (me_lst (mas (mv 3) (mas (mlc ([("level", 4)] : List (Str × Nat)) sc_whole_rows.nd (mi_rngV (mv 1)) (fun s H C cl fp => (gv 4 sc_whole_rows.nd)) (fun s H C cl fp => mts_nil) (fun s H C cl fp => (me_ifE (tcmp (c_eq (hu65 hr)) (mxi (mxi (mv 0) me_int) (mv 2)) (mv 4)) (mgl W.g_ONE) (mgl W.g_ZERO)))) ma_nil)))))))))
theorem D_whole_rows (W : Wd P K mg) : FnD P w K mg base 2 "whole_rows" 1 V_whole_rows := by
  obtain ⟨f, fd, F, hm⟩ := W.f_whole_rows
  exact ⟨f, fd, _, ok_whole_rows W F, hm, F.kp, F.binds fun _ _ _ _ _ _ us hl => match us, hl with | [_], _ => rfl⟩
theorem sc_turned : FnScope ["table", "at", "row"] ["table"] (defScope st_turned) := ⟨rfl, rfl, rfl, by decide +kernel, rfl, by decide +kernel, by decide +kernel⟩
def B_turned : Sm := (sRet (eLc false (iRng1 (eArgs (b1 bLen) (aCons (eOp2 fIx (eVar 0) (eC (.int 0))) aNil))) (gVar 1) tYesM (eLc false (iSeq (eVar 0)) (gVar 2) tYesM (eOp2 fIx (eVar 2) (eVar 1)) [2]) [1]))
def V_turned : Fm := fnV 1 3 B_turned
theorem ok_turned (W : Wd P K mg) {f : Addr} {fd : FuncData} (F : Fun K "turned" "turned" st_turned f fd) : FnOk P w K mg base (L2N.CX P w) 1 f fd ["table"] (tSp K mg V_turned) :=
  fn_ok F sc_turned rfl rfl (fun cdv A outer s H E hr => (ms_one (ms_ret (mlc ([("at", 1)] : List (Str × Nat)) sc_turned.nd (irng1 (W.fr "range" (by decide)) (mcb (bo_len) (W.fr "len" (by decide)) PyProof.Rows.Boot.«len» (mac (mxi (mv 0) me_int) ma_nil))) (fun s H C cl fp => (gv 1 sc_turned.nd)) (fun s H C cl fp => mts_nil) (fun s H C cl fp => (mlc ([("row", 2)] : List (Str × Nat)) sc_turned.nd (mi_seq (mv 0)) (fun s H C cl fp => (gv 2 sc_turned.nd)) (fun s H C cl fp => mts_nil) (fun s H C cl fp => (mxi (mv 2) (mv 1)))))))))
theorem D_turned (W : Wd P K mg) : FnD P w K mg base 1 "turned" 1 V_turned := by
  obtain ⟨f, fd, F, hm⟩ := W.f_turned
  exact ⟨f, fd, _, ok_turned W F, hm, F.kp, F.binds fun _ _ _ _ _ _ us hl => match us, hl with | [_], _ => rfl⟩
theorem sc_normal_rows : FnScope ["trial", "rows", "columns", "one", "two", "here", "there", "spread"] ["trial"] (defScope st_normal_rows) := ⟨rfl, rfl, rfl, by decide +kernel, rfl, by decide +kernel, by decide +kernel⟩
def B_normal_rows : Sm := (sCons (sAsg (eCallI V_whole_rows (aCons (eVar 0) aNil)) (gVar 1))
    (sCons (sAsg (eCallI V_turned (aCons (eVar 1) aNil)) (gVar 2))
    (sRet (eLc false (iSeq (eVar 2)) (gVar 3) tYesM (eLc false (iSeq (eVar 2)) (gVar 4) tYesM (eCallI V_total (aCons (eLc false (iZip3 (eVar 3) (eVar 4) (eOp2 fIx (eVar 0) (eC (.int 1)))) (gTup 3 (gsCons (gVar 5) (gsCons (gVar 6) (gsCons (gVar 7) gsNil)))) tYesM (eCallI V_over (aCons (eCallI V_times (aCons (eVar 5) (aCons (eVar 6) aNil))) (aCons (eVar 7) aNil))) [5, 6, 7]) aNil)) [4]) [3]))))
def V_normal_rows : Fm := fnV 1 8 B_normal_rows
theorem ok_normal_rows (W : Wd P K mg) {f : Addr} {fd : FuncData} (F : Fun K "normal_rows" "normal_rows" st_normal_rows f fd) : FnOk P w K mg base (L2N.CX P w) 4 f fd ["trial"] (tSp K mg V_normal_rows) :=
  fn_ok F sc_normal_rows rfl rfl (fun cdv A outer s H E hr => (ms_cons (sset 1 sc_normal_rows.nd (mcall (D_whole_rows W) (hr.mono (by decide)) passesX (mac (mv 0) ma_nil)))
    (ms_cons (sset 2 sc_normal_rows.nd (mcall (D_turned W) (hr.mono (by decide)) passesX (mac (mv 1) ma_nil)))
    (ms_one (ms_ret (mlc ([("one", 3)] : List (Str × Nat)) sc_normal_rows.nd (mi_seq (mv 2)) (fun s H C cl fp => (gv 3 sc_normal_rows.nd)) (fun s H C cl fp => mts_nil) (fun s H C cl fp => (mlc ([("two", 4)] : List (Str × Nat)) sc_normal_rows.nd (mi_seq (mv 2)) (fun s H C cl fp => (gv 4 sc_normal_rows.nd)) (fun s H C cl fp => mts_nil) (fun s H C cl fp => (mcall (D_total W) (hr.mono (by decide)) passLN (mac (mlc ([("here", 5), ("there", 6), ("spread", 7)] : List (Str × Nat)) sc_normal_rows.nd (izip3 (W.fr "zip" (by decide)) (mv 3) (mv 4) (mxi (mv 0) me_int)) (fun s H C cl fp => (gt (gc (gv 5 sc_normal_rows.nd) (gc (gv 6 sc_normal_rows.nd) (gc (gv 7 sc_normal_rows.nd) mgs_nil))))) (fun s H C cl fp => mts_nil) (fun s H C cl fp => (mcall (D_over W) (hr.mono (by decide)) passLN (mac (mcall (D_times W) (hr.mono (by decide)) passLN (mac (mv 5) (mac (mv 6) ma_nil))) (mac (mv 7) ma_nil))))) ma_nil)))))))))))
theorem D_normal_rows (W : Wd P K mg) : FnD P w K mg base 4 "normal_rows" 1 V_normal_rows := by
  obtain ⟨f, fd, F, hm⟩ := W.f_normal_rows
  exact ⟨f, fd, _, ok_normal_rows W F, hm, F.kp, F.binds fun _ _ _ _ _ _ us hl => match us, hl with | [_], _ => rfl⟩
theorem sc_whole_question : FnScope ["trial", "question"] ["trial", "question"] (defScope st_whole_question) := ⟨rfl, rfl, rfl, by decide +kernel, rfl, by decide +kernel, by decide +kernel⟩
def B_whole_question : Sm := (sRet (eLst false (aStar (eVar 1) (aStar (eOp2 (fMul false) (eLst false (aCons (eC (.tuple [.int 0, .int 1])) aNil)) (eCallI V_many_levels (aCons (eVar 0) aNil))) aNil))))
def V_whole_question : Fm := fnV 2 2 B_whole_question
theorem ok_whole_question (W : Wd P K mg) {f : Addr} {fd : FuncData} (F : Fun K "whole_question" "whole_question" st_whole_question f fd) : FnOk P w K mg base (L2N.CX P w) 2 f fd ["trial", "question"] (tSp K mg V_whole_question) :=
  fn_ok F sc_whole_question rfl rfl (fun cdv A outer s H E hr => (ms_one (ms_ret (me_lst (mas (mv 1) (mas (me_mul (me_lst (mac (mgl W.g_ZERO) ma_nil)) (mcall (D_many_levels W) (hr.mono (by decide)) passesX (mac (mv 0) ma_nil))) ma_nil))))))
theorem D_whole_question (W : Wd P K mg) : FnD P w K mg base 2 "whole_question" 2 V_whole_question := by
  obtain ⟨f, fd, F, hm⟩ := W.f_whole_question
  exact ⟨f, fd, _, ok_whole_question W F, hm, F.kp, F.binds fun _ _ _ _ _ _ us hl => match us, hl with | [_, _], _ => rfl⟩
theorem sc_many_unknowns : FnScope ["trial"] ["trial"] (defScope st_many_unknowns) := ⟨rfl, rfl, rfl, by decide +kernel, rfl, by decide +kernel, by decide +kernel⟩
def B_many_unknowns : Sm := (sRet (eArgs (b1 bLen) (aCons (eOp2 fIx (eOp2 fIx (eVar 0) (eC (.int 0))) (eC (.int 0))) aNil)))
def V_many_unknowns : Fm := fnV 1 1 B_many_unknowns
theorem ok_many_unknowns (W : Wd P K mg) {f : Addr} {fd : FuncData} (F : Fun K "many_unknowns" "many_unknowns" st_many_unknowns f fd) : FnOk P w K mg base (L2N.CX P w) 1 f fd ["trial"] (tSp K mg V_many_unknowns) :=
  fn_ok F sc_many_unknowns rfl rfl (fun cdv A outer s H E hr => (ms_one (ms_ret (mcb (bo_len) (W.fr "len" (by decide)) PyProof.Rows.Boot.«len» (mac (mxi (mxi (mv 0) me_int) me_int) ma_nil)))))
theorem D_many_unknowns (W : Wd P K mg) : FnD P w K mg base 1 "many_unknowns" 1 V_many_unknowns := by
  obtain ⟨f, fd, F, hm⟩ := W.f_many_unknowns
  exact ⟨f, fd, _, ok_many_unknowns W F, hm, F.kp, F.binds fun _ _ _ _ _ _ us hl => match us, hl with | [_], _ => rfl⟩
theorem sc_parted_world : FnScope ["trial", "numbers", "many"] ["trial", "numbers"] (defScope st_parted_world) := ⟨rfl, rfl, rfl, by decide +kernel, rfl, by decide +kernel, by decide +kernel⟩
def B_parted_world : Sm := (sCons (sAsg (eCallI V_many_unknowns (aCons (eVar 0) aNil)) (gVar 2))
    (sRet (eTup (aCons (eArgs (b1 bTuple) (aCons (eSl false (eVar 1) oNone (oSome (eVar 2))) aNil)) (aCons (eArgs (b1 bTuple) (aCons (eSl false (eVar 1) (oSome (eVar 2)) oNone) aNil)) aNil)))))
def V_parted_world : Fm := fnV 2 3 B_parted_world
theorem ok_parted_world (W : Wd P K mg) {f : Addr} {fd : FuncData} (F : Fun K "parted_world" "parted_world" st_parted_world f fd) : FnOk P w K mg base (L2N.CX P w) 2 f fd ["trial", "numbers"] (tSp K mg V_parted_world) :=
  fn_ok F sc_parted_world rfl rfl (fun cdv A outer s H E hr => (ms_cons (sset 2 sc_parted_world.nd (mcall (D_many_unknowns W) (hr.mono (by decide)) passesX (mac (mv 0) ma_nil)))
    (ms_one (ms_ret (me_tup (mac (mct (bo_tuple) (W.fr "tuple" (by decide)) PyProof.Rows.Boot.«tuple» (mac (me_slice (mv 1) mo_none (mo_some (mv 2))) ma_nil)) (mac (mct (bo_tuple) (W.fr "tuple" (by decide)) PyProof.Rows.Boot.«tuple» (mac (me_slice (mv 1) (mo_some (mv 2)) mo_none) ma_nil)) ma_nil)))))))
theorem D_parted_world (W : Wd P K mg) : FnD P w K mg base 2 "parted_world" 2 V_parted_world := by
  obtain ⟨f, fd, F, hm⟩ := W.f_parted_world
  exact ⟨f, fd, _, ok_parted_world W F, hm, F.kp, F.binds fun _ _ _ _ _ _ us hl => match us, hl with | [_, _], _ => rfl⟩
theorem sc_load_by : FnScope ["trial", "question", "found", "each"] ["trial", "question"] (defScope st_load_by) := ⟨rfl, rfl, rfl, by decide +kernel, rfl, by decide +kernel, by decide +kernel⟩
def B_load_by : Sm := (sCons (sAsg (eCallI V_some_answer (aCons (eCallI V_normal_rows (aCons (eVar 0) aNil)) (aCons (eCallI V_whole_question (aCons (eVar 0) (aCons (eVar 1) aNil))) aNil))) (gVar 2))
    (sRet (eLc false (iSeq (eVar 2)) (gVar 3) tYesM (eCallI V_parted_world (aCons (eVar 0) (aCons (eVar 3) aNil))) [3])))
def V_load_by : Fm := fnV 2 4 B_load_by
theorem ok_load_by (W : Wd P K mg) {f : Addr} {fd : FuncData} (F : Fun K "load_by" "load_by" st_load_by f fd) : FnOk P w K mg base (L2N.CX P w) 6 f fd ["trial", "question"] (tSp K mg V_load_by) :=
  fn_ok F sc_load_by rfl rfl (fun cdv A outer s H E hr => (ms_cons (sset 2 sc_load_by.nd (mcall (D_some_answer W) (hr.mono (by decide)) passesX (mac (mcall (D_normal_rows W) (hr.mono (by decide)) passesX (mac (mv 0) ma_nil)) (mac (mcall (D_whole_question W) (hr.mono (by decide)) passesX (mac (mv 0) (mac (mv 1) ma_nil))) ma_nil))))
    (ms_one (ms_ret (mlc ([("each", 3)] : List (Str × Nat)) sc_load_by.nd (mi_seq (mv 2)) (fun s H C cl fp => (gv 3 sc_load_by.nd)) (fun s H C cl fp => mts_nil) (fun s H C cl fp => (mcall (D_parted_world W) (hr.mono (by decide)) passLN (mac (mv 0) (mac (mv 3) ma_nil)))))))))
theorem D_load_by (W : Wd P K mg) : FnD P w K mg base 6 "load_by" 2 V_load_by := by
  obtain ⟨f, fd, F, hm⟩ := W.f_load_by
  exact ⟨f, fd, _, ok_load_by W F, hm, F.kp, F.binds fun _ _ _ _ _ _ us hl => match us, hl with | [_, _], _ => rfl⟩
theorem sc_best_by : FnScope ["trial", "question", "world"] ["trial", "question"] (defScope st_best_by) := ⟨rfl, rfl, rfl, by decide +kernel, rfl, by decide +kernel, by decide +kernel⟩
def B_best_by : Sm := (sRet (eLc false (iSeq (eCallI V_load_by (aCons (eVar 0) (aCons (eVar 1) aNil)))) (gVar 2) tYesM (eCallI V_loaded (aCons (eVar 0) (aCons (eVar 2) aNil))) [2]))
def V_best_by : Fm := fnV 2 3 B_best_by
theorem ok_best_by (W : Wd P K mg) {f : Addr} {fd : FuncData} (F : Fun K "best_by" "best_by" st_best_by f fd) : FnOk P w K mg base (L2N.CX P w) 8 f fd ["trial", "question"] (tSp K mg V_best_by) :=
  fn_ok F sc_best_by rfl rfl (fun cdv A outer s H E hr => (ms_one (ms_ret (mlc ([("world", 2)] : List (Str × Nat)) sc_best_by.nd (mi_seq (mcall (D_load_by W) (hr.mono (by decide)) passesX (mac (mv 0) (mac (mv 1) ma_nil)))) (fun s H C cl fp => (gv 2 sc_best_by.nd)) (fun s H C cl fp => mts_nil) (fun s H C cl fp => (mcall (D_loaded W) (hr.mono (by decide)) passLN (mac (mv 0) (mac (mv 2) ma_nil))))))))
theorem D_best_by (W : Wd P K mg) : FnD P w K mg base 8 "best_by" 2 V_best_by := by
  obtain ⟨f, fd, F, hm⟩ := W.f_best_by
  exact ⟨f, fd, _, ok_best_by W F, hm, F.kp, F.binds fun _ _ _ _ _ _ us hl => match us, hl with | [_, _], _ => rfl⟩
theorem sc_lone_question : FnScope ["many", "index", "each"] ["many", "index"] (defScope st_lone_question) := ⟨rfl, rfl, rfl, by decide +kernel, rfl, by decide +kernel, by decide +kernel⟩
def B_lone_question : Sm := (sRet (eArgs (b1 bTuple) (aCons (eLc false (iRng1 (eVar 0)) (gVar 2) tYesM (eIf (tE (eOp2 fEq (eVar 2) (eVar 1))) (eC (.tuple [.int 1, .int 1])) (eC (.tuple [.int 0, .int 1]))) [2]) aNil)))
def V_lone_question : Fm := fnV 2 3 B_lone_question
theorem ok_lone_question (W : Wd P K mg) {f : Addr} {fd : FuncData} (F : Fun K "lone_question" "lone_question" st_lone_question f fd) : FnOk P w K mg base (L2N.CX P w) 1 f fd ["many", "index"] (tSp K mg V_lone_question) :=
  fn_ok F sc_lone_question rfl rfl (fun cdv A outer s H E hr => (ms_one (ms_ret (mct (bo_tuple) (W.fr "tuple" (by decide)) PyProof.Rows.Boot.«tuple» (mac (mlc ([("each", 2)] : List (Str × Nat)) sc_lone_question.nd (irng1 (W.fr "range" (by decide)) (mv 0)) (fun s H C cl fp => (gv 2 sc_lone_question.nd)) (fun s H C cl fp => mts_nil) (fun s H C cl fp => (me_ifE (tcmp (c_eq (hu65 hr)) (mv 2) (mv 1)) (mgl W.g_ONE) (mgl W.g_ZERO)))) ma_nil)))))
theorem D_lone_question (W : Wd P K mg) : FnD P w K mg base 1 "lone_question" 2 V_lone_question := by
  obtain ⟨f, fd, F, hm⟩ := W.f_lone_question
  exact ⟨f, fd, _, ok_lone_question W F, hm, F.kp, F.binds fun _ _ _ _ _ _ us hl => match us, hl with | [_, _], _ => rfl⟩
theorem sc_signs_of : FnScope ["runs", "effect", "run"] ["runs", "effect"] (defScope st_signs_of) := ⟨rfl, rfl, rfl, by decide +kernel, rfl, by decide +kernel, by decide +kernel⟩
def B_signs_of : Sm := (sRet (eArgs (b1 bTuple) (aCons (eLc false (iSeq (eVar 0)) (gVar 2) tYesM (eTup (aCons (eCallI V_sign_in (aCons (eVar 2) (aCons (eVar 1) aNil))) (aCons (eC (.int 1)) aNil))) [2]) aNil)))
def V_signs_of : Fm := fnV 2 3 B_signs_of
theorem ok_signs_of (W : Wd P K mg) {f : Addr} {fd : FuncData} (F : Fun K "signs_of" "signs_of" st_signs_of f fd) : FnOk P w K mg base (L2N.CX P w) 2 f fd ["runs", "effect"] (tSp K mg V_signs_of) :=
  fn_ok F sc_signs_of rfl rfl (fun cdv A outer s H E hr => (ms_one (ms_ret (mct (bo_tuple) (W.fr "tuple" (by decide)) PyProof.Rows.Boot.«tuple» (mac (mlc ([("run", 2)] : List (Str × Nat)) sc_signs_of.nd (mi_seq (mv 0)) (fun s H C cl fp => (gv 2 sc_signs_of.nd)) (fun s H C cl fp => mts_nil) (fun s H C cl fp => (me_tup (mac (mcall (D_sign_in W) (hr.mono (by decide)) passLN (mac (mv 2) (mac (mv 1) ma_nil))) (mac me_int ma_nil))))) ma_nil)))))
theorem D_signs_of (W : Wd P K mg) : FnD P w K mg base 2 "signs_of" 2 V_signs_of := by
  obtain ⟨f, fd, F, hm⟩ := W.f_signs_of
  exact ⟨f, fd, _, ok_signs_of W F, hm, F.kp, F.binds fun _ _ _ _ _ _ us hl => match us, hl with | [_, _], _ => rfl⟩
theorem sc_mix_by : FnScope ["runs", "effects", "other", "trial", "found", "index", "told"] ["runs", "effects", "other"] (defScope st_mix_by) := ⟨rfl, rfl, rfl, by decide +kernel, rfl, by decide +kernel, by decide +kernel⟩
def B_mix_by : Sm := (sCons (sPar 3 4 (aCons (eCallI V_trial_by (aCons (eVar 0) (aCons (eVar 1) aNil))) (aCons (eLst true aNil) aNil)))
    (sCons (sFor (iRng1 (eArgs (b1 bLen) (aCons (eVar 1) aNil))) (gVar 5) (sCons (sAsg (eCallI V_best_by (aCons (eVar 3) (aCons (eCallI V_lone_question (aCons (eArgs (b1 bLen) (aCons (eVar 1) aNil)) (aCons (eVar 5) aNil))) aNil))) (gVar 6))
    (sExpr (fun ρ => mB ((eVar 4) ρ) fun x => mB (isLs x) fun _ => mB ((eIf (tE (eOp2 fNe (eVar 6) (eLst false aNil))) (eCallI V_dot (aCons (eOp2 fIx (eVar 6) (eC (.int 0))) (aCons (eCallI V_signs_of (aCons (eVar 0) (aCons (eVar 2) aNil))) aNil))) (eC .none)) ρ) fun y => mApp x y))))
    (sRet (eArgs (b1 bTuple) (aCons (eVar 4) aNil)))))
def V_mix_by : Fm := fnV 3 7 B_mix_by
theorem ok_mix_by (W : Wd P K mg) {f : Addr} {fd : FuncData} (F : Fun K "mix_by" "mix_by" st_mix_by f fd) : FnOk P w K mg base (L2N.CX P w) 9 f fd ["runs", "effects", "other"] (tSp K mg V_mix_by) :=
  fn_ok F sc_mix_by rfl rfl (fun cdv A outer s H E hr => (ms_cons (spar 3 4 sc_mix_by.nd (mac (mcall (D_trial_by W) (hr.mono (by decide)) passesX (mac (mv 0) (mac (mv 1) ma_nil))) (mac (me_lst ma_nil) ma_nil)))
    (ms_cons (sfor [5] (passes_of rfl) (irng1 (W.fr "range" (by decide)) (mcb (bo_len) (W.fr "len" (by decide)) PyProof.Rows.Boot.«len» (mac (mv 1) ma_nil))) (gv 5 sc_mix_by.nd) (ms_cons (sset 6 sc_mix_by.nd (mcall (D_best_by W) (hr.mono (by decide)) passesX (mac (mv 3) (mac (mcall (D_lone_question W) (hr.mono (by decide)) passesX (mac (mcb (bo_len) (W.fr "len" (by decide)) PyProof.Rows.Boot.«len» (mac (mv 1) ma_nil)) (mac (mv 5) ma_nil))) ma_nil))))
    (ms_one (sexpr (sapp (mv 4) (me_ifE (tcmp (c_ne (hu65 hr)) (mv 6) (me_lst ma_nil)) (mcall (D_dot W) (hr.mono (by decide)) passesX (mac (mxi (mv 6) me_int) (mac (mcall (D_signs_of W) (hr.mono (by decide)) passesX (mac (mv 0) (mac (mv 2) ma_nil))) ma_nil))) me_non))))))
    (ms_one (ms_ret (mct (bo_tuple) (W.fr "tuple" (by decide)) PyProof.Rows.Boot.«tuple» (mac (mv 4) ma_nil)))))))
theorem D_mix_by (W : Wd P K mg) : FnD P w K mg base 9 "mix_by" 3 V_mix_by := by
  obtain ⟨f, fd, F, hm⟩ := W.f_mix_by
  exact ⟨f, fd, _, ok_mix_by W F, hm, F.kp, F.binds fun _ _ _ _ _ _ us hl => match us, hl with | [_, _, _], _ => rfl⟩
theorem sc_mix : FnScope ["runs", "effects", "other"] ["runs", "effects", "other"] (defScope st_mix) := ⟨rfl, rfl, rfl, by decide +kernel, rfl, by decide +kernel, by decide +kernel⟩
def B_mix : Sm := (sCons (sExpr (eCallI V_check_model (aCons (eVar 0) (aCons (eVar 1) aNil))))
    (sCons (sExpr (eCallI V_check_other (aCons (eVar 0) (aCons (eVar 1) (aCons (eVar 2) aNil)))))
    (sRet (eCallI V_mix_by (aCons (eVar 0) (aCons (eVar 1) (aCons (eVar 2) aNil)))))))
def V_mix : Fm := fnV 3 3 B_mix
theorem ok_mix (W : Wd P K mg) {f : Addr} {fd : FuncData} (F : Fun K "mix" "mix" st_mix f fd) : FnOk P w K mg base (L2N.CX P w) 10 f fd ["runs", "effects", "other"] (tSp K mg V_mix) :=
  fn_ok F sc_mix rfl rfl (fun cdv A outer s H E hr => (ms_cons (sexpr (mcall (D_check_model W) (hr.mono (by decide)) passesX (mac (mv 0) (mac (mv 1) ma_nil))))
    (ms_cons (sexpr (mcall (D_check_other W) (hr.mono (by decide)) passesX (mac (mv 0) (mac (mv 1) (mac (mv 2) ma_nil)))))
    (ms_one (ms_ret (mcall (D_mix_by W) (hr.mono (by decide)) passesX (mac (mv 0) (mac (mv 1) (mac (mv 2) ma_nil)))))))))
theorem D_mix (W : Wd P K mg) : FnD P w K mg base 10 "mix" 3 V_mix := by
  obtain ⟨f, fd, F, hm⟩ := W.f_mix
  exact ⟨f, fd, _, ok_mix W F, hm, F.kp, F.binds fun _ _ _ _ _ _ us hl => match us, hl with | [_, _, _], _ => rfl⟩
theorem DK_mix_2_1_0 (W : Wd P K mg) : FnKw P w K mg base 10 "mix" V_mix ["other", "effects", "runs"] [2, 1, 0] := by
  obtain ⟨f, fd, F, hm⟩ := W.f_mix
  exact ⟨f, fd, _, ok_mix W F, hm, F.kp, F.kwb fun _ _ _ _ _ _ us hl => match us, hl with | [_, _, _], _ => rfl⟩
theorem sc__law_right : FnScope ["pool", "runs", "effects", "left", "other", "due", "trial", "values", "z", "told", "k", "weights", "effect", "p"] ["pool"] (defScope st__law_right) := ⟨rfl, rfl, rfl, by decide +kernel, rfl, by decide +kernel, by decide +kernel⟩
def B__law_right : Sm := (sCons (sAsg (eCall V__law_plan (aCons (eVar 0) aNil)) (gTup 3 (gsCons (gVar 1) (gsCons (gVar 2) (gsCons (gVar 3) gsNil)))))
    (sCons (sAsg (eCall V__law_one (aCons (eVar 0) (aCons (eVar 3) aNil))) (gVar 4))
    (sCons (sAsg (eArgs (b1 bTuple) (aCons (eLc false (iRng1 (eArgs (b1 bLen) (aCons (eVar 2) aNil))) (gVar 10) tYesM (eCallI V__law_mix (aCons (eVar 1) (aCons (eVar 2) (aCons (eVar 10) (aCons (eVar 4) aNil))))) [10]) aNil)) (gVar 5))
    (sCons (sIf (tNot (tE (eCallI (V__law_same 8) (aCons (eLst false (aCons (eCallI V_mix (aCons (eVar 1) (aCons (eVar 2) (aCons (eVar 4) aNil)))) (aCons (eCallKI V_mix [2, 1, 0] (aCons (eVar 4) (aCons (eVar 2) (aCons (eVar 1) aNil)))) aNil))) (aCons (eLst false (aCons (eVar 5) (aCons (eVar 5) aNil))) aNil))))) (sRet (eC (.bool false))) sNil)
    (sCons (sAsg (eTup (aCons (eCallI V_trial_of (aCons (eVar 1) (aCons (eVar 2) aNil))) (aCons (eLc false (iSeq (eVar 2)) (gVar 12) tYesM (eCall V__law_number (aCons (eVar 0) aNil)) [12]) (aCons (eCall V__law_number (aCons (eVar 0) aNil)) aNil)))) (gTup 3 (gsCons (gVar 6) (gsCons (gVar 7) (gsCons (gVar 8) gsNil)))))
    (sCons (sIf (tNot (tE (eCallI (V__law_same 8) (aCons (eVar 6) (aCons (eCallI V__law_trial_of (aCons (eVar 1) (aCons (eVar 2) aNil))) aNil))))) (sRet (eC (.bool false))) sNil)
    (sCons (sAsg (eLc false (iRng1 (eArgs (b1 bLen) (aCons (eVar 1) aNil))) (gVar 13) tYesM (eCallI V__law_plus (aCons (eCallI V__law_dot (aCons (eOp2 fIx (eOp2 fIx (eVar 6) (eC (.int 0))) (eVar 13)) (aCons (eVar 7) aNil))) (aCons (eTup (aCons (eOp2 (fMul false) (eOp2 fIx (eVar 8) (eC (.int 0))) (eCallI V__law_sign (aCons (eOp2 fIx (eVar 1) (eVar 13)) (aCons (eVar 4) aNil)))) (aCons (eOp2 fIx (eVar 8) (eC (.int 1))) aNil))) aNil))) [13]) (gVar 9))
    (sCons (sFor (iRng1 (eArgs (b1 bLen) (aCons (eVar 2) aNil))) (gVar 10) (sCons (sAsg (eCallI V__law_weights (aCons (eVar 6) (aCons (eCallI V__law_unit (aCons (eArgs (b1 bLen) (aCons (eVar 2) aNil)) (aCons (eVar 10) aNil))) aNil))) (gVar 11))
    (sCons (sIf (tE (eOp2 fNe (eOp2 fIsN (eVar 11) (eC .none)) (eOp2 fIsN (eOp2 fIx (eVar 5) (eVar 10)) (eC .none)))) (sRet (eC (.bool false))) sNil)
    (sIf (tAnd (tE (eOp2 fNotN (eVar 11) (eC .none))) (tE (eOp2 fNe (eCallI V__law_dot (aCons (eVar 11) (aCons (eVar 9) aNil))) (eCallI V__law_plus (aCons (eOp2 fIx (eVar 7) (eVar 10)) (aCons (eCallI V__law_times (aCons (eVar 8) (aCons (eOp2 fIx (eVar 5) (eVar 10)) aNil))) aNil)))))) (sRet (eC (.bool false))) sNil))))
    (sRet (eC (.bool true)))))))))))
def V__law_right : Fm := fnV 1 14 B__law_right
theorem ok__law_right (W : Wd P K mg) {f : Addr} {fd : FuncData} (F : Fun K "_law_right" "_law_right" st__law_right f fd) : FnOk P w K mg base (L2N.CX P w) 11 f fd ["pool"] (tSp K mg V__law_right) :=
  fn_ok F sc__law_right rfl rfl (fun cdv A outer s H E hr => (ms_cons (sasg [1, 2, 3] (mcallR (D__law_plan W) (hr.mono (by decide)) passesX (mac (mv 0) ma_nil)) (gt (gc (gv 1 sc__law_right.nd) (gc (gv 2 sc__law_right.nd) (gc (gv 3 sc__law_right.nd) mgs_nil)))))
    (ms_cons (sset 4 sc__law_right.nd (mcallR (D__law_one W) (hr.mono (by decide)) passesX (mac (mv 0) (mac (mv 3) ma_nil))))
    (ms_cons (sset 5 sc__law_right.nd (mct (bo_tuple) (W.fr "tuple" (by decide)) PyProof.Rows.Boot.«tuple» (mac (mlc ([("k", 10)] : List (Str × Nat)) sc__law_right.nd (irng1 (W.fr "range" (by decide)) (mcb (bo_len) (W.fr "len" (by decide)) PyProof.Rows.Boot.«len» (mac (mv 2) ma_nil))) (fun s H C cl fp => (gv 10 sc__law_right.nd)) (fun s H C cl fp => mts_nil) (fun s H C cl fp => (mcall (D__law_mix W) (hr.mono (by decide)) passLN (mac (mv 1) (mac (mv 2) (mac (mv 10) (mac (mv 4) ma_nil))))))) ma_nil)))
    (ms_cons (ms_if (mt_not (tval (mcall (D__law_same W 8) (hr.mono (by decide)) passesX (mac (me_lst (mac (mcall (D_mix W) (hr.mono (by decide)) passesX (mac (mv 1) (mac (mv 2) (mac (mv 4) ma_nil)))) (mac (me_callKI (DK_mix_2_1_0 W) rfl (hr.mono (by decide)) rfl passesX (mk_cons (mv 4) (mk_cons (mv 2) (mk_cons (mv 1) mk_nil)))) ma_nil))) (mac (me_lst (mac (mv 5) (mac (mv 5) ma_nil))) ma_nil))))) (ms_one (ms_ret me_bl)) ms_nil)
    (ms_cons (sasg [6, 7, 8] (me_tup (mac (mcall (D_trial_of W) (hr.mono (by decide)) passesX (mac (mv 1) (mac (mv 2) ma_nil))) (mac (mlc ([("effect", 12)] : List (Str × Nat)) sc__law_right.nd (mi_seq (mv 2)) (fun s H C cl fp => (gv 12 sc__law_right.nd)) (fun s H C cl fp => mts_nil) (fun s H C cl fp => (mcallR (D__law_number W) (hr.mono (by decide)) passLN (mac (mv 0) ma_nil)))) (mac (mcallR (D__law_number W) (hr.mono (by decide)) passesX (mac (mv 0) ma_nil)) ma_nil)))) (gt (gc (gv 6 sc__law_right.nd) (gc (gv 7 sc__law_right.nd) (gc (gv 8 sc__law_right.nd) mgs_nil)))))
    (ms_cons (ms_if (mt_not (tval (mcall (D__law_same W 8) (hr.mono (by decide)) passesX (mac (mv 6) (mac (mcall (D__law_trial_of W) (hr.mono (by decide)) passesX (mac (mv 1) (mac (mv 2) ma_nil))) ma_nil))))) (ms_one (ms_ret me_bl)) ms_nil)
    (ms_cons (ssetLc 9 ([("p", 13)] : List (Str × Nat)) sc__law_right.nd (irng1 (W.fr "range" (by decide)) (mcb (bo_len) (W.fr "len" (by decide)) PyProof.Rows.Boot.«len» (mac (mv 1) ma_nil))) (fun s H C cl fp => (gv 13 sc__law_right.nd)) (fun s H C cl fp => mts_nil) (fun s H C cl fp => (mcall (D__law_plus W) (hr.mono (by decide)) passLN (mac (mcall (D__law_dot W) (hr.mono (by decide)) passLN (mac (mxi (mxi (mv 6) me_int) (mv 13)) (mac (mv 7) ma_nil))) (mac (me_tup (mac (me_mul (mxi (mv 8) me_int) (mcall (D__law_sign W) (hr.mono (by decide)) passLN (mac (mxi (mv 1) (mv 13)) (mac (mv 4) ma_nil)))) (mac (mxi (mv 8) me_int) ma_nil))) ma_nil)))))
    (ms_cons (sfor [10] (passes_of rfl) (irng1 (W.fr "range" (by decide)) (mcb (bo_len) (W.fr "len" (by decide)) PyProof.Rows.Boot.«len» (mac (mv 2) ma_nil))) (gv 10 sc__law_right.nd) (ms_cons (sset 11 sc__law_right.nd (mcall (D__law_weights W) (hr.mono (by decide)) passesX (mac (mv 6) (mac (mcall (D__law_unit W) (hr.mono (by decide)) passesX (mac (mcb (bo_len) (W.fr "len" (by decide)) PyProof.Rows.Boot.«len» (mac (mv 2) ma_nil)) (mac (mv 10) ma_nil))) ma_nil))))
    (ms_cons (ms_if (tcmp (c_ne (hu65 hr)) (mcmp c_is (mv 11) me_non) (mcmp c_is (mxi (mv 5) (mv 10)) me_non)) (ms_one (ms_ret me_bl)) ms_nil)
    (ms_one (ms_if (PW.pt (mw_and (tcmp c_isnot (mv 11) me_non) (mw_and1 (tcmp (c_ne (hu65 hr)) (mcall (D__law_dot W) (hr.mono (by decide)) passesX (mac (mv 11) (mac (mv 9) ma_nil))) (mcall (D__law_plus W) (hr.mono (by decide)) passesX (mac (mxi (mv 7) (mv 10)) (mac (mcall (D__law_times W) (hr.mono (by decide)) passesX (mac (mv 8) (mac (mxi (mv 5) (mv 10)) ma_nil))) ma_nil))))))) (ms_one (ms_ret me_bl)) ms_nil)))))
    (ms_one (ms_ret me_bl)))))))))))
theorem D__law_right (W : Wd P K mg) : FnD P w K mg base 11 "_law_right" 1 V__law_right := by
  obtain ⟨f, fd, F, hm⟩ := W.f__law_right
  exact ⟨f, fd, _, ok__law_right W F, hm, F.kp, F.binds fun _ _ _ _ _ _ us hl => match us, hl with | [_], _ => rfl⟩
theorem sc_law : FnScope ["script", "lap", "pool", "again"] ["script"] (defScope st_law) := ⟨rfl, rfl, rfl, by decide +kernel, rfl, by decide +kernel, by decide +kernel⟩
def B_law : Sm := (sCons (sFor (iRng1 (eArgs (b2 bMax2) (aCons (eC (.int 1)) (aCons (eArgs (b2 bMin2) (aCons (eArgs (b1 bLen) (aCons (eVar 0) aNil)) (aCons (eC (.int 3)) aNil))) aNil)))) (gVar 1) (sCons (sAsg (eCall V__law_pool (aCons (eVar 0) (aCons (eVar 1) aNil))) (gVar 2))
    (sIf (tNot (tE (eArgs (b1 bAll) (aCons (eLc false (iRng1 (eC (.int 2))) (gVar 3) tYesM (eCall V__law_right (aCons (eVar 2) aNil)) [3]) aNil)))) (sRet (eC (.bool false))) sNil)))
    (sRet (eC (.bool true))))
def V_law : Fm := fnV 1 4 B_law
end GL
set_option Elab.async false
set_option linter.all false
set_option maxRecDepth 100000
set_option maxHeartbeats 4000000
namespace GL
open PySem PySem.Spec PyProof.Rows L2 LamX MK
variable [Tb]
variable {P : Program} {w : World} {K : PySem.W.Frag} {mg : Str → Option Value} {base : Heap}
end GL
set_option Elab.async false
set_option linter.all false
set_option maxRecDepth 100000
set_option maxHeartbeats 4000000
namespace GL
open PySem PySem.Spec PyProof.Rows L2 LamX MK
variable [Tb]
variable {P : Program} {w : World} {K : PySem.W.Frag} {mg : Str → Option Value} {base : Heap}
/-- the tables of code objects -/
def Tbs (K : PySem.W.Frag) (mg : Str → Option Value) (base : Heap) : Prop := True
theorem ok_law (W : Wd P K mg) (TBS : Tbs K mg base) {f : Addr} {fd : FuncData} (F : Fun K "law" "law" st_law f fd) : FnOkG P w K mg base 12 f fd ["script"] (tSp K mg V_law) :=
  fn_okG F sc_law rfl rfl (fun cdv A outer s H E hcode hcd hgd hr => (ms_cons (sfor [1] (passes_of rfl) (irng1 (W.fr "range" (by decide)) (mcb (bo_max2 rfl) (W.fr "max" (by decide)) PyProof.Rows.Boot.«max» (mac me_int (mac (mcb (bo_min2 rfl) (W.fr "min" (by decide)) PyProof.Rows.Boot.«min» (mac (mcb (bo_len) (W.fr "len" (by decide)) PyProof.Rows.Boot.«len» (mac (mv 0) ma_nil)) (mac me_int ma_nil))) ma_nil)))) (gv 1 sc_law.nd) (ms_cons (sset 2 sc_law.nd (mcallR (D__law_pool W) (hr.mono (by decide)) passesX (mac (mv 0) (mac (mv 1) ma_nil))))
    (ms_one (ms_if (mt_not (tval (mcb (bo_all rfl) (W.fr "all" (by decide)) PyProof.Rows.Boot.«all» (mac (mlc ([("again", 3)] : List (Str × Nat)) sc_law.nd (irng1 (W.fr "range" (by decide)) me_int) (fun s H C cl fp => (gv 3 sc_law.nd)) (fun s H C cl fp => mts_nil) (fun s H C cl fp => (mcallR (D__law_right W) (hr.mono (by decide)) passLN (mac (mv 2) ma_nil)))) ma_nil)))) (ms_one (ms_ret me_bl)) ms_nil))))
    (ms_one (ms_ret me_bl))))
end GL
set_option Elab.async false
set_option linter.all false
set_option maxRecDepth 100000
set_option maxHeartbeats 0
/-! HD78: the head. -/
namespace GL
open PySem PySem.Spec PyProof.Rows L2 He MK MKQ
abbrev R : PySem.W.OpenRow := PySem.W.OpenLaw.row PySem.Challenge.rw_trialways_k78_whole_mixes_of_effects
def dd (x : Str) (st : Stmt) : DefD := ⟨(x, none), x, x, defArgs st, defBody st, defScope st, [], []⟩
def nm0 : List PySem.Str := ["gcd", "TrialError", "Unfit", "InvalidLot", "InvalidRows", "InvalidRuns", "is_whole", "is_between", "ZERO", "ONE", "ratio", "plus", "minus", "times", "over", "total", "dot", "many_unknowns", "many_plots", "many_levels", "yield_by", "yields_by", "whole_rows", "whole_question", "parted_world", "MOST_FACTORS", "is_sign", "is_run_by", "wrong_in_effect", "is_effect_by"]
def nm1 : List PySem.Str := ["sign_in", "check_effect", "MOST_RUNS", "MOST_TRIED", "MOST_EFFECTS", "wrong_in_runs", "trial_by", "without_column", "brought", "some_answer", "turned", "normal_rows", "load_by", "loaded", "best_by", "signs_of", "lone_question", "mix_by", "check_runs", "check_tried", "trial_of", "check_model", "check_other", "mix", "_law_pool", "_law_below", "_law_one", "_law_fr", "_law_plus", "_law_minus"]
def nm2 : List PySem.Str := ["_law_times", "_law_over", "_law_sum", "_law_same", "_law_dot", "_law_number", "_law_any", "_law_groups", "_law_table", "_law_sign", "_law_trial_of", "_law_effects", "_law_weights", "_law_unit", "_law_mix", "_law_plan", "_law_runs", "_law_right"]
def names : List PySem.Str := nm0 ++ nm1 ++ nm2
def dn0 : List DefD := [dd "_law_pool" st__law_pool, dd "_law_below" st__law_below, dd "_law_one" st__law_one, dd "_law_effects" st__law_effects, dd "_law_runs" st__law_runs, dd "_law_sign" st__law_sign, dd "_law_plan" st__law_plan, dd "_law_same" st__law_same, dd "is_whole" st_is_whole, dd "is_sign" st_is_sign, dd "is_run_by" st_is_run_by, dd "wrong_in_runs" st_wrong_in_runs, dd "check_runs" st_check_runs, dd "is_between" st_is_between, dd "wrong_in_effect" st_wrong_in_effect, dd "is_effect_by" st_is_effect_by, dd "check_tried" st_check_tried, dd "sign_in" st_sign_in, dd "trial_by" st_trial_by, dd "trial_of" st_trial_of]
def dn1 : List DefD := [dd "_law_fr" st__law_fr, dd "_law_number" st__law_number, dd "_law_plus" st__law_plus, dd "_law_over" st__law_over, dd "_law_minus" st__law_minus, dd "_law_times" st__law_times, dd "_law_any" st__law_any, dd "_law_sum" st__law_sum, dd "_law_groups" st__law_groups, dd "_law_table" st__law_table, dd "_law_dot" st__law_dot, dd "_law_weights" st__law_weights, dd "_law_trial_of" st__law_trial_of, dd "_law_unit" st__law_unit, dd "_law_mix" st__law_mix, dd "check_model" st_check_model, dd "check_effect" st_check_effect, dd "check_other" st_check_other, dd "ratio" st_ratio, dd "over" st_over]
def dn2 : List DefD := [dd "plus" st_plus, dd "total" st_total, dd "times" st_times, dd "dot" st_dot, dd "yield_by" st_yield_by, dd "many_plots" st_many_plots, dd "yields_by" st_yields_by, dd "loaded" st_loaded, dd "minus" st_minus, dd "without_column" st_without_column, dd "brought" st_brought, dd "some_answer" st_some_answer, dd "many_levels" st_many_levels, dd "whole_rows" st_whole_rows, dd "turned" st_turned, dd "normal_rows" st_normal_rows, dd "whole_question" st_whole_question, dd "many_unknowns" st_many_unknowns, dd "parted_world" st_parted_world, dd "load_by" st_load_by]
def dn3 : List DefD := [dd "best_by" st_best_by, dd "lone_question" st_lone_question, dd "signs_of" st_signs_of, dd "mix_by" st_mix_by, dd "mix" st_mix, dd "_law_right" st__law_right, dd "law" st_law]
def dn : List DefD := dn0 ++ dn1 ++ dn2 ++ dn3
def isn : List InitD := []
def fd0 : List Fa := [.glo "_law_pool", .glo "_law_below", .glo "_law_one", .glo "_law_effects", .glo "_law_runs", .glo "_law_sign", .glo "_law_plan", .glo "_law_same", .glo "is_whole", .glo "is_sign", .glo "is_run_by", .glo "wrong_in_runs", .glo "check_runs", .glo "is_between", .glo "wrong_in_effect", .glo "is_effect_by", .glo "check_tried", .glo "sign_in", .glo "trial_by", .glo "trial_of"]
def fd1 : List Fa := [.glo "_law_fr", .glo "_law_number", .glo "_law_plus", .glo "_law_over", .glo "_law_minus", .glo "_law_times", .glo "_law_any", .glo "_law_sum", .glo "_law_groups", .glo "_law_table", .glo "_law_dot", .glo "_law_weights", .glo "_law_trial_of", .glo "_law_unit", .glo "_law_mix", .glo "check_model", .glo "check_effect", .glo "check_other", .glo "ratio", .glo "over"]
def fd2 : List Fa := [.glo "plus", .glo "total", .glo "times", .glo "dot", .glo "yield_by", .glo "many_plots", .glo "yields_by", .glo "loaded", .glo "minus", .glo "without_column", .glo "brought", .glo "some_answer", .glo "many_levels", .glo "whole_rows", .glo "turned", .glo "normal_rows", .glo "whole_question", .glo "many_unknowns", .glo "parted_world", .glo "load_by"]
def fd3 : List Fa := [.glo "best_by", .glo "lone_question", .glo "signs_of", .glo "mix_by", .glo "mix", .glo "_law_right", .glo "law"]
def fax : List Fa := [.free "super", .int "MOST_EFFECTS" 5, .int "MOST_FACTORS" 6, .int "MOST_RUNS" 64, .int "MOST_TRIED" 10, .glo "ONE", .glo "ZERO"]
def fas : List Fa := frees.map Fa.free ++ (fax ++ (fd0 ++ fd1 ++ fd2 ++ fd3))
def exM (K : PySem.W.Frag) : Bool := (eqO (PySem.W.nsIn K mainGlobals "gcd") (some (some (.builtin "math.gcd")))) && ((tupB K "ONE" [.int 1, .int 1]) && (tupB K "ZERO" [.int 0, .int 1]))
def fileM : Str := PySem.Challenge.rw_trialways_k78_whole_mixes_of_effects.prog.main.file
def tfM : List Defn := []
def nO : Nat := 800
abbrev hk : PySem.W.Hook := hookN nO fas dn isn fileM tfM exM
def ob (s : PySem.W.SharedT) : AlM := obsN nO fas dn isn fileM tfM exM (HandSHeadRun.getT s)
theorem ob_eq (s : PySem.W.SharedT) : ob s = hk.obs s.abs := obsN_eq (HandSHeadRun.getT_eq s)
noncomputable abbrev Wh (w : World) := HandSHeadRun.wholeF (fun p => HandSHeadRun.stepQ (HandSHeadRun.denQ HandSHeadRun.tabQ) p w) HandSHeadRun.fenceQ 60000 R.prog
theorem run1 (w : World) : (Wh w).map (fun x => (HandSHeadRun.looksF R.prog x.1.heap x.2.abs, HandSHeadRun.seenQ (PySem.W.view R.prog [0, 91]) names (importedModules R.prog.main.body) (fun s => PySem.W.xlAt (PySem.W.view R.prog [0, 91]) [] s && PySem.W.recOk R.toRowW.records s) x.2.abs)) = some (true, PySem.W.openGood (PySem.W.view R.prog [0, 91]) names) := by kernel_rfl
theorem run2 (w : World) : (Wh w).map (fun x => obsD fas dn (frN (HandSHeadRun.getT x.2) nO)) = some (valD dn) := by kernel_rfl
theorem run3 (w : World) : (Wh w).map (fun x => ((exM (frN (HandSHeadRun.getT x.2) nO) && (isn.all (fun d => xtB (frN (HandSHeadRun.getT x.2) nO) d.nm d.fld fileM) && ((frN (HandSHeadRun.getT x.2) nO).all (fun q => !isLst q.2) && tabsB (HandSHeadRun.getT x.2) tfM (frN (HandSHeadRun.getT x.2) nO)))), isn.map fun d => initW (frN (HandSHeadRun.getT x.2) nO) d.nm)) = some (true, isn.map InitD.val) := by kernel_rfl
theorem run (w : World) : HandSHeadRun.RunEqI R (PySem.W.view R.prog [0, 91]) hk ob 60000 names w := run_parts (run1 w) (run2 w) (run3 w)
end GL
set_option Elab.async false
set_option linter.all false
set_option maxRecDepth 100000
set_option maxHeartbeats 4000000
/-! HE78: the facts, the end. -/
namespace GL
open PySem PySem.Spec PyProof.Rows L2 He MK MKQ
theorem dm__law_pool : dd "_law_pool" st__law_pool ∈ dn := List.mem_of_getElem? (i := 0) rfl
theorem dm__law_below : dd "_law_below" st__law_below ∈ dn := List.mem_of_getElem? (i := 1) rfl
theorem dm__law_one : dd "_law_one" st__law_one ∈ dn := List.mem_of_getElem? (i := 2) rfl
theorem dm__law_effects : dd "_law_effects" st__law_effects ∈ dn := List.mem_of_getElem? (i := 3) rfl
theorem dm__law_runs : dd "_law_runs" st__law_runs ∈ dn := List.mem_of_getElem? (i := 4) rfl
theorem dm__law_sign : dd "_law_sign" st__law_sign ∈ dn := List.mem_of_getElem? (i := 5) rfl
theorem dm__law_plan : dd "_law_plan" st__law_plan ∈ dn := List.mem_of_getElem? (i := 6) rfl
theorem dm__law_same : dd "_law_same" st__law_same ∈ dn := List.mem_of_getElem? (i := 7) rfl
theorem dm_is_whole : dd "is_whole" st_is_whole ∈ dn := List.mem_of_getElem? (i := 8) rfl
theorem dm_is_sign : dd "is_sign" st_is_sign ∈ dn := List.mem_of_getElem? (i := 9) rfl
theorem dm_is_run_by : dd "is_run_by" st_is_run_by ∈ dn := List.mem_of_getElem? (i := 10) rfl
theorem dm_wrong_in_runs : dd "wrong_in_runs" st_wrong_in_runs ∈ dn := List.mem_of_getElem? (i := 11) rfl
theorem dm_check_runs : dd "check_runs" st_check_runs ∈ dn := List.mem_of_getElem? (i := 12) rfl
theorem dm_is_between : dd "is_between" st_is_between ∈ dn := List.mem_of_getElem? (i := 13) rfl
theorem dm_wrong_in_effect : dd "wrong_in_effect" st_wrong_in_effect ∈ dn := List.mem_of_getElem? (i := 14) rfl
theorem dm_is_effect_by : dd "is_effect_by" st_is_effect_by ∈ dn := List.mem_of_getElem? (i := 15) rfl
theorem dm_check_tried : dd "check_tried" st_check_tried ∈ dn := List.mem_of_getElem? (i := 16) rfl
theorem dm_sign_in : dd "sign_in" st_sign_in ∈ dn := List.mem_of_getElem? (i := 17) rfl
theorem dm_trial_by : dd "trial_by" st_trial_by ∈ dn := List.mem_of_getElem? (i := 18) rfl
theorem dm_trial_of : dd "trial_of" st_trial_of ∈ dn := List.mem_of_getElem? (i := 19) rfl
theorem dm__law_fr : dd "_law_fr" st__law_fr ∈ dn := List.mem_of_getElem? (i := 20) rfl
theorem dm__law_number : dd "_law_number" st__law_number ∈ dn := List.mem_of_getElem? (i := 21) rfl
theorem dm__law_plus : dd "_law_plus" st__law_plus ∈ dn := List.mem_of_getElem? (i := 22) rfl
theorem dm__law_over : dd "_law_over" st__law_over ∈ dn := List.mem_of_getElem? (i := 23) rfl
theorem dm__law_minus : dd "_law_minus" st__law_minus ∈ dn := List.mem_of_getElem? (i := 24) rfl
theorem dm__law_times : dd "_law_times" st__law_times ∈ dn := List.mem_of_getElem? (i := 25) rfl
theorem dm__law_any : dd "_law_any" st__law_any ∈ dn := List.mem_of_getElem? (i := 26) rfl
theorem dm__law_sum : dd "_law_sum" st__law_sum ∈ dn := List.mem_of_getElem? (i := 27) rfl
theorem dm__law_groups : dd "_law_groups" st__law_groups ∈ dn := List.mem_of_getElem? (i := 28) rfl
theorem dm__law_table : dd "_law_table" st__law_table ∈ dn := List.mem_of_getElem? (i := 29) rfl
theorem dm__law_dot : dd "_law_dot" st__law_dot ∈ dn := List.mem_of_getElem? (i := 30) rfl
theorem dm__law_weights : dd "_law_weights" st__law_weights ∈ dn := List.mem_of_getElem? (i := 31) rfl
theorem dm__law_trial_of : dd "_law_trial_of" st__law_trial_of ∈ dn := List.mem_of_getElem? (i := 32) rfl
theorem dm__law_unit : dd "_law_unit" st__law_unit ∈ dn := List.mem_of_getElem? (i := 33) rfl
theorem dm__law_mix : dd "_law_mix" st__law_mix ∈ dn := List.mem_of_getElem? (i := 34) rfl
theorem dm_check_model : dd "check_model" st_check_model ∈ dn := List.mem_of_getElem? (i := 35) rfl
theorem dm_check_effect : dd "check_effect" st_check_effect ∈ dn := List.mem_of_getElem? (i := 36) rfl
theorem dm_check_other : dd "check_other" st_check_other ∈ dn := List.mem_of_getElem? (i := 37) rfl
theorem dm_ratio : dd "ratio" st_ratio ∈ dn := List.mem_of_getElem? (i := 38) rfl
theorem dm_over : dd "over" st_over ∈ dn := List.mem_of_getElem? (i := 39) rfl
theorem dm_plus : dd "plus" st_plus ∈ dn := List.mem_of_getElem? (i := 40) rfl
theorem dm_total : dd "total" st_total ∈ dn := List.mem_of_getElem? (i := 41) rfl
theorem dm_times : dd "times" st_times ∈ dn := List.mem_of_getElem? (i := 42) rfl
theorem dm_dot : dd "dot" st_dot ∈ dn := List.mem_of_getElem? (i := 43) rfl
theorem dm_yield_by : dd "yield_by" st_yield_by ∈ dn := List.mem_of_getElem? (i := 44) rfl
theorem dm_many_plots : dd "many_plots" st_many_plots ∈ dn := List.mem_of_getElem? (i := 45) rfl
theorem dm_yields_by : dd "yields_by" st_yields_by ∈ dn := List.mem_of_getElem? (i := 46) rfl
theorem dm_loaded : dd "loaded" st_loaded ∈ dn := List.mem_of_getElem? (i := 47) rfl
theorem dm_minus : dd "minus" st_minus ∈ dn := List.mem_of_getElem? (i := 48) rfl
theorem dm_without_column : dd "without_column" st_without_column ∈ dn := List.mem_of_getElem? (i := 49) rfl
theorem dm_brought : dd "brought" st_brought ∈ dn := List.mem_of_getElem? (i := 50) rfl
theorem dm_some_answer : dd "some_answer" st_some_answer ∈ dn := List.mem_of_getElem? (i := 51) rfl
theorem dm_many_levels : dd "many_levels" st_many_levels ∈ dn := List.mem_of_getElem? (i := 52) rfl
theorem dm_whole_rows : dd "whole_rows" st_whole_rows ∈ dn := List.mem_of_getElem? (i := 53) rfl
theorem dm_turned : dd "turned" st_turned ∈ dn := List.mem_of_getElem? (i := 54) rfl
theorem dm_normal_rows : dd "normal_rows" st_normal_rows ∈ dn := List.mem_of_getElem? (i := 55) rfl
theorem dm_whole_question : dd "whole_question" st_whole_question ∈ dn := List.mem_of_getElem? (i := 56) rfl
theorem dm_many_unknowns : dd "many_unknowns" st_many_unknowns ∈ dn := List.mem_of_getElem? (i := 57) rfl
theorem dm_parted_world : dd "parted_world" st_parted_world ∈ dn := List.mem_of_getElem? (i := 58) rfl
theorem dm_load_by : dd "load_by" st_load_by ∈ dn := List.mem_of_getElem? (i := 59) rfl
theorem dm_best_by : dd "best_by" st_best_by ∈ dn := List.mem_of_getElem? (i := 60) rfl
theorem dm_lone_question : dd "lone_question" st_lone_question ∈ dn := List.mem_of_getElem? (i := 61) rfl
theorem dm_signs_of : dd "signs_of" st_signs_of ∈ dn := List.mem_of_getElem? (i := 62) rfl
theorem dm_mix_by : dd "mix_by" st_mix_by ∈ dn := List.mem_of_getElem? (i := 63) rfl
theorem dm_mix : dd "mix" st_mix ∈ dn := List.mem_of_getElem? (i := 64) rfl
theorem dm__law_right : dd "_law_right" st__law_right ∈ dn := List.mem_of_getElem? (i := 65) rfl
theorem dm_law : dd "law" st_law ∈ dn := List.mem_of_getElem? (i := 66) rfl
theorem fa_mem (i : Nat) {f : Fa} (h : fas[i]? = some f) : f ∈ fas := List.mem_of_getElem? h
theorem fun_at {K : PySem.W.Frag} {h : Heap} {mg : Str → Option Value} (X : K.In h) (G : h.Ns mainGlobals mg) (c : SaysD fas dn K) {x : Str} {st : Stmt} (hd : dd x st ∈ dn) (hf : Fa.glo x ∈ fas) : ∃ f fd, L2.Fun K x x st f fd ∧ mg x = some (.ref f) := by
  obtain ⟨fd, F⟩ := c.defs hd
  haveI : Tb := ⟨[]⟩
  exact ⟨_, fd, MK.FunD.toFun F, glo_ok X G (c.facts hf)⟩
theorem Wd_of {P : Program} {h : Heap} {K : PySem.W.Frag} {mg : Str → Option Value} (hP : (P.main.scope.names.lookup ("super" : Str)).isSome = false) (hF : P.main.file = fileM) (X : K.In h) (G : h.Ns mainGlobals mg) (S : Says fas dn isn fileM tfM exM h K) : Wd P K mg := by
  have c := S.d
  have m := S.more
  unfold exM at m
  simp only [Bool.and_eq_true] at m
  obtain ⟨m_gcd, m_t_ONE, m_t_ZERO⟩ := m
  have hs : (Fa.free "super").ok K = true := c.facts (fa_mem 16 rfl)
  exact ⟨
    fun x hx => free_ok X G (c.facts (List.mem_append_left _ (List.mem_map.mpr ⟨x, hx, rfl⟩))),
    PySem.W.mg_of X G (eqO_ok m_gcd),
    globI X G (c.facts (fa_mem 17 rfl)),
    globI X G (c.facts (fa_mem 18 rfl)),
    globI X G (c.facts (fa_mem 19 rfl)),
    globI X G (c.facts (fa_mem 20 rfl)),
    globT (is := [1, 1]) X G (c.facts (fa_mem 21 rfl)) m_t_ONE,
    globT (is := [0, 1]) X G (c.facts (fa_mem 22 rfl)) m_t_ZERO,
    fun_at X G c dm__law_pool (fa_mem 23 rfl),
    fun_at X G c dm__law_below (fa_mem 24 rfl),
    fun_at X G c dm__law_one (fa_mem 25 rfl),
    fun_at X G c dm__law_effects (fa_mem 26 rfl),
    fun_at X G c dm__law_runs (fa_mem 27 rfl),
    fun_at X G c dm__law_sign (fa_mem 28 rfl),
    fun_at X G c dm__law_plan (fa_mem 29 rfl),
    fun_at X G c dm__law_same (fa_mem 30 rfl),
    fun_at X G c dm_is_whole (fa_mem 31 rfl),
    fun_at X G c dm_is_sign (fa_mem 32 rfl),
    fun_at X G c dm_is_run_by (fa_mem 33 rfl),
    fun_at X G c dm_wrong_in_runs (fa_mem 34 rfl),
    fun_at X G c dm_check_runs (fa_mem 35 rfl),
    fun_at X G c dm_is_between (fa_mem 36 rfl),
    fun_at X G c dm_wrong_in_effect (fa_mem 37 rfl),
    fun_at X G c dm_is_effect_by (fa_mem 38 rfl),
    fun_at X G c dm_check_tried (fa_mem 39 rfl),
    fun_at X G c dm_sign_in (fa_mem 40 rfl),
    fun_at X G c dm_trial_by (fa_mem 41 rfl),
    fun_at X G c dm_trial_of (fa_mem 42 rfl),
    fun_at X G c dm__law_fr (fa_mem 43 rfl),
    fun_at X G c dm__law_number (fa_mem 44 rfl),
    fun_at X G c dm__law_plus (fa_mem 45 rfl),
    fun_at X G c dm__law_over (fa_mem 46 rfl),
    fun_at X G c dm__law_minus (fa_mem 47 rfl),
    fun_at X G c dm__law_times (fa_mem 48 rfl),
    fun_at X G c dm__law_any (fa_mem 49 rfl),
    fun_at X G c dm__law_sum (fa_mem 50 rfl),
    fun_at X G c dm__law_groups (fa_mem 51 rfl),
    fun_at X G c dm__law_table (fa_mem 52 rfl),
    fun_at X G c dm__law_dot (fa_mem 53 rfl),
    fun_at X G c dm__law_weights (fa_mem 54 rfl),
    fun_at X G c dm__law_trial_of (fa_mem 55 rfl),
    fun_at X G c dm__law_unit (fa_mem 56 rfl),
    fun_at X G c dm__law_mix (fa_mem 57 rfl),
    fun_at X G c dm_check_model (fa_mem 58 rfl),
    fun_at X G c dm_check_effect (fa_mem 59 rfl),
    fun_at X G c dm_check_other (fa_mem 60 rfl),
    fun_at X G c dm_ratio (fa_mem 61 rfl),
    fun_at X G c dm_over (fa_mem 62 rfl),
    fun_at X G c dm_plus (fa_mem 63 rfl),
    fun_at X G c dm_total (fa_mem 64 rfl),
    fun_at X G c dm_times (fa_mem 65 rfl),
    fun_at X G c dm_dot (fa_mem 66 rfl),
    fun_at X G c dm_yield_by (fa_mem 67 rfl),
    fun_at X G c dm_many_plots (fa_mem 68 rfl),
    fun_at X G c dm_yields_by (fa_mem 69 rfl),
    fun_at X G c dm_loaded (fa_mem 70 rfl),
    fun_at X G c dm_minus (fa_mem 71 rfl),
    fun_at X G c dm_without_column (fa_mem 72 rfl),
    fun_at X G c dm_brought (fa_mem 73 rfl),
    fun_at X G c dm_some_answer (fa_mem 74 rfl),
    fun_at X G c dm_many_levels (fa_mem 75 rfl),
    fun_at X G c dm_whole_rows (fa_mem 76 rfl),
    fun_at X G c dm_turned (fa_mem 77 rfl),
    fun_at X G c dm_normal_rows (fa_mem 78 rfl),
    fun_at X G c dm_whole_question (fa_mem 79 rfl),
    fun_at X G c dm_many_unknowns (fa_mem 80 rfl),
    fun_at X G c dm_parted_world (fa_mem 81 rfl),
    fun_at X G c dm_load_by (fa_mem 82 rfl),
    fun_at X G c dm_best_by (fa_mem 83 rfl),
    fun_at X G c dm_lone_question (fa_mem 84 rfl),
    fun_at X G c dm_signs_of (fa_mem 85 rfl),
    fun_at X G c dm_mix_by (fa_mem 86 rfl),
    fun_at X G c dm_mix (fa_mem 87 rfl),
    fun_at X G c dm__law_right (fa_mem 88 rfl),
    fun_at X G c dm_law (fa_mem 89 rfl)⟩
end GL
set_option Elab.async false
set_option linter.all false
set_option maxRecDepth 100000
set_option maxHeartbeats 1000000
/-! MKw: runs of mirrors, statement by statement. -/
namespace MK
open PySem PySem.Spec PyProof.Rows L2
theorem sCons_nx {a b : Sm} {ρ ρ' : Ro} {h h' : Hm} (e : a ρ h = .ok (.nx, ρ') h') : sCons a b ρ h = b ρ' h' := by unfold sCons mB; rw [e]
theorem sCons_rt {a b : Sm} {ρ ρ' : Ro} {d : SV} {h h' : Hm} (e : a ρ h = .ok (.rt d, ρ') h') : sCons a b ρ h = .ok (.rt d, ρ') h' := by unfold sCons mB; rw [e]; rfl
theorem sAsg_var {a : Em} {i : Nat} {ρ : Ro} {h h' : Hm} {d : SV} (e : a ρ h = .ok d h') : sAsg a (gVar i) ρ h = .ok (.nx, ρ.set i (some d)) h' := by unfold sAsg mB; rw [e]; rfl
theorem mB_ok {α β : Type} {m : Mm α} {f : α → Mm β} {h h' : Hm} {a : α} (e : m h = .ok a h') : mB m f h = f a h' := by unfold mB; rw [e]
theorem forM_nx {t : Gm} {b : Sm} {d : PyData} {ds : List PyData} {ρ ρ1 ρ2 : Ro} {h h1 h2 : Hm} (e1 : t (.val d) ρ h = .ok ρ1 h1) (e2 : b ρ1 h1 = .ok (.nx, ρ2) h2) : MK.forM t b (d :: ds) ρ h = MK.forM t b ds ρ2 h2 := by
  show mB (t (.val d) ρ) (fun ρ1 => mB (b ρ1) fun r => match r.1 with
    | .nx => MK.forM t b ds r.2
    | .ct => MK.forM t b ds r.2
    | .bk => mP (.nx, r.2)
    | .rt d => mP (.rt d, r.2)) h = _
  rw [mB_ok e1, mB_ok e2]
theorem aCons_ok {a : Em} {r : Am} {ρ : Ro} {h h1 h2 : Hm} {d : SV} {ds : List SV} (e : a ρ h = .ok d h1) (q : r ρ h1 = .ok ds h2) : aCons a r ρ h = .ok (d :: ds) h2 := by unfold aCons; rw [mB_ok e, mB_ok q]; rfl
theorem sRet_ok {a : Em} {ρ : Ro} {h h' : Hm} {d : SV} (e : a ρ h = .ok d h') : sRet a ρ h = .ok (.rt d, ρ) h' := by unfold sRet; rw [mB_ok e]; rfl
theorem eLst_ok {o : Bool} {a : Am} {ρ : Ro} {h h1 : Hm} {ds : List SV} {r : Res SV} (e : a ρ h = .ok ds h1) (q : mB (few ds) (fun _ => mLst o ds) h1 = r) : eLst o a ρ h = r := by unfold eLst; rw [mB_ok e]; exact q
theorem guard_ok {c : Bool} {h : Hm} (e : c = true) : guard c h = .ok () h := by subst e; rfl
theorem last_get {h : Hm} {c : Option Cell} : (h ++ [c])[h.length]? = some c := by simp
theorem last_set {h : Hm} {c c' : Option Cell} : (h ++ [c]).set h.length c' = h ++ [c'] := by simp
theorem told_one {e : Em} {ρ : Ro} {h : Hm} {d : PyData} {i : Nat} (q : e ρ h = .ok (.val d) h) : sAsg (eLst true (aCons e aNil)) (gVar i) ρ h = .ok (.nx, ρ.set i (some (.ref h.length))) (h ++ [some (.lst [d])]) := by
  refine sAsg_var ?_
  unfold eLst
  refine (mB_ok (h' := h) (a := [SV.val d]) ?_).trans ?_
  · unfold aCons
    exact (mB_ok q).trans rfl
  · rfl
theorem told_more {e : Em} {ρ : Ro} {h : Hm} {d : PyData} {i : Nat} {ds : List PyData} (hs : slot ρ i = some (.ref h.length)) (hl : ds.length ≤ 10000) (q : e ρ (h ++ [some (.lst ds)]) = .ok (.val d) (h ++ [some (.lst ds)])) :
    sExpr (fun ρ => mB ((eVar i) ρ) fun x => mB (isLs x) fun _ => mB (e ρ) fun y => mApp x y) ρ (h ++ [some (.lst ds)]) = .ok (.nx, ρ) (h ++ [some (.lst (ds ++ [d]))]) := by
  unfold sExpr
  refine (mB_ok (h' := h ++ [some (.lst (ds ++ [d]))]) (a := .val .none) ?_).trans rfl
  refine (mB_ok (h' := h ++ [some (.lst ds)]) (a := .ref h.length) ?_).trans ?_
  · unfold eVar; rw [hs]; rfl
  refine (mB_ok (h' := h ++ [some (.lst ds)]) (a := ()) ?_).trans ?_
  · unfold isLs mLs mB; simp only [last_get]; rfl
  refine (mB_ok q).trans ?_
  unfold mApp mD
  refine (mB_ok (h' := h ++ [some (.lst ds)]) (a := d) rfl).trans ?_
  simp only [last_get, last_set, if_pos hl]
theorem fEq_same {h : Hm} {ds : List PyData} (hs : SeqAt.shaped (PyData.list ds) = true) : fEq (.ref h.length) (.val (.list ds)) (h ++ [some (.lst ds)]) = .ok (.val (.bool true)) (h ++ [some (.lst ds)]) := by
  unfold fEq dat2 mDat
  refine (mB_ok (h' := h ++ [some (.lst ds)]) (a := PyData.list ds) (by simp only [last_get])).trans ?_
  refine (mB_ok (h' := h ++ [some (.lst ds)]) (a := PyData.list ds) rfl).trans ?_
  rw [hs]
  refine (mB_ok (guard_ok rfl)).trans ?_
  show vB (PyData.eqv (.list ds) (.list ds)) _ = _
  rw [SeqAt.eqv_refl _ (SeqAt.canLay_of_shaped hs)]
  rfl
theorem bits_small {x : Int} (h0 : 0 ≤ x) (h : x < 4294967296) : Builtin.Int.intBits x ≤ 32 := PySem.intBits_le_iff.mpr (by omega)
/-- a pool of drawn figures -/
def Pool (h : Hm) (n j : Nat) : Prop := ∃ a b c : Int, h[n]? = some (some (.lst [.int a, .int b, .int c])) ∧ 0 ≤ a ∧ 0 ≤ b ∧ b < 2147483629 ∧ 0 ≤ c ∧ c ≤ j
end MK
set_option Elab.async false
set_option linter.all false
set_option maxRecDepth 100000
set_option maxHeartbeats 1000000
/-! PA: mirrors by equations: the monad's laws, fractions as data, their sizes. -/
namespace MK
open scoped Rat
open PySem PySem.Spec PyProof.Rows L2
/-! ### the monad -/
theorem mB_mP {α β : Type} (a : α) (f : α → Mm β) : mB (mP a) f = f a := rfl
theorem mB_assoc {α β γ : Type} (m : Mm α) (f : α → Mm β) (k : β → Mm γ) : mB (mB m f) k = mB m fun x => mB (f x) k := by
  funext h
  unfold mB
  cases m h <;> rfl
theorem guard_t : guard true = mP () := rfl
theorem guard_of_eq {c : Bool} (h : c = true) : guard c = mP () := by rw [h]; rfl
theorem eVar_z (d : SV) (ρ : Ro) : eVar 0 (some d :: ρ) = mP d := rfl
theorem eVar_s (i : Nat) (o : Option SV) (ρ : Ro) : eVar (i + 1) (o :: ρ) = eVar i ρ := rfl
theorem eC_eq (d : PyData) (ρ : Ro) : eC d ρ = mP (.val d) := rfl
theorem eOp2_eq (F : SV → SV → Mm SV) (a b : Em) (ρ : Ro) : eOp2 F a b ρ = mB (a ρ) fun x => mB (b ρ) fun y => F x y := rfl
theorem eOp1_eq (F : SV → Mm SV) (a : Em) (ρ : Ro) : eOp1 F a ρ = mB (a ρ) F := rfl
theorem aNil_eq (ρ : Ro) : aNil ρ = mP [] := rfl
theorem aCons_eq (a : Em) (r : Am) (ρ : Ro) : aCons a r ρ = mB (a ρ) fun x => mB (r ρ) fun xs => mP (x :: xs) := rfl
theorem aStar_eq (a : Em) (r : Am) (ρ : Ro) : aStar a r ρ = mB (a ρ) fun x => mB (mSeq x) fun xs => mB (r ρ) fun ys => mP (xs.map SV.val ++ ys) := rfl
theorem eArgs_eq (F : List SV → Mm SV) (a : Am) (ρ : Ro) : eArgs F a ρ = mB (a ρ) F := rfl
theorem tE_eq (a : Em) (ρ : Ro) : tE a ρ = mB (a ρ) mBool := rfl
theorem mBool_eq (b : Bool) : mBool (.val (.bool b)) = mP b := rfl
theorem mInt_eq (i : Int) : mInt (.val (.int i)) = mP i := rfl
theorem mD_eq (d : PyData) : mD (.val d) = mP d := rfl
theorem mSeq_t (xs : List PyData) : mSeq (.val (.tuple xs)) = mP xs := rfl
theorem mSeq_l (xs : List PyData) : mSeq (.val (.list xs)) = mP xs := rfl
theorem mLs_l (xs : List PyData) : mLs (.val (.list xs)) = mP xs := rfl
theorem mDat_v (d : PyData) : mDat (.val d) = mP d := rfl
theorem tAnd_eq (a b : Tm) (ρ : Ro) : tAnd a b ρ = mB (a ρ) fun c => if c then b ρ else mP false := rfl
theorem tOr_eq (a b : Tm) (ρ : Ro) : MK.tOr a b ρ = mB (a ρ) fun c => if c then mP true else b ρ := rfl
theorem tNot_eq (a : Tm) (ρ : Ro) : MK.tNot a ρ = mB (a ρ) fun c => mP (!c) := rfl
theorem eAnd_eq (a b : Em) (ρ : Ro) : eAnd a b ρ = mB (a ρ) fun x => mB (mBool x) fun c => if c then b ρ else mP (.val (.bool false)) := rfl
theorem eOr_eq (a b : Em) (ρ : Ro) : eOr a b ρ = mB (a ρ) fun x => mB (mBool x) fun c => if c then mP (.val (.bool true)) else b ρ := rfl
theorem eNot_eq (a : Em) (ρ : Ro) : eNot a ρ = mB (a ρ) fun x => mB (mBool x) fun c => mP (.val (.bool (!c))) := rfl
theorem eIf_eq (c : Tm) (a b : Em) (ρ : Ro) : eIf c a b ρ = mB (c ρ) fun k => if k then a ρ else b ρ := rfl
theorem eChain_eq (F G : SV → SV → Mm SV) (a b c : Em) (ρ : Ro) : eChain F G a b c ρ = mB (a ρ) fun x => mB (b ρ) fun y => mB (F x y) fun r => mB (mBool r) fun k =>
  if k then mB (c ρ) fun z => G y z else mP (.val (.bool false)) := rfl
theorem eTup_eq (a : Am) (ρ : Ro) : eTup a ρ = mB (a ρ) fun ds => mB (few ds) fun _ => mTup ds := rfl
theorem eLst_eq (o : Bool) (a : Am) (ρ : Ro) : eLst o a ρ = mB (a ρ) fun ds => mB (few ds) fun _ => mLst o ds := rfl
theorem few_of {ds : List SV} (h : ds.length ≤ 1000) : few ds = mP () := if_pos h
theorem datas_nil : datas [] = some [] := rfl
theorem datas_val (d : PyData) (r : List SV) : datas (.val d :: r) = (datas r).map (d :: ·) := rfl
theorem datas_map : ∀ xs : List PyData, datas (xs.map SV.val) = some xs
  | [] => rfl
  | x :: xs => by rw [List.map_cons, datas_val, datas_map]; rfl
theorem mTup_of {ds : List SV} {xs : List PyData} (h : datas ds = some xs) : mTup ds = mP (.val (.tuple xs)) := by unfold mTup; rw [h]
theorem mLst_f {ds : List SV} {xs : List PyData} (h : datas ds = some xs) : mLst false ds = mP (.val (.list xs)) := by unfold mLst; rw [h]; rfl
theorem mTup0 : mTup [] = mP (.val (.tuple [])) := rfl
theorem mTup1 (a : PyData) : mTup [.val a] = mP (.val (.tuple [a])) := rfl
theorem mTup2 (a b : PyData) : mTup [.val a, .val b] = mP (.val (.tuple [a, b])) := rfl
theorem mTup3 (a b c : PyData) : mTup [.val a, .val b, .val c] = mP (.val (.tuple [a, b, c])) := rfl
theorem mLst0 : mLst false [] = mP (.val (.list [])) := rfl
theorem mLst1 (a : PyData) : mLst false [.val a] = mP (.val (.list [a])) := rfl
theorem mLst2 (a b : PyData) : mLst false [.val a, .val b] = mP (.val (.list [a, b])) := rfl
theorem mNew_f (xs : List PyData) : mNew false xs = mP (.val (.list xs)) := rfl
theorem b1_eq (F : SV → Mm SV) (x : SV) : b1 F [x] = F x := rfl
theorem b2_eq (F : SV → SV → Mm SV) (x y : SV) : b2 F [x, y] = F x y := rfl
theorem sCons_eq (a b : Sm) (ρ : Ro) : sCons a b ρ = mB (a ρ) fun r => match r.1 with
  | .nx => b r.2
  | _ => mP r := rfl
theorem sNil_eq (ρ : Ro) : sNil ρ = mP (.nx, ρ) := rfl
theorem sAsg_eq (a : Em) (t : Gm) (ρ : Ro) : sAsg a t ρ = mB (a ρ) fun d => mB (t d ρ) fun ρ' => mP (.nx, ρ') := rfl
theorem gVar_eq (i : Nat) (d : SV) (ρ : Ro) : gVar i d ρ = mP (ρ.set i (some d)) := rfl
theorem sRet_eq (a : Em) (ρ : Ro) : sRet a ρ = mB (a ρ) fun d => mP (.rt d, ρ) := rfl
theorem sRetN_eq (ρ : Ro) : sRetN ρ = mP (.rt (.val .none), ρ) := rfl
theorem sIf_eq (c : Tm) (a b : Sm) (ρ : Ro) : sIf c a b ρ = mB (c ρ) fun k => if k then a ρ else b ρ := rfl
theorem sExpr_eq (a : Em) (ρ : Ro) : sExpr a ρ = mB (a ρ) fun _ => mP (.nx, ρ) := rfl
theorem sFor_eq (it : Im) (t : Gm) (b : Sm) (ρ : Ro) : sFor it t b ρ = mB (it ρ) fun ds => MK.forM t b ds ρ := rfl
theorem iSeq_eq (a : Em) (ρ : Ro) : iSeq a ρ = mB (a ρ) mIter := rfl
theorem mIter_l (xs : List PyData) : mIter (.val (.list xs)) = mP xs := rfl
theorem mIter_t (xs : List PyData) : mIter (.val (.tuple xs)) = mP xs := rfl
theorem iEnum_eq (a : Em) (ρ : Ro) : iEnum a ρ = mB (a ρ) fun d => mB (mIter d) fun xs => mP (enumD 0 xs) := rfl
theorem iZip_eq (a b : Em) (ρ : Ro) : iZip a b ρ = mB (a ρ) fun d => mB (b ρ) fun e => mB (mIter d) fun xs => mB (mIter e) fun ys => mP (zipD xs ys) := rfl
theorem iRng1_eq (a : Em) (ρ : Ro) : iRng1 a ρ = mB (a ρ) fun d => mB (mInt d) fun i => mB (guard (smallI i)) fun _ => mP (rngD 0 i.toNat) := rfl
theorem iRng2_eq (a b : Em) (ρ : Ro) : iRng2 a b ρ = mB (a ρ) fun d => mB (b ρ) fun e => mB (mInt d) fun i => mB (mInt e) fun j => mB (guard (smallI i && smallI j)) fun _ => mP (rngD i (j - i).toNat) := rfl
theorem iRngV_eq (a : Em) (ρ : Ro) : iRngV a ρ = mB (a ρ) fun d => mB (mRng d) fun q => mB (guard (smallI q.1 && smallI q.2)) fun _ => mP (rngD q.1 (q.2 - q.1).toNat) := rfl
theorem bRange1_eq (i : Int) : bRange1 (.val (.int i)) = mP (.rng 0 i) := rfl
theorem mRng_eq (lo hi : Int) : mRng (.rng lo hi) = mP (lo, hi) := rfl
theorem eLc_f (it : Im) (t : Gm) (c : Tm) (e : Em) (vs : List Nat) (ρ : Ro) : eLc false it t c e vs ρ = mB (it ρ) fun ds => mB (guard (decide (ds.length ≤ 10000))) fun _ => mB (noX (lcLoop t c e (wipeR (noExc ρ) vs) ds)) fun xs => mP (.val (.list xs)) := rfl
theorem noX_mP {α : Type} (a : α) : noX (mP a) = mP a := rfl
theorem noExc_nil : noExc [] = [] := rfl
theorem noExc_none (ρ : Ro) : noExc (none :: ρ) = none :: noExc ρ := rfl
theorem noExc_val (d : PyData) (ρ : Ro) : noExc (some (.val d) :: ρ) = some (.val d) :: noExc ρ := rfl
theorem noExc_ref (n : Nat) (ρ : Ro) : noExc (some (.ref n) :: ρ) = some (.ref n) :: noExc ρ := rfl
theorem noExc_rng (a b : Int) (ρ : Ro) : noExc (some (.rng a b) :: ρ) = some (.rng a b) :: noExc ρ := rfl
theorem tYesM_eq (ρ : Ro) : tYesM ρ = mP true := rfl
theorem gTup_eq2 (a b : PyData) (g1 g2 : Gm) (ρ : Ro) : gTup 2 (gsCons g1 (gsCons g2 gsNil)) (.val (.tuple [a, b])) ρ = mB (g1 (.val a) ρ) fun ρ1 => mB (g2 (.val b) ρ1) fun ρ2 => mP ρ2 := rfl
theorem gTup_eq3 (a b c : PyData) (g1 g2 g3 : Gm) (ρ : Ro) : gTup 3 (gsCons g1 (gsCons g2 (gsCons g3 gsNil))) (.val (.tuple [a, b, c])) ρ = mB (g1 (.val a) ρ) fun ρ1 => mB (g2 (.val b) ρ1) fun ρ2 => mB (g3 (.val c) ρ2) fun ρ3 => mP ρ3 := rfl
theorem iso_mP (d : PyData) : iso (mP (.val d)) = mP (.val d) := rfl
theorem eCallI_eq (F : Fm) (a : Am) (ρ : Ro) : eCallI F a ρ = mB (a ρ) fun ds => mB (guard (ds.all isVal)) fun _ => iso (F ds) := rfl
theorem eCall_eq (F : Fm) (a : Am) (ρ : Ro) : eCall F a ρ = mB (a ρ) fun ds => mB (guard (ds.all notExc)) fun _ => F ds := rfl
theorem mCall_rt (d : PyData) (ρ : Ro) : mCall (mP (.rt (.val d), ρ)) = mP (.val d) := by
  funext h
  show Res.ok _ (h.take h.length) = _
  rw [List.take_length]
  rfl
theorem mCall_nx (ρ : Ro) : mCall (mP (.nx, ρ)) = mP (.val .none) := by
  funext h
  show Res.ok _ (h.take h.length) = _
  rw [List.take_length]
  rfl
/-- a def of values that keeps no cell -/
theorem fnV_val {n m : Nat} {b : Sm} {ds : List SV} {d : PyData} {ρ : Ro} (hn : ds.length = n) (h : b (ds.map some ++ List.replicate (m - n) none) = mP (.rt (.val d), ρ)) : fnV n m b ds = mP (.val d) := by
  unfold fnV
  rw [guard_of_eq (decide_eq_true hn), mB_mP, h, mCall_rt]
/-- the same, run with no cells around -/
def Runs (F : Fm) (ds : List SV) (d : PyData) : Prop := ∃ h', F ds [] = .ok (.val d) h'
theorem iso_of {F : Fm} {ds : List SV} {d : PyData} (h : Runs F ds d) : iso (F ds) = mP (.val d) := by
  obtain ⟨h', e⟩ := h
  funext k
  unfold iso
  rw [e]
  rfl
theorem iso_eq {F : Fm} {ds : List SV} {d : PyData} (h : F ds = mP (.val d)) : iso (F ds) = mP (.val d) := by rw [h]; rfl
theorem Runs.of_eq {F : Fm} {ds : List SV} {d : PyData} (h : F ds = mP (.val d)) : Runs F ds d := ⟨[], by rw [h]; rfl⟩
theorem fnV_runs {n m : Nat} {b : Sm} {ds : List SV} {d : PyData} {ρ : Ro} {h' : Hm} (hn : ds.length = n) (h : b (ds.map some ++ List.replicate (m - n) none) [] = .ok (.rt (.val d), ρ) h') : Runs (fnV n m b) ds d := by
  refine ⟨h'.take 0, ?_⟩
  unfold fnV
  rw [guard_of_eq (decide_eq_true hn), mB_mP]
  unfold mCall
  rw [h]
  rfl
/-! ### loops -/
theorem lcLoop_map {α : Type} {t : Gm} {c : Tm} {e : Em} {ρ : Ro} {f : α → PyData} {ρ' : α → Ro} {g : α → PyData} : ∀ {xs : List α} (_ : ∀ x ∈ xs, t (.val (f x)) ρ = mP (ρ' x)) (_ : ∀ x ∈ xs, c (ρ' x) = mP true) (_ : ∀ x ∈ xs, e (ρ' x) = mP (.val (g x))), lcLoop t c e ρ (xs.map f) = mP (xs.map g)
  | [], _, _, _ => rfl
  | x :: xs, h1, h2, h3 => by
    show (mB (t (.val (f x)) ρ) fun ρ1 => mB (c ρ1) fun b => if b then mB (e ρ1) fun y => mB (mD y) fun yd => mB (lcLoop t c e ρ (xs.map f)) fun r => mP (yd :: r) else lcLoop t c e ρ (xs.map f)) = _
    rw [h1 x List.mem_cons_self, mB_mP, h2 x List.mem_cons_self, mB_mP, if_pos rfl, h3 x List.mem_cons_self, mB_mP, mD_eq, mB_mP,
      lcLoop_map (fun x hx => h1 x (List.mem_cons_of_mem _ hx)) (fun x hx => h2 x (List.mem_cons_of_mem _ hx)) (fun x hx => h3 x (List.mem_cons_of_mem _ hx))]
    rfl
theorem lcLoop_filter {α : Type} {t : Gm} {c : Tm} {e : Em} {ρ : Ro} {f : α → PyData} {ρ' : α → Ro} {p : α → Bool} {g : α → PyData} : ∀ {xs : List α} (_ : ∀ x ∈ xs, t (.val (f x)) ρ = mP (ρ' x)) (_ : ∀ x ∈ xs, c (ρ' x) = mP (p x)) (_ : ∀ x ∈ xs, p x = true → e (ρ' x) = mP (.val (g x))), lcLoop t c e ρ (xs.map f) = mP ((xs.filter p).map g)
  | [], _, _, _ => rfl
  | x :: xs, h1, h2, h3 => by
    show (mB (t (.val (f x)) ρ) fun ρ1 => mB (c ρ1) fun b => if b then mB (e ρ1) fun y => mB (mD y) fun yd => mB (lcLoop t c e ρ (xs.map f)) fun r => mP (yd :: r) else lcLoop t c e ρ (xs.map f)) = _
    have ih := lcLoop_filter (fun x hx => h1 x (List.mem_cons_of_mem _ hx)) (fun x hx => h2 x (List.mem_cons_of_mem _ hx)) (fun x hx => h3 x (List.mem_cons_of_mem _ hx)) (xs := xs)
    rw [h1 x List.mem_cons_self, mB_mP, h2 x List.mem_cons_self, mB_mP]
    by_cases hp : p x = true
    · rw [hp, if_pos rfl, h3 x List.mem_cons_self hp, mB_mP, mD_eq, mB_mP, ih, List.filter_cons_of_pos hp]
      rfl
    · rw [if_neg hp, ih, List.filter_cons_of_neg hp]
theorem forM_fold {α σ : Type} {t : Gm} {b : Sm} {f : α → PyData} {R : σ → Ro} {R' : σ → α → Ro} {step : σ → α → σ} {I : σ → Prop} : ∀ {xs : List α} {s : σ} (_ : I s) (_ : ∀ s x, I s → x ∈ xs → t (.val (f x)) (R s) = mP (R' s x)) (_ : ∀ s x, I s → x ∈ xs → b (R' s x) = mP (.nx, R (step s x)) ∧ I (step s x)), MK.forM t b (xs.map f) (R s) = mP (.nx, R (xs.foldl step s))
  | [], s, _, _, _ => rfl
  | x :: xs, s, hs, h1, h2 => by
    show (mB (t (.val (f x)) (R s)) fun ρ1 => mB (b ρ1) fun r => match r.1 with
      | .nx => MK.forM t b (xs.map f) r.2
      | .ct => MK.forM t b (xs.map f) r.2
      | .bk => mP (.nx, r.2)
      | .rt d => mP (.rt d, r.2)) = _
    obtain ⟨e, hs'⟩ := h2 s x hs List.mem_cons_self
    rw [h1 s x hs List.mem_cons_self, mB_mP, e, mB_mP]
    exact forM_fold hs' (fun s x hs hx => h1 s x hs (List.mem_cons_of_mem _ hx)) (fun s x hs hx => h2 s x hs (List.mem_cons_of_mem _ hx))
theorem zipD_map {α β : Type} {f : α → PyData} {g : β → PyData} : ∀ (xs : List α) (ys : List β), zipD (xs.map f) (ys.map g) = (xs.zip ys).map fun p => .tuple [f p.1, g p.2]
  | [], ys => by simp [zipD]
  | x :: xs, [] => by simp [zipD]
  | x :: xs, y :: ys => by
    show _ :: zipD _ _ = _
    rw [zipD_map xs ys]
    rfl
theorem enumD_map {α : Type} {f : α → PyData} : ∀ (n : Nat) (xs : List α), enumD n (xs.map f) = (xs.zipIdx n).map fun p => .tuple [.int (p.2 : Nat), f p.1]
  | _, [] => rfl
  | n, x :: xs => by
    show _ :: enumD _ _ = _
    rw [enumD_map (n + 1) xs]
    rfl
theorem rngD_eq : ∀ (lo : Int) (n : Nat), rngD lo n = (List.range n).map fun (k : Nat) => .int (lo + k)
  | _, 0 => rfl
  | lo, n + 1 => by
    show _ :: rngD (lo + 1) n = _
    rw [rngD_eq (lo + 1) n, List.range_succ_eq_map, List.map_cons, List.map_map]
    congr 1
    · simp
    · apply List.map_congr_left
      intro k _
      show PyData.int _ = PyData.int _
      congr 1
      simp only [Nat.succ_eq_add_one]
      push_cast
      omega
/-! ### numbers -/
def bE : Nat := 6700
def mE : Nat := 13500
def Mid (i : Int) : Prop := i.natAbs < 2 ^ mE
theorem nopy {x y : Int} (hx : Mid x) : Builtin.divisionGoesByPylong x y = false := by
  unfold Mid at hx
  unfold Builtin.divisionGoesByPylong
  have key : (if x == 0 then 0 else x.natAbs.log2 / 30 + 1) ≤ 450 := by
    by_cases h0 : (x == 0) = true
    · rw [if_pos h0]; omega
    · rw [if_neg h0]
      have h1 : x.natAbs ≠ 0 := by simpa using h0
      have h2 := (Nat.log2_lt h1).mpr hx
      have h3 : mE = 13500 := rfl
      omega
  simp only [Bool.and_eq_false_iff, decide_eq_false_iff_not]
  by_cases h : (if y == 0 then 0 else y.natAbs.log2 / 30 + 1) > 300
  · right; omega
  · left; exact h
theorem fDiv_mid {i j : Int} (hi : Mid i) (hj : j ≠ 0) : fDiv (.val (.int i)) (.val (.int j)) = mP (.val (.int (i.fdiv j))) := by
  show mB (guard (decide (j ≠ 0) && !Builtin.divisionGoesByPylong i j)) (fun _ => vI (i.fdiv j)) = _
  rw [guard_of_eq (by rw [decide_eq_true hj, nopy hi]; rfl)]
  rfl
theorem fMul_mid {o : Bool} {i j : Int} (hi : Mid i) (hj : Mid j) : fMul o (.val (.int i)) (.val (.int j)) = mP (.val (.int (i * j))) := by
  have h1 : Builtin.Int.intBits i ≤ 13500 := PySem.intBits_le_iff.mpr (show i.natAbs < 2 ^ mE from hi)
  have h2 : Builtin.Int.intBits j ≤ 13500 := PySem.intBits_le_iff.mpr (show j.natAbs < 2 ^ mE from hj)
  show mB (guard (decide (Builtin.Int.intBits i + Builtin.Int.intBits j ≤ 134217728))) (fun _ => vI (i * j)) = _
  rw [guard_of_eq (decide_eq_true (by omega))]
  rfl
theorem fAdd_int {o : Bool} {i j : Int} : fAdd o (.val (.int i)) (.val (.int j)) = mP (.val (.int (i + j))) := rfl
theorem fSub_int {i j : Int} : fSub (.val (.int i)) (.val (.int j)) = mP (.val (.int (i - j))) := rfl
theorem fNeg_int {i : Int} : fNeg (.val (.int i)) = mP (.val (.int (-i))) := rfl
theorem fLt_int {i j : Int} : fLt (.val (.int i)) (.val (.int j)) = mP (.val (.bool (decide (i < j)))) := rfl
theorem fLe_int {i j : Int} : fLe (.val (.int i)) (.val (.int j)) = mP (.val (.bool (decide (i ≤ j)))) := rfl
theorem fGt_int {i j : Int} : fGt (.val (.int i)) (.val (.int j)) = mP (.val (.bool (decide (j < i)))) := rfl
theorem fGe_int {i j : Int} : fGe (.val (.int i)) (.val (.int j)) = mP (.val (.bool (decide (j ≤ i)))) := rfl
theorem bGcd_int {i j : Int} : bGcd (.val (.int i)) (.val (.int j)) = mP (.val (.int (Nat.gcd i.natAbs j.natAbs : Nat))) := rfl
theorem bLen_t (xs : List PyData) : bLen (.val (.tuple xs)) = mP (.val (.int (xs.length : Nat))) := rfl
theorem bLen_l (xs : List PyData) : bLen (.val (.list xs)) = mP (.val (.int (xs.length : Nat))) := rfl
theorem bTuple_l (xs : List PyData) : bTuple (.val (.list xs)) = mP (.val (.tuple xs)) := rfl
theorem bTuple_t (xs : List PyData) : bTuple (.val (.tuple xs)) = mP (.val (.tuple xs)) := rfl
theorem bList_t (xs : List PyData) : bList false (.val (.tuple xs)) = mP (.val (.list xs)) := rfl
theorem bList_l (xs : List PyData) : bList false (.val (.list xs)) = mP (.val (.list xs)) := rfl
theorem bAll_l {xs : List PyData} {bs : List Bool} (h : boolsD xs = some bs) : bAll (.val (.list xs)) = mP (.val (.bool (bs.all id))) := by
  show (mB (opt (boolsD xs)) fun is => vB (is.all id)) = _
  rw [h]
  rfl
theorem bAny_l {xs : List PyData} {bs : List Bool} (h : boolsD xs = some bs) : bAny (.val (.list xs)) = mP (.val (.bool (bs.any id))) := by
  show (mB (opt (boolsD xs)) fun is => vB (is.any id)) = _
  rw [h]
  rfl
theorem boolsD_map {α : Type} (f : α → Bool) : ∀ xs : List α, boolsD (xs.map fun x => PyData.bool (f x)) = some (xs.map f)
  | [] => rfl
  | x :: xs => by
    show (boolsD (xs.map _)).map _ = _
    rw [boolsD_map f xs]
    rfl
theorem fIx_t {xs : List PyData} {i : Int} {d : PyData} (h : atI xs i = some d) : fIx (.val (.tuple xs)) (.val (.int i)) = mP (.val d) := by
  show (mB (opt (atI xs i)) fun d => mP (SV.val d)) = _
  rw [h]
  rfl
theorem fIx_l {xs : List PyData} {i : Int} {d : PyData} (h : atI xs i = some d) : fIx (.val (.list xs)) (.val (.int i)) = mP (.val d) := by
  show (mB (opt (atI xs i)) fun d => mP (SV.val d)) = _
  rw [h]
  rfl
theorem atI_nat {xs : List PyData} {n : Nat} {d : PyData} (h : xs[n]? = some d) : atI xs (n : Int) = some d := by
  unfold atI ixN
  have : n < xs.length := (List.getElem?_eq_some_iff.mp h).1
  rw [if_pos (by omega), if_pos (by omega)]
  simpa using h
/-! ### fractions -/
def fr (q : Rat) : PyData := .tuple [.int q.num, .int (q.den : Int)]
theorem fr_inj {p q : Rat} (h : fr p = fr q) : p = q := by
  unfold fr at h
  injection h with h
  injection h with h1 h2
  injection h1 with h1
  injection h2 with h2 _
  injection h2 with h2
  exact Rat.ext h1 (by omega)
theorem fIx_fr0 (q : Rat) : fIx (.val (fr q)) (.val (.int 0)) = mP (.val (.int q.num)) := rfl
theorem fIx_fr1 (q : Rat) : fIx (.val (fr q)) (.val (.int 1)) = mP (.val (.int (q.den : Int))) := rfl
def Sz (q : Rat) : Prop := q.num.natAbs < 2 ^ bE ∧ q.den < 2 ^ bE
theorem pow_mid : (2 : Nat) ^ bE * 2 ^ bE * 2 ≤ 2 ^ mE := by
  rw [← Nat.pow_add, ← Nat.pow_succ]
  exact Nat.pow_le_pow_right (by omega) (by decide)
theorem pow_mid1 : (2 : Nat) ^ bE ≤ 2 ^ mE := Nat.pow_le_pow_right (by omega) (by decide)
theorem mid_mul {i j : Int} (hi : i.natAbs < 2 ^ bE) (hj : j.natAbs < 2 ^ bE) : (i * j).natAbs < 2 ^ bE * 2 ^ bE := by
  rw [Int.natAbs_mul]
  exact Nat.mul_lt_mul'' hi hj
theorem Sz.mn {q : Rat} (h : Sz q) : Mid q.num := Nat.lt_of_lt_of_le h.1 pow_mid1
theorem Sz.md {q : Rat} (h : Sz q) : Mid (q.den : Int) := by
  unfold Mid
  rw [Int.natAbs_natCast]
  exact Nat.lt_of_lt_of_le h.2 pow_mid1
theorem den_ne (q : Rat) : (q.den : Int) ≠ 0 := by
  have := q.den_nz
  omega
theorem den_nat (q : Rat) : ((q.den : Int)).natAbs = q.den := Int.natAbs_natCast _
theorem num_nat {q : Rat} (h : Sz q) : q.num.natAbs < 2 ^ bE := h.1
theorem den_lt {q : Rat} (h : Sz q) : ((q.den : Int)).natAbs < 2 ^ bE := by rw [den_nat]; exact h.2
theorem mid_prod {i j : Int} (hi : i.natAbs < 2 ^ bE) (hj : j.natAbs < 2 ^ bE) : Mid (i * j) := by
  unfold Mid
  have := mid_mul hi hj
  have := pow_mid
  omega
theorem mid_sum {a b c d : Int} (ha : a.natAbs < 2 ^ bE) (hb : b.natAbs < 2 ^ bE) (hc : c.natAbs < 2 ^ bE) (hd : d.natAbs < 2 ^ bE) : Mid (a * b + c * d) := by
  unfold Mid
  have h1 := mid_mul ha hb
  have h2 := mid_mul hc hd
  have := Int.natAbs_add_le (a * b) (c * d)
  have := pow_mid
  omega
theorem mid_dif {a b c d : Int} (ha : a.natAbs < 2 ^ bE) (hb : b.natAbs < 2 ^ bE) (hc : c.natAbs < 2 ^ bE) (hd : d.natAbs < 2 ^ bE) : Mid (a * b - c * d) := by
  unfold Mid
  have h1 := mid_mul ha hb
  have h2 := mid_mul hc hd
  have := Int.natAbs_sub_le (a * b) (c * d)
  have := pow_mid
  omega
/-- the fraction of two whole numbers, as the program reduces it -/
theorem red_pos {t l : Int} (hl : 0 < l) : t.fdiv (Nat.gcd t.natAbs l.natAbs : Nat) = (t /. l : Rat).num ∧ l.fdiv (Nat.gcd t.natAbs l.natAbs : Nat) = ((t /. l : Rat).den : Int) := by
  have hg : (Nat.gcd t.natAbs l.natAbs : Int) = (Int.gcd l t : Int) := by rw [Int.gcd_comm]; rfl
  have d1 : ((Int.gcd l t : Nat) : Int) ∣ t := Int.gcd_dvd_right ..
  have d2 : ((Int.gcd l t : Nat) : Int) ∣ l := Int.gcd_dvd_left ..
  rw [hg, Int.fdiv_eq_ediv_of_dvd d1, Int.fdiv_eq_ediv_of_dvd d2, Rat.num_divInt, Rat.den_divInt, if_neg (by omega), Int.sign_eq_one_of_pos hl, Int.one_mul]
  refine ⟨rfl, ?_⟩
  obtain ⟨n, rfl⟩ : ∃ n : Nat, l = n := ⟨l.toNat, by omega⟩
  rw [Int.natAbs_natCast]
  rfl
theorem red_neg {t l : Int} (hl : l < 0) : t.fdiv (-(Nat.gcd t.natAbs l.natAbs : Nat)) = (t /. l : Rat).num ∧ l.fdiv (-(Nat.gcd t.natAbs l.natAbs : Nat)) = ((t /. l : Rat).den : Int) := by
  have h := red_pos (t := -t) (l := -l) (by omega)
  rw [Int.natAbs_neg, Int.natAbs_neg, Rat.neg_divInt_neg] at h
  rw [← h.1, ← h.2]
  refine ⟨?_, ?_⟩
  · rw [← Int.neg_fdiv_neg, Int.neg_neg]
  · rw [← Int.neg_fdiv_neg, Int.neg_neg]
theorem add_divInt (a b : Rat) : (a.num * b.den + b.num * a.den) /. ((a.den : Int) * b.den) = a + b := by
  conv => rhs; rw [← Rat.num_divInt_den a, ← Rat.num_divInt_den b]
  rw [Rat.divInt_add_divInt _ _ (den_ne a) (den_ne b)]
theorem sub_divInt (a b : Rat) : (a.num * b.den - b.num * a.den) /. ((a.den : Int) * b.den) = a - b := by
  conv => rhs; rw [← Rat.num_divInt_den a, ← Rat.num_divInt_den b]
  rw [Rat.divInt_sub_divInt _ _ (den_ne a) (den_ne b)]
theorem mul_divInt (a b : Rat) : (a.num * b.num) /. ((a.den : Int) * b.den) = a * b := by
  conv => rhs; rw [← Rat.num_divInt_den a, ← Rat.num_divInt_den b]
  rw [Rat.divInt_mul_divInt]
theorem div_divInt (a b : Rat) : (a.num * b.den) /. ((a.den : Int) * b.num) = a / b := by
  conv => rhs; rw [← Rat.num_divInt_den a, ← Rat.num_divInt_den b]
  rw [Rat.div_def, Rat.inv_divInt, Rat.divInt_mul_divInt]
theorem lt_int (a b : Rat) : decide (a.num * (b.den : Int) < b.num * (a.den : Int)) = decide (a < b) := decide_eq_decide.mpr (Rat.lt_iff a b).symm
theorem sPar_eq (i j : Nat) (a : Am) (ρ : Ro) : sPar i j a ρ = mB (a ρ) fun ds => match ds with
  | [d, e] => mP (.nx, (ρ.set i (some d)).set j (some e))
  | _ => mStuck := rfl
theorem bAbs_int (i : Int) : bAbs (.val (.int i)) = mP (.val (.int (if i < 0 then -i else i))) := rfl
theorem bIntB_int (i : Int) : bIntB (.val (.int i)) = mP (.val (.int i)) := rfl
theorem bIntB_bool (b : Bool) : bIntB (.val (.bool b)) = mP (.val (.int (if b then 1 else 0))) := rfl
theorem fMod_int {i j : Int} (hj : j ≠ 0) : fMod (.val (.int i)) (.val (.int j)) = mP (.val (.int (i.fmod j))) := by
  show mB (guard (decide (j ≠ 0))) (fun _ => vI (i.fmod j)) = _
  rw [guard_of_eq (decide_eq_true hj)]
  rfl
/-! ### lists and tuples alike -/
def Sq (p : PyData) (xs : List PyData) : Prop := p = .list xs ∨ p = .tuple xs
theorem Sq.l (xs : List PyData) : Sq (.list xs) xs := .inl rfl
theorem Sq.t (xs : List PyData) : Sq (.tuple xs) xs := .inr rfl
theorem Sq.iter {p : PyData} {xs : List PyData} (h : Sq p xs) : mIter (.val p) = mP xs := by rcases h with rfl | rfl <;> rfl
theorem Sq.seq {p : PyData} {xs : List PyData} (h : Sq p xs) : mSeq (.val p) = mP xs := by rcases h with rfl | rfl <;> rfl
theorem Sq.len {p : PyData} {xs : List PyData} (h : Sq p xs) : bLen (.val p) = mP (.val (.int (xs.length : Nat))) := by rcases h with rfl | rfl <;> rfl
theorem Sq.tup {p : PyData} {xs : List PyData} (h : Sq p xs) : bTuple (.val p) = mP (.val (.tuple xs)) := by rcases h with rfl | rfl <;> rfl
theorem Sq.lst {p : PyData} {xs : List PyData} (h : Sq p xs) : bList false (.val p) = mP (.val (.list xs)) := by rcases h with rfl | rfl <;> rfl
theorem Sq.ix {p : PyData} {xs : List PyData} {k : Nat} {d : PyData} (h : Sq p xs) (hk : xs[k]? = some d) : fIx (.val p) (.val (.int (k : Int))) = mP (.val d) := by
  rcases h with rfl | rfl
  · exact fIx_l (atI_nat hk)
  · exact fIx_t (atI_nat hk)
theorem map_get {α : Type} {f : α → PyData} {xs : List α} {k : Nat} (hk : k < xs.length) : (xs.map f)[k]? = some (f xs[k]) := by rw [List.getElem?_map, List.getElem?_eq_getElem hk]; rfl
theorem getD_get {α : Type} {xs : List α} {k : Nat} {z : α} (hk : k < xs.length) : xs.getD k z = xs[k] := by rw [List.getD_eq_getElem?_getD, List.getElem?_eq_getElem hk]; rfl
theorem Sq.ixR {p : PyData} {xs : List Rat} {k : Nat} (h : Sq p (xs.map fr)) (hk : k < xs.length) : fIx (.val p) (.val (.int (k : Int))) = mP (.val (fr (xs.getD k 0))) := by
  rw [getD_get hk]
  exact h.ix (map_get hk)
theorem small_nat {n : Nat} (h : n ≤ 100000) : smallI (n : Int) = true := decide_eq_true (by omega)
theorem guard_le {n m : Nat} (h : n ≤ m) : guard (decide (n ≤ m)) = mP () := guard_of_eq (decide_eq_true h)
theorem iRng1_nat {a : Em} {ρ : Ro} {n : Nat} (e : a ρ = mP (.val (.int (n : Int)))) (h : n ≤ 100000) : iRng1 a ρ = mP ((List.range n).map fun (k : Nat) => PyData.int (k : Int)) := by
  rw [iRng1_eq, e, mB_mP, mInt_eq, mB_mP, guard_of_eq (small_nat h), mB_mP, rngD_eq]
  simp
theorem iRng2_nat {a b : Em} {ρ : Ro} {n m : Nat} (e : a ρ = mP (.val (.int (n : Int)))) (e2 : b ρ = mP (.val (.int (m : Int)))) (h : n ≤ 100000) (h2 : m ≤ 100000) : iRng2 a b ρ = mP ((List.range' n (m - n)).map fun (k : Nat) => PyData.int (k : Int)) := by
  rw [iRng2_eq, e, mB_mP, e2, mB_mP, mInt_eq, mB_mP, mInt_eq, mB_mP, guard_of_eq (by rw [small_nat h, small_nat h2]; rfl), mB_mP, rngD_eq]
  congr 1
  have e3 : ((m : Int) - (n : Int)).toNat = m - n := by omega
  rw [e3, List.range'_eq_map_range, List.map_map]
  apply List.map_congr_left
  intro k _
  show PyData.int _ = PyData.int _
  congr 1
/-- a comprehension by its items -/
theorem eLc_map {α : Type} {it : Im} {t : Gm} {c : Tm} {e : Em} {vs : List Nat} {ρ ρ0 : Ro} {xs : List α} {f : α → PyData} {ρ' : α → Ro} {g : α → PyData} (hi : it ρ = mP (xs.map f)) (hl : xs.length ≤ 10000) (h0 : wipeR (noExc ρ) vs = ρ0) (h1 : ∀ x ∈ xs, t (.val (f x)) ρ0 = mP (ρ' x)) (h2 : ∀ x ∈ xs, c (ρ' x) = mP true) (h3 : ∀ x ∈ xs, e (ρ' x) = mP (.val (g x))) :
    eLc false it t c e vs ρ = mP (.val (.list (xs.map g))) := by
  rw [eLc_f, hi, mB_mP, guard_le (by rw [List.length_map]; exact hl), mB_mP, h0, lcLoop_map h1 h2 h3]
  rfl
theorem eLc_filter {α : Type} {it : Im} {t : Gm} {c : Tm} {e : Em} {vs : List Nat} {ρ ρ0 : Ro} {xs : List α} {f : α → PyData} {ρ' : α → Ro} {p : α → Bool} {g : α → PyData} (hi : it ρ = mP (xs.map f)) (hl : xs.length ≤ 10000) (h0 : wipeR (noExc ρ) vs = ρ0) (h1 : ∀ x ∈ xs, t (.val (f x)) ρ0 = mP (ρ' x)) (h2 : ∀ x ∈ xs, c (ρ' x) = mP (p x)) (h3 : ∀ x ∈ xs, p x = true → e (ρ' x) = mP (.val (g x))) :
    eLc false it t c e vs ρ = mP (.val (.list ((xs.filter p).map g))) := by
  rw [eLc_f, hi, mB_mP, guard_le (by rw [List.length_map]; exact hl), mB_mP, h0, lcLoop_filter h1 h2 h3]
  rfl
theorem forM_cons {t : Gm} {b : Sm} {d : PyData} {ds : List PyData} {ρ ρ1 ρ2 : Ro} (e1 : t (.val d) ρ = mP ρ1) (e2 : b ρ1 = mP (.nx, ρ2)) : MK.forM t b (d :: ds) ρ = MK.forM t b ds ρ2 := by
  show mB (t (.val d) ρ) (fun ρ1 => mB (b ρ1) fun r => match r.1 with
    | .nx => MK.forM t b ds r.2
    | .ct => MK.forM t b ds r.2
    | .bk => mP (.nx, r.2)
    | .rt d => mP (.rt d, r.2)) = _
  rw [e1, mB_mP, e2, mB_mP]
theorem forM_nil {t : Gm} {b : Sm} {ρ : Ro} : MK.forM t b [] ρ = mP (.nx, ρ) := rfl
theorem zip_map {α β γ : Type} {g : α → β → γ} {f : γ → PyData} : ∀ (xs : List α) (ys : List β), ((xs.zip ys).map fun z => f (g z.1 z.2)) = (List.zipWith g xs ys).map f
  | [], _ => by simp
  | _ :: _, [] => by simp
  | x :: xs, y :: ys => by
    rw [List.zip_cons_cons, List.map_cons, zip_map xs ys, List.zipWith_cons_cons, List.map_cons]
end MK
set_option Elab.async false
set_option linter.all false
set_option maxRecDepth 100000
set_option maxHeartbeats 1000000
/-! PA2: equality of data, what may be compared. -/
namespace MK
open PySem PySem.Spec PyProof.Rows L2
theorem shaped_of {d : PyData} (h1 : d.canLay0 = true) (h2 : d.depth ≤ 64) : SeqAt.shaped d = true := by
  unfold SeqAt.shaped
  rw [h1, decide_eq_true h2]
  rfl
theorem lay_int (i : Int) : (PyData.int i).canLay0 = true := by simp [PyData.canLay0]
theorem lay_none : (PyData.none).canLay0 = true := by simp [PyData.canLay0]
theorem lay_bool (b : Bool) : (PyData.bool b).canLay0 = true := by simp [PyData.canLay0]
theorem layAll_map {α : Type} {f : α → PyData} : ∀ {xs : List α}, (∀ x ∈ xs, (f x).canLay0 = true) → PyData.canLayAll0 (xs.map f) = true
  | [], _ => by simp [PyData.canLayAll0]
  | x :: xs, h => by
    rw [List.map_cons]
    simp only [PyData.canLayAll0, h x List.mem_cons_self, layAll_map fun y hy => h y (List.mem_cons_of_mem _ hy), Bool.and_true]
theorem lay_list {α : Type} {f : α → PyData} {xs : List α} (h : ∀ x ∈ xs, (f x).canLay0 = true) : (PyData.list (xs.map f)).canLay0 = true := by simp only [PyData.canLay0, layAll_map h]
theorem lay_tuple {α : Type} {f : α → PyData} {xs : List α} (h : ∀ x ∈ xs, (f x).canLay0 = true) : (PyData.tuple (xs.map f)).canLay0 = true := by simp only [PyData.canLay0, layAll_map h]
theorem dep_int (i : Int) : (PyData.int i).depth = 0 := by simp [PyData.depth]
theorem depAll_map {α : Type} {f : α → PyData} {n : Nat} : ∀ {xs : List α}, (∀ x ∈ xs, (f x).depth ≤ n) → PyData.depthAll (xs.map f) ≤ n
  | [], _ => by simp [PyData.depthAll]
  | x :: xs, h => by
    rw [List.map_cons]
    simp only [PyData.depthAll]
    have h1 := h x List.mem_cons_self
    have h2 := depAll_map (xs := xs) fun y hy => h y (List.mem_cons_of_mem _ hy)
    omega
theorem dep_list {α : Type} {f : α → PyData} {n : Nat} {xs : List α} (h : ∀ x ∈ xs, (f x).depth ≤ n) : (PyData.list (xs.map f)).depth ≤ n + 1 := by
  simp only [PyData.depth]
  have := depAll_map h
  omega
theorem dep_tuple {α : Type} {f : α → PyData} {n : Nat} {xs : List α} (h : ∀ x ∈ xs, (f x).depth ≤ n) : (PyData.tuple (xs.map f)).depth ≤ n + 1 := by
  simp only [PyData.depth]
  have := depAll_map h
  omega
theorem lay_fr (q : Rat) : (fr q).canLay0 = true := by simp [fr, PyData.canLay0, PyData.canLayAll0]
theorem dep_fr (q : Rat) : (fr q).depth = 1 := by simp [fr, PyData.depth, PyData.depthAll]
theorem sh_fr (q : Rat) : SeqAt.shaped (fr q) = true := shaped_of (lay_fr q) (by rw [dep_fr]; omega)
theorem sh_int (i : Int) : SeqAt.shaped (.int i) = true := shaped_of (lay_int i) (by rw [dep_int]; omega)
theorem sh_nil : SeqAt.shaped (.list []) = true := shaped_of (by simp [PyData.canLay0, PyData.canLayAll0]) (by simp [PyData.depth, PyData.depthAll])
theorem sh_tnil : SeqAt.shaped (.tuple []) = true := shaped_of (by simp [PyData.canLay0, PyData.canLayAll0]) (by simp [PyData.depth, PyData.depthAll])
theorem fEq_of {x y : PyData} (hx : SeqAt.shaped x = true) (hy : SeqAt.shaped y = true) : fEq (.val x) (.val y) = mP (.val (.bool (PyData.eqv x y))) := by
  unfold fEq dat2
  rw [mDat_v, mB_mP, mDat_v, mB_mP, hx, hy]
  rfl
theorem fNe_of {x y : PyData} (hx : SeqAt.shaped x = true) (hy : SeqAt.shaped y = true) : fNe (.val x) (.val y) = mP (.val (.bool (!PyData.eqv x y))) := by
  unfold fNe dat2
  rw [mDat_v, mB_mP, mDat_v, mB_mP, hx, hy]
  rfl
theorem eqv_int (i j : Int) : PyData.eqv (.int i) (.int j) = decide (i = j) := by
  simp only [PyData.eqv]
  rfl
theorem fEq_int (i j : Int) : fEq (.val (.int i)) (.val (.int j)) = mP (.val (.bool (decide (i = j)))) := by rw [fEq_of (sh_int i) (sh_int j), eqv_int]
theorem fNe_int (i j : Int) : fNe (.val (.int i)) (.val (.int j)) = mP (.val (.bool (!decide (i = j)))) := by rw [fNe_of (sh_int i) (sh_int j), eqv_int]
theorem eqv_fr (p q : Rat) : PyData.eqv (fr p) (fr q) = decide (p = q) := by
  unfold fr
  simp only [PyData.eqv, PyData.eqvAll, Bool.and_true]
  by_cases h : p = q
  · subst h
    simp
  · rw [decide_eq_false h]
    by_cases h1 : p.num = q.num
    · have h2 : p.den ≠ q.den := fun z => h (Rat.ext h1 z)
      have h3 : (p.den : Int) ≠ (q.den : Int) := by omega
      have : ((p.den : Int) == (q.den : Int)) = false := by simpa using h3
      rw [this, Bool.and_false]
    · have : (p.num == q.num) = false := by simpa using h1
      rw [this, Bool.false_and]
theorem fEq_fr (p q : Rat) : fEq (.val (fr p)) (.val (fr q)) = mP (.val (.bool (decide (p = q)))) := by rw [fEq_of (sh_fr p) (sh_fr q), eqv_fr]
theorem fNe_fr (p q : Rat) : fNe (.val (fr p)) (.val (fr q)) = mP (.val (.bool (!decide (p = q)))) := by rw [fNe_of (sh_fr p) (sh_fr q), eqv_fr]
theorem fr_zero : (PyData.tuple [.int 0, .int 1]) = fr 0 := rfl
theorem fr_one : (PyData.tuple [.int 1, .int 1]) = fr 1 := rfl
theorem fr_int (i : Int) : (PyData.tuple [.int i, .int 1]) = fr (i : Rat) := rfl
theorem eqv_nil (xs : List PyData) : PyData.eqv (.list xs) (.list []) = xs.isEmpty := by
  cases xs <;> simp [PyData.eqv, PyData.eqvAll]
theorem eqv_tnil (xs : List PyData) : PyData.eqv (.tuple xs) (.tuple []) = xs.isEmpty := by
  cases xs <;> simp [PyData.eqv, PyData.eqvAll]
theorem fNe_nil {xs : List PyData} (h : SeqAt.shaped (.list xs) = true) : fNe (.val (.list xs)) (.val (.list [])) = mP (.val (.bool (!xs.isEmpty))) := by rw [fNe_of h sh_nil, eqv_nil]
theorem fEq_nil {xs : List PyData} (h : SeqAt.shaped (.list xs) = true) : fEq (.val (.list xs)) (.val (.list [])) = mP (.val (.bool xs.isEmpty)) := by rw [fEq_of h sh_nil, eqv_nil]
theorem fNe_tnil {xs : List PyData} (h : SeqAt.shaped (.tuple xs) = true) : fNe (.val (.tuple xs)) (.val (.tuple [])) = mP (.val (.bool (!xs.isEmpty))) := by rw [fNe_of h sh_tnil, eqv_tnil]
theorem fEq_tnil {xs : List PyData} (h : SeqAt.shaped (.tuple xs) = true) : fEq (.val (.tuple xs)) (.val (.tuple [])) = mP (.val (.bool xs.isEmpty)) := by rw [fEq_of h sh_tnil, eqv_tnil]
theorem sh_ints {α : Type} {f : α → Int} (xs : List α) : SeqAt.shaped (.list (xs.map fun x => PyData.int (f x))) = true := by
  have h := dep_list (n := 0) (f := fun x => PyData.int (f x)) (xs := xs) (fun _ _ => by rw [dep_int]; exact Nat.le_refl _)
  exact shaped_of (lay_list fun _ _ => lay_int _) (by omega)
theorem sh_tints {α : Type} {f : α → Int} (xs : List α) : SeqAt.shaped (.tuple (xs.map fun x => PyData.int (f x))) = true := by
  have h := dep_tuple (n := 0) (f := fun x => PyData.int (f x)) (xs := xs) (fun _ _ => by rw [dep_int]; exact Nat.le_refl _)
  exact shaped_of (lay_tuple fun _ _ => lay_int _) (by omega)
/-- no truths, no dicts: equal in Python only where equal -/
def nbD : PyData → Bool
  | .none => true
  | .bool _ => false
  | .int _ => true
  | .str _ => true
  | .list xs => nbDs xs
  | .tuple xs => nbDs xs
  | .dict _ => false
where nbDs : List PyData → Bool
  | [] => true
  | x :: xs => nbD x && nbDs xs
mutual
theorem eqv_nb : ∀ {x y : PyData}, nbD x = true → nbD y = true → PyData.eqv x y = true → x = y
  | .none, y, _, h2, h => by cases y <;> first | rfl | (simp [PyData.eqv] at h) | (simp [nbD] at h2)
  | .bool _, _, h1, _, _ => by simp [nbD] at h1
  | .int i, y, _, h2, h => by cases y <;> first | (simp [nbD] at h2; done) | (simp [PyData.eqv] at h; rw [h]; done) | (simp [PyData.eqv] at h; done)
  | .str i, y, _, h2, h => by cases y <;> first | (simp [PyData.eqv] at h; rw [h]) | (simp [PyData.eqv] at h) | (simp [nbD] at h2)
  | .list xs, y, h1, h2, h => by
    cases y with
    | list ys =>
      simp only [nbD] at h1 h2
      simp only [PyData.eqv] at h
      rw [eqv_nbs h1 h2 h]
    | _ => first | (simp [PyData.eqv] at h) | (simp [nbD] at h2)
  | .tuple xs, y, h1, h2, h => by
    cases y with
    | tuple ys =>
      simp only [nbD] at h1 h2
      simp only [PyData.eqv] at h
      rw [eqv_nbs h1 h2 h]
    | _ => first | (simp [PyData.eqv] at h) | (simp [nbD] at h2)
  | .dict _, _, h1, _, _ => by simp [nbD] at h1
theorem eqv_nbs : ∀ {xs ys : List PyData}, nbD.nbDs xs = true → nbD.nbDs ys = true → PyData.eqvAll xs ys = true → xs = ys
  | [], ys, _, _, h => by cases ys <;> first | rfl | (simp [PyData.eqvAll] at h)
  | x :: xs, ys, h1, h2, h => by
    cases ys with
    | nil => simp [PyData.eqvAll] at h
    | cons y ys =>
      simp only [nbD.nbDs, Bool.and_eq_true] at h1 h2
      simp only [PyData.eqvAll, Bool.and_eq_true] at h
      rw [eqv_nb h1.1 h2.1 h.1, eqv_nbs h1.2 h2.2 h.2]
end
end MK
set_option Elab.async false
set_option linter.all false
set_option maxRecDepth 100000
set_option maxHeartbeats 1000000
/-! PA3: mirrors at a heap of cells. -/
namespace MK
open PySem PySem.Spec PyProof.Rows L2
theorem mP_app {α : Type} (a : α) (h : Hm) : mP a h = .ok a h := rfl
theorem mB_app {α β : Type} {m : Mm α} {f : α → Mm β} {h h' : Hm} {a : α} (e : m h = .ok a h') : mB m f h = f a h' := mB_ok e
theorem mB_def {α β : Type} (m : Mm α) (f : α → Mm β) (h : Hm) : mB m f h = match m h with
  | .ok a h' => f a h'
  | .exn x h' => .exn x h'
  | .stuck => .stuck := rfl
theorem mSeq_ref {h : Hm} {n : Nat} {xs : List PyData} (e : h[n]? = some (some (.lst xs))) : mSeq (.ref n) h = .ok xs h := by unfold mSeq; simp only [e]
theorem mLs_ref {h : Hm} {n : Nat} {xs : List PyData} (e : h[n]? = some (some (.lst xs))) : mLs (.ref n) h = .ok xs h := by unfold mLs; simp only [e]
theorem isLs_ref {h : Hm} {n : Nat} {xs : List PyData} (e : h[n]? = some (some (.lst xs))) : isLs (.ref n) h = .ok () h := by
  unfold isLs
  rw [mB_app (mLs_ref e)]
  rfl
theorem bLen_ref {h : Hm} {n : Nat} {xs : List PyData} (e : h[n]? = some (some (.lst xs))) : bLen (.ref n) h = .ok (.val (.int (xs.length : Nat))) h := by
  unfold bLen
  rw [mB_app (mSeq_ref e)]
  rfl
theorem bTuple_ref {h : Hm} {n : Nat} {xs : List PyData} (e : h[n]? = some (some (.lst xs))) : bTuple (.ref n) h = .ok (.val (.tuple xs)) h := by
  unfold bTuple
  rw [mB_app (mSeq_ref e)]
  rfl
theorem fIx_ref {h : Hm} {n : Nat} {xs : List PyData} {i : Int} {d : PyData} (hn : h[n]? = some (some (.lst xs))) (hi : atI xs i = some d) : fIx (.ref n) (.val (.int i)) h = .ok (.val d) h := by
  unfold fIx
  rw [mB_app (mSeq_ref hn), mB_app (m := mInt (.val (.int i))) (h' := h) (a := i) rfl, hi]
  rfl
theorem fIx_refN {h : Hm} {n k : Nat} {xs : List PyData} {d : PyData} (e : h[n]? = some (some (.lst xs))) (hk : xs[k]? = some d) : fIx (.ref n) (.val (.int (k : Int))) h = .ok (.val d) h := fIx_ref e (atI_nat hk)
theorem mFrz_ref {h : Hm} {n : Nat} {xs : List PyData} (e : h[n]? = some (some (.lst xs))) : mFrz (.ref n) h = .ok (.val (.list xs)) (h.set n none) := by unfold mFrz; simp only [e]
theorem mNew_t (xs : List PyData) (h : Hm) : mNew true xs h = .ok (.ref h.length) (h ++ [some (.lst xs)]) := rfl
theorem mLst_t {ds : List SV} {xs : List PyData} (e : datas ds = some xs) (h : Hm) : mLst true ds h = .ok (.ref h.length) (h ++ [some (.lst xs)]) := by unfold mLst; rw [e]; rfl
theorem mApp_ref {h : Hm} {n : Nat} {xs : List PyData} {d : PyData} (e : h[n]? = some (some (.lst xs))) (hl : xs.length ≤ 10000) : mApp (.ref n) (.val d) h = .ok (.val .none) (h.set n (some (.lst (xs ++ [d])))) := by
  unfold mApp
  rw [mB_ok (m := mD (.val d)) (h' := h) (a := d) rfl]
  simp only [e, if_pos hl]
theorem mSetIx_ref {h : Hm} {n j : Nat} {xs : List PyData} {d : PyData} (e : h[n]? = some (some (.lst xs))) (hj : j < xs.length) : mSetIx (.ref n) (.val (.int (j : Int))) (.val d) h = .ok () (h.set n (some (.lst (xs.set j d)))) := by
  unfold mSetIx
  rw [mB_ok (m := mInt (.val (.int (j : Int)))) (h' := h) (a := (j : Int)) rfl, mB_ok (m := mD (.val d)) (h' := h) (a := d) rfl]
  have hx : ixN xs.length (j : Int) = some j := by
    unfold ixN
    rw [if_pos (by omega), if_pos (by omega)]
    simp
  simp only [e, hx]
theorem gIx_eq (a b : Em) (d : SV) (ρ : Ro) : gIx a b d ρ = mB (a ρ) fun x => mB (b ρ) fun y => mB (mSetIx x y d) fun _ => mP ρ := rfl
theorem eFrz_eq (i : Nat) (ρ : Ro) : eFrz i ρ = mB (eVar i ρ) mFrz := rfl
theorem cell_set {h : Hm} {n : Nat} {c : Option Cell} (hn : n < h.length) : (h.set n c)[n]? = some c := List.getElem?_set_self hn
theorem cell_lt {h : Hm} {n : Nat} {c : Option Cell} (e : h[n]? = some c) : n < h.length := (List.getElem?_eq_some_iff.mp e).1
theorem cell_ne {h : Hm} {n m : Nat} {c : Option Cell} (hm : n ≠ m) : (h.set n c)[m]? = h[m]? := List.getElem?_set_ne hm
theorem cell_app {h : Hm} {n : Nat} {c d : Option Cell} (e : h[n]? = some c) : (h ++ [d])[n]? = some c := by rw [List.getElem?_append_left (cell_lt e)]; exact e
theorem cell_new {h : Hm} {d : Option Cell} : (h ++ [d])[h.length]? = some d := by simp
theorem lcLoop_mapH {α : Type} {t : Gm} {c : Tm} {e : Em} {ρ : Ro} {f : α → PyData} {ρ' : α → Ro} {g : α → PyData} {h : Hm} : ∀ {xs : List α} (_ : ∀ x ∈ xs, t (.val (f x)) ρ h = .ok (ρ' x) h) (_ : ∀ x ∈ xs, c (ρ' x) h = .ok true h) (_ : ∀ x ∈ xs, e (ρ' x) h = .ok (.val (g x)) h), lcLoop t c e ρ (xs.map f) h = .ok (xs.map g) h
  | [], _, _, _ => rfl
  | x :: xs, h1, h2, h3 => by
    show (mB (t (.val (f x)) ρ) fun ρ1 => mB (c ρ1) fun b => if b then mB (e ρ1) fun y => mB (mD y) fun yd => mB (lcLoop t c e ρ (xs.map f)) fun r => mP (yd :: r) else lcLoop t c e ρ (xs.map f)) h = _
    rw [mB_app (h1 x List.mem_cons_self), mB_app (h2 x List.mem_cons_self), if_pos rfl, mB_app (h3 x List.mem_cons_self), mD_eq, mB_mP,
      mB_app (lcLoop_mapH (fun x hx => h1 x (List.mem_cons_of_mem _ hx)) (fun x hx => h2 x (List.mem_cons_of_mem _ hx)) (fun x hx => h3 x (List.mem_cons_of_mem _ hx)))]
    rfl
theorem lcLoop_filterH {α : Type} {t : Gm} {c : Tm} {e : Em} {ρ : Ro} {f : α → PyData} {ρ' : α → Ro} {p : α → Bool} {g : α → PyData} {h : Hm} : ∀ {xs : List α} (_ : ∀ x ∈ xs, t (.val (f x)) ρ h = .ok (ρ' x) h) (_ : ∀ x ∈ xs, c (ρ' x) h = .ok (p x) h) (_ : ∀ x ∈ xs, p x = true → e (ρ' x) h = .ok (.val (g x)) h), lcLoop t c e ρ (xs.map f) h = .ok ((xs.filter p).map g) h
  | [], _, _, _ => rfl
  | x :: xs, h1, h2, h3 => by
    show (mB (t (.val (f x)) ρ) fun ρ1 => mB (c ρ1) fun b => if b then mB (e ρ1) fun y => mB (mD y) fun yd => mB (lcLoop t c e ρ (xs.map f)) fun r => mP (yd :: r) else lcLoop t c e ρ (xs.map f)) h = _
    have ih := lcLoop_filterH (fun x hx => h1 x (List.mem_cons_of_mem _ hx)) (fun x hx => h2 x (List.mem_cons_of_mem _ hx)) (fun x hx => h3 x (List.mem_cons_of_mem _ hx)) (xs := xs)
    rw [mB_app (h1 x List.mem_cons_self), mB_app (h2 x List.mem_cons_self)]
    by_cases hp : p x = true
    · rw [hp, if_pos rfl, mB_app (h3 x List.mem_cons_self hp), mD_eq, mB_mP, mB_app ih, List.filter_cons_of_pos hp]
      rfl
    · rw [if_neg hp, ih, List.filter_cons_of_neg hp]
theorem noX_ok {α : Type} {m : Mm α} {h h' : Hm} {a : α} (e : m h = .ok a h') : noX m h = .ok a h' := by unfold noX; rw [e]
theorem eLc_mapH {α : Type} {o : Bool} {it : Im} {t : Gm} {c : Tm} {e : Em} {vs : List Nat} {ρ ρ0 : Ro} {xs : List α} {f : α → PyData} {ρ' : α → Ro} {g : α → PyData} {h h1 : Hm} (hi : it ρ h = .ok (xs.map f) h1) (hl : xs.length ≤ 10000) (h0 : wipeR (noExc ρ) vs = ρ0) (e1 : ∀ x ∈ xs, t (.val (f x)) ρ0 h1 = .ok (ρ' x) h1) (e2 : ∀ x ∈ xs, c (ρ' x) h1 = .ok true h1) (e3 : ∀ x ∈ xs, e (ρ' x) h1 = .ok (.val (g x)) h1) :
    eLc o it t c e vs ρ h = mNew o (xs.map g) h1 := by
  unfold eLc
  rw [mB_app hi, guard_le (by rw [List.length_map]; exact hl), mB_mP, h0, mB_app (noX_ok (lcLoop_mapH e1 e2 e3))]
theorem eLc_filterH {α : Type} {o : Bool} {it : Im} {t : Gm} {c : Tm} {e : Em} {vs : List Nat} {ρ ρ0 : Ro} {xs : List α} {f : α → PyData} {ρ' : α → Ro} {p : α → Bool} {g : α → PyData} {h h1 : Hm} (hi : it ρ h = .ok (xs.map f) h1) (hl : xs.length ≤ 10000) (h0 : wipeR (noExc ρ) vs = ρ0) (e1 : ∀ x ∈ xs, t (.val (f x)) ρ0 h1 = .ok (ρ' x) h1) (e2 : ∀ x ∈ xs, c (ρ' x) h1 = .ok (p x) h1) (e3 : ∀ x ∈ xs, p x = true → e (ρ' x) h1 = .ok (.val (g x)) h1) :
    eLc o it t c e vs ρ h = mNew o ((xs.filter p).map g) h1 := by
  unfold eLc
  rw [mB_app hi, guard_le (by rw [List.length_map]; exact hl), mB_mP, h0, mB_app (noX_ok (lcLoop_filterH e1 e2 e3))]
theorem iRng1_natH {a : Em} {ρ : Ro} {n : Nat} {h h1 : Hm} (e : a ρ h = .ok (.val (.int (n : Int))) h1) (hn : n ≤ 100000) : iRng1 a ρ h = .ok ((List.range n).map fun (k : Nat) => PyData.int (k : Int)) h1 := by
  rw [iRng1_eq, mB_app e, mInt_eq, mB_mP, guard_of_eq (small_nat hn), mB_mP, rngD_eq]
  simp only [Int.toNat_natCast, Int.zero_add]
  rfl
theorem iRng2_natH {a b : Em} {ρ : Ro} {n m : Nat} {h h1 h2 : Hm} (e : a ρ h = .ok (.val (.int (n : Int))) h1) (e2 : b ρ h1 = .ok (.val (.int (m : Int))) h2) (hn : n ≤ 100000) (hm : m ≤ 100000) : iRng2 a b ρ h = .ok ((List.range' n (m - n)).map fun (k : Nat) => PyData.int (k : Int)) h2 := by
  rw [iRng2_eq, mB_app e, mB_app e2, mInt_eq, mB_mP, mInt_eq, mB_mP, guard_of_eq (by rw [small_nat hn, small_nat hm]; rfl), mB_mP, rngD_eq]
  have e3 : ((m : Int) - (n : Int)).toNat = m - n := by omega
  rw [e3, List.range'_eq_map_range, List.map_map]
  rfl
theorem forM_consH {t : Gm} {b : Sm} {d : PyData} {ds : List PyData} {ρ ρ1 ρ2 : Ro} {h h1 h2 : Hm} (e1 : t (.val d) ρ h = .ok ρ1 h1) (e2 : b ρ1 h1 = .ok (.nx, ρ2) h2) : MK.forM t b (d :: ds) ρ h = MK.forM t b ds ρ2 h2 := by
  show mB (t (.val d) ρ) (fun ρ1 => mB (b ρ1) fun r => match r.1 with
    | .nx => MK.forM t b ds r.2
    | .ct => MK.forM t b ds r.2
    | .bk => mP (.nx, r.2)
    | .rt d => mP (.rt d, r.2)) h = _
  rw [mB_app e1, mB_app e2]
theorem cutD_drop (xs : List PyData) (k : Nat) : MK.cutD xs (some (k : Int)) none = xs.drop k := by
  unfold MK.cutD
  rw [HT.sIx_nat, HT.sIx_none]
  by_cases h : k ≤ xs.length
  · rw [Nat.min_eq_left h, List.take_of_length_le (by rw [List.length_drop]; omega)]
  · rw [Nat.min_eq_right (by omega), Nat.sub_self, List.take_zero, List.drop_of_length_le (by omega)]
theorem cutD_take (xs : List PyData) (k : Nat) : MK.cutD xs none (some (k : Int)) = xs.take k := by
  unfold MK.cutD
  rw [HT.sIx_nat, HT.sIx_none, List.drop_zero, Nat.sub_zero]
  by_cases h : k ≤ xs.length
  · rw [Nat.min_eq_left h]
  · rw [Nat.min_eq_right (by omega), List.take_of_length_le (Nat.le_refl _), List.take_of_length_le (by omega)]
theorem oSome_eq (a : Em) (ρ : Ro) : oSome a ρ = mB (a ρ) fun x => mB (mInt x) fun i => mP (some i) := rfl
theorem oNone_eq (ρ : Ro) : oNone ρ = mP none := rfl
theorem eSl_eq (o : Bool) (a : Em) (l u : Om) (ρ : Ro) : eSl o a l u ρ = mB (a ρ) fun x => mB (l ρ) fun lo => mB (u ρ) fun hi => fSl o x lo hi := rfl
theorem fSl_t (o : Bool) (xs : List PyData) (lo hi : Option Int) : fSl o (.val (.tuple xs)) lo hi = mP (.val (.tuple (MK.cutD xs lo hi))) := rfl
theorem fSl_l (xs : List PyData) (lo hi : Option Int) : fSl false (.val (.list xs)) lo hi = mP (.val (.list (MK.cutD xs lo hi))) := rfl
theorem iZip_natH {a b : Em} {ρ : Ro} {h : Hm} {x y : SV} {xs ys : List PyData} (e1 : a ρ h = .ok x h) (e2 : b ρ h = .ok y h) (m1 : mIter x = mP xs) (m2 : mIter y = mP ys) : iZip a b ρ h = .ok (zipD xs ys) h := by
  rw [iZip_eq, mB_app e1, mB_app e2, m1, mB_mP, m2, mB_mP]
  rfl
theorem fMul_list {o : Bool} {xs : List PyData} {k : Nat} (h1 : xs.length ≤ 1000) (h2 : k ≤ 1000) : fMul o (.val (.list xs)) (.val (.int (k : Int))) = mNew o (List.replicate k xs).flatten := by
  show mB (guard (decide ((k : Int) ≤ 1000 ∧ xs.length ≤ 1000 ∧ -1000 ≤ (k : Int)))) _ = _
  rw [guard_of_eq (decide_eq_true ⟨by omega, h1, by omega⟩), mB_mP]
  rfl
theorem fMul_tuple {o : Bool} {xs : List PyData} {k : Nat} (h1 : xs.length ≤ 1000) (h0 : 1 ≤ xs.length) (h2 : k ≤ 1000) (h3 : 1 ≤ k) : fMul o (.val (.tuple xs)) (.val (.int (k : Int))) = mP (.val (.tuple (List.replicate k xs).flatten)) := by
  show mB (guard (decide (1 ≤ (k : Int) ∧ (k : Int) ≤ 1000 ∧ xs.length ≤ 1000 ∧ 1 ≤ xs.length))) _ = _
  rw [guard_of_eq (decide_eq_true ⟨by omega, by omega, h1, h0⟩), mB_mP]
  rfl
theorem fAdd_l {o : Bool} {xs ys : List PyData} (h : xs.length + ys.length ≤ 10000) : fAdd o (.val (.list xs)) (.val (.list ys)) = mNew o (xs ++ ys) := by
  show mB (guard (decide (xs.length + ys.length ≤ 10000))) (fun _ => mNew o (xs ++ ys)) = _
  rw [guard_le h]
  rfl
theorem fAdd_t {o : Bool} {xs ys : List PyData} (h : xs.length + ys.length ≤ 10000) : fAdd o (.val (.tuple xs)) (.val (.tuple ys)) = mP (.val (.tuple (xs ++ ys))) := by
  show mB (guard (decide (xs.length + ys.length ≤ 10000))) (fun _ => mP (SV.val (.tuple (xs ++ ys)))) = _
  rw [guard_le h]
  rfl
theorem rep_one {α : Type} (k : Nat) (x : α) : (List.replicate k [x]).flatten = List.replicate k x := by
  induction k with
  | zero => rfl
  | succ k ih => rw [List.replicate_succ, List.flatten_cons, ih]; rfl
theorem mTupv {ds : List SV} {xs : List PyData} (e : datas ds = some xs) : mTup ds = mP (.val (.tuple xs)) := mTup_of e
end MK
set_option Elab.async false
set_option linter.all false
set_option maxRecDepth 100000
set_option maxHeartbeats 1000000
/-! fractions in the program. -/
namespace GL
open MK PySem PySem.Spec PyProof.Rows L2
open scoped Rat
local macro_rules | `(tactic| walk_at "ev") => `(tactic| simp only [Option.map_some, Option.map_none, fnV, mCall_rt, mCall_nx, List.length_cons, List.length_nil, Nat.zero_add, Nat.reduceAdd, List.map_cons, List.map_nil, Nat.reduceSub, Nat.sub_self, List.replicate, List.cons_append, List.nil_append, List.append_nil, decide_true, decide_false, guard_t, mB_mP, eVar_z, eVar_s, eC_eq, eOp2_eq, eOp1_eq, aNil_eq, aCons_eq, aStar_eq, eArgs_eq, tE_eq, mBool_eq, mInt_eq, mD_eq, mSeq_t, mSeq_l, mLs_l, mDat_v, tAnd_eq, tOr_eq, tNot_eq, eAnd_eq, eOr_eq, eNot_eq, eIf_eq, eChain_eq, eTup_eq, eLst_eq, mTup0, mTup1, mTup2, mTup3, mLst0, mLst1, mLst2, few_of, Nat.reduceLeDiff, mNew_f, b1_eq, b2_eq, sCons_eq, sNil_eq, sAsg_eq, gVar_eq, eSl_eq, oSome_eq, oNone_eq, sRet_eq, sRetN_eq, sIf_eq, sExpr_eq, sFor_eq, iSeq_eq, mIter_l, mIter_t, iEnum_eq, iZip_eq, iRng1_eq, iRng2_eq, iRngV_eq, bRange1_eq, mRng_eq, noX_mP, noExc_nil, noExc_none, noExc_val, noExc_rng, wipeR, List.set_cons_zero, List.set_cons_succ, tYesM_eq, gTup_eq2, gTup_eq3, eCallI_eq, List.all_cons, List.all_nil, isVal, Bool.and_true, Bool.and_self, Bool.true_and, iso_mP, fIx_fr0, fIx_fr1, fAdd_int, fSub_int, fNeg_int, fLt_int, fLe_int, fGt_int, fGe_int, bGcd_int, bLen_t, bLen_l, bTuple_l, bTuple_t, bList_t, bList_l, sPar_eq, bAbs_int, bIntB_int, if_true, Bool.not_true, Bool.not_false, Bool.false_eq_true, reduceIte, *])
theorem ratio_eq {t l : Int} (ht : Mid t) (hl : Mid l) (h0 : l ≠ 0) : V_ratio [.val (.int t), .val (.int l)] = mP (.val (fr (t /. l))) := by
  by_cases h : 0 < l
  · have e := red_pos (t := t) h
    have d := decide_eq_true h
    have g0 : ((Nat.gcd t.natAbs l.natAbs : Nat) : Int) ≠ 0 := by
      have := Nat.gcd_pos_of_pos_right t.natAbs (show 0 < l.natAbs by omega)
      omega
    have f1 := fDiv_mid ht g0
    have f2 := fDiv_mid hl g0
    unfold V_ratio B_ratio
    walk_at "ev"
    rfl
  · have e := red_neg (t := t) (show l < 0 by omega)
    have d := decide_eq_false h
    have g0 : -((Nat.gcd t.natAbs l.natAbs : Nat) : Int) ≠ 0 := by
      have := Nat.gcd_pos_of_pos_right t.natAbs (show 0 < l.natAbs by omega)
      omega
    have f1 := fDiv_mid ht g0
    have f2 := fDiv_mid hl g0
    unfold V_ratio B_ratio
    walk_at "ev"
    rfl
theorem plus_eq {a b : Rat} (ha : Sz a) (hb : Sz b) : V_plus [.val (fr a), .val (fr b)] = mP (.val (fr (a + b))) := by
  have f1 := fMul_mid (o := false) ha.mn hb.md
  have f2 := fMul_mid (o := false) hb.mn ha.md
  have f3 := fMul_mid (o := false) ha.md hb.md
  have r := ratio_eq (mid_sum ha.1 (den_lt hb) hb.1 (den_lt ha)) (mid_prod (den_lt ha) (den_lt hb)) (Int.mul_ne_zero (den_ne a) (den_ne b))
  rw [add_divInt] at r
  unfold V_plus B_plus
  walk_at "ev"
theorem minus_eq {a b : Rat} (ha : Sz a) (hb : Sz b) : V_minus [.val (fr a), .val (fr b)] = mP (.val (fr (a - b))) := by
  have f1 := fMul_mid (o := false) ha.mn hb.md
  have f2 := fMul_mid (o := false) hb.mn ha.md
  have f3 := fMul_mid (o := false) ha.md hb.md
  have r := ratio_eq (mid_dif ha.1 (den_lt hb) hb.1 (den_lt ha)) (mid_prod (den_lt ha) (den_lt hb)) (Int.mul_ne_zero (den_ne a) (den_ne b))
  rw [sub_divInt] at r
  unfold V_minus B_minus
  walk_at "ev"
theorem times_eq {a b : Rat} (ha : Sz a) (hb : Sz b) : V_times [.val (fr a), .val (fr b)] = mP (.val (fr (a * b))) := by
  have f1 := fMul_mid (o := false) ha.mn hb.mn
  have f3 := fMul_mid (o := false) ha.md hb.md
  have r := ratio_eq (mid_prod ha.1 hb.1) (mid_prod (den_lt ha) (den_lt hb)) (Int.mul_ne_zero (den_ne a) (den_ne b))
  rw [mul_divInt] at r
  unfold V_times B_times
  walk_at "ev"
theorem over_eq {a b : Rat} (ha : Sz a) (hb : Sz b) (h0 : b ≠ 0) : V_over [.val (fr a), .val (fr b)] = mP (.val (fr (a / b))) := by
  have f1 := fMul_mid (o := false) ha.mn hb.md
  have f3 := fMul_mid (o := false) ha.md hb.mn
  have hn : b.num ≠ 0 := fun z => h0 (Rat.num_eq_zero.mp z)
  have r := ratio_eq (mid_prod ha.1 (den_lt hb)) (mid_prod (den_lt ha) hb.1) (Int.mul_ne_zero (den_ne a) hn)
  rw [div_divInt] at r
  unfold V_over B_over
  walk_at "ev"
end GL
set_option Elab.async false
set_option linter.all false
set_option maxRecDepth 100000
set_option maxHeartbeats 1000000
/-! fractions in the law. -/
namespace GL
open MK PySem PySem.Spec PyProof.Rows L2
open scoped Rat
local macro_rules | `(tactic| walk_at "ev") => `(tactic| simp only [Option.map_some, Option.map_none, fnV, mCall_rt, mCall_nx, List.length_cons, List.length_nil, Nat.zero_add, Nat.reduceAdd, List.map_cons, List.map_nil, Nat.reduceSub, Nat.sub_self, List.replicate, List.cons_append, List.nil_append, List.append_nil, decide_true, decide_false, guard_t, mB_mP, eVar_z, eVar_s, eC_eq, eOp2_eq, eOp1_eq, aNil_eq, aCons_eq, aStar_eq, eArgs_eq, tE_eq, mBool_eq, mInt_eq, mD_eq, mSeq_t, mSeq_l, mLs_l, mDat_v, tAnd_eq, tOr_eq, tNot_eq, eAnd_eq, eOr_eq, eNot_eq, eIf_eq, eChain_eq, eTup_eq, eLst_eq, mTup0, mTup1, mTup2, mTup3, mLst0, mLst1, mLst2, few_of, Nat.reduceLeDiff, mNew_f, b1_eq, b2_eq, sCons_eq, sNil_eq, sAsg_eq, gVar_eq, eSl_eq, oSome_eq, oNone_eq, sRet_eq, sRetN_eq, sIf_eq, sExpr_eq, sFor_eq, iSeq_eq, mIter_l, mIter_t, iEnum_eq, iZip_eq, iRng1_eq, iRng2_eq, iRngV_eq, bRange1_eq, mRng_eq, noX_mP, noExc_nil, noExc_none, noExc_val, noExc_rng, wipeR, List.set_cons_zero, List.set_cons_succ, tYesM_eq, gTup_eq2, gTup_eq3, eCallI_eq, List.all_cons, List.all_nil, isVal, Bool.and_true, Bool.and_self, Bool.true_and, iso_mP, fIx_fr0, fIx_fr1, fAdd_int, fSub_int, fNeg_int, fLt_int, fLe_int, fGt_int, fGe_int, bGcd_int, bLen_t, bLen_l, bTuple_l, bTuple_t, bList_t, bList_l, sPar_eq, bAbs_int, bIntB_int, if_true, Bool.not_true, Bool.not_false, Bool.false_eq_true, reduceIte, *])
theorem while_step {c : MK.Tm} {b : Sm} {n : Nat} {ρ ρ' : Ro} (h1 : c ρ = mP true) (h2 : b ρ = mP (.nx, ρ')) : whileM c b (n + 1) ρ = whileM c b n ρ' := by
  show (mB (c ρ) fun k => if k then mB (b ρ) fun r => match r.1 with
    | .nx => whileM c b n r.2
    | .ct => whileM c b n r.2
    | .bk => mP (.nx, r.2)
    | .rt d => mP (.rt d, r.2)
    else mP (.nx, ρ)) = _
  rw [h1, mB_mP, if_pos rfl, h2, mB_mP]
theorem while_done {c : MK.Tm} {b : Sm} {n : Nat} {ρ : Ro} (h1 : c ρ = mP false) : whileM c b (n + 1) ρ = mP (.nx, ρ) := by
  show (mB (c ρ) fun k => if k then mB (b ρ) fun r => match r.1 with
    | .nx => whileM c b n r.2
    | .ct => whileM c b n r.2
    | .bk => mP (.nx, r.2)
    | .rt d => mP (.rt d, r.2)
    else mP (.nx, ρ)) = _
  rw [h1, mB_mP]
  rfl
theorem gcd_loop {n m : SV} : ∀ (fuel a b : Nat), b < fuel → whileM (tE (eOp2 fGt (eVar 3) (eC (.int 0)))) (sPar 2 3 (aCons (eVar 3) (aCons (eOp2 fMod (eArgs (b1 bIntB) (aCons (eVar 2) aNil)) (eVar 3)) aNil))) fuel [some n, some m, some (.val (.int (a : Int))), some (.val (.int (b : Int)))] = mP (.nx, [some n, some m, some (.val (.int (Nat.gcd a b : Nat))), some (.val (.int 0))])
  | 0, a, b, h => by omega
  | fuel + 1, a, 0, h => by
    rw [while_done (by walk_at "ev"; rfl)]
    simp
  | fuel + 1, a, b + 1, h => by
    have hb : (((b + 1 : Nat) : Int)) ≠ 0 := by omega
    have e : (a : Int).fmod ((b + 1 : Nat) : Int) = ((a % (b + 1) : Nat) : Int) := by
      rw [Int.fmod_eq_emod_of_nonneg _ (by omega)]
      rfl
    have q := fMod_int (i := (a : Int)) hb
    rw [e] at q
    have hp : decide ((0 : Int) < ((b + 1 : Nat) : Int)) = true := decide_eq_true (by omega)
    rw [while_step (ρ' := [some n, some m, some (.val (.int ((b + 1 : Nat) : Int))), some (.val (.int ((a % (b + 1) : Nat) : Int)))]) (by walk_at "ev") (by walk_at "ev")]
    have hl := Nat.mod_lt a (show 0 < b + 1 by omega)
    rw [gcd_loop fuel (b + 1) (a % (b + 1)) (by omega), Nat.gcd_comm (b + 1), ← Nat.gcd_rec, Nat.gcd_comm a]
theorem law_fr_eq {t l : Int} (ht : Mid t) (hl : Mid l) (h0 : l ≠ 0) : V__law_fr [.val (.int t), .val (.int l)] = mP (.val (fr (t /. l))) := by
  have a1 : (if l < 0 then -l else l) = (l.natAbs : Int) := by split <;> omega
  have a2 : (if t < 0 then -t else t) = (t.natAbs : Int) := by split <;> omega
  have g := gcd_loop (n := .val (.int t)) (m := .val (.int l)) (t.natAbs + 1) l.natAbs t.natAbs (by omega)
  have w : sWhile (fuV 3) (tE (eOp2 fGt (eVar 3) (eC (.int 0)))) (sPar 2 3 (aCons (eVar 3) (aCons (eOp2 fMod (eArgs (b1 bIntB) (aCons (eVar 2) aNil)) (eVar 3)) aNil))) [some (.val (.int t)), some (.val (.int l)), some (.val (.int (l.natAbs : Int))), some (.val (.int (t.natAbs : Int)))] = mP (.nx, [some (.val (.int t)), some (.val (.int l)), some (.val (.int (Nat.gcd l.natAbs t.natAbs : Nat))), some (.val (.int 0))]) := g
  rw [Nat.gcd_comm] at w
  have g0 : ((Nat.gcd t.natAbs l.natAbs : Nat) : Int) ≠ 0 := by
    have := Nat.gcd_pos_of_pos_right t.natAbs (show 0 < l.natAbs by omega)
    omega
  by_cases h : 0 < l
  · have e := red_pos (t := t) h
    have d := decide_eq_true h
    have f1 := fDiv_mid ht g0
    have f2 := fDiv_mid hl g0
    unfold V__law_fr B__law_fr
    walk_at "ev"
    rfl
  · have e := red_pos (t := -t) (l := -l) (by omega)
    rw [Int.natAbs_neg, Int.natAbs_neg, Rat.neg_divInt_neg] at e
    have d := decide_eq_false h
    have ht' : Mid (-t) := by unfold Mid; rw [Int.natAbs_neg]; exact ht
    have hl' : Mid (-l) := by unfold Mid; rw [Int.natAbs_neg]; exact hl
    have f1 := fDiv_mid ht' g0
    have f2 := fDiv_mid hl' g0
    unfold V__law_fr B__law_fr
    walk_at "ev"
    rfl
theorem law_plus_eq {a b : Rat} (ha : Sz a) (hb : Sz b) : V__law_plus [.val (fr a), .val (fr b)] = mP (.val (fr (a + b))) := by
  have f1 := fMul_mid (o := false) ha.mn hb.md
  have f2 := fMul_mid (o := false) hb.mn ha.md
  have f3 := fMul_mid (o := false) ha.md hb.md
  have r := law_fr_eq (mid_sum ha.1 (den_lt hb) hb.1 (den_lt ha)) (mid_prod (den_lt ha) (den_lt hb)) (Int.mul_ne_zero (den_ne a) (den_ne b))
  rw [add_divInt] at r
  unfold V__law_plus B__law_plus
  walk_at "ev"
theorem law_minus_eq {a b : Rat} (ha : Sz a) (hb : Sz b) : V__law_minus [.val (fr a), .val (fr b)] = mP (.val (fr (a - b))) := by
  have f1 := fMul_mid (o := false) ha.mn hb.md
  have f2 := fMul_mid (o := false) hb.mn ha.md
  have f3 := fMul_mid (o := false) ha.md hb.md
  have r := law_fr_eq (mid_dif ha.1 (den_lt hb) hb.1 (den_lt ha)) (mid_prod (den_lt ha) (den_lt hb)) (Int.mul_ne_zero (den_ne a) (den_ne b))
  rw [sub_divInt] at r
  unfold V__law_minus B__law_minus
  walk_at "ev"
theorem law_times_eq {a b : Rat} (ha : Sz a) (hb : Sz b) : V__law_times [.val (fr a), .val (fr b)] = mP (.val (fr (a * b))) := by
  have f1 := fMul_mid (o := false) ha.mn hb.mn
  have f3 := fMul_mid (o := false) ha.md hb.md
  have r := law_fr_eq (mid_prod ha.1 hb.1) (mid_prod (den_lt ha) (den_lt hb)) (Int.mul_ne_zero (den_ne a) (den_ne b))
  rw [mul_divInt] at r
  unfold V__law_times B__law_times
  walk_at "ev"
theorem law_over_eq {a b : Rat} (ha : Sz a) (hb : Sz b) (h0 : b ≠ 0) : V__law_over [.val (fr a), .val (fr b)] = mP (.val (fr (a / b))) := by
  have f1 := fMul_mid (o := false) ha.mn hb.md
  have f3 := fMul_mid (o := false) ha.md hb.mn
  have hn : b.num ≠ 0 := fun z => h0 (Rat.num_eq_zero.mp z)
  have r := law_fr_eq (mid_prod ha.1 (den_lt hb)) (mid_prod (den_lt ha) hb.1) (Int.mul_ne_zero (den_ne a) hn)
  rw [div_divInt] at r
  unfold V__law_over B__law_over
  walk_at "ev"
end GL
set_option Elab.async false
set_option linter.all false
set_option maxHeartbeats 1000000
/-! PB: equations in fractions brought to ones in columns: what is kept, what is found, how great the numbers grow. -/
namespace LA
/-! ### sums -/
def sumN : Nat → (Nat → Rat) → Rat
  | 0, _ => 0
  | n + 1, f => sumN n f + f n
theorem sumN_congr : ∀ {n : Nat} {f g : Nat → Rat}, (∀ i, i < n → f i = g i) → sumN n f = sumN n g
  | 0, _, _, _ => rfl
  | n + 1, f, g, h => by
    show sumN n f + f n = sumN n g + g n
    rw [sumN_congr fun i hi => h i (by omega), h n (by omega)]
theorem sumN_lin (k : Rat) : ∀ (n : Nat) (f g : Nat → Rat), sumN n (fun i => f i + k * g i) = sumN n f + k * sumN n g
  | 0, _, _ => by show (0 : Rat) = 0 + k * 0; grind
  | n + 1, f, g => by
    show sumN n (fun i => f i + k * g i) + (f n + k * g n) = (sumN n f + f n) + k * (sumN n g + g n)
    rw [sumN_lin k n f g]
    grind
theorem sumN_mul (k : Rat) : ∀ (n : Nat) (f : Nat → Rat), sumN n (fun i => k * f i) = k * sumN n f
  | 0, _ => by show (0 : Rat) = k * 0; grind
  | n + 1, f => by
    show sumN n (fun i => k * f i) + k * f n = k * (sumN n f + f n)
    rw [sumN_mul k n f]
    grind
theorem sumN_add (n : Nat) (f g : Nat → Rat) : sumN n (fun i => f i + g i) = sumN n f + sumN n g := by
  have h := sumN_lin 1 n f g
  rw [Rat.one_mul] at h
  rw [← h]
  exact sumN_congr fun i _ => by rw [Rat.one_mul]
theorem sumN_zero : ∀ {n : Nat} {f : Nat → Rat}, (∀ i, i < n → f i = 0) → sumN n f = 0
  | 0, _, _ => rfl
  | n + 1, f, h => by
    show sumN n f + f n = 0
    rw [sumN_zero fun i hi => h i (by omega), h n (by omega), Rat.add_zero]
theorem sumN_single {n k : Nat} {f : Nat → Rat} (hk : k < n) (h : ∀ i, i < n → i ≠ k → f i = 0) : sumN n f = f k := by
  induction n with
  | zero => omega
  | succ n ih =>
    show sumN n f + f n = f k
    by_cases e : k = n
    · subst e
      rw [sumN_zero fun i hi => h i (by omega) (by omega), Rat.zero_add]
    · rw [ih (by omega) fun i hi hne => h i (by omega) hne, h n (by omega) (by omega), Rat.add_zero]
theorem sumN_comm (n m : Nat) (f : Nat → Nat → Rat) : sumN n (fun i => sumN m fun j => f i j) = sumN m fun j => sumN n fun i => f i j := by
  induction n with
  | zero => exact (sumN_zero fun _ _ => rfl).symm
  | succ n ih =>
    show sumN n (fun i => sumN m fun j => f i j) + sumN m (f n) = sumN m fun j => sumN n (fun i => f i j) + f n j
    rw [ih, sumN_add]
/-! ### the steps -/
abbrev Mat := List (List Rat)
def ent (R : Mat) (i c : Nat) : Rat := (R.getD i []).getD c 0
def swapR (R : Mat) (i j : Nat) : Mat := (R.set i (R.getD j [])).set j (R.getD i [])
def wo (row lead : List Rat) (c : Nat) : List Rat := if row.getD c 0 = 0 then row else List.zipWith (fun h t => h - row.getD c 0 * t) row lead
def spot (R : Mat) (done c : Nat) : Option Nat := (List.range' done (R.length - done)).find? fun k => decide (ent R k c ≠ 0)
def leadR (R : Mat) (done c : Nat) : List Rat := (R.getD done []).map (· / ent R done c)
def clear (R : Mat) (done c : Nat) : Mat := R.zipIdx.map fun q => if q.2 = done then leadR R done c else wo q.1 (leadR R done c) c
def stepC (st : Mat × List Nat) (c : Nat) : Mat × List Nat := match spot st.1 st.2.length c with
  | none => st
  | some s => (clear (swapR st.1 st.2.length s) st.2.length c, st.2 ++ [c])
def bring (R : Mat) (many : Nat) : Mat × List Nat := (List.range many).foldl stepC (R, [])
theorem spot_some {R : Mat} {done c s : Nat} (h : spot R done c = some s) : done ≤ s ∧ s < R.length ∧ ent R s c ≠ 0 := by
  unfold spot at h
  have h1 := List.find?_some h
  have h2 := List.mem_of_find?_eq_some h
  rw [List.mem_range'] at h2
  obtain ⟨i, hi, e⟩ := h2
  exact ⟨by omega, by omega, by simpa using h1⟩
theorem spot_none {R : Mat} {done c : Nat} (h : spot R done c = none) {i : Nat} (h1 : done ≤ i) (h2 : i < R.length) : ent R i c = 0 := by
  unfold spot at h
  rw [List.find?_eq_none] at h
  have := h i (List.mem_range'.mpr ⟨i - done, by omega, by omega⟩)
  simpa using this
def Rect (w : Nat) (R : Mat) : Prop := ∀ r ∈ R, r.length = w
theorem getD_row {R : Mat} {w i : Nat} (h : Rect w R) (hi : i < R.length) : (R.getD i []).length = w := by
  rw [List.getD_eq_getElem?_getD, List.getElem?_eq_getElem hi]
  exact h _ (List.getElem_mem hi)
theorem swap_len (R : Mat) (i j : Nat) : (swapR R i j).length = R.length := by simp [swapR]
theorem swap_get {R : Mat} {i j k : Nat} (hi : i < R.length) (hj : j < R.length) : (swapR R i j).getD k [] = R.getD (if k = j then i else if k = i then j else k) [] := by
  unfold swapR
  by_cases h1 : k = j
  · subst h1
    rw [if_pos rfl, List.getD_eq_getElem?_getD, List.getElem?_set_self (by simpa using hj)]
    rfl
  · rw [if_neg h1, List.getD_eq_getElem?_getD, List.getElem?_set_ne (fun z => h1 z.symm)]
    by_cases h2 : k = i
    · subst h2
      rw [if_pos rfl, List.getElem?_set_self hi]
      rfl
    · rw [if_neg h2, List.getElem?_set_ne (fun z => h2 z.symm), List.getD_eq_getElem?_getD]
theorem swap_rect {R : Mat} {w i j : Nat} (h : Rect w R) (hi : i < R.length) (hj : j < R.length) : Rect w (swapR R i j) := by
  intro r hr
  obtain ⟨k, hk, e⟩ := List.mem_iff_getElem.mp hr
  have : (swapR R i j).getD k [] = r := by rw [List.getD_eq_getElem?_getD, List.getElem?_eq_getElem hk, ← e]; rfl
  rw [← this, swap_get hi hj]
  refine getD_row h ?_
  rw [swap_len] at hk
  split
  · exact hi
  · split
    · exact hj
    · exact hk
theorem clear_len (R : Mat) (d c : Nat) : (clear R d c).length = R.length := by simp [clear]
theorem clear_get {R : Mat} {d c k : Nat} (hk : k < R.length) : (clear R d c).getD k [] = if k = d then leadR R d c else wo (R.getD k []) (leadR R d c) c := by
  unfold clear
  rw [List.getD_eq_getElem?_getD, List.getElem?_map, List.getElem?_zipIdx, List.getElem?_eq_getElem hk]
  simp only [Option.map_some, Option.getD_some, Nat.zero_add]
  rw [List.getD_eq_getElem?_getD, List.getElem?_eq_getElem hk]
  rfl
theorem lead_len {R : Mat} {w d c : Nat} (h : Rect w R) (hd : d < R.length) : (leadR R d c).length = w := by
  unfold leadR
  rw [List.length_map]
  exact getD_row h hd
theorem lead_get {R : Mat} {d c j : Nat} : (leadR R d c).getD j 0 = ent R d j / ent R d c := by
  unfold leadR ent
  generalize (R.getD d []).getD c 0 = p
  generalize R.getD d [] = l
  rw [List.getD_eq_getElem?_getD, List.getElem?_map, List.getD_eq_getElem?_getD]
  cases l[j]? with
  | none => show (0 : Rat) = 0 / p; rw [Rat.div_def, Rat.zero_mul]
  | some x => rfl
theorem wo_len {row lead : List Rat} {c : Nat} (h : row.length = lead.length) : (wo row lead c).length = row.length := by
  unfold wo
  split
  · rfl
  · rw [List.length_zipWith, h, Nat.min_self]
theorem wo_get {row lead : List Rat} {c j : Nat} (h : row.length = lead.length) : (wo row lead c).getD j 0 = row.getD j 0 - row.getD c 0 * lead.getD j 0 := by
  unfold wo
  split
  · rename_i e
    rw [e, Rat.zero_mul]
    grind
  · rw [List.getD_eq_getElem?_getD, List.getElem?_zipWith, List.getD_eq_getElem?_getD (l := row) (i := j), List.getD_eq_getElem?_getD (l := lead)]
    by_cases hj : j < row.length
    · rw [List.getElem?_eq_getElem hj, List.getElem?_eq_getElem (by omega)]
      rfl
    · rw [List.getElem?_eq_none (by omega), List.getElem?_eq_none (by omega)]
      show (0 : Rat) = 0 - _ * 0
      grind
theorem clear_ent {R : Mat} {w d c k j : Nat} (h : Rect w R) (hd : d < R.length) (hk : k < R.length) :
    ent (clear R d c) k j = if k = d then ent R d j / ent R d c else ent R k j - ent R k c * (ent R d j / ent R d c) := by
  unfold ent
  rw [clear_get hk]
  split
  · exact lead_get
  · rw [wo_get (by rw [getD_row h hk, lead_len h hd]), lead_get]
    rfl
theorem clear_rect {R : Mat} {w d c : Nat} (h : Rect w R) (hd : d < R.length) : Rect w (clear R d c) := by
  intro r hr
  obtain ⟨k, hk, e⟩ := List.mem_iff_getElem.mp hr
  rw [clear_len] at hk
  have : (clear R d c).getD k [] = r := by rw [List.getD_eq_getElem?_getD, List.getElem?_eq_getElem (by rw [clear_len]; exact hk), ← e]; rfl
  rw [← this, clear_get hk]
  split
  · exact lead_len h hd
  · rw [wo_len (by rw [getD_row h hk, lead_len h hd])]
    exact getD_row h hk
/-! ### what the steps keep -/
def dotN (w : Nat) (R : Mat) (i : Nat) (y : Nat → Rat) : Rat := sumN w fun c => ent R i c * y c
def Van (w : Nat) (R : Mat) (y : Nat → Rat) : Prop := ∀ i, i < R.length → dotN w R i y = 0
structure InvC (w : Nat) (R0 : Mat) (c : Nat) (st : Mat × List Nat) : Prop where
  len : st.1.length = R0.length
  rect : Rect w st.1
  few : st.2.length ≤ st.1.length
  van : ∀ y, Van w st.1 y ↔ Van w R0 y
  asc : st.2.Pairwise (· < ·)
  lt : ∀ k ∈ st.2, k < c
  one : ∀ i j k, st.2[i]? = some k → j < st.1.length → ent st.1 j k = if j = i then 1 else 0
  nil : ∀ i k, st.2.length ≤ i → i < st.1.length → k < c → ent st.1 i k = 0
theorem InvC.start {w : Nat} {R : Mat} (h : Rect w R) : InvC w R 0 (R, []) :=
  ⟨rfl, h, Nat.zero_le _, fun y => Iff.rfl, List.Pairwise.nil, fun k hk => (nomatch hk), fun i j k e => by simp at e, fun i k _ _ hk => by omega⟩
theorem van_swap {w i j : Nat} {R : Mat} {y : Nat → Rat} (hi : i < R.length) (hj : j < R.length) : Van w (swapR R i j) y ↔ Van w R y := by
  have e : ∀ k, dotN w (swapR R i j) k y = dotN w R (if k = j then i else if k = i then j else k) y := fun k => by
    unfold dotN ent
    rw [swap_get hi hj]
  unfold Van
  rw [swap_len]
  constructor
  · intro h k hk
    have := h (if k = j then i else if k = i then j else k) (by split; exact hi; split; exact hj; exact hk)
    rw [e] at this
    rw [← this]
    congr 1
    grind
  · intro h k hk
    rw [e]
    exact h _ (by split; exact hi; split; exact hj; exact hk)
theorem van_clear {w d c : Nat} {R : Mat} {y : Nat → Rat} (h : Rect w R) (hd : d < R.length) (hp : ent R d c ≠ 0) : Van w (clear R d c) y ↔ Van w R y := by
  have e1 : dotN w (clear R d c) d y = (ent R d c)⁻¹ * dotN w R d y := by
    unfold dotN
    rw [← sumN_mul]
    refine sumN_congr fun i _ => ?_
    rw [clear_ent h hd hd, if_pos rfl, Rat.div_def]
    grind
  have e2 : ∀ k, k < R.length → k ≠ d → dotN w (clear R d c) k y = dotN w R k y + (-(ent R k c * (ent R d c)⁻¹)) * dotN w R d y := fun k hk hne => by
    unfold dotN
    rw [← sumN_lin]
    refine sumN_congr fun i _ => ?_
    rw [clear_ent h hd hk, if_neg hne, Rat.div_def]
    grind
  unfold Van
  rw [clear_len]
  constructor
  · intro q
    have h0 : dotN w R d y = 0 := by
      have := q d hd
      rw [e1] at this
      rcases Rat.mul_eq_zero.mp this with z | z
      · exact absurd (by rw [← Rat.inv_inv (ent R d c), z]; exact Rat.inv_zero) hp
      · exact z
    intro k hk
    by_cases hne : k = d
    · rw [hne]; exact h0
    · have := q k hk
      rw [e2 k hk hne, h0, Rat.mul_zero, Rat.add_zero] at this
      exact this
  · intro q k hk
    by_cases hne : k = d
    · rw [hne, e1, q d hd, Rat.mul_zero]
    · rw [e2 k hk hne, q k hk, q d hd, Rat.mul_zero, Rat.add_zero]
theorem InvC.step {w c : Nat} {R0 : Mat} {st : Mat × List Nat} (I : InvC w R0 c st) : InvC w R0 (c + 1) (stepC st c) := by
  unfold stepC
  cases e : spot st.1 st.2.length c with
  | none =>
    refine ⟨I.len, I.rect, I.few, I.van, I.asc, fun k hk => Nat.lt_succ_of_lt (I.lt k hk), I.one, fun i k h1 h2 h3 => ?_⟩
    by_cases hk : k = c
    · rw [hk]; exact spot_none e h1 h2
    · exact I.nil i k h1 h2 (by omega)
  | some s =>
    obtain ⟨h1, h2, h3⟩ := spot_some e
    simp only []
    generalize hd : st.2.length = d at e h1 h2 h3 ⊢
    have hdl : d < st.1.length := by omega
    have r1 := swap_rect I.rect hdl h2
    have l1 := swap_len st.1 d s
    have hdl' : d < (swapR st.1 d s).length := by rw [l1]; exact hdl
    have sw : ∀ k j, ent (swapR st.1 d s) k j = ent st.1 (if k = s then d else if k = d then s else k) j := fun k j => by
      unfold ent
      rw [swap_get hdl h2]
    have hp : ent (swapR st.1 d s) d c ≠ 0 := by
      rw [sw]
      by_cases q : d = s
      · rw [if_pos q, q]; exact h3
      · rw [if_neg q, if_pos rfl]; exact h3
    have old : ∀ i k, st.2[i]? = some k → i < d ∧ ∀ j, j < st.1.length → ent (swapR st.1 d s) j k = if j = i then 1 else 0 := fun i k hik => by
      have hi : i < d := by
        rw [← hd]
        exact (List.getElem?_eq_some_iff.mp hik).1
      refine ⟨hi, fun j hj => ?_⟩
      rw [sw]
      have o1 := I.one i d k hik hdl
      have o2 := I.one i s k hik h2
      have o3 := I.one i j k hik hj
      rw [if_neg (by omega)] at o1 o2
      split
      · rename_i q; rw [o1, if_neg (by omega)]
      · split
        · rename_i q; rw [o2, if_neg (by omega)]
        · exact o3
    refine ⟨by rw [clear_len, l1]; exact I.len, clear_rect r1 hdl', ?_, fun y => ?_, ?_, fun k hk => ?_, fun i j k hik hj => ?_, fun i k g1 g2 g3 => ?_⟩
    · show (st.2 ++ [c]).length ≤ (clear (swapR st.1 d s) d c).length
      rw [List.length_append, clear_len, l1, List.length_singleton]
      omega
    · exact (van_clear r1 hdl' hp).trans ((van_swap hdl h2).trans (I.van y))
    · show (st.2 ++ [c]).Pairwise (· < ·)
      rw [List.pairwise_append]
      exact ⟨I.asc, List.pairwise_singleton _ _, fun a ha b hb => by rw [List.mem_singleton.mp hb]; exact I.lt a ha⟩
    · have hk : k ∈ st.2 ++ [c] := hk
      rcases List.mem_append.mp hk with q | q
      · exact Nat.lt_succ_of_lt (I.lt k q)
      · rw [List.mem_singleton.mp q]; omega
    · have hik2 : (st.2 ++ [c])[i]? = some k := hik
      clear hik
      have hj : j < (clear (swapR st.1 d s) d c).length := hj
      rw [clear_len] at hj
      show ent (clear (swapR st.1 d s) d c) j k = _
      rw [clear_ent r1 hdl' hj]
      by_cases hi : i < d
      · rw [List.getElem?_append_left (by omega)] at hik2
        obtain ⟨_, o⟩ := old i k hik2
        rw [o d hdl, if_neg (show ¬ d = i by omega)]
        have oj := o j (by rw [l1] at hj; exact hj)
        split
        · rename_i q
          rw [if_neg (by omega), Rat.div_def, Rat.zero_mul]
        · rw [oj, Rat.div_def, Rat.zero_mul, Rat.mul_zero]
          grind
      · rw [List.getElem?_append_right (by omega)] at hik2
        have hi2 : i = d := by
          have := (List.getElem?_eq_some_iff.mp hik2).1
          simp at this
          omega
        subst hi2
        have hk : k = c := by
          rw [hd, Nat.sub_self] at hik2
          simpa using hik2.symm
        subst hk
        split
        · rw [Rat.div_def, Rat.mul_inv_cancel _ hp]
        · rw [Rat.div_def, Rat.mul_inv_cancel _ hp, Rat.mul_one]
          grind
    · have g1 : (st.2 ++ [c]).length ≤ i := g1
      rw [List.length_append, List.length_singleton, hd] at g1
      have g2 : i < (clear (swapR st.1 d s) d c).length := g2
      rw [clear_len] at g2
      show ent (clear (swapR st.1 d s) d c) i k = 0
      rw [clear_ent r1 hdl' g2, if_neg (by omega)]
      by_cases hk : k = c
      · subst hk
        rw [Rat.div_def, Rat.mul_inv_cancel _ hp, Rat.mul_one]
        grind
      · have hk' : k < c := by omega
        have z1 : ent (swapR st.1 d s) i k = 0 := by
          rw [sw]
          rw [l1] at g2
          split
          · exact I.nil d k (by omega) hdl hk'
          · split
            · omega
            · exact I.nil i k (by omega) g2 hk'
        have z2 : ent (swapR st.1 d s) d k = 0 := by
          rw [sw]
          split
          · exact I.nil d k (by omega) hdl hk'
          · rw [if_pos rfl]
            exact I.nil s k (by omega) h2 hk'
        rw [z1, z2, Rat.div_def, Rat.zero_mul, Rat.mul_zero]
        grind
theorem bring_succ (R : Mat) (m : Nat) : bring R (m + 1) = stepC (bring R m) m := by
  unfold bring
  rw [List.range_succ, List.foldl_append]
  rfl
theorem bring_inv {w : Nat} {R : Mat} (h : Rect w R) : ∀ m, InvC w R m (bring R m)
  | 0 => InvC.start h
  | m + 1 => by rw [bring_succ]; exact (bring_inv h m).step
end LA
set_option Elab.async false
set_option linter.all false
set_option maxHeartbeats 1000000
/-! PB2: some answer: that it is one; that none is told only where there is none; sizes. -/
namespace LA
def aug (A : Mat) (b : List Rat) : Mat := List.zipWith (fun r x => r ++ [x]) A b
def fillX (n : Nat) (R : Mat) (L : List Nat) : List Rat := (R.zip L).foldl (fun f q => f.set q.2 (q.1.getD n 0)) (List.replicate n 0)
def restBad (n : Nat) (R : Mat) (k : Nat) : Bool := (R.drop k).any fun r => decide (r.getD n 0 ≠ 0)
def solve (A : Mat) (b : List Rat) (n : Nat) : Option (List Rat) :=
  if restBad n (bring (aug A b) n).1 (bring (aug A b) n).2.length then none else some (fillX n (bring (aug A b) n).1 (bring (aug A b) n).2)
theorem aug_len {A : Mat} {b : List Rat} (h : A.length = b.length) : (aug A b).length = A.length := by unfold aug; rw [List.length_zipWith, h, Nat.min_self]
theorem aug_get {A : Mat} {b : List Rat} {i : Nat} (h : A.length = b.length) (hi : i < A.length) : (aug A b).getD i [] = A.getD i [] ++ [b.getD i 0] := by
  unfold aug
  rw [List.getD_eq_getElem?_getD, List.getElem?_zipWith, List.getElem?_eq_getElem hi, List.getElem?_eq_getElem (by omega), List.getD_eq_getElem?_getD, List.getD_eq_getElem?_getD, List.getElem?_eq_getElem hi, List.getElem?_eq_getElem (by omega)]
  rfl
theorem aug_rect {A : Mat} {b : List Rat} {n : Nat} (h : A.length = b.length) (hr : Rect n A) : Rect (n + 1) (aug A b) := by
  intro r hr'
  obtain ⟨k, hk, e⟩ := List.mem_iff_getElem.mp hr'
  rw [aug_len h] at hk
  have : (aug A b).getD k [] = r := by rw [List.getD_eq_getElem?_getD, List.getElem?_eq_getElem (by rw [aug_len h]; exact hk), ← e]; rfl
  rw [← this, aug_get h hk, List.length_append, getD_row hr hk]
  rfl
theorem aug_ent {A : Mat} {b : List Rat} {n i c : Nat} (h : A.length = b.length) (hr : Rect n A) (hi : i < A.length) : ent (aug A b) i c = if c < n then ent A i c else if c = n then b.getD i 0 else 0 := by
  have hl := getD_row hr hi
  unfold ent
  rw [aug_get h hi]
  generalize A.getD i [] = l at hl ⊢
  rw [List.getD_eq_getElem?_getD (l := l ++ _)]
  split
  · rw [List.getElem?_append_left (by omega), List.getD_eq_getElem?_getD]
  · rw [List.getElem?_append_right (by omega)]
    split
    · rename_i e
      rw [hl, e, Nat.sub_self]
      rfl
    · rw [List.getElem?_eq_none (by simp; omega)]
      rfl
/-- the unknowns, and -1 -/
def yx (n : Nat) (y : Nat → Rat) : Nat → Rat := fun c => if c < n then y c else -1
def lhs (n : Nat) (A : Mat) (i : Nat) (y : Nat → Rat) : Rat := sumN n fun c => ent A i c * y c
theorem dot_yx {w n : Nat} {R : Mat} {i : Nat} {y : Nat → Rat} (hw : w = n + 1) : dotN w R i (yx n y) = lhs n R i y - ent R i n := by
  subst hw
  unfold dotN lhs
  show sumN n _ + ent R i n * yx n y n = _
  have e : sumN n (fun c => ent R i c * yx n y c) = sumN n (fun c => ent R i c * y c) := sumN_congr fun c hc => by unfold yx; rw [if_pos hc]
  rw [e]
  have e2 : yx n y n = -1 := if_neg (by omega)
  rw [e2]
  grind
theorem van_aug {A : Mat} {b : List Rat} {n : Nat} {y : Nat → Rat} (h : A.length = b.length) (hr : Rect n A) : Van (n + 1) (aug A b) (yx n y) ↔ ∀ i, i < A.length → lhs n A i y = b.getD i 0 := by
  unfold Van
  rw [aug_len h]
  refine forall_congr' fun i => forall_congr' fun hi => ?_
  rw [dot_yx rfl]
  have e1 : lhs n (aug A b) i y = lhs n A i y := sumN_congr fun c hc => by rw [aug_ent h hr hi, if_pos hc]
  rw [e1, aug_ent h hr hi, if_neg (by omega), if_pos rfl]
  constructor <;> intro q <;> grind
theorem fill_len (n : Nat) (R : Mat) (L : List Nat) : (fillX n R L).length = n := by
  unfold fillX
  have : ∀ (qs : List (List Rat × Nat)) (f : List Rat), (qs.foldl (fun f q => f.set q.2 (q.1.getD n 0)) f).length = f.length := by
    intro qs
    induction qs with
    | nil => intro f; rfl
    | cons q qs ih => intro f; rw [List.foldl_cons, ih, List.length_set]
  rw [this, List.length_replicate]
theorem foldl_set_ne {n : Nat} : ∀ (qs : List (List Rat × Nat)) (f : List Rat) (c : Nat), (∀ q ∈ qs, q.2 ≠ c) → (qs.foldl (fun f q => f.set q.2 (q.1.getD n 0)) f).getD c 0 = f.getD c 0
  | [], f, c, _ => rfl
  | q :: qs, f, c, h => by
    rw [List.foldl_cons, foldl_set_ne qs _ c fun p hp => h p (List.mem_cons_of_mem _ hp), List.getD_eq_getElem?_getD, List.getElem?_set_ne (h q List.mem_cons_self), List.getD_eq_getElem?_getD]
theorem foldl_set_eq {n : Nat} : ∀ (qs : List (List Rat × Nat)) (f : List Rat) (i : Nat) (q : List Rat × Nat), qs[i]? = some q → q.2 < f.length → (qs.map (·.2)).Pairwise (· < ·) → (qs.foldl (fun f q => f.set q.2 (q.1.getD n 0)) f).getD q.2 0 = q.1.getD n 0
  | [], _, i, _, h, _, _ => by simp at h
  | p :: qs, f, 0, q, h, hl, hs => by
    have e : p = q := by simpa using h
    subst e
    rw [List.map_cons, List.pairwise_cons] at hs
    rw [List.foldl_cons, foldl_set_ne qs _ _ fun r hr => by have := hs.1 r.2 (List.mem_map.mpr ⟨r, hr, rfl⟩); omega, List.getD_eq_getElem?_getD, List.getElem?_set_self hl]
    rfl
  | p :: qs, f, i + 1, q, h, hl, hs => by
    rw [List.map_cons, List.pairwise_cons] at hs
    rw [List.foldl_cons]
    exact foldl_set_eq qs _ i q (by simpa using h) (by rw [List.length_set]; exact hl) hs.2
theorem fill_lead {w n : Nat} {R0 : Mat} {st : Mat × List Nat} (I : InvC w R0 n st) {i k : Nat} (h : st.2[i]? = some k) : (fillX n st.1 st.2).getD k 0 = ent st.1 i n := by
  have hi : i < st.2.length := (List.getElem?_eq_some_iff.mp h).1
  have hf := I.few
  have hz : (st.1.zip st.2)[i]? = some (st.1.getD i [], k) := by
    rw [List.getElem?_zip_eq_some]
    exact ⟨by rw [List.getD_eq_getElem?_getD, List.getElem?_eq_getElem (by omega)]; rfl, h⟩
  have hm : (st.1.zip st.2).map (·.2) = st.2 := by rw [List.map_snd_zip]; omega
  have := foldl_set_eq (n := n) (st.1.zip st.2) (List.replicate n 0) i _ hz (by rw [List.length_replicate]; exact I.lt k (List.mem_of_getElem? h)) (by rw [hm]; exact I.asc)
  exact this
theorem fill_free {w n : Nat} {R0 : Mat} {st : Mat × List Nat} {c : Nat} (I : InvC w R0 n st) (h : c ∉ st.2) : (fillX n st.1 st.2).getD c 0 = 0 := by
  unfold fillX
  rw [foldl_set_ne _ _ _ fun q hq => fun z => h (by rw [← z]; exact (List.of_mem_zip hq).2), List.getD_eq_getElem?_getD]
  by_cases hc : c < n
  · rw [List.getElem?_replicate, if_pos hc]; rfl
  · rw [List.getElem?_replicate, if_neg hc]; rfl
theorem mem_get {L : List Nat} {c : Nat} (h : c ∈ L) : ∃ i : Nat, L[i]? = some c := by
  obtain ⟨i, hi, e⟩ := List.mem_iff_getElem.mp h
  exact ⟨i, by rw [List.getElem?_eq_getElem hi, e]⟩
theorem lhs_lead {w n : Nat} {R0 : Mat} {st : Mat × List Nat} (I : InvC w R0 n st) {i : Nat} (hi : i < st.2.length) : lhs n st.1 i (fun c => (fillX n st.1 st.2).getD c 0) = ent st.1 i n := by
  have hf := I.few
  obtain ⟨k, hk⟩ : ∃ k, st.2[i]? = some k := ⟨_, List.getElem?_eq_getElem hi⟩
  have hkn := I.lt k (List.mem_of_getElem? hk)
  unfold lhs
  rw [sumN_single hkn fun c hc hne => ?_]
  · simp only []
    rw [fill_lead I hk, I.one i i k hk (by omega), if_pos rfl, Rat.one_mul]
  · by_cases hm : c ∈ st.2
    · obtain ⟨j, hj⟩ := mem_get hm
      have hij : i ≠ j := fun z => by rw [z, hj] at hk; cases hk; exact hne rfl
      show ent st.1 i c * (fillX n st.1 st.2).getD c 0 = 0
      rw [I.one j i c hj (by omega), if_neg hij, Rat.zero_mul]
    · show ent st.1 i c * (fillX n st.1 st.2).getD c 0 = 0
      rw [fill_free I hm, Rat.mul_zero]
theorem lhs_rest {w n : Nat} {R0 : Mat} {st : Mat × List Nat} (I : InvC w R0 n st) {i : Nat} {y : Nat → Rat} (h1 : st.2.length ≤ i) (h2 : i < st.1.length) : lhs n st.1 i y = 0 :=
  sumN_zero fun c hc => by rw [I.nil i c h1 h2 hc, Rat.zero_mul]
theorem restBad_false {n k : Nat} {R : Mat} (h : restBad n R k = false) {i : Nat} (h1 : k ≤ i) (h2 : i < R.length) : ent R i n = 0 := by
  unfold restBad at h
  rw [List.any_eq_false] at h
  have := h (R.getD i []) (by
    rw [List.getD_eq_getElem?_getD, List.getElem?_eq_getElem h2]
    exact List.mem_iff_getElem.mpr ⟨i - k, by rw [List.length_drop]; omega, by rw [List.getElem_drop]; show _ = R[i]; congr 1; omega⟩)
  simpa [ent] using this
theorem restBad_true {n k : Nat} {R : Mat} (h : restBad n R k = true) : ∃ i, k ≤ i ∧ i < R.length ∧ ent R i n ≠ 0 := by
  unfold restBad at h
  rw [List.any_eq_true] at h
  obtain ⟨r, hr, hn⟩ := h
  obtain ⟨j, hj, e⟩ := List.mem_iff_getElem.mp hr
  rw [List.length_drop] at hj
  rw [List.getElem_drop] at e
  refine ⟨k + j, by omega, by omega, ?_⟩
  unfold ent
  rw [List.getD_eq_getElem?_getD (l := R), List.getElem?_eq_getElem (by omega), e]
  simpa using hn
/-- what is told is an answer -/
theorem solve_some {A : Mat} {b x : List Rat} {n : Nat} (h : A.length = b.length) (hr : Rect n A) (e : solve A b n = some x) : x.length = n ∧ ∀ i, i < A.length → lhs n A i (fun c => x.getD c 0) = b.getD i 0 := by
  have I := bring_inv (aug_rect h hr) n
  unfold solve at e
  generalize bring (aug A b) n = st at I e
  split at e
  · cases e
  · rename_i hb
    have hb : restBad n st.1 st.2.length = false := by simpa using hb
    cases e
    refine ⟨fill_len _ _ _, (van_aug h hr).mp ((I.van _).mp fun i hi => ?_)⟩
    rw [dot_yx rfl]
    by_cases hi2 : i < st.2.length
    · rw [lhs_lead I hi2]; grind
    · rw [lhs_rest I (by omega) hi, restBad_false hb (by omega) hi]; grind
/-- where none is told there is none -/
theorem solve_none {A : Mat} {b : List Rat} {n : Nat} (h : A.length = b.length) (hr : Rect n A) (e : solve A b n = none) (y : Nat → Rat) : ¬ ∀ i, i < A.length → lhs n A i y = b.getD i 0 := by
  intro hy
  have I := bring_inv (aug_rect h hr) n
  have v := (I.van _).mpr ((van_aug h hr).mpr hy)
  unfold solve at e
  generalize bring (aug A b) n = st at I e v
  split at e
  · rename_i hb
    obtain ⟨i, h1, h2, h3⟩ := restBad_true hb
    have := v i h2
    rw [dot_yx rfl, lhs_rest I h1 h2] at this
    exact h3 (by grind)
  · cases e
/-! ### sizes: one common divisor -/
def CD (X : Nat) (R : Mat) : Prop := ∃ d : Nat, 0 < d ∧ d ≤ X ∧ ∀ i c, i < R.length → ∃ z : Int, z.natAbs ≤ X ∧ ent R i c * (d : Rat) = (z : Rat)
theorem CD.mono {X Y : Nat} {R : Mat} (h : CD X R) (hxy : X ≤ Y) : CD Y R := by
  obtain ⟨d, d0, d1, h⟩ := h
  exact ⟨d, d0, by omega, fun i c hi => let ⟨z, h1, h2⟩ := h i c hi; ⟨z, by omega, h2⟩⟩
theorem size_of {q : Rat} {d : Nat} {z : Int} (d0 : 0 < d) (h : q * (d : Rat) = (z : Rat)) : q.den ≤ d ∧ q.num.natAbs ≤ z.natAbs := by
  have e : q.num * (d : Int) = z * (q.den : Int) := by
    have h1 : q = Rat.divInt z d := by
      rw [Rat.divInt_eq_div]
      have hd : ((d : Int) : Rat) ≠ 0 := by
        intro w
        have : (d : Int) = 0 := by exact_mod_cast w
        omega
      rw [← h]
      exact (Rat.mul_div_cancel (a := q) (b := ((d : Int) : Rat)) hd).symm
    rw [h1, Rat.num_divInt, Rat.den_divInt, if_neg (by omega), Int.sign_eq_one_of_pos (by omega), Int.one_mul, Int.natAbs_natCast]
    have g1 : ((Int.gcd (d : Int) z : Nat) : Int) ∣ z := Int.gcd_dvd_right ..
    have g2 : ((Int.gcd (d : Int) z : Nat) : Int) ∣ (d : Int) := Int.gcd_dvd_left ..
    obtain ⟨u, hu⟩ := g1
    obtain ⟨v, hv⟩ := g2
    have g0 : ((Int.gcd (d : Int) z : Nat) : Int) ≠ 0 := by
      have := Int.gcd_pos_of_ne_zero_left z (show (d : Int) ≠ 0 by omega)
      omega
    generalize hg : ((Int.gcd (d : Int) z : Nat) : Int) = g at hu hv g0
    have t1 : z / g = u := by rw [hu]; exact Int.mul_ediv_cancel_left _ g0
    have t2 : ((d / Int.gcd (d : Int) z : Nat) : Int) = v := by
      rw [Int.natCast_ediv, hg, hv]; exact Int.mul_ediv_cancel_left _ g0
    rw [t1, t2, hu, hv]
    grind
  have hc := q.reduced
  have dvd : q.den ∣ d := by
    have : q.den ∣ q.num.natAbs * d := by
      have e2 := congrArg Int.natAbs e
      rw [Int.natAbs_mul, Int.natAbs_mul, Int.natAbs_natCast, Int.natAbs_natCast] at e2
      exact ⟨z.natAbs, by rw [e2, Nat.mul_comm]⟩
    exact (Nat.Coprime.symm hc).dvd_of_dvd_mul_left this
  obtain ⟨k, hk⟩ := dvd
  have hk0 : 0 < k := by
    rcases Nat.eq_zero_or_pos k with z | z
    · rw [z, Nat.mul_zero] at hk; omega
    · exact z
  refine ⟨Nat.le_of_dvd d0 ⟨k, hk⟩, ?_⟩
  have e2 := congrArg Int.natAbs e
  rw [Int.natAbs_mul, Int.natAbs_mul, Int.natAbs_natCast, Int.natAbs_natCast, hk] at e2
  have hden := q.den_pos
  have e3 : q.den * (q.num.natAbs * k) = q.den * z.natAbs := by
    rw [Nat.mul_comm q.den z.natAbs, ← e2]
    grind
  have e4 := Nat.eq_of_mul_eq_mul_left hden e3
  rw [← e4]
  exact Nat.le_mul_of_pos_right _ hk0
theorem le_sq {X : Nat} (h : 0 < X) : X ≤ 2 * (X * X) := by
  have := Nat.le_mul_of_pos_left X h
  omega
theorem CD.swap {X i j : Nat} {R : Mat} (h : CD X R) (hi : i < R.length) (hj : j < R.length) : CD X (swapR R i j) := by
  obtain ⟨d, d0, d1, h⟩ := h
  refine ⟨d, d0, d1, fun k c hk => ?_⟩
  rw [swap_len] at hk
  unfold ent
  rw [swap_get hi hj]
  exact h _ c (by split; exact hi; split; exact hj; exact hk)
theorem CD.clear {X w d c : Nat} {R : Mat} (h : CD X R) (hr : Rect w R) (hd : d < R.length) (hp : ent R d c ≠ 0) : CD (2 * (X * X)) (clear R d c) := by
  obtain ⟨m, m0, m1, h⟩ := h
  obtain ⟨p, p1, p2⟩ := h d c hd
  have mr : (m : Rat) ≠ 0 := by
    intro w
    have : m = 0 := by exact_mod_cast w
    omega
  have pz : p ≠ 0 := by
    intro w
    rw [w] at p2
    rcases Rat.mul_eq_zero.mp (show ent R d c * (m : Rat) = 0 from p2) with q | q
    · exact hp q
    · exact mr q
  have hpa : 0 < p.natAbs := by omega
  have hm : m * p.natAbs ≤ X * X := Nat.mul_le_mul m1 p1
  have key : ∀ (q : Rat) (u : Int), q * (ent R d c) * (m : Rat) * (m : Rat) = (u : Rat) → ∃ z : Int, z.natAbs = u.natAbs ∧ q * ((m * p.natAbs : Nat) : Rat) = (z : Rat) := by
    intro q u hu
    have hc : ((m * p.natAbs : Nat) : Rat) = (m : Rat) * ((p.natAbs : Int) : Rat) := by push_cast; rfl
    rcases Int.natAbs_eq p with e | e
    · refine ⟨u, rfl, ?_⟩
      rw [hc, ← e, ← hu, ← p2]
      grind
    · refine ⟨-u, Int.natAbs_neg u, ?_⟩
      have e2 : ((p.natAbs : Int) : Rat) = -(p : Rat) := by
        have : (p.natAbs : Int) = -p := by omega
        rw [this]
        push_cast
        rfl
      rw [hc, e2, Rat.intCast_neg, ← hu, ← p2]
      grind
  refine ⟨m * p.natAbs, Nat.mul_pos m0 hpa, by omega, fun k j hk => ?_⟩
  rw [clear_len] at hk
  rw [clear_ent hr hd hk]
  obtain ⟨a, a1, a2⟩ := h d j hd
  split
  · obtain ⟨z, z1, z2⟩ := key (ent R d j / ent R d c) (a * m) (by
      rw [Rat.intCast_mul, ← a2, Rat.div_def]
      have := Rat.inv_mul_cancel _ hp
      have e : ((m : Int) : Rat) = (m : Rat) := rfl
      rw [e]
      grind)
    refine ⟨z, ?_, z2⟩
    rw [z1, Int.natAbs_mul, Int.natAbs_natCast]
    have := Nat.mul_le_mul a1 m1
    omega
  · obtain ⟨b, b1, b2⟩ := h k j hk
    obtain ⟨g, g1, g2⟩ := h k c hk
    obtain ⟨z, z1, z2⟩ := key (ent R k j - ent R k c * (ent R d j / ent R d c)) (b * p - g * a) (by
      rw [Rat.intCast_sub, Rat.intCast_mul, Rat.intCast_mul, ← a2, ← b2, ← g2, ← p2, Rat.div_def]
      have := Rat.inv_mul_cancel _ hp
      grind)
    refine ⟨z, ?_, z2⟩
    rw [z1]
    have h1 := Int.natAbs_sub_le (b * p) (g * a)
    rw [Int.natAbs_mul, Int.natAbs_mul] at h1
    have h2 := Nat.mul_le_mul b1 p1
    have h3 := Nat.mul_le_mul g1 a1
    omega
theorem CD.prod {X d c k j : Nat} {R : Mat} (h : CD X R) (hd : d < R.length) (hk : k < R.length) (hp : ent R d c ≠ 0) : ∃ e : Nat, 0 < e ∧ e ≤ X * X ∧ ∃ z : Int, z.natAbs ≤ X * X ∧ (ent R k c * (ent R d j / ent R d c)) * (e : Rat) = (z : Rat) := by
  obtain ⟨m, m0, m1, h⟩ := h
  obtain ⟨p, p1, p2⟩ := h d c hd
  have mr : (m : Rat) ≠ 0 := by
    intro w
    have : m = 0 := by exact_mod_cast w
    omega
  have pz : p ≠ 0 := by
    intro w
    rw [w] at p2
    rcases Rat.mul_eq_zero.mp (show ent R d c * (m : Rat) = 0 from p2) with q | q
    · exact hp q
    · exact mr q
  have hpa : 0 < p.natAbs := by omega
  obtain ⟨a, a1, a2⟩ := h d j hd
  obtain ⟨g, g1, g2⟩ := h k c hk
  have key : ∀ (q : Rat) (u : Int), q * (ent R d c) * (m : Rat) * (m : Rat) = (u : Rat) → ∃ z : Int, z.natAbs = u.natAbs ∧ q * ((m * p.natAbs : Nat) : Rat) = (z : Rat) := by
    intro q u hu
    have hc : ((m * p.natAbs : Nat) : Rat) = (m : Rat) * ((p.natAbs : Int) : Rat) := by push_cast; rfl
    rcases Int.natAbs_eq p with e | e
    · refine ⟨u, rfl, ?_⟩
      rw [hc, ← e, ← hu, ← p2]
      grind
    · refine ⟨-u, Int.natAbs_neg u, ?_⟩
      have e2 : ((p.natAbs : Int) : Rat) = -(p : Rat) := by
        have : (p.natAbs : Int) = -p := by omega
        rw [this]
        push_cast
        rfl
      rw [hc, e2, Rat.intCast_neg, ← hu, ← p2]
      grind
  obtain ⟨z, z1, z2⟩ := key (ent R k c * (ent R d j / ent R d c)) (g * a) (by
    rw [Rat.intCast_mul, ← a2, ← g2, Rat.div_def]
    have := Rat.inv_mul_cancel _ hp
    grind)
  refine ⟨m * p.natAbs, Nat.mul_pos m0 hpa, Nat.mul_le_mul m1 p1, z, ?_, z2⟩
  rw [z1, Int.natAbs_mul]
  exact Nat.mul_le_mul g1 a1
theorem CD.step {X w c : Nat} {st : Mat × List Nat} (h : CD X st.1) (hr : Rect w st.1) : CD (2 * (X * X)) (stepC st c).1 := by
  unfold stepC
  have hX : 0 < X := by obtain ⟨d, d0, d1, _⟩ := h; omega
  cases e : spot st.1 st.2.length c with
  | none => exact h.mono (le_sq hX)
  | some s =>
    obtain ⟨h1, h2, h3⟩ := spot_some e
    have hd : st.2.length < st.1.length := by omega
    refine (h.swap hd h2).clear (swap_rect hr hd h2) (by rw [swap_len]; exact hd) ?_
    unfold ent
    rw [swap_get hd h2]
    by_cases q : st.2.length = s
    · rw [if_pos q, q]; exact h3
    · rw [if_neg q, if_pos rfl]; exact h3
/-- the bound behind so many columns -/
def grow (X : Nat) : Nat → Nat
  | 0 => X
  | m + 1 => 2 * (grow X m * grow X m)
theorem CD.bring {X w : Nat} {R : Mat} (h : CD X R) (hr : Rect w R) : ∀ m, CD (grow X m) (bring R m).1
  | 0 => h
  | m + 1 => by rw [bring_succ]; exact (CD.bring h hr m).step (bring_inv hr m).rect
theorem grow_pow (e : Nat) : ∀ m, grow (2 ^ e) m * 2 = 2 ^ (2 ^ m * (e + 1))
  | 0 => by show 2 ^ e * 2 = _; rw [← Nat.pow_succ, Nat.pow_zero, Nat.one_mul]
  | m + 1 => by
    have ih := grow_pow e m
    show 2 * (grow (2 ^ e) m * grow (2 ^ e) m) * 2 = _
    have e1 : 2 ^ (m + 1) * (e + 1) = 2 ^ m * (e + 1) + 2 ^ m * (e + 1) := by rw [Nat.pow_succ]; grind
    rw [e1, Nat.pow_add, ← ih]
    grind
theorem grow_le {X : Nat} (h : 0 < X) : ∀ {k m : Nat}, k ≤ m → grow X k ≤ grow X m ∧ 0 < grow X k
  | k, 0, hk => by
    have : k = 0 := by omega
    subst this
    exact ⟨Nat.le_refl _, h⟩
  | k, m + 1, hk => by
    by_cases q : k = m + 1
    · subst q
      have := (grow_le h (Nat.le_refl m)).2
      exact ⟨Nat.le_refl _, Nat.mul_pos (by omega) (Nat.mul_pos this this)⟩
    · have ih := grow_le h (show k ≤ m by omega)
      have p := (grow_le h (Nat.le_refl m)).2
      exact ⟨Nat.le_trans ih.1 (le_sq p), ih.2⟩
end LA
set_option Elab.async false
set_option linter.all false
set_option maxRecDepth 100000
set_option maxHeartbeats 1000000
/-! PB3: sizes of fractions by a common divisor; sums. -/
namespace LA
open MK
/-- q times d is a whole number up to X -/
def Hd (X d : Nat) (q : Rat) : Prop := ∃ z : Int, z.natAbs ≤ X ∧ q * (d : Rat) = (z : Rat)
theorem Hd.mono {X Y d : Nat} {q : Rat} (h : Hd X d q) (hxy : X ≤ Y) : Hd Y d q := let ⟨z, a, b⟩ := h; ⟨z, by omega, b⟩
theorem Hd.int {X : Nat} {q : Rat} {i : Int} (e : q = (i : Rat)) (h : i.natAbs ≤ X) : Hd X 1 q := ⟨i, h, by rw [e]; exact Rat.mul_one _⟩
theorem Hd.zero (X d : Nat) : Hd X d 0 := ⟨0, by omega, by rw [Rat.zero_mul]; rfl⟩
theorem Hd.add {X Y d : Nat} {a b : Rat} (ha : Hd X d a) (hb : Hd Y d b) : Hd (X + Y) d (a + b) := by
  obtain ⟨u, u1, u2⟩ := ha
  obtain ⟨v, v1, v2⟩ := hb
  refine ⟨u + v, by omega, ?_⟩
  rw [Rat.add_mul, u2, v2, Rat.intCast_add]
theorem Hd.neg {X d : Nat} {a : Rat} (ha : Hd X d a) : Hd X d (-a) := by
  obtain ⟨u, u1, u2⟩ := ha
  refine ⟨-u, by omega, ?_⟩
  rw [Rat.neg_mul, u2, Rat.intCast_neg]
theorem Hd.sub {X Y d : Nat} {a b : Rat} (ha : Hd X d a) (hb : Hd Y d b) : Hd (X + Y) d (a - b) := by
  rw [Rat.sub_eq_add_neg]
  exact ha.add hb.neg
theorem Hd.mul {X Y d e : Nat} {a b : Rat} (ha : Hd X d a) (hb : Hd Y e b) : Hd (X * Y) (d * e) (a * b) := by
  obtain ⟨u, u1, u2⟩ := ha
  obtain ⟨v, v1, v2⟩ := hb
  refine ⟨u * v, by rw [Int.natAbs_mul]; exact Nat.mul_le_mul u1 v1, ?_⟩
  rw [Rat.intCast_mul, ← u2, ← v2]
  have : ((d * e : Nat) : Rat) = (d : Rat) * (e : Rat) := by push_cast; rfl
  rw [this]
  grind
theorem Hd.scale {X d : Nat} {a : Rat} (ha : Hd X d a) (e : Nat) : Hd (X * e) (d * e) a := by
  have h : Hd e e 1 := ⟨(e : Int), by simp, by rw [Rat.one_mul]; rfl⟩
  have := ha.mul h
  rw [Rat.mul_one] at this
  exact this
theorem Hd.sz {X d : Nat} {q : Rat} (h : Hd X d q) (d0 : 0 < d) (hX : X < 2 ^ bE) (hd : d < 2 ^ bE) : Sz q := by
  obtain ⟨z, a, b⟩ := h
  obtain ⟨c1, c2⟩ := size_of d0 b
  exact ⟨by omega, by omega⟩
def rsum (xs : List Rat) : Rat := xs.foldl (· + ·) 0
theorem foldl_add : ∀ (xs : List Rat) (s : Rat), xs.foldl (· + ·) s = s + rsum xs
  | [], s => by show s = s + 0; rw [Rat.add_zero]
  | x :: xs, s => by
    unfold rsum
    rw [List.foldl_cons, List.foldl_cons, foldl_add xs, foldl_add xs (0 + x), Rat.zero_add, Rat.add_assoc]
theorem rsum_cons (x : Rat) (xs : List Rat) : rsum (x :: xs) = x + rsum xs := by
  unfold rsum
  rw [List.foldl_cons, Rat.zero_add]
  exact foldl_add xs x
theorem rsum_nil : rsum [] = 0 := rfl
theorem Hd.foldl {X d : Nat} : ∀ {xs : List Rat} {s : Rat} {Y : Nat}, Hd Y d s → (∀ x ∈ xs, Hd X d x) → Hd (Y + xs.length * X) d (xs.foldl (· + ·) s)
  | [], s, Y, hs, _ => by rw [List.length_nil, Nat.zero_mul]; exact hs
  | x :: xs, s, Y, hs, hx => by
    have := Hd.foldl (hs.add (hx x List.mem_cons_self)) (fun y hy => hx y (List.mem_cons_of_mem _ hy))
    rw [List.foldl_cons]
    refine this.mono ?_
    rw [List.length_cons, Nat.succ_mul]
    omega
theorem Hd.rsum {X d : Nat} {xs : List Rat} (h : ∀ x ∈ xs, Hd X d x) : Hd (xs.length * X) d (rsum xs) := by
  have := Hd.foldl (Hd.zero 0 d) h
  rw [Nat.zero_add] at this
  exact this
/-- a sum's parts stay small -/
structure SumOk (xs : List Rat) : Prop where
  each : ∀ x ∈ xs, Sz x
  part : ∀ k, k ≤ xs.length → Sz ((xs.take k).foldl (· + ·) 0)
theorem SumOk.of {X d : Nat} {xs : List Rat} (d0 : 0 < d) (h : ∀ x ∈ xs, Hd X d x) (hX : (xs.length + 1) * X < 2 ^ bE) (hd : d < 2 ^ bE) : SumOk xs := by
  have hx : X < 2 ^ bE := by
    have := Nat.le_mul_of_pos_left X (show 0 < xs.length + 1 by omega)
    omega
  refine ⟨fun x hx' => (h x hx').sz d0 hx hd, fun k hk => ?_⟩
  have := Hd.rsum (xs := xs.take k) fun x hx => h x (List.mem_of_mem_take hx)
  refine this.sz d0 ?_ hd
  rw [List.length_take, Nat.min_eq_left hk]
  have := Nat.mul_le_mul_right X (show k ≤ xs.length + 1 by omega)
  omega
/-- a row's sum of products -/
def rdot (xs ys : List Rat) : Rat := rsum (List.zipWith (· * ·) xs ys)
theorem sumN_shift : ∀ (n : Nat) (f : Nat → Rat), sumN (n + 1) f = f 0 + sumN n fun i => f (i + 1)
  | 0, f => by show 0 + f 0 = f 0 + 0; rw [Rat.add_zero, Rat.zero_add]
  | n + 1, f => by
    show sumN (n + 1) f + f (n + 1) = f 0 + (sumN n (fun i => f (i + 1)) + f (n + 1))
    rw [sumN_shift n f, Rat.add_assoc]
theorem rsum_sumN : ∀ (xs : List Rat), rsum xs = sumN xs.length fun i => xs.getD i 0
  | [] => rfl
  | x :: xs => by
    rw [rsum_cons, rsum_sumN xs, List.length_cons, sumN_shift]
    rfl
theorem rdot_sumN {xs ys : List Rat} (h : xs.length = ys.length) : rdot xs ys = sumN xs.length fun i => xs.getD i 0 * ys.getD i 0 := by
  unfold rdot
  rw [rsum_sumN, List.length_zipWith, ← h, Nat.min_self]
  refine sumN_congr fun i hi => ?_
  rw [List.getD_eq_getElem?_getD, List.getElem?_zipWith, List.getElem?_eq_getElem hi, List.getElem?_eq_getElem (by omega), List.getD_eq_getElem?_getD, List.getD_eq_getElem?_getD, List.getElem?_eq_getElem hi, List.getElem?_eq_getElem (by omega)]
  rfl
/-- the numbers of one column of what is brought have one divisor -/
theorem CD.hd {X : Nat} {R : Mat} (h : CD X R) : ∃ d : Nat, 0 < d ∧ d ≤ X ∧ ∀ i c, i < R.length → Hd X d (ent R i c) := h
theorem solve_hd {A : Mat} {b x : List Rat} {n X : Nat} (h : A.length = b.length) (hr : Rect n A) (hc : CD X (aug A b)) (e : solve A b n = some x) : ∃ d : Nat, 0 < d ∧ d ≤ grow X n ∧ ∀ c, Hd (grow X n) d (x.getD c 0) := by
  have I := bring_inv (aug_rect h hr) n
  have C := hc.bring (aug_rect h hr) n
  unfold solve at e
  generalize bring (aug A b) n = st at I C e
  split at e
  · cases e
  · cases e
    obtain ⟨d, d0, d1, hd⟩ := C
    refine ⟨d, d0, d1, fun c => ?_⟩
    by_cases hm : c ∈ st.2
    · obtain ⟨i, hi⟩ := mem_get hm
      have hf := I.few
      have := (List.getElem?_eq_some_iff.mp hi).1
      rw [fill_lead I hi]
      exact hd i n (by omega)
    · rw [fill_free I hm]
      exact Hd.zero _ _
end LA
set_option Elab.async false
set_option linter.all false
set_option maxRecDepth 100000
set_option maxHeartbeats 1000000
/-! sums, sums of products. -/
namespace GL
open MK PySem PySem.Spec PyProof.Rows L2 LA
local macro_rules | `(tactic| walk_at "ev") => `(tactic| simp only [Option.map_some, Option.map_none, fnV, mCall_rt, mCall_nx, List.length_cons, List.length_nil, Nat.zero_add, Nat.reduceAdd, List.map_cons, List.map_nil, Nat.reduceSub, Nat.sub_self, List.replicate, List.cons_append, List.nil_append, List.append_nil, decide_true, decide_false, guard_t, mB_mP, eVar_z, eVar_s, eC_eq, eOp2_eq, eOp1_eq, aNil_eq, aCons_eq, aStar_eq, eArgs_eq, tE_eq, mBool_eq, mInt_eq, mD_eq, mSeq_t, mSeq_l, mLs_l, mDat_v, tAnd_eq, tOr_eq, tNot_eq, eAnd_eq, eOr_eq, eNot_eq, eIf_eq, eChain_eq, eTup_eq, eLst_eq, mTup0, mTup1, mTup2, mTup3, mLst0, mLst1, mLst2, few_of, Nat.reduceLeDiff, mNew_f, b1_eq, b2_eq, sCons_eq, sNil_eq, sAsg_eq, gVar_eq, eSl_eq, oSome_eq, oNone_eq, sRet_eq, sRetN_eq, sIf_eq, sExpr_eq, sFor_eq, iSeq_eq, mIter_l, mIter_t, iEnum_eq, iZip_eq, iRng1_eq, iRng2_eq, iRngV_eq, bRange1_eq, mRng_eq, noX_mP, noExc_nil, noExc_none, noExc_val, noExc_rng, wipeR, List.set_cons_zero, List.set_cons_succ, tYesM_eq, gTup_eq2, gTup_eq3, eCallI_eq, List.all_cons, List.all_nil, isVal, Bool.and_true, Bool.and_self, Bool.true_and, iso_mP, fIx_fr0, fIx_fr1, fAdd_int, fSub_int, fNeg_int, fLt_int, fLe_int, fGt_int, fGe_int, bGcd_int, bLen_t, bLen_l, bTuple_l, bTuple_t, bList_t, bList_l, sPar_eq, bAbs_int, bIntB_int, if_true, Bool.not_true, Bool.not_false, Bool.false_eq_true, reduceIte, *])
theorem total_loop {a : SV} : ∀ (xs : List Rat) (s : Rat) (o : Option SV), (∀ x ∈ xs, Sz x) → (∀ k, k ≤ xs.length → Sz ((xs.take k).foldl (· + ·) s)) → ∃ o',
    MK.forM (gVar 2) (sAsg (eCallI V_plus (aCons (eVar 1) (aCons (eVar 2) aNil))) (gVar 1)) (xs.map fr) [some a, some (.val (fr s)), o] = mP (.nx, [some a, some (.val (fr (xs.foldl (· + ·) s))), o'])
  | [], s, o, _, _ => ⟨o, rfl⟩
  | x :: xs, s, o, hx, hs => by
    have h0 := hs 0 (by omega)
    have h1 := hx x List.mem_cons_self
    obtain ⟨o', e⟩ := total_loop (a := a) xs (s + x) (some (.val (fr x))) (fun y hy => hx y (List.mem_cons_of_mem _ hy)) (fun k hk => by
      have := hs (k + 1) (by rw [List.length_cons]; omega)
      exact this)
    refine ⟨o', ?_⟩
    have p := plus_eq h0 h1
    rw [List.map_cons, forM_cons (ρ1 := [some a, some (.val (fr s)), some (.val (fr x))]) (ρ2 := [some a, some (.val (fr (s + x))), some (.val (fr x))]) (by walk_at "ev") (by
      simp only [List.take_zero, List.foldl_nil] at p
      walk_at "ev")]
    exact e
theorem total_eq {p : PyData} {xs : List Rat} (hp : Sq p (xs.map fr)) (h : SumOk xs) : V_total [.val p] = mP (.val (fr (rsum xs))) := by
  obtain ⟨o', e⟩ := total_loop (a := .val p) xs 0 none h.each h.part
  have i := hp.iter
  have e0 : (PyData.tuple [.int 0, .int 1]) = fr 0 := rfl
  unfold V_total B_total
  rw [e0]
  walk_at "ev"
  rfl
theorem law_sum_loop {a : SV} : ∀ (xs : List Rat) (s : Rat) (o : Option SV), (∀ x ∈ xs, Sz x) → (∀ k, k ≤ xs.length → Sz ((xs.take k).foldl (· + ·) s)) → ∃ o',
    MK.forM (gVar 2) (sAsg (eCallI V__law_plus (aCons (eVar 1) (aCons (eVar 2) aNil))) (gVar 1)) (xs.map fr) [some a, some (.val (fr s)), o] = mP (.nx, [some a, some (.val (fr (xs.foldl (· + ·) s))), o'])
  | [], s, o, _, _ => ⟨o, rfl⟩
  | x :: xs, s, o, hx, hs => by
    have h0 := hs 0 (by omega)
    have h1 := hx x List.mem_cons_self
    obtain ⟨o', e⟩ := law_sum_loop (a := a) xs (s + x) (some (.val (fr x))) (fun y hy => hx y (List.mem_cons_of_mem _ hy)) (fun k hk => by
      have := hs (k + 1) (by rw [List.length_cons]; omega)
      exact this)
    refine ⟨o', ?_⟩
    have p := law_plus_eq h0 h1
    rw [List.map_cons, forM_cons (ρ1 := [some a, some (.val (fr s)), some (.val (fr x))]) (ρ2 := [some a, some (.val (fr (s + x))), some (.val (fr x))]) (by walk_at "ev") (by
      simp only [List.take_zero, List.foldl_nil] at p
      walk_at "ev")]
    exact e
theorem law_sum_eq {p : PyData} {xs : List Rat} (hp : Sq p (xs.map fr)) (h : SumOk xs) : V__law_sum [.val p] = mP (.val (fr (rsum xs))) := by
  obtain ⟨o', e⟩ := law_sum_loop (a := .val p) xs 0 none h.each h.part
  have i := hp.iter
  have e0 : (PyData.tuple [.int 0, .int 1]) = fr 0 := rfl
  unfold V__law_sum B__law_sum
  walk_at "ev"
  rfl
theorem dot_eq {p q : PyData} {xs ys : List Rat} (hp : Sq p (xs.map fr)) (hq : Sq q (ys.map fr)) (hx : ∀ x ∈ xs, Sz x) (hy : ∀ y ∈ ys, Sz y) (hl : xs.length ≤ 10000) (hs : SumOk (List.zipWith (· * ·) xs ys)) : V_dot [.val p, .val q] = mP (.val (fr (rdot xs ys))) := by
  have i1 := hp.iter
  have i2 := hq.iter
  have c : eLc false (iZip (eVar 0) (eVar 1)) (gTup 2 (gsCons (gVar 2) (gsCons (gVar 3) gsNil))) tYesM (eCallI V_times (aCons (eVar 2) (aCons (eVar 3) aNil))) [2, 3] [some (.val p), some (.val q), none, none]
      = mP (.val (.list ((xs.zip ys).map fun z => fr (z.1 * z.2)))) := by
    refine eLc_map (xs := xs.zip ys) (f := fun z => .tuple [fr z.1, fr z.2]) (ρ' := fun z => [some (.val p), some (.val q), some (.val (fr z.1)), some (.val (fr z.2))]) ?_ (by rw [List.length_zip]; omega) rfl (fun z _ => by walk_at "ev") (fun z _ => rfl) (fun z hz => ?_)
    · walk_at "ev"
      rw [zipD_map]
    · have t := times_eq (hx z.1 (List.of_mem_zip hz).1) (hy z.2 (List.of_mem_zip hz).2)
      walk_at "ev"
  rw [zip_map (f := fr)] at c
  have t := total_eq (Sq.l _) hs
  unfold V_dot B_dot
  walk_at "ev"
  rfl
theorem law_dot_eq {p q : PyData} {xs ys : List Rat} (hp : Sq p (xs.map fr)) (hq : Sq q (ys.map fr)) (he : xs.length = ys.length) (hx : ∀ x ∈ xs, Sz x) (hy : ∀ y ∈ ys, Sz y) (hl : xs.length ≤ 10000) (hs : SumOk (List.zipWith (· * ·) xs ys)) : V__law_dot [.val p, .val q] = mP (.val (fr (rdot xs ys))) := by
  have i1 := hp.len
  rw [List.length_map] at i1
  have c : eLc false (iRng1 (eArgs (b1 bLen) (aCons (eVar 0) aNil))) (gVar 2) tYesM (eCallI V__law_times (aCons (eOp2 fIx (eVar 0) (eVar 2)) (aCons (eOp2 fIx (eVar 1) (eVar 2)) aNil))) [2] [some (.val p), some (.val q), none]
      = mP (.val (.list ((List.range xs.length).map fun k => fr (xs.getD k 0 * ys.getD k 0)))) := by
    refine eLc_map (xs := List.range xs.length) (f := fun (k : Nat) => PyData.int (k : Int)) (ρ' := fun k => [some (.val p), some (.val q), some (.val (.int (k : Int)))]) (iRng1_nat (by walk_at "ev") (by omega)) (by rw [List.length_range]; omega) rfl (fun k _ => by walk_at "ev") (fun k _ => rfl) (fun k hk => ?_)
    have hk := List.mem_range.mp hk
    have a1 := hp.ixR hk
    have a2 := hq.ixR (show k < ys.length by omega)
    have t := law_times_eq (hx (xs.getD k 0) (by rw [getD_get hk]; exact List.getElem_mem hk)) (hy (ys.getD k 0) (by rw [getD_get (show k < ys.length by omega)]; exact List.getElem_mem _))
    walk_at "ev"
  have e2 : ((List.range xs.length).map fun k => fr (xs.getD k 0 * ys.getD k 0)) = (List.zipWith (· * ·) xs ys).map fr := by
    apply List.ext_getElem
    · simp [he]
    · intro k h1 h2
      rw [List.getElem_map, List.getElem_map, List.getElem_range, List.getElem_zipWith]
      have hk : k < xs.length := by simpa using h1
      rw [getD_get hk, getD_get (show k < ys.length by omega)]
  rw [e2] at c
  have t := law_sum_eq (Sq.l _) hs
  unfold V__law_dot B__law_dot
  walk_at "ev"
  rfl
end GL
set_option Elab.async false
set_option linter.all false
set_option maxRecDepth 100000
set_option maxHeartbeats 4000000
/-! equations in the program. -/
namespace GL
open MK PySem PySem.Spec PyProof.Rows L2 LA
local macro_rules | `(tactic| walk_at "ev") => `(tactic| simp only [Option.map_some, Option.map_none, fnV, mCall_rt, mCall_nx, List.length_cons, List.length_nil, Nat.zero_add, Nat.reduceAdd, List.map_cons, List.map_nil, Nat.reduceSub, Nat.sub_self, List.replicate, List.cons_append, List.nil_append, List.append_nil, decide_true, decide_false, guard_t, mB_mP, eVar_z, eVar_s, eC_eq, eOp2_eq, eOp1_eq, aNil_eq, aCons_eq, aStar_eq, eArgs_eq, tE_eq, mBool_eq, mInt_eq, mD_eq, mSeq_t, mSeq_l, mLs_l, mDat_v, tAnd_eq, tOr_eq, tNot_eq, eAnd_eq, eOr_eq, eNot_eq, eIf_eq, eChain_eq, eTup_eq, eLst_eq, mTup0, mTup1, mTup2, mTup3, mLst0, mLst1, mLst2, few_of, Nat.reduceLeDiff, mNew_f, b1_eq, b2_eq, sCons_eq, sNil_eq, sAsg_eq, gVar_eq, eSl_eq, oSome_eq, oNone_eq, sRet_eq, sRetN_eq, sIf_eq, sExpr_eq, sFor_eq, iSeq_eq, mIter_l, mIter_t, iEnum_eq, iZip_eq, iRng1_eq, iRng2_eq, iRngV_eq, bRange1_eq, mRng_eq, noX_mP, noExc_nil, noExc_none, noExc_val, noExc_rng, wipeR, List.set_cons_zero, List.set_cons_succ, tYesM_eq, gTup_eq2, gTup_eq3, eCallI_eq, List.all_cons, List.all_nil, isVal, Bool.and_true, Bool.and_self, Bool.true_and, iso_mP, fIx_fr0, fIx_fr1, fAdd_int, fSub_int, fNeg_int, fLt_int, fLe_int, fGt_int, fGe_int, bGcd_int, bLen_t, bLen_l, bTuple_l, bTuple_t, bList_t, bList_l, sPar_eq, bAbs_int, bIntB_int, if_true, Bool.not_true, Bool.not_false, Bool.false_eq_true, reduceIte, *])
local macro_rules | `(tactic| walk_at "evh") => `(tactic| simp only [Option.map_some, Option.map_none, mP_app, mB_def, mNew_t, gIx_eq, eFrz_eq, fnV, mCall_rt, mCall_nx, List.length_cons, List.length_nil, Nat.zero_add, Nat.reduceAdd, List.map_cons, List.map_nil, Nat.reduceSub, Nat.sub_self, List.replicate, List.cons_append, List.nil_append, List.append_nil, decide_true, decide_false, guard_t, mB_mP, eVar_z, eVar_s, eC_eq, eOp2_eq, eOp1_eq, aNil_eq, aCons_eq, aStar_eq, eArgs_eq, tE_eq, mBool_eq, mInt_eq, mD_eq, mSeq_t, mSeq_l, mLs_l, mDat_v, tAnd_eq, tOr_eq, tNot_eq, eAnd_eq, eOr_eq, eNot_eq, eIf_eq, eChain_eq, eTup_eq, eLst_eq, mTup0, mTup1, mTup2, mTup3, mLst0, mLst1, mLst2, few_of, Nat.reduceLeDiff, mNew_f, b1_eq, b2_eq, sCons_eq, sNil_eq, sAsg_eq, gVar_eq, eSl_eq, oSome_eq, oNone_eq, sRet_eq, sRetN_eq, sIf_eq, sExpr_eq, sFor_eq, iSeq_eq, mIter_l, mIter_t, iEnum_eq, iZip_eq, iRng1_eq, iRng2_eq, iRngV_eq, bRange1_eq, mRng_eq, noX_mP, noExc_nil, noExc_none, noExc_val, noExc_rng, wipeR, List.set_cons_zero, List.set_cons_succ, tYesM_eq, gTup_eq2, gTup_eq3, eCallI_eq, List.all_cons, List.all_nil, isVal, Bool.and_true, Bool.and_self, Bool.true_and, iso_mP, fIx_fr0, fIx_fr1, fAdd_int, fSub_int, fNeg_int, fLt_int, fLe_int, fGt_int, fGe_int, bGcd_int, bLen_t, bLen_l, bTuple_l, bTuple_t, bList_t, bList_l, sPar_eq, bAbs_int, bIntB_int, if_true, Bool.not_true, Bool.not_false, Bool.false_eq_true, reduceIte, *])
def rl (r : List Rat) : PyData := .list (r.map fr)
def il (L : List Nat) : List PyData := L.map fun (k : Nat) => PyData.int (k : Int)
theorem without_column_eq {row lead : List Rat} {c : Nat} (hw : row.length = lead.length) (hl : row.length ≤ 10000) (hc : c < row.length) (h1 : ∀ x ∈ row, Sz x) (h2 : ∀ x ∈ lead, Sz x) (h3 : ∀ x ∈ lead, Sz (row.getD c 0 * x)) : V_without_column [.val (rl row), .val (rl lead), .val (.int (c : Int))] = mP (.val (rl (wo row lead c))) := by
  have a1 := (Sq.l (row.map fr)).ixR hc
  have i1 := (Sq.l (row.map fr)).iter
  have i2 := (Sq.l (lead.map fr)).iter
  have q := fEq_fr (row.getD c 0) 0
  rw [← fr_zero] at q
  unfold wo
  by_cases h0 : row.getD c 0 = 0
  · rw [if_pos h0]
    rw [decide_eq_true h0] at q
    clear h0 h3
    unfold V_without_column B_without_column rl at *
    walk_at "ev"
  · rw [if_neg h0]
    rw [decide_eq_false h0] at q
    clear h0
    have c' : eLc false (iZip (eVar 0) (eVar 1)) (gTup 2 (gsCons (gVar 4) (gsCons (gVar 5) gsNil))) tYesM (eCallI V_minus (aCons (eVar 4) (aCons (eCallI V_times (aCons (eVar 3) (aCons (eVar 5) aNil))) aNil))) [4, 5] [some (.val (rl row)), some (.val (rl lead)), some (.val (.int (c : Int))), some (.val (fr (row.getD c 0))), none, none]
        = mP (.val (.list ((row.zip lead).map fun z => fr (z.1 - row.getD c 0 * z.2)))) := by
      refine eLc_map (xs := row.zip lead) (f := fun z => .tuple [fr z.1, fr z.2]) (ρ' := fun z => [some (.val (rl row)), some (.val (rl lead)), some (.val (.int (c : Int))), some (.val (fr (row.getD c 0))), some (.val (fr z.1)), some (.val (fr z.2))]) ?_ (by rw [List.length_zip]; omega) rfl (fun z _ => by walk_at "ev") (fun z _ => rfl) (fun z hz => ?_)
      · unfold rl
        walk_at "ev"
        rw [zipD_map]
      · have m1 := (List.of_mem_zip hz).1
        have m2 := (List.of_mem_zip hz).2
        have t := times_eq (h1 (row.getD c 0) (by rw [getD_get hc]; exact List.getElem_mem hc)) (h2 z.2 m2)
        have s := minus_eq (h1 z.1 m1) (h3 z.2 m2)
        walk_at "ev"
    rw [zip_map (f := fr) (g := fun a b => a - row.getD c 0 * b)] at c'
    unfold V_without_column B_without_column rl at *
    walk_at "ev"
def colB : Sm := (sCons (sAsg (eArgs (b1 bLen) (aCons (eVar 3) aNil)) (gVar 5))
    (sCons (sAsg (eLc false (iRng2 (eVar 5) (eArgs (b1 bLen) (aCons (eVar 2) aNil))) (gVar 9) (tE (eOp2 fNe (eOp2 fIx (eOp2 fIx (eVar 2) (eVar 9)) (eVar 4)) (eC (.tuple [.int 0, .int 1])))) (eVar 9) [9]) (gVar 6))
    (sIf (tE (eOp2 fNe (eVar 6) (eLst false aNil))) (sCons (sAsg (eTup (aCons (eOp2 fIx (eVar 2) (eOp2 fIx (eVar 6) (eC (.int 0)))) (aCons (eOp2 fIx (eVar 2) (eVar 5)) aNil))) (gTup 2 (gsCons (gIx (eVar 2) (eVar 5)) (gsCons (gIx (eVar 2) (eOp2 fIx (eVar 6) (eC (.int 0)))) gsNil))))
    (sCons (sAsg (eLc false (iSeq (eOp2 fIx (eVar 2) (eVar 5))) (gVar 10) tYesM (eCallI V_over (aCons (eVar 10) (aCons (eOp2 fIx (eOp2 fIx (eVar 2) (eVar 5)) (eVar 4)) aNil))) [10]) (gVar 7))
    (sCons (sAsg (eLc true (iEnum (eFrz 2)) (gTup 2 (gsCons (gVar 9) (gsCons (gVar 8) gsNil))) tYesM (eIf (tE (eOp2 fEq (eVar 9) (eVar 5))) (eVar 7) (eCallI V_without_column (aCons (eVar 8) (aCons (eVar 7) (aCons (eVar 4) aNil))))) [9, 8]) (gVar 2))
    (sExpr (fun ρ => mB ((eVar 3) ρ) fun x => mB (isLs x) fun _ => mB ((eVar 4) ρ) fun y => mApp x y))))) sNil)))
/-- the cells of rows and leads -/
structure BSt (h : Hm) (nr : Nat) (st : Mat × List Nat) : Prop where
  rows : h[nr]? = some (some (.lst (st.1.map rl)))
  leads : h[1]? = some (some (.lst (il st.2)))
  ne : nr ≠ 1
def bro (t m : PyData) (nr : Nat) (o4 o5 o6 o7 : Option PyData) : Ro := [some (.val t), some (.val m), some (.ref nr), some (.ref 1), o4.map SV.val, o5.map SV.val, o6.map SV.val, o7.map SV.val, none, none, none]
theorem noExc_map (o : Option PyData) (ρ : Ro) : noExc (o.map SV.val :: ρ) = o.map SV.val :: noExc ρ := by cases o <;> rfl
theorem row_at {R : Mat} {k : Nat} (hk : k < R.length) : (R.map rl)[k]? = some (rl (R.getD k [])) := by
  rw [getD_get hk]
  exact map_get hk
theorem find_head {p : Nat → Bool} : ∀ {xs : List Nat}, (xs.filter p).head? = xs.find? p
  | [] => rfl
  | x :: xs => by
    by_cases h : p x = true
    · rw [List.filter_cons_of_pos h, List.find?_cons_of_pos h]; rfl
    · rw [List.filter_cons_of_neg h, List.find?_cons_of_neg h, find_head]
theorem sz_hd {X d : Nat} {q : Rat} (d0 : 0 < d) (dX : d ≤ X) (hX : X < 2 ^ bE) (h : Hd X d q) : Sz q := h.sz d0 hX (by omega)
theorem ent_mem {R : Mat} {k : Nat} {P : Rat → Prop} (h : ∀ j, P (ent R k j)) : ∀ x ∈ R.getD k [], P x := by
  intro x hx
  obtain ⟨j, hj, e⟩ := List.mem_iff_getElem.mp hx
  have := h j
  unfold ent at this
  rw [getD_get hj, e] at this
  exact this
theorem col_step {t m : PyData} {w c X : Nat} {h : Hm} {nr : Nat} {st : Mat × List Nat} {o5 o6 o7 : Option PyData} (S : BSt h nr st) (hr : Rect w st.1) (hlen : st.1.length ≤ 10000) (hfew : st.2.length ≤ st.1.length) (hw : w ≤ 10000) (hc : c < w) (hcd : CD X st.1) (hX : 2 * (X * X) < 2 ^ bE) :
    ∃ h' nr' o5' o6' o7', colB (bro t m nr (some (.int (c : Int))) o5 o6 o7) h = .ok (.nx, bro t m nr' (some (.int (c : Int))) o5' o6' o7') h' ∧ BSt h' nr' (stepC st c) := by
  obtain ⟨s1, s2, s3⟩ := S
  obtain ⟨R, L⟩ := st
  simp only at s1 s2 hr hlen hfew hcd
  have X0 : 0 < X := by obtain ⟨d, a, b, _⟩ := hcd; omega
  have hX1 : X < 2 ^ bE := by have := le_sq X0; omega
  have szR : ∀ i k, i < R.length → Sz (ent R i k) := fun i k hi => by
    obtain ⟨d, d0, d1, hd⟩ := hcd
    exact sz_hd d0 d1 hX1 (hd i k hi)
  have l1 : (il L).length = L.length := by unfold il; rw [List.length_map]
  have b1 := bLen_ref s2
  rw [l1] at b1
  have b2 := bLen_ref s1
  rw [List.length_map] at b2
  have e1 : sAsg (eArgs (MK.b1 bLen) (aCons (eVar 3) aNil)) (gVar 5) (bro t m nr (some (.int (c : Int))) o5 o6 o7) h = .ok (.nx, bro t m nr (some (.int (c : Int))) (some (.int (L.length : Nat))) o6 o7) h := by
    unfold bro
    walk_at "evh"
  let p : Nat → Bool := fun k => decide (ent R k c ≠ 0)
  have e2 : eLc false (iRng2 (eVar 5) (eArgs (MK.b1 bLen) (aCons (eVar 2) aNil))) (gVar 9) (tE (eOp2 fNe (eOp2 fIx (eOp2 fIx (eVar 2) (eVar 9)) (eVar 4)) (eC (.tuple [.int 0, .int 1])))) (eVar 9) [9] (bro t m nr (some (.int (c : Int))) (some (.int (L.length : Nat))) o6 o7) h
      = .ok (.val (.list (((List.range' L.length (R.length - L.length)).filter p).map fun (k : Nat) => PyData.int (k : Int)))) h := by
    refine eLc_filterH (xs := List.range' L.length (R.length - L.length)) (f := fun (k : Nat) => PyData.int (k : Int)) (h1 := h) (ρ' := fun k => (bro t m nr (some (.int (c : Int))) (some (.int (L.length : Nat))) o6 o7).set 9 (some (.val (.int (k : Int))))) (p := p) (g := fun (k : Nat) => PyData.int (k : Int)) (iRng2_natH (h1 := h) ?_ ?_ (by omega) (by omega)) (by rw [List.length_range']; omega) ?_ (fun k _ => rfl) (fun k hk => ?_) (fun k _ _ => rfl)
    · rfl
    · unfold bro
      walk_at "evh"
    · unfold bro
      simp only [noExc_map, noExc_none, noExc_val, noExc_ref, noExc_nil, wipeR, List.set_cons_succ, List.set_cons_zero]
    · have hk2 : k < R.length := by have := List.mem_range'_1.mp hk; omega
      have f1 := fIx_refN s1 (row_at hk2)
      have f2 := (Sq.l ((R.getD k []).map fr)).ixR (show c < (R.getD k []).length by rw [getD_row hr hk2]; exact hc)
      have f3 := fNe_fr ((R.getD k []).getD c 0) 0
      rw [← fr_zero] at f3
      unfold rl at f1
      unfold bro
      walk_at "evh"
      show Res.ok (!decide (ent R k c = 0)) h = Res.ok (p k) h
      simp [p]
  have sp : spot R L.length c = ((List.range' L.length (R.length - L.length)).filter p).head? := by rw [find_head]; rfl
  generalize hf : (List.range' L.length (R.length - L.length)).filter p = ss at e2 sp
  have hn := fNe_nil (sh_ints (f := fun (k : Nat) => (k : Int)) ss)
  have e3 : sAsg (eLc false (iRng2 (eVar 5) (eArgs (MK.b1 bLen) (aCons (eVar 2) aNil))) (gVar 9) (tE (eOp2 fNe (eOp2 fIx (eOp2 fIx (eVar 2) (eVar 9)) (eVar 4)) (eC (.tuple [.int 0, .int 1])))) (eVar 9) [9]) (gVar 6) (bro t m nr (some (.int (c : Int))) (some (.int (L.length : Nat))) o6 o7) h
      = .ok (.nx, bro t m nr (some (.int (c : Int))) (some (.int (L.length : Nat))) (some (.list (ss.map fun (k : Nat) => PyData.int (k : Int)))) o7) h := sAsg_var e2
  unfold colB
  rw [sCons_nx e1, sCons_nx e3]
  cases ss with
  | nil =>
    have hs : spot R L.length c = none := sp
    refine ⟨h, nr, some (.int (L.length : Nat)), some (.list []), o7, ?_, ?_⟩
    · unfold bro
      rw [List.map_nil] at hn
      walk_at "evh"
      rfl
    · unfold stepC
      rw [hs]
      exact ⟨s1, s2, s3⟩
  | cons s rest =>
    have hs : spot R L.length c = some s := sp
    obtain ⟨q1, q2, q3⟩ := spot_some hs
    have hd : L.length < R.length := by omega
    have hsl : s < R.length := q2
    -- the swap
    have f1 := fIx_refN s1 (row_at hsl)
    have f2 := fIx_refN s1 (row_at hd)
    have f3 : fIx (.val (.list ((s :: rest).map fun (k : Nat) => PyData.int (k : Int)))) (.val (.int 0)) = mP (.val (.int (s : Int))) := (Sq.l _).ix (k := 0) rfl
    have hnr := cell_lt s1
    have g1 := mSetIx_ref (d := rl (R.getD s [])) s1 (show L.length < (R.map rl).length by rw [List.length_map]; exact hd)
    have c1 : (h.set nr (some (.lst ((R.map rl).set L.length (rl (R.getD s []))))))[nr]? = some (some (.lst ((R.map rl).set L.length (rl (R.getD s []))))) := cell_set hnr
    have c1l : (h.set nr (some (.lst ((R.map rl).set L.length (rl (R.getD s []))))))[1]? = some (some (.lst (il L))) := by rw [cell_ne s3]; exact s2
    generalize h.set nr (some (.lst ((R.map rl).set L.length (rl (R.getD s []))))) = h1 at g1 c1 c1l
    have g2 := mSetIx_ref (d := rl (R.getD L.length [])) c1 (show s < ((R.map rl).set L.length (rl (R.getD s []))).length by rw [List.length_set, List.length_map]; exact hsl)
    have hR1 : (((R.map rl).set L.length (rl (R.getD s []))).set s (rl (R.getD L.length []))) = (swapR R L.length s).map rl := by
      unfold swapR
      rw [List.map_set, List.map_set]
    rw [hR1] at g2
    have c2 : (h1.set nr (some (.lst ((swapR R L.length s).map rl))))[nr]? = some (some (.lst ((swapR R L.length s).map rl))) := cell_set (cell_lt c1)
    have c2l : (h1.set nr (some (.lst ((swapR R L.length s).map rl))))[1]? = some (some (.lst (il L))) := by rw [cell_ne s3]; exact c1l
    generalize h1.set nr (some (.lst ((swapR R L.length s).map rl))) = h2 at g2 c2 c2l
    have e4 : sAsg (eTup (aCons (eOp2 fIx (eVar 2) (eOp2 fIx (eVar 6) (eC (.int 0)))) (aCons (eOp2 fIx (eVar 2) (eVar 5)) aNil))) (gTup 2 (gsCons (gIx (eVar 2) (eVar 5)) (gsCons (gIx (eVar 2) (eOp2 fIx (eVar 6) (eC (.int 0)))) gsNil)))
        (bro t m nr (some (.int (c : Int))) (some (.int (L.length : Nat))) (some (.list ((s :: rest).map fun (k : Nat) => PyData.int (k : Int)))) o7) h = .ok (.nx, bro t m nr (some (.int (c : Int))) (some (.int (L.length : Nat))) (some (.list ((s :: rest).map fun (k : Nat) => PyData.int (k : Int)))) o7) h2 := by
      unfold bro
      clear hn e3 e2 hf sp hs c1 c1l c2 c2l hR1
      generalize (s :: rest).map (fun (k : Nat) => PyData.int (k : Int)) = sl at f3 ⊢
      walk_at "evh"
    have hdl : L.length < (swapR R L.length s).length := by rw [swap_len]; exact hd
    have r1 := swap_rect hr hd hsl
    have cd1 := hcd.swap hd hsl
    have sl1 := swap_len R L.length s
    have hp : ent (swapR R L.length s) L.length c ≠ 0 := by
      unfold ent
      rw [swap_get hd hsl]
      by_cases q : L.length = s
      · rw [if_pos q, q]; exact q3
      · rw [if_neg q, if_pos rfl]; exact q3
    have hst : stepC (R, L) c = (clear (swapR R L.length s) L.length c, L ++ [c]) := by unfold stepC; rw [hs]
    generalize hS : swapR R L.length s = S at c2 c2l hdl r1 cd1 sl1 hp hst
    generalize hdn : L.length = d at *
    have szS : ∀ i k, i < S.length → Sz (ent S i k) := fun i k hi => by
      obtain ⟨e, d0, d1, hd⟩ := cd1
      exact sz_hd d0 d1 hX1 (hd i k hi)
    have cd2 := cd1.clear r1 hdl hp
    -- the lead
    have f4 := fIx_refN c2 (row_at hdl)
    have f5 := (Sq.l ((S.getD d []).map fr)).ixR (show c < (S.getD d []).length by rw [getD_row r1 hdl]; exact hc)
    have e5 : eLc false (iSeq (eOp2 fIx (eVar 2) (eVar 5))) (gVar 10) tYesM (eCallI V_over (aCons (eVar 10) (aCons (eOp2 fIx (eOp2 fIx (eVar 2) (eVar 5)) (eVar 4)) aNil))) [10]
        (bro t m nr (some (.int (c : Int))) (some (.int (d : Nat))) (some (.list ((s :: rest).map fun (k : Nat) => PyData.int (k : Int)))) o7) h2 = .ok (.val (rl (leadR S d c))) h2 := by
      have hl := getD_row r1 hdl
      refine (eLc_mapH (o := false) (xs := S.getD d []) (f := fr) (h1 := h2) (ρ' := fun x => (bro t m nr (some (.int (c : Int))) (some (.int (d : Nat))) (some (.list ((s :: rest).map fun (k : Nat) => PyData.int (k : Int)))) o7).set 10 (some (.val (fr x)))) (g := fun x => fr (x / ent S d c)) ?_ (by rw [hl]; exact hw) ?_ (fun k _ => rfl) (fun k hk => rfl) (fun x hx => ?_)).trans ?_
      · unfold rl at f4
        unfold bro
        clear hn e3 e2 hf sp hs f3
        generalize (s :: rest).map (fun (k : Nat) => PyData.int (k : Int)) = sl
        walk_at "evh"
      · unfold bro
        simp only [noExc_map, noExc_none, noExc_val, noExc_ref, noExc_nil, wipeR, List.set_cons_succ, List.set_cons_zero]
      · have o := over_eq (ent_mem (R := S) (k := d) (P := Sz) (fun j => szS d j hdl) x hx) (szS d c hdl) hp
        unfold rl at f4
        unfold bro
        clear hn e3 e2 hf sp hs f3
        generalize (s :: rest).map (fun (k : Nat) => PyData.int (k : Int)) = sl
        have f6 : fIx (.val (.list ((S.getD d []).map fr))) (.val (.int (c : Int))) = mP (.val (fr (ent S d c))) := f5
        clear f5
        walk_at "evh"
      · unfold leadR rl
        rw [List.map_map]
        rfl
    have h3c : (h2.set nr none)[1]? = some (some (.lst (il L))) := by rw [cell_ne s3]; exact c2l
    have fz := mFrz_ref c2
    generalize h2.set nr none = h3 at h3c fz
    have e6 : eLc true (iEnum (eFrz 2)) (gTup 2 (gsCons (gVar 9) (gsCons (gVar 8) gsNil))) tYesM (eIf (tE (eOp2 fEq (eVar 9) (eVar 5))) (eVar 7) (eCallI V_without_column (aCons (eVar 8) (aCons (eVar 7) (aCons (eVar 4) aNil))))) [9, 8]
        (bro t m nr (some (.int (c : Int))) (some (.int (d : Nat))) (some (.list ((s :: rest).map fun (k : Nat) => PyData.int (k : Int)))) (some (rl (leadR S d c)))) h2 = .ok (.ref h3.length) (h3 ++ [some (.lst ((clear S d c).map rl))]) := by
      refine (eLc_mapH (o := true) (xs := S.zipIdx) (f := fun q => .tuple [.int (q.2 : Nat), rl q.1]) (h1 := h3) (ρ' := fun q => ((bro t m nr (some (.int (c : Int))) (some (.int (d : Nat))) (some (.list ((s :: rest).map fun (k : Nat) => PyData.int (k : Int)))) (some (rl (leadR S d c)))).set 9 (some (.val (.int (q.2 : Nat))))).set 8 (some (.val (rl q.1)))) (g := fun q => rl (if q.2 = d then leadR S d c else wo q.1 (leadR S d c) c)) ?_ (by rw [List.length_zipIdx, sl1]; exact hlen) ?_ (fun k _ => rfl) (fun k hk => rfl) (fun q hq => ?_)).trans ?_
      · unfold bro
        clear hn e3 e2 hf sp hs f3
        generalize (s :: rest).map (fun (k : Nat) => PyData.int (k : Int)) = sl
        walk_at "evh"
        rw [enumD_map]
      · unfold bro
        simp only [noExc_map, noExc_none, noExc_val, noExc_ref, noExc_nil, wipeR, List.set_cons_succ, List.set_cons_zero]
      · obtain ⟨hq1, hq2⟩ := List.mem_zipIdx' hq
        have hk : q.2 < S.length := hq1
        have hq3 : q.1 = S.getD q.2 [] := by rw [getD_get hk]; exact hq2
        have fe := fEq_int (q.2 : Int) (d : Int)
        unfold bro
        clear hn e3 e2 hf sp hs f3
        generalize (s :: rest).map (fun (k : Nat) => PyData.int (k : Int)) = sl
        by_cases hqd : q.2 = d
        · rw [decide_eq_true (show ((q.2 : Nat) : Int) = (d : Int) by omega)] at fe
          rw [if_pos hqd]
          clear hqd hq3 hq2
          walk_at "evh"
        · rw [decide_eq_false (show ¬ ((q.2 : Nat) : Int) = (d : Int) by omega)] at fe
          rw [if_neg hqd]
          have hlq : q.1.length = w := by rw [hq3]; exact getD_row r1 hk
          have wc := without_column_eq (row := q.1) (lead := leadR S d c) (c := c) (by rw [hlq, lead_len r1 hdl]) (by omega) (by omega) (by rw [hq3]; exact ent_mem (R := S) (k := q.2) (P := Sz) fun j => szS q.2 j hk) (fun x hx => by
            obtain ⟨j, hj, ej⟩ := List.mem_iff_getElem.mp hx
            obtain ⟨e, e0, e1, he⟩ := cd2
            have := he d j (by rw [clear_len]; exact hdl)
            rw [clear_ent r1 hdl hdl, if_pos rfl, ← lead_get, getD_get hj, ej] at this
            exact sz_hd e0 e1 hX this) (fun x hx => by
            obtain ⟨j, hj, ej⟩ := List.mem_iff_getElem.mp hx
            obtain ⟨e, e0, e1, he⟩ := cd1.prod (j := j) hdl hk hp
            rw [← lead_get, getD_get hj, ej] at he
            rw [hq3]
            exact sz_hd e0 e1 (by omega) he)
          clear hqd hq3 hq2 hlq
          walk_at "evh"
      · rw [mNew_t]
        unfold clear
        rw [List.map_map]
        rfl
    have c4 : (h3 ++ [some (.lst ((clear S d c).map rl))])[h3.length]? = some (some (.lst ((clear S d c).map rl))) := cell_new
    have c4l : (h3 ++ [some (.lst ((clear S d c).map rl))])[1]? = some (some (.lst (il L))) := cell_app h3c
    have hne : h3.length ≠ 1 := by have := cell_lt h3c; omega
    generalize h3 ++ [some (.lst ((clear S d c).map rl))] = h4 at e6 c4 c4l
    generalize h3.length = nr4 at e6 c4 hne
    have il1 : isLs (.ref 1) h4 = .ok () h4 := isLs_ref c4l
    have ap := mApp_ref (d := .int (c : Int)) c4l (by omega)
    refine ⟨h4.set 1 (some (.lst (il L ++ [.int (c : Int)]))), nr4, some (.int (d : Nat)), some (.list ((s :: rest).map fun (k : Nat) => PyData.int (k : Int))), some (rl (leadR S d c)), ?_, ?_⟩
    · have tst : tE (eOp2 fNe (eVar 6) (eLst false aNil)) (bro t m nr (some (.int (c : Int))) (some (.int (d : Nat))) (some (.list ((s :: rest).map fun (k : Nat) => PyData.int (k : Int)))) o7) h = .ok true h := by
        unfold bro
        have hn2 : fNe (.val (.list ((s :: rest).map fun (k : Nat) => PyData.int (k : Int)))) (.val (.list [])) = mP (.val (.bool true)) := hn
        clear hn e3 e2 hf sp hs f3 e4 e5 e6
        generalize (s :: rest).map (fun (k : Nat) => PyData.int (k : Int)) = sl at hn2 ⊢
        walk_at "evh"
      unfold sIf
      rw [mB_app tst, if_pos rfl, sCons_nx e4, sCons_nx (sAsg_var e5)]
      have e7 := sAsg_var (i := 2) e6
      refine (sCons_nx (ρ' := bro t m nr4 (some (.int (c : Int))) (some (.int (d : Nat))) (some (.list ((s :: rest).map fun (k : Nat) => PyData.int (k : Int)))) (some (rl (leadR S d c)))) (h' := h4) e7).trans ?_
      unfold bro
      clear hn e3 e2 hf sp hs f3 e4 e5 e6 e7 tst
      generalize (s :: rest).map (fun (k : Nat) => PyData.int (k : Int)) = sl
      walk_at "evh"
    · rw [hst]
      refine ⟨by rw [cell_ne (fun z => hne z.symm)]; exact c4, ?_, hne⟩
      rw [cell_set (cell_lt c4l)]
      unfold il
      rw [List.map_append]
      rfl
theorem cols_loop {t m : PyData} {w X M : Nat} {R0 : Mat} (hX : 0 < X) (hM : grow X M < 2 ^ bE) (hw : w ≤ 10000) (hl : R0.length ≤ 10000) (hr : Rect w R0) (hcd : CD X R0) : ∀ (k lo : Nat) (h : Hm) (nr : Nat) (o4 o5 o6 o7 : Option PyData), lo + k ≤ M → lo + k < w → BSt h nr (bring R0 lo) →
    ∃ h' nr' o4' o5' o6' o7', MK.forM (gVar 4) colB ((List.range' lo k).map fun (c : Nat) => PyData.int (c : Int)) (bro t m nr o4 o5 o6 o7) h = .ok (.nx, bro t m nr' o4' o5' o6' o7') h' ∧ BSt h' nr' (bring R0 (lo + k))
  | 0, lo, h, nr, o4, o5, o6, o7, _, _, S => ⟨h, nr, o4, o5, o6, o7, rfl, S⟩
  | k + 1, lo, h, nr, o4, o5, o6, o7, h1, h2, S => by
    have I := bring_inv hr lo
    have C := hcd.bring hr lo
    have gl := grow_le hX (show lo + 1 ≤ M by omega)
    obtain ⟨h', nr', o5', o6', o7', e, S'⟩ := col_step (t := t) (m := m) (c := lo) (o5 := o5) (o6 := o6) (o7 := o7) S I.rect (by rw [I.len]; exact hl) I.few hw (by omega) C (Nat.lt_of_le_of_lt gl.1 hM)
    rw [← bring_succ] at S'
    obtain ⟨h2', nr2, p4, p5, p6, p7, e2, S2⟩ := cols_loop (t := t) (m := m) hX hM hw hl hr hcd k (lo + 1) h' nr' (some (.int (lo : Int))) o5' o6' o7' (by omega) (by omega) S'
    refine ⟨h2', nr2, p4, p5, p6, p7, ?_, by rw [show lo + (k + 1) = lo + 1 + k by omega]; exact S2⟩
    rw [List.range'_succ, List.map_cons]
    exact (forM_consH (ρ1 := bro t m nr (some (.int (lo : Int))) o5 o6 o7) (h1 := h) rfl e).trans e2
theorem brought_runs {w X M : Nat} {R0 : Mat} (hX : 0 < X) (hM : grow X M < 2 ^ bE) (hw : w ≤ 10000) (hl : R0.length ≤ 10000) (hr : Rect w R0) (hcd : CD X R0) (hMw : M < w) : Runs V_brought [.val (.list (R0.map rl)), .val (.int (M : Int))] (.tuple [.list ((bring R0 M).1.map rl), .list (il (bring R0 M).2)]) := by
  have S0 : BSt [some (.lst (R0.map rl)), some (.lst (il []))] 0 (bring R0 0) := ⟨rfl, rfl, by omega⟩
  obtain ⟨h', nr, o4, o5, o6, o7, e, S⟩ := cols_loop (t := .list (R0.map rl)) (m := .int (M : Int)) hX hM hw hl hr hcd M 0 _ 0 none none none none (by omega) (by omega) S0
  rw [Nat.zero_add] at S
  obtain ⟨s1, s2, s3⟩ := S
  have c1 : eLc true (iSeq (eVar 0)) (gVar 8) tYesM (eArgs (b1 (bList false)) (aCons (eVar 8) aNil)) [8] [some (.val (.list (R0.map rl))), some (.val (.int (M : Int))), none, none, none, none, none, none, none, none, none] [] = .ok (.ref 0) [some (.lst (R0.map rl))] := by
    refine (eLc_mapH (o := true) (xs := R0) (f := rl) (h1 := []) (ρ' := fun r => [some (.val (.list (R0.map rl))), some (.val (.int (M : Int))), none, none, none, none, none, none, some (.val (rl r)), none, none]) (g := rl) rfl hl rfl (fun r _ => rfl) (fun r _ => rfl) (fun r _ => ?_)).trans rfl
    unfold rl
    walk_at "evh"
  have e1 : sPar 2 3 (aCons (eLc true (iSeq (eVar 0)) (gVar 8) tYesM (eArgs (b1 (bList false)) (aCons (eVar 8) aNil)) [8]) (aCons (eLst true aNil) aNil)) [some (.val (.list (R0.map rl))), some (.val (.int (M : Int))), none, none, none, none, none, none, none, none, none] [] = .ok (.nx, bro (.list (R0.map rl)) (.int (M : Int)) 0 none none none none) [some (.lst (R0.map rl)), some (.lst (il []))] := by
    rw [sPar_eq]
    walk_at "evh"
    rfl
  have e2 : sFor (iRng1 (eVar 1)) (gVar 4) colB (bro (.list (R0.map rl)) (.int (M : Int)) 0 none none none none) [some (.lst (R0.map rl)), some (.lst (il []))] = .ok (.nx, bro (.list (R0.map rl)) (.int (M : Int)) nr o4 o5 o6 o7) h' := by
    have r : iRng1 (eVar 1) (bro (.list (R0.map rl)) (.int (M : Int)) 0 none none none none) [some (.lst (R0.map rl)), some (.lst (il []))] = .ok ((List.range M).map fun (k : Nat) => PyData.int (k : Int)) [some (.lst (R0.map rl)), some (.lst (il []))] := iRng1_natH rfl (by omega)
    rw [sFor_eq, mB_app r, List.range_eq_range']
    exact e
  have z1 := mFrz_ref s1
  have z2c : (h'.set nr none)[1]? = some (some (.lst (il (bring R0 M).2))) := by rw [cell_ne s3]; exact s2
  have z2 := mFrz_ref z2c
  refine fnV_runs (ρ := bro (.list (R0.map rl)) (.int (M : Int)) nr o4 o5 o6 o7) (h' := (h'.set nr none).set 1 none) rfl ?_
  unfold B_brought
  refine (sCons_nx e1).trans ((sCons_nx e2).trans ?_)
  generalize h'.set nr none = h2 at z1 z2 ⊢
  unfold bro
  walk_at "evh"
end GL
set_option Elab.async false
set_option linter.all false
set_option maxRecDepth 100000
set_option maxHeartbeats 4000000
/-! some answer in the program. -/
namespace GL
open MK PySem PySem.Spec PyProof.Rows L2 LA
local macro_rules | `(tactic| walk_at "ev") => `(tactic| simp only [Option.map_some, Option.map_none, fnV, mCall_rt, mCall_nx, List.length_cons, List.length_nil, Nat.zero_add, Nat.reduceAdd, List.map_cons, List.map_nil, Nat.reduceSub, Nat.sub_self, List.replicate, List.cons_append, List.nil_append, List.append_nil, decide_true, decide_false, guard_t, mB_mP, eVar_z, eVar_s, eC_eq, eOp2_eq, eOp1_eq, aNil_eq, aCons_eq, aStar_eq, eArgs_eq, tE_eq, mBool_eq, mInt_eq, mD_eq, mSeq_t, mSeq_l, mLs_l, mDat_v, tAnd_eq, tOr_eq, tNot_eq, eAnd_eq, eOr_eq, eNot_eq, eIf_eq, eChain_eq, eTup_eq, eLst_eq, mTup0, mTup1, mTup2, mTup3, mLst0, mLst1, mLst2, few_of, Nat.reduceLeDiff, mNew_f, b1_eq, b2_eq, sCons_eq, sNil_eq, sAsg_eq, gVar_eq, eSl_eq, oSome_eq, oNone_eq, sRet_eq, sRetN_eq, sIf_eq, sExpr_eq, sFor_eq, iSeq_eq, mIter_l, mIter_t, iEnum_eq, iZip_eq, iRng1_eq, iRng2_eq, iRngV_eq, bRange1_eq, mRng_eq, noX_mP, noExc_nil, noExc_none, noExc_val, noExc_rng, wipeR, List.set_cons_zero, List.set_cons_succ, tYesM_eq, gTup_eq2, gTup_eq3, eCallI_eq, List.all_cons, List.all_nil, isVal, Bool.and_true, Bool.and_self, Bool.true_and, iso_mP, fIx_fr0, fIx_fr1, fAdd_int, fSub_int, fNeg_int, fLt_int, fLe_int, fGt_int, fGe_int, bGcd_int, bLen_t, bLen_l, bTuple_l, bTuple_t, bList_t, bList_l, sPar_eq, bAbs_int, bIntB_int, if_true, Bool.not_true, Bool.not_false, Bool.false_eq_true, reduceIte, *])
local macro_rules | `(tactic| walk_at "evh") => `(tactic| simp only [Option.map_some, Option.map_none, mP_app, mB_def, mNew_t, gIx_eq, eFrz_eq, fnV, mCall_rt, mCall_nx, List.length_cons, List.length_nil, Nat.zero_add, Nat.reduceAdd, List.map_cons, List.map_nil, Nat.reduceSub, Nat.sub_self, List.replicate, List.cons_append, List.nil_append, List.append_nil, decide_true, decide_false, guard_t, mB_mP, eVar_z, eVar_s, eC_eq, eOp2_eq, eOp1_eq, aNil_eq, aCons_eq, aStar_eq, eArgs_eq, tE_eq, mBool_eq, mInt_eq, mD_eq, mSeq_t, mSeq_l, mLs_l, mDat_v, tAnd_eq, tOr_eq, tNot_eq, eAnd_eq, eOr_eq, eNot_eq, eIf_eq, eChain_eq, eTup_eq, eLst_eq, mTup0, mTup1, mTup2, mTup3, mLst0, mLst1, mLst2, few_of, Nat.reduceLeDiff, mNew_f, b1_eq, b2_eq, sCons_eq, sNil_eq, sAsg_eq, gVar_eq, eSl_eq, oSome_eq, oNone_eq, sRet_eq, sRetN_eq, sIf_eq, sExpr_eq, sFor_eq, iSeq_eq, mIter_l, mIter_t, iEnum_eq, iZip_eq, iRng1_eq, iRng2_eq, iRngV_eq, bRange1_eq, mRng_eq, noX_mP, noExc_nil, noExc_none, noExc_val, noExc_rng, wipeR, List.set_cons_zero, List.set_cons_succ, tYesM_eq, gTup_eq2, gTup_eq3, eCallI_eq, List.all_cons, List.all_nil, isVal, Bool.and_true, Bool.and_self, Bool.true_and, iso_mP, fIx_fr0, fIx_fr1, fAdd_int, fSub_int, fNeg_int, fLt_int, fLe_int, fGt_int, fGe_int, bGcd_int, bLen_t, bLen_l, bTuple_l, bTuple_t, bList_t, bList_l, sPar_eq, bAbs_int, bIntB_int, if_true, Bool.not_true, Bool.not_false, Bool.false_eq_true, reduceIte, *])
def sao (t r m rows leads : PyData) (o6 o7 : Option PyData) : Ro := [some (.val t), some (.val r), some (.val m), some (.val rows), some (.val leads), some (.ref 0), o6.map SV.val, o7.map SV.val, none]
theorem fill_loop {t r rows leads : PyData} {n : Nat} : ∀ (qs : List (List Rat × Nat)) (f : List Rat) (o6 o7 : Option PyData), (∀ q ∈ qs, q.2 < f.length ∧ n < q.1.length) → ∃ o6' o7',
    MK.forM (gTup 2 (gsCons (gVar 6) (gsCons (gVar 7) gsNil))) (sAsg (eOp2 fIx (eVar 6) (eVar 2)) (gIx (eVar 5) (eVar 7))) (qs.map fun q => .tuple [rl q.1, .int (q.2 : Int)]) (sao t r (.int (n : Int)) rows leads o6 o7) [some (.lst (f.map fr))]
      = .ok (.nx, sao t r (.int (n : Int)) rows leads o6' o7') [some (.lst ((qs.foldl (fun f q => f.set q.2 (q.1.getD n 0)) f).map fr))]
  | [], f, o6, o7, _ => ⟨o6, o7, rfl⟩
  | q :: qs, f, o6, o7, h => by
    obtain ⟨h1, h2⟩ := h q List.mem_cons_self
    obtain ⟨p6, p7, e⟩ := fill_loop (t := t) (r := r) (rows := rows) (leads := leads) (n := n) qs (f.set q.2 (q.1.getD n 0)) (some (rl q.1)) (some (.int (q.2 : Int))) (fun p hp => by
      rw [List.length_set]
      exact h p (List.mem_cons_of_mem _ hp))
    refine ⟨p6, p7, ?_⟩
    rw [List.map_cons]
    refine (forM_consH (ρ1 := sao t r (.int (n : Int)) rows leads (some (rl q.1)) (some (.int (q.2 : Int)))) (h1 := [some (.lst (f.map fr))]) rfl ?_).trans e
    have a1 := (Sq.l (q.1.map fr)).ixR h2
    have s := mSetIx_ref (h := [some (.lst (f.map fr))]) (n := 0) (j := q.2) (d := fr (q.1.getD n 0)) rfl (by rw [List.length_map]; exact h1)
    have e2 : ([some (Cell.lst (f.map fr))] : Hm).set 0 (some (.lst ((f.map fr).set q.2 (fr (q.1.getD n 0))))) = [some (.lst ((f.set q.2 (q.1.getD n 0)).map fr))] := by rw [List.map_set]; rfl
    rw [e2] at s
    unfold sao rl
    clear e
    walk_at "evh"
theorem some_answer_runs {A : Mat} {b : List Rat} {n X : Nat} {q : PyData} (hq : Sq q (b.map fr)) (h : A.length = b.length) (hA : 0 < A.length) (hAl : A.length ≤ 10000) (hr : Rect n A) (hn : n ≤ 900) (hX : 0 < X) (hM : grow X n < 2 ^ bE) (hcd : CD X (aug A b)) :
    Runs V_some_answer [.val (.list (A.map rl)), .val q] (match solve A b n with
      | none => .list []
      | some x => .list [rl x]) := by
  have hr1 := aug_rect h hr
  have B := brought_runs hX hM (by omega) (by rw [aug_len h]; exact hAl) hr1 hcd (by omega)
  have I := bring_inv hr1 n
  have f0 : fIx (.val (.list (A.map rl))) (.val (.int 0)) = mP (.val (rl (A.getD 0 []))) := (Sq.l _).ix (k := 0) (row_at hA)
  have l0 : bLen (.val (rl (A.getD 0 []))) = mP (.val (.int (n : Int))) := by
    unfold rl
    rw [bLen_l, List.length_map, getD_row hr hA]
  have i1 := (Sq.l (A.map rl)).iter
  have i2 := hq.iter
  have e1 : sAsg (eArgs (MK.b1 bLen) (aCons (eOp2 fIx (eVar 0) (eC (.int 0))) aNil)) (gVar 2) [some (.val (.list (A.map rl))), some (.val q), none, none, none, none, none, none, none] = mP (.nx, [some (.val (.list (A.map rl))), some (.val q), some (.val (.int (n : Int))), none, none, none, none, none, none]) := by
    walk_at "ev"
  have c1 : eLc false (iZip (eVar 0) (eVar 1)) (gTup 2 (gsCons (gVar 6) (gsCons (gVar 8) gsNil))) tYesM (eLst false (aStar (eVar 6) (aCons (eVar 8) aNil))) [6, 8] [some (.val (.list (A.map rl))), some (.val q), some (.val (.int (n : Int))), none, none, none, none, none, none] = mP (.val (.list ((aug A b).map rl))) := by
    have m := eLc_map (it := iZip (eVar 0) (eVar 1)) (t := gTup 2 (gsCons (gVar 6) (gsCons (gVar 8) gsNil))) (c := tYesM) (e := eLst false (aStar (eVar 6) (aCons (eVar 8) aNil))) (vs := [6, 8]) (ρ := [some (.val (.list (A.map rl))), some (.val q), some (.val (.int (n : Int))), none, none, none, none, none, none]) (xs := A.zip b) (f := fun z => .tuple [rl z.1, fr z.2]) (ρ' := fun z => [some (.val (.list (A.map rl))), some (.val q), some (.val (.int (n : Int))), none, none, none, some (.val (rl z.1)), none, some (.val (fr z.2))]) (g := fun z => rl (z.1 ++ [z.2])) ?_ (by rw [List.length_zip]; omega) rfl (fun z _ => rfl) (fun z _ => rfl) (fun z hz => ?_)
    · rw [m, zip_map (f := rl) (g := fun r x => r ++ [x])]
      rfl
    · walk_at "ev"
      rw [zipD_map]
    · have hz1 := (List.of_mem_zip hz).1
      have hl : z.1.length = n := hr _ hz1
      have sq := (Sq.l (z.1.map fr)).seq
      have dd : (z.1.map fr).map SV.val ++ [SV.val (fr z.2)] = ((z.1 ++ [z.2]).map fr).map SV.val := by simp
      have fw : few (((z.1 ++ [z.2]).map fr).map SV.val) = mP () := few_of (by simp; omega)
      have ml := mLst_f (datas_map ((z.1 ++ [z.2]).map fr))
      unfold rl
      clear hl
      walk_at "ev"
  have e2 : sAsg (eCallI V_brought (aCons (eLc false (iZip (eVar 0) (eVar 1)) (gTup 2 (gsCons (gVar 6) (gsCons (gVar 8) gsNil))) tYesM (eLst false (aStar (eVar 6) (aCons (eVar 8) aNil))) [6, 8]) (aCons (eVar 2) aNil))) (gTup 2 (gsCons (gVar 3) (gsCons (gVar 4) gsNil))) [some (.val (.list (A.map rl))), some (.val q), some (.val (.int (n : Int))), none, none, none, none, none, none]
      = mP (.nx, [some (.val (.list (A.map rl))), some (.val q), some (.val (.int (n : Int))), some (.val (.list ((bring (aug A b) n).1.map rl))), some (.val (.list (il (bring (aug A b) n).2))), none, none, none, none]) := by
    have B' := iso_of B
    walk_at "ev"
  generalize hst : bring (aug A b) n = st at e2 I
  obtain ⟨R, L⟩ := st
  simp only at e2
  have hRl : R.length = A.length := by have := I.len; rw [aug_len h] at this; exact this
  have ll : bLen (.val (.list (il L))) = mP (.val (.int (L.length : Nat))) := by rw [bLen_l]; unfold il; rw [List.length_map]
  have cd := cutD_drop (R.map rl) L.length
  have c3 : eLc false (iSeq (eSl false (eVar 3) (oSome (eArgs (MK.b1 bLen) (aCons (eVar 4) aNil))) oNone)) (gVar 6) tYesM (eOp2 fNe (eOp2 fIx (eVar 6) (eVar 2)) (eC (.tuple [.int 0, .int 1]))) [6] [some (.val (.list (A.map rl))), some (.val q), some (.val (.int (n : Int))), some (.val (.list (R.map rl))), some (.val (.list (il L))), none, none, none, none]
      = mP (.val (.list ((R.drop L.length).map fun r => PyData.bool (decide (r.getD n 0 ≠ 0))))) := by
    refine eLc_map (xs := R.drop L.length) (f := rl) (ρ' := fun r => [some (.val (.list (A.map rl))), some (.val q), some (.val (.int (n : Int))), some (.val (.list (R.map rl))), some (.val (.list (il L))), none, some (.val (rl r)), none, none]) ?_ (by rw [List.length_drop]; omega) rfl (fun z _ => rfl) (fun z _ => rfl) (fun z hz => ?_)
    · have s := fSl_l (R.map rl) (some (L.length : Int)) none
      rw [cd, ← List.map_drop] at s
      simp only [iSeq_eq, eSl_eq, oSome_eq, oNone_eq]
      walk_at "ev"
    · have hl : z.length = n + 1 := I.rect _ (List.mem_of_mem_drop hz)
      have a1 := (Sq.l (z.map fr)).ixR (show n < z.length by omega)
      have f3 := fNe_fr (z.getD n 0) 0
      rw [← fr_zero] at f3
      have e : decide (z.getD n 0 ≠ 0) = !decide (z.getD n 0 = 0) := by simp
      rw [e]
      unfold rl
      clear hl e
      walk_at "ev"
  have an := bAny_l (boolsD_map (fun r : List Rat => decide (r.getD n 0 ≠ 0)) (R.drop L.length))
  have hrb : ((R.drop L.length).map fun r => decide (r.getD n 0 ≠ 0)).any id = restBad n R L.length := by
    unfold restBad
    rw [List.any_map]
    rfl
  rw [hrb] at an
  have hsol : solve A b n = if restBad n R L.length then none else some (fillX n R L) := by
    unfold solve
    rw [hst]
  rw [hsol]
  have tst : tE (eArgs (MK.b1 bAny) (aCons (eLc false (iSeq (eSl false (eVar 3) (oSome (eArgs (MK.b1 bLen) (aCons (eVar 4) aNil))) oNone)) (gVar 6) tYesM (eOp2 fNe (eOp2 fIx (eVar 6) (eVar 2)) (eC (.tuple [.int 0, .int 1]))) [6]) aNil)) [some (.val (.list (A.map rl))), some (.val q), some (.val (.int (n : Int))), some (.val (.list (R.map rl))), some (.val (.list (il L))), none, none, none, none] = mP (restBad n R L.length) := by
    walk_at "ev"
  by_cases hb : restBad n R L.length = true
  · rw [hb] at tst ⊢
    refine fnV_runs (ρ := [some (.val (.list (A.map rl))), some (.val q), some (.val (.int (n : Int))), some (.val (.list (R.map rl))), some (.val (.list (il L))), none, none, none, none]) (h' := []) rfl ?_
    unfold B_some_answer
    refine (sCons_nx (congrFun e1 [])).trans ((sCons_nx (congrFun e2 [])).trans (sCons_rt ?_))
    unfold sIf
    rw [tst]
    rfl
  · have hb : restBad n R L.length = false := by simpa using hb
    rw [hb] at tst ⊢
    simp only [Bool.false_eq_true, if_false]
    have z0 : fMul true (.val (.list [fr 0])) (.val (.int (n : Int))) = mNew true ((List.replicate n (0 : Rat)).map fr) := by
      rw [fMul_list (by simp) (by omega), rep_one, List.map_replicate]
    have m1 := (Sq.l (R.map rl)).iter
    have m2 := (Sq.l (il L)).iter
    have hz : zipD (R.map rl) (il L) = (R.zip L).map fun q => .tuple [rl q.1, .int (q.2 : Int)] := by unfold il; exact zipD_map R L
    obtain ⟨o6, o7, fl⟩ := fill_loop (t := .list (A.map rl)) (r := q) (rows := .list (R.map rl)) (leads := .list (il L)) (n := n) (R.zip L) (List.replicate n 0) none none (fun p hp => by
      have hp1 := (List.of_mem_zip hp).1
      have hp2 := (List.of_mem_zip hp).2
      have a1 : p.2 < n := I.lt p.2 hp2
      have a2 : p.1.length = n + 1 := I.rect p.1 hp1
      rw [List.length_replicate]
      omega)
    have e4 : sAsg (eOp2 (fMul true) (eLst false (aCons (eC (.tuple [.int 0, .int 1])) aNil)) (eVar 2)) (gVar 5) [some (.val (.list (A.map rl))), some (.val q), some (.val (.int (n : Int))), some (.val (.list (R.map rl))), some (.val (.list (il L))), none, none, none, none] [] = .ok (.nx, sao (.list (A.map rl)) q (.int (n : Int)) (.list (R.map rl)) (.list (il L)) none none) [some (.lst ((List.replicate n (0 : Rat)).map fr))] := by
      rw [fr_zero]
      clear fl tst an c3 c1 hz
      walk_at "evh"
      rfl
    have e5 : sFor (iZip (eVar 3) (eVar 4)) (gTup 2 (gsCons (gVar 6) (gsCons (gVar 7) gsNil))) (sAsg (eOp2 fIx (eVar 6) (eVar 2)) (gIx (eVar 5) (eVar 7))) (sao (.list (A.map rl)) q (.int (n : Int)) (.list (R.map rl)) (.list (il L)) none none) [some (.lst ((List.replicate n (0 : Rat)).map fr))] = .ok (.nx, sao (.list (A.map rl)) q (.int (n : Int)) (.list (R.map rl)) (.list (il L)) o6 o7) [some (.lst ((fillX n R L).map fr))] := by
      have z : iZip (eVar 3) (eVar 4) (sao (.list (A.map rl)) q (.int (n : Int)) (.list (R.map rl)) (.list (il L)) none none) [some (.lst ((List.replicate n (0 : Rat)).map fr))] = .ok ((R.zip L).map fun q => .tuple [rl q.1, .int (q.2 : Int)]) [some (.lst ((List.replicate n (0 : Rat)).map fr))] := by
        rw [← hz]
        exact iZip_natH rfl rfl m1 m2
      rw [sFor_eq, mB_app z]
      exact fl
    refine fnV_runs (ρ := sao (.list (A.map rl)) q (.int (n : Int)) (.list (R.map rl)) (.list (il L)) o6 o7) (h' := [none]) rfl ?_
    unfold B_some_answer
    refine (sCons_nx (congrFun e1 [])).trans ((sCons_nx (congrFun e2 [])).trans ((sCons_nx (ρ' := [some (.val (.list (A.map rl))), some (.val q), some (.val (.int (n : Int))), some (.val (.list (R.map rl))), some (.val (.list (il L))), none, none, none, none]) (h' := []) ?_).trans ((sCons_nx e4).trans ((sCons_nx e5).trans ?_))))
    · unfold sIf
      rw [tst]
      rfl
    · rfl
end GL
set_option Elab.async false
set_option linter.all false
set_option maxRecDepth 100000
set_option maxHeartbeats 4000000
/-! equations in the law. -/
namespace GL
open MK PySem PySem.Spec PyProof.Rows L2 LA
local macro_rules | `(tactic| walk_at "ev") => `(tactic| simp only [Option.map_some, Option.map_none, fnV, mCall_rt, mCall_nx, List.length_cons, List.length_nil, Nat.zero_add, Nat.reduceAdd, List.map_cons, List.map_nil, Nat.reduceSub, Nat.sub_self, List.replicate, List.cons_append, List.nil_append, List.append_nil, decide_true, decide_false, guard_t, mB_mP, eVar_z, eVar_s, eC_eq, eOp2_eq, eOp1_eq, aNil_eq, aCons_eq, aStar_eq, eArgs_eq, tE_eq, mBool_eq, mInt_eq, mD_eq, mSeq_t, mSeq_l, mLs_l, mDat_v, tAnd_eq, tOr_eq, tNot_eq, eAnd_eq, eOr_eq, eNot_eq, eIf_eq, eChain_eq, eTup_eq, eLst_eq, mTup0, mTup1, mTup2, mTup3, mLst0, mLst1, mLst2, few_of, Nat.reduceLeDiff, mNew_f, b1_eq, b2_eq, sCons_eq, sNil_eq, sAsg_eq, gVar_eq, eSl_eq, oSome_eq, oNone_eq, sRet_eq, sRetN_eq, sIf_eq, sExpr_eq, sFor_eq, iSeq_eq, mIter_l, mIter_t, iEnum_eq, iZip_eq, iRng1_eq, iRng2_eq, iRngV_eq, bRange1_eq, mRng_eq, noX_mP, noExc_nil, noExc_none, noExc_val, noExc_rng, wipeR, List.set_cons_zero, List.set_cons_succ, tYesM_eq, gTup_eq2, gTup_eq3, eCallI_eq, List.all_cons, List.all_nil, isVal, Bool.and_true, Bool.and_self, Bool.true_and, iso_mP, fIx_fr0, fIx_fr1, fAdd_int, fSub_int, fNeg_int, fLt_int, fLe_int, fGt_int, fGe_int, bGcd_int, bLen_t, bLen_l, bTuple_l, bTuple_t, bList_t, bList_l, sPar_eq, bAbs_int, bIntB_int, if_true, Bool.not_true, Bool.not_false, Bool.false_eq_true, reduceIte, *])
local macro_rules | `(tactic| walk_at "evh") => `(tactic| simp only [Option.map_some, Option.map_none, mP_app, mB_def, mNew_t, gIx_eq, eFrz_eq, fnV, mCall_rt, mCall_nx, List.length_cons, List.length_nil, Nat.zero_add, Nat.reduceAdd, List.map_cons, List.map_nil, Nat.reduceSub, Nat.sub_self, List.replicate, List.cons_append, List.nil_append, List.append_nil, decide_true, decide_false, guard_t, mB_mP, eVar_z, eVar_s, eC_eq, eOp2_eq, eOp1_eq, aNil_eq, aCons_eq, aStar_eq, eArgs_eq, tE_eq, mBool_eq, mInt_eq, mD_eq, mSeq_t, mSeq_l, mLs_l, mDat_v, tAnd_eq, tOr_eq, tNot_eq, eAnd_eq, eOr_eq, eNot_eq, eIf_eq, eChain_eq, eTup_eq, eLst_eq, mTup0, mTup1, mTup2, mTup3, mLst0, mLst1, mLst2, few_of, Nat.reduceLeDiff, mNew_f, b1_eq, b2_eq, sCons_eq, sNil_eq, sAsg_eq, gVar_eq, eSl_eq, oSome_eq, oNone_eq, sRet_eq, sRetN_eq, sIf_eq, sExpr_eq, sFor_eq, iSeq_eq, mIter_l, mIter_t, iEnum_eq, iZip_eq, iRng1_eq, iRng2_eq, iRngV_eq, bRange1_eq, mRng_eq, noX_mP, noExc_nil, noExc_none, noExc_val, noExc_rng, wipeR, List.set_cons_zero, List.set_cons_succ, tYesM_eq, gTup_eq2, gTup_eq3, eCallI_eq, List.all_cons, List.all_nil, isVal, Bool.and_true, Bool.and_self, Bool.true_and, iso_mP, fIx_fr0, fIx_fr1, fAdd_int, fSub_int, fNeg_int, fLt_int, fLe_int, fGt_int, fGe_int, bGcd_int, bLen_t, bLen_l, bTuple_l, bTuple_t, bList_t, bList_l, sPar_eq, bAbs_int, bIntB_int, if_true, Bool.not_true, Bool.not_false, Bool.false_eq_true, reduceIte, *])
def lcolJ : Sm := (sIf (tAnd (tE (eOp2 fNe (eVar 7) (eVar 4))) (tE (eOp2 fNe (eOp2 fIx (eOp2 fIx (eOp2 fIx (eVar 0) (eVar 7)) (eVar 5)) (eC (.int 0))) (eC (.int 0))))) (sAsg (eLc false (iRng1 (eOp2 (fAdd false) (eVar 2) (eC (.int 1)))) (gVar 10) tYesM (eCallI V__law_minus (aCons (eOp2 fIx (eOp2 fIx (eVar 0) (eVar 7)) (eVar 10)) (aCons (eCallI V__law_times (aCons (eOp2 fIx (eOp2 fIx (eVar 0) (eVar 7)) (eVar 5)) (aCons (eOp2 fIx (eOp2 fIx (eVar 0) (eVar 4)) (eVar 10)) aNil))) aNil))) [10]) (gIx (eVar 0) (eVar 7))) sNil)
def lcolB : Sm := (sCons (sAsg (eLc false (iRng2 (eVar 4) (eArgs (b1 bLen) (aCons (eVar 0) aNil))) (gVar 7) (tE (eOp2 fNe (eOp2 fIx (eOp2 fIx (eOp2 fIx (eVar 0) (eVar 7)) (eVar 5)) (eC (.int 0))) (eC (.int 0)))) (eVar 7) [7]) (gVar 6))
    (sIf (tE (eOp2 fNe (eVar 6) (eLst false aNil))) (sCons (sAsg (eTup (aCons (eOp2 fIx (eVar 0) (eOp2 fIx (eVar 6) (eC (.int 0)))) (aCons (eOp2 fIx (eVar 0) (eVar 4)) aNil))) (gTup 2 (gsCons (gIx (eVar 0) (eVar 4)) (gsCons (gIx (eVar 0) (eOp2 fIx (eVar 6) (eC (.int 0)))) gsNil))))
    (sCons (sAsg (eLc false (iSeq (eOp2 fIx (eVar 0) (eVar 4))) (gVar 9) tYesM (eCallI V__law_over (aCons (eVar 9) (aCons (eOp2 fIx (eOp2 fIx (eVar 0) (eVar 4)) (eVar 5)) aNil))) [9]) (gIx (eVar 0) (eVar 4)))
    (sCons (sFor (iRng1 (eArgs (b1 bLen) (aCons (eVar 0) aNil))) (gVar 7) lcolJ)
    (sCons (sExpr (fun ρ => mB ((eVar 3) ρ) fun x => mB (isLs x) fun _ => mB ((eVar 5) ρ) fun y => mApp x y))
    (sAsg (eOp2 (fAdd false) (eVar 4) (eC (.int 1))) (gVar 4)))))) sNil))
def lao (r : PyData) (n d : Nat) (o5 o6 o7 : Option PyData) : Ro := [some (.ref 0), some (.val r), some (.val (.int (n : Int))), some (.ref 1), some (.val (.int (d : Int))), o5.map SV.val, o6.map SV.val, o7.map SV.val, none, none, none]
def lcell (rows pv : List PyData) : Hm := [some (.lst rows), some (.lst pv)]
theorem lcell_0 {rows pv : List PyData} : (lcell rows pv)[0]? = some (some (.lst rows)) := rfl
theorem lcell_1 {rows pv : List PyData} : (lcell rows pv)[1]? = some (some (.lst pv)) := rfl
theorem lcell_s0 {rows pv xs : List PyData} : (lcell rows pv).set 0 (some (.lst xs)) = lcell xs pv := rfl
theorem lcell_s1 {rows pv xs : List PyData} : (lcell rows pv).set 1 (some (.lst xs)) = lcell rows xs := rfl
def FJ (S : Mat) (d c lo i : Nat) : List Rat := if i = d then leadR S d c else if i < lo then wo (S.getD i []) (leadR S d c) c else S.getD i []
def PJ (S : Mat) (d c lo : Nat) : Mat := (List.range S.length).map (FJ S d c lo)
theorem PJ_len (S : Mat) (d c lo : Nat) : (PJ S d c lo).length = S.length := by unfold PJ; rw [List.length_map, List.length_range]
theorem PJ_get {S : Mat} {d c lo i : Nat} (h : i < S.length) : (PJ S d c lo).getD i [] = FJ S d c lo i := by
  rw [getD_get (by rw [PJ_len]; exact h)]
  unfold PJ
  rw [List.getElem_map, List.getElem_range]
theorem mat_ext {A B : Mat} (hl : A.length = B.length) (h : ∀ i, i < A.length → A.getD i [] = B.getD i []) : A = B := by
  refine List.ext_getElem hl fun i h1 h2 => ?_
  have := h i h1
  rw [getD_get h1, getD_get h2] at this
  exact this
theorem getD_set_ne' {α : Type} {xs : List α} {i j : Nat} {z a : α} (h : j ≠ i) : (xs.set j a).getD i z = xs.getD i z := by rw [List.getD_eq_getElem?_getD, List.getElem?_set_ne h, List.getD_eq_getElem?_getD]
theorem getD_set_eq' {α : Type} {xs : List α} {i : Nat} {z a : α} (h : i < xs.length) : (xs.set i a).getD i z = a := by rw [List.getD_eq_getElem?_getD, List.getElem?_set_self h]; rfl
theorem PJ_zero {S : Mat} {d c : Nat} (hd : d < S.length) : S.set d (leadR S d c) = PJ S d c 0 := by
  refine mat_ext (by rw [List.length_set, PJ_len]) fun i hi => ?_
  rw [List.length_set] at hi
  rw [PJ_get hi]
  unfold FJ
  by_cases h : i = d
  · subst h
    rw [if_pos rfl, getD_set_eq' hi]
  · rw [if_neg h, if_neg (by omega), getD_set_ne' (fun z => h z.symm)]
theorem PJ_last {S : Mat} {d c : Nat} : PJ S d c S.length = clear S d c := by
  refine mat_ext (by rw [PJ_len, clear_len]) fun i hi => ?_
  rw [PJ_len] at hi
  rw [PJ_get hi, clear_get hi]
  unfold FJ
  rw [if_pos hi]
theorem PJ_step {S : Mat} {d c j : Nat} (hj : j < S.length) (hd : j ≠ d) : (PJ S d c j).set j (wo (S.getD j []) (leadR S d c) c) = PJ S d c (j + 1) := by
  refine mat_ext (by rw [List.length_set, PJ_len, PJ_len]) fun i hi => ?_
  rw [List.length_set, PJ_len] at hi
  rw [PJ_get hi]
  by_cases h : i = j
  · subst h
    rw [getD_set_eq' (by rw [PJ_len]; exact hi)]
    unfold FJ
    rw [if_neg hd, if_pos (by omega)]
  · rw [getD_set_ne' (fun z => h z.symm), PJ_get hi]
    unfold FJ
    by_cases h2 : i < j
    · rw [if_pos h2, if_pos (show i < j + 1 by omega)]
    · rw [if_neg h2, if_neg (show ¬ i < j + 1 by omega)]
theorem PJ_same {S : Mat} {d c j : Nat} (h : j = d ∨ (S.getD j []).getD c 0 = 0) : PJ S d c (j + 1) = PJ S d c j := by
  refine mat_ext (by rw [PJ_len, PJ_len]) fun i hi => ?_
  rw [PJ_len] at hi
  rw [PJ_get hi, PJ_get hi]
  unfold FJ
  by_cases hd : i = d
  · rw [if_pos hd, if_pos hd]
  · rw [if_neg hd, if_neg hd]
    by_cases h2 : i < j
    · rw [if_pos h2, if_pos (show i < j + 1 by omega)]
    · rw [if_neg h2]
      by_cases h3 : i = j
      · subst h3
        rw [if_pos (by omega)]
        unfold wo
        rw [if_pos (h.resolve_left hd)]
      · rw [if_neg (by omega)]
theorem wo_range {row lead : List Rat} {c w : Nat} (h1 : row.length = w) (h2 : lead.length = w) (h0 : row.getD c 0 ≠ 0) : ((List.range w).map fun i => fr (row.getD i 0 - row.getD c 0 * lead.getD i 0)) = (wo row lead c).map fr := by
  have hl : (wo row lead c).length = w := by rw [wo_len (by omega), h1]
  refine List.ext_getElem (by simp [hl]) fun i q1 q2 => ?_
  rw [List.length_map, List.length_range] at q1
  rw [List.getElem_map, List.getElem_range, List.getElem_map, ← getD_get (z := (0 : Rat)) (by omega), wo_get (by omega)]
theorem lao_5 {r : PyData} {n d : Nat} {o5 o6 o7 : Option PyData} : wipeR (noExc (lao r n d o5 o6 o7)) [10] = lao r n d o5 o6 o7 := by
  unfold lao
  simp only [noExc_map, noExc_none, noExc_val, noExc_ref, noExc_nil, wipeR, List.set_cons_succ, List.set_cons_zero]
theorem lcolJ_step {r : PyData} {n w d c j : Nat} {S : Mat} {pv : List PyData} {o6 : Option PyData} (hw : w = n + 1) (hwl : w ≤ 10000) (hc : c < w) (hr : Rect w S) (hd : d < S.length) (hj : j < S.length)
    (s1 : ∀ k, Sz (ent S j k)) (s2 : ∀ k, Sz ((leadR S d c).getD k 0)) (s3 : ∀ k, Sz (ent S j c * (leadR S d c).getD k 0)) :
    lcolJ (lao r n d (some (.int (c : Int))) o6 (some (.int (j : Int)))) (lcell ((PJ S d c j).map rl) pv) = .ok (.nx, lao r n d (some (.int (c : Int))) o6 (some (.int (j : Int)))) (lcell ((PJ S d c (j + 1)).map rl) pv) := by
  have f0 := fNe_int (j : Int) (d : Int)
  have t1 : tE (eOp2 fNe (eVar 7) (eVar 4)) (lao r n d (some (.int (c : Int))) o6 (some (.int (j : Int)))) (lcell ((PJ S d c j).map rl) pv) = .ok (!decide ((j : Int) = (d : Int))) (lcell ((PJ S d c j).map rl) pv) := by
    unfold lao
    walk_at "evh"
  by_cases hjd : j = d
  · rw [PJ_same (Or.inl hjd)]
    rw [decide_eq_true (show (j : Int) = (d : Int) by omega)] at t1
    unfold lcolJ sIf MK.tAnd
    rw [mB_app (a := false) (h' := lcell ((PJ S d c j).map rl) pv) (by rw [mB_app t1]; rfl)]
    rfl
  · rw [decide_eq_false (show ¬ (j : Int) = (d : Int) by omega)] at t1
    have g1 : FJ S d c j j = S.getD j [] := by unfold FJ; rw [if_neg hjd, if_neg (by omega)]
    have g2 : FJ S d c j d = leadR S d c := by unfold FJ; rw [if_pos rfl]
    have p1 := fIx_refN (h := lcell ((PJ S d c j).map rl) pv) lcell_0 (row_at (R := PJ S d c j) (k := j) (by rw [PJ_len]; exact hj))
    have p2 := fIx_refN (h := lcell ((PJ S d c j).map rl) pv) lcell_0 (row_at (R := PJ S d c j) (k := d) (by rw [PJ_len]; exact hd))
    rw [PJ_get hj, g1] at p1
    rw [PJ_get hd, g2] at p2
    replace p1 : fIx (.ref 0) (.val (.int (j : Int))) (lcell ((PJ S d c j).map rl) pv) = .ok (.val (.list ((S.getD j []).map fr))) (lcell ((PJ S d c j).map rl) pv) := p1
    replace p2 : fIx (.ref 0) (.val (.int (d : Int))) (lcell ((PJ S d c j).map rl) pv) = .ok (.val (.list ((leadR S d c).map fr))) (lcell ((PJ S d c j).map rl) pv) := p2
    have hlj := getD_row hr hj
    have hll := lead_len (c := c) hr hd
    have a1 := (Sq.l ((S.getD j []).map fr)).ixR (show c < (S.getD j []).length by rw [hlj]; exact hc)
    have f1 := fNe_int ((S.getD j []).getD c 0).num 0
    have t2 : tE (eOp2 fNe (eOp2 fIx (eOp2 fIx (eOp2 fIx (eVar 0) (eVar 7)) (eVar 5)) (eC (.int 0))) (eC (.int 0))) (lao r n d (some (.int (c : Int))) o6 (some (.int (j : Int)))) (lcell ((PJ S d c j).map rl) pv) = .ok (!decide (((S.getD j []).getD c 0).num = 0)) (lcell ((PJ S d c j).map rl) pv) := by
      unfold lao
      clear t1 hlj hll g1 g2 f0 p2
      walk_at "evh"
    have t3 : MK.tAnd (tE (eOp2 fNe (eVar 7) (eVar 4))) (tE (eOp2 fNe (eOp2 fIx (eOp2 fIx (eOp2 fIx (eVar 0) (eVar 7)) (eVar 5)) (eC (.int 0))) (eC (.int 0)))) (lao r n d (some (.int (c : Int))) o6 (some (.int (j : Int)))) (lcell ((PJ S d c j).map rl) pv) = .ok (!decide (((S.getD j []).getD c 0).num = 0)) (lcell ((PJ S d c j).map rl) pv) := by
      unfold MK.tAnd
      rw [mB_app t1]
      exact t2
    unfold lcolJ sIf
    rw [mB_app t3]
    by_cases h0 : (S.getD j []).getD c 0 = 0
    · rw [PJ_same (Or.inr h0), decide_eq_true (Rat.num_eq_zero.mpr h0)]
      rfl
    · rw [decide_eq_false (fun z => h0 (Rat.num_eq_zero.mp z))]
      simp only [Bool.not_false, if_true]
      have e : eLc false (iRng1 (eOp2 (fAdd false) (eVar 2) (eC (.int 1)))) (gVar 10) tYesM (eCallI V__law_minus (aCons (eOp2 fIx (eOp2 fIx (eVar 0) (eVar 7)) (eVar 10)) (aCons (eCallI V__law_times (aCons (eOp2 fIx (eOp2 fIx (eVar 0) (eVar 7)) (eVar 5)) (aCons (eOp2 fIx (eOp2 fIx (eVar 0) (eVar 4)) (eVar 10)) aNil))) aNil))) [10] (lao r n d (some (.int (c : Int))) o6 (some (.int (j : Int)))) (lcell ((PJ S d c j).map rl) pv)
          = .ok (.val (rl (wo (S.getD j []) (leadR S d c) c))) (lcell ((PJ S d c j).map rl) pv) := by
        refine (eLc_mapH (o := false) (xs := List.range w) (f := fun (k : Nat) => PyData.int (k : Int)) (h1 := lcell ((PJ S d c j).map rl) pv) (ρ' := fun k => (lao r n d (some (.int (c : Int))) o6 (some (.int (j : Int)))).set 10 (some (.val (.int (k : Int))))) (g := fun k => fr ((S.getD j []).getD k 0 - (S.getD j []).getD c 0 * (leadR S d c).getD k 0)) (iRng1_natH (h1 := lcell ((PJ S d c j).map rl) pv) ?_ (by omega)) (by rw [List.length_range]; exact hwl) lao_5 (fun k _ => rfl) (fun k hk => rfl) (fun k hk => ?_)).trans ?_
        · rw [hw]
          rfl
        · have hk := List.mem_range.mp hk
          have b1 := (Sq.l ((S.getD j []).map fr)).ixR (show k < (S.getD j []).length by rw [hlj]; exact hk)
          have b2 := (Sq.l ((leadR S d c).map fr)).ixR (show k < (leadR S d c).length by rw [hll]; exact hk)
          have u1 := law_times_eq (s1 c) (s2 k)
          have u2 := law_minus_eq (s1 k) (s3 k)
          unfold ent at u1 u2
          unfold lao
          clear t1 t2 t3 hlj hll g1 g2 f0 f1 h0 hk
          walk_at "evh"
        · rw [wo_range hlj hll h0]
          rfl
      have g := mSetIx_ref (d := rl (wo (S.getD j []) (leadR S d c) c)) (lcell_0 (rows := (PJ S d c j).map rl) (pv := pv)) (j := j) (by rw [List.length_map, PJ_len]; exact hj)
      rw [← List.map_set, PJ_step hj hjd, lcell_s0] at g
      rw [sAsg_eq, mB_app e, gIx_eq]
      unfold lao
      clear t1 t2 t3 hlj hll g1 g2 f0 f1 h0 e p1 p2 a1
      walk_at "evh"
theorem lcolJ_loop {r : PyData} {n w d c : Nat} {S : Mat} {pv : List PyData} {o6 : Option PyData} (hw : w = n + 1) (hwl : w ≤ 10000) (hc : c < w) (hr : Rect w S) (hd : d < S.length)
    (s1 : ∀ j k, j < S.length → Sz (ent S j k)) (s2 : ∀ k, Sz ((leadR S d c).getD k 0)) (s3 : ∀ j k, j < S.length → Sz (ent S j c * (leadR S d c).getD k 0)) : ∀ (k lo : Nat) (o7 : Option PyData), lo + k ≤ S.length → ∃ o7',
    MK.forM (gVar 7) lcolJ ((List.range' lo k).map fun (k : Nat) => PyData.int (k : Int)) (lao r n d (some (.int (c : Int))) o6 o7) (lcell ((PJ S d c lo).map rl) pv) = .ok (.nx, lao r n d (some (.int (c : Int))) o6 o7') (lcell ((PJ S d c (lo + k)).map rl) pv)
  | 0, lo, o7, _ => ⟨o7, rfl⟩
  | k + 1, lo, o7, h => by
    have st := lcolJ_step (r := r) (pv := pv) (o6 := o6) hw hwl hc hr hd (show lo < S.length by omega) (fun k => s1 lo k (by omega)) s2 (fun k => s3 lo k (by omega))
    obtain ⟨o7', e⟩ := lcolJ_loop (r := r) (pv := pv) (o6 := o6) hw hwl hc hr hd s1 s2 s3 k (lo + 1) (some (.int (lo : Int))) (by omega)
    refine ⟨o7', ?_⟩
    rw [List.range'_succ, List.map_cons, show lo + (k + 1) = lo + 1 + k by omega]
    exact (forM_consH (ρ1 := lao r n d (some (.int (c : Int))) o6 (some (.int (lo : Int)))) (h1 := lcell ((PJ S d c lo).map rl) pv) rfl st).trans e
theorem nil_filter {R : Mat} {k n : Nat} (hk : k ≤ R.length) : ((List.range' k (R.length - k)).filter fun j => decide (ent R j n ≠ 0)).isEmpty = !restBad n R k := by
  cases hb : restBad n R k with
  | true =>
    obtain ⟨i, h1, h2, h3⟩ := restBad_true hb
    have : i ∈ (List.range' k (R.length - k)).filter fun j => decide (ent R j n ≠ 0) := List.mem_filter.mpr ⟨List.mem_range'_1.mpr ⟨h1, by omega⟩, decide_eq_true h3⟩
    cases hf : (List.range' k (R.length - k)).filter fun j => decide (ent R j n ≠ 0) with
    | nil => rw [hf] at this; cases this
    | cons a as => rfl
  | false =>
    have : (List.range' k (R.length - k)).filter (fun j => decide (ent R j n ≠ 0)) = [] := by
      refine List.filter_eq_nil_iff.mpr fun i hi => ?_
      have hi := List.mem_range'_1.mp hi
      rw [restBad_false hb hi.1 (by omega)]
      simp
    rw [this]
    rfl
theorem zip_idx {R : Mat} : ∀ (L : List Nat) (k : Nat), k + L.length ≤ R.length → (R.drop k).zip L = (L.zipIdx k).map fun q => (R.getD q.2 [], q.1)
  | [], k, _ => by simp
  | c :: L, k, h => by
    rw [List.length_cons] at h
    have hk : k < R.length := by omega
    rw [List.drop_eq_getElem_cons hk, List.zip_cons_cons, List.zipIdx_cons, List.map_cons, getD_get hk, zip_idx L (k + 1) (by omega)]
/-- spots below the done ones -/
theorem lspots {r : PyData} {n w d c : Nat} {R : Mat} {pv : List PyData} {o5 o6 o7 : Option PyData} (hdR : d ≤ R.length) (hR : R.length ≤ 10000) (hr : Rect w R) (hc : c < w) (F : Em) (hF : ∀ k : Nat, F ((lao r n d o5 o6 o7).set 7 (some (.val (.int (k : Int))))) (lcell (R.map rl) pv) = .ok (.val (.int (c : Int))) (lcell (R.map rl) pv)) :
    eLc false (iRng2 (eVar 4) (eArgs (b1 bLen) (aCons (eVar 0) aNil))) (gVar 7) (tE (eOp2 fNe (eOp2 fIx (eOp2 fIx (eOp2 fIx (eVar 0) (eVar 7)) F) (eC (.int 0))) (eC (.int 0)))) (eVar 7) [7] (lao r n d o5 o6 o7) (lcell (R.map rl) pv)
      = .ok (.val (.list (((List.range' d (R.length - d)).filter fun k => decide (ent R k c ≠ 0)).map fun (k : Nat) => PyData.int (k : Int)))) (lcell (R.map rl) pv) := by
  have b2 := bLen_ref (lcell_0 (rows := R.map rl) (pv := pv))
  rw [List.length_map] at b2
  have w0 : wipeR (noExc (lao r n d o5 o6 o7)) [7] = (lao r n d o5 o6 o7).set 7 none := by
    unfold lao
    simp only [noExc_map, noExc_none, noExc_val, noExc_ref, noExc_nil, wipeR, List.set_cons_succ, List.set_cons_zero]
  refine eLc_filterH (xs := List.range' d (R.length - d)) (f := fun (k : Nat) => PyData.int (k : Int)) (h1 := lcell (R.map rl) pv) (ρ' := fun k => (lao r n d o5 o6 o7).set 7 (some (.val (.int (k : Int))))) (p := fun k => decide (ent R k c ≠ 0)) (g := fun (k : Nat) => PyData.int (k : Int)) (iRng2_natH (h1 := lcell (R.map rl) pv) rfl ?_ (by omega) (by omega)) (by rw [List.length_range']; omega) w0 (fun k _ => rfl) (fun k hk => ?_) (fun k _ _ => rfl)
  · unfold lao
    walk_at "evh"
  · have hk2 : k < R.length := by have := List.mem_range'_1.mp hk; omega
    have f1 : fIx (.ref 0) (.val (.int (k : Int))) (lcell (R.map rl) pv) = .ok (.val (.list ((R.getD k []).map fr))) (lcell (R.map rl) pv) := fIx_refN (lcell_0 (rows := R.map rl) (pv := pv)) (row_at hk2)
    have f2 := (Sq.l ((R.getD k []).map fr)).ixR (show c < (R.getD k []).length by rw [getD_row hr hk2]; exact hc)
    have f3 := fNe_int ((R.getD k []).getD c 0).num 0
    have f4 := hF k
    unfold lao at f4 ⊢
    simp only [List.set_cons_succ, List.set_cons_zero] at f4
    clear hF w0
    walk_at "evh"
    show Res.ok (!decide ((ent R k c).num = 0)) _ = Res.ok (decide (ent R k c ≠ 0)) _
    simp [Rat.num_eq_zero]
theorem lcol_step {r : PyData} {n w c X : Nat} {st : Mat × List Nat} {o6 o7 : Option PyData} (hwn : w = n + 1) (hr : Rect w st.1) (hlen : st.1.length ≤ 10000) (hfew : st.2.length ≤ st.1.length) (hw : w ≤ 10000) (hc : c < w) (hcd : CD X st.1) (hX : 2 * (X * X) < 2 ^ bE) :
    ∃ o6' o7', lcolB (lao r n st.2.length (some (.int (c : Int))) o6 o7) (lcell (st.1.map rl) (il st.2)) = .ok (.nx, lao r n (stepC st c).2.length (some (.int (c : Int))) o6' o7') (lcell ((stepC st c).1.map rl) (il (stepC st c).2)) := by
  obtain ⟨R, L⟩ := st
  simp only at hr hlen hfew hcd ⊢
  have X0 : 0 < X := by obtain ⟨d, a, b, _⟩ := hcd; omega
  have hX1 : X < 2 ^ bE := by have := le_sq X0; omega
  let p : Nat → Bool := fun k => decide (ent R k c ≠ 0)
  have e2 := lspots (r := r) (n := n) (d := L.length) (pv := il L) (o5 := some (.int (c : Int))) (o6 := o6) (o7 := o7) hfew hlen hr hc (eVar 5) (fun k => rfl)
  have sp : spot R L.length c = ((List.range' L.length (R.length - L.length)).filter p).head? := by rw [find_head]; rfl
  change _ = Res.ok (SV.val (.list (((List.range' L.length (R.length - L.length)).filter p).map fun (k : Nat) => PyData.int (k : Int)))) _ at e2
  generalize hf : (List.range' L.length (R.length - L.length)).filter p = ss at e2 sp
  have hn := fNe_nil (sh_ints (f := fun (k : Nat) => (k : Int)) ss)
  have e3 : sAsg (eLc false (iRng2 (eVar 4) (eArgs (b1 bLen) (aCons (eVar 0) aNil))) (gVar 7) (tE (eOp2 fNe (eOp2 fIx (eOp2 fIx (eOp2 fIx (eVar 0) (eVar 7)) (eVar 5)) (eC (.int 0))) (eC (.int 0)))) (eVar 7) [7]) (gVar 6) (lao r n L.length (some (.int (c : Int))) o6 o7) (lcell (R.map rl) (il L))
      = .ok (.nx, lao r n L.length (some (.int (c : Int))) (some (.list (ss.map fun (k : Nat) => PyData.int (k : Int)))) o7) (lcell (R.map rl) (il L)) := sAsg_var e2
  unfold lcolB
  rw [sCons_nx e3]
  cases ss with
  | nil =>
    have hs : spot R L.length c = none := sp
    have hst : stepC (R, L) c = (R, L) := by unfold stepC; rw [hs]
    refine ⟨some (.list []), o7, ?_⟩
    rw [hst]
    rw [List.map_nil] at hn
    unfold lao
    clear e2 e3 sp hs hf hst
    walk_at "evh"
    rfl
  | cons s rest =>
    have hs : spot R L.length c = some s := sp
    obtain ⟨q1, q2, q3⟩ := spot_some hs
    have hd : L.length < R.length := by omega
    have hsl : s < R.length := q2
    have f1 := fIx_refN (lcell_0 (rows := R.map rl) (pv := il L)) (row_at hsl)
    have f2 := fIx_refN (lcell_0 (rows := R.map rl) (pv := il L)) (row_at hd)
    have f3 : fIx (.val (.list ((s :: rest).map fun (k : Nat) => PyData.int (k : Int)))) (.val (.int 0)) = mP (.val (.int (s : Int))) := (Sq.l _).ix (k := 0) rfl
    have g1 := mSetIx_ref (d := rl (R.getD s [])) (lcell_0 (rows := R.map rl) (pv := il L)) (show L.length < (R.map rl).length by rw [List.length_map]; exact hd)
    rw [lcell_s0] at g1
    have g2 := mSetIx_ref (d := rl (R.getD L.length [])) (lcell_0 (rows := (R.map rl).set L.length (rl (R.getD s []))) (pv := il L)) (show s < ((R.map rl).set L.length (rl (R.getD s []))).length by rw [List.length_set, List.length_map]; exact hsl)
    have hR1 : (((R.map rl).set L.length (rl (R.getD s []))).set s (rl (R.getD L.length []))) = (swapR R L.length s).map rl := by
      unfold swapR
      rw [List.map_set, List.map_set]
    rw [lcell_s0, hR1] at g2
    have e4 : sAsg (eTup (aCons (eOp2 fIx (eVar 0) (eOp2 fIx (eVar 6) (eC (.int 0)))) (aCons (eOp2 fIx (eVar 0) (eVar 4)) aNil))) (gTup 2 (gsCons (gIx (eVar 0) (eVar 4)) (gsCons (gIx (eVar 0) (eOp2 fIx (eVar 6) (eC (.int 0)))) gsNil)))
        (lao r n L.length (some (.int (c : Int))) (some (.list ((s :: rest).map fun (k : Nat) => PyData.int (k : Int)))) o7) (lcell (R.map rl) (il L)) = .ok (.nx, lao r n L.length (some (.int (c : Int))) (some (.list ((s :: rest).map fun (k : Nat) => PyData.int (k : Int)))) o7) (lcell ((swapR R L.length s).map rl) (il L)) := by
      unfold lao
      clear hn e3 e2 hf sp hs hR1
      generalize (s :: rest).map (fun (k : Nat) => PyData.int (k : Int)) = sl at f3 ⊢
      walk_at "evh"
    have hdl : L.length < (swapR R L.length s).length := by rw [swap_len]; exact hd
    have r1 := swap_rect hr hd hsl
    have cd1 := hcd.swap hd hsl
    have sl1 := swap_len R L.length s
    have hp : ent (swapR R L.length s) L.length c ≠ 0 := by
      unfold ent
      rw [swap_get hd hsl]
      by_cases q : L.length = s
      · rw [if_pos q, q]; exact q3
      · rw [if_neg q, if_pos rfl]; exact q3
    have hst : stepC (R, L) c = (clear (swapR R L.length s) L.length c, L ++ [c]) := by unfold stepC; rw [hs]
    rw [hst]
    simp only
    have tst : tE (eOp2 fNe (eVar 6) (eLst false aNil)) (lao r n L.length (some (.int (c : Int))) (some (.list ((s :: rest).map fun (k : Nat) => PyData.int (k : Int)))) o7) (lcell (R.map rl) (il L)) = .ok true (lcell (R.map rl) (il L)) := by
      unfold lao
      have hn2 : fNe (.val (.list ((s :: rest).map fun (k : Nat) => PyData.int (k : Int)))) (.val (.list [])) = mP (.val (.bool true)) := hn
      clear hn e3 e2 hf sp hs f3 e4
      generalize (s :: rest).map (fun (k : Nat) => PyData.int (k : Int)) = sl at hn2 ⊢
      walk_at "evh"
    unfold sIf
    rw [mB_app tst, if_pos rfl, sCons_nx e4]
    have ll : (il L).length = L.length := by unfold il; rw [List.length_map]
    clear hn e3 e2 hf sp hs f3 e4 tst g1 g2 hR1 f1 f2 hst
    generalize (s :: rest).map (fun (k : Nat) => PyData.int (k : Int)) = sl
    generalize hS : swapR R L.length s = S at hdl r1 cd1 sl1 hp ⊢
    have hlL : L.length ≤ 10000 := by omega
    have hil : il (L ++ [c]) = il L ++ [.int (c : Int)] := by unfold il; rw [List.map_append]; rfl
    rw [hil, List.length_append, List.length_singleton]
    generalize il L = pv at ll ⊢
    generalize hdn : L.length = d at *
    have szS : ∀ i k, i < S.length → Sz (ent S i k) := fun i k hi => by
      obtain ⟨e, d0, d1, hd⟩ := cd1
      exact sz_hd d0 d1 hX1 (hd i k hi)
    have cd2 := cd1.clear r1 hdl hp
    have szL : ∀ k, Sz ((leadR S d c).getD k 0) := fun k => by
      obtain ⟨e, e0, e1, he⟩ := cd2
      have := he d k (by rw [clear_len]; exact hdl)
      rw [clear_ent r1 hdl hdl, if_pos rfl, ← lead_get] at this
      exact sz_hd e0 e1 hX this
    have szP : ∀ j k, j < S.length → Sz (ent S j c * (leadR S d c).getD k 0) := fun j k hj => by
      obtain ⟨e, e0, e1, he⟩ := cd1.prod (j := k) hdl hj hp
      rw [← lead_get] at he
      exact sz_hd e0 e1 (by omega) he
    have hl := getD_row r1 hdl
    have f4 : fIx (.ref 0) (.val (.int (d : Int))) (lcell (S.map rl) pv) = .ok (.val (.list ((S.getD d []).map fr))) (lcell (S.map rl) pv) := fIx_refN (lcell_0 (rows := S.map rl) (pv := pv)) (row_at hdl)
    have f6 : fIx (.val (.list ((S.getD d []).map fr))) (.val (.int (c : Int))) = mP (.val (fr (ent S d c))) := (Sq.l ((S.getD d []).map fr)).ixR (show c < (S.getD d []).length by rw [hl]; exact hc)
    have e5 : eLc false (iSeq (eOp2 fIx (eVar 0) (eVar 4))) (gVar 9) tYesM (eCallI V__law_over (aCons (eVar 9) (aCons (eOp2 fIx (eOp2 fIx (eVar 0) (eVar 4)) (eVar 5)) aNil))) [9]
        (lao r n d (some (.int (c : Int))) (some (.list sl)) o7) (lcell (S.map rl) pv) = .ok (.val (rl (leadR S d c))) (lcell (S.map rl) pv) := by
      refine (eLc_mapH (o := false) (xs := S.getD d []) (f := fr) (h1 := lcell (S.map rl) pv) (ρ' := fun x => (lao r n d (some (.int (c : Int))) (some (.list sl)) o7).set 9 (some (.val (fr x)))) (g := fun x => fr (x / ent S d c)) ?_ (by rw [hl]; exact hw) ?_ (fun k _ => rfl) (fun k hk => rfl) (fun x hx => ?_)).trans ?_
      · unfold lao
        walk_at "evh"
      · unfold lao
        simp only [noExc_map, noExc_none, noExc_val, noExc_ref, noExc_nil, wipeR, List.set_cons_succ, List.set_cons_zero]
      · have o := law_over_eq (ent_mem (R := S) (k := d) (P := Sz) (fun j => szS d j hdl) x hx) (szS d c hdl) hp
        unfold lao
        walk_at "evh"
      · unfold leadR rl
        rw [List.map_map]
        rfl
    have g3 := mSetIx_ref (d := rl (leadR S d c)) (lcell_0 (rows := S.map rl) (pv := pv)) (show d < (S.map rl).length by rw [List.length_map]; exact hdl)
    rw [← List.map_set, PJ_zero hdl, lcell_s0] at g3
    have e6 : sAsg (eLc false (iSeq (eOp2 fIx (eVar 0) (eVar 4))) (gVar 9) tYesM (eCallI V__law_over (aCons (eVar 9) (aCons (eOp2 fIx (eOp2 fIx (eVar 0) (eVar 4)) (eVar 5)) aNil))) [9]) (gIx (eVar 0) (eVar 4))
        (lao r n d (some (.int (c : Int))) (some (.list sl)) o7) (lcell (S.map rl) pv) = .ok (.nx, lao r n d (some (.int (c : Int))) (some (.list sl)) o7) (lcell ((PJ S d c 0).map rl) pv) := by
      rw [sAsg_eq, mB_app e5, gIx_eq]
      unfold lao
      clear e5 f4 f6 szS szL szP
      walk_at "evh"
    obtain ⟨o7', e7⟩ := lcolJ_loop (r := r) (pv := pv) (o6 := some (.list sl)) hwn hw hc r1 hdl szS szL szP S.length 0 o7 (by omega)
    rw [Nat.zero_add, PJ_last, ← List.range_eq_range'] at e7
    have e8 : sFor (iRng1 (eArgs (b1 bLen) (aCons (eVar 0) aNil))) (gVar 7) lcolJ (lao r n d (some (.int (c : Int))) (some (.list sl)) o7) (lcell ((PJ S d c 0).map rl) pv) = .ok (.nx, lao r n d (some (.int (c : Int))) (some (.list sl)) o7') (lcell ((clear S d c).map rl) pv) := by
      have b := bLen_ref (lcell_0 (rows := (PJ S d c 0).map rl) (pv := pv))
      rw [List.length_map, PJ_len] at b
      have i : iRng1 (eArgs (b1 bLen) (aCons (eVar 0) aNil)) (lao r n d (some (.int (c : Int))) (some (.list sl)) o7) (lcell ((PJ S d c 0).map rl) pv) = .ok ((List.range S.length).map fun (k : Nat) => PyData.int (k : Int)) (lcell ((PJ S d c 0).map rl) pv) := by
        refine iRng1_natH (h1 := lcell ((PJ S d c 0).map rl) pv) ?_ (by omega)
        unfold lao
        clear e5 f4 f6 szS szL szP e7 e6
        walk_at "evh"
      rw [sFor_eq, mB_app i]
      exact e7
    refine ⟨some (.list sl), o7', (sCons_nx e6).trans ((sCons_nx e8).trans ?_)⟩
    have il1 : isLs (.ref 1) (lcell ((clear S d c).map rl) pv) = .ok () (lcell ((clear S d c).map rl) pv) := isLs_ref lcell_1
    have ap := mApp_ref (d := .int (c : Int)) (lcell_1 (rows := (clear S d c).map rl) (pv := pv)) (by omega)
    rw [lcell_s1] at ap
    have hcast : ((d : Int) + 1) = ((d + 1 : Nat) : Int) := rfl
    unfold lao
    rw [← hcast]
    clear e5 f4 f6 szS szL szP e7 e6 e8
    walk_at "evh"
end GL
set_option Elab.async false
set_option linter.all false
set_option maxRecDepth 100000
set_option maxHeartbeats 4000000
/-! the law's own answer. -/
namespace GL
open MK PySem PySem.Spec PyProof.Rows L2 LA
local macro_rules | `(tactic| walk_at "ev") => `(tactic| simp only [Option.map_some, Option.map_none, fnV, mCall_rt, mCall_nx, List.length_cons, List.length_nil, Nat.zero_add, Nat.reduceAdd, List.map_cons, List.map_nil, Nat.reduceSub, Nat.sub_self, List.replicate, List.cons_append, List.nil_append, List.append_nil, decide_true, decide_false, guard_t, mB_mP, eVar_z, eVar_s, eC_eq, eOp2_eq, eOp1_eq, aNil_eq, aCons_eq, aStar_eq, eArgs_eq, tE_eq, mBool_eq, mInt_eq, mD_eq, mSeq_t, mSeq_l, mLs_l, mDat_v, tAnd_eq, tOr_eq, tNot_eq, eAnd_eq, eOr_eq, eNot_eq, eIf_eq, eChain_eq, eTup_eq, eLst_eq, mTup0, mTup1, mTup2, mTup3, mLst0, mLst1, mLst2, few_of, Nat.reduceLeDiff, mNew_f, b1_eq, b2_eq, sCons_eq, sNil_eq, sAsg_eq, gVar_eq, eSl_eq, oSome_eq, oNone_eq, sRet_eq, sRetN_eq, sIf_eq, sExpr_eq, sFor_eq, iSeq_eq, mIter_l, mIter_t, iEnum_eq, iZip_eq, iRng1_eq, iRng2_eq, iRngV_eq, bRange1_eq, mRng_eq, noX_mP, noExc_nil, noExc_none, noExc_val, noExc_rng, wipeR, List.set_cons_zero, List.set_cons_succ, tYesM_eq, gTup_eq2, gTup_eq3, eCallI_eq, List.all_cons, List.all_nil, isVal, Bool.and_true, Bool.and_self, Bool.true_and, iso_mP, fIx_fr0, fIx_fr1, fAdd_int, fSub_int, fNeg_int, fLt_int, fLe_int, fGt_int, fGe_int, bGcd_int, bLen_t, bLen_l, bTuple_l, bTuple_t, bList_t, bList_l, sPar_eq, bAbs_int, bIntB_int, if_true, Bool.not_true, Bool.not_false, Bool.false_eq_true, reduceIte, *])
local macro_rules | `(tactic| walk_at "evh") => `(tactic| simp only [Option.map_some, Option.map_none, mP_app, mB_def, mNew_t, gIx_eq, eFrz_eq, fnV, mCall_rt, mCall_nx, List.length_cons, List.length_nil, Nat.zero_add, Nat.reduceAdd, List.map_cons, List.map_nil, Nat.reduceSub, Nat.sub_self, List.replicate, List.cons_append, List.nil_append, List.append_nil, decide_true, decide_false, guard_t, mB_mP, eVar_z, eVar_s, eC_eq, eOp2_eq, eOp1_eq, aNil_eq, aCons_eq, aStar_eq, eArgs_eq, tE_eq, mBool_eq, mInt_eq, mD_eq, mSeq_t, mSeq_l, mLs_l, mDat_v, tAnd_eq, tOr_eq, tNot_eq, eAnd_eq, eOr_eq, eNot_eq, eIf_eq, eChain_eq, eTup_eq, eLst_eq, mTup0, mTup1, mTup2, mTup3, mLst0, mLst1, mLst2, few_of, Nat.reduceLeDiff, mNew_f, b1_eq, b2_eq, sCons_eq, sNil_eq, sAsg_eq, gVar_eq, eSl_eq, oSome_eq, oNone_eq, sRet_eq, sRetN_eq, sIf_eq, sExpr_eq, sFor_eq, iSeq_eq, mIter_l, mIter_t, iEnum_eq, iZip_eq, iRng1_eq, iRng2_eq, iRngV_eq, bRange1_eq, mRng_eq, noX_mP, noExc_nil, noExc_none, noExc_val, noExc_rng, wipeR, List.set_cons_zero, List.set_cons_succ, tYesM_eq, gTup_eq2, gTup_eq3, eCallI_eq, List.all_cons, List.all_nil, isVal, Bool.and_true, Bool.and_self, Bool.true_and, iso_mP, fIx_fr0, fIx_fr1, fAdd_int, fSub_int, fNeg_int, fLt_int, fLe_int, fGt_int, fGe_int, bGcd_int, bLen_t, bLen_l, bTuple_l, bTuple_t, bList_t, bList_l, sPar_eq, bAbs_int, bIntB_int, if_true, Bool.not_true, Bool.not_false, Bool.false_eq_true, reduceIte, *])
theorem lcols_loop {r : PyData} {n w X M : Nat} {R0 : Mat} (hwn : w = n + 1) (hX : 0 < X) (hM : grow X M < 2 ^ bE) (hw : w ≤ 10000) (hl : R0.length ≤ 10000) (hr : Rect w R0) (hcd : CD X R0) : ∀ (k lo : Nat) (o5 o6 o7 : Option PyData), lo + k ≤ M → lo + k < w →
    ∃ o5' o6' o7', MK.forM (gVar 5) lcolB ((List.range' lo k).map fun (c : Nat) => PyData.int (c : Int)) (lao r n (bring R0 lo).2.length o5 o6 o7) (lcell ((bring R0 lo).1.map rl) (il (bring R0 lo).2)) = .ok (.nx, lao r n (bring R0 (lo + k)).2.length o5' o6' o7') (lcell ((bring R0 (lo + k)).1.map rl) (il (bring R0 (lo + k)).2))
  | 0, lo, o5, o6, o7, _, _ => ⟨o5, o6, o7, rfl⟩
  | k + 1, lo, o5, o6, o7, h1, h2 => by
    have I := bring_inv hr lo
    have C := hcd.bring hr lo
    have gl := grow_le hX (show lo + 1 ≤ M by omega)
    obtain ⟨o6', o7', e⟩ := lcol_step (r := r) (c := lo) (o6 := o6) (o7 := o7) hwn I.rect (by rw [I.len]; exact hl) I.few hw (by omega) C (Nat.lt_of_le_of_lt gl.1 hM)
    rw [← bring_succ] at e
    obtain ⟨p5, p6, p7, e2⟩ := lcols_loop (r := r) hwn hX hM hw hl hr hcd k (lo + 1) (some (.int (lo : Int))) o6' o7' (by omega) (by omega)
    refine ⟨p5, p6, p7, ?_⟩
    rw [List.range'_succ, List.map_cons, show lo + (k + 1) = lo + 1 + k by omega]
    exact (forM_consH (ρ1 := lao r n (bring R0 lo).2.length (some (.int (lo : Int))) o6 o7) (h1 := lcell ((bring R0 lo).1.map rl) (il (bring R0 lo).2)) rfl e).trans e2
def lao8 (r : PyData) (n d : Nat) (o5 o6 o7 : Option PyData) : Ro := [some (.ref 0), some (.val r), some (.val (.int (n : Int))), some (.ref 1), some (.val (.int (d : Int))), o5.map SV.val, o6.map SV.val, o7.map SV.val, some (.ref 2), none, none]
theorem lfill_loop {r : PyData} {n w d : Nat} {o6 : Option PyData} {R : Mat} (hr : Rect w R) (hw : n < w) : ∀ (qs : List (Nat × Nat)) (f : List Rat) (o5 o7 : Option PyData), (∀ q ∈ qs, q.1 < f.length ∧ q.2 < R.length) → ∃ o5' o7',
    MK.forM (gTup 2 (gsCons (gVar 7) (gsCons (gVar 5) gsNil))) (sAsg (eOp2 fIx (eOp2 fIx (eVar 0) (eVar 7)) (eVar 2)) (gIx (eVar 8) (eVar 5))) (qs.map fun q => .tuple [.int (q.2 : Int), .int (q.1 : Int)]) (lao8 r n d o5 o6 o7) [some (.lst (R.map rl)), none, some (.lst (f.map fr))]
      = .ok (.nx, lao8 r n d o5' o6 o7') [some (.lst (R.map rl)), none, some (.lst ((qs.foldl (fun f q => f.set q.1 (ent R q.2 n)) f).map fr))]
  | [], f, o5, o7, _ => ⟨o5, o7, rfl⟩
  | q :: qs, f, o5, o7, h => by
    obtain ⟨h1, h2⟩ := h q List.mem_cons_self
    obtain ⟨p5, p7, e⟩ := lfill_loop (r := r) (d := d) (o6 := o6) hr hw qs (f.set q.1 (ent R q.2 n)) (some (.int (q.1 : Int))) (some (.int (q.2 : Int))) (fun p hp => by
      rw [List.length_set]
      exact h p (List.mem_cons_of_mem _ hp))
    refine ⟨p5, p7, ?_⟩
    rw [List.map_cons]
    refine (forM_consH (ρ1 := lao8 r n d (some (.int (q.1 : Int))) o6 (some (.int (q.2 : Int)))) (h1 := [some (.lst (R.map rl)), none, some (.lst (f.map fr))]) rfl ?_).trans e
    have a1 : fIx (.val (.list ((R.getD q.2 []).map fr))) (.val (.int (n : Int))) = mP (.val (fr (ent R q.2 n))) := (Sq.l ((R.getD q.2 []).map fr)).ixR (show n < (R.getD q.2 []).length by rw [getD_row hr h2]; exact hw)
    have f1 : fIx (.ref 0) (.val (.int (q.2 : Int))) [some (.lst (R.map rl)), none, some (.lst (f.map fr))] = .ok (.val (.list ((R.getD q.2 []).map fr))) [some (.lst (R.map rl)), none, some (.lst (f.map fr))] := fIx_refN (h := [some (.lst (R.map rl)), none, some (.lst (f.map fr))]) rfl (row_at h2)
    have s := mSetIx_ref (h := [some (.lst (R.map rl)), none, some (.lst (f.map fr))]) (n := 2) (j := q.1) (d := fr (ent R q.2 n)) rfl (by rw [List.length_map]; exact h1)
    have e2 : ([some (Cell.lst (R.map rl)), none, some (.lst (f.map fr))] : Hm).set 2 (some (.lst ((f.map fr).set q.1 (fr (ent R q.2 n))))) = [some (.lst (R.map rl)), none, some (.lst ((f.set q.1 (ent R q.2 n)).map fr))] := by rw [List.map_set]; rfl
    rw [e2] at s
    unfold lao8
    clear e e2
    walk_at "evh"
theorem fill_eq {n : Nat} {R : Mat} {L : List Nat} (h : L.length ≤ R.length) : (L.zipIdx).foldl (fun f q => f.set q.1 (ent R q.2 n)) (List.replicate n (0 : Rat)) = fillX n R L := by
  have z := zip_idx (R := R) L 0 (by omega)
  rw [List.drop_zero] at z
  unfold fillX
  rw [z, List.foldl_map]
  rfl
theorem law_any_runs {A : Mat} {b : List Rat} {n X : Nat} {q : PyData} (hq : Sq q (b.map fr)) (h : A.length = b.length) (hA : 0 < A.length) (hAl : A.length ≤ 10000) (hr : Rect n A) (hn : n ≤ 900) (hX : 0 < X) (hM : grow X n < 2 ^ bE) (hcd : CD X (aug A b)) :
    Runs V__law_any [.val (.list (A.map rl)), .val q] (match solve A b n with
      | none => .none
      | some x => rl x) := by
  have hr1 := aug_rect h hr
  have I := bring_inv hr1 n
  have f0 : fIx (.val (.list (A.map rl))) (.val (.int 0)) = mP (.val (.list ((A.getD 0 []).map fr))) := (Sq.l _).ix (k := 0) (row_at hA)
  have l0 : bLen (.val (.list ((A.getD 0 []).map fr))) = mP (.val (.int (n : Int))) := by
    rw [bLen_l, List.length_map, getD_row hr hA]
  have c1 : eLc true (iRng1 (eArgs (b1 bLen) (aCons (eVar 0) aNil))) (gVar 5) tYesM (eOp2 (fAdd false) (eArgs (b1 (bList false)) (aCons (eOp2 fIx (eVar 0) (eVar 5)) aNil)) (eLst false (aCons (eOp2 fIx (eVar 1) (eVar 5)) aNil))) [5] [some (.val (.list (A.map rl))), some (.val q), none, none, none, none, none, none, none, none, none] [] = .ok (.ref 0) [some (.lst ((aug A b).map rl))] := by
    refine (eLc_mapH (o := true) (xs := List.range A.length) (f := fun (k : Nat) => PyData.int (k : Int)) (h1 := []) (ρ' := fun k => [some (.val (.list (A.map rl))), some (.val q), none, none, none, some (.val (.int (k : Int))), none, none, none, none, none]) (g := fun k => rl (A.getD k [] ++ [b.getD k 0])) (iRng1_natH (h1 := []) ?_ (by omega)) (by rw [List.length_range]; exact hAl) rfl (fun r _ => rfl) (fun r _ => rfl) (fun k hk => ?_)).trans ?_
    · have := bLen_l (A.map rl)
      rw [List.length_map] at this
      walk_at "evh"
    · have hk := List.mem_range.mp hk
      have g1 : fIx (.val (.list (A.map rl))) (.val (.int (k : Int))) = mP (.val (.list ((A.getD k []).map fr))) := (Sq.l _).ix (row_at hk)
      have g2 := hq.ixR (show k < b.length by omega)
      have g3 : fAdd false (.val (.list ((A.getD k []).map fr))) (.val (.list [fr (b.getD k 0)])) = mP (.val (rl (A.getD k [] ++ [b.getD k 0]))) := by
        rw [fAdd_l (by rw [List.length_map, getD_row hr hk, List.length_singleton]; omega)]
        unfold rl
        rw [List.map_append]
        rfl
      clear f0 l0
      walk_at "evh"
    · rw [mNew_t]
      have : (List.range A.length).map (fun k => rl (A.getD k [] ++ [b.getD k 0])) = (aug A b).map rl := by
        have : (List.range A.length).map (fun k => A.getD k [] ++ [b.getD k 0]) = aug A b := by
          refine mat_ext (by rw [List.length_map, List.length_range, aug_len h]) fun i hi => ?_
          rw [List.length_map, List.length_range] at hi
          rw [aug_get h hi, getD_get (by rw [List.length_map, List.length_range]; exact hi), List.getElem_map, List.getElem_range]
        rw [← this, List.map_map]
        rfl
      rw [this]
      rfl
  have e1 : sPar4 2 0 3 4 (aCons (eArgs (b1 bLen) (aCons (eOp2 fIx (eVar 0) (eC (.int 0))) aNil)) (aCons (eLc true (iRng1 (eArgs (b1 bLen) (aCons (eVar 0) aNil))) (gVar 5) tYesM (eOp2 (fAdd false) (eArgs (b1 (bList false)) (aCons (eOp2 fIx (eVar 0) (eVar 5)) aNil)) (eLst false (aCons (eOp2 fIx (eVar 1) (eVar 5)) aNil))) [5]) (aCons (eLst true aNil) (aCons (eC (.int 0)) aNil)))) [some (.val (.list (A.map rl))), some (.val q), none, none, none, none, none, none, none, none, none] [] = .ok (.nx, lao q n 0 none none none) (lcell ((aug A b).map rl) (il [])) := by
    have p4 : ∀ (a : Am) (ρ : Ro), sPar4 2 0 3 4 a ρ = mB (a ρ) fun ds => match ds with
      | [d, e, f, g] => mP (.nx, (((ρ.set 2 (some d)).set 0 (some e)).set 3 (some f)).set 4 (some g))
      | _ => mStuck := fun a ρ => rfl
    rw [p4]
    clear p4
    walk_at "evh"
    rfl
  obtain ⟨o5, o6, o7, e2⟩ := lcols_loop (r := q) (n := n) (w := n + 1) rfl hX hM (by omega) (by rw [aug_len h]; exact hAl) hr1 hcd n 0 none none none (by omega) (by omega)
  rw [Nat.zero_add, ← List.range_eq_range'] at e2
  have e3 : sFor (iRng1 (eVar 2)) (gVar 5) lcolB (lao q n 0 none none none) (lcell ((aug A b).map rl) (il [])) = .ok (.nx, lao q n (bring (aug A b) n).2.length o5 o6 o7) (lcell ((bring (aug A b) n).1.map rl) (il (bring (aug A b) n).2)) := by
    have i : iRng1 (eVar 2) (lao q n 0 none none none) (lcell ((aug A b).map rl) (il [])) = .ok ((List.range n).map fun (k : Nat) => PyData.int (k : Int)) (lcell ((aug A b).map rl) (il [])) := iRng1_natH rfl (by omega)
    rw [sFor_eq, mB_app i]
    exact e2
  have hsol : solve A b n = if restBad n (bring (aug A b) n).1 (bring (aug A b) n).2.length then none else some (fillX n (bring (aug A b) n).1 (bring (aug A b) n).2) := rfl
  generalize hst : bring (aug A b) n = st at e3 I hsol
  obtain ⟨R, L⟩ := st
  simp only at e3 hsol
  have hRl : R.length = A.length := by have := I.len; rw [aug_len h] at this; exact this
  have hf : L.length ≤ R.length := I.few
  have hrR : Rect (n + 1) R := I.rect
  have ls := lspots (r := q) (n := n) (d := L.length) (pv := il L) (o5 := o5) (o6 := o6) (o7 := o7) hf (by omega) hrR (show n < n + 1 by omega) (eVar 2) (fun k => rfl)
  have hn := fNe_nil (sh_ints (f := fun (k : Nat) => (k : Int)) ((List.range' L.length (R.length - L.length)).filter fun k => decide (ent R k n ≠ 0)))
  have hem : (((List.range' L.length (R.length - L.length)).filter fun k => decide (ent R k n ≠ 0)).map fun (k : Nat) => PyData.int (k : Int)).isEmpty = !restBad n R L.length := by
    rw [List.isEmpty_map]
    exact nil_filter hf
  rw [hem, Bool.not_not] at hn
  have tst : tE (eOp2 fNe (eLc false (iRng2 (eVar 4) (eArgs (b1 bLen) (aCons (eVar 0) aNil))) (gVar 7) (tE (eOp2 fNe (eOp2 fIx (eOp2 fIx (eOp2 fIx (eVar 0) (eVar 7)) (eVar 2)) (eC (.int 0))) (eC (.int 0)))) (eVar 7) [7]) (eLst false aNil)) (lao q n L.length o5 o6 o7) (lcell (R.map rl) (il L)) = .ok (restBad n R L.length) (lcell (R.map rl) (il L)) := by
    unfold lao at ls ⊢
    clear hem e1 e2 e3 c1 f0 l0 hRl h hst hsol
    walk_at "evh"
  rw [hsol]
  by_cases hb : restBad n R L.length = true
  · rw [hb] at tst ⊢
    refine fnV_runs (ρ := lao q n L.length o5 o6 o7) (h' := lcell (R.map rl) (il L)) rfl ?_
    unfold B__law_any
    refine (sCons_nx e1).trans ((sCons_nx e3).trans (sCons_rt ?_))
    unfold sIf
    rw [mB_app tst]
    rfl
  · have hb : restBad n R L.length = false := by simpa using hb
    rw [hb] at tst ⊢
    simp only [Bool.false_eq_true, if_false]
    have z0 : fMul true (.val (.list [fr 0])) (.val (.int (n : Int))) = mNew true ((List.replicate n (0 : Rat)).map fr) := by
      rw [fMul_list (by simp) (by omega), rep_one, List.map_replicate]
    have e4 : sAsg (eOp2 (fMul true) (eLst false (aCons (eTup (aCons (eC (.int 0)) (aCons (eC (.int 1)) aNil))) aNil)) (eVar 2)) (gVar 8) (lao q n L.length o5 o6 o7) (lcell (R.map rl) (il L)) = .ok (.nx, lao8 q n L.length o5 o6 o7) [some (.lst (R.map rl)), some (.lst (il L)), some (.lst ((List.replicate n (0 : Rat)).map fr))] := by
      have f0' : (PyData.tuple [.int 0, .int 1]) = fr 0 := rfl
      unfold lao
      clear e1 e2 e3 ls tst hn hem c1 f0 l0
      walk_at "evh"
      rfl
    obtain ⟨p5, p7, fl⟩ := lfill_loop (r := q) (n := n) (d := L.length) (o6 := o6) hrR (show n < n + 1 by omega) L.zipIdx (List.replicate n 0) o5 o7 (fun p hp => by
      obtain ⟨hp1, hp2⟩ := List.mem_zipIdx' hp
      have a1 : p.1 < n := I.lt p.1 (by rw [hp2]; exact List.getElem_mem hp1)
      rw [List.length_replicate]
      exact ⟨a1, by omega⟩)
    rw [fill_eq hf] at fl
    have fz := mFrz_ref (h := [some (.lst (R.map rl)), some (.lst (il L)), some (.lst ((List.replicate n (0 : Rat)).map fr))]) (n := 1) (xs := il L) rfl
    have e5 : sFor (iEnum (eFrz 3)) (gTup 2 (gsCons (gVar 7) (gsCons (gVar 5) gsNil))) (sAsg (eOp2 fIx (eOp2 fIx (eVar 0) (eVar 7)) (eVar 2)) (gIx (eVar 8) (eVar 5))) (lao8 q n L.length o5 o6 o7) [some (.lst (R.map rl)), some (.lst (il L)), some (.lst ((List.replicate n (0 : Rat)).map fr))] = .ok (.nx, lao8 q n L.length p5 o6 p7) [some (.lst (R.map rl)), none, some (.lst ((fillX n R L).map fr))] := by
      have i : iEnum (eFrz 3) (lao8 q n L.length o5 o6 o7) [some (.lst (R.map rl)), some (.lst (il L)), some (.lst ((List.replicate n (0 : Rat)).map fr))] = .ok ((L.zipIdx).map fun q => .tuple [.int (q.2 : Int), .int (q.1 : Int)]) [some (.lst (R.map rl)), none, some (.lst ((List.replicate n (0 : Rat)).map fr))] := by
        have en : enumD 0 (il L) = (L.zipIdx).map fun q => .tuple [.int (q.2 : Int), .int (q.1 : Int)] := by unfold il; exact enumD_map 0 L
        unfold lao8
        rw [← en]
        clear e1 e2 e3 ls tst hn hem c1 f0 l0 fl
        walk_at "evh"
      rw [sFor_eq, mB_app i]
      exact fl
    refine fnV_runs (ρ := lao8 q n L.length p5 o6 p7) (h' := [some (.lst (R.map rl)), none, none]) rfl ?_
    unfold B__law_any
    refine (sCons_nx e1).trans ((sCons_nx e3).trans ((sCons_nx (ρ' := lao q n L.length o5 o6 o7) (h' := lcell (R.map rl) (il L)) ?_).trans ((sCons_nx e4).trans ((sCons_nx e5).trans ?_))))
    · unfold sIf
      rw [mB_app tst]
      rfl
    · rfl
end GL
set_option Elab.async false
set_option linter.all false
set_option maxRecDepth 100000
set_option maxHeartbeats 4000000
/-! trials with equal spreads and no blocks. -/
namespace GL
open MK PySem PySem.Spec PyProof.Rows L2 LA
local macro_rules | `(tactic| walk_at "ev") => `(tactic| simp only [Option.map_some, Option.map_none, fnV, mCall_rt, mCall_nx, List.length_cons, List.length_nil, Nat.zero_add, Nat.reduceAdd, List.map_cons, List.map_nil, Nat.reduceSub, Nat.sub_self, List.replicate, List.cons_append, List.nil_append, List.append_nil, decide_true, decide_false, guard_t, mB_mP, eVar_z, eVar_s, eC_eq, eOp2_eq, eOp1_eq, aNil_eq, aCons_eq, aStar_eq, eArgs_eq, tE_eq, mBool_eq, mInt_eq, mD_eq, mSeq_t, mSeq_l, mLs_l, mDat_v, tAnd_eq, tOr_eq, tNot_eq, eAnd_eq, eOr_eq, eNot_eq, eIf_eq, eChain_eq, eTup_eq, eLst_eq, mTup0, mTup1, mTup2, mTup3, mLst0, mLst1, mLst2, few_of, Nat.reduceLeDiff, mNew_f, b1_eq, b2_eq, sCons_eq, sNil_eq, sAsg_eq, gVar_eq, eSl_eq, oSome_eq, oNone_eq, sRet_eq, sRetN_eq, sIf_eq, sExpr_eq, sFor_eq, iSeq_eq, mIter_l, mIter_t, iEnum_eq, iZip_eq, iRng1_eq, iRng2_eq, iRngV_eq, bRange1_eq, mRng_eq, noX_mP, noExc_nil, noExc_none, noExc_val, noExc_rng, wipeR, List.set_cons_zero, List.set_cons_succ, tYesM_eq, gTup_eq2, gTup_eq3, eCallI_eq, List.all_cons, List.all_nil, isVal, Bool.and_true, Bool.and_self, Bool.true_and, iso_mP, fIx_fr0, fIx_fr1, fAdd_int, fSub_int, fNeg_int, fLt_int, fLe_int, fGt_int, fGe_int, bGcd_int, bLen_t, bLen_l, bTuple_l, bTuple_t, bList_t, bList_l, sPar_eq, bAbs_int, bIntB_int, if_true, Bool.not_true, Bool.not_false, Bool.false_eq_true, reduceIte, *])
def rt (r : List Rat) : PyData := .tuple (r.map fr)
def ones (k : Nat) : List PyData := List.replicate k (fr 1)
def TRD (S : Mat) : PyData := .tuple [.tuple (S.map rt), .tuple (ones S.length), .tuple []]
def colM (S : Mat) (c : Nat) : List Rat := S.map fun r => r.getD c 0
def gram (n : Nat) (S : Mat) : Mat := (List.range n).map fun i => (List.range n).map fun j => rdot (colM S i) (colM S j)
structure OkS (S : Mat) (n : Nat) : Prop where
  rect : Rect n S
  m0 : 0 < S.length
  m1 : S.length ≤ 10
  n0 : 0 < n
  n1 : n ≤ 5
  hd : ∀ i c, Hd 1 1 (ent S i c)
theorem TRD_0 (S : Mat) : fIx (.val (TRD S)) (.val (.int 0)) = mP (.val (.tuple (S.map rt))) := rfl
theorem TRD_1 (S : Mat) : fIx (.val (TRD S)) (.val (.int 1)) = mP (.val (.tuple (ones S.length))) := rfl
theorem TRD_2 (S : Mat) : fIx (.val (TRD S)) (.val (.int 2)) = mP (.val (.tuple [])) := rfl
theorem row_t {R : Mat} {k : Nat} (hk : k < R.length) : (R.map rt)[k]? = some (rt (R.getD k [])) := by
  rw [getD_get hk]
  exact map_get hk
theorem ones_map (S : Mat) : ones S.length = (List.replicate S.length (1 : Rat)).map fr := by unfold ones; rw [List.map_replicate]
theorem big1 : 1000000 < 2 ^ bE := by decide
theorem sz_small {X d : Nat} {q : Rat} (h : Hd X d q) (d0 : 0 < d) (hX : X ≤ 1000000) (hd : d ≤ 1000000) : Sz q := by
  have := big1
  exact h.sz d0 (by omega) (by omega)
theorem ent_mem' {S : Mat} {n : Nat} (O : OkS S n) {r : List Rat} (hr : r ∈ S) : ∀ x ∈ r, Hd 1 1 x := by
  obtain ⟨k, hk, e⟩ := List.mem_iff_getElem.mp hr
  have := ent_mem (R := S) (k := k) (P := Hd 1 1) (fun j => O.hd k j)
  rw [getD_get hk, e] at this
  exact this
theorem many_unknowns_eq {S : Mat} {n : Nat} (O : OkS S n) : V_many_unknowns [.val (TRD S)] = mP (.val (.int (n : Int))) := by
  have a0 := TRD_0 S
  have a1 : fIx (.val (.tuple (S.map rt))) (.val (.int 0)) = mP (.val (.tuple ((S.getD 0 []).map fr))) := (Sq.t _).ix (k := 0) (row_t O.m0)
  have a2 : bLen (.val (.tuple ((S.getD 0 []).map fr))) = mP (.val (.int (n : Int))) := by rw [bLen_t, List.length_map, getD_row O.rect O.m0]
  clear O
  unfold V_many_unknowns B_many_unknowns
  walk_at "ev"
theorem many_plots_eq (S : Mat) : V_many_plots [.val (TRD S)] = mP (.val (.int (S.length : Nat))) := by
  have a0 := TRD_0 S
  have a2 : bLen (.val (.tuple (S.map rt))) = mP (.val (.int (S.length : Nat))) := by rw [bLen_t, List.length_map]
  unfold V_many_plots B_many_plots
  walk_at "ev"
theorem ne_tnil : fNe (.val (.tuple [])) (.val (.tuple [])) = mP (.val (.bool false)) := fNe_tnil (xs := []) sh_tnil
theorem eq_tnil : fEq (.val (.tuple [])) (.val (.tuple [])) = mP (.val (.bool true)) := fEq_tnil (xs := []) sh_tnil
theorem many_levels_eq (S : Mat) : V_many_levels [.val (TRD S)] = mP (.val (.int 0)) := by
  have a0 := TRD_2 S
  have a1 := ne_tnil
  unfold V_many_levels B_many_levels
  walk_at "ev"
def wd (x : List Rat) : PyData := .tuple [rt x, .tuple []]
/-- what stays small -/
structure XOk (n : Nat) (x : List Rat) : Prop where
  len : x.length = n
  hd : ∃ d : Nat, 0 < d ∧ d ≤ 2 ^ 200 ∧ ∀ c, Hd (2 ^ 200) d (x.getD c 0)
theorem big2 : 2 ^ 1000 < 2 ^ bE := by decide
theorem XOk.sz {n : Nat} {x : List Rat} (h : XOk n x) : ∀ z ∈ x, Sz z := by
  obtain ⟨d, d0, d1, hd⟩ := h.hd
  intro z hz
  obtain ⟨k, hk, e⟩ := List.mem_iff_getElem.mp hz
  have := hd k
  rw [getD_get hk, e] at this
  refine this.sz d0 ?_ ?_
  · exact Nat.lt_trans (by decide) big2
  · exact Nat.lt_of_le_of_lt d1 (Nat.lt_trans (by decide) big2)
theorem mem_zipWith {α β γ : Type} {f : α → β → γ} : ∀ {xs : List α} {ys : List β} {z : γ}, z ∈ List.zipWith f xs ys → ∃ a ∈ xs, ∃ b ∈ ys, z = f a b
  | [], _, _, h => by simp at h
  | _ :: _, [], _, h => by simp at h
  | x :: xs, y :: ys, z, h => by
    rw [List.zipWith_cons_cons] at h
    rcases List.mem_cons.mp h with rfl | h
    · exact ⟨x, List.mem_cons_self, y, List.mem_cons_self, rfl⟩
    · obtain ⟨a, ha, b, hb, e⟩ := mem_zipWith h
      exact ⟨a, List.mem_cons_of_mem _ ha, b, List.mem_cons_of_mem _ hb, e⟩
theorem XOk.mem {n : Nat} {x : List Rat} (h : XOk n x) : ∃ d : Nat, 0 < d ∧ d ≤ 2 ^ 200 ∧ ∀ z ∈ x, Hd (2 ^ 200) d z := by
  obtain ⟨d, d0, d1, hd⟩ := h.hd
  refine ⟨d, d0, d1, fun z hz => ?_⟩
  obtain ⟨k, hk, e⟩ := List.mem_iff_getElem.mp hz
  have := hd k
  rw [getD_get hk, e] at this
  exact this
theorem XOk.prod {n : Nat} {x r : List Rat} (h : XOk n x) (hr : ∀ z ∈ r, Hd 1 1 z) : ∃ d : Nat, 0 < d ∧ d ≤ 2 ^ 200 ∧ ∀ z ∈ List.zipWith (· * ·) r x, Hd (2 ^ 200) d z := by
  obtain ⟨d, d0, d1, hd⟩ := h.mem
  refine ⟨d, d0, d1, fun z hz => ?_⟩
  obtain ⟨a, ha, b, hb, e⟩ := mem_zipWith hz
  rw [e]
  have := (hr a ha).mul (hd b hb)
  rw [Nat.one_mul, Nat.one_mul] at this
  exact this
theorem XOk.sum {n : Nat} {x r : List Rat} (h : XOk n x) (hr : ∀ z ∈ r, Hd 1 1 z) (hl : r.length ≤ 10) : SumOk (List.zipWith (· * ·) r x) := by
  obtain ⟨d, d0, d1, hd⟩ := h.prod hr
  refine SumOk.of d0 hd ?_ (Nat.lt_of_le_of_lt d1 (Nat.lt_trans (by decide) big2))
  refine Nat.lt_of_le_of_lt (Nat.mul_le_mul_right _ (show (List.zipWith (· * ·) r x).length + 1 ≤ 11 by rw [List.length_zipWith]; omega)) (Nat.lt_trans (by decide) big2)
theorem XOk.dot {n : Nat} {x r : List Rat} (h : XOk n x) (hr : ∀ z ∈ r, Hd 1 1 z) (hl : r.length ≤ 10) : ∃ d : Nat, 0 < d ∧ d ≤ 2 ^ 200 ∧ Hd (2 ^ 210) d (rdot r x) := by
  obtain ⟨d, d0, d1, hd⟩ := h.prod hr
  refine ⟨d, d0, d1, (Hd.rsum hd).mono ?_⟩
  exact Nat.le_trans (Nat.mul_le_mul_right _ (show (List.zipWith (· * ·) r x).length ≤ 10 by rw [List.length_zipWith]; omega)) (by decide)
theorem h1_sz {r : List Rat} (h : ∀ z ∈ r, Hd 1 1 z) : ∀ z ∈ r, Sz z := fun z hz => sz_small (h z hz) (by omega) (by omega) (by omega)
theorem yield_by_eq {S : Mat} {n p : Nat} {x : List Rat} (O : OkS S n) (hp : p < S.length) (hx : XOk n x) : V_yield_by [.val (TRD S), .val (.int (p : Int)), .val (wd x)] = mP (.val (fr (rdot (S.getD p []) x))) := by
  have a0 := TRD_0 S
  have a2 := TRD_2 S
  have a1 : fIx (.val (.tuple (S.map rt))) (.val (.int (p : Int))) = mP (.val (rt (S.getD p []))) := (Sq.t _).ix (row_t hp)
  have w0 : fIx (.val (wd x)) (.val (.int 0)) = mP (.val (rt x)) := rfl
  have hm := ent_mem' O (r := S.getD p []) (by rw [getD_get hp]; exact List.getElem_mem hp)
  have hl := getD_row O.rect hp
  have d := dot_eq (p := rt (S.getD p [])) (q := rt x) (Sq.t _) (Sq.t _) (h1_sz hm) hx.sz (by have := O.n1; omega) (hx.sum hm (by have := O.n1; omega))
  have e := ne_tnil
  clear hl hm O hx
  unfold V_yield_by B_yield_by
  walk_at "ev"
theorem range_map {α β : Type} (z : α) (f : α → β) (S : List α) : (List.range S.length).map (fun p => f (S.getD p z)) = S.map f := by
  refine List.ext_getElem (by simp) fun i h1 h2 => ?_
  rw [List.length_map, List.length_range] at h1
  rw [List.getElem_map, List.getElem_range, List.getElem_map, getD_get h1]
theorem yields_by_eq {S : Mat} {n : Nat} {x : List Rat} (O : OkS S n) (hx : XOk n x) : V_yields_by [.val (TRD S), .val (wd x)] = mP (.val (.tuple (S.map fun r => fr (rdot r x)))) := by
  have m := many_plots_eq S
  have c : eLc false (iRng1 (eCallI V_many_plots (aCons (eVar 0) aNil))) (gVar 2) tYesM (eCallI V_yield_by (aCons (eVar 0) (aCons (eVar 2) (aCons (eVar 1) aNil)))) [2] [some (.val (TRD S)), some (.val (wd x)), none] = mP (.val (.list ((List.range S.length).map fun p => fr (rdot (S.getD p []) x)))) := by
    refine eLc_map (xs := List.range S.length) (f := fun (k : Nat) => PyData.int (k : Int)) (ρ' := fun k => [some (.val (TRD S)), some (.val (wd x)), some (.val (.int (k : Int)))]) (iRng1_nat (by walk_at "ev") (by have := O.m1; omega)) (by rw [List.length_range]; have := O.m1; omega) rfl (fun k _ => rfl) (fun k _ => rfl) (fun k hk => ?_)
    have y := yield_by_eq O (List.mem_range.mp hk) hx
    walk_at "ev"
  rw [range_map [] (fun r => fr (rdot r x)) S] at c
  unfold V_yields_by B_yields_by
  walk_at "ev"
theorem whole_rows_eq {S : Mat} {n : Nat} (O : OkS S n) : V_whole_rows [.val (TRD S)] = mP (.val (.list (S.map rl))) := by
  have m := many_levels_eq S
  have a0 := TRD_0 S
  have c : eLc false (iEnum (eOp2 fIx (eVar 0) (eC (.int 0)))) (gTup 2 (gsCons (gVar 2) (gsCons (gVar 3) gsNil))) tYesM (eLst false (aStar (eVar 3) (aStar (eLc false (iRngV (eVar 1)) (gVar 4) tYesM (eIf (tE (eOp2 fEq (eOp2 fIx (eOp2 fIx (eVar 0) (eC (.int 2))) (eVar 2)) (eVar 4))) (eC (.tuple [.int 1, .int 1])) (eC (.tuple [.int 0, .int 1]))) [4]) aNil))) [2, 3] [some (.val (TRD S)), some (.rng 0 0), none, none, none] = mP (.val (.list (S.zipIdx.map fun q => rl q.1))) := by
    refine eLc_map (xs := S.zipIdx) (f := fun q => .tuple [.int (q.2 : Nat), rt q.1]) (ρ' := fun q => [some (.val (TRD S)), some (.rng 0 0), some (.val (.int (q.2 : Nat))), some (.val (rt q.1)), none]) ?_ (by rw [List.length_zipIdx]; have := O.m1; omega) rfl (fun q _ => rfl) (fun q _ => rfl) (fun q hq => ?_)
    · walk_at "ev"
      rw [enumD_map]
    · have c2 : eLc false (iRngV (eVar 1)) (gVar 4) tYesM (eIf (tE (eOp2 fEq (eOp2 fIx (eOp2 fIx (eVar 0) (eC (.int 2))) (eVar 2)) (eVar 4))) (eC (.tuple [.int 1, .int 1])) (eC (.tuple [.int 0, .int 1]))) [4] [some (.val (TRD S)), some (.rng 0 0), some (.val (.int (q.2 : Nat))), some (.val (rt q.1)), none] = mP (.val (.list [])) := rfl
      have sq := (Sq.t (q.1.map fr)).seq
      have hl : q.1.length ≤ 5 := by
        have := O.rect q.1 (List.fst_mem_of_mem_zipIdx hq)
        have := O.n1
        omega
      have fw : few ((q.1.map fr).map SV.val) = mP () := few_of (by simp; omega)
      have ml := mLst_f (datas_map (q.1.map fr))
      unfold rl rt at *
      clear O hl
      walk_at "ev"
  have z : S.zipIdx.map (fun q => rl q.1) = S.map rl := by
    have : (S.zipIdx.map Prod.fst).map rl = S.map rl := by rw [List.zipIdx_map_fst]
    rw [List.map_map] at this
    exact this
  rw [z] at c
  unfold V_whole_rows B_whole_rows
  walk_at "ev"
theorem whole_question_eq {S : Mat} {b : List Rat} (hb : b.length ≤ 100) : V_whole_question [.val (TRD S), .val (rt b)] = mP (.val (rl b)) := by
  have m := many_levels_eq S
  have z0 : fMul false (.val (.list [.tuple [.int 0, .int 1]])) (.val (.int 0)) = mP (.val (.list [])) := rfl
  have sq := (Sq.t (b.map fr)).seq
  have fw : few ((b.map fr).map SV.val) = mP () := few_of (by simp; omega)
  have ml := mLst_f (datas_map (b.map fr))
  unfold V_whole_question B_whole_question rt rl
  walk_at "ev"
theorem parted_world_eq {S : Mat} {n : Nat} {x : List Rat} (O : OkS S n) (hx : x.length = n) : V_parted_world [.val (TRD S), .val (rl x)] = mP (.val (wd x)) := by
  have m := many_unknowns_eq O
  have s1 := fSl_l (x.map fr) none (some (n : Int))
  have s2 := fSl_l (x.map fr) (some (n : Int)) none
  rw [cutD_take, List.take_of_length_le (by rw [List.length_map]; omega)] at s1
  rw [cutD_drop, List.drop_eq_nil_of_le (by rw [List.length_map]; omega)] at s2
  clear hx O
  unfold V_parted_world B_parted_world rl wd rt
  walk_at "ev"
end GL
set_option Elab.async false
set_option linter.all false
set_option maxRecDepth 100000
set_option maxHeartbeats 4000000
/-! normal rows, best tellings in the program. -/
namespace GL
open MK PySem PySem.Spec PyProof.Rows L2 LA
local macro_rules | `(tactic| walk_at "ev") => `(tactic| simp only [Option.map_some, Option.map_none, fnV, mCall_rt, mCall_nx, List.length_cons, List.length_nil, Nat.zero_add, Nat.reduceAdd, List.map_cons, List.map_nil, Nat.reduceSub, Nat.sub_self, List.replicate, List.cons_append, List.nil_append, List.append_nil, decide_true, decide_false, guard_t, mB_mP, eVar_z, eVar_s, eC_eq, eOp2_eq, eOp1_eq, aNil_eq, aCons_eq, aStar_eq, eArgs_eq, tE_eq, mBool_eq, mInt_eq, mD_eq, mSeq_t, mSeq_l, mLs_l, mDat_v, tAnd_eq, tOr_eq, tNot_eq, eAnd_eq, eOr_eq, eNot_eq, eIf_eq, eChain_eq, eTup_eq, eLst_eq, mTup0, mTup1, mTup2, mTup3, mLst0, mLst1, mLst2, few_of, Nat.reduceLeDiff, mNew_f, b1_eq, b2_eq, sCons_eq, sNil_eq, sAsg_eq, gVar_eq, eSl_eq, oSome_eq, oNone_eq, sRet_eq, sRetN_eq, sIf_eq, sExpr_eq, sFor_eq, iSeq_eq, mIter_l, mIter_t, iEnum_eq, iZip_eq, iRng1_eq, iRng2_eq, iRngV_eq, bRange1_eq, mRng_eq, noX_mP, noExc_nil, noExc_none, noExc_val, noExc_rng, wipeR, List.set_cons_zero, List.set_cons_succ, tYesM_eq, gTup_eq2, gTup_eq3, eCallI_eq, List.all_cons, List.all_nil, isVal, Bool.and_true, Bool.and_self, Bool.true_and, iso_mP, fIx_fr0, fIx_fr1, fAdd_int, fSub_int, fNeg_int, fLt_int, fLe_int, fGt_int, fGe_int, bGcd_int, bLen_t, bLen_l, bTuple_l, bTuple_t, bList_t, bList_l, sPar_eq, bAbs_int, bIntB_int, if_true, Bool.not_true, Bool.not_false, Bool.false_eq_true, reduceIte, *])
def unitR (n k : Nat) : List Rat := (List.range n).map fun j => if j = k then 1 else 0
theorem colM_len (S : Mat) (c : Nat) : (colM S c).length = S.length := List.length_map ..
theorem colM_get {S : Mat} {c p : Nat} (hp : p < S.length) : (colM S c).getD p 0 = ent S p c := by
  unfold colM ent
  rw [getD_get (by rw [List.length_map]; exact hp), List.getElem_map, getD_get hp]
theorem colM_hd {S : Mat} {n : Nat} (O : OkS S n) (c : Nat) : ∀ z ∈ colM S c, Hd 1 1 z := by
  intro z hz
  obtain ⟨p, hp, e⟩ := List.mem_iff_getElem.mp hz
  rw [← getD_get (z := (0 : Rat)) hp, colM_get (by rw [colM_len] at hp; exact hp)] at e
  rw [← e]
  exact O.hd p c
theorem turned_eq {S : Mat} {n : Nat} (O : OkS S n) : V_turned [.val (.list (S.map rl))] = mP (.val (.list ((List.range n).map fun c => rl (colM S c)))) := by
  have a1 : fIx (.val (.list (S.map rl))) (.val (.int 0)) = mP (.val (.list ((S.getD 0 []).map fr))) := (Sq.l _).ix (k := 0) (row_at O.m0)
  have a2 : bLen (.val (.list ((S.getD 0 []).map fr))) = mP (.val (.int (n : Int))) := by rw [bLen_l, List.length_map, getD_row O.rect O.m0]
  have c : eLc false (iRng1 (eArgs (b1 bLen) (aCons (eOp2 fIx (eVar 0) (eC (.int 0))) aNil))) (gVar 1) tYesM (eLc false (iSeq (eVar 0)) (gVar 2) tYesM (eOp2 fIx (eVar 2) (eVar 1)) [2]) [1] [some (.val (.list (S.map rl))), none, none] = mP (.val (.list ((List.range n).map fun c => rl (colM S c)))) := by
    refine eLc_map (xs := List.range n) (f := fun (k : Nat) => PyData.int (k : Int)) (ρ' := fun k => [some (.val (.list (S.map rl))), some (.val (.int (k : Int))), none]) (iRng1_nat (by clear O; walk_at "ev") (by have := O.n1; omega)) (by rw [List.length_range]; have := O.n1; omega) rfl (fun k _ => rfl) (fun k _ => rfl) (fun k hk => ?_)
    have hk := List.mem_range.mp hk
    have c2 : eLc false (iSeq (eVar 0)) (gVar 2) tYesM (eOp2 fIx (eVar 2) (eVar 1)) [2] [some (.val (.list (S.map rl))), some (.val (.int (k : Int))), none] = mP (.val (.list (S.map fun r => fr (r.getD k 0)))) := by
      refine eLc_map (xs := S) (f := rl) (ρ' := fun r => [some (.val (.list (S.map rl))), some (.val (.int (k : Int))), some (.val (rl r))]) rfl (by have := O.m1; omega) rfl (fun r _ => rfl) (fun r _ => rfl) (fun r hr => ?_)
      have := (Sq.l (r.map fr)).ixR (show k < r.length by rw [O.rect r hr]; exact hk)
      unfold rl
      clear a1 a2
      walk_at "ev"
    rw [c2]
    unfold rl colM
    rw [List.map_map]
    rfl
  clear O
  unfold V_turned B_turned
  walk_at "ev"
theorem zipD3_map {α β γ : Type} {f : α → PyData} {g : β → PyData} {k : γ → PyData} : ∀ (xs : List α) (ys : List β) (zs : List γ), zipD3 (xs.map f) (ys.map g) (zs.map k) = (xs.zip (ys.zip zs)).map fun q => .tuple [f q.1, g q.2.1, k q.2.2]
  | [], _, _ => by simp [zipD3]
  | _ :: _, [], _ => by simp [zipD3]
  | _ :: _, _ :: _, [] => by simp [zipD3]
  | x :: xs, y :: ys, z :: zs => by
    simp only [List.map_cons, List.zip_cons_cons]
    rw [← zipD3_map xs ys zs]
    rfl
theorem iZip3_eq (a b c : Em) (ρ : Ro) : iZip3 a b c ρ = mB (a ρ) fun d => mB (b ρ) fun e => mB (c ρ) fun f => mB (mIter d) fun xs => mB (mIter e) fun ys => mB (mIter f) fun zs => mP (zipD3 xs ys zs) := rfl
theorem div_one' (a : Rat) : a / 1 = a := by grind
theorem hd1 : Hd 1 1 1 := Hd.int (i := 1) rfl (by decide)
theorem h1_sum {xs : List Rat} (h : ∀ x ∈ xs, Hd 1 1 x) (hl : xs.length ≤ 1000) : SumOk xs := by
  have := big1
  exact SumOk.of (X := 1) (d := 1) (by omega) h (by omega) (by omega)
theorem h1_prod {xs ys : List Rat} (hx : ∀ x ∈ xs, Hd 1 1 x) (hy : ∀ x ∈ ys, Hd 1 1 x) : ∀ z ∈ List.zipWith (· * ·) xs ys, Hd 1 1 z := by
  intro z hz
  obtain ⟨a, ha, b, hb, e⟩ := mem_zipWith hz
  rw [e]
  exact (hx a ha).mul (hy b hb)
theorem gram_cell {one two : List Rat} {p p' : PyData} {m : Nat} (h1 : one.length = m) (h2 : two.length = m) (hm : m ≤ 10) (H1 : ∀ x ∈ one, Hd 1 1 x) (H2 : ∀ x ∈ two, Hd 1 1 x) (S : Mat) (hS : S.length = m) :
    eCallI V_total (aCons (eLc false (iZip3 (eVar 3) (eVar 4) (eOp2 fIx (eVar 0) (eC (.int 1)))) (gTup 3 (gsCons (gVar 5) (gsCons (gVar 6) (gsCons (gVar 7) gsNil)))) tYesM (eCallI V_over (aCons (eCallI V_times (aCons (eVar 5) (aCons (eVar 6) aNil))) (aCons (eVar 7) aNil))) [5, 6, 7]) aNil) [some (.val (TRD S)), some (.val p), some (.val p'), some (.val (rl one)), some (.val (rl two)), none, none, none] = mP (.val (fr (rdot one two))) := by
  have a0 := TRD_1 S
  have c : eLc false (iZip3 (eVar 3) (eVar 4) (eOp2 fIx (eVar 0) (eC (.int 1)))) (gTup 3 (gsCons (gVar 5) (gsCons (gVar 6) (gsCons (gVar 7) gsNil)))) tYesM (eCallI V_over (aCons (eCallI V_times (aCons (eVar 5) (aCons (eVar 6) aNil))) (aCons (eVar 7) aNil))) [5, 6, 7] [some (.val (TRD S)), some (.val p), some (.val p'), some (.val (rl one)), some (.val (rl two)), none, none, none] = mP (.val (.list ((one.zip (two.zip (List.replicate m (1 : Rat)))).map fun q => fr (q.1 * q.2.1)))) := by
    refine eLc_map (xs := one.zip (two.zip (List.replicate m (1 : Rat)))) (f := fun q => .tuple [fr q.1, fr q.2.1, fr q.2.2]) (ρ' := fun q => [some (.val (TRD S)), some (.val p), some (.val p'), some (.val (rl one)), some (.val (rl two)), some (.val (fr q.1)), some (.val (fr q.2.1)), some (.val (fr q.2.2))]) ?_ (by rw [List.length_zip]; omega) rfl (fun q _ => rfl) (fun q _ => rfl) (fun q hq => ?_)
    · have i1 := (Sq.l (one.map fr)).iter
      have i2 := (Sq.l (two.map fr)).iter
      have i3 := (Sq.t (ones S.length)).iter
      have z := zipD3_map (f := fr) (g := fr) (k := fr) one two (List.replicate m (1 : Rat))
      rw [← hS, ← ones_map] at z
      rw [← hS, ← z]
      unfold rl
      clear h1 h2 hS z
      simp only [iZip3_eq]
      walk_at "ev"
    · have q1 := (List.of_mem_zip hq).1
      have q2 := (List.of_mem_zip (List.of_mem_zip hq).2).1
      have q3 := (List.mem_replicate.mp (List.of_mem_zip (List.of_mem_zip hq).2).2).2
      have s1 := H1 _ q1
      have s2 := H2 _ q2
      have t := times_eq (sz_small s1 (by omega) (by omega) (by omega)) (sz_small s2 (by omega) (by omega) (by omega))
      have o := over_eq (sz_small (s1.mul s2) (by omega) (by omega) (by omega)) (sz_small hd1 (by omega) (by omega) (by omega)) (by decide : (1 : Rat) ≠ 0)
      rw [div_one'] at o
      rw [q3]
      clear h1 h2 hS
      walk_at "ev"
  have e : ((one.zip (two.zip (List.replicate m (1 : Rat)))).map fun q => fr (q.1 * q.2.1)) = (List.zipWith (· * ·) one two).map fr := by
    refine List.ext_getElem (by simp [h1, h2]) fun i q1 q2 => ?_
    simp
  rw [e] at c
  have t := total_eq (Sq.l _) (h1_sum (h1_prod H1 H2) (by rw [List.length_zipWith]; omega))
  clear e h1 h2 hS
  walk_at "ev"
  rfl
theorem normal_rows_eq {S : Mat} {n : Nat} (O : OkS S n) : V_normal_rows [.val (TRD S)] = mP (.val (.list ((gram n S).map rl))) := by
  have w := whole_rows_eq O
  have t := turned_eq O
  have c : eLc false (iSeq (eVar 2)) (gVar 3) tYesM (eLc false (iSeq (eVar 2)) (gVar 4) tYesM (eCallI V_total (aCons (eLc false (iZip3 (eVar 3) (eVar 4) (eOp2 fIx (eVar 0) (eC (.int 1)))) (gTup 3 (gsCons (gVar 5) (gsCons (gVar 6) (gsCons (gVar 7) gsNil)))) tYesM (eCallI V_over (aCons (eCallI V_times (aCons (eVar 5) (aCons (eVar 6) aNil))) (aCons (eVar 7) aNil))) [5, 6, 7]) aNil)) [4]) [3] [some (.val (TRD S)), some (.val (.list (S.map rl))), some (.val (.list ((List.range n).map fun c => rl (colM S c)))), none, none, none, none, none] = mP (.val (.list ((List.range n).map fun i => rl ((List.range n).map fun j => rdot (colM S i) (colM S j))))) := by
    refine eLc_map (xs := List.range n) (f := fun c => rl (colM S c)) (ρ' := fun i => [some (.val (TRD S)), some (.val (.list (S.map rl))), some (.val (.list ((List.range n).map fun c => rl (colM S c)))), some (.val (rl (colM S i))), none, none, none, none]) rfl (by rw [List.length_range]; have := O.n1; omega) rfl (fun r _ => rfl) (fun r _ => rfl) (fun i _ => ?_)
    have c2 : eLc false (iSeq (eVar 2)) (gVar 4) tYesM (eCallI V_total (aCons (eLc false (iZip3 (eVar 3) (eVar 4) (eOp2 fIx (eVar 0) (eC (.int 1)))) (gTup 3 (gsCons (gVar 5) (gsCons (gVar 6) (gsCons (gVar 7) gsNil)))) tYesM (eCallI V_over (aCons (eCallI V_times (aCons (eVar 5) (aCons (eVar 6) aNil))) (aCons (eVar 7) aNil))) [5, 6, 7]) aNil)) [4] [some (.val (TRD S)), some (.val (.list (S.map rl))), some (.val (.list ((List.range n).map fun c => rl (colM S c)))), some (.val (rl (colM S i))), none, none, none, none] = mP (.val (.list ((List.range n).map fun j => fr (rdot (colM S i) (colM S j))))) := by
      refine eLc_map (xs := List.range n) (f := fun c => rl (colM S c)) (ρ' := fun j => [some (.val (TRD S)), some (.val (.list (S.map rl))), some (.val (.list ((List.range n).map fun c => rl (colM S c)))), some (.val (rl (colM S i))), some (.val (rl (colM S j))), none, none, none]) rfl (by rw [List.length_range]; have := O.n1; omega) rfl (fun r _ => rfl) (fun r _ => rfl) (fun j _ => ?_)
      exact gram_cell (colM_len S i) (colM_len S j) O.m1 (colM_hd O i) (colM_hd O j) S rfl
    rw [c2]
    unfold rl
    rw [List.map_map]
    rfl
  have e : ((List.range n).map fun i => rl ((List.range n).map fun j => rdot (colM S i) (colM S j))) = (gram n S).map rl := by unfold gram; rw [List.map_map]; rfl
  rw [e] at c
  unfold V_normal_rows B_normal_rows
  clear O e
  walk_at "ev"
theorem unitR_len (n k : Nat) : (unitR n k).length = n := by unfold unitR; rw [List.length_map, List.length_range]
theorem unitR_get {n k j : Nat} (hj : j < n) : (unitR n k).getD j 0 = if j = k then 1 else 0 := by
  unfold unitR
  rw [getD_get (by rw [List.length_map, List.length_range]; exact hj), List.getElem_map, List.getElem_range]
theorem gram_len (n : Nat) (S : Mat) : (gram n S).length = n := by unfold gram; rw [List.length_map, List.length_range]
theorem gram_rect (n : Nat) (S : Mat) : Rect n (gram n S) := by
  intro r hr
  unfold gram at hr
  obtain ⟨i, _, rfl⟩ := List.mem_map.mp hr
  rw [List.length_map, List.length_range]
theorem gram_ent {n : Nat} {S : Mat} {i j : Nat} (hi : i < n) (hj : j < n) : ent (gram n S) i j = rdot (colM S i) (colM S j) := by
  unfold ent gram
  rw [getD_get (show i < _ by rw [List.length_map, List.length_range]; exact hi), List.getElem_map, List.getElem_range, getD_get (show j < _ by rw [List.length_map, List.length_range]; exact hj), List.getElem_map, List.getElem_range]
theorem gram_cd {S : Mat} {n : Nat} (O : OkS S n) (k : Nat) : CD 16 (aug (gram n S) (unitR n k)) := by
  have hl : (gram n S).length = (unitR n k).length := by rw [gram_len, unitR_len]
  refine ⟨1, by omega, by omega, fun i c hi => ?_⟩
  rw [aug_len hl, gram_len] at hi
  rw [aug_ent hl (gram_rect n S) (by rw [gram_len]; exact hi)]
  have z : Hd 16 1 0 := Hd.zero 16 1
  have o : Hd 16 1 1 := hd1.mono (by omega)
  by_cases h1 : c < n
  · rw [if_pos h1, gram_ent hi h1]
    have := Hd.rsum (h1_prod (colM_hd O i) (colM_hd O c))
    refine this.mono ?_
    rw [List.length_zipWith, colM_len, colM_len]
    have := O.m1
    omega
  · rw [if_neg h1]
    by_cases h2 : c = n
    · rw [if_pos h2, unitR_get hi]
      split
      · exact o
      · exact z
    · rw [if_neg h2]
      exact z
theorem grow16 {n : Nat} (h : n ≤ 5) : grow 16 n ≤ 2 ^ 200 := by
  have a := (grow_le (X := 16) (by decide) h).1
  have b : grow 16 5 ≤ 2 ^ 200 := by decide
  omega
theorem pow200 : 2 ^ 200 < 2 ^ bE := Nat.lt_trans (by decide) big2
theorem sol_ok {S : Mat} {n k : Nat} {x : List Rat} (O : OkS S n) (e : solve (gram n S) (unitR n k) n = some x) : XOk n x := by
  have hl : (gram n S).length = (unitR n k).length := by rw [gram_len, unitR_len]
  obtain ⟨d, d0, d1, hd⟩ := solve_hd hl (gram_rect n S) (gram_cd O k) e
  have g := grow16 O.n1
  exact ⟨(solve_some hl (gram_rect n S) e).1, d, d0, Nat.le_trans d1 g, fun c => (hd c).mono g⟩
theorem lone_question_eq {n k : Nat} (hn : n ≤ 100) : V_lone_question [.val (.int (n : Int)), .val (.int (k : Int))] = mP (.val (rt (unitR n k))) := by
  have c : eLc false (iRng1 (eVar 0)) (gVar 2) tYesM (eIf (tE (eOp2 fEq (eVar 2) (eVar 1))) (eC (.tuple [.int 1, .int 1])) (eC (.tuple [.int 0, .int 1]))) [2] [some (.val (.int (n : Int))), some (.val (.int (k : Int))), none] = mP (.val (.list ((List.range n).map fun j => fr (if j = k then 1 else 0)))) := by
    refine eLc_map (xs := List.range n) (f := fun (k : Nat) => PyData.int (k : Int)) (ρ' := fun j => [some (.val (.int (n : Int))), some (.val (.int (k : Int))), some (.val (.int (j : Int)))]) (iRng1_nat rfl (by omega)) (by rw [List.length_range]; omega) rfl (fun k _ => rfl) (fun k _ => rfl) (fun j hj => ?_)
    have f := fEq_int (j : Int) (k : Int)
    by_cases h : j = k
    · rw [decide_eq_true (show ((j : Nat) : Int) = (k : Int) by omega)] at f
      rw [if_pos h, ← fr_one]
      clear h
      walk_at "ev"
    · rw [decide_eq_false (show ¬ ((j : Nat) : Int) = (k : Int) by omega)] at f
      rw [if_neg h, ← fr_zero]
      clear h
      walk_at "ev"
  have e : ((List.range n).map fun j => fr (if j = k then 1 else 0)) = (unitR n k).map fr := by unfold unitR; rw [List.map_map]; rfl
  rw [e] at c
  unfold V_lone_question B_lone_question rt
  walk_at "ev"
def answ (S : Mat) (n k : Nat) : List (List Rat) := match solve (gram n S) (unitR n k) n with
  | none => []
  | some x => [x]
theorem answ_ok {S : Mat} {n k : Nat} {x : List Rat} (O : OkS S n) (h : x ∈ answ S n k) : XOk n x := by
  unfold answ at h
  split at h
  · cases h
  · rename_i y e
    rw [List.mem_singleton] at h
    rw [h]
    exact sol_ok O e
theorem load_by_eq {S : Mat} {n k : Nat} (O : OkS S n) : V_load_by [.val (TRD S), .val (rt (unitR n k))] = mP (.val (.list ((answ S n k).map wd))) := by
  have nr := normal_rows_eq O
  have wq := whole_question_eq (S := S) (b := unitR n k) (by rw [unitR_len]; have := O.n1; omega)
  have hl : (gram n S).length = (unitR n k).length := by rw [gram_len, unitR_len]
  have r := some_answer_runs (q := rl (unitR n k)) (Sq.l _) hl (by rw [gram_len]; exact O.n0) (by rw [gram_len]; have := O.n1; omega) (gram_rect n S) (by have := O.n1; omega) (show 0 < 16 by omega) (Nat.lt_of_le_of_lt (grow16 O.n1) pow200) (gram_cd O k)
  have r2 : MK.Runs V_some_answer [.val (.list ((gram n S).map rl)), .val (rl (unitR n k))] (.list ((answ S n k).map rl)) := by
    unfold answ
    cases hs : solve (gram n S) (unitR n k) n with
    | none => rw [hs] at r; exact r
    | some x => rw [hs] at r; exact r
  have r := iso_of r2
  have c : eLc false (iSeq (eVar 2)) (gVar 3) tYesM (eCallI V_parted_world (aCons (eVar 0) (aCons (eVar 3) aNil))) [3] [some (.val (TRD S)), some (.val (rt (unitR n k))), some (.val (.list ((answ S n k).map rl))), none] = mP (.val (.list ((answ S n k).map wd))) := by
    refine eLc_map (xs := answ S n k) (f := rl) (ρ' := fun x => [some (.val (TRD S)), some (.val (rt (unitR n k))), some (.val (.list ((answ S n k).map rl))), some (.val (rl x))]) rfl (by unfold answ; split <;> simp) rfl (fun k _ => rfl) (fun k _ => rfl) (fun x hx => ?_)
    have pw := parted_world_eq O (answ_ok O hx).len
    clear r r2 wq nr
    walk_at "ev"
  unfold V_load_by B_load_by
  clear r2 hl O
  walk_at "ev"
def wts (S : Mat) (x : List Rat) : List Rat := S.map fun r => rdot r x
theorem wts_sz {S : Mat} {n : Nat} {x : List Rat} (O : OkS S n) (hx : XOk n x) {r : List Rat} (hr : r ∈ S) : Sz (rdot r x) := by
  obtain ⟨d, d0, d1, hd⟩ := hx.dot (ent_mem' O hr) (by rw [O.rect r hr]; have := O.n1; omega)
  exact hd.sz d0 (Nat.lt_trans (by decide) big2) (Nat.lt_of_le_of_lt d1 pow200)
theorem loaded_eq {S : Mat} {n : Nat} {x : List Rat} (O : OkS S n) (hx : XOk n x) : V_loaded [.val (TRD S), .val (wd x)] = mP (.val (rt (wts S x))) := by
  have y := yields_by_eq O hx
  have a1 := TRD_1 S
  have c : eLc false (iZip (eCallI V_yields_by (aCons (eVar 0) (aCons (eVar 1) aNil))) (eOp2 fIx (eVar 0) (eC (.int 1)))) (gTup 2 (gsCons (gVar 2) (gsCons (gVar 3) gsNil))) tYesM (eCallI V_over (aCons (eVar 2) (aCons (eVar 3) aNil))) [2, 3] [some (.val (TRD S)), some (.val (wd x)), none, none] = mP (.val (.list ((S.zip (List.replicate S.length (1 : Rat))).map fun q => fr (rdot q.1 x)))) := by
    refine eLc_map (xs := S.zip (List.replicate S.length (1 : Rat))) (f := fun q => .tuple [fr (rdot q.1 x), fr q.2]) (ρ' := fun q => [some (.val (TRD S)), some (.val (wd x)), some (.val (fr (rdot q.1 x))), some (.val (fr q.2))]) ?_ (by rw [List.length_zip]; have := O.m1; omega) rfl (fun k _ => rfl) (fun k _ => rfl) (fun q hq => ?_)
    · have z := zipD_map (f := fun r => fr (rdot r x)) (g := fr) S (List.replicate S.length (1 : Rat))
      rw [← ones_map] at z
      rw [← z]
      clear O hx z
      walk_at "ev"
    · have q1 := (List.of_mem_zip hq).1
      have q2 := (List.mem_replicate.mp (List.of_mem_zip hq).2).2
      have o := over_eq (wts_sz O hx q1) (sz_small hd1 (by omega) (by omega) (by omega)) (by decide : (1 : Rat) ≠ 0)
      rw [div_one'] at o
      rw [q2]
      clear O hx y
      walk_at "ev"
  have e : ((S.zip (List.replicate S.length (1 : Rat))).map fun q => fr (rdot q.1 x)) = (wts S x).map fr := by
    unfold wts
    refine List.ext_getElem (by simp) fun i q1 q2 => ?_
    simp
  rw [e] at c
  clear O hx e
  unfold V_loaded B_loaded rt
  walk_at "ev"
theorem best_by_eq {S : Mat} {n k : Nat} (O : OkS S n) : V_best_by [.val (TRD S), .val (rt (unitR n k))] = mP (.val (.list ((answ S n k).map fun x => rt (wts S x)))) := by
  have l := load_by_eq (k := k) O
  have c : eLc false (iSeq (eCallI V_load_by (aCons (eVar 0) (aCons (eVar 1) aNil)))) (gVar 2) tYesM (eCallI V_loaded (aCons (eVar 0) (aCons (eVar 2) aNil))) [2] [some (.val (TRD S)), some (.val (rt (unitR n k))), none] = mP (.val (.list ((answ S n k).map fun x => rt (wts S x)))) := by
    refine eLc_map (xs := answ S n k) (f := wd) (ρ' := fun x => [some (.val (TRD S)), some (.val (rt (unitR n k))), some (.val (wd x))]) (by clear O; walk_at "ev") (by unfold answ; split <;> simp) rfl (fun k _ => rfl) (fun k _ => rfl) (fun x hx => ?_)
    have pw := loaded_eq O (answ_ok O hx)
    clear l O
    walk_at "ev"
  unfold V_best_by B_best_by
  clear O l
  walk_at "ev"
end GL
set_option Elab.async false
set_option linter.all false
set_option maxRecDepth 100000
set_option maxHeartbeats 4000000
/-! the law's table and weights. -/
namespace GL
open MK PySem PySem.Spec PyProof.Rows L2 LA
local macro_rules | `(tactic| walk_at "ev") => `(tactic| simp only [Option.map_some, Option.map_none, fnV, mCall_rt, mCall_nx, List.length_cons, List.length_nil, Nat.zero_add, Nat.reduceAdd, List.map_cons, List.map_nil, Nat.reduceSub, Nat.sub_self, List.replicate, List.cons_append, List.nil_append, List.append_nil, decide_true, decide_false, guard_t, mB_mP, eVar_z, eVar_s, eC_eq, eOp2_eq, eOp1_eq, aNil_eq, aCons_eq, aStar_eq, eArgs_eq, tE_eq, mBool_eq, mInt_eq, mD_eq, mSeq_t, mSeq_l, mLs_l, mDat_v, tAnd_eq, tOr_eq, tNot_eq, eAnd_eq, eOr_eq, eNot_eq, eIf_eq, eChain_eq, eTup_eq, eLst_eq, mTup0, mTup1, mTup2, mTup3, mLst0, mLst1, mLst2, few_of, Nat.reduceLeDiff, mNew_f, b1_eq, b2_eq, sCons_eq, sNil_eq, sAsg_eq, gVar_eq, eSl_eq, oSome_eq, oNone_eq, sRet_eq, sRetN_eq, sIf_eq, sExpr_eq, sFor_eq, iSeq_eq, mIter_l, mIter_t, iEnum_eq, iZip_eq, iRng1_eq, iRng2_eq, iRngV_eq, bRange1_eq, mRng_eq, noX_mP, noExc_nil, noExc_none, noExc_val, noExc_rng, wipeR, List.set_cons_zero, List.set_cons_succ, tYesM_eq, gTup_eq2, gTup_eq3, eCallI_eq, List.all_cons, List.all_nil, isVal, Bool.and_true, Bool.and_self, Bool.true_and, iso_mP, fIx_fr0, fIx_fr1, fAdd_int, fSub_int, fNeg_int, fLt_int, fLe_int, fGt_int, fGe_int, bGcd_int, bLen_t, bLen_l, bTuple_l, bTuple_t, bList_t, bList_l, sPar_eq, bAbs_int, bIntB_int, if_true, Bool.not_true, Bool.not_false, Bool.false_eq_true, reduceIte, *])
local macro_rules | `(tactic| walk_at "evh") => `(tactic| simp only [Option.map_some, Option.map_none, mP_app, mB_def, mNew_t, gIx_eq, eFrz_eq, fnV, mCall_rt, mCall_nx, List.length_cons, List.length_nil, Nat.zero_add, Nat.reduceAdd, List.map_cons, List.map_nil, Nat.reduceSub, Nat.sub_self, List.replicate, List.cons_append, List.nil_append, List.append_nil, decide_true, decide_false, guard_t, mB_mP, eVar_z, eVar_s, eC_eq, eOp2_eq, eOp1_eq, aNil_eq, aCons_eq, aStar_eq, eArgs_eq, tE_eq, mBool_eq, mInt_eq, mD_eq, mSeq_t, mSeq_l, mLs_l, mDat_v, tAnd_eq, tOr_eq, tNot_eq, eAnd_eq, eOr_eq, eNot_eq, eIf_eq, eChain_eq, eTup_eq, eLst_eq, mTup0, mTup1, mTup2, mTup3, mLst0, mLst1, mLst2, few_of, Nat.reduceLeDiff, mNew_f, b1_eq, b2_eq, sCons_eq, sNil_eq, sAsg_eq, gVar_eq, eSl_eq, oSome_eq, oNone_eq, sRet_eq, sRetN_eq, sIf_eq, sExpr_eq, sFor_eq, iSeq_eq, mIter_l, mIter_t, iEnum_eq, iZip_eq, iRng1_eq, iRng2_eq, iRngV_eq, bRange1_eq, mRng_eq, noX_mP, noExc_nil, noExc_none, noExc_val, noExc_rng, wipeR, List.set_cons_zero, List.set_cons_succ, tYesM_eq, gTup_eq2, gTup_eq3, eCallI_eq, List.all_cons, List.all_nil, isVal, Bool.and_true, Bool.and_self, Bool.true_and, iso_mP, fIx_fr0, fIx_fr1, fAdd_int, fSub_int, fNeg_int, fLt_int, fLe_int, fGt_int, fGe_int, bGcd_int, bLen_t, bLen_l, bTuple_l, bTuple_t, bList_t, bList_l, sPar_eq, bAbs_int, bIntB_int, if_true, Bool.not_true, Bool.not_false, Bool.false_eq_true, reduceIte, *])
theorem law_groups_eq (S : Mat) : V__law_groups [.val (TRD S)] = mP (.val (.list [])) := by
  have a := TRD_2 S
  have e := eq_tnil
  have t : tE (eOp2 fEq (eOp2 fIx (eVar 0) (eC (.int 2))) (eTup aNil)) [some (.val (TRD S)), none, none, none] = mP true := by walk_at "ev"
  have s : sIf (tE (eOp2 fEq (eOp2 fIx (eVar 0) (eC (.int 2))) (eTup aNil))) (sRet (eLst false aNil)) sNil [some (.val (TRD S)), none, none, none] = mP (.rt (.val (.list [])), [some (.val (TRD S)), none, none, none]) := by
    walk_at "ev"
  unfold V__law_groups B__law_groups
  simp only [fnV, List.length_cons, List.length_nil, Nat.zero_add, Nat.reduceAdd, decide_true, guard_t, mB_mP, List.map_cons, List.map_nil, Nat.reduceSub, List.replicate, List.cons_append, List.nil_append, sCons_eq, s, if_true]
  exact mCall_rt _ _
def hT (f : List PyData) (i : Nat) : Hm := some (.lst f) :: List.replicate i none
theorem hT_len (f : List PyData) (i : Nat) : (hT f i).length = i + 1 := by unfold hT; rw [List.length_cons, List.length_replicate]
theorem hT_get {f : List PyData} {i : Nat} {c : Option Cell} : (hT f i ++ [c])[i + 1]? = some c := by rw [List.getElem?_append_right (by rw [hT_len]; omega), hT_len, Nat.sub_self]; rfl
theorem hT_set {f : List PyData} {i : Nat} {c d : Option Cell} : (hT f i ++ [c]).set (i + 1) d = hT f i ++ [d] := by rw [List.set_append_right _ _ (by rw [hT_len]; omega), hT_len, Nat.sub_self]; rfl
theorem hT_none {f : List PyData} {i : Nat} : hT f i ++ [none] = hT f (i + 1) := by
  unfold hT
  rw [List.cons_append, List.replicate_succ']
theorem hT_0 {f : List PyData} {i : Nat} : (hT f i)[0]? = some (some (.lst f)) := rfl
theorem hT_s0 {f g : List PyData} {i : Nat} : (hT f i).set 0 (some (.lst g)) = hT g i := rfl
def lta (S : Mat) (n : Nat) (o6 o7 o8 o9 o10 : Option SV) : Ro := [some (.val (TRD S)), some (.val (.tuple (S.map rt))), some (.val (.tuple (ones S.length))), some (.val (.tuple [])), some (.val (.int (n : Int))), some (.val (.list (ones S.length))), o6, o7, o8, o9, o10, none, none, none, none, none]
def ltJ : Sm := (sCons (sAsg (eCallI V__law_sum (aCons (eLc false (iRng1 (eArgs (b1 bLen) (aCons (eVar 1) aNil))) (gVar 15) tYesM (eCallI V__law_times (aCons (eOp2 fIx (eVar 5) (eVar 15)) (aCons (eCallI V__law_times (aCons (eOp2 fIx (eOp2 fIx (eVar 1) (eVar 15)) (eVar 7)) (aCons (eOp2 fIx (eOp2 fIx (eVar 1) (eVar 15)) (eVar 9)) aNil))) aNil))) [15]) aNil)) (gVar 10))
    (sCons (sFor (iSeq (eCallI V__law_groups (aCons (eVar 0) aNil))) (gVar 11) (sCons (sAsg (eCallI V__law_sum (aCons (eLc false (iSeq (eVar 11)) (gVar 15) tYesM (eCallI V__law_times (aCons (eOp2 fIx (eVar 5) (eVar 15)) (aCons (eOp2 fIx (eOp2 fIx (eVar 1) (eVar 15)) (eVar 7)) aNil))) [15]) aNil)) (gVar 12))
    (sCons (sAsg (eCallI V__law_sum (aCons (eLc false (iSeq (eVar 11)) (gVar 15) tYesM (eCallI V__law_times (aCons (eOp2 fIx (eVar 5) (eVar 15)) (aCons (eOp2 fIx (eOp2 fIx (eVar 1) (eVar 15)) (eVar 9)) aNil))) [15]) aNil)) (gVar 13))
    (sAsg (eCallI V__law_minus (aCons (eVar 10) (aCons (eCallI V__law_over (aCons (eCallI V__law_times (aCons (eVar 12) (aCons (eVar 13) aNil))) (aCons (eCallI V__law_sum (aCons (eLc false (iSeq (eVar 11)) (gVar 15) tYesM (eOp2 fIx (eVar 5) (eVar 15)) [15]) aNil)) aNil))) aNil))) (gVar 10)))))
    (sExpr (fun ρ => mB ((eVar 8) ρ) fun x => mB (isLs x) fun _ => mB ((eVar 10) ρ) fun y => mApp x y))))
def ltI : Sm := (sCons (sAsg (eLst true aNil) (gVar 8))
    (sCons (sFor (iRng1 (eVar 4)) (gVar 9) ltJ)
    (sExpr (fun ρ => mB ((eVar 6) ρ) fun x => mB (isLs x) fun _ => mB ((eFrz 8) ρ) fun y => mApp x y))))
theorem one_mul_fr (q : Rat) : (1 : Rat) * q = q := Rat.one_mul q
theorem lt_total {S : Mat} {n i j : Nat} {o6 o8 o10 : Option SV} (O : OkS S n) (hi : i < n) (hj : j < n) (h6 : noExc [o6, o8, o10] = [o6, o8, o10]) :
    eLc false (iRng1 (eArgs (b1 bLen) (aCons (eVar 1) aNil))) (gVar 15) tYesM (eCallI V__law_times (aCons (eOp2 fIx (eVar 5) (eVar 15)) (aCons (eCallI V__law_times (aCons (eOp2 fIx (eOp2 fIx (eVar 1) (eVar 15)) (eVar 7)) (aCons (eOp2 fIx (eOp2 fIx (eVar 1) (eVar 15)) (eVar 9)) aNil))) aNil))) [15]
      (lta S n o6 (some (.val (.int (i : Int)))) o8 (some (.val (.int (j : Int)))) o10) = mP (.val (.list ((List.zipWith (· * ·) (colM S i) (colM S j)).map fr))) := by
  have l : bLen (.val (.tuple (S.map rt))) = mP (.val (.int (S.length : Nat))) := by rw [bLen_t, List.length_map]
  have m1 := O.m1
  have w : wipeR (noExc (lta S n o6 (some (.val (.int (i : Int)))) o8 (some (.val (.int (j : Int)))) o10)) [15] = lta S n o6 (some (.val (.int (i : Int)))) o8 (some (.val (.int (j : Int)))) o10 := by
    have q : ∀ (o : Option SV) (ρ : Ro), noExc (o :: ρ) = noExc [o] ++ noExc ρ := fun o ρ => by
      show List.map _ (o :: ρ) = List.map _ [o] ++ List.map _ ρ
      rfl
    have h6' : noExc [o6] ++ (noExc [o8] ++ noExc [o10]) = [o6, o8, o10] := by rw [← q, ← q]; exact h6
    have l6 : ∀ o, (noExc [o]).length = 1 := fun o => by show (List.map _ [o]).length = 1; rfl
    obtain ⟨a6, b6⟩ : ∃ a, noExc [o6] = [a] := List.length_eq_one_iff.mp (l6 o6)
    obtain ⟨a8, b8⟩ : ∃ a, noExc [o8] = [a] := List.length_eq_one_iff.mp (l6 o8)
    obtain ⟨a10, b10⟩ : ∃ a, noExc [o10] = [a] := List.length_eq_one_iff.mp (l6 o10)
    rw [b6, b8, b10] at h6'
    simp only [List.cons_append, List.nil_append, List.cons.injEq, and_true] at h6'
    obtain ⟨c6, c8, c10⟩ := h6'
    subst c6 c8 c10
    unfold lta
    rw [noExc_val, noExc_val, noExc_val, noExc_val, noExc_val, noExc_val, q, b6, noExc_val, q, b8, noExc_val, q, b10]
    rfl
  have c := eLc_map (it := iRng1 (eArgs (b1 bLen) (aCons (eVar 1) aNil))) (t := gVar 15) (c := tYesM) (e := eCallI V__law_times (aCons (eOp2 fIx (eVar 5) (eVar 15)) (aCons (eCallI V__law_times (aCons (eOp2 fIx (eOp2 fIx (eVar 1) (eVar 15)) (eVar 7)) (aCons (eOp2 fIx (eOp2 fIx (eVar 1) (eVar 15)) (eVar 9)) aNil))) aNil))) (vs := [15]) (ρ := lta S n o6 (some (.val (.int (i : Int)))) o8 (some (.val (.int (j : Int)))) o10) (xs := List.range S.length) (f := fun (k : Nat) => PyData.int (k : Int)) (ρ' := fun p => (lta S n o6 (some (.val (.int (i : Int)))) o8 (some (.val (.int (j : Int)))) o10).set 15 (some (.val (.int (p : Int))))) (g := fun p => fr (ent S p i * ent S p j)) (iRng1_nat (by unfold lta; clear O w; walk_at "ev") (by omega)) (by rw [List.length_range]; omega) w (fun p _ => rfl) (fun p _ => rfl) (fun p hp => by
    have hp := List.mem_range.mp hp
    have g1 : fIx (.val (.tuple (S.map rt))) (.val (.int (p : Int))) = mP (.val (.tuple ((S.getD p []).map fr))) := (Sq.t _).ix (row_t hp)
    have g2 : fIx (.val (.list (ones S.length))) (.val (.int (p : Int))) = mP (.val (fr 1)) := (Sq.l _).ix (by unfold ones; rw [List.getElem?_replicate, if_pos hp])
    have hl := getD_row O.rect hp
    have g3 : fIx (.val (.tuple ((S.getD p []).map fr))) (.val (.int (i : Int))) = mP (.val (fr (ent S p i))) := (Sq.t _).ixR (by rw [hl]; exact hi)
    have g4 : fIx (.val (.tuple ((S.getD p []).map fr))) (.val (.int (j : Int))) = mP (.val (fr (ent S p j))) := (Sq.t _).ixR (by rw [hl]; exact hj)
    have t1 := law_times_eq (sz_small (O.hd p i) (by omega) (by omega) (by omega)) (sz_small (O.hd p j) (by omega) (by omega) (by omega))
    have t2 := law_times_eq (sz_small hd1 (by omega) (by omega) (by omega)) (sz_small ((O.hd p i).mul (O.hd p j)) (by omega) (by omega) (by omega))
    rw [one_mul_fr] at t2
    unfold lta
    clear O w hl l
    walk_at "ev")
  rw [c]
  have e : ((List.range S.length).map fun p => fr (ent S p i * ent S p j)) = (List.zipWith (· * ·) (colM S i) (colM S j)).map fr := by
    refine List.ext_getElem (by simp [colM_len]) fun p q1 q2 => ?_
    rw [List.length_map, List.length_range] at q1
    rw [List.getElem_map, List.getElem_range, List.getElem_map, List.getElem_zipWith, ← colM_get q1, ← colM_get q1, getD_get (by rw [colM_len]; exact q1), getD_get (by rw [colM_len]; exact q1)]
  rw [e]
theorem ltJ_step {S : Mat} {n i j : Nat} {f ls : List PyData} {o10 : Option SV} (O : OkS S n) (hi : i < n) (hj : j < n) (hls : ls.length ≤ 100) (h10 : noExc [o10] = [o10]) :
    ltJ (lta S n (some (.ref 0)) (some (.val (.int (i : Int)))) (some (.ref (i + 1))) (some (.val (.int (j : Int)))) o10) (hT f i ++ [some (.lst ls)]) = .ok (.nx, lta S n (some (.ref 0)) (some (.val (.int (i : Int)))) (some (.ref (i + 1))) (some (.val (.int (j : Int)))) (some (.val (fr (rdot (colM S i) (colM S j)))))) (hT f i ++ [some (.lst (ls ++ [fr (rdot (colM S i) (colM S j))]))]) := by
  have lt := lt_total (o6 := some (.ref 0)) (o8 := some (.ref (i + 1))) (o10 := o10) O hi hj (by
    show noExc [some (.ref 0)] ++ (noExc [some (.ref (i + 1))] ++ noExc [o10]) = _
    rw [h10]
    rfl)
  have s := law_sum_eq (Sq.l ((List.zipWith (· * ·) (colM S i) (colM S j)).map fr)) (h1_sum (h1_prod (colM_hd O i) (colM_hd O j)) (by rw [List.length_zipWith, colM_len, colM_len]; have := O.m1; omega))
  have e1 : sAsg (eCallI V__law_sum (aCons (eLc false (iRng1 (eArgs (b1 bLen) (aCons (eVar 1) aNil))) (gVar 15) tYesM (eCallI V__law_times (aCons (eOp2 fIx (eVar 5) (eVar 15)) (aCons (eCallI V__law_times (aCons (eOp2 fIx (eOp2 fIx (eVar 1) (eVar 15)) (eVar 7)) (aCons (eOp2 fIx (eOp2 fIx (eVar 1) (eVar 15)) (eVar 9)) aNil))) aNil))) [15]) aNil)) (gVar 10) (lta S n (some (.ref 0)) (some (.val (.int (i : Int)))) (some (.ref (i + 1))) (some (.val (.int (j : Int)))) o10) = mP (.nx, lta S n (some (.ref 0)) (some (.val (.int (i : Int)))) (some (.ref (i + 1))) (some (.val (.int (j : Int)))) (some (.val (fr (rdot (colM S i) (colM S j)))))) := by
    unfold lta at lt ⊢
    clear O
    walk_at "ev"
    rfl
  unfold ltJ
  refine (sCons_nx (congrFun e1 _)).trans ?_
  refine (sCons_nx (ρ' := lta S n (some (.ref 0)) (some (.val (.int (i : Int)))) (some (.ref (i + 1))) (some (.val (.int (j : Int)))) (some (.val (fr (rdot (colM S i) (colM S j)))))) (h' := hT f i ++ [some (.lst ls)]) ?_).trans ?_
  · have g := law_groups_eq S
    have i0 : iSeq (eCallI V__law_groups (aCons (eVar 0) aNil)) (lta S n (some (.ref 0)) (some (.val (.int (i : Int)))) (some (.ref (i + 1))) (some (.val (.int (j : Int)))) (some (.val (fr (rdot (colM S i) (colM S j)))))) = mP [] := by
      unfold lta
      clear O e1 lt s
      walk_at "ev"
    rw [sFor_eq, i0]
    rfl
  · have il := isLs_ref (hT_get (f := f) (i := i) (c := some (.lst ls)))
    have ap := mApp_ref (d := fr (rdot (colM S i) (colM S j))) (hT_get (f := f) (i := i) (c := some (.lst ls))) (by omega)
    rw [hT_set] at ap
    unfold lta
    clear O e1 lt s
    walk_at "evh"
theorem ltJ_loop {S : Mat} {n i : Nat} {f : List PyData} (O : OkS S n) (hi : i < n) : ∀ (k lo : Nat) (o9 o10 : Option PyData), lo + k ≤ n → ∃ o9' o10' : Option PyData,
    MK.forM (gVar 9) ltJ ((List.range' lo k).map fun (k : Nat) => PyData.int (k : Int)) (lta S n (some (.ref 0)) (some (.val (.int (i : Int)))) (some (.ref (i + 1))) (o9.map SV.val) (o10.map SV.val)) (hT f i ++ [some (.lst ((List.range lo).map fun j => fr (rdot (colM S i) (colM S j))))])
     = .ok (.nx, lta S n (some (.ref 0)) (some (.val (.int (i : Int)))) (some (.ref (i + 1))) (o9'.map SV.val) (o10'.map SV.val)) (hT f i ++ [some (.lst ((List.range (lo + k)).map fun j => fr (rdot (colM S i) (colM S j))))])
  | 0, lo, o9, o10, _ => ⟨o9, o10, rfl⟩
  | k + 1, lo, o9, o10, h => by
    have n1 := O.n1
    have st := ltJ_step (f := f) (ls := (List.range lo).map fun j => fr (rdot (colM S i) (colM S j))) (o10 := o10.map SV.val) O hi (show lo < n by omega) (by rw [List.length_map, List.length_range]; omega) (by cases o10 <;> rfl)
    have e0 : ((List.range lo).map fun j => fr (rdot (colM S i) (colM S j))) ++ [fr (rdot (colM S i) (colM S lo))] = (List.range (lo + 1)).map fun j => fr (rdot (colM S i) (colM S j)) := by
      rw [List.range_succ, List.map_append]
      rfl
    rw [e0] at st
    obtain ⟨p9, p10, e⟩ := ltJ_loop (f := f) O hi k (lo + 1) (some (.int (lo : Int))) (some (fr (rdot (colM S i) (colM S lo)))) (by omega)
    refine ⟨p9, p10, ?_⟩
    rw [List.range'_succ, List.map_cons, show lo + (k + 1) = lo + 1 + k by omega]
    exact (forM_consH (ρ1 := lta S n (some (.ref 0)) (some (.val (.int (i : Int)))) (some (.ref (i + 1))) (some (.val (.int (lo : Int)))) (o10.map SV.val)) (h1 := hT f i ++ [some (.lst ((List.range lo).map fun j => fr (rdot (colM S i) (colM S j))))]) rfl st).trans e
def gr (S : Mat) (n i : Nat) : PyData := rl ((List.range n).map fun j => rdot (colM S i) (colM S j))
theorem ltI_loop {S : Mat} {n : Nat} (O : OkS S n) : ∀ (k lo : Nat) (o7 o9 o10 : Option PyData) (o8 : Option SV), lo + k ≤ n → ∃ (o7' o9' o10' : Option PyData) (o8' : Option SV),
    MK.forM (gVar 7) ltI ((List.range' lo k).map fun (k : Nat) => PyData.int (k : Int)) (lta S n (some (.ref 0)) (o7.map SV.val) o8 (o9.map SV.val) (o10.map SV.val)) (hT ((List.range lo).map (gr S n)) lo)
     = .ok (.nx, lta S n (some (.ref 0)) (o7'.map SV.val) o8' (o9'.map SV.val) (o10'.map SV.val)) (hT ((List.range (lo + k)).map (gr S n)) (lo + k))
  | 0, lo, o7, o9, o10, o8, _ => ⟨o7, o9, o10, o8, rfl⟩
  | k + 1, lo, o7, o9, o10, o8, h => by
    have n1 := O.n1
    obtain ⟨q9, q10, ej⟩ := ltJ_loop (f := (List.range lo).map (gr S n)) O (show lo < n by omega) n 0 o9 o10 (by omega)
    rw [Nat.zero_add, ← List.range_eq_range'] at ej
    have st : ltI (lta S n (some (.ref 0)) (some (.val (.int (lo : Int)))) o8 (o9.map SV.val) (o10.map SV.val)) (hT ((List.range lo).map (gr S n)) lo) = .ok (.nx, lta S n (some (.ref 0)) (some (.val (.int (lo : Int)))) (some (.ref (lo + 1))) (q9.map SV.val) (q10.map SV.val)) (hT ((List.range (lo + 1)).map (gr S n)) (lo + 1)) := by
      unfold ltI
      refine (sCons_nx (ρ' := lta S n (some (.ref 0)) (some (.val (.int (lo : Int)))) (some (.ref (lo + 1))) (o9.map SV.val) (o10.map SV.val)) (h' := hT ((List.range lo).map (gr S n)) lo ++ [some (.lst [])]) ?_).trans ((sCons_nx (ρ' := lta S n (some (.ref 0)) (some (.val (.int (lo : Int)))) (some (.ref (lo + 1))) (q9.map SV.val) (q10.map SV.val)) (h' := hT ((List.range lo).map (gr S n)) lo ++ [some (.lst ((List.range n).map fun j => fr (rdot (colM S lo) (colM S j))))]) ?_).trans ?_)
      · have hl := hT_len ((List.range lo).map (gr S n)) lo
        generalize hT ((List.range lo).map (gr S n)) lo = H at hl ⊢
        rw [← hl]
        rfl
      · have i0 : iRng1 (eVar 4) (lta S n (some (.ref 0)) (some (.val (.int (lo : Int)))) (some (.ref (lo + 1))) (o9.map SV.val) (o10.map SV.val)) = mP ((List.range n).map fun (k : Nat) => PyData.int (k : Int)) := iRng1_nat rfl (by omega)
        rw [sFor_eq, i0]
        exact ej
      · have c0 : (hT ((List.range lo).map (gr S n)) lo ++ [some (.lst ((List.range n).map fun j => fr (rdot (colM S lo) (colM S j))))])[0]? = some (some (.lst ((List.range lo).map (gr S n)))) := rfl
        have il := isLs_ref c0
        have fz := mFrz_ref (hT_get (f := (List.range lo).map (gr S n)) (i := lo) (c := some (.lst ((List.range n).map fun j => fr (rdot (colM S lo) (colM S j))))))
        rw [hT_set, hT_none] at fz
        have ap := mApp_ref (h := hT ((List.range lo).map (gr S n)) (lo + 1)) (n := 0) (d := .list ((List.range n).map fun j => fr (rdot (colM S lo) (colM S j)))) hT_0 (by rw [List.length_map, List.length_range]; omega)
        rw [hT_s0] at ap
        have e0 : ((List.range lo).map (gr S n)) ++ [.list ((List.range n).map fun j => fr (rdot (colM S lo) (colM S j)))] = (List.range (lo + 1)).map (gr S n) := by
          rw [List.range_succ, List.map_append]
          unfold gr rl
          simp only [List.map_cons, List.map_nil, List.map_map]
          rfl
        rw [e0] at ap
        unfold lta
        clear O ej e0 c0
        walk_at "evh"
    obtain ⟨p7, p9, p10, p8, e⟩ := ltI_loop O k (lo + 1) (some (.int (lo : Int))) q9 q10 (some (.ref (lo + 1))) (by omega)
    refine ⟨p7, p9, p10, p8, ?_⟩
    rw [List.range'_succ, List.map_cons, show lo + (k + 1) = lo + 1 + k by omega]
    exact (forM_consH (ρ1 := lta S n (some (.ref 0)) (some (.val (.int (lo : Int)))) o8 (o9.map SV.val) (o10.map SV.val)) (h1 := hT ((List.range lo).map (gr S n)) lo) rfl st).trans e
theorem law_table_runs {S : Mat} {n : Nat} (O : OkS S n) : MK.Runs V__law_table [.val (TRD S)] (.list ((gram n S).map rl)) := by
  have n1 := O.n1
  have m1 := O.m1
  obtain ⟨p7, p9, p10, p8, e⟩ := ltI_loop O n 0 none none none none (by omega)
  rw [Nat.zero_add, ← List.range_eq_range'] at e
  have hg : (List.range n).map (gr S n) = (gram n S).map rl := by unfold gram gr; rw [List.map_map]; rfl
  have a0 : fIx (.val (.tuple (S.map rt))) (.val (.int 0)) = mP (.val (.tuple ((S.getD 0 []).map fr))) := (Sq.t _).ix (k := 0) (row_t O.m0)
  have a2 : bLen (.val (.tuple ((S.getD 0 []).map fr))) = mP (.val (.int (n : Int))) := by rw [bLen_t, List.length_map, getD_row O.rect O.m0]
  have a1 := TRD_1 S
  have e1 : sAsg (eVar 0) (gTup 3 (gsCons (gVar 1) (gsCons (gVar 2) (gsCons (gVar 3) gsNil)))) [some (.val (TRD S)), none, none, none, none, none, none, none, none, none, none, none, none, none, none, none] = mP (.nx, [some (.val (TRD S)), some (.val (.tuple (S.map rt))), some (.val (.tuple (ones S.length))), some (.val (.tuple [])), none, none, none, none, none, none, none, none, none, none, none, none]) := rfl
  have c : eLc false (iSeq (eOp2 fIx (eVar 0) (eC (.int 1)))) (gVar 14) tYesM (eCallI V__law_over (aCons (eTup (aCons (eC (.int 1)) (aCons (eC (.int 1)) aNil))) (aCons (eVar 14) aNil))) [14] [some (.val (TRD S)), some (.val (.tuple (S.map rt))), some (.val (.tuple (ones S.length))), some (.val (.tuple [])), none, none, none, none, none, none, none, none, none, none, none, none] = mP (.val (.list ((List.replicate S.length (1 : Rat)).map fun q => fr 1))) := by
    refine eLc_map (xs := List.replicate S.length (1 : Rat)) (f := fr) (ρ' := fun q => [some (.val (TRD S)), some (.val (.tuple (S.map rt))), some (.val (.tuple (ones S.length))), some (.val (.tuple [])), none, none, none, none, none, none, none, none, none, none, some (.val (fr q)), none]) ?_ (by rw [List.length_replicate]; omega) rfl (fun q _ => rfl) (fun q _ => rfl) (fun q hq => ?_)
    · rw [ones_map] at a1
      rw [ones_map]
      clear O e a0 a2 hg
      walk_at "ev"
    · rw [(List.mem_replicate.mp hq).2]
      have o := law_over_eq (sz_small hd1 (by omega) (by omega) (by omega)) (sz_small hd1 (by omega) (by omega) (by omega)) (by decide : (1 : Rat) ≠ 0)
      rw [div_one', ← fr_one] at o
      rw [← fr_one]
      clear O e a0 a2 hg
      walk_at "ev"
  have e0 : ((List.replicate S.length (1 : Rat)).map fun q => fr 1) = ones S.length := by unfold ones; rw [List.map_replicate]
  rw [e0] at c
  have e2 : sPar 4 5 (aCons (eArgs (b1 bLen) (aCons (eOp2 fIx (eVar 1) (eC (.int 0))) aNil)) (aCons (eLc false (iSeq (eOp2 fIx (eVar 0) (eC (.int 1)))) (gVar 14) tYesM (eCallI V__law_over (aCons (eTup (aCons (eC (.int 1)) (aCons (eC (.int 1)) aNil))) (aCons (eVar 14) aNil))) [14]) aNil)) [some (.val (TRD S)), some (.val (.tuple (S.map rt))), some (.val (.tuple (ones S.length))), some (.val (.tuple [])), none, none, none, none, none, none, none, none, none, none, none, none] = mP (.nx, lta S n none none none none none) := by
    unfold lta
    clear O e hg e0
    walk_at "ev"
  refine fnV_runs (ρ := lta S n (some (.ref 0)) (p7.map SV.val) p8 (p9.map SV.val) (p10.map SV.val)) (h' := (hT ((List.range n).map (gr S n)) n).set 0 none) rfl ?_
  unfold B__law_table
  refine (sCons_nx (congrFun e1 [])).trans ((sCons_nx (congrFun e2 [])).trans ((sCons_nx (ρ' := lta S n (some (.ref 0)) none none none none) (h' := hT [] 0) rfl).trans ((sCons_nx (ρ' := lta S n (some (.ref 0)) (p7.map SV.val) p8 (p9.map SV.val) (p10.map SV.val)) (h' := hT ((List.range n).map (gr S n)) n) ?_).trans ?_)))
  · have i0 : iRng1 (eVar 4) (lta S n (some (.ref 0)) none none none none) = mP ((List.range n).map fun (k : Nat) => PyData.int (k : Int)) := iRng1_nat rfl (by omega)
    rw [sFor_eq, i0]
    exact e
  · have fz := mFrz_ref (hT_0 (f := (List.range n).map (gr S n)) (i := n))
    rw [hg] at fz ⊢
    unfold lta
    clear O e hg e0 e1 e2 c
    walk_at "evh"
theorem law_unit_eq {n k : Nat} (hn : n ≤ 100) : V__law_unit [.val (.int (n : Int)), .val (.int (k : Int))] = mP (.val (rt (unitR n k))) := by
  have c : eLc false (iRng1 (eVar 0)) (gVar 2) tYesM (eTup (aCons (eArgs (b1 bIntB) (aCons (eOp2 fEq (eVar 2) (eVar 1)) aNil)) (aCons (eC (.int 1)) aNil))) [2] [some (.val (.int (n : Int))), some (.val (.int (k : Int))), none] = mP (.val (.list ((List.range n).map fun j => fr (if j = k then 1 else 0)))) := by
    refine eLc_map (xs := List.range n) (f := fun (k : Nat) => PyData.int (k : Int)) (ρ' := fun j => [some (.val (.int (n : Int))), some (.val (.int (k : Int))), some (.val (.int (j : Int)))]) (iRng1_nat rfl (by omega)) (by rw [List.length_range]; omega) rfl (fun k _ => rfl) (fun k _ => rfl) (fun j hj => ?_)
    have f := fEq_int (j : Int) (k : Int)
    have b := bIntB_bool (decide ((j : Int) = (k : Int)))
    by_cases h : j = k
    · rw [decide_eq_true (show ((j : Nat) : Int) = (k : Int) by omega)] at f b
      rw [if_pos h, ← fr_one]
      clear h
      walk_at "ev"
    · rw [decide_eq_false (show ¬ ((j : Nat) : Int) = (k : Int) by omega)] at f b
      rw [if_neg h, ← fr_zero]
      clear h
      walk_at "ev"
  have e : ((List.range n).map fun j => fr (if j = k then 1 else 0)) = (unitR n k).map fr := by unfold unitR; rw [List.map_map]; rfl
  rw [e] at c
  unfold V__law_unit B__law_unit rt
  walk_at "ev"
end GL
set_option Elab.async false
set_option linter.all false
set_option maxRecDepth 100000
set_option maxHeartbeats 4000000
/-! signs, plans' trials, mixes. -/
namespace GL
open MK PySem PySem.Spec PyProof.Rows L2 LA
local macro_rules | `(tactic| walk_at "ev") => `(tactic| simp only [Option.map_some, Option.map_none, fnV, mCall_rt, mCall_nx, List.length_cons, List.length_nil, Nat.zero_add, Nat.reduceAdd, List.map_cons, List.map_nil, Nat.reduceSub, Nat.sub_self, List.replicate, List.cons_append, List.nil_append, List.append_nil, decide_true, decide_false, guard_t, mB_mP, eVar_z, eVar_s, eC_eq, eOp2_eq, eOp1_eq, aNil_eq, aCons_eq, aStar_eq, eArgs_eq, tE_eq, mBool_eq, mInt_eq, mD_eq, mSeq_t, mSeq_l, mLs_l, mDat_v, tAnd_eq, tOr_eq, tNot_eq, eAnd_eq, eOr_eq, eNot_eq, eIf_eq, eChain_eq, eTup_eq, eLst_eq, mTup0, mTup1, mTup2, mTup3, mLst0, mLst1, mLst2, few_of, Nat.reduceLeDiff, mNew_f, b1_eq, b2_eq, sCons_eq, sNil_eq, sAsg_eq, gVar_eq, eSl_eq, oSome_eq, oNone_eq, sRet_eq, sRetN_eq, sIf_eq, sExpr_eq, sFor_eq, iSeq_eq, mIter_l, mIter_t, iEnum_eq, iZip_eq, iRng1_eq, iRng2_eq, iRngV_eq, bRange1_eq, mRng_eq, noX_mP, noExc_nil, noExc_none, noExc_val, noExc_rng, wipeR, List.set_cons_zero, List.set_cons_succ, tYesM_eq, gTup_eq2, gTup_eq3, eCallI_eq, List.all_cons, List.all_nil, isVal, Bool.and_true, Bool.and_self, Bool.true_and, iso_mP, fIx_fr0, fIx_fr1, fAdd_int, fSub_int, fNeg_int, fLt_int, fLe_int, fGt_int, fGe_int, bGcd_int, bLen_t, bLen_l, bTuple_l, bTuple_t, bList_t, bList_l, sPar_eq, bAbs_int, bIntB_int, if_true, Bool.not_true, Bool.not_false, Bool.false_eq_true, reduceIte, *])
local macro_rules | `(tactic| walk_at "evh") => `(tactic| simp only [Option.map_some, Option.map_none, mP_app, mB_def, mNew_t, gIx_eq, eFrz_eq, fnV, mCall_rt, mCall_nx, List.length_cons, List.length_nil, Nat.zero_add, Nat.reduceAdd, List.map_cons, List.map_nil, Nat.reduceSub, Nat.sub_self, List.replicate, List.cons_append, List.nil_append, List.append_nil, decide_true, decide_false, guard_t, mB_mP, eVar_z, eVar_s, eC_eq, eOp2_eq, eOp1_eq, aNil_eq, aCons_eq, aStar_eq, eArgs_eq, tE_eq, mBool_eq, mInt_eq, mD_eq, mSeq_t, mSeq_l, mLs_l, mDat_v, tAnd_eq, tOr_eq, tNot_eq, eAnd_eq, eOr_eq, eNot_eq, eIf_eq, eChain_eq, eTup_eq, eLst_eq, mTup0, mTup1, mTup2, mTup3, mLst0, mLst1, mLst2, few_of, Nat.reduceLeDiff, mNew_f, b1_eq, b2_eq, sCons_eq, sNil_eq, sAsg_eq, gVar_eq, eSl_eq, oSome_eq, oNone_eq, sRet_eq, sRetN_eq, sIf_eq, sExpr_eq, sFor_eq, iSeq_eq, mIter_l, mIter_t, iEnum_eq, iZip_eq, iRng1_eq, iRng2_eq, iRngV_eq, bRange1_eq, mRng_eq, noX_mP, noExc_nil, noExc_none, noExc_val, noExc_rng, wipeR, List.set_cons_zero, List.set_cons_succ, tYesM_eq, gTup_eq2, gTup_eq3, eCallI_eq, List.all_cons, List.all_nil, isVal, Bool.and_true, Bool.and_self, Bool.true_and, iso_mP, fIx_fr0, fIx_fr1, fAdd_int, fSub_int, fNeg_int, fLt_int, fLe_int, fGt_int, fGe_int, bGcd_int, bLen_t, bLen_l, bTuple_l, bTuple_t, bList_t, bList_l, sPar_eq, bAbs_int, bIntB_int, if_true, Bool.not_true, Bool.not_false, Bool.false_eq_true, reduceIte, *])
structure SGok (sg : PyData → PyData → Int) (r e : PyData) : Prop where
  prog : iso (V_sign_in [.val r, .val e]) = mP (.val (.int (sg r e)))
  law : iso (V__law_sign [.val r, .val e]) = mP (.val (.int (sg r e)))
  one : (sg r e).natAbs = 1
def SMat (sg : PyData → PyData → Int) (rs es : List PyData) : Mat := rs.map fun r => es.map fun e => ((sg r e : Int) : Rat)
def osR (sg : PyData → PyData → Int) (rs : List PyData) (o : PyData) : List Rat := rs.map fun r => ((sg r o : Int) : Rat)
structure PlOk (sg : PyData → PyData → Int) (rs es : List PyData) (o : PyData) : Prop where
  r0 : 0 < rs.length
  r1 : rs.length ≤ 10
  e0 : 0 < es.length
  e1 : es.length ≤ 5
  sgs : ∀ r ∈ rs, ∀ e ∈ es, SGok sg r e
  sgo : ∀ r ∈ rs, SGok sg r o
variable {sg : PyData → PyData → Int} {rs es : List PyData} {o : PyData}
theorem sg_hd {r e : PyData} (h : SGok sg r e) : Hd 1 1 ((sg r e : Int) : Rat) := Hd.int rfl (by have := h.one; omega)
theorem PlOk.ok (P : PlOk sg rs es o) : OkS (SMat sg rs es) es.length where
  rect := fun r hr => by
    obtain ⟨x, _, rfl⟩ := List.mem_map.mp hr
    exact List.length_map ..
  m0 := by unfold SMat; rw [List.length_map]; exact P.r0
  m1 := by unfold SMat; rw [List.length_map]; exact P.r1
  n0 := P.e0
  n1 := P.e1
  hd := fun i c => by
    unfold ent SMat
    by_cases hi : i < rs.length
    · rw [getD_get (show i < (rs.map _).length by rw [List.length_map]; exact hi), List.getElem_map]
      by_cases hc : c < es.length
      · rw [getD_get (show c < (es.map _).length by rw [List.length_map]; exact hc), List.getElem_map]
        exact sg_hd (P.sgs _ (List.getElem_mem _) _ (List.getElem_mem _))
      · rw [List.getD_eq_getElem?_getD, List.getElem?_eq_none (by rw [List.length_map]; omega)]
        exact Hd.zero 1 1
    · rw [List.getD_eq_getElem?_getD (l := rs.map _), List.getElem?_eq_none (show _ ≤ i by rw [List.length_map]; omega)]
      exact Hd.zero 1 1
theorem SMat_len : (SMat sg rs es).length = rs.length := List.length_map ..
theorem SMat_t : (SMat sg rs es).map rt = rs.map fun r => .tuple (es.map fun e => .tuple [.int (sg r e), .int 1]) := by
  unfold SMat rt
  rw [List.map_map]
  refine List.map_congr_left fun r _ => ?_
  show PyData.tuple ((es.map fun e => ((sg r e : Int) : Rat)).map fr) = _
  rw [List.map_map]
  rfl
theorem eLc_id {it : Im} {i : Nat} {e : Em} {ρ ρ0 : Ro} {xs : List PyData} {g : PyData → PyData} {vs : List Nat} (hi : it ρ = mP xs) (hl : xs.length ≤ 10000) (h0 : wipeR (noExc ρ) vs = ρ0) (h3 : ∀ x ∈ xs, e (ρ0.set i (some (.val x))) = mP (.val (g x))) : eLc false it (gVar i) tYesM e vs ρ = mP (.val (.list (xs.map g))) :=
  eLc_map (xs := xs) (f := fun x => x) (ρ' := fun x => ρ0.set i (some (.val x))) (by rw [List.map_id']; exact hi) hl h0 (fun x _ => rfl) (fun x _ => rfl) h3
theorem ones_mul {k : Nat} (h0 : 0 < k) (h1 : k ≤ 1000) : fMul false (.val (.tuple [.tuple [.int 1, .int 1]])) (.val (.int (k : Int))) = mP (.val (.tuple (ones k))) := by
  rw [fMul_tuple (by simp) (by simp) h1 h0, rep_one]
  rfl
theorem trial_by_eq (P : PlOk sg rs es o) : V_trial_by [.val (.tuple rs), .val (.tuple es)] = mP (.val (TRD (SMat sg rs es))) := by
  have c : eLc false (iSeq (eVar 0)) (gVar 3) tYesM (eArgs (b1 bTuple) (aCons (eLc false (iSeq (eVar 1)) (gVar 4) tYesM (eTup (aCons (eCallI V_sign_in (aCons (eVar 3) (aCons (eVar 4) aNil))) (aCons (eC (.int 1)) aNil))) [4]) aNil)) [3] [some (.val (.tuple rs)), some (.val (.tuple es)), none, none, none] = mP (.val (.list ((SMat sg rs es).map rt))) := by
    rw [SMat_t]
    refine eLc_id rfl (by have := P.r1; omega) rfl (fun r hr => ?_)
    have c2 : eLc false (iSeq (eVar 1)) (gVar 4) tYesM (eTup (aCons (eCallI V_sign_in (aCons (eVar 3) (aCons (eVar 4) aNil))) (aCons (eC (.int 1)) aNil))) [4] [some (.val (.tuple rs)), some (.val (.tuple es)), none, some (.val r), none] = mP (.val (.list (es.map fun e => .tuple [.int (sg r e), .int 1]))) := by
      refine eLc_id rfl (by have := P.e1; omega) rfl (fun e he => ?_)
      have s := (P.sgs r hr e he).prog
      clear P
      walk_at "ev"
    clear P
    walk_at "ev"
  have l : bLen (.val (.tuple rs)) = mP (.val (.int ((SMat sg rs es).length : Nat))) := by rw [bLen_t, SMat_len]
  have m := ones_mul (k := (SMat sg rs es).length) P.ok.m0 (by have := P.ok.m1; omega)
  unfold V_trial_by B_trial_by TRD
  clear P
  walk_at "ev"
theorem law_trial_of_eq (P : PlOk sg rs es o) : V__law_trial_of [.val (.tuple rs), .val (.tuple es)] = mP (.val (TRD (SMat sg rs es))) := by
  have c : eLc false (iSeq (eVar 0)) (gVar 2) tYesM (eArgs (b1 bTuple) (aCons (eLc false (iSeq (eVar 1)) (gVar 3) tYesM (eTup (aCons (eCallI V__law_sign (aCons (eVar 2) (aCons (eVar 3) aNil))) (aCons (eC (.int 1)) aNil))) [3]) aNil)) [2] [some (.val (.tuple rs)), some (.val (.tuple es)), none, none] = mP (.val (.list ((SMat sg rs es).map rt))) := by
    rw [SMat_t]
    refine eLc_id rfl (by have := P.r1; omega) rfl (fun r hr => ?_)
    have c2 : eLc false (iSeq (eVar 1)) (gVar 3) tYesM (eTup (aCons (eCallI V__law_sign (aCons (eVar 2) (aCons (eVar 3) aNil))) (aCons (eC (.int 1)) aNil))) [3] [some (.val (.tuple rs)), some (.val (.tuple es)), some (.val r), none] = mP (.val (.list (es.map fun e => .tuple [.int (sg r e), .int 1]))) := by
      refine eLc_id rfl (by have := P.e1; omega) rfl (fun e he => ?_)
      have s := (P.sgs r hr e he).law
      clear P
      walk_at "ev"
    clear P
    walk_at "ev"
  have l : bLen (.val (.tuple rs)) = mP (.val (.int ((SMat sg rs es).length : Nat))) := by rw [bLen_t, SMat_len]
  have m := ones_mul (k := (SMat sg rs es).length) P.ok.m0 (by have := P.ok.m1; omega)
  unfold V__law_trial_of B__law_trial_of TRD
  clear P
  walk_at "ev"
theorem osR_d : (osR sg rs o).map fr = rs.map fun r => .tuple [.int (sg r o), .int 1] := by
  unfold osR
  rw [List.map_map]
  rfl
theorem signs_of_eq (P : PlOk sg rs es o) : V_signs_of [.val (.tuple rs), .val o] = mP (.val (rt (osR sg rs o))) := by
  have c : eLc false (iSeq (eVar 0)) (gVar 2) tYesM (eTup (aCons (eCallI V_sign_in (aCons (eVar 2) (aCons (eVar 1) aNil))) (aCons (eC (.int 1)) aNil))) [2] [some (.val (.tuple rs)), some (.val o), none] = mP (.val (.list (rs.map fun r => .tuple [.int (sg r o), .int 1]))) := by
    refine eLc_id rfl (by have := P.r1; omega) rfl (fun r hr => ?_)
    have s := (P.sgo r hr).prog
    clear P
    walk_at "ev"
  rw [← osR_d] at c
  unfold V_signs_of B_signs_of rt
  clear P
  walk_at "ev"
theorem law_signs_eq (P : PlOk sg rs es o) {ρ : Ro} (x y z : SV) (w : Option SV) (h : noExc [some x, some y, some z, w] = [some x, some y, some z, w]) : eLc false (iSeq (eVar 0)) (gVar 5) tYesM (eTup (aCons (eCallI V__law_sign (aCons (eVar 5) (aCons (eVar 3) aNil))) (aCons (eC (.int 1)) aNil))) [5] [some (.val (.tuple rs)), some (.val (.tuple es)), some y, some (.val o), w, none] = mP (.val (.list ((osR sg rs o).map fr))) := by
  rw [osR_d]
  have h0 : wipeR (noExc [some (.val (.tuple rs)), some (.val (.tuple es)), some y, some (.val o), w, none]) [5] = [some (.val (.tuple rs)), some (.val (.tuple es)), some y, some (.val o), w, none] := by
    have l6 : ∀ o, (noExc [o]).length = 1 := fun o => by show (List.map _ [o]).length = 1; rfl
    have h' : noExc [some x] ++ (noExc [some y] ++ (noExc [some z] ++ noExc [w])) = [some x, some y, some z, w] := h
    obtain ⟨b1, d1⟩ : ∃ a, noExc [some x] = [a] := List.length_eq_one_iff.mp (l6 _)
    obtain ⟨b2, d2⟩ : ∃ a, noExc [some y] = [a] := List.length_eq_one_iff.mp (l6 _)
    obtain ⟨b3, d3⟩ : ∃ a, noExc [some z] = [a] := List.length_eq_one_iff.mp (l6 _)
    obtain ⟨b4, d4⟩ : ∃ a, noExc [w] = [a] := List.length_eq_one_iff.mp (l6 _)
    rw [d1, d2, d3, d4] at h'
    simp only [List.cons_append, List.nil_append, List.cons.injEq, and_true] at h'
    obtain ⟨q1, q2, q3, q4⟩ := h'
    show wipeR (noExc [some (.val (.tuple rs))] ++ (noExc [some (.val (.tuple es))] ++ (noExc [some y] ++ (noExc [some (.val o)] ++ (noExc [w] ++ [none]))))) [5] = _
    rw [d2, d4, q2, q4]
    rfl
  refine eLc_id rfl (by have := P.r1; omega) h0 (fun r hr => ?_)
  have s := (P.sgo r hr).law
  clear P h h0
  walk_at "ev"
def mixD (S : Mat) (os : List Rat) (n k : Nat) : PyData := match solve (gram n S) (unitR n k) n with
  | none => .none
  | some x => fr (rdot (wts S x) os)
theorem wts_len (S : Mat) (x : List Rat) : (wts S x).length = S.length := List.length_map ..
theorem wts_hd {S : Mat} {n : Nat} {x : List Rat} (O : OkS S n) (hx : XOk n x) : ∃ d : Nat, 0 < d ∧ d ≤ 2 ^ 200 ∧ ∀ z ∈ wts S x, Hd (2 ^ 210) d z := by
  obtain ⟨d, d0, d1, hd⟩ := hx.mem
  refine ⟨d, d0, d1, fun z hz => ?_⟩
  obtain ⟨r, hr, rfl⟩ := List.mem_map.mp hz
  have hp : ∀ z ∈ List.zipWith (· * ·) r x, Hd (2 ^ 200) d z := fun z hz => by
    obtain ⟨a, ha, b, hb, e⟩ := mem_zipWith hz
    rw [e]
    have := (ent_mem' O hr a ha).mul (hd b hb)
    rw [Nat.one_mul, Nat.one_mul] at this
    exact this
  refine (Hd.rsum hp).mono ?_
  have := O.n1
  exact Nat.le_trans (Nat.mul_le_mul_right _ (show (List.zipWith (· * ·) r x).length ≤ 10 by rw [List.length_zipWith, O.rect r hr]; omega)) (by decide)
theorem wts_all {S : Mat} {n : Nat} {x : List Rat} (O : OkS S n) (hx : XOk n x) : ∀ z ∈ wts S x, Sz z := by
  obtain ⟨d, d0, d1, hd⟩ := wts_hd O hx
  exact fun z hz => (hd z hz).sz d0 (Nat.lt_trans (by decide) big2) (Nat.lt_of_le_of_lt d1 pow200)
theorem wts_sum {S : Mat} {n : Nat} {x os : List Rat} (O : OkS S n) (hx : XOk n x) (ho : ∀ z ∈ os, Hd 1 1 z) : SumOk (List.zipWith (· * ·) (wts S x) os) := by
  obtain ⟨d, d0, d1, hd⟩ := wts_hd O hx
  have hp : ∀ z ∈ List.zipWith (· * ·) (wts S x) os, Hd (2 ^ 210) d z := fun z hz => by
    obtain ⟨a, ha, b, hb, e⟩ := mem_zipWith hz
    rw [e]
    have := (hd a ha).mul (ho b hb)
    rw [Nat.mul_one, Nat.mul_one] at this
    exact this
  refine SumOk.of d0 hp ?_ (Nat.lt_of_le_of_lt d1 pow200)
  have := O.m1
  exact Nat.lt_of_le_of_lt (Nat.mul_le_mul_right _ (show (List.zipWith (· * ·) (wts S x) os).length + 1 ≤ 11 by rw [List.length_zipWith, wts_len]; omega)) (Nat.lt_trans (by decide) big2)
theorem os_hd (P : PlOk sg rs es o) : ∀ z ∈ osR sg rs o, Hd 1 1 z := fun z hz => by
  obtain ⟨r, hr, rfl⟩ := List.mem_map.mp hz
  exact sg_hd (P.sgo r hr)
theorem os_len : (osR sg rs o).length = rs.length := List.length_map ..
theorem wts_dot (P : PlOk sg rs es o) {x : List Rat} (hx : XOk es.length x) : V_dot [.val (rt (wts (SMat sg rs es) x)), .val (rt (osR sg rs o))] = mP (.val (fr (rdot (wts (SMat sg rs es) x) (osR sg rs o)))) :=
  dot_eq (Sq.t _) (Sq.t _) (wts_all P.ok hx) (h1_sz (os_hd P)) (by rw [wts_len]; have := P.ok.m1; omega) (wts_sum P.ok hx (os_hd P))
theorem wts_ldot (P : PlOk sg rs es o) {x : List Rat} (hx : XOk es.length x) : V__law_dot [.val (rl (wts (SMat sg rs es) x)), .val (.list ((osR sg rs o).map fr))] = mP (.val (fr (rdot (wts (SMat sg rs es) x) (osR sg rs o)))) :=
  law_dot_eq (Sq.l _) (Sq.l _) (by rw [wts_len, SMat_len, os_len]) (wts_all P.ok hx) (h1_sz (os_hd P)) (by rw [wts_len]; have := P.ok.m1; omega) (wts_sum P.ok hx (os_hd P))
theorem sh_best (S : Mat) (n k : Nat) : SeqAt.shaped (.list ((answ S n k).map fun x => rt (wts S x))) = true := by
  refine shaped_of (lay_list fun x _ => lay_tuple fun z _ => lay_fr z) (Nat.le_trans (dep_list (n := 2) fun x _ => dep_tuple (n := 1) fun z _ => ?_) (by omega))
  rw [dep_fr]
  omega
def mixE : Em := eIf (tE (eOp2 fNe (eVar 6) (eLst false aNil))) (eCallI V_dot (aCons (eOp2 fIx (eVar 6) (eC (.int 0))) (aCons (eCallI V_signs_of (aCons (eVar 0) (aCons (eVar 2) aNil))) aNil))) (eC .none)
def mixB : Sm := (sCons (sAsg (eCallI V_best_by (aCons (eVar 3) (aCons (eCallI V_lone_question (aCons (eArgs (b1 bLen) (aCons (eVar 1) aNil)) (aCons (eVar 5) aNil))) aNil))) (gVar 6))
    (sExpr (fun ρ => mB ((eVar 4) ρ) fun x => mB (isLs x) fun _ => mB (mixE ρ) fun y => mApp x y)))
def mro (rs es : List PyData) (o : PyData) (t : PyData) (o5 o6 : Option PyData) : Ro := [some (.val (.tuple rs)), some (.val (.tuple es)), some (.val o), some (.val t), some (.ref 0), o5.map SV.val, o6.map SV.val]
theorem mixE_eq (P : PlOk sg rs es o) {t : PyData} {k : Nat} (hk : k < es.length) : mixE (mro rs es o t (some (.int (k : Int))) (some (.list ((answ (SMat sg rs es) es.length k).map fun x => rt (wts (SMat sg rs es) x))))) = mP (.val (mixD (SMat sg rs es) (osR sg rs o) es.length k)) := by
  have hn := fNe_nil (sh_best (SMat sg rs es) es.length k)
  have ok := fun x => answ_ok (x := x) (k := k) P.ok
  have so := signs_of_eq P
  unfold mixD mixE mro
  unfold answ at hn ok ⊢
  cases hs : solve (gram es.length (SMat sg rs es)) (unitR es.length k) es.length with
  | none =>
    rw [hs] at hn
    simp only [List.map_nil, List.isEmpty_nil, Bool.not_true] at hn ⊢
    clear P hs so ok
    walk_at "ev"
  | some x =>
    rw [hs] at hn ok
    simp only [List.map_cons, List.map_nil, List.isEmpty_cons, Bool.not_false] at hn ⊢
    have d := wts_dot P (ok x (List.mem_singleton_self x))
    have f : fIx (.val (.list [rt (wts (SMat sg rs es) x)])) (.val (.int 0)) = mP (.val (rt (wts (SMat sg rs es) x))) := rfl
    clear P hs ok
    walk_at "ev"
theorem mixB_step (P : PlOk sg rs es o) {k : Nat} {acc : List PyData} {o6 : Option PyData} (hk : k < es.length) (ha : acc.length ≤ 100) : mixB (mro rs es o (TRD (SMat sg rs es)) (some (.int (k : Int))) o6) [some (.lst acc)] = .ok (.nx, mro rs es o (TRD (SMat sg rs es)) (some (.int (k : Int))) (some (.list ((answ (SMat sg rs es) es.length k).map fun x => rt (wts (SMat sg rs es) x))))) [some (.lst (acc ++ [mixD (SMat sg rs es) (osR sg rs o) es.length k]))] := by
  have e1 : sAsg (eCallI V_best_by (aCons (eVar 3) (aCons (eCallI V_lone_question (aCons (eArgs (b1 bLen) (aCons (eVar 1) aNil)) (aCons (eVar 5) aNil))) aNil))) (gVar 6) (mro rs es o (TRD (SMat sg rs es)) (some (.int (k : Int))) o6) = mP (.nx, mro rs es o (TRD (SMat sg rs es)) (some (.int (k : Int))) (some (.list ((answ (SMat sg rs es) es.length k).map fun x => rt (wts (SMat sg rs es) x))))) := by
    have b := best_by_eq (k := k) P.ok
    have l := lone_question_eq (n := es.length) (k := k) (by have := P.e1; omega)
    have le := bLen_t es
    unfold mro
    clear P
    walk_at "ev"
  unfold mixB
  refine (sCons_nx (congrFun e1 _)).trans ?_
  have me := mixE_eq (t := TRD (SMat sg rs es)) P hk
  have il := isLs_ref (h := [some (Cell.lst acc)]) (n := 0) (xs := acc) rfl
  have ap := mApp_ref (h := [some (Cell.lst acc)]) (n := 0) (xs := acc) (d := mixD (SMat sg rs es) (osR sg rs o) es.length k) rfl (by omega)
  generalize (answ (SMat sg rs es) es.length k).map (fun x => rt (wts (SMat sg rs es) x)) = bst at me ⊢
  generalize mixD (SMat sg rs es) (osR sg rs o) es.length k = md at me ap ⊢
  unfold mro at me ⊢
  simp only [Option.map_some] at me
  clear P e1
  walk_at "evh"
theorem mixB_loop (P : PlOk sg rs es o) : ∀ (k lo : Nat) (o5 o6 : Option PyData), lo + k ≤ es.length → ∃ o5' o6', MK.forM (gVar 5) mixB ((List.range' lo k).map fun (k : Nat) => PyData.int (k : Int)) (mro rs es o (TRD (SMat sg rs es)) o5 o6) [some (.lst ((List.range lo).map (mixD (SMat sg rs es) (osR sg rs o) es.length)))]
    = .ok (.nx, mro rs es o (TRD (SMat sg rs es)) o5' o6') [some (.lst ((List.range (lo + k)).map (mixD (SMat sg rs es) (osR sg rs o) es.length)))]
  | 0, lo, o5, o6, _ => ⟨o5, o6, rfl⟩
  | k + 1, lo, o5, o6, h => by
    have st := mixB_step P (k := lo) (acc := (List.range lo).map (mixD (SMat sg rs es) (osR sg rs o) es.length)) (o6 := o6) (by omega) (by rw [List.length_map, List.length_range]; have := P.e1; omega)
    have e0 : ((List.range lo).map (mixD (SMat sg rs es) (osR sg rs o) es.length)) ++ [mixD (SMat sg rs es) (osR sg rs o) es.length lo] = (List.range (lo + 1)).map (mixD (SMat sg rs es) (osR sg rs o) es.length) := by
      rw [List.range_succ, List.map_append]
      rfl
    rw [e0] at st
    obtain ⟨p5, p6, e⟩ := mixB_loop P k (lo + 1) (some (.int (lo : Int))) (some (.list ((answ (SMat sg rs es) es.length lo).map fun x => rt (wts (SMat sg rs es) x)))) (by omega)
    refine ⟨p5, p6, ?_⟩
    rw [List.range'_succ, List.map_cons, show lo + (k + 1) = lo + 1 + k by omega]
    exact (forM_consH (ρ1 := mro rs es o (TRD (SMat sg rs es)) (some (.int (lo : Int))) o6) (h1 := [some (.lst ((List.range lo).map (mixD (SMat sg rs es) (osR sg rs o) es.length)))]) rfl st).trans e
def dueD (sg : PyData → PyData → Int) (rs es : List PyData) (o : PyData) : PyData := .tuple ((List.range es.length).map (mixD (SMat sg rs es) (osR sg rs o) es.length))
theorem mix_by_runs (P : PlOk sg rs es o) : MK.Runs V_mix_by [.val (.tuple rs), .val (.tuple es), .val o] (dueD sg rs es o) := by
  have t := trial_by_eq P
  obtain ⟨p5, p6, e⟩ := mixB_loop P es.length 0 none none (by omega)
  rw [Nat.zero_add, ← List.range_eq_range'] at e
  have e1 : sPar 3 4 (aCons (eCallI V_trial_by (aCons (eVar 0) (aCons (eVar 1) aNil))) (aCons (eLst true aNil) aNil)) [some (.val (.tuple rs)), some (.val (.tuple es)), some (.val o), none, none, none, none] [] = .ok (.nx, mro rs es o (TRD (SMat sg rs es)) none none) [some (.lst [])] := by
    have q : eCallI V_trial_by (aCons (eVar 0) (aCons (eVar 1) aNil)) [some (.val (.tuple rs)), some (.val (.tuple es)), some (.val o), none, none, none, none] = mP (.val (TRD (SMat sg rs es))) := by
      clear P e
      walk_at "ev"
    rw [sPar_eq, aCons_eq, q]
    rfl
  refine fnV_runs (ρ := mro rs es o (TRD (SMat sg rs es)) p5 p6) (h' := [some (.lst ((List.range es.length).map (mixD (SMat sg rs es) (osR sg rs o) es.length)))]) rfl ?_
  unfold B_mix_by
  refine (sCons_nx e1).trans ((sCons_nx (ρ' := mro rs es o (TRD (SMat sg rs es)) p5 p6) (h' := [some (.lst ((List.range es.length).map (mixD (SMat sg rs es) (osR sg rs o) es.length)))]) ?_).trans ?_)
  · have i0 : iRng1 (eArgs (b1 bLen) (aCons (eVar 1) aNil)) (mro rs es o (TRD (SMat sg rs es)) none none) = mP ((List.range es.length).map fun (k : Nat) => PyData.int (k : Int)) := iRng1_nat (by unfold mro; clear P e e1 t; walk_at "ev") (by have := P.e1; omega)
    rw [sFor_eq, i0]
    exact e
  · have bt := bTuple_ref (h := [some (Cell.lst ((List.range es.length).map (mixD (SMat sg rs es) (osR sg rs o) es.length)))]) (n := 0) (xs := (List.range es.length).map (mixD (SMat sg rs es) (osR sg rs o) es.length)) rfl
    unfold mro dueD
    clear P e e1 t
    walk_at "evh"
def tellD (S : Mat) (n k : Nat) : PyData := match solve (gram n S) (unitR n k) n with
  | none => .none
  | some x => rl (wts S x)
theorem fIsN_v (x : PyData) : fIsN (.val x) (.val .none) = mP (.val (.bool (isNoneB (.val x)))) := rfl
theorem fNotN_v (x : PyData) : fNotN (.val x) (.val .none) = mP (.val (.bool (!isNoneB (.val x)))) := rfl
theorem isN_none : isNoneB (.val .none) = true := rfl
theorem isN_rl (x : List Rat) : isNoneB (.val (rl x)) = false := rfl
theorem isN_fr (x : Rat) : isNoneB (.val (fr x)) = false := rfl
theorem law_weights_eq {S : Mat} {n k : Nat} (O : OkS S n) : V__law_weights [.val (TRD S), .val (rt (unitR n k))] = mP (.val (tellD S n k)) := by
  have lt := iso_of (law_table_runs O)
  have hl : (gram n S).length = (unitR n k).length := by rw [gram_len, unitR_len]
  have r := law_any_runs (q := rt (unitR n k)) (Sq.t _) hl (by rw [gram_len]; exact O.n0) (by rw [gram_len]; have := O.n1; omega) (gram_rect n S) (by have := O.n1; omega) (show 0 < 16 by omega) (Nat.lt_of_le_of_lt (grow16 O.n1) pow200) (gram_cd O k)
  unfold tellD
  cases hs : solve (gram n S) (unitR n k) n with
  | none =>
    rw [hs] at r
    have r : iso (V__law_any [.val (.list ((gram n S).map rl)), .val (rt (unitR n k))]) = mP (.val .none) := iso_of r
    have f := fIsN_v .none
    rw [isN_none] at f
    have e1 : sAsg (eCallI V__law_any (aCons (eCallI V__law_table (aCons (eVar 0) aNil)) (aCons (eVar 1) aNil))) (gVar 2) [some (.val (TRD S)), some (.val (rt (unitR n k))), none, none] = mP (.nx, [some (.val (TRD S)), some (.val (rt (unitR n k))), some (.val .none), none]) := by
      clear O hl hs
      walk_at "ev"
    have e2 : sIf (tE (eOp2 fIsN (eVar 2) (eC .none))) (sRet (eC .none)) sNil [some (.val (TRD S)), some (.val (rt (unitR n k))), some (.val .none), none] = mP (.rt (.val .none), [some (.val (TRD S)), some (.val (rt (unitR n k))), some (.val .none), none]) := by
      clear O hl hs r e1
      walk_at "ev"
    unfold V__law_weights B__law_weights
    simp only [fnV, List.length_cons, List.length_nil, Nat.zero_add, Nat.reduceAdd, decide_true, guard_t, mB_mP, List.map_cons, List.map_nil, Nat.reduceSub, List.replicate, List.cons_append, List.nil_append, sCons_eq, e1, e2]
    exact mCall_rt _ _
  | some x =>
    rw [hs] at r
    have r : iso (V__law_any [.val (.list ((gram n S).map rl)), .val (rt (unitR n k))]) = mP (.val (rl x)) := iso_of r
    have f := fIsN_v (rl x)
    rw [isN_rl] at f
    have hx := sol_ok O hs
    have a0 := TRD_0 S
    have a1 := TRD_1 S
    have l : bLen (.val (.tuple (S.map rt))) = mP (.val (.int (S.length : Nat))) := by rw [bLen_t, List.length_map]
    have c : eLc false (iRng1 (eArgs (b1 bLen) (aCons (eOp2 fIx (eVar 0) (eC (.int 0))) aNil))) (gVar 3) tYesM (eCallI V__law_over (aCons (eCallI V__law_dot (aCons (eOp2 fIx (eOp2 fIx (eVar 0) (eC (.int 0))) (eVar 3)) (aCons (eVar 2) aNil))) (aCons (eOp2 fIx (eOp2 fIx (eVar 0) (eC (.int 1))) (eVar 3)) aNil))) [3] [some (.val (TRD S)), some (.val (rt (unitR n k))), some (.val (rl x)), none] = mP (.val (.list ((List.range S.length).map fun p => fr (rdot (S.getD p []) x)))) := by
      refine eLc_map (xs := List.range S.length) (f := fun (k : Nat) => PyData.int (k : Int)) (ρ' := fun p => [some (.val (TRD S)), some (.val (rt (unitR n k))), some (.val (rl x)), some (.val (.int (p : Int)))]) (iRng1_nat (by clear O hl hs hx; walk_at "ev") (by have := O.m1; omega)) (by rw [List.length_range]; have := O.m1; omega) rfl (fun k _ => rfl) (fun k _ => rfl) (fun p hp => ?_)
      have hp := List.mem_range.mp hp
      have hmem : S.getD p [] ∈ S := by rw [getD_get hp]; exact List.getElem_mem hp
      have hm := ent_mem' O hmem
      have hlp := getD_row O.rect hp
      have g1 : fIx (.val (.tuple (S.map rt))) (.val (.int (p : Int))) = mP (.val (rt (S.getD p []))) := (Sq.t _).ix (row_t hp)
      have g2 : fIx (.val (.tuple (ones S.length))) (.val (.int (p : Int))) = mP (.val (fr 1)) := (Sq.t _).ix (by unfold ones; rw [List.getElem?_replicate, if_pos hp])
      have d := law_dot_eq (p := rt (S.getD p [])) (q := rl x) (Sq.t _) (Sq.l _) (by rw [hlp, hx.len]) (h1_sz hm) hx.sz (by have := O.n1; omega) (hx.sum hm (by have := O.n1; omega))
      have ov := law_over_eq (wts_sz O hx hmem) (sz_small hd1 (by omega) (by omega) (by omega)) (by decide : (1 : Rat) ≠ 0)
      rw [div_one'] at ov
      clear O hl hs hx hlp hm hmem r lt
      walk_at "ev"
    have e0 : ((List.range S.length).map fun p => fr (rdot (S.getD p []) x)) = (wts S x).map fr := by
      rw [range_map [] (fun r => fr (rdot r x)) S]
      unfold wts
      rw [List.map_map]
      rfl
    rw [e0] at c
    unfold V__law_weights B__law_weights
    show _ = mP (SV.val (.list ((wts S x).map fr)))
    clear O hl hs hx e0
    walk_at "ev"
theorem law_mix_eq (P : PlOk sg rs es o) {k : Nat} (hk : k < es.length) : V__law_mix [.val (.tuple rs), .val (.tuple es), .val (.int (k : Int)), .val o] = mP (.val (mixD (SMat sg rs es) (osR sg rs o) es.length k)) := by
  have t := law_trial_of_eq P
  have u := law_unit_eq (n := es.length) (k := k) (by have := P.e1; omega)
  have w := law_weights_eq (k := k) P.ok
  have le := bLen_t es
  have e1 : sAsg (eCallI V__law_weights (aCons (eCallI V__law_trial_of (aCons (eVar 0) (aCons (eVar 1) aNil))) (aCons (eCallI V__law_unit (aCons (eArgs (b1 bLen) (aCons (eVar 1) aNil)) (aCons (eVar 2) aNil))) aNil))) (gVar 4) [some (.val (.tuple rs)), some (.val (.tuple es)), some (.val (.int (k : Int))), some (.val o), none, none] = mP (.nx, [some (.val (.tuple rs)), some (.val (.tuple es)), some (.val (.int (k : Int))), some (.val o), some (.val (tellD (SMat sg rs es) es.length k)), none]) := by
    clear P hk
    walk_at "ev"
  have ls := fun d => law_signs_eq (ρ := []) P (.val .none) (.val (.int (k : Int))) (.val .none) (some (.val d)) rfl
  have e2 : eIf (tE (eOp2 fIsN (eVar 4) (eC .none))) (eC .none) (eCallI V__law_dot (aCons (eVar 4) (aCons (eLc false (iSeq (eVar 0)) (gVar 5) tYesM (eTup (aCons (eCallI V__law_sign (aCons (eVar 5) (aCons (eVar 3) aNil))) (aCons (eC (.int 1)) aNil))) [5]) aNil))) [some (.val (.tuple rs)), some (.val (.tuple es)), some (.val (.int (k : Int))), some (.val o), some (.val (tellD (SMat sg rs es) es.length k)), none] = mP (.val (mixD (SMat sg rs es) (osR sg rs o) es.length k)) := by
    unfold tellD mixD
    cases hs : solve (gram es.length (SMat sg rs es)) (unitR es.length k) es.length with
    | none =>
      have f := fIsN_v .none
      rw [isN_none] at f
      clear P hk hs ls e1 w u t
      walk_at "ev"
    | some x =>
      have f := fIsN_v (rl (wts (SMat sg rs es) x))
      rw [isN_rl] at f
      have d := wts_ldot P (sol_ok P.ok hs)
      have ls := ls (rl (wts (SMat sg rs es) x))
      simp only
      clear P hk hs e1 w u t
      walk_at "ev"
  unfold V__law_mix B__law_mix
  simp only [fnV, List.length_cons, List.length_nil, Nat.zero_add, Nat.reduceAdd, decide_true, guard_t, mB_mP, List.map_cons, List.map_nil, Nat.reduceSub, List.replicate, List.cons_append, List.nil_append, sCons_eq, sRet_eq, e1, e2]
  exact mCall_rt _ _
end GL
set_option Elab.async false
set_option linter.all false
set_option maxRecDepth 100000
set_option maxHeartbeats 4000000
/-! Pool: the drawn figures. -/
namespace GL
open MK PySem PySem.Spec PyProof.Rows L2
theorem fmod_rng {x m : Int} (h : 0 < m) : 0 ≤ x.fmod m ∧ x.fmod m < m := ⟨Int.fmod_nonneg_of_pos x h, Int.fmod_lt_of_pos x h⟩
theorem fMul_ok {o : Bool} {h : Hm} {i j : Int} (hi : 0 ≤ i ∧ i < 4294967296) (hj : 0 ≤ j ∧ j < 4294967296) : fMul o (.val (.int i)) (.val (.int j)) h = .ok (.val (.int (i * j))) h := by
  have := bits_small hi.1 hi.2
  have := bits_small hj.1 hj.2
  show mB (guard (decide (Builtin.Int.intBits i + Builtin.Int.intBits j ≤ 134217728))) (fun _ => vI (i * j)) h = _
  rw [mB_ok (guard_ok (decide_eq_true (by omega)))]
  rfl
theorem fAdd_ok {o : Bool} {h : Hm} {i j : Int} : fAdd o (.val (.int i)) (.val (.int j)) h = .ok (.val (.int (i + j))) h := rfl
theorem fMod_ok {h : Hm} {i j : Int} (hj : j ≠ 0) : fMod (.val (.int i)) (.val (.int j)) h = .ok (.val (.int (i.fmod j))) h := by
  show mB (guard (decide (j ≠ 0))) (fun _ => vI (i.fmod j)) h = _
  rw [mB_ok (guard_ok (decide_eq_true hj))]
  rfl
theorem fDiv_ok {h : Hm} {i j : Int} (hj : j ≠ 0) (hk : j.natAbs < 1073741824) : fDiv (.val (.int i)) (.val (.int j)) h = .ok (.val (.int (i.fdiv j))) h := by
  show mB (guard (decide (j ≠ 0) && !Builtin.divisionGoesByPylong i j)) (fun _ => vI (i.fdiv j)) h = _
  rw [mB_ok (guard_ok (by rw [decide_eq_true hj, PyProof.noPylong_small hk]; rfl))]
  rfl
theorem divmod_ok {h : Hm} {i j : Int} (hj : 0 < j) (hk : j.natAbs < 1073741824) : bDivmod (.val (.int i)) (.val (.int j)) h = .ok (.val (.tuple [.int (i / j), .int (i % j)])) h := by
  show mB (guard (decide (0 < j) && !Builtin.divisionGoesByPylong i j)) _ h = _
  rw [mB_ok (guard_ok (by rw [decide_eq_true hj, PyProof.noPylong_small hk]; rfl))]
  rfl
theorem op2_ok {F : SV → SV → Mm SV} {a b : Em} {ρ : Ro} {h h1 h2 : Hm} {x y : SV} {r : Res SV} (ea : a ρ h = .ok x h1) (eb : b ρ h1 = .ok y h2) (e : F x y h2 = r) : eOp2 F a b ρ h = r := by
  unfold eOp2
  rw [mB_ok ea, mB_ok eb]
  exact e
theorem ix_ok {h : Hm} {n : Nat} {xs : List PyData} {i : Int} {d : PyData} (hn : h[n]? = some (some (.lst xs))) (hi : atI xs i = some d) : fIx (.ref n) (.val (.int i)) h = .ok (.val d) h := by
  unfold fIx
  rw [mB_ok (h' := h) (a := xs) (by unfold mSeq; simp only [hn])]
  rw [mB_ok (m := mInt (.val (.int i))) (h' := h) (a := i) rfl, hi]
  rfl
theorem int_ok {a : Em} {ρ : Ro} {h h' : Hm} {i : Int} (e : a ρ h = .ok (.val (.int i)) h') : eArgs (b1 bIntB) (aCons a aNil) ρ h = .ok (.val (.int i)) h' := by
  unfold eArgs aCons
  rw [mB_ok (h' := h') (a := [SV.val (.int i)]) (by rw [mB_ok e]; rfl)]
  rfl
theorem set_ok {h : Hm} {n : Nat} {xs : List PyData} {k : Int} {j : Nat} {d : PyData} {a b : Em} {ρ : Ro} (ea : a ρ h = .ok (.ref n) h) (eb : b ρ h = .ok (.val (.int k)) h) (hn : h[n]? = some (some (.lst xs))) (hi : ixN xs.length k = some j) : gIx a b (.val d) ρ h = .ok ρ (h.set n (some (.lst (xs.set j d)))) := by
  unfold gIx
  rw [mB_ok ea, mB_ok eb, mB_ok (h' := h.set n (some (.lst (xs.set j d)))) (a := ())]
  · rfl
  · unfold mSetIx
    rw [mB_ok (m := mInt (.val (.int k))) (h' := h) (a := k) rfl, mB_ok (m := mD (.val d)) (h' := h) (a := d) rfl]
    simp only [hn, hi]
theorem asg_ok {a : Em} {t : Gm} {ρ ρ' : Ro} {h h1 h2 : Hm} {d : SV} (e : a ρ h = .ok d h1) (et : t d ρ h1 = .ok ρ' h2) : sAsg a t ρ h = .ok (.nx, ρ') h2 := by unfold sAsg; rw [mB_ok e, mB_ok et]; rfl
theorem set_get {h : Hm} {n : Nat} {c c' : Option Cell} (hn : h[n]? = some c) : (h.set n c')[n]? = some c' := by
  have : n < h.length := by
    rcases Nat.lt_or_ge n h.length with q | q
    · exact q
    · rw [List.getElem?_eq_none q] at hn; cases hn
  rw [List.getElem?_set_self this]
/-- one drawn figure -/
theorem below_ok {h : Hm} {n j : Nat} {m : Int} (hp : Pool h n j) (hj : j < 1000) (m0 : 0 < m) (m1 : m < 1000) :
    ∃ r h', V__law_below [.ref n, .val (.int m)] h = .ok (.val (.int r)) h' ∧ 0 ≤ r ∧ r < m ∧ Pool h' n (j + 1) ∧ h'.length = h.length ∧ ∀ q, q ≠ n → h'[q]? = h[q]? := by
  obtain ⟨a, b, c, hn, a0, b0, b1, c0, c1⟩ := hp
  have call : ∀ {ρ' : Ro} {h' : Hm} {r : Int}, B__law_below [some (.ref n), some (.val (.int m)), none, none] h = .ok (.rt (.val (.int r)), ρ') h' → h'.length = h.length → V__law_below [.ref n, .val (.int m)] h = .ok (.val (.int r)) h' := by
    intro ρ' h' r e hl
    show mCall (B__law_below [some (.ref n), some (.val (.int m)), none, none]) h = _
    unfold mCall
    rw [e]
    simp only
    rw [← hl, List.take_length]
  by_cases ha : 0 < a
  · refine ⟨a % m, h.set n (some (.lst [.int (a / m), .int b, .int c])), call (ρ' := [some (.ref n), some (.val (.int m)), some (.val (.int (a % m))), none]) ?_ (by simp), Int.emod_nonneg _ (by omega), Int.emod_lt_of_pos _ m0, ⟨_, b, c, set_get hn, Int.ediv_nonneg a0 (by omega), b0, b1, c0, by omega⟩, by simp, fun q hq => List.getElem?_set_ne (fun z => hq z.symm)⟩
    unfold B__law_below
    refine (sCons_rt ?_)
    unfold sIf
    rw [mB_ok (h' := h) (a := true)]
    · rw [if_pos rfl]
      refine (sCons_nx (asg_ok (d := .val (.tuple [.int (a / m), .int (a % m)])) (h1 := h) ?_ (ρ' := [some (.ref n), some (.val (.int m)), some (.val (.int (a % m))), none]) ?_)).trans rfl
      · unfold eArgs aCons
        rw [mB_ok (h' := h) (a := [SV.val (.int a), SV.val (.int m)])]
        · exact divmod_ok m0 (by omega)
        · rw [mB_ok (h' := h) (a := .val (.int a)) (op2_ok (h1 := h) (h2 := h) rfl rfl (ix_ok hn rfl))]
          rfl
      · show mB (gIx (eVar 0) (eC (.int 0)) (.val (.int (a / m))) _) _ h = _
        rw [mB_ok (set_ok (k := 0) (j := 0) (n := n) rfl rfl hn rfl)]
        rfl
    · unfold tE
      rw [mB_ok (h' := h) (a := .val (.bool true))]
      · rfl
      · refine op2_ok (h1 := h) (h2 := h) (op2_ok (h1 := h) (h2 := h) rfl rfl (ix_ok hn rfl)) rfl ?_
        show Res.ok (SV.val (.bool (decide (0 < a)))) h = _
        rw [decide_eq_true ha]
  · have hs : ∀ {x : Int}, 0 ≤ x → x < 2147483629 → (0 ≤ x ∧ x < 4294967296) := fun a b => ⟨a, by omega⟩
    obtain ⟨s1, hs1⟩ : ∃ s, (b * 48677 + 3413 * (c + 1) + 61).fmod 2147483563 = s := ⟨_, rfl⟩
    have s1r : 0 ≤ s1 ∧ s1 < 2147483563 := hs1 ▸ fmod_rng (by decide)
    obtain ⟨s2, hs2⟩ : ∃ s, (s1 * (s1.fmod 4001 + 17911) + (c + 1)).fmod 2147483563 = s := ⟨_, rfl⟩
    have s2r : 0 ≤ s2 ∧ s2 < 2147483563 := hs2 ▸ fmod_rng (by decide)
    have s3r : 0 ≤ s1.fmod 4001 ∧ s1.fmod 4001 < 4001 := fmod_rng (by decide)
    have hn1 : (h.set n (some (.lst [.int a, .int b, .int (c + 1)])))[n]? = some (some (.lst [.int a, .int b, .int (c + 1)])) := set_get hn
    have hn2 : ((h.set n (some (.lst [.int a, .int b, .int (c + 1)]))).set n (some (.lst [.int a, .int s2, .int (c + 1)])))[n]? = some (some (.lst [.int a, .int s2, .int (c + 1)])) := set_get hn1
    refine ⟨((s2.fdiv 367)).fmod m, (h.set n (some (.lst [.int a, .int b, .int (c + 1)]))).set n (some (.lst [.int a, .int s2, .int (c + 1)])), call (ρ' := [some (.ref n), some (.val (.int m)), none, some (.val (.int s1))]) ?_ (by simp), (fmod_rng m0).1, (fmod_rng m0).2, ⟨a, s2, c + 1, hn2, a0, s2r.1, by omega, by omega, by omega⟩, by simp, fun q hq => by rw [List.getElem?_set_ne (fun z => hq z.symm), List.getElem?_set_ne (fun z => hq z.symm)]⟩
    unfold B__law_below
    refine (sCons_nx (ρ' := [some (.ref n), some (.val (.int m)), none, none]) (h' := h) ?_).trans ?_
    · unfold sIf
      rw [mB_ok (h' := h) (a := false)]
      · rfl
      · unfold tE
        rw [mB_ok (h' := h) (a := .val (.bool false))]
        · rfl
        · refine op2_ok (h1 := h) (h2 := h) (op2_ok (h1 := h) (h2 := h) rfl rfl (ix_ok hn rfl)) rfl ?_
          show Res.ok (SV.val (.bool (decide (0 < a)))) h = _
          rw [decide_eq_false ha]
    refine (sCons_nx (asg_ok (op2_ok (op2_ok (h1 := h) (h2 := h) rfl rfl (ix_ok hn rfl)) rfl fAdd_ok) (set_ok (k := 2) (j := 2) (n := n) rfl rfl hn rfl))).trans ?_
    show sCons _ _ _ (h.set n (some (.lst [.int a, .int b, .int (c + 1)]))) = _
    generalize h.set n (some (.lst [.int a, .int b, .int (c + 1)])) = k at hn1 hn2 ⊢
    refine (sCons_nx (asg_ok (op2_ok (h2 := k) (int_ok (op2_ok (op2_ok (op2_ok (op2_ok rfl rfl (ix_ok hn1 rfl)) rfl (fMul_ok (by omega) (by omega))) (op2_ok rfl (op2_ok rfl rfl (ix_ok hn1 rfl)) (fMul_ok (by omega) (by omega))) fAdd_ok) rfl fAdd_ok)) rfl (fMod_ok (by decide))) rfl)).trans ?_
    rw [hs1]
    refine (sCons_nx (asg_ok (op2_ok (h2 := k) (int_ok (op2_ok (op2_ok rfl (op2_ok (op2_ok (int_ok rfl) rfl (fMod_ok (by decide))) rfl fAdd_ok) (fMul_ok (by omega) (by omega))) (op2_ok rfl rfl (ix_ok hn1 rfl)) fAdd_ok)) rfl (fMod_ok (by decide))) (set_ok (k := 1) (j := 1) (n := n) rfl rfl hn1 rfl))).trans ?_
    rw [hs2]
    unfold sRet
    rw [mB_ok (op2_ok (int_ok (op2_ok (op2_ok rfl rfl (ix_ok hn2 rfl)) rfl (fDiv_ok (by decide) (by decide)))) rfl (fMod_ok (by omega)))]
    rfl
end GL
set_option Elab.async false
set_option linter.all false
set_option maxRecDepth 100000
set_option maxHeartbeats 4000000
/-! Pool2: one of some; the pool. -/
namespace GL
open MK PySem PySem.Spec PyProof.Rows L2
theorem one_ok {h : Hm} {n j : Nat} {xs : List PyData} (hp : Pool h n j) (hj : j < 1000) (m0 : 0 < xs.length) (m1 : xs.length < 1000) :
    ∃ d h', d ∈ xs ∧ V__law_one [.ref n, .val (.list xs)] h = .ok (.val d) h' ∧ Pool h' n (j + 1) ∧ h'.length = h.length ∧ ∀ q, q ≠ n → h'[q]? = h[q]? := by
  obtain ⟨r, h', e, r0, r1, p, hl, fm⟩ := below_ok (m := (xs.length : Nat)) hp hj (by omega) (by omega)
  obtain ⟨i, rfl⟩ : ∃ i : Nat, r = (i : Int) := ⟨r.toNat, by omega⟩
  have hi : i < xs.length := by omega
  refine ⟨xs[i], h', List.getElem_mem hi, ?_, p, hl, fm⟩
  show mCall (B__law_one [some (.ref n), some (.val (.list xs))]) h = _
  have : B__law_one [some (.ref n), some (.val (.list xs))] h = .ok (.rt (.val xs[i]), [some (.ref n), some (.val (.list xs))]) h' := by
    unfold B__law_one sRet
    rw [mB_ok (h' := h') (a := SV.val xs[i])]
    · rfl
    · refine op2_ok (h1 := h) (h2 := h') (x := SV.val (.list xs)) (y := SV.val (.int (i : Nat))) rfl ?_ ?_
      · exact e
      · show mB (opt (atI xs (i : Int))) (fun d => mP (SV.val d)) h' = _
        have : atI xs (i : Int) = some xs[i] := by
          unfold atI ixN
          rw [if_pos (by omega), if_pos (by omega)]
          simp
        rw [this]
        rfl
  unfold mCall
  rw [this]
  simp only
  rw [← hl, List.take_length]
def wrp (d : PyData) : Bool := match d with
  | .int _ => true
  | _ => false
theorem stir_ok {o1 o2 o3 : Option SV} : ∀ (ns : List Int) (s : Int) (o4 : Option SV) (h : Hm), 0 ≤ s → s < 2147483629 → ∃ s' o, 0 ≤ s' ∧ s' < 2147483629 ∧
    forM (gVar 4) (sAsg (eOp2 fMod (eArgs (b1 bIntB) (aCons (eOp2 (fAdd false) (eOp2 (fAdd false) (eOp2 (fMul false) (eVar 3) (eC (.int 40699))) (eOp2 fMod (eArgs (b1 bIntB) (aCons (eVar 4) aNil)) (eC (.int 2147483587)))) (eC (.int 23))) aNil)) (eC (.int 2147483629))) (gVar 3)) (ns.map .int) [o1, o2, o3, some (.val (.int s)), o4] h
      = .ok (.nx, [o1, o2, o3, some (.val (.int s')), o]) h
  | [], s, o4, h, s0, s1 => ⟨s, o4, s0, s1, rfl⟩
  | i :: ns, s, o4, h, s0, s1 => by
    have r := fmod_rng (x := s * 40699 + i.fmod 2147483587 + 23) (m := 2147483629) (by decide)
    obtain ⟨s', o, a, b, e⟩ := stir_ok (o1 := o1) (o2 := o2) (o3 := o3) ns ((s * 40699 + i.fmod 2147483587 + 23).fmod 2147483629) (some (.val (.int i))) h r.1 r.2
    refine ⟨s', o, a, b, ?_⟩
    rw [List.map_cons, forM_nx (ρ1 := [o1, o2, o3, some (.val (.int s)), some (.val (.int i))]) (h1 := h) rfl (asg_ok (op2_ok (h2 := h) (int_ok (op2_ok (op2_ok (op2_ok rfl rfl (fMul_ok (by omega) (by omega))) (op2_ok (int_ok rfl) rfl (fMod_ok (by decide))) fAdd_ok) rfl fAdd_ok)) rfl (fMod_ok (by decide))) rfl)]
    exact e
theorem cut_map (ns : List Int) (lo hi : Option Int) : ∃ ms : List Int, MK.cutD (ns.map .int) lo hi = ms.map .int := by
  unfold MK.cutD
  exact ⟨_, by rw [← List.map_drop, ← List.map_take]⟩
theorem pool_ok (ns : List Int) (lap : Nat) (hl : lap < 3) (h : Hm) : ∃ h', V__law_pool [.val (.list (ns.map .int)), .val (.int lap)] h = .ok (.ref h.length) h' ∧ Pool h' h.length 0 ∧ h'.length = h.length + 1 := by
  have fin : ∀ {ρ' : Ro} {a b : Int}, 0 ≤ a → 0 ≤ b → b < 2147483629 → B__law_pool [some (.val (.list (ns.map .int))), some (.val (.int lap)), none, none, none] h = .ok (.rt (.ref h.length), ρ') (h ++ [some (.lst [.int a, .int b, .int 0])]) → ∃ h', V__law_pool [.val (.list (ns.map .int)), .val (.int lap)] h = .ok (.ref h.length) h' ∧ Pool h' h.length 0 ∧ h'.length = h.length + 1 := by
    intro ρ' a b a0 b0 b1 e
    refine ⟨h ++ [some (.lst [.int a, .int b, .int 0])], ?_, ⟨a, b, 0, last_get, a0, b0, b1, by decide, by decide⟩, by simp⟩
    show mCall (B__law_pool [some (.val (.list (ns.map .int))), some (.val (.int lap)), none, none, none]) h = _
    unfold mCall
    rw [e]
    simp only [Nat.lt_irrefl, if_false, last_get]
    rw [List.take_left']
    rfl
  obtain ⟨c, hc⟩ : ∃ c : Int, eIf (tE (eOp2 fLt (eVar 1) (eArgs (b1 bLen) (aCons (eVar 0) aNil)))) (eArgs (b1 bIntB) (aCons (eOp2 fIx (eVar 0) (eVar 1)) aNil)) (eOp2 (fAdd false) (eOp2 (fMul false) (eC (.int 8887)) (eVar 1)) (eC (.int 1237))) [some (.val (.list (ns.map .int))), some (.val (.int lap)), none, none, none] h = .ok (.val (.int c)) h := by
    unfold eIf
    have t0 : tE (eOp2 fLt (eVar 1) (eArgs (b1 bLen) (aCons (eVar 0) aNil))) [some (.val (.list (ns.map .int))), some (.val (.int lap)), none, none, none] h = .ok (decide ((lap : Int) < ((ns.map PyData.int).length : Nat))) h := rfl
    rw [mB_ok t0]
    by_cases q : (lap : Int) < ((ns.map PyData.int).length : Nat)
    · rw [if_pos (decide_eq_true q)]
      have q' : lap < ns.length := by simpa using q
      refine ⟨ns[lap], int_ok (op2_ok (h1 := h) (h2 := h) (x := SV.val (.list (ns.map .int))) (y := SV.val (.int lap)) rfl rfl ?_)⟩
      show mB (opt (atI (ns.map PyData.int) (lap : Int))) (fun d => mP (SV.val d)) h = _
      have : atI (ns.map PyData.int) (lap : Int) = some (.int ns[lap]) := by
        unfold atI ixN
        rw [if_pos (by omega), if_pos q]
        simp [q']
      rw [this]
      rfl
    · rw [if_neg (by rw [decide_eq_false q]; decide)]
      exact ⟨_, op2_ok (op2_ok (h1 := h) (h2 := h) rfl rfl (fMul_ok (by omega) (by omega))) rfl fAdd_ok⟩
  obtain ⟨s1, o, s10, s11, e3⟩ := stir_ok (o1 := some (.val (.list (ns.map .int)))) (o2 := some (.val (.int lap))) (o3 := some (.val (.int c))) (cut_map ns none (some 63)).choose (95261 + 9013 * (lap : Int)) none h (by omega) (by omega)
  have r4 : 0 ≤ c.fmod 2147483587 ∧ c.fmod 2147483587 < 2147483587 := fmod_rng (by decide)
  obtain ⟨s2, hs2⟩ : ∃ s, (s1 * 97 + c.fmod 2147483587 * 31013 + 7).fmod 2147483629 = s := ⟨_, rfl⟩
  have s2r : 0 ≤ s2 ∧ s2 < 2147483629 := hs2 ▸ fmod_rng (by decide)
  obtain ⟨a, ha, e5⟩ : ∃ a : Int, 0 ≤ a ∧ eIf (tOr (tE (eOp2 fLt (eVar 2) (eC (.int 0)))) (tE (eOp2 fGe (eVar 2) (eOp2 fPow (eC (.int 10)) (eC (.int 15)))))) (eArgs (b1 bAbs) (aCons (eVar 2) aNil)) (eC (.int 0)) [some (.val (.list (ns.map .int))), some (.val (.int lap)), some (.val (.int c)), some (.val (.int s2)), o] h = .ok (.val (.int a)) h := by
    have tor : ∃ k, tOr (tE (eOp2 fLt (eVar 2) (eC (.int 0)))) (tE (eOp2 fGe (eVar 2) (eOp2 fPow (eC (.int 10)) (eC (.int 15))))) [some (.val (.list (ns.map .int))), some (.val (.int lap)), some (.val (.int c)), some (.val (.int s2)), o] h = .ok k h := by
      unfold MK.tOr
      have t0 : tE (eOp2 fLt (eVar 2) (eC (.int 0))) [some (.val (.list (ns.map .int))), some (.val (.int lap)), some (.val (.int c)), some (.val (.int s2)), o] h = .ok (decide (c < 0)) h := rfl
      rw [mB_ok t0]
      by_cases q : c < 0
      · exact ⟨true, by rw [if_pos (decide_eq_true q)]; rfl⟩
      · refine ⟨decide ((10 : Int) ^ (15 : Nat) ≤ c), ?_⟩
        rw [if_neg (by rw [decide_eq_false q]; decide)]
        unfold tE
        rw [mB_ok (a := SV.val (.bool (decide ((10 : Int) ^ (15 : Nat) ≤ c)))) (h' := h)]
        · rfl
        · exact op2_ok (h1 := h) (h2 := h) (y := SV.val (.int (10 ^ 15))) rfl (by kernel_rfl) rfl
    obtain ⟨k, tk⟩ := tor
    unfold eIf
    rw [mB_ok tk]
    cases k with
    | true => exact ⟨if c < 0 then -c else c, by split <;> omega, rfl⟩
    | false => exact ⟨0, by decide, rfl⟩
  refine fin (ρ' := [some (.val (.list (ns.map .int))), some (.val (.int lap)), some (.val (.int c)), some (.val (.int s2)), o]) ha s2r.1 s2r.2 ?_
  unfold B__law_pool
  refine (sCons_nx (sAsg_var hc)).trans ?_
  refine (sCons_nx (sAsg_var (op2_ok (h1 := h) rfl (op2_ok rfl rfl (fMul_ok (by omega) (by omega))) fAdd_ok))).trans ?_
  refine (sCons_nx (ρ' := [some (.val (.list (ns.map .int))), some (.val (.int lap)), some (.val (.int c)), some (.val (.int s1)), o]) (h' := h) ?_).trans ?_
  · unfold sFor
    have t0 : iSeq (eSl false (eVar 0) oNone (oSome (eC (.int 63)))) [some (.val (.list (ns.map .int))), some (.val (.int lap)), some (.val (.int c)), some (.val (.int (95261 + 9013 * (lap : Int)))), none] h = .ok (MK.cutD (ns.map .int) none (some 63)) h := rfl
    refine (mB_ok t0).trans ?_
    rw [(cut_map ns none (some 63)).choose_spec]
    exact e3
  refine (sCons_nx (asg_ok (op2_ok (h2 := h) (int_ok (op2_ok (op2_ok (op2_ok rfl rfl (fMul_ok (by omega) (by omega))) (op2_ok (op2_ok (int_ok rfl) rfl (fMod_ok (by decide))) rfl (fMul_ok (by omega) (by omega))) fAdd_ok) rfl fAdd_ok)) rfl (fMod_ok (by decide))) rfl)).trans ?_
  rw [hs2]
  exact sRet_ok (eLst_ok (aCons_ok e5 rfl) rfl)
theorem one_okT {h : Hm} {n j : Nat} {xs : List PyData} (hp : Pool h n j) (hj : j < 1000) (m0 : 0 < xs.length) (m1 : xs.length < 1000) :
    ∃ d h', d ∈ xs ∧ V__law_one [.ref n, .val (.tuple xs)] h = .ok (.val d) h' ∧ Pool h' n (j + 1) ∧ h'.length = h.length ∧ ∀ q, q ≠ n → h'[q]? = h[q]? := by
  obtain ⟨r, h', e, r0, r1, p, hl, fm⟩ := below_ok (m := (xs.length : Nat)) hp hj (by omega) (by omega)
  obtain ⟨i, rfl⟩ : ∃ i : Nat, r = (i : Int) := ⟨r.toNat, by omega⟩
  have hi : i < xs.length := by omega
  refine ⟨xs[i], h', List.getElem_mem hi, ?_, p, hl, fm⟩
  show mCall (B__law_one [some (.ref n), some (.val (.tuple xs))]) h = _
  have : B__law_one [some (.ref n), some (.val (.tuple xs))] h = .ok (.rt (.val xs[i]), [some (.ref n), some (.val (.tuple xs))]) h' := by
    unfold B__law_one sRet
    rw [mB_ok (h' := h') (a := SV.val xs[i])]
    · rfl
    · refine op2_ok (h1 := h) (h2 := h') (x := SV.val (.tuple xs)) (y := SV.val (.int (i : Nat))) rfl ?_ ?_
      · exact e
      · show mB (opt (atI xs (i : Int))) (fun d => mP (SV.val d)) h' = _
        have : atI xs (i : Int) = some xs[i] := by
          unfold atI ixN
          rw [if_pos (by omega), if_pos (by omega)]
          simp
        rw [this]
        rfl
  unfold mCall
  rw [this]
  simp only
  rw [← hl, List.take_length]
end GL
set_option Elab.async false
set_option linter.all false
set_option maxRecDepth 100000
set_option maxHeartbeats 4000000
/-! plans drawn: what is closed. -/
namespace GL
open MK PySem PySem.Spec PyProof.Rows L2 LA
def app (k : Nat) : PyData → PyData
  | .tuple xs => .tuple (xs ++ [.int (k : Int)])
  | d => d
def effL : Nat → List PyData
  | 0 => [.tuple []]
  | k + 1 => effL k ++ (effL k).map (app k)
theorem effL_tup : ∀ k, ∀ d ∈ effL k, ∃ xs, d = .tuple xs ∧ xs.length ≤ k
  | 0, d, h => by
    rw [effL, List.mem_singleton] at h
    exact ⟨[], h, by simp⟩
  | k + 1, d, h => by
    rw [effL, List.mem_append] at h
    rcases h with h | h
    · obtain ⟨xs, e, l⟩ := effL_tup k d h
      exact ⟨xs, e, by omega⟩
    · obtain ⟨e', he, rfl⟩ := List.mem_map.mp h
      obtain ⟨xs, rfl, l⟩ := effL_tup k e' he
      exact ⟨_, rfl, by rw [List.length_append, List.length_singleton]; omega⟩
theorem effL_len : ∀ k, (effL k).length = 2 ^ k
  | 0 => rfl
  | k + 1 => by rw [effL, List.length_append, List.length_map, effL_len k, Nat.pow_succ]; omega
theorem effL_pd : ∀ k, k ≤ 4 → pdsB (effL k) (effL k) = true
  | 0, _ => by kernel_rfl
  | 1, _ => by kernel_rfl
  | 2, _ => by kernel_rfl
  | 3, _ => by kernel_rfl
  | 4, _ => by kernel_rfl
  | k + 5, h => by omega
theorem cellB_ok {m : Nat} {X : List PyData} {H : Hm} (hm : H[m]? = some (some (.lst X))) (this : pdsB X X = true) : cellB m X H = .ok () H := by
  unfold cellB
  simp [hm, this]
theorem lcC_app {f : SV} {m k : Nat} {X : List PyData} {H : Hm} (hm : H[m]? = some (some (.lst X))) (hpd : pdsB X X = true) : ∀ (ds : List PyData), (∀ d ∈ ds, ∃ xs, d = .tuple xs ∧ xs.length ≤ 100) →
    lcLoopC m X (gVar 3) tYesM (eOp2 (fAdd false) (eVar 3) (eTup (aCons (eVar 2) aNil))) [some f, some (.ref m), some (.val (.int (k : Int))), none] ds H = .ok (ds.map (app k)) H
  | [], _ => by
    show mB (cellB m X) (fun _ => mP []) H = _
    have : cellB m X H = .ok () H := cellB_ok hm hpd
    rw [mB_app this]
    rfl
  | d :: ds, h => by
    have ih := lcC_app (f := f) (k := k) hm hpd ds fun x hx => h x (List.mem_cons_of_mem _ hx)
    obtain ⟨xs, rfl, hl⟩ := h d List.mem_cons_self
    have c : cellB m X H = .ok () H := cellB_ok hm hpd
    have e : eOp2 (fAdd false) (eVar 3) (eTup (aCons (eVar 2) aNil)) [some f, some (.ref m), some (.val (.int (k : Int))), some (.val (.tuple xs))] = mP (.val (.tuple (xs ++ [.int (k : Int)]))) := by
      show fAdd false (.val (.tuple xs)) (.val (.tuple [.int (k : Int)])) = _
      exact fAdd_t (by rw [List.length_singleton]; omega)
    show mB (cellB m X) (fun _ => mB (eOp2 (fAdd false) (eVar 3) (eTup (aCons (eVar 2) aNil)) [some f, some (.ref m), some (.val (.int (k : Int))), some (.val (.tuple xs))]) fun y => mB (mD y) fun yd => mB (lcLoopC m X (gVar 3) tYesM (eOp2 (fAdd false) (eVar 3) (eTup (aCons (eVar 2) aNil))) [some f, some (.ref m), some (.val (.int (k : Int))), none] ds) fun r => mP (yd :: r)) H = _
    rw [mB_app c, e, mB_mP, mD_eq, mB_mP, mB_app ih]
    rfl
def effB : Sm := (sAsg (eOp2 (fAddR true) (eVar 1) (eLcC false (iSeqC (eVar 1)) (gVar 3) tYesM (eOp2 (fAdd false) (eVar 3) (eTup (aCons (eVar 2) aNil))) [3])) (gVar 1))
theorem effB_step {f : PyData} {m k : Nat} {X : List PyData} {H : Hm} (hm : H[m]? = some (some (.lst X))) (hpd : pdsB X X = true) (hl : X.length ≤ 1000) (ht : ∀ d ∈ X, ∃ xs, d = .tuple xs ∧ xs.length ≤ 100) :
    effB [some (.val f), some (.ref m), some (.val (.int (k : Int))), none] H = .ok (.nx, [some (.val f), some (.ref H.length), some (.val (.int (k : Int))), none]) (H ++ [some (.lst (X ++ X.map (app k)))]) := by
  have lc := lcC_app (f := .val f) (k := k) hm hpd X ht
  have c : eLcC false (iSeqC (eVar 1)) (gVar 3) tYesM (eOp2 (fAdd false) (eVar 3) (eTup (aCons (eVar 2) aNil))) [3] [some (.val f), some (.ref m), some (.val (.int (k : Int))), none] H = .ok (.val (.list (X.map (app k)))) H := by
    unfold eLcC
    have i : iSeqC (eVar 1) [some (.val f), some (.ref m), some (.val (.int (k : Int))), none] H = .ok (m, X, X) H := by
      show mB (mCell (.ref m)) (fun q => mP (q.1, q.2, q.2)) H = _
      have : mCell (.ref m) H = .ok (m, X) H := by unfold mCell; simp [hm]
      rw [mB_app this]
      rfl
    rw [mB_app i]
    simp only
    rw [guard_of_eq (decide_eq_true (show X.length ≤ 10000 by omega)), mB_mP]
    have w : wipeR (noExc [some (.val f), some (.ref m), some (.val (.int (k : Int))), none]) [3] = [some (.val f), some (.ref m), some (.val (.int (k : Int))), none] := rfl
    rw [w]
    exact (mB_app (noX_ok lc)).trans rfl
  have a : fAddR true (.ref m) (.val (.list (X.map (app k)))) H = .ok (.ref H.length) (H ++ [some (.lst (X ++ X.map (app k)))]) := by
    unfold fAddR
    rw [mB_app (mLs_ref hm), mLs_l, mB_mP, guard_of_eq (decide_eq_true (show X.length + (X.map (app k)).length ≤ 10000 by rw [List.length_map]; omega)), mB_mP]
    rfl
  unfold effB
  refine sAsg_var ?_
  unfold eOp2
  refine (mB_app (a := SV.ref m) (h' := H) rfl).trans ((mB_app c).trans a)
theorem effB_loop {f : PyData} {h : Hm} : ∀ (k lo m : Nat) (H : Hm) (o2 : Option PyData), lo + k ≤ 5 → H[m]? = some (some (.lst (effL lo))) → h.length ≤ m → H.take h.length = h → h.length ≤ H.length → ∃ m' H' o2', MK.forM (gVar 2) effB ((List.range' lo k).map fun (k : Nat) => PyData.int (k : Int)) [some (.val f), some (.ref m), o2.map SV.val, none] H = .ok (.nx, [some (.val f), some (.ref m'), (o2' : Option PyData).map SV.val, none]) H' ∧ H'[m']? = some (some (.lst (effL (lo + k)))) ∧ h.length ≤ m' ∧ H'.take h.length = h
  | 0, lo, m, H, o2, _, hm, h1, h2, _ => ⟨m, H, o2, rfl, hm, h1, h2⟩
  | k + 1, lo, m, H, o2, hk, hm, h1, h2, h3 => by
    have hl : (effL lo).length ≤ 1000 := by
      rw [effL_len]
      have : (2 : Nat) ^ lo ≤ 2 ^ 5 := Nat.pow_le_pow_right (by omega) (by omega)
      omega
    have st := effB_step (f := f) (k := lo) hm (effL_pd lo (by omega)) hl fun d hd => by
      obtain ⟨xs, e, l⟩ := effL_tup lo d hd
      exact ⟨xs, e, by omega⟩
    obtain ⟨m', H', o2', e, q1, q2, q3⟩ := effB_loop (f := f) (h := h) k (lo + 1) H.length (H ++ [some (.lst (effL lo ++ (effL lo).map (app lo)))]) (some (.int (lo : Int))) (by omega) cell_new h3 (by rw [List.take_append_of_le_length h3]; exact h2) (by rw [List.length_append]; omega)
    refine ⟨m', H', o2', ?_, by rw [show lo + (k + 1) = lo + 1 + k by omega]; exact q1, q2, q3⟩
    rw [List.range'_succ, List.map_cons]
    exact (forM_consH (ρ1 := [some (.val f), some (.ref m), some (.val (.int (lo : Int))), none]) (h1 := H) rfl st).trans e
theorem effects_ok {f : Nat} (hf : f ≤ 5) (h : Hm) : V__law_effects [.val (.int (f : Int))] h = .ok (.ref h.length) (h ++ [some (.lst (effL f))]) := by
  obtain ⟨m', H', o2', e, q1, q2, q3⟩ := effB_loop (f := .int (f : Int)) (h := h) f 0 h.length (h ++ [some (.lst [.tuple []])]) none (by omega) cell_new (by omega) (by rw [List.take_left']; rfl) (by rw [List.length_append]; omega)
  rw [Nat.zero_add, ← List.range_eq_range'] at *
  have key : B__law_effects [some (.val (.int (f : Int))), none, none, none] h = .ok (.rt (.ref m'), [some (.val (.int (f : Int))), some (.ref m'), (o2' : Option PyData).map SV.val, none]) H' := by
    unfold B__law_effects
    refine (sCons_nx (ρ' := [some (.val (.int (f : Int))), some (.ref h.length), none, none]) (h' := h ++ [some (.lst [.tuple []])]) rfl).trans ((sCons_nx (ρ' := [some (.val (.int (f : Int))), some (.ref m'), (o2' : Option PyData).map SV.val, none]) (h' := H') ?_).trans rfl)
    have i0 : iRng1 (eVar 0) [some (.val (.int (f : Int))), some (.ref h.length), none, none] = mP ((List.range f).map fun (k : Nat) => PyData.int (k : Int)) := iRng1_nat rfl (by omega)
    rw [sFor_eq, i0]
    exact e
  show mCall (B__law_effects [some (.val (.int (f : Int))), none, none, none]) h = _
  unfold mCall
  rw [key]
  simp only [if_neg (show ¬ m' < h.length by omega), q1, q3]
def chk (F : Fm) (ds : List SV) : Option PyData := match F ds [] with
  | .ok (.val d) _ => some d
  | _ => none
theorem chk_runs {F : Fm} {ds : List SV} {d : PyData} (h : chk F ds = some d) : MK.Runs F ds d := by
  unfold chk at h
  split at h
  · rename_i d' h' e
    cases h
    exact ⟨h', e⟩
  · cases h
def runL (f : Nat) : List PyData := match chk V__law_runs [.val (.int (f : Int))] with
  | some (.list xs) => xs
  | _ => []
def sgV (r e : PyData) : Int := match chk V_sign_in [.val r, .val e] with
  | some (.int s) => s
  | _ => 0
def sgB (r e : PyData) : Bool := match chk V_sign_in [.val r, .val e], chk V__law_sign [.val r, .val e] with
  | some (.int a), some (.int b) => decide (a = b) && decide (a.natAbs = 1)
  | _, _ => false
theorem sg_ok {r e : PyData} (h : sgB r e = true) : SGok sgV r e := by
  unfold sgB at h
  split at h
  · rename_i a b e1 e2
    rw [Bool.and_eq_true] at h
    have hab : a = b := of_decide_eq_true h.1
    have hs : sgV r e = a := by unfold sgV; rw [e1]
    refine ⟨?_, ?_, ?_⟩
    · rw [hs]; exact iso_of (chk_runs e1)
    · rw [hs, hab]; exact iso_of (chk_runs e2)
    · rw [hs]; exact of_decide_eq_true h.2
  · cases h
def isT (o : Option PyData) : Bool := match o with
  | some (.bool true) => true
  | _ => false
def isE (o : Option PyData) : Bool := match o with
  | some (.list []) => true
  | _ => false
theorem isT_ok {F : Fm} {ds : List SV} (h : isT (chk F ds) = true) : iso (F ds) = mP (.val (.bool true)) := by
  unfold isT at h
  split at h
  · rename_i e; exact iso_of (chk_runs e)
  · cases h
theorem isE_ok {F : Fm} {ds : List SV} (h : isE (chk F ds) = true) : iso (F ds) = mP (.val (.list [])) := by
  unfold isE at h
  split at h
  · rename_i e; exact iso_of (chk_runs e)
  · cases h
def lenB (n : Nat) : PyData → Bool
  | .tuple xs => decide (xs.length = n)
  | _ => false
def apart (a b : PyData) : Bool := !PyData.eqv a b && !PyData.eqv b a
def pairB : List PyData → Bool
  | [] => true
  | x :: xs => xs.all (apart x) && pairB xs
def full (f : Nat) : PyData := .tuple (rngD 0 f)
def fulR (f : Nat) : List PyData := ((runL f).filter fun r => decide (sgV r (full f) = 1)).take 10
def facB (f : Nat) : Bool := (match chk V__law_runs [.val (.int (f : Int))] with
    | some (.list _) => true
    | _ => false)
  && (runL f).all (fun r => (effL f).all (sgB r) && sgB r (full f) && isT (chk V_is_run_by [.val r]) && lenB f r)
  && (effL f).all (fun e => isT (chk V_is_effect_by [.val (.int (f : Int)), .val e]) && isE (chk V_wrong_in_effect [.val (.int (f : Int)), .val e]) && e.canLay0 && decide (e.depth ≤ 1))
  && pairB (effL f) && decide (0 < (runL f).length) && decide ((runL f).length ≤ 100) && decide (0 < (fulR f).length)
theorem facB_1 : facB 1 = true := by kernel_rfl
theorem facB_2 : facB 2 = true := by kernel_rfl
theorem facB_3 : facB 3 = true := by kernel_rfl
theorem facB_4 : facB 4 = true := by kernel_rfl
theorem facB_all {f : Nat} (h1 : 1 ≤ f) (h4 : f ≤ 4) : facB f = true := by
  rcases f with _ | _ | _ | _ | _ | f
  · omega
  · exact facB_1
  · exact facB_2
  · exact facB_3
  · exact facB_4
  · omega
structure Fac (f : Nat) : Prop where
  runs : iso (V__law_runs [.val (.int (f : Int))]) = mP (.val (.list (runL f)))
  sgs : ∀ r ∈ runL f, ∀ e ∈ effL f, SGok sgV r e
  sgf : ∀ r ∈ runL f, SGok sgV r (full f)
  isr : ∀ r ∈ runL f, iso (V_is_run_by [.val r]) = mP (.val (.bool true))
  rlen : ∀ r ∈ runL f, ∃ xs, r = .tuple xs ∧ xs.length = f
  ise : ∀ e ∈ effL f, iso (V_is_effect_by [.val (.int (f : Int)), .val e]) = mP (.val (.bool true))
  wre : ∀ e ∈ effL f, iso (V_wrong_in_effect [.val (.int (f : Int)), .val e]) = mP (.val (.list []))
  lay : ∀ e ∈ effL f, e.canLay0 = true ∧ e.depth ≤ 1
  pair : pairB (effL f) = true
  rl0 : 0 < (runL f).length
  rl1 : (runL f).length ≤ 100
  ful : 0 < (fulR f).length
theorem fac {f : Nat} (h1 : 1 ≤ f) (h4 : f ≤ 4) : Fac f := by
  have h := facB_all h1 h4
  unfold facB at h
  simp only [Bool.and_eq_true, List.all_eq_true, decide_eq_true_eq] at h
  obtain ⟨⟨⟨⟨⟨⟨a, b⟩, c⟩, d⟩, e⟩, g⟩, i⟩ := h
  refine ⟨?_, fun r hr e he => sg_ok ((b r hr).1.1.1 e he), fun r hr => sg_ok (b r hr).1.1.2, fun r hr => isT_ok (b r hr).1.2, fun r hr => ?_, fun e he => isT_ok (c e he).1.1.1, fun e he => isE_ok (c e he).1.1.2, fun e he => ⟨(c e he).1.2, (c e he).2⟩, d, e, g, i⟩
  · unfold runL
    split at a
    · rename_i xs e
      exact iso_of (chk_runs e)
    · cases a
  · have := (b r hr).2
    unfold lenB at this
    split at this
    · rename_i xs
      exact ⟨xs, rfl, of_decide_eq_true this⟩
    · cases this
end GL
set_option Elab.async false
set_option linter.all false
set_option maxRecDepth 100000
set_option maxHeartbeats 4000000
/-! plans drawn. -/
namespace GL
open MK PySem PySem.Spec PyProof.Rows L2 LA
theorem PoolM.mono {h : Hm} {n j k : Nat} (p : Pool h n j) (hk : j ≤ k) : Pool h n k := by
  obtain ⟨a, b, c, q, a0, b0, b1, c0, c1⟩ := p
  exact ⟨a, b, c, q, a0, b0, b1, c0, by omega⟩
theorem PoolM.set {h : Hm} {n j N : Nat} {x : Option Cell} (p : Pool h n j) (hN : N ≠ n) : Pool (h.set N x) n j := by
  obtain ⟨a, b, c, q, r⟩ := p
  exact ⟨a, b, c, by rw [List.getElem?_set_ne hN]; exact q, r⟩
theorem PoolM.app {h X : Hm} {n j : Nat} (p : Pool h n j) : Pool (h ++ X) n j := by
  obtain ⟨a, b, c, q, r⟩ := p
  exact ⟨a, b, c, by rw [List.getElem?_append_left (cell_lt q)]; exact q, r⟩
theorem PoolM.take {h : Hm} {n j L : Nat} (p : Pool h n j) (hL : n < L) : Pool (h.take L) n j := by
  obtain ⟨a, b, c, q, r⟩ := p
  exact ⟨a, b, c, by rw [List.getElem?_take, if_pos hL]; exact q, r⟩
theorem PoolM.lt {h : Hm} {n j : Nat} (p : Pool h n j) : n < h.length := by
  obtain ⟨a, b, c, q, r⟩ := p
  exact cell_lt q
theorem call_ok {F : Fm} {a : Am} {ρ : Ro} {h h1 h2 : Hm} {ds : List SV} {d : SV} (e : a ρ h = .ok ds h1) (n : ds.all notExc = true) (q : F ds h1 = .ok d h2) : eCall F a ρ h = .ok d h2 := by
  unfold eCall
  rw [mB_ok e, mB_ok (guard_ok n)]
  exact q
theorem app_step {ρ : Ro} {i : Nat} {e : Em} {K K' : Hm} {N : Nat} {R : List PyData} {d : PyData} (hv : eVar i ρ = mP (.ref N)) (hN : K[N]? = some (some (.lst R))) (he : e ρ K = .ok (.val d) K') (hN' : K'[N]? = some (some (.lst R))) (hl : R.length ≤ 10000) :
    sExpr (fun ρ => mB ((eVar i) ρ) fun x => mB (isLs x) fun _ => mB (e ρ) fun y => mApp x y) ρ K = .ok (.nx, ρ) (K'.set N (some (.lst (R ++ [d])))) := by
  show mB (mB (eVar i ρ) fun x => mB (isLs x) fun _ => mB (e ρ) fun y => mApp x y) (fun _ => mP (Fl.nx, ρ)) K = _
  rw [hv, mB_mP]
  have : (mB (isLs (.ref N)) fun _ => mB (e ρ) fun y => mApp (.ref N) y) K = .ok (.val .none) (K'.set N (some (.lst (R ++ [d])))) := (mB_app (isLs_ref hN)).trans ((mB_app he).trans (mApp_ref hN' hl))
  exact (mB_app this).trans rfl
def plo (n f w N : Nat) (o5 : Option PyData) (o6 o7 : Option SV) : Ro := [some (.ref n), some (.val (.int (f : Int))), some (.val (.int (w : Int))), some (.ref N), some (.val (.list (runL f))), o5.map SV.val, o6, o7, none]
def drawB : Sm := sExpr (fun ρ => mB ((eVar 3) ρ) fun x => mB (isLs x) fun _ => mB ((eCall V__law_one (aCons (eVar 0) (aCons (eVar 4) aNil))) ρ) fun y => mApp x y)
theorem draw_loop {n f w N : Nat} {o6 o7 : Option SV} (F : Fac f) (hN : N ≠ n) : ∀ (ds : List PyData) (K : Hm) (R : List PyData) (j : Nat) (o5 : Option PyData), Pool K n j → j + ds.length < 1000 → K[N]? = some (some (.lst R)) → (∀ r ∈ R, r ∈ runL f) → R.length + ds.length ≤ 100 →
    ∃ K' R' o5', MK.forM (gVar 5) drawB ds (plo n f w N o5 o6 o7) K = .ok (.nx, plo n f w N o5' o6 o7) K' ∧ Pool K' n (j + ds.length) ∧ K'[N]? = some (some (.lst R')) ∧ (∀ r ∈ R', r ∈ runL f) ∧ R'.length = R.length + ds.length ∧ K'.length = K.length
  | [], K, R, j, o5, p, _, q, m, _ => ⟨K, R, o5, rfl, p, q, m, by simp, rfl⟩
  | d :: ds, K, R, j, o5, p, hj, q, m, hl => by
    rw [List.length_cons] at hj hl
    obtain ⟨x, K1, mx, e1, p1, l1, fm⟩ := one_ok (xs := runL f) p (by omega) F.rl0 (by have := F.rl1; omega)
    have q1 : K1[N]? = some (some (.lst R)) := by rw [fm N hN]; exact q
    have st := app_step (ρ := plo n f w N (some d) o6 o7) (i := 3) (e := eCall V__law_one (aCons (eVar 0) (aCons (eVar 4) aNil))) (N := N) (d := x) rfl q (call_ok (ds := [.ref n, .val (.list (runL f))]) (h1 := K) rfl rfl e1) q1 (by omega)
    obtain ⟨K', R', o5', e, a1, a2, a3, a4, a5⟩ := draw_loop (w := w) (o6 := o6) (o7 := o7) F hN ds (K1.set N (some (.lst (R ++ [x])))) (R ++ [x]) (j + 1) (some d) (PoolM.set p1 hN) (by omega) (cell_set (cell_lt q1)) (fun r hr => by
      rcases List.mem_append.mp hr with hr | hr
      · exact m r hr
      · rw [List.mem_singleton.mp hr]; exact mx) (by rw [List.length_append, List.length_singleton]; omega)
    refine ⟨K', R', o5', ?_, by rw [List.length_cons, show j + (ds.length + 1) = j + 1 + ds.length by omega]; exact a1, a2, a3, by rw [a4, List.length_append, List.length_singleton, List.length_cons]; omega, by rw [a5, List.length_set, l1]⟩
    exact (forM_consH (ρ1 := plo n f w N (some d) o6 o7) (h1 := K) rfl st).trans e
def popE : Em := fun ρ => mB ((eVar 6) ρ) fun x => mB (isLs x) fun _ => mB ((eCall V__law_below (aCons (eVar 0) (aCons (eArgs (b1 bLen) (aCons (eVar 6) aNil)) aNil))) ρ) fun y => mPop x y
def popB : Sm := sExpr (fun ρ => mB ((eVar 7) ρ) fun x => mB (isLs x) fun _ => mB (popE ρ) fun y => mApp x y)
theorem erase_perm : ∀ {xs : List PyData} {k : Nat} {d : PyData}, xs[k]? = some d → (d :: xs.eraseIdx k).Perm xs
  | [], k, d, h => by simp at h
  | x :: xs, 0, d, h => by
    have : x = d := by simpa using h
    subst this
    exact List.Perm.refl _
  | x :: xs, k + 1, d, h => by
    have ih := erase_perm (xs := xs) (k := k) (d := d) (by simpa using h)
    rw [List.eraseIdx_cons_succ]
    exact (List.Perm.swap x d _).trans (List.Perm.cons x ih)
theorem popE_ok {n f w N A B j : Nat} {o5 : Option PyData} {K : Hm} {Lf : List PyData} (p : Pool K n j) (hj : j < 1000) (hA : A ≠ n) (q : K[A]? = some (some (.lst Lf))) (l0 : 0 < Lf.length) (l1 : Lf.length < 100) :
    ∃ d k K', popE (plo n f w N o5 (some (.ref A)) (some (.ref B))) K = .ok (.val d) (K'.set A (some (.lst (Lf.eraseIdx k)))) ∧ Lf[k]? = some d ∧ Pool K' n (j + 1) ∧ K'.length = K.length ∧ ∀ z, z ≠ n → K'[z]? = K[z]? := by
  obtain ⟨r, K', e, r0, r1, p', hl, fm⟩ := below_ok (m := (Lf.length : Nat)) p hj (by omega) (by omega)
  obtain ⟨k, rfl⟩ : ∃ k : Nat, r = (k : Int) := ⟨r.toNat, by omega⟩
  have hk : k < Lf.length := by omega
  have q' : K'[A]? = some (some (.lst Lf)) := by rw [fm A hA]; exact q
  refine ⟨Lf[k], k, K', ?_, List.getElem?_eq_getElem hk, p', hl, fm⟩
  have b : bLen (.ref A) K = .ok (.val (.int (Lf.length : Nat))) K := bLen_ref q
  have a : (aCons (eVar 0) (aCons (eArgs (b1 bLen) (aCons (eVar 6) aNil)) aNil)) (plo n f w N o5 (some (.ref A)) (some (.ref B))) K = .ok [.ref n, .val (.int (Lf.length : Nat))] K := by
    refine aCons_ok (d := .ref n) (h1 := K) rfl (aCons_ok (d := .val (.int (Lf.length : Nat))) (h1 := K) ?_ rfl)
    exact b
  have c : eCall V__law_below (aCons (eVar 0) (aCons (eArgs (b1 bLen) (aCons (eVar 6) aNil)) aNil)) (plo n f w N o5 (some (.ref A)) (some (.ref B))) K = .ok (.val (.int (k : Int))) K' := call_ok a rfl e
  show mB (eVar 6 (plo n f w N o5 (some (.ref A)) (some (.ref B)))) (fun x => mB (isLs x) fun _ => mB ((eCall V__law_below (aCons (eVar 0) (aCons (eArgs (b1 bLen) (aCons (eVar 6) aNil)) aNil))) (plo n f w N o5 (some (.ref A)) (some (.ref B)))) fun y => mPop x y) K = _
  have v : eVar 6 (plo n f w N o5 (some (.ref A)) (some (.ref B))) = mP (.ref A) := rfl
  rw [v, mB_mP]
  refine (mB_app (isLs_ref q)).trans ((mB_app c).trans ?_)
  have ix : ixN Lf.length (k : Int) = some k := by
    unfold ixN
    rw [if_pos (by omega), if_pos (by omega)]
    simp
  unfold mPop
  rw [mInt_eq, mB_mP]
  simp only [q', ix, List.getElem?_eq_getElem hk, if_pos (show Lf.length ≤ 10000 by omega)]
theorem pop_loop {n f w N A B : Nat} {R : List PyData} {T : List PyData} (hA : A ≠ n) (hB : B ≠ n) (hN : N ≠ n) (hAB : A ≠ B) (hNA : N ≠ A) (hNB : N ≠ B) : ∀ (ds : List PyData) (K : Hm) (E Lf : List PyData) (j : Nat) (o5 : Option PyData), Pool K n j → j + ds.length < 1000 → K[N]? = some (some (.lst R)) → K[A]? = some (some (.lst Lf)) → K[B]? = some (some (.lst E)) → (E ++ Lf).Perm T → T.length < 100 → ds.length < Lf.length →
    ∃ K' E' Lf' o5', MK.forM (gVar 5) popB ds (plo n f w N o5 (some (.ref A)) (some (.ref B))) K = .ok (.nx, plo n f w N o5' (some (.ref A)) (some (.ref B))) K' ∧ Pool K' n (j + ds.length) ∧ K'[N]? = some (some (.lst R)) ∧ K'[A]? = some (some (.lst Lf')) ∧ K'[B]? = some (some (.lst E')) ∧ (E' ++ Lf').Perm T ∧ E'.length = E.length + ds.length ∧ K'.length = K.length
  | [], K, E, Lf, j, o5, p, _, qN, qA, qB, pm, _, _ => ⟨K, E, Lf, o5, rfl, p, qN, qA, qB, pm, by simp, rfl⟩
  | d :: ds, K, E, Lf, j, o5, p, hj, qN, qA, qB, pm, hT, hl => by
    rw [List.length_cons] at hj hl
    have tl := pm.length_eq
    rw [List.length_append] at tl
    obtain ⟨x, k, K1, e1, hx, p1, l1, fm⟩ := popE_ok (f := f) (w := w) (N := N) (B := B) (o5 := some d) p (by omega) hA qA (by omega) (by omega)
    have qB1 : (K1.set A (some (.lst (Lf.eraseIdx k))))[B]? = some (some (.lst E)) := by rw [cell_ne hAB, fm B hB]; exact qB
    have qA0 : K1[A]? = some (some (.lst Lf)) := by rw [fm A hA]; exact qA
    have st := app_step (ρ := plo n f w N (some d) (some (.ref A)) (some (.ref B))) (i := 7) (e := popE) (N := B) (d := x) rfl qB e1 qB1 (by omega)
    have hk : k < Lf.length := (List.getElem?_eq_some_iff.mp hx).1
    obtain ⟨K', E', Lf', o5', e, a1, a2, a3, a4, a5, a6, a7⟩ := pop_loop (f := f) (w := w) (R := R) (T := T) hA hB hN hAB hNA hNB ds ((K1.set A (some (.lst (Lf.eraseIdx k)))).set B (some (.lst (E ++ [x])))) (E ++ [x]) (Lf.eraseIdx k) (j + 1) (some d) (PoolM.set (PoolM.set p1 hA) hB) (by omega)
      (by rw [cell_ne (fun z => hNB z.symm), cell_ne (fun z => hNA z.symm), fm N hN]; exact qN)
      (by rw [cell_ne (fun z => hAB z.symm)]; exact cell_set (cell_lt qA0))
      (cell_set (by have := cell_lt qB; rw [List.length_set]; omega))
      (by
        rw [List.append_assoc]
        exact ((erase_perm hx).append_left E).trans pm) hT (by rw [List.length_eraseIdx, if_pos hk]; omega)
    refine ⟨K', E', Lf', o5', ?_, by rw [List.length_cons, show j + (ds.length + 1) = j + 1 + ds.length by omega]; exact a1, a2, a3, a4, a5, by rw [a6, List.length_append, List.length_singleton, List.length_cons]; omega, by rw [a7, List.length_set, List.length_set, l1]⟩
    exact (forM_consH (ρ1 := plo n f w N (some d) (some (.ref A)) (some (.ref B))) (h1 := K) rfl st).trans e
structure PlanR (f : Nat) (rs es left : List PyData) : Prop where
  f1 : 1 ≤ f
  f4 : f ≤ 4
  sub : ∀ r ∈ rs, r ∈ runL f
  r0 : 0 < rs.length
  r1 : rs.length ≤ 10
  perm : (es ++ left).Perm (effL f)
  e0 : 0 < es.length
  e1 : es.length ≤ 4
  l0 : 0 < left.length
theorem most_ok {d : PyData} (h : d ∈ [PyData.int 1, .int 2, .int 4, .int 4, .int 8, .int 10]) : ∃ w : Nat, d = .int (w : Int) ∧ 1 ≤ w ∧ w ≤ 10 := by
  simp only [List.mem_cons, List.not_mem_nil, or_false] at h
  rcases h with h | h | h | h | h | h
  · exact ⟨1, h, by omega, by omega⟩
  · exact ⟨2, h, by omega, by omega⟩
  · exact ⟨4, h, by omega, by omega⟩
  · exact ⟨4, h, by omega, by omega⟩
  · exact ⟨8, h, by omega, by omega⟩
  · exact ⟨10, h, by omega, by omega⟩
theorem pieces_eq {ρ0 : Ro} {f n w N : Nat} (F : Fac f) (ρ : Ro) (hρ : ρ = [some (.ref n), some (.val (.int (f : Int))), some (.val (.int (w : Int))), none, none, none, none, none, none]) : eLc false (iSeq (eCallI V__law_runs (aCons (eVar 1) aNil))) (gVar 8) tYesM (eVar 8) [8] ρ = mP (.val (.list (runL f))) := by
  subst hρ
  have r := F.runs
  have := eLc_id (it := iSeq (eCallI V__law_runs (aCons (eVar 1) aNil))) (i := 8) (e := eVar 8) (vs := [8]) (ρ := [some (.ref n), some (.val (.int (f : Int))), some (.val (.int (w : Int))), none, none, none, none, none, none]) (xs := runL f) (g := fun x => x) (by
    show mB (eCallI V__law_runs (aCons (eVar 1) aNil) [some (.ref n), some (.val (.int (f : Int))), some (.val (.int (w : Int))), none, none, none, none, none, none]) mIter = _
    have : eCallI V__law_runs (aCons (eVar 1) aNil) [some (.ref n), some (.val (.int (f : Int))), some (.val (.int (w : Int))), none, none, none, none, none, none] = mP (.val (.list (runL f))) := r
    rw [this]
    rfl) (by have := F.rl1; omega) rfl (fun x _ => rfl)
  rw [List.map_id'] at this
  exact this
theorem filt_eq {f n w N : Nat} {o5 : Option PyData} (F : Fac f) (hf4 : f ≤ 4) : eSl true (eLc false (iSeq (eVar 4)) (gVar 8) (tE (eOp2 fEq (eCallI V__law_sign (aCons (eVar 8) (aCons (eTupRg (eVar 1)) aNil))) (eC (.int 1)))) (eVar 8) [8]) oNone (oSome (eC (.int 10))) (plo n f w N o5 none none) = mNew true (fulR f) := by
  have w0 : wipeR (noExc (plo n f w N o5 none none)) [8] = plo n f w N o5 none none := by cases o5 <;> rfl
  have c := eLc_filter (it := iSeq (eVar 4)) (t := gVar 8) (c := tE (eOp2 fEq (eCallI V__law_sign (aCons (eVar 8) (aCons (eTupRg (eVar 1)) aNil))) (eC (.int 1)))) (e := eVar 8) (vs := [8]) (ρ := plo n f w N o5 none none) (xs := runL f) (f := fun x => x) (ρ' := fun x => (plo n f w N o5 none none).set 8 (some (.val x))) (p := fun r => decide (sgV r (full f) = 1)) (g := fun x => x) (by rw [List.map_id']; rfl) (by have := F.rl1; omega) w0 (fun x _ => rfl) (fun r hr => by
    have s := (F.sgf r hr).law
    have t : eTupRg (eVar 1) ((plo n f w N o5 none none).set 8 (some (.val r))) = mP (.val (full f)) := by
      show mB (guard (smallI (f : Int))) (fun _ => mP (SV.val (.tuple (rngD 0 (f : Int).toNat)))) = _
      rw [guard_of_eq (small_nat (by omega))]
      rfl
    have e : eCallI V__law_sign (aCons (eVar 8) (aCons (eTupRg (eVar 1)) aNil)) ((plo n f w N o5 none none).set 8 (some (.val r))) = mP (.val (.int (sgV r (full f)))) := by
      rw [eCallI_eq, aCons_eq, aCons_eq, t]
      show iso (V__law_sign [.val r, .val (full f)]) = _
      exact s
    show mB (mB (eCallI V__law_sign (aCons (eVar 8) (aCons (eTupRg (eVar 1)) aNil)) ((plo n f w N o5 none none).set 8 (some (.val r)))) fun x => fEq x (SV.val (.int 1))) mBool = _
    rw [e, mB_mP, fEq_int]
    rfl) (fun x _ _ => rfl)
  rw [List.map_id'] at c
  rw [eSl_eq, c]
  show mNew true (MK.cutD ((runL f).filter fun r => decide (sgV r (full f) = 1)) none (some ((10 : Nat) : Int))) = _
  rw [cutD_take]
  rfl
theorem plan_ok {h : Hm} {n j : Nat} (hp : Pool h n j) (hj : j + 30 < 1000) : ∃ f rs es left h' j', V__law_plan [.ref n] h = .ok (.val (.tuple [.tuple rs, .tuple es, .list left])) h' ∧ PlanR f rs es left ∧ Pool h' n j' ∧ j' ≤ j + 30 ∧ h'.length = h.length := by
  obtain ⟨r, h1, e1, r0, r1, p1, l1, _⟩ := below_ok (m := 4) hp (by omega) (by decide) (by decide)
  obtain ⟨f', rfl⟩ : ∃ k : Nat, r = (k : Int) := ⟨r.toNat, by omega⟩
  obtain ⟨f, hf⟩ : ∃ f, f = 1 + f' := ⟨_, rfl⟩
  have f1 : 1 ≤ f := by omega
  have f4 : f ≤ 4 := by omega
  have F := fac f1 f4
  obtain ⟨d, h2, md, e2, p2, l2, _⟩ := one_okT (xs := [.int 1, .int 2, .int 4, .int 4, .int 8, .int 10]) p1 (by omega) (by decide) (by decide)
  obtain ⟨w, rfl, w1, w10⟩ := most_ok md
  have s1 : sPar 1 2 (aCons (eOp2 (fAdd false) (eC (.int 1)) (eCall V__law_below (aCons (eVar 0) (aCons (eC (.int 4)) aNil)))) (aCons (eCall V__law_one (aCons (eVar 0) (aCons (eTup (aCons (eC (.int 1)) (aCons (eC (.int 2)) (aCons (eC (.int 4)) (aCons (eC (.int 4)) (aCons (eC (.int 8)) (aCons (eC (.int 10)) aNil))))))) aNil))) aNil)) [some (.ref n), none, none, none, none, none, none, none, none] h = .ok (.nx, [some (.ref n), some (.val (.int (f : Int))), some (.val (.int (w : Int))), none, none, none, none, none, none]) h2 := by
    rw [sPar_eq]
    have a : (aCons (eOp2 (fAdd false) (eC (.int 1)) (eCall V__law_below (aCons (eVar 0) (aCons (eC (.int 4)) aNil)))) (aCons (eCall V__law_one (aCons (eVar 0) (aCons (eTup (aCons (eC (.int 1)) (aCons (eC (.int 2)) (aCons (eC (.int 4)) (aCons (eC (.int 4)) (aCons (eC (.int 8)) (aCons (eC (.int 10)) aNil))))))) aNil))) aNil)) [some (.ref n), none, none, none, none, none, none, none, none] h = .ok [.val (.int (f : Int)), .val (.int (w : Int))] h2 := by
      refine aCons_ok (h1 := h1) ?_ (aCons_ok (h1 := h2) (call_ok (ds := [.ref n, .val (.tuple [.int 1, .int 2, .int 4, .int 4, .int 8, .int 10])]) (h1 := h1) rfl rfl e2) rfl)
      refine op2_ok (h1 := h) (h2 := h1) (x := .val (.int 1)) (y := .val (.int (f' : Int))) rfl (call_ok (ds := [.ref n, .val (.int 4)]) (h1 := h) rfl rfl e1) ?_
      rw [hf]
      show Res.ok (SV.val (.int (1 + (f' : Int)))) h1 = _
      have : (1 + (f' : Int)) = ((1 + f' : Nat) : Int) := by omega
      rw [this]
    rw [mB_app a]
    rfl
  have hnl : n < h2.length := PoolM.lt p2
  have s2 : sPar 3 4 (aCons (eLst true aNil) (aCons (eLc false (iSeq (eCallI V__law_runs (aCons (eVar 1) aNil))) (gVar 8) tYesM (eVar 8) [8]) aNil)) [some (.ref n), some (.val (.int (f : Int))), some (.val (.int (w : Int))), none, none, none, none, none, none] h2 = .ok (.nx, plo n f w h2.length none none none) (h2 ++ [some (.lst [])]) := by
    have c := pieces_eq (ρ0 := []) (N := 0) (n := n) (w := w) F _ rfl
    rw [sPar_eq]
    have a : (aCons (eLst true aNil) (aCons (eLc false (iSeq (eCallI V__law_runs (aCons (eVar 1) aNil))) (gVar 8) tYesM (eVar 8) [8]) aNil)) [some (.ref n), some (.val (.int (f : Int))), some (.val (.int (w : Int))), none, none, none, none, none, none] h2 = .ok [.ref h2.length, .val (.list (runL f))] (h2 ++ [some (.lst [])]) :=
      aCons_ok (h1 := h2 ++ [some (.lst [])]) rfl (aCons_ok (h1 := h2 ++ [some (.lst [])]) (congrFun c _) rfl)
    rw [mB_app a]
    rfl
  obtain ⟨K3, R3, o5, e3, p3, q3, m3, c3, l3⟩ := draw_loop (n := n) (w := w) (N := h2.length) (o6 := none) (o7 := none) F (by omega) ((List.range w).map fun (k : Nat) => PyData.int (k : Int)) (h2 ++ [some (.lst [])]) [] (j + 1 + 1) none (PoolM.app p2) (by rw [List.length_map, List.length_range]; omega) cell_new (by simp) (by rw [List.length_map, List.length_range, List.length_nil]; omega)
  rw [List.length_map, List.length_range] at p3 c3
  rw [List.length_append, List.length_singleton] at l3
  rw [List.length_nil] at c3
  have s3 : sFor (iRng1 (eVar 2)) (gVar 5) drawB (plo n f w h2.length none none none) (h2 ++ [some (.lst [])]) = .ok (.nx, plo n f w h2.length o5 none none) K3 := by
    have i0 : iRng1 (eVar 2) (plo n f w h2.length none none none) = mP ((List.range w).map fun (k : Nat) => PyData.int (k : Int)) := iRng1_nat rfl (by omega)
    rw [sFor_eq, i0]
    exact e3
  obtain ⟨b, K4, e4, bb0, bb1, p4, l4, fm4⟩ := below_ok (m := 3) p3 (by omega) (by decide) (by decide)
  have q4 : K4[h2.length]? = some (some (.lst R3)) := by rw [fm4 _ (by omega)]; exact q3
  obtain ⟨N, K5, R, s4, p5, q5, m5, c5, c5', hN, l5⟩ : ∃ N K5 R, sIf (tE (eOp2 fEq (eCall V__law_below (aCons (eVar 0) (aCons (eC (.int 3)) aNil))) (eC (.int 0)))) (sAsg (eSl true (eLc false (iSeq (eVar 4)) (gVar 8) (tE (eOp2 fEq (eCallI V__law_sign (aCons (eVar 8) (aCons (eTupRg (eVar 1)) aNil))) (eC (.int 1)))) (eVar 8) [8]) oNone (oSome (eC (.int 10)))) (gVar 3)) sNil (plo n f w h2.length o5 none none) K3 = .ok (.nx, plo n f w N o5 none none) K5 ∧ Pool K5 n (j + 1 + 1 + w + 1) ∧ K5[N]? = some (some (.lst R)) ∧ (∀ r ∈ R, r ∈ runL f) ∧ 0 < R.length ∧ R.length ≤ 10 ∧ N ≠ n ∧ h2.length ≤ K5.length := by
    have t : tE (eOp2 fEq (eCall V__law_below (aCons (eVar 0) (aCons (eC (.int 3)) aNil))) (eC (.int 0))) (plo n f w h2.length o5 none none) K3 = .ok (decide (b = 0)) K4 := by
      have o : eOp2 fEq (eCall V__law_below (aCons (eVar 0) (aCons (eC (.int 3)) aNil))) (eC (.int 0)) (plo n f w h2.length o5 none none) K3 = .ok (.val (.bool (decide (b = 0)))) K4 := by
        refine op2_ok (h1 := K4) (h2 := K4) (x := .val (.int b)) (y := .val (.int 0)) (call_ok (ds := [.ref n, .val (.int 3)]) (h1 := K3) rfl rfl e4) rfl ?_
        rw [fEq_int]
        rfl
      unfold tE
      exact (mB_app o).trans rfl
    unfold sIf
    rw [mB_app t]
    by_cases hb : b = 0
    · rw [decide_eq_true hb, if_pos rfl]
      refine ⟨K4.length, K4 ++ [some (.lst (fulR f))], fulR f, ?_, PoolM.app p4, cell_new, fun r hr => ?_, F.ful, ?_, ?_, ?_⟩
      · refine (sAsg_var (d := .ref K4.length) (h' := K4 ++ [some (.lst (fulR f))]) ?_).trans rfl
        rw [filt_eq F f4]
        rfl
      · exact (List.mem_filter.mp (List.mem_of_mem_take hr)).1
      · unfold fulR
        rw [List.length_take]
        omega
      · omega
      · rw [List.length_append]; omega
    · rw [decide_eq_false hb]
      exact ⟨h2.length, K4, R3, rfl, p4, q4, m3, by omega, by omega, by omega, by omega⟩
  have hn5 : n < K5.length := PoolM.lt p5
  have hN5 := cell_lt q5
  have s5 : sPar 6 7 (aCons (eCall V__law_effects (aCons (eVar 1) aNil)) (aCons (eLst true aNil) aNil)) (plo n f w N o5 none none) K5 = .ok (.nx, plo n f w N o5 (some (.ref K5.length)) (some (.ref (K5.length + 1)))) (K5 ++ [some (.lst (effL f))] ++ [some (.lst [])]) := by
    have ef := effects_ok (f := f) (by omega) K5
    rw [sPar_eq]
    have a : (aCons (eCall V__law_effects (aCons (eVar 1) aNil)) (aCons (eLst true aNil) aNil)) (plo n f w N o5 none none) K5 = .ok [.ref K5.length, .ref (K5.length + 1)] (K5 ++ [some (.lst (effL f))] ++ [some (.lst [])]) := by
      refine aCons_ok (h1 := K5 ++ [some (.lst (effL f))]) (call_ok (ds := [.val (.int (f : Int))]) (h1 := K5) rfl rfl ef) (aCons_ok (h1 := K5 ++ [some (.lst (effL f))] ++ [some (.lst [])]) ?_ rfl)
      show Res.ok (SV.ref (K5 ++ [some (Cell.lst (effL f))]).length) _ = _
      rw [List.length_append]
      rfl
    rw [mB_app a]
    rfl
  have hEl := effL_len f
  have hE1 : 2 ≤ 2 ^ f := by
    have : (2 : Nat) ^ 1 ≤ 2 ^ f := Nat.pow_le_pow_right (by omega) f1
    omega
  have hE2 : 2 ^ f ≤ 16 := by
    have : (2 : Nat) ^ f ≤ 2 ^ 4 := Nat.pow_le_pow_right (by omega) f4
    omega
  have p5' : Pool (K5 ++ [some (.lst (effL f))] ++ [some (.lst [])]) n (j + 1 + 1 + w + 1) := PoolM.app (PoolM.app p5)
  have qA0 : (K5 ++ [some (Cell.lst (effL f))] ++ [some (Cell.lst [])])[K5.length]? = some (some (.lst (effL f))) := cell_app cell_new
  have qB0 : (K5 ++ [some (Cell.lst (effL f))] ++ [some (Cell.lst [])])[K5.length + 1]? = some (some (.lst [])) := by
    have := cell_new (h := K5 ++ [some (Cell.lst (effL f))]) (d := some (Cell.lst []))
    rw [List.length_append] at this
    exact this
  have qN0 : (K5 ++ [some (Cell.lst (effL f))] ++ [some (Cell.lst [])])[N]? = some (some (.lst R)) := cell_app (cell_app q5)
  have l50 : (K5 ++ [some (Cell.lst (effL f))] ++ [some (Cell.lst [])]).length = K5.length + 2 := by rw [List.length_append, List.length_append]; rfl
  generalize K5 ++ [some (Cell.lst (effL f))] ++ [some (Cell.lst [])] = K6 at s5 p5' qA0 qB0 qN0 l50
  obtain ⟨u, K7, e7, u0, u1, p7, l7, fm7⟩ := below_ok (m := 4) p5' (by omega) (by decide) (by decide)
  obtain ⟨u', rfl⟩ : ∃ k : Nat, u = (k : Int) := ⟨u.toNat, by omega⟩
  have qA7 : K7[K5.length]? = some (some (.lst (effL f))) := by rw [fm7 _ (by omega)]; exact qA0
  have qB7 : K7[K5.length + 1]? = some (some (.lst [])) := by rw [fm7 _ (by omega)]; exact qB0
  have qN7 : K7[N]? = some (some (.lst R)) := by rw [fm7 _ hN]; exact qN0
  obtain ⟨v, v1, v2, v3, iv⟩ : ∃ v : Nat, 1 ≤ v ∧ v ≤ 4 ∧ v < (effL f).length ∧ iRng1 (eArgs (b2 bMin2) (aCons (eOp2 fSub (eArgs (b1 bLen) (aCons (eVar 6) aNil)) (eC (.int 1))) (aCons (eOp2 (fAdd false) (eC (.int 1)) (eCall V__law_below (aCons (eVar 0) (aCons (eC (.int 4)) aNil)))) aNil))) (plo n f w N o5 (some (.ref K5.length)) (some (.ref (K5.length + 1)))) K6 = .ok ((List.range v).map fun (k : Nat) => PyData.int (k : Int)) K7 := by
    have b6 := bLen_ref qA0
    have x1 : eOp2 fSub (eArgs (b1 bLen) (aCons (eVar 6) aNil)) (eC (.int 1)) (plo n f w N o5 (some (.ref K5.length)) (some (.ref (K5.length + 1)))) K6 = .ok (.val (.int (((effL f).length : Nat) - 1 : Int))) K6 :=
      op2_ok (h1 := K6) (h2 := K6) (x := .val (.int ((effL f).length : Nat))) (y := .val (.int 1)) b6 rfl rfl
    have x2 : eOp2 (fAdd false) (eC (.int 1)) (eCall V__law_below (aCons (eVar 0) (aCons (eC (.int 4)) aNil))) (plo n f w N o5 (some (.ref K5.length)) (some (.ref (K5.length + 1)))) K6 = .ok (.val (.int (1 + (u' : Int)))) K7 :=
      op2_ok (h1 := K6) (h2 := K7) (x := .val (.int 1)) (y := .val (.int (u' : Int))) rfl (call_ok (ds := [.ref n, .val (.int 4)]) (h1 := K6) rfl rfl e7) rfl
    obtain ⟨mn, hmn⟩ : ∃ mn : Int, (if (1 + (u' : Int)) < (((effL f).length : Nat) - 1 : Int) then (1 + (u' : Int)) else (((effL f).length : Nat) - 1 : Int)) = mn := ⟨_, rfl⟩
    have x3 : eArgs (b2 bMin2) (aCons (eOp2 fSub (eArgs (b1 bLen) (aCons (eVar 6) aNil)) (eC (.int 1))) (aCons (eOp2 (fAdd false) (eC (.int 1)) (eCall V__law_below (aCons (eVar 0) (aCons (eC (.int 4)) aNil)))) aNil)) (plo n f w N o5 (some (.ref K5.length)) (some (.ref (K5.length + 1)))) K6 = .ok (.val (.int mn)) K7 := by
      unfold eArgs
      refine (mB_app (aCons_ok x1 (aCons_ok x2 rfl))).trans ?_
      rw [← hmn]
      rfl
    have hr : 1 ≤ mn ∧ mn ≤ 4 ∧ mn < ((effL f).length : Nat) := by
      rw [← hmn]
      split <;> omega
    refine ⟨mn.toNat, by omega, by omega, by omega, ?_⟩
    have hm : mn = ((mn.toNat : Nat) : Int) := by omega
    rw [hm] at x3
    exact iRng1_natH x3 (by omega)
  obtain ⟨K8, E, Lf, o5', e8, p8, qN8, qA8, qB8, pm, lE, l8⟩ := pop_loop (f := f) (w := w) (N := N) (A := K5.length) (B := K5.length + 1) (R := R) (T := effL f) (by omega) (by omega) hN (by omega) (by omega) (by omega) ((List.range v).map fun (k : Nat) => PyData.int (k : Int)) K7 [] (effL f) (j + 1 + 1 + w + 1 + 1) o5 p7 (by rw [List.length_map, List.length_range]; omega) qN7 qA7 qB7 (List.Perm.refl _) (by omega) (by rw [List.length_map, List.length_range]; exact v3)
  rw [List.length_map, List.length_range] at p8 lE
  rw [List.length_nil] at lE
  have s6 : sFor (iRng1 (eArgs (b2 bMin2) (aCons (eOp2 fSub (eArgs (b1 bLen) (aCons (eVar 6) aNil)) (eC (.int 1))) (aCons (eOp2 (fAdd false) (eC (.int 1)) (eCall V__law_below (aCons (eVar 0) (aCons (eC (.int 4)) aNil)))) aNil)))) (gVar 5) popB (plo n f w N o5 (some (.ref K5.length)) (some (.ref (K5.length + 1)))) K6 = .ok (.nx, plo n f w N o5' (some (.ref K5.length)) (some (.ref (K5.length + 1)))) K8 := by
    rw [sFor_eq, mB_app iv]
    exact e8
  have pl := pm.length_eq
  rw [List.length_append, hEl] at pl
  have s7 : sRet (eTup (aCons (eArgs (b1 bTuple) (aCons (eVar 3) aNil)) (aCons (eArgs (b1 bTuple) (aCons (eVar 7) aNil)) (aCons (eFrz 6) aNil)))) (plo n f w N o5' (some (.ref K5.length)) (some (.ref (K5.length + 1)))) K8 = .ok (.rt (.val (.tuple [.tuple R, .tuple E, .list Lf])), plo n f w N o5' (some (.ref K5.length)) (some (.ref (K5.length + 1)))) (K8.set K5.length none) := by
    refine sRet_ok ?_
    have a : (aCons (eArgs (b1 bTuple) (aCons (eVar 3) aNil)) (aCons (eArgs (b1 bTuple) (aCons (eVar 7) aNil)) (aCons (eFrz 6) aNil))) (plo n f w N o5' (some (.ref K5.length)) (some (.ref (K5.length + 1)))) K8 = .ok [.val (.tuple R), .val (.tuple E), .val (.list Lf)] (K8.set K5.length none) :=
      aCons_ok (h1 := K8) (bTuple_ref qN8) (aCons_ok (h1 := K8) (bTuple_ref qB8) (aCons_ok (h1 := K8.set K5.length none) (mFrz_ref qA8) rfl))
    unfold eTup
    exact (mB_app a).trans rfl
  have key : B__law_plan [some (.ref n), none, none, none, none, none, none, none, none] h = .ok (.rt (.val (.tuple [.tuple R, .tuple E, .list Lf])), plo n f w N o5' (some (.ref K5.length)) (some (.ref (K5.length + 1)))) (K8.set K5.length none) := by
    unfold B__law_plan
    exact (sCons_nx s1).trans ((sCons_nx s2).trans ((sCons_nx s3).trans ((sCons_nx s4).trans ((sCons_nx s5).trans ((sCons_nx s6).trans s7)))))
  have hnh : n < h.length := PoolM.lt hp
  refine ⟨f, R, E, Lf, (K8.set K5.length none).take h.length, j + 1 + 1 + w + 1 + 1 + v, ?_, ⟨f1, f4, m5, c5, c5', pm, by omega, by omega, by omega⟩, PoolM.take (PoolM.set p8 (by omega)) hnh, by omega, ?_⟩
  · show mCall (B__law_plan [some (.ref n), none, none, none, none, none, none, none, none]) h = _
    unfold mCall
    rw [key]
  · rw [List.length_take, List.length_set]
    omega
end GL
set_option Elab.async false
set_option linter.all false
set_option maxRecDepth 100000
set_option maxHeartbeats 4000000
/-! numbers drawn; two that are the same. -/
namespace GL
open MK PySem PySem.Spec PyProof.Rows L2 LA
local macro_rules | `(tactic| walk_at "ev") => `(tactic| simp only [Option.map_some, Option.map_none, fnV, mCall_rt, mCall_nx, List.length_cons, List.length_nil, Nat.zero_add, Nat.reduceAdd, List.map_cons, List.map_nil, Nat.reduceSub, Nat.sub_self, List.replicate, List.cons_append, List.nil_append, List.append_nil, decide_true, decide_false, guard_t, mB_mP, eVar_z, eVar_s, eC_eq, eOp2_eq, eOp1_eq, aNil_eq, aCons_eq, aStar_eq, eArgs_eq, tE_eq, mBool_eq, mInt_eq, mD_eq, mSeq_t, mSeq_l, mLs_l, mDat_v, tAnd_eq, tOr_eq, tNot_eq, eAnd_eq, eOr_eq, eNot_eq, eIf_eq, eChain_eq, eTup_eq, eLst_eq, mTup0, mTup1, mTup2, mTup3, mLst0, mLst1, mLst2, few_of, Nat.reduceLeDiff, mNew_f, b1_eq, b2_eq, sCons_eq, sNil_eq, sAsg_eq, gVar_eq, eSl_eq, oSome_eq, oNone_eq, sRet_eq, sRetN_eq, sIf_eq, sExpr_eq, sFor_eq, iSeq_eq, mIter_l, mIter_t, iEnum_eq, iZip_eq, iRng1_eq, iRng2_eq, iRngV_eq, bRange1_eq, mRng_eq, noX_mP, noExc_nil, noExc_none, noExc_val, noExc_rng, wipeR, List.set_cons_zero, List.set_cons_succ, tYesM_eq, gTup_eq2, gTup_eq3, eCallI_eq, List.all_cons, List.all_nil, isVal, Bool.and_true, Bool.and_self, Bool.true_and, iso_mP, fIx_fr0, fIx_fr1, fAdd_int, fSub_int, fNeg_int, fLt_int, fLe_int, fGt_int, fGe_int, bGcd_int, bLen_t, bLen_l, bTuple_l, bTuple_t, bList_t, bList_l, sPar_eq, bAbs_int, bIntB_int, if_true, Bool.not_true, Bool.not_false, Bool.false_eq_true, reduceIte, *])
theorem divInt_hd {t l : Int} (ht : -6 ≤ t ∧ t ≤ 6) (hl : 1 ≤ l ∧ l ≤ 4) : Hd 72 12 (Rat.divInt t l) := by
  obtain ⟨k, rfl⟩ : ∃ k : Nat, l = (k : Int) := ⟨l.toNat, by omega⟩
  have hk0 : (k : Rat) ≠ 0 := by
    intro z
    have : (k : Rat) = ((0 : Nat) : Rat) := by rw [z]; rfl
    have := Rat.natCast_inj.mp this
    omega
  have h1 : Hd 6 k (Rat.divInt t (k : Int)) := ⟨t, by omega, by
    rw [Rat.divInt_eq_div]
    have : ((k : Int) : Rat) = (k : Rat) := rfl
    rw [this, Rat.div_mul_cancel hk0]⟩
  rcases k with _ | _ | _ | _ | _ | k
  · omega
  · exact (h1.scale 12).mono (by omega)
  · exact (h1.scale 6).mono (by omega)
  · exact (h1.scale 4).mono (by omega)
  · exact (h1.scale 3).mono (by omega)
  · omega
theorem int_hd {i : Int} (h : i.natAbs ≤ 6) : Hd 72 12 (i : Rat) := ((Hd.int (X := 6) rfl h).scale 12).mono (by omega)
theorem mid_small {i : Int} (h : i.natAbs ≤ 1000) : Mid i := by
  have : 1000 < 2 ^ mE := by decide
  unfold Mid
  omega
theorem few_ok {d : PyData} (h : d ∈ [PyData.int 0, .int 0, .int 1, .int 1, .int (-1), .int 2, .int (-2), .int 3]) : ∃ i : Int, d = .int i ∧ i.natAbs ≤ 6 := by
  simp only [List.mem_cons, List.not_mem_nil, or_false] at h
  rcases h with h | h | h | h | h | h | h | h <;> exact ⟨_, h, by decide⟩
theorem number_ok {K : Hm} {n j : Nat} (p : Pool K n j) (hj : j + 5 < 1000) : ∃ (q : Rat) (K' : Hm), V__law_number [.ref n] K = .ok (.val (fr q)) K' ∧ Hd 72 12 q ∧ Pool K' n (j + 3) ∧ K'.length = K.length := by
  obtain ⟨r, K1, e1, r0, r1, p1, l1, _⟩ := below_ok (m := 8) p (by omega) (by decide) (by decide)
  have s1 : sAsg (eCall V__law_below (aCons (eVar 0) (aCons (eC (.int 8)) aNil))) (gVar 1) [some (.ref n), none] K = .ok (.nx, [some (.ref n), some (.val (.int r))]) K1 := sAsg_var (call_ok (ds := [.ref n, .val (.int 8)]) (h1 := K) rfl rfl e1)
  have fin : ∀ {d : PyData} {K' : Hm}, B__law_number [some (.ref n), none] K = .ok (.rt (.val d), [some (.ref n), some (.val (.int r))]) K' → K'.length = K.length → V__law_number [.ref n] K = .ok (.val d) K' := by
    intro d K' e hl
    show mCall (B__law_number [some (.ref n), none]) K = _
    unfold mCall
    rw [e]
    simp only
    rw [← hl, List.take_length]
  have t : tE (eOp2 fLt (eVar 1) (eC (.int 6))) [some (.ref n), some (.val (.int r))] K1 = .ok (decide (r < 6)) K1 := rfl
  by_cases hr : r < 6
  · rw [decide_eq_true hr] at t
    obtain ⟨d, K2, md, e2, p2, l2, _⟩ := one_okT (xs := [.int 0, .int 0, .int 1, .int 1, .int (-1), .int 2, .int (-2), .int 3]) p1 (by omega) (by decide) (by decide)
    obtain ⟨i, rfl, hi⟩ := few_ok md
    refine ⟨(i : Rat), K2, fin ?_ (by omega), int_hd hi, PoolM.mono p2 (by omega), by omega⟩
    unfold B__law_number
    refine (sCons_nx s1).trans (sCons_rt ?_)
    unfold sIf
    rw [mB_app t, if_pos rfl]
    refine sRet_ok ?_
    have a : (aCons (eCall V__law_one (aCons (eVar 0) (aCons (eTup (aCons (eC (.int 0)) (aCons (eC (.int 0)) (aCons (eC (.int 1)) (aCons (eC (.int 1)) (aCons (eOp1 fNeg (eC (.int 1))) (aCons (eC (.int 2)) (aCons (eOp1 fNeg (eC (.int 2))) (aCons (eC (.int 3)) aNil))))))))) aNil))) (aCons (eC (.int 1)) aNil)) [some (.ref n), some (.val (.int r))] K1 = .ok [.val (.int i), .val (.int 1)] K2 :=
      aCons_ok (h1 := K2) (call_ok (ds := [.ref n, .val (.tuple [.int 0, .int 0, .int 1, .int 1, .int (-1), .int 2, .int (-2), .int 3])]) (h1 := K1) rfl rfl e2) rfl
    unfold eTup
    exact (mB_app a).trans rfl
  · rw [decide_eq_false hr] at t
    obtain ⟨a, K2, e2, a0, a1, p2, l2, _⟩ := below_ok (m := 13) p1 (by omega) (by decide) (by decide)
    obtain ⟨b, K3, e3, bb0, bb1, p3, l3, _⟩ := below_ok (m := 4) p2 (by omega) (by decide) (by decide)
    refine ⟨Rat.divInt (a - 6) (1 + b), K3, fin ?_ (by omega), divInt_hd (by omega) (by omega), p3, by omega⟩
    have lf := iso_eq (law_fr_eq (t := a - 6) (l := 1 + b) (mid_small (by omega)) (mid_small (by omega)) (by omega))
    unfold B__law_number
    refine (sCons_nx s1).trans ((sCons_nx (ρ' := [some (.ref n), some (.val (.int r))]) (h' := K1) ?_).trans ?_)
    · unfold sIf
      rw [mB_app t]
      rfl
    · refine sRet_ok ?_
      have x : (aCons (eOp2 fSub (eCall V__law_below (aCons (eVar 0) (aCons (eC (.int 13)) aNil))) (eC (.int 6))) (aCons (eOp2 (fAdd false) (eC (.int 1)) (eCall V__law_below (aCons (eVar 0) (aCons (eC (.int 4)) aNil)))) aNil)) [some (.ref n), some (.val (.int r))] K1 = .ok [.val (.int (a - 6)), .val (.int (1 + b))] K3 :=
        aCons_ok (h1 := K2) (op2_ok (h1 := K2) (h2 := K2) (x := .val (.int a)) (y := .val (.int 6)) (call_ok (ds := [.ref n, .val (.int 13)]) (h1 := K1) rfl rfl e2) rfl rfl)
          (aCons_ok (h1 := K3) (op2_ok (h1 := K2) (h2 := K3) (x := .val (.int 1)) (y := .val (.int b)) rfl (call_ok (ds := [.ref n, .val (.int 4)]) (h1 := K2) rfl rfl e3) rfl) rfl)
      unfold eCallI
      rw [mB_app x]
      show mB (guard true) (fun _ => iso (V__law_fr [.val (.int (a - 6)), .val (.int (1 + b))])) K3 = _
      rw [guard_t, mB_mP, lf]
      rfl
/-- many numbers -/
theorem numbers_ok {n : Nat} {ρ : Ro} (h0 : eVar 0 ρ = mP (.ref n)) (hs : ∀ x : PyData, eVar 0 (ρ.set 12 (some (.val x))) = mP (.ref n)) : ∀ (ds : List PyData) (K : Hm) (j : Nat), Pool K n j → j + 3 * ds.length + 5 < 1000 → ∃ (qs : List Rat) (K' : Hm), lcLoop (gVar 12) tYesM (eCall V__law_number (aCons (eVar 0) aNil)) ρ ds K = .ok (qs.map fr) K' ∧ qs.length = ds.length ∧ (∀ q ∈ qs, Hd 72 12 q) ∧ Pool K' n (j + 3 * ds.length) ∧ K'.length = K.length
  | [], K, j, p, _ => ⟨[], K, rfl, rfl, by simp, p, rfl⟩
  | d :: ds, K, j, p, hj => by
    rw [List.length_cons] at hj
    obtain ⟨q, K1, e1, hq, p1, l1⟩ := number_ok p (by omega)
    obtain ⟨qs, K', e, l, hqs, p', l'⟩ := numbers_ok h0 hs ds K1 (j + 3) p1 (by omega)
    refine ⟨q :: qs, K', ?_, by rw [List.length_cons, List.length_cons, l], fun x hx => ?_, by rw [List.length_cons, show j + 3 * (ds.length + 1) = j + 3 + 3 * ds.length by omega]; exact p', by omega⟩
    · have c : eCall V__law_number (aCons (eVar 0) aNil) (ρ.set 12 (some (.val d))) K = .ok (.val (fr q)) K1 := by
        refine call_ok (ds := [.ref n]) (h1 := K) ?_ rfl e1
        rw [aCons_eq, hs]
        rfl
      show mB (gVar 12 (.val d) ρ) (fun ρ1 => mB (tYesM ρ1) fun b => if b then mB (eCall V__law_number (aCons (eVar 0) aNil) ρ1) fun y => mB (mD y) fun yd => mB (lcLoop (gVar 12) tYesM (eCall V__law_number (aCons (eVar 0) aNil)) ρ ds) fun r => mP (yd :: r) else lcLoop (gVar 12) tYesM (eCall V__law_number (aCons (eVar 0) aNil)) ρ ds) K = _
      rw [gVar_eq, mB_mP, tYesM_eq, mB_mP, if_pos rfl, mB_app c, mD_eq, mB_mP, mB_app e]
      rfl
    · rcases List.mem_cons.mp hx with rfl | hx
      · exact hq
      · exact hqs x hx
def plD : Nat → PyData → Bool
  | 0, _ => false
  | k + 1, .tuple xs => xs.all (plD k) && decide (xs.length ≤ 1000)
  | k + 1, .list xs => xs.all (plD k) && decide (xs.length ≤ 1000)
  | _ + 1, .int _ => true
  | _ + 1, .none => true
  | _, _ => false
theorem same_seq {k : Nat} {d : PyData} {xs : List PyData} (hd : Sq d xs) (hl : xs.length ≤ 1000) (ih : ∀ x ∈ xs, iso (V__law_same k [.val x, .val x]) = mP (.val (.bool true))) : eLc false (iRng1 (eArgs (b1 bLen) (aCons (eVar 1) aNil))) (gVar 3) tYesM (eCallI (V__law_same k) (aCons (eOp2 fIx (eVar 0) (eVar 3)) (aCons (eOp2 fIx (eVar 1) (eVar 3)) aNil))) [3] [some (.val d), some (.val d), some (.val (.bool true)), none] = mP (.val (.list ((List.range xs.length).map fun _ => .bool true))) := by
  have l := hd.len
  refine eLc_map (xs := List.range xs.length) (f := fun (k : Nat) => PyData.int (k : Int)) (ρ' := fun i => [some (.val d), some (.val d), some (.val (.bool true)), some (.val (.int (i : Int)))]) (iRng1_nat (by walk_at "ev") (by omega)) (by rw [List.length_range]; omega) rfl (fun k _ => rfl) (fun k _ => rfl) (fun i hi => ?_)
  have hi := List.mem_range.mp hi
  have g := hd.ix (k := i) (List.getElem?_eq_getElem hi)
  have c := ih xs[i] (List.getElem_mem hi)
  generalize xs[i] = x at *
  walk_at "ev"
theorem same_refl : ∀ (k : Nat) (d : PyData), plD k d = true → iso (V__law_same k [.val d, .val d]) = mP (.val (.bool true))
  | 0, d, h => by simp [plD] at h
  | k + 1, .tuple xs, h => by
    unfold plD at h
    rw [Bool.and_eq_true, List.all_eq_true] at h
    have hl : xs.length ≤ 1000 := of_decide_eq_true h.2
    have c := same_seq (k := k) (Sq.t xs) hl fun x hx => same_refl k x (h.1 x hx)
    have an : bAll (.val (.list ((List.range xs.length).map fun _ => PyData.bool true))) = mP (.val (.bool true)) := by
      have := boolsD_map (fun _ : Nat => true) (List.range xs.length)
      unfold bAll
      rw [mLs_l, mB_mP, this]
      show vB (((List.range xs.length).map fun _ => true).all id) = _
      have : ((List.range xs.length).map fun _ => true).all id = true := by rw [List.all_eq_true]; intro x hx; obtain ⟨_, _, rfl⟩ := List.mem_map.mp hx; rfl
      rw [this]
      rfl
    have i1 : fIsi .tuple (.val (.tuple xs)) = mP (.val (.bool true)) := rfl
    have le := bLen_t xs
    have fe := fEq_int (xs.length : Nat) (xs.length : Nat)
    rw [decide_eq_true rfl] at fe
    refine iso_eq ?_
    show fnV 2 4 (B__law_same (V__law_same k)) _ = _
    unfold B__law_same
    clear h hl
    walk_at "ev"
  | k + 1, .list xs, h => by
    unfold plD at h
    rw [Bool.and_eq_true, List.all_eq_true] at h
    have hl : xs.length ≤ 1000 := of_decide_eq_true h.2
    have c := same_seq (k := k) (Sq.l xs) hl fun x hx => same_refl k x (h.1 x hx)
    have an : bAll (.val (.list ((List.range xs.length).map fun _ => PyData.bool true))) = mP (.val (.bool true)) := by
      have := boolsD_map (fun _ : Nat => true) (List.range xs.length)
      unfold bAll
      rw [mLs_l, mB_mP, this]
      show vB (((List.range xs.length).map fun _ => true).all id) = _
      have : ((List.range xs.length).map fun _ => true).all id = true := by rw [List.all_eq_true]; intro x hx; obtain ⟨_, _, rfl⟩ := List.mem_map.mp hx; rfl
      rw [this]
      rfl
    have i1 : fIsi .tuple (.val (.list xs)) = mP (.val (.bool false)) := rfl
    have i2 : fIsi .list (.val (.list xs)) = mP (.val (.bool true)) := rfl
    have le := bLen_l xs
    have fe := fEq_int (xs.length : Nat) (xs.length : Nat)
    rw [decide_eq_true rfl] at fe
    refine iso_eq ?_
    show fnV 2 4 (B__law_same (V__law_same k)) _ = _
    unfold B__law_same
    clear h hl
    walk_at "ev"
  | k + 1, .int i, _ => by
    have i1 : fIsi .tuple (.val (.int i)) = mP (.val (.bool false)) := rfl
    have i2 : fIsi .list (.val (.int i)) = mP (.val (.bool false)) := rfl
    have i3 : fIsi .bool (.val (.int i)) = mP (.val (.bool false)) := rfl
    have i4 : fIsi .int (.val (.int i)) = mP (.val (.bool true)) := rfl
    have i5 : fIsN (.val (.int i)) (.val .none) = mP (.val (.bool false)) := rfl
    have fe := fEq_int i i
    rw [decide_eq_true rfl] at fe
    refine iso_eq ?_
    show fnV 2 4 (B__law_same (V__law_same k)) _ = _
    unfold B__law_same
    walk_at "ev"
  | k + 1, .none, _ => by
    have i1 : fIsi .tuple (.val .none) = mP (.val (.bool false)) := rfl
    have i2 : fIsi .list (.val .none) = mP (.val (.bool false)) := rfl
    have i5 : fIsN (.val .none) (.val .none) = mP (.val (.bool true)) := rfl
    refine iso_eq ?_
    show fnV 2 4 (B__law_same (V__law_same k)) _ = _
    unfold B__law_same
    walk_at "ev"
  | k + 1, .bool _, h => by simp [plD] at h
  | k + 1, .str _, h => by simp [plD] at h
  | k + 1, .dict _, h => by simp [plD] at h
theorem plD_fr (k : Nat) (q : Rat) : plD (k + 2) (fr q) = true := by simp [plD, fr]
end GL
set_option Elab.async false
set_option linter.all false
set_option maxRecDepth 100000
set_option maxHeartbeats 4000000
/-! what is drawn is let by the program. -/
namespace GL
open MK PySem PySem.Spec PyProof.Rows L2 LA
local macro_rules | `(tactic| walk_at "ev") => `(tactic| simp only [Option.map_some, Option.map_none, fnV, mCall_rt, mCall_nx, List.length_cons, List.length_nil, Nat.zero_add, Nat.reduceAdd, List.map_cons, List.map_nil, Nat.reduceSub, Nat.sub_self, List.replicate, List.cons_append, List.nil_append, List.append_nil, decide_true, decide_false, guard_t, mB_mP, eVar_z, eVar_s, eC_eq, eOp2_eq, eOp1_eq, aNil_eq, aCons_eq, aStar_eq, eArgs_eq, tE_eq, mBool_eq, mInt_eq, mD_eq, mSeq_t, mSeq_l, mLs_l, mDat_v, tAnd_eq, tOr_eq, tNot_eq, eAnd_eq, eOr_eq, eNot_eq, eIf_eq, eChain_eq, eTup_eq, eLst_eq, mTup0, mTup1, mTup2, mTup3, mLst0, mLst1, mLst2, few_of, Nat.reduceLeDiff, mNew_f, b1_eq, b2_eq, sCons_eq, sNil_eq, sAsg_eq, gVar_eq, eSl_eq, oSome_eq, oNone_eq, sRet_eq, sRetN_eq, sIf_eq, sExpr_eq, sFor_eq, iSeq_eq, mIter_l, mIter_t, iEnum_eq, iZip_eq, iRng1_eq, iRng2_eq, iRngV_eq, bRange1_eq, mRng_eq, noX_mP, noExc_nil, noExc_none, noExc_val, noExc_rng, wipeR, List.set_cons_zero, List.set_cons_succ, tYesM_eq, gTup_eq2, gTup_eq3, eCallI_eq, List.all_cons, List.all_nil, isVal, Bool.and_true, Bool.and_self, Bool.true_and, iso_mP, fIx_fr0, fIx_fr1, fAdd_int, fSub_int, fNeg_int, fLt_int, fLe_int, fGt_int, fGe_int, bGcd_int, bLen_t, bLen_l, bTuple_l, bTuple_t, bList_t, bList_l, sPar_eq, bAbs_int, bIntB_int, if_true, Bool.not_true, Bool.not_false, Bool.false_eq_true, reduceIte, *])
theorem pairB_ok : ∀ {xs : List PyData}, pairB xs = true → xs.Pairwise fun a b => apart a b = true
  | [], _ => List.Pairwise.nil
  | x :: xs, h => by
    unfold pairB at h
    rw [Bool.and_eq_true, List.all_eq_true] at h
    exact List.Pairwise.cons (fun y hy => h.1 y hy) (pairB_ok h.2)
theorem apart_symm {a b : PyData} (h : apart a b = true) : apart b a = true := by
  unfold apart at h ⊢
  rw [Bool.and_comm]
  exact h
variable {f : Nat} {rs es left : List PyData} {o : PyData}
theorem PlanR.apart (P : PlanR f rs es left) : (es ++ left).Pairwise fun a b => GL.apart a b = true :=
  (List.Perm.pairwise_iff (fun h => apart_symm h) P.perm).mpr (pairB_ok (fac P.f1 P.f4).pair)
theorem PlanR.ne (P : PlanR f rs es left) (ho : o ∈ left) : ∀ z ∈ es, PyData.eqv z o = false := by
  intro z hz
  have := (List.pairwise_append.mp P.apart).2.2 z hz o ho
  unfold GL.apart at this
  simp at this
  exact this.1
theorem PlanR.nt (P : PlanR f rs es left) {i : Nat} (hi : i < es.length) : ∀ z ∈ es.take i, PyData.eqv z es[i] = false := by
  intro z hz
  have h1 := (List.pairwise_append.mp P.apart).1
  rw [← List.take_append_drop i es] at h1
  have := (List.pairwise_append.mp h1).2.2 z hz es[i] (by rw [List.drop_eq_getElem_cons hi]; exact List.mem_cons_self)
  unfold GL.apart at this
  simp at this
  exact this.1
theorem PlanR.ine (P : PlanR f rs es left) {e : PyData} (h : e ∈ es) : e ∈ effL f := P.perm.mem_iff.mp (List.mem_append_left _ h)
theorem PlanR.inl (P : PlanR f rs es left) {e : PyData} (h : e ∈ left) : e ∈ effL f := P.perm.mem_iff.mp (List.mem_append_right _ h)
theorem PlanR.ok (P : PlanR f rs es left) (ho : o ∈ left) : PlOk sgV rs es o where
  r0 := P.r0
  r1 := P.r1
  e0 := P.e0
  e1 := by have := P.e1; omega
  sgs := fun r hr e he => (fac P.f1 P.f4).sgs r (P.sub r hr) e (P.ine he)
  sgo := fun r hr => (fac P.f1 P.f4).sgs r (P.sub r hr) o (P.inl ho)
theorem fIn_no {d : PyData} {xs : List PyData} (hd : SeqAt.shaped d = true) (hx : SeqAt.shaped (.tuple xs) = true) (h : ∀ z ∈ xs, PyData.eqv z d = false) : fIn (.val d) (.val (.tuple xs)) = mP (.val (.bool false)) := by
  have a : xs.any (fun z => PyData.eqv z d) = false := by
    rw [List.any_eq_false]
    intro z hz
    rw [h z hz]
    decide
  show mB (guard (SeqAt.shaped d && SeqAt.shaped (.tuple xs))) (fun _ => mB (opt (itemsOf (.tuple xs))) fun ds => vB (ds.any fun z => PyData.eqv z d)) = _
  rw [hd, hx]
  show vB (xs.any fun z => PyData.eqv z d) = _
  rw [a]
  rfl
theorem sh_eff (P : PlanR f rs es left) {e : PyData} (h : e ∈ effL f) : SeqAt.shaped e = true :=
  shaped_of ((fac P.f1 P.f4).lay e h).1 (by have := ((fac P.f1 P.f4).lay e h).2; omega)
theorem sh_effs (P : PlanR f rs es left) {xs : List PyData} (h : ∀ e ∈ xs, e ∈ effL f) : SeqAt.shaped (.tuple xs) = true := by
  have a := lay_tuple (f := fun x => x) (xs := xs) fun e he => ((fac P.f1 P.f4).lay e (h e he)).1
  have b := dep_tuple (f := fun x => x) (n := 1) (xs := xs) fun e he => ((fac P.f1 P.f4).lay e (h e he)).2
  rw [List.map_id'] at a b
  exact shaped_of a (by omega)
theorem forM_skip {t : Gm} {b : Sm} {ρ0 : Ro} {ρs : Nat → PyData → Ro} {q : Nat → PyData → PyData} : ∀ {xs : List PyData} {k : Nat} {ρ : Ro}, (∀ i (hi : i < xs.length), ∀ ρ, (ρ = ρ0 ∨ ∃ i x, ρ = ρs i x) → t (.val (.tuple [.int ((k + i : Nat) : Int), xs[i]])) ρ = mP (ρs (k + i) xs[i])) → (∀ i (hi : i < xs.length), b (ρs (k + i) xs[i]) = mP (.nx, ρs (k + i) xs[i])) → (ρ = ρ0 ∨ ∃ i x, ρ = ρs i x) → ∃ ρ', (ρ' = ρ0 ∨ ∃ i x, ρ' = ρs i x) ∧ MK.forM t b (enumD k xs) ρ = mP (.nx, ρ')
  | [], k, ρ, _, _, h => ⟨ρ, h, rfl⟩
  | x :: xs, k, ρ, h1, h2, h => by
    obtain ⟨ρ', hρ', e⟩ := forM_skip (xs := xs) (k := k + 1) (ρ := ρs k x) (q := q) (ρ0 := ρ0) (ρs := ρs) (t := t) (b := b) (fun i hi ρ hρ => by
      have := h1 (i + 1) (by rw [List.length_cons]; omega) ρ hρ
      rw [show k + (i + 1) = k + 1 + i by omega] at this
      exact this) (fun i hi => by
      have := h2 (i + 1) (by rw [List.length_cons]; omega)
      rw [show k + (i + 1) = k + 1 + i by omega] at this
      exact this) (Or.inr ⟨k, x, rfl⟩)
    refine ⟨ρ', hρ', ?_⟩
    have a := h1 0 (by rw [List.length_cons]; omega) ρ h
    have b := h2 0 (by rw [List.length_cons]; omega)
    exact (forM_cons (ρ1 := ρs k x) (ρ2 := ρs k x) a b).trans e
theorem isi_tup (xs : List PyData) : fIsi .tuple (.val (.tuple xs)) = mP (.val (.bool true)) := rfl
theorem wrong_in_runs_eq (P : PlanR f rs es left) : V_wrong_in_runs [.val (.tuple rs)] = mP (.val (.list [])) := by
  have F := fac P.f1 P.f4
  have l := bLen_t rs
  have le1 : fLe (.val (.int 1)) (.val (.int (rs.length : Nat))) = mP (.val (.bool true)) := by rw [fLe_int, decide_eq_true]; have := P.r0; omega
  have le2 : fLe (.val (.int (rs.length : Nat))) (.val (.int 64)) = mP (.val (.bool true)) := by rw [fLe_int, decide_eq_true]; have := P.r1; omega
  have it := isi_tup rs
  have e1 : sIf (tOr (tNot (tE (eOp1 (fIsi .tuple) (eVar 0)))) (tNot (tE (eChain fLe fLe (eC (.int 1)) (eArgs (b1 bLen) (aCons (eVar 0) aNil)) (eC (.int 64)))))) (sRet (eLst false (aCons (eC .none) aNil))) sNil [some (.val (.tuple rs)), none, none] = mP (.nx, [some (.val (.tuple rs)), none, none]) := by
    clear P F
    walk_at "ev"
  have h0 : 0 < rs.length := P.r0
  have f0 : fIx (.val (.tuple rs)) (.val (.int 0)) = mP (.val rs[0]) := (Sq.t rs).ix (k := 0) (List.getElem?_eq_getElem h0)
  have rlen : ∀ r ∈ rs, bLen (.val r) = mP (.val (.int (f : Int))) := fun r hr => by
    obtain ⟨xs, rfl, hl⟩ := F.rlen r (P.sub r hr)
    rw [bLen_t, hl]
  have lr0 := rlen rs[0] (List.getElem_mem h0)
  obtain ⟨ρ', _, e2⟩ := forM_skip (t := gTup 2 (gsCons (gVar 1) (gsCons (gVar 2) gsNil))) (b := sIf (tOr (tNot (tE (eCallI V_is_run_by (aCons (eVar 2) aNil)))) (tE (eOp2 fNe (eArgs (b1 bLen) (aCons (eVar 2) aNil)) (eArgs (b1 bLen) (aCons (eOp2 fIx (eVar 0) (eC (.int 0))) aNil))))) (sRet (eLst false (aCons (eVar 1) aNil))) sNil) (q := fun _ x => x) (ρ0 := [some (.val (.tuple rs)), none, none]) (ρs := fun i x => [some (.val (.tuple rs)), some (.val (.int (i : Int))), some (.val x)]) (xs := rs) (k := 0) (ρ := [some (.val (.tuple rs)), none, none]) (fun i hi ρ hρ => by
      rcases hρ with rfl | ⟨_, _, rfl⟩ <;> rfl) (fun i hi => by
      have m : rs[i] ∈ rs := List.getElem_mem hi
      have ir := F.isr _ (P.sub _ m)
      have lr := rlen _ m
      have ne := fNe_int (f : Int) (f : Int)
      rw [decide_eq_true rfl] at ne
      generalize rs[i] = r at *
      clear P F rlen m
      walk_at "ev") (Or.inl rfl)
  have e3 : sFor (iEnum (eVar 0)) (gTup 2 (gsCons (gVar 1) (gsCons (gVar 2) gsNil))) (sIf (tOr (tNot (tE (eCallI V_is_run_by (aCons (eVar 2) aNil)))) (tE (eOp2 fNe (eArgs (b1 bLen) (aCons (eVar 2) aNil)) (eArgs (b1 bLen) (aCons (eOp2 fIx (eVar 0) (eC (.int 0))) aNil))))) (sRet (eLst false (aCons (eVar 1) aNil))) sNil) [some (.val (.tuple rs)), none, none] = mP (.nx, ρ') := e2
  unfold V_wrong_in_runs B_wrong_in_runs
  simp only [fnV, List.length_cons, List.length_nil, Nat.zero_add, Nat.reduceAdd, decide_true, guard_t, mB_mP, List.map_cons, List.map_nil, Nat.reduceSub, List.replicate, List.cons_append, List.nil_append, sCons_eq, e1, e3, sRet_eq, eLst_eq, aNil_eq, few_of, List.length_nil, Nat.zero_le, mLst0]
  exact mCall_rt _ _
theorem check_runs_eq (P : PlanR f rs es left) : V_check_runs [.val (.tuple rs)] = mP (.val .none) := by
  have w := wrong_in_runs_eq P
  have i0 : iSeq (eCallI V_wrong_in_runs (aCons (eVar 0) aNil)) [some (.val (.tuple rs)), none] = mP [] := by
    clear P
    walk_at "ev"
  unfold V_check_runs B_check_runs
  simp only [fnV, List.length_cons, List.length_nil, Nat.zero_add, Nat.reduceAdd, decide_true, guard_t, mB_mP, List.map_cons, List.map_nil, Nat.reduceSub, List.replicate, List.cons_append, List.nil_append, sFor_eq, i0]
  exact mCall_nx _
theorem check_tried_eq (P : PlanR f rs es left) : V_check_tried [.val (.int (f : Int)), .val (.tuple es)] = mP (.val .none) := by
  have F := fac P.f1 P.f4
  have l := bLen_t es
  have le1 : fLe (.val (.int 1)) (.val (.int (es.length : Nat))) = mP (.val (.bool true)) := by rw [fLe_int, decide_eq_true]; have := P.e0; omega
  have le2 : fLe (.val (.int (es.length : Nat))) (.val (.int 5)) = mP (.val (.bool true)) := by rw [fLe_int, decide_eq_true]; have := P.e1; omega
  have it := isi_tup es
  have e1 : sIf (tOr (tNot (tE (eOp1 (fIsi .tuple) (eVar 1)))) (tNot (tE (eChain fLe fLe (eC (.int 1)) (eArgs (b1 bLen) (aCons (eVar 1) aNil)) (eC (.int 5)))))) sStuck sNil [some (.val (.int (f : Int))), some (.val (.tuple es)), none, none] = mP (.nx, [some (.val (.int (f : Int))), some (.val (.tuple es)), none, none]) := by
    clear P F
    walk_at "ev"
  obtain ⟨ρ', _, e2⟩ := forM_skip (t := gTup 2 (gsCons (gVar 2) (gsCons (gVar 3) gsNil))) (b := sIf (tOr (tNot (tE (eCallI V_is_effect_by (aCons (eVar 0) (aCons (eVar 3) aNil))))) (tE (eOp2 fIn (eVar 3) (eSl false (eVar 1) oNone (oSome (eVar 2)))))) sStuck sNil) (q := fun _ x => x) (ρ0 := [some (.val (.int (f : Int))), some (.val (.tuple es)), none, none]) (ρs := fun i x => [some (.val (.int (f : Int))), some (.val (.tuple es)), some (.val (.int (i : Int))), some (.val x)]) (xs := es) (k := 0) (ρ := [some (.val (.int (f : Int))), some (.val (.tuple es)), none, none]) (fun i hi ρ hρ => by
      rcases hρ with rfl | ⟨_, _, rfl⟩ <;> rfl) (fun i hi => by
      have m : es[i] ∈ es := List.getElem_mem hi
      have ir := F.ise _ (P.ine m)
      have s := fSl_t false es none (some (i : Int))
      rw [cutD_take] at s
      have nn := fIn_no (sh_eff P (P.ine m)) (sh_effs P (xs := es.take i) fun e he => P.ine (List.mem_of_mem_take he)) (P.nt hi)
      rw [Nat.zero_add]
      generalize es[i] = e at *
      clear P F m
      walk_at "ev") (Or.inl rfl)
  have e3 : sFor (iEnum (eVar 1)) (gTup 2 (gsCons (gVar 2) (gsCons (gVar 3) gsNil))) (sIf (tOr (tNot (tE (eCallI V_is_effect_by (aCons (eVar 0) (aCons (eVar 3) aNil))))) (tE (eOp2 fIn (eVar 3) (eSl false (eVar 1) oNone (oSome (eVar 2)))))) sStuck sNil) [some (.val (.int (f : Int))), some (.val (.tuple es)), none, none] = mP (.nx, ρ') := e2
  unfold V_check_tried B_check_tried
  simp only [fnV, List.length_cons, List.length_nil, Nat.zero_add, Nat.reduceAdd, decide_true, guard_t, mB_mP, List.map_cons, List.map_nil, Nat.reduceSub, List.replicate, List.cons_append, List.nil_append, sCons_eq, e1, e3]
  exact mCall_nx _
theorem check_effect_eq (P : PlanR f rs es left) (ho : o ∈ left) : V_check_effect [.val (.int (f : Int)), .val o] = mP (.val .none) := by
  have w := (fac P.f1 P.f4).wre o (P.inl ho)
  have i0 : iSeq (eCallI V_wrong_in_effect (aCons (eVar 0) (aCons (eVar 1) aNil))) [some (.val (.int (f : Int))), some (.val o), none] = mP [] := by
    clear P
    walk_at "ev"
  unfold V_check_effect B_check_effect
  simp only [fnV, List.length_cons, List.length_nil, Nat.zero_add, Nat.reduceAdd, decide_true, guard_t, mB_mP, List.map_cons, List.map_nil, Nat.reduceSub, List.replicate, List.cons_append, List.nil_append, sFor_eq, i0]
  exact mCall_nx _
theorem lens_eq (P : PlanR f rs es left) : eArgs (b1 bLen) (aCons (eOp2 fIx (eVar 0) (eC (.int 0))) aNil) = eArgs (b1 bLen) (aCons (eOp2 fIx (eVar 0) (eC (.int 0))) aNil) := rfl
theorem check_model_eq (P : PlanR f rs es left) : V_check_model [.val (.tuple rs), .val (.tuple es)] = mP (.val .none) := by
  have h0 : 0 < rs.length := P.r0
  have f0 : fIx (.val (.tuple rs)) (.val (.int 0)) = mP (.val rs[0]) := (Sq.t rs).ix (k := 0) (List.getElem?_eq_getElem h0)
  have lr : bLen (.val rs[0]) = mP (.val (.int (f : Int))) := by
    obtain ⟨xs, e, hl⟩ := (fac P.f1 P.f4).rlen rs[0] (P.sub _ (List.getElem_mem h0))
    rw [e, bLen_t, hl]
  have cr := check_runs_eq P
  have ct := check_tried_eq P
  have l := bLen_t rs
  have it := isi_tup rs
  have gt : fGt (.val (.int (rs.length : Nat))) (.val (.int 10)) = mP (.val (.bool false)) := by rw [fGt_int, decide_eq_false]; have := P.r1; omega
  generalize rs[0] = r0 at *
  clear P h0
  unfold V_check_model B_check_model
  walk_at "ev"
theorem trial_of_eq (P : PlanR f rs es left) (ho : o ∈ left) : V_trial_of [.val (.tuple rs), .val (.tuple es)] = mP (.val (TRD (SMat sgV rs es))) := by
  have h0 : 0 < rs.length := P.r0
  have f0 : fIx (.val (.tuple rs)) (.val (.int 0)) = mP (.val rs[0]) := (Sq.t rs).ix (k := 0) (List.getElem?_eq_getElem h0)
  have lr : bLen (.val rs[0]) = mP (.val (.int (f : Int))) := by
    obtain ⟨xs, e, hl⟩ := (fac P.f1 P.f4).rlen rs[0] (P.sub _ (List.getElem_mem h0))
    rw [e, bLen_t, hl]
  have cr := check_runs_eq P
  have ct := check_tried_eq P
  have tb := trial_by_eq (P.ok ho)
  have l := bLen_t rs
  have it := isi_tup rs
  have gt : fGt (.val (.int (rs.length : Nat))) (.val (.int 10)) = mP (.val (.bool false)) := by rw [fGt_int, decide_eq_false]; have := P.r1; omega
  generalize rs[0] = r0 at *
  clear P h0 ho
  unfold V_trial_of B_trial_of
  walk_at "ev"
theorem check_other_eq (P : PlanR f rs es left) (ho : o ∈ left) : V_check_other [.val (.tuple rs), .val (.tuple es), .val o] = mP (.val .none) := by
  have h0 : 0 < rs.length := P.r0
  have f0 : fIx (.val (.tuple rs)) (.val (.int 0)) = mP (.val rs[0]) := (Sq.t rs).ix (k := 0) (List.getElem?_eq_getElem h0)
  have lr : bLen (.val rs[0]) = mP (.val (.int (f : Int))) := by
    obtain ⟨xs, e, hl⟩ := (fac P.f1 P.f4).rlen rs[0] (P.sub _ (List.getElem_mem h0))
    rw [e, bLen_t, hl]
  have ce := check_effect_eq P ho
  have nn := fIn_no (sh_eff P (P.inl ho)) (sh_effs P (xs := es) fun e he => P.ine he) (P.ne ho)
  generalize rs[0] = r0 at *
  clear P h0 ho
  unfold V_check_other B_check_other
  walk_at "ev"
theorem mix_eq (P : PlanR f rs es left) (ho : o ∈ left) : V_mix [.val (.tuple rs), .val (.tuple es), .val o] = mP (.val (dueD sgV rs es o)) := by
  have cm := check_model_eq P
  have co := check_other_eq P ho
  have mb := iso_of (mix_by_runs (P.ok ho))
  clear P ho
  unfold V_mix B_mix
  walk_at "ev"
end GL
set_option Elab.async false
set_option linter.all false
set_option maxHeartbeats 1000000
/-! what the weights tell of yields. -/
namespace LA
theorem tell_math {m n k : Nat} {s : Nat → Nat → Rat} {x v o : Nat → Rat} {z : Rat} (hk : k < n) (hG : ∀ j, j < n → sumN n (fun i => (sumN m fun p => s p j * s p i) * x i) = if j = k then 1 else 0) :
    sumN m (fun p => (sumN n fun i => s p i * x i) * ((sumN n fun j => s p j * v j) + z * o p)) = v k + z * sumN m (fun p => (sumN n fun i => s p i * x i) * o p) := by
  have e1 : sumN m (fun p => (sumN n fun i => s p i * x i) * ((sumN n fun j => s p j * v j) + z * o p)) = sumN m (fun p => (sumN n fun i => s p i * x i) * (sumN n fun j => s p j * v j) + z * ((sumN n fun i => s p i * x i) * o p)) :=
    sumN_congr fun p _ => by grind
  rw [e1, sumN_lin]
  have e2 : sumN m (fun p => (sumN n fun i => s p i * x i) * (sumN n fun j => s p j * v j)) = v k := by
    have a : sumN m (fun p => (sumN n fun i => s p i * x i) * (sumN n fun j => s p j * v j)) = sumN m (fun p => sumN n fun j => (sumN n fun i => s p i * x i) * (s p j * v j)) :=
      sumN_congr fun p _ => (sumN_mul _ _ _).symm
    rw [a, sumN_comm]
    have b : ∀ j, j < n → sumN m (fun p => (sumN n fun i => s p i * x i) * (s p j * v j)) = v j * (if j = k then 1 else 0) := by
      intro j hj
      rw [← hG j hj]
      have c : sumN m (fun p => (sumN n fun i => s p i * x i) * (s p j * v j)) = sumN m (fun p => sumN n fun i => v j * (s p j * s p i * x i)) := by
        refine sumN_congr fun p _ => ?_
        have d : sumN n (fun i => v j * (s p j * s p i * x i)) = sumN n (fun i => (s p j * v j) * (s p i * x i)) := sumN_congr fun i _ => by grind
        rw [d, sumN_mul]
        grind
      rw [c, sumN_comm, ← sumN_mul]
      refine sumN_congr fun i _ => ?_
      have d : sumN m (fun p => v j * (s p j * s p i * x i)) = sumN m (fun p => (v j * x i) * (s p j * s p i)) := sumN_congr fun p _ => by grind
      rw [d, sumN_mul]
      grind
    have c : sumN n (fun j => sumN m (fun p => (sumN n fun i => s p i * x i) * (s p j * v j))) = sumN n (fun j => v j * (if j = k then 1 else 0)) := sumN_congr fun j hj => b j hj
    rw [c, sumN_single hk fun i hi hne => by rw [if_neg hne, Rat.mul_zero], if_pos rfl, Rat.mul_one]
  rw [e2]
end LA
set_option Elab.async false
set_option linter.all false
set_option maxRecDepth 100000
set_option maxHeartbeats 4000000
/-! what the weights tell. -/
namespace GL
open MK PySem PySem.Spec PyProof.Rows L2 LA
local macro_rules | `(tactic| walk_at "ev") => `(tactic| simp only [Option.map_some, Option.map_none, fnV, mCall_rt, mCall_nx, List.length_cons, List.length_nil, Nat.zero_add, Nat.reduceAdd, List.map_cons, List.map_nil, Nat.reduceSub, Nat.sub_self, List.replicate, List.cons_append, List.nil_append, List.append_nil, decide_true, decide_false, guard_t, mB_mP, eVar_z, eVar_s, eC_eq, eOp2_eq, eOp1_eq, aNil_eq, aCons_eq, aStar_eq, eArgs_eq, tE_eq, mBool_eq, mInt_eq, mD_eq, mSeq_t, mSeq_l, mLs_l, mDat_v, tAnd_eq, tOr_eq, tNot_eq, eAnd_eq, eOr_eq, eNot_eq, eIf_eq, eChain_eq, eTup_eq, eLst_eq, mTup0, mTup1, mTup2, mTup3, mLst0, mLst1, mLst2, few_of, Nat.reduceLeDiff, mNew_f, b1_eq, b2_eq, sCons_eq, sNil_eq, sAsg_eq, gVar_eq, eSl_eq, oSome_eq, oNone_eq, sRet_eq, sRetN_eq, sIf_eq, sExpr_eq, sFor_eq, iSeq_eq, mIter_l, mIter_t, iEnum_eq, iZip_eq, iRng1_eq, iRng2_eq, iRngV_eq, bRange1_eq, mRng_eq, noX_mP, noExc_nil, noExc_none, noExc_val, noExc_rng, wipeR, List.set_cons_zero, List.set_cons_succ, tYesM_eq, gTup_eq2, gTup_eq3, eCallI_eq, List.all_cons, List.all_nil, isVal, Bool.and_true, Bool.and_self, Bool.true_and, iso_mP, fIx_fr0, fIx_fr1, fAdd_int, fSub_int, fNeg_int, fLt_int, fLe_int, fGt_int, fGe_int, bGcd_int, bLen_t, bLen_l, bTuple_l, bTuple_t, bList_t, bList_l, sPar_eq, bAbs_int, bIntB_int, if_true, Bool.not_true, Bool.not_false, Bool.false_eq_true, reduceIte, *])
def toldR (S : Mat) (v : List Rat) (z : Rat) (os : List Rat) : List Rat := (List.range S.length).map fun p => rdot (S.getD p []) v + z * os.getD p 0
theorem toldR_len (S : Mat) (v : List Rat) (z : Rat) (os : List Rat) : (toldR S v z os).length = S.length := by unfold toldR; rw [List.length_map, List.length_range]
theorem toldR_get {S : Mat} {v : List Rat} {z : Rat} {os : List Rat} {p : Nat} (hp : p < S.length) : (toldR S v z os).getD p 0 = rdot (S.getD p []) v + z * os.getD p 0 := by
  unfold toldR
  rw [getD_get (show p < _ by rw [List.length_map, List.length_range]; exact hp), List.getElem_map, List.getElem_range]
theorem wts_get {S : Mat} {x : List Rat} {p : Nat} (hp : p < S.length) : (wts S x).getD p 0 = rdot (S.getD p []) x := by
  unfold wts
  rw [getD_get (show p < _ by rw [List.length_map]; exact hp), List.getElem_map, getD_get hp]
theorem tell_eq {S : Mat} {n k : Nat} {x v os : List Rat} {z : Rat} (O : OkS S n) (hk : k < n) (e : solve (gram n S) (unitR n k) n = some x) (hv : v.length = n) (ho : os.length = S.length) : rdot (wts S x) (toldR S v z os) = v.getD k 0 + z * rdot (wts S x) os := by
  have hl : (gram n S).length = (unitR n k).length := by rw [gram_len, unitR_len]
  obtain ⟨hx, hs⟩ := solve_some hl (gram_rect n S) e
  have row : ∀ p, p < S.length → ∀ y : List Rat, y.length = n → rdot (S.getD p []) y = sumN n fun i => ent S p i * y.getD i 0 := fun p hp y hy => by
    have hlp := getD_row O.rect hp
    rw [rdot_sumN (by rw [hlp, hy]), hlp]
    rfl
  have m := tell_math (m := S.length) (n := n) (k := k) (s := fun p i => ent S p i) (x := fun i => x.getD i 0) (v := fun i => v.getD i 0) (o := fun p => os.getD p 0) (z := z) hk (fun j hj => by
    have h := hs j (by rw [gram_len]; exact hj)
    rw [unitR_get hj] at h
    rw [← h]
    refine sumN_congr fun i hi => ?_
    show _ = ent (gram n S) j i * x.getD i 0
    rw [gram_ent hj hi, rdot_sumN (by rw [colM_len, colM_len]), colM_len]
    congr 1
    refine sumN_congr fun p hp => ?_
    rw [colM_get hp, colM_get hp])
  rw [rdot_sumN (by rw [wts_len, toldR_len]), rdot_sumN (xs := wts S x) (ys := os) (by rw [wts_len, ho]), wts_len]
  have a : sumN S.length (fun i => (wts S x).getD i 0 * (toldR S v z os).getD i 0) = sumN S.length (fun p => (sumN n fun i => ent S p i * x.getD i 0) * ((sumN n fun j => ent S p j * v.getD j 0) + z * os.getD p 0)) := sumN_congr fun p hp => by
    rw [wts_get hp, toldR_get hp, row p hp x hx, row p hp v hv]
  have b : sumN S.length (fun i => (wts S x).getD i 0 * os.getD i 0) = sumN S.length (fun p => (sumN n fun i => ent S p i * x.getD i 0) * os.getD p 0) := sumN_congr fun p hp => by
    rw [wts_get hp, row p hp x hx]
  rw [a, b]
  exact m
theorem fr_sign {q : Rat} {s : Int} (h : s.natAbs = 1) : (PyData.tuple [.int (q.num * s), .int (q.den : Int)]) = fr (q * (s : Rat)) := by
  have : s = 1 ∨ s = -1 := by omega
  rcases this with rfl | rfl
  · rw [show ((1 : Int) : Rat) = 1 from rfl, Rat.mul_one, Int.mul_one]
    rfl
  · have e : q * ((-1 : Int) : Rat) = -q := by
      have : ((-1 : Int) : Rat) = -1 := rfl
      rw [this]
      grind
    rw [e]
    unfold fr
    rw [Rat.neg_num, Rat.neg_den]
    congr 3
    omega
structure NumOk (v : List Rat) (z : Rat) : Prop where
  v : ∀ q ∈ v, Hd 72 12 q
  z : Hd 72 12 z
theorem sz12 {q : Rat} (h : Hd 72 12 q) : Sz q := sz_small h (by omega) (by omega) (by omega)
theorem rowv_hd {r v : List Rat} (hr : ∀ z ∈ r, Hd 1 1 z) (hl : r.length ≤ 5) (hv : ∀ q ∈ v, Hd 72 12 q) : ∀ z ∈ List.zipWith (· * ·) r v, Hd 72 12 z := by
  intro z hz
  obtain ⟨a, ha, b, hb, e⟩ := mem_zipWith hz
  rw [e]
  have := (hr a ha).mul (hv b hb)
  rw [Nat.one_mul, Nat.one_mul] at this
  exact this
theorem rowv_ok {r v : List Rat} (hr : ∀ z ∈ r, Hd 1 1 z) (hl : r.length ≤ 5) (hv : ∀ q ∈ v, Hd 72 12 q) : SumOk (List.zipWith (· * ·) r v) ∧ Hd 400 12 (rdot r v) := by
  have h := rowv_hd hr hl hv
  have l : (List.zipWith (· * ·) r v).length ≤ 5 := by rw [List.length_zipWith]; omega
  have b := big1
  refine ⟨SumOk.of (by omega) h ?_ (by omega), (Hd.rsum h).mono ?_⟩
  · have := Nat.mul_le_mul_right 72 (show (List.zipWith (· * ·) r v).length + 1 ≤ 6 by omega)
    omega
  · have := Nat.mul_le_mul_right 72 l
    omega
theorem told_hd {S : Mat} {n : Nat} {v os : List Rat} {z : Rat} (O : OkS S n) (N : NumOk v z) (ho : ∀ q ∈ os, Hd 1 1 q) (hol : os.length = S.length) : ∀ q ∈ toldR S v z os, Hd 500 12 q := by
  intro q hq
  unfold toldR at hq
  obtain ⟨p, hp, rfl⟩ := List.mem_map.mp hq
  have hp := List.mem_range.mp hp
  have hm : S.getD p [] ∈ S := by rw [getD_get hp]; exact List.getElem_mem hp
  have r := (rowv_ok (ent_mem' O hm) (by rw [O.rect _ hm]; exact O.n1) N.v).2
  have o := ho (os.getD p 0) (by rw [getD_get (by omega)]; exact List.getElem_mem _)
  have m := N.z.mul o
  rw [Nat.mul_one, Nat.mul_one] at m
  exact (r.add m).mono (by omega)
variable {f : Nat} {rs es left : List PyData} {o : PyData}
theorem told_eq {sg : PyData → PyData → Int} (P : PlOk sg rs es o) {v : List Rat} {z : Rat} (N : NumOk v z) (hv : v.length = es.length) {ρ : Ro} (x0 x3 x5 : SV) (w0 : ∀ y : Option SV, wipeR (noExc [some x0, some (.val (.tuple rs)), some (.val (.tuple es)), some x3, some (.val o), some x5, some (.val (TRD (SMat sg rs es))), some (.val (.list (v.map fr))), some (.val (fr z)), none, none, none, none, none]) [13] = [some x0, some (.val (.tuple rs)), some (.val (.tuple es)), some x3, some (.val o), some x5, some (.val (TRD (SMat sg rs es))), some (.val (.list (v.map fr))), some (.val (fr z)), none, none, none, none, none]) :
    eLc false (iRng1 (eArgs (b1 bLen) (aCons (eVar 1) aNil))) (gVar 13) tYesM (eCallI V__law_plus (aCons (eCallI V__law_dot (aCons (eOp2 fIx (eOp2 fIx (eVar 6) (eC (.int 0))) (eVar 13)) (aCons (eVar 7) aNil))) (aCons (eTup (aCons (eOp2 (fMul false) (eOp2 fIx (eVar 8) (eC (.int 0))) (eCallI V__law_sign (aCons (eOp2 fIx (eVar 1) (eVar 13)) (aCons (eVar 4) aNil)))) (aCons (eOp2 fIx (eVar 8) (eC (.int 1))) aNil))) aNil))) [13]
     [some x0, some (.val (.tuple rs)), some (.val (.tuple es)), some x3, some (.val o), some x5, some (.val (TRD (SMat sg rs es))), some (.val (.list (v.map fr))), some (.val (fr z)), none, none, none, none, none] = mP (.val (.list ((toldR (SMat sg rs es) v z (osR sg rs o)).map fr))) := by
  have l := bLen_t rs
  have O := P.ok
  have c := eLc_map (it := iRng1 (eArgs (b1 bLen) (aCons (eVar 1) aNil))) (t := gVar 13) (c := tYesM) (e := eCallI V__law_plus (aCons (eCallI V__law_dot (aCons (eOp2 fIx (eOp2 fIx (eVar 6) (eC (.int 0))) (eVar 13)) (aCons (eVar 7) aNil))) (aCons (eTup (aCons (eOp2 (fMul false) (eOp2 fIx (eVar 8) (eC (.int 0))) (eCallI V__law_sign (aCons (eOp2 fIx (eVar 1) (eVar 13)) (aCons (eVar 4) aNil)))) (aCons (eOp2 fIx (eVar 8) (eC (.int 1))) aNil))) aNil))) (vs := [13])
    (ρ := [some x0, some (.val (.tuple rs)), some (.val (.tuple es)), some x3, some (.val o), some x5, some (.val (TRD (SMat sg rs es))), some (.val (.list (v.map fr))), some (.val (fr z)), none, none, none, none, none]) (xs := List.range rs.length) (f := fun (k : Nat) => PyData.int (k : Int))
    (ρ' := fun p => [some x0, some (.val (.tuple rs)), some (.val (.tuple es)), some x3, some (.val o), some x5, some (.val (TRD (SMat sg rs es))), some (.val (.list (v.map fr))), some (.val (fr z)), none, none, none, none, some (.val (.int (p : Int)))]) (g := fun p => fr (rdot ((SMat sg rs es).getD p []) v + z * (osR sg rs o).getD p 0)) (iRng1_nat (by clear P O N hv w0; walk_at "ev") (by have := P.r1; omega)) (by rw [List.length_range]; have := P.r1; omega) (w0 none) (fun p _ => rfl) (fun p _ => rfl) (fun p hp => by
    have hp := List.mem_range.mp hp
    have hp2 : p < (SMat sg rs es).length := by rw [SMat_len]; exact hp
    have hm : (SMat sg rs es).getD p [] ∈ SMat sg rs es := by rw [getD_get hp2]; exact List.getElem_mem hp2
    have hlp := O.rect _ hm
    have a0 := TRD_0 (SMat sg rs es)
    have a1 : fIx (.val (.tuple ((SMat sg rs es).map rt))) (.val (.int (p : Int))) = mP (.val (rt ((SMat sg rs es).getD p []))) := (Sq.t _).ix (row_t hp2)
    have a2 : fIx (.val (.tuple rs)) (.val (.int (p : Int))) = mP (.val rs[p]) := (Sq.t rs).ix (List.getElem?_eq_getElem hp)
    have ro := rowv_ok (ent_mem' O hm) (by rw [hlp]; exact O.n1) N.v
    have d := law_dot_eq (p := rt ((SMat sg rs es).getD p [])) (q := .list (v.map fr)) (Sq.t _) (Sq.l _) (by rw [hlp, hv]) (h1_sz (ent_mem' O hm)) (fun q hq => sz12 (N.v q hq)) (by have := O.n1; omega) ro.1
    have sok := P.sgo rs[p] (List.getElem_mem hp)
    have s := sok.law
    have mu := fMul_mid (o := false) (sz12 N.z).mn (mid_small (i := sg rs[p] o) (by have := sok.one; omega))
    have fs := fr_sign (q := z) sok.one
    have oe : (osR sg rs o).getD p 0 = ((sg rs[p] o : Int) : Rat) := by
      unfold osR
      rw [getD_get (show p < (rs.map _).length by rw [List.length_map]; exact hp), List.getElem_map]
    have zs := N.z.mul (sg_hd sok)
    rw [Nat.mul_one, Nat.mul_one] at zs
    have pl := law_plus_eq (sz_small ro.2 (by omega) (by omega) (by omega)) (sz12 zs)
    rw [oe]
    rw [← fs] at pl
    generalize rs[p] = r at *
    clear P O N hv w0 hlp hm ro sok zs oe hp2 hp fs
    generalize SMat sg rs es = S at *
    walk_at "ev")
  rw [c]
  unfold toldR
  rw [SMat_len, List.map_map]
  rfl
/-- a number of the mix -/
theorem mix_sz {sg : PyData → PyData → Int} (P : PlOk sg rs es o) {x : List Rat} (hx : XOk es.length x) : ∃ d : Nat, 0 < d ∧ d ≤ 2 ^ 200 ∧ Hd (2 ^ 214) d (rdot (wts (SMat sg rs es) x) (osR sg rs o)) := by
  obtain ⟨d, d0, d1, hd⟩ := wts_hd P.ok hx
  have hp : ∀ z ∈ List.zipWith (· * ·) (wts (SMat sg rs es) x) (osR sg rs o), Hd (2 ^ 210) d z := fun z hz => by
    obtain ⟨a, ha, b, hb, e⟩ := mem_zipWith hz
    rw [e]
    have := (hd a ha).mul (os_hd P b hb)
    rw [Nat.mul_one, Nat.mul_one] at this
    exact this
  refine ⟨d, d0, d1, (Hd.rsum hp).mono ?_⟩
  have := P.ok.m1
  exact Nat.le_trans (Nat.mul_le_mul_right _ (show (List.zipWith (· * ·) (wts (SMat sg rs es) x) (osR sg rs o)).length ≤ 10 by rw [List.length_zipWith, wts_len]; omega)) (by decide)
theorem tell_ldot {sg : PyData → PyData → Int} (P : PlOk sg rs es o) {v : List Rat} {z : Rat} (N : NumOk v z) {x : List Rat} (hx : XOk es.length x) : V__law_dot [.val (rl (wts (SMat sg rs es) x)), .val (.list ((toldR (SMat sg rs es) v z (osR sg rs o)).map fr))] = mP (.val (fr (rdot (wts (SMat sg rs es) x) (toldR (SMat sg rs es) v z (osR sg rs o))))) := by
  have th := told_hd P.ok N (os_hd P) (by rw [os_len, SMat_len])
  have m1 := P.ok.m1
  refine law_dot_eq (Sq.l _) (Sq.l _) (by rw [wts_len, toldR_len]) (wts_all P.ok hx) (fun q hq => sz_small (th q hq) (by omega) (by omega) (by omega)) (by rw [wts_len]; omega) ?_
  obtain ⟨d, d0, d1, hd⟩ := wts_hd P.ok hx
  have hp : ∀ q ∈ List.zipWith (· * ·) (wts (SMat sg rs es) x) (toldR (SMat sg rs es) v z (osR sg rs o)), Hd (2 ^ 210 * 500) (d * 12) q := fun q hq => by
    obtain ⟨a, ha, b, hb, e⟩ := mem_zipWith hq
    rw [e]
    exact (hd a ha).mul (th b hb)
  refine SumOk.of (by omega) hp ?_ ?_
  · exact Nat.lt_of_le_of_lt (Nat.mul_le_mul_right _ (show (List.zipWith (· * ·) (wts (SMat sg rs es) x) (toldR (SMat sg rs es) v z (osR sg rs o))).length + 1 ≤ 11 by rw [List.length_zipWith, wts_len]; omega)) (Nat.lt_trans (by decide) big2)
  · exact Nat.lt_of_le_of_lt (Nat.mul_le_mul_right 12 d1) (Nat.lt_trans (by decide) big2)
end GL
set_option Elab.async false
set_option linter.all false
set_option maxRecDepth 100000
set_option maxHeartbeats 4000000
/-! a plan is right. -/
namespace GL
open MK PySem PySem.Spec PyProof.Rows L2 LA
local macro_rules | `(tactic| walk_at "ev") => `(tactic| simp only [Option.map_some, Option.map_none, fnV, mCall_rt, mCall_nx, List.length_cons, List.length_nil, Nat.zero_add, Nat.reduceAdd, List.map_cons, List.map_nil, Nat.reduceSub, Nat.sub_self, List.replicate, List.cons_append, List.nil_append, List.append_nil, decide_true, decide_false, guard_t, mB_mP, eVar_z, eVar_s, eC_eq, eOp2_eq, eOp1_eq, aNil_eq, aCons_eq, aStar_eq, eArgs_eq, tE_eq, mBool_eq, mInt_eq, mD_eq, mSeq_t, mSeq_l, mLs_l, mDat_v, tAnd_eq, tOr_eq, tNot_eq, eAnd_eq, eOr_eq, eNot_eq, eIf_eq, eChain_eq, eTup_eq, eLst_eq, mTup0, mTup1, mTup2, mTup3, mLst0, mLst1, mLst2, few_of, Nat.reduceLeDiff, mNew_f, b1_eq, b2_eq, sCons_eq, sNil_eq, sAsg_eq, gVar_eq, eSl_eq, oSome_eq, oNone_eq, sRet_eq, sRetN_eq, sIf_eq, sExpr_eq, sFor_eq, iSeq_eq, mIter_l, mIter_t, iEnum_eq, iZip_eq, iRng1_eq, iRng2_eq, iRngV_eq, bRange1_eq, mRng_eq, noX_mP, noExc_nil, noExc_none, noExc_val, noExc_rng, wipeR, List.set_cons_zero, List.set_cons_succ, tYesM_eq, gTup_eq2, gTup_eq3, eCallI_eq, List.all_cons, List.all_nil, isVal, Bool.and_true, Bool.and_self, Bool.true_and, iso_mP, fIx_fr0, fIx_fr1, fAdd_int, fSub_int, fNeg_int, fLt_int, fLe_int, fGt_int, fGe_int, bGcd_int, bLen_t, bLen_l, bTuple_l, bTuple_t, bList_t, bList_l, sPar_eq, bAbs_int, bIntB_int, if_true, Bool.not_true, Bool.not_false, Bool.false_eq_true, reduceIte, *])
theorem plD_mix (S : Mat) (os : List Rat) (n k j : Nat) : plD (j + 2) (mixD S os n k) = true := by
  unfold mixD
  split
  · simp [plD]
  · exact plD_fr j _
theorem plD_due {sg : PyData → PyData → Int} {rs es : List PyData} {o : PyData} (h : es.length ≤ 100) (j : Nat) : plD (j + 3) (dueD sg rs es o) = true := by
  unfold dueD plD
  rw [Bool.and_eq_true, List.all_eq_true]
  refine ⟨fun x hx => ?_, decide_eq_true (by rw [List.length_map, List.length_range]; omega)⟩
  obtain ⟨k, _, rfl⟩ := List.mem_map.mp hx
  exact plD_mix _ _ _ _ _
theorem plD_rt (r : List Rat) (h : r.length ≤ 1000) (j : Nat) : plD (j + 3) (rt r) = true := by
  unfold rt plD
  rw [Bool.and_eq_true, List.all_eq_true]
  refine ⟨fun x hx => ?_, decide_eq_true (by rw [List.length_map]; omega)⟩
  obtain ⟨k, _, rfl⟩ := List.mem_map.mp hx
  exact plD_fr _ _
theorem plD_TRD {S : Mat} {n : Nat} (O : OkS S n) : plD 8 (TRD S) = true := by
  have m1 := O.m1
  have n1 := O.n1
  have a : plD 7 (.tuple (S.map rt)) = true := by
    unfold plD
    rw [Bool.and_eq_true, List.all_eq_true]
    refine ⟨fun x hx => ?_, decide_eq_true (by rw [List.length_map]; omega)⟩
    obtain ⟨r, hr, rfl⟩ := List.mem_map.mp hx
    exact plD_rt r (by rw [O.rect r hr]; omega) 3
  have b : plD 7 (.tuple (ones S.length)) = true := by
    unfold plD
    rw [Bool.and_eq_true, List.all_eq_true]
    refine ⟨fun x hx => ?_, decide_eq_true (by unfold ones; rw [List.length_replicate]; omega)⟩
    rw [(List.mem_replicate.mp hx).2]
    exact plD_fr 4 1
  have c : plD 7 (.tuple []) = true := rfl
  unfold TRD plD
  simp only [List.all_cons, List.all_nil, a, b, c]
  rfl
def rro (n : Nat) (rs es left : List PyData) (o due t : PyData) (v : List Rat) (z : Rat) (x9 : Option PyData) (x10 x11 : Option PyData) : Ro := [some (.ref n), some (.val (.tuple rs)), some (.val (.tuple es)), some (.val (.list left)), some (.val o), some (.val due), some (.val t), some (.val (.list (v.map fr))), some (.val (fr z)), x9.map SV.val, x10.map SV.val, x11.map SV.val, none, none]
def rB : Sm := (sCons (sAsg (eCallI V__law_weights (aCons (eVar 6) (aCons (eCallI V__law_unit (aCons (eArgs (b1 bLen) (aCons (eVar 2) aNil)) (aCons (eVar 10) aNil))) aNil))) (gVar 11))
    (sCons (sIf (tE (eOp2 fNe (eOp2 fIsN (eVar 11) (eC .none)) (eOp2 fIsN (eOp2 fIx (eVar 5) (eVar 10)) (eC .none)))) (sRet (eC (.bool false))) sNil)
    (sIf (tAnd (tE (eOp2 fNotN (eVar 11) (eC .none))) (tE (eOp2 fNe (eCallI V__law_dot (aCons (eVar 11) (aCons (eVar 9) aNil))) (eCallI V__law_plus (aCons (eOp2 fIx (eVar 7) (eVar 10)) (aCons (eCallI V__law_times (aCons (eVar 8) (aCons (eOp2 fIx (eVar 5) (eVar 10)) aNil))) aNil)))))) (sRet (eC (.bool false))) sNil)))
variable {rs es left : List PyData} {o : PyData} {sg : PyData → PyData → Int}
theorem due_ix {k : Nat} (hk : k < es.length) : fIx (.val (dueD sg rs es o)) (.val (.int (k : Int))) = mP (.val (mixD (SMat sg rs es) (osR sg rs o) es.length k)) := by
  unfold dueD
  refine (Sq.t _).ix ?_
  rw [List.getElem?_map, List.getElem?_range hk]
  rfl
theorem ne_bool (b : Bool) : fNe (.val (.bool b)) (.val (.bool b)) = mP (.val (.bool false)) := by
  cases b <;> rfl
theorem rB_step (P : PlOk sg rs es o) {v : List Rat} {z : Rat} (N : NumOk v z) (hv : v.length = es.length) {n k : Nat} {x11 : Option PyData} (hk : k < es.length) : ∃ y : PyData,
    rB (rro n rs es left o (dueD sg rs es o) (TRD (SMat sg rs es)) v z (some (.list ((toldR (SMat sg rs es) v z (osR sg rs o)).map fr))) (some (.int (k : Int))) x11) = mP (.nx, rro n rs es left o (dueD sg rs es o) (TRD (SMat sg rs es)) v z (some (.list ((toldR (SMat sg rs es) v z (osR sg rs o)).map fr))) (some (.int (k : Int))) (some y)) := by
  have u := law_unit_eq (n := es.length) (k := k) (by have := P.e1; omega)
  have w := law_weights_eq (k := k) P.ok
  have l := bLen_t es
  have dx := due_ix (sg := sg) (rs := rs) (o := o) hk
  refine ⟨tellD (SMat sg rs es) es.length k, ?_⟩
  have e1 : sAsg (eCallI V__law_weights (aCons (eVar 6) (aCons (eCallI V__law_unit (aCons (eArgs (b1 bLen) (aCons (eVar 2) aNil)) (aCons (eVar 10) aNil))) aNil))) (gVar 11) (rro n rs es left o (dueD sg rs es o) (TRD (SMat sg rs es)) v z (some (.list ((toldR (SMat sg rs es) v z (osR sg rs o)).map fr))) (some (.int (k : Int))) x11) = mP (.nx, rro n rs es left o (dueD sg rs es o) (TRD (SMat sg rs es)) v z (some (.list ((toldR (SMat sg rs es) v z (osR sg rs o)).map fr))) (some (.int (k : Int))) (some (tellD (SMat sg rs es) es.length k))) := by
    unfold rro
    clear P N hv hk dx
    walk_at "ev"
  have nb := ne_bool
  have hs0 : ∀ s, solve (gram es.length (SMat sg rs es)) (unitR es.length k) es.length = s → sCons (sIf (tE (eOp2 fNe (eOp2 fIsN (eVar 11) (eC .none)) (eOp2 fIsN (eOp2 fIx (eVar 5) (eVar 10)) (eC .none)))) (sRet (eC (.bool false))) sNil) (sIf (tAnd (tE (eOp2 fNotN (eVar 11) (eC .none))) (tE (eOp2 fNe (eCallI V__law_dot (aCons (eVar 11) (aCons (eVar 9) aNil))) (eCallI V__law_plus (aCons (eOp2 fIx (eVar 7) (eVar 10)) (aCons (eCallI V__law_times (aCons (eVar 8) (aCons (eOp2 fIx (eVar 5) (eVar 10)) aNil))) aNil)))))) (sRet (eC (.bool false))) sNil) (rro n rs es left o (dueD sg rs es o) (TRD (SMat sg rs es)) v z (some (.list ((toldR (SMat sg rs es) v z (osR sg rs o)).map fr))) (some (.int (k : Int))) (some (tellD (SMat sg rs es) es.length k))) = mP (.nx, rro n rs es left o (dueD sg rs es o) (TRD (SMat sg rs es)) v z (some (.list ((toldR (SMat sg rs es) v z (osR sg rs o)).map fr))) (some (.int (k : Int))) (some (tellD (SMat sg rs es) es.length k))) := by
    intro s hs
    unfold mixD at dx
    unfold tellD
    rw [hs] at dx ⊢
    cases s with
    | none =>
      simp only at dx ⊢
      have f1 := fIsN_v .none
      have f2 := fNotN_v .none
      rw [isN_none] at f1 f2
      unfold rro
      clear P N hv hk hs e1 u w l
      walk_at "ev"
    | some x =>
      simp only at dx ⊢
      have hx := sol_ok P.ok hs
      have f1 := fIsN_v (rl (wts (SMat sg rs es) x))
      have f2 := fNotN_v (rl (wts (SMat sg rs es) x))
      have f3 := fIsN_v (fr (rdot (wts (SMat sg rs es) x) (osR sg rs o)))
      rw [isN_rl] at f1 f2
      rw [isN_fr] at f3
      have d := tell_ldot P N hx
      rw [tell_eq P.ok hk hs hv (by rw [os_len, SMat_len])] at d
      obtain ⟨dd, d0, d1, hm⟩ := mix_sz P hx
      have t := law_times_eq (sz12 N.z) (hm.sz d0 (Nat.lt_trans (by decide) big2) (Nat.lt_of_le_of_lt d1 pow200))
      have vk : Hd 72 12 (v.getD k 0) := N.v _ (by rw [getD_get (by omega)]; exact List.getElem_mem _)
      have zm := N.z.mul hm
      have pl := law_plus_eq (sz12 vk) (zm.sz (by omega) (Nat.lt_trans (by decide) big2) (Nat.lt_of_le_of_lt (Nat.mul_le_mul_left 12 d1) (Nat.lt_trans (by decide) big2)))
      have vx : fIx (.val (.list (v.map fr))) (.val (.int (k : Int))) = mP (.val (fr (v.getD k 0))) := (Sq.l _).ixR (by omega)
      have ne := fNe_fr (v.getD k 0 + z * rdot (wts (SMat sg rs es) x) (osR sg rs o)) (v.getD k 0 + z * rdot (wts (SMat sg rs es) x) (osR sg rs o))
      rw [decide_eq_true rfl] at ne
      unfold rro
      clear P N hv hk hs e1 u w l hx hm zm vk
      walk_at "ev"
  unfold rB
  rw [sCons_eq, e1, mB_mP]
  exact hs0 _ rfl
theorem rB_loop (P : PlOk sg rs es o) {v : List Rat} {z : Rat} (N : NumOk v z) (hv : v.length = es.length) {n : Nat} : ∀ (k lo : Nat) (x10 x11 : Option PyData), lo + k ≤ es.length → ∃ y10 y11 : Option PyData,
    MK.forM (gVar 10) rB ((List.range' lo k).map fun (k : Nat) => PyData.int (k : Int)) (rro n rs es left o (dueD sg rs es o) (TRD (SMat sg rs es)) v z (some (.list ((toldR (SMat sg rs es) v z (osR sg rs o)).map fr))) x10 x11) = mP (.nx, rro n rs es left o (dueD sg rs es o) (TRD (SMat sg rs es)) v z (some (.list ((toldR (SMat sg rs es) v z (osR sg rs o)).map fr))) y10 y11)
  | 0, lo, x10, x11, _ => ⟨x10, x11, rfl⟩
  | k + 1, lo, x10, x11, h => by
    obtain ⟨y, st⟩ := rB_step (left := left) P N hv (n := n) (k := lo) (x11 := x11) (by omega)
    obtain ⟨y10, y11, e⟩ := rB_loop P N hv (n := n) k (lo + 1) (some (.int (lo : Int))) (some y) (by omega)
    refine ⟨y10, y11, ?_⟩
    rw [List.range'_succ, List.map_cons]
    exact (forM_cons (ρ1 := rro n rs es left o (dueD sg rs es o) (TRD (SMat sg rs es)) v z (some (.list ((toldR (SMat sg rs es) v z (osR sg rs o)).map fr))) (some (.int (lo : Int))) x11) rfl st).trans e
theorem right_ok {h : Hm} {n j : Nat} (hp : Pool h n j) (hj : j + 60 < 1000) : ∃ h', V__law_right [.ref n] h = .ok (.val (.bool true)) h' ∧ Pool h' n (j + 60) ∧ h'.length = h.length := by
  obtain ⟨f, rs, es, left, K1, j1, e1, P, p1, hj1, l1⟩ := plan_ok hp (by omega)
  have s1 : sAsg (eCall V__law_plan (aCons (eVar 0) aNil)) (gTup 3 (gsCons (gVar 1) (gsCons (gVar 2) (gsCons (gVar 3) gsNil)))) [some (.ref n), none, none, none, none, none, none, none, none, none, none, none, none, none] h = .ok (.nx, [some (.ref n), some (.val (.tuple rs)), some (.val (.tuple es)), some (.val (.list left)), none, none, none, none, none, none, none, none, none, none]) K1 := by
    have c : eCall V__law_plan (aCons (eVar 0) aNil) [some (.ref n), none, none, none, none, none, none, none, none, none, none, none, none, none] h = .ok (.val (.tuple [.tuple rs, .tuple es, .list left])) K1 := call_ok (ds := [.ref n]) (h1 := h) rfl rfl e1
    rw [sAsg_eq, mB_app c]
    rfl
  have ll : left.length < 1000 := by
    have := P.perm.length_eq
    rw [List.length_append, effL_len] at this
    have h2 : (2 : Nat) ^ f ≤ 2 ^ 4 := Nat.pow_le_pow_right (by omega) P.f4
    omega
  obtain ⟨o, K2, ho, e2, p2, l2, _⟩ := one_ok (xs := left) p1 (by omega) P.l0 ll
  have s2 : sAsg (eCall V__law_one (aCons (eVar 0) (aCons (eVar 3) aNil))) (gVar 4) [some (.ref n), some (.val (.tuple rs)), some (.val (.tuple es)), some (.val (.list left)), none, none, none, none, none, none, none, none, none, none] K1 = .ok (.nx, [some (.ref n), some (.val (.tuple rs)), some (.val (.tuple es)), some (.val (.list left)), some (.val o), none, none, none, none, none, none, none, none, none]) K2 := sAsg_var (call_ok (ds := [.ref n, .val (.list left)]) (h1 := K1) rfl rfl e2)
  have Q := P.ok ho
  have el := bLen_t es
  have c3 : eLc false (iRng1 (eArgs (b1 bLen) (aCons (eVar 2) aNil))) (gVar 10) tYesM (eCallI V__law_mix (aCons (eVar 1) (aCons (eVar 2) (aCons (eVar 10) (aCons (eVar 4) aNil))))) [10] [some (.ref n), some (.val (.tuple rs)), some (.val (.tuple es)), some (.val (.list left)), some (.val o), none, none, none, none, none, none, none, none, none] = mP (.val (.list ((List.range es.length).map (mixD (SMat sgV rs es) (osR sgV rs o) es.length)))) := by
    refine eLc_map (xs := List.range es.length) (f := fun (k : Nat) => PyData.int (k : Int)) (ρ' := fun k => [some (.ref n), some (.val (.tuple rs)), some (.val (.tuple es)), some (.val (.list left)), some (.val o), none, none, none, none, none, some (.val (.int (k : Int))), none, none, none]) (iRng1_nat rfl (by have := P.e1; omega)) (by rw [List.length_range]; have := P.e1; omega) rfl (fun k _ => rfl) (fun k _ => rfl) (fun k hk => ?_)
    have m := law_mix_eq Q (List.mem_range.mp hk)
    generalize mixD (SMat sgV rs es) (osR sgV rs o) es.length k = md at *
    clear P Q ho
    walk_at "ev"
  have s3 : sAsg (eArgs (b1 bTuple) (aCons (eLc false (iRng1 (eArgs (b1 bLen) (aCons (eVar 2) aNil))) (gVar 10) tYesM (eCallI V__law_mix (aCons (eVar 1) (aCons (eVar 2) (aCons (eVar 10) (aCons (eVar 4) aNil))))) [10]) aNil)) (gVar 5) [some (.ref n), some (.val (.tuple rs)), some (.val (.tuple es)), some (.val (.list left)), some (.val o), none, none, none, none, none, none, none, none, none] = mP (.nx, [some (.ref n), some (.val (.tuple rs)), some (.val (.tuple es)), some (.val (.list left)), some (.val o), some (.val (dueD sgV rs es o)), none, none, none, none, none, none, none, none]) := by
    unfold dueD
    generalize (List.range es.length).map (mixD (SMat sgV rs es) (osR sgV rs o) es.length) = ms at *
    clear P Q ho
    walk_at "ev"
  have mx := iso_eq (mix_eq P ho)
  have pd : plD 8 (.list [dueD sgV rs es o, dueD sgV rs es o]) = true := by
    have a := plD_due (sg := sgV) (rs := rs) (es := es) (o := o) (by have := P.e1; omega) 4
    unfold plD
    simp only [List.all_cons, List.all_nil, a]
    rfl
  have sm := same_refl 8 _ pd
  have s4 : sIf (tNot (tE (eCallI (V__law_same 8) (aCons (eLst false (aCons (eCallI V_mix (aCons (eVar 1) (aCons (eVar 2) (aCons (eVar 4) aNil)))) (aCons (eCallKI V_mix [2, 1, 0] (aCons (eVar 4) (aCons (eVar 2) (aCons (eVar 1) aNil)))) aNil))) (aCons (eLst false (aCons (eVar 5) (aCons (eVar 5) aNil))) aNil))))) (sRet (eC (.bool false))) sNil [some (.ref n), some (.val (.tuple rs)), some (.val (.tuple es)), some (.val (.list left)), some (.val o), some (.val (dueD sgV rs es o)), none, none, none, none, none, none, none, none] = mP (.nx, [some (.ref n), some (.val (.tuple rs)), some (.val (.tuple es)), some (.val (.list left)), some (.val o), some (.val (dueD sgV rs es o)), none, none, none, none, none, none, none, none]) := by
    have k : eCallKI V_mix [2, 1, 0] (aCons (eVar 4) (aCons (eVar 2) (aCons (eVar 1) aNil))) [some (.ref n), some (.val (.tuple rs)), some (.val (.tuple es)), some (.val (.list left)), some (.val o), some (.val (dueD sgV rs es o)), none, none, none, none, none, none, none, none] = mP (.val (dueD sgV rs es o)) := mx
    generalize dueD sgV rs es o = due at *
    clear P Q ho s3 c3 pd
    walk_at "ev"
  have tr := iso_eq (trial_of_eq P ho)
  have r0 : ∀ t : Option SV, wipeR (noExc [some (.ref n), some (.val (.tuple rs)), some (.val (.tuple es)), some (.val (.list left)), some (.val o), some (.val (dueD sgV rs es o)), none, none, none, none, none, none, none, none]) [12] = [some (.ref n), some (.val (.tuple rs)), some (.val (.tuple es)), some (.val (.list left)), some (.val o), some (.val (dueD sgV rs es o)), none, none, none, none, none, none, none, none] := fun _ => rfl
  obtain ⟨v, K3, e3, lv, hvs, p3, l3⟩ := numbers_ok (n := n) (ρ := [some (.ref n), some (.val (.tuple rs)), some (.val (.tuple es)), some (.val (.list left)), some (.val o), some (.val (dueD sgV rs es o)), none, none, none, none, none, none, none, none]) rfl (fun x => rfl) es K2 (j1 + 1) p2 (by have := P.e1; omega)
  obtain ⟨z, K4, e4, hz, p4, l4⟩ := number_ok p3 (by have := P.e1; omega)
  have N : NumOk v z := ⟨hvs, hz⟩
  have s5 : sAsg (eTup (aCons (eCallI V_trial_of (aCons (eVar 1) (aCons (eVar 2) aNil))) (aCons (eLc false (iSeq (eVar 2)) (gVar 12) tYesM (eCall V__law_number (aCons (eVar 0) aNil)) [12]) (aCons (eCall V__law_number (aCons (eVar 0) aNil)) aNil)))) (gTup 3 (gsCons (gVar 6) (gsCons (gVar 7) (gsCons (gVar 8) gsNil)))) [some (.ref n), some (.val (.tuple rs)), some (.val (.tuple es)), some (.val (.list left)), some (.val o), some (.val (dueD sgV rs es o)), none, none, none, none, none, none, none, none] K2 = .ok (.nx, rro n rs es left o (dueD sgV rs es o) (TRD (SMat sgV rs es)) v z none none none) K4 := by
    have a1 : eCallI V_trial_of (aCons (eVar 1) (aCons (eVar 2) aNil)) [some (.ref n), some (.val (.tuple rs)), some (.val (.tuple es)), some (.val (.list left)), some (.val o), some (.val (dueD sgV rs es o)), none, none, none, none, none, none, none, none] = mP (.val (TRD (SMat sgV rs es))) := tr
    have a2 : eLc false (iSeq (eVar 2)) (gVar 12) tYesM (eCall V__law_number (aCons (eVar 0) aNil)) [12] [some (.ref n), some (.val (.tuple rs)), some (.val (.tuple es)), some (.val (.list left)), some (.val o), some (.val (dueD sgV rs es o)), none, none, none, none, none, none, none, none] K2 = .ok (.val (.list (v.map fr))) K3 := by
      rw [eLc_f]
      have i0 : iSeq (eVar 2) [some (.ref n), some (.val (.tuple rs)), some (.val (.tuple es)), some (.val (.list left)), some (.val o), some (.val (dueD sgV rs es o)), none, none, none, none, none, none, none, none] = mP es := rfl
      rw [i0, mB_mP, guard_le (by have := P.e1; omega), mB_mP, r0 none]
      exact (mB_app (noX_ok e3)).trans rfl
    have a3 : eCall V__law_number (aCons (eVar 0) aNil) [some (.ref n), some (.val (.tuple rs)), some (.val (.tuple es)), some (.val (.list left)), some (.val o), some (.val (dueD sgV rs es o)), none, none, none, none, none, none, none, none] K3 = .ok (.val (fr z)) K4 := call_ok (ds := [.ref n]) (h1 := K3) rfl rfl e4
    have a := aCons_ok (congrFun a1 K2) (aCons_ok a2 (aCons_ok a3 (r := aNil) rfl))
    have b : eTup (aCons (eCallI V_trial_of (aCons (eVar 1) (aCons (eVar 2) aNil))) (aCons (eLc false (iSeq (eVar 2)) (gVar 12) tYesM (eCall V__law_number (aCons (eVar 0) aNil)) [12]) (aCons (eCall V__law_number (aCons (eVar 0) aNil)) aNil))) [some (.ref n), some (.val (.tuple rs)), some (.val (.tuple es)), some (.val (.list left)), some (.val o), some (.val (dueD sgV rs es o)), none, none, none, none, none, none, none, none] K2 = .ok (.val (.tuple [TRD (SMat sgV rs es), .list (v.map fr), fr z])) K4 := by
      unfold eTup
      exact (mB_app a).trans rfl
    rw [sAsg_eq, mB_app b]
    rfl
  have lt := iso_eq (law_trial_of_eq Q)
  have sm2 := same_refl 8 _ (plD_TRD Q.ok)
  have s6 : sIf (tNot (tE (eCallI (V__law_same 8) (aCons (eVar 6) (aCons (eCallI V__law_trial_of (aCons (eVar 1) (aCons (eVar 2) aNil))) aNil))))) (sRet (eC (.bool false))) sNil (rro n rs es left o (dueD sgV rs es o) (TRD (SMat sgV rs es)) v z none none none) = mP (.nx, rro n rs es left o (dueD sgV rs es o) (TRD (SMat sgV rs es)) v z none none none) := by
    unfold rro
    generalize dueD sgV rs es o = due at *
    generalize TRD (SMat sgV rs es) = tt at *
    clear P Q ho s3 c3 pd s4 sm mx s5 N
    walk_at "ev"
  have s7 : sAsg (eLc false (iRng1 (eArgs (b1 bLen) (aCons (eVar 1) aNil))) (gVar 13) tYesM (eCallI V__law_plus (aCons (eCallI V__law_dot (aCons (eOp2 fIx (eOp2 fIx (eVar 6) (eC (.int 0))) (eVar 13)) (aCons (eVar 7) aNil))) (aCons (eTup (aCons (eOp2 (fMul false) (eOp2 fIx (eVar 8) (eC (.int 0))) (eCallI V__law_sign (aCons (eOp2 fIx (eVar 1) (eVar 13)) (aCons (eVar 4) aNil)))) (aCons (eOp2 fIx (eVar 8) (eC (.int 1))) aNil))) aNil))) [13]) (gVar 9) (rro n rs es left o (dueD sgV rs es o) (TRD (SMat sgV rs es)) v z none none none) = mP (.nx, rro n rs es left o (dueD sgV rs es o) (TRD (SMat sgV rs es)) v z (some (.list ((toldR (SMat sgV rs es) v z (osR sgV rs o)).map fr))) none none) := by
    have te := told_eq Q N lv (ρ := []) (.ref n) (.val (.list left)) (.val (dueD sgV rs es o)) (fun _ => rfl)
    rw [sAsg_eq]
    unfold rro
    simp only [Option.map_none, Option.map_some]
    rw [te]
    rfl
  obtain ⟨y10, y11, e8⟩ := rB_loop (left := left) Q N lv (n := n) es.length 0 none none (by omega)
  rw [← List.range_eq_range'] at e8
  have s8 : sFor (iRng1 (eArgs (b1 bLen) (aCons (eVar 2) aNil))) (gVar 10) rB (rro n rs es left o (dueD sgV rs es o) (TRD (SMat sgV rs es)) v z (some (.list ((toldR (SMat sgV rs es) v z (osR sgV rs o)).map fr))) none none) = mP (.nx, rro n rs es left o (dueD sgV rs es o) (TRD (SMat sgV rs es)) v z (some (.list ((toldR (SMat sgV rs es) v z (osR sgV rs o)).map fr))) y10 y11) := by
    have i0 : iRng1 (eArgs (b1 bLen) (aCons (eVar 2) aNil)) (rro n rs es left o (dueD sgV rs es o) (TRD (SMat sgV rs es)) v z (some (.list ((toldR (SMat sgV rs es) v z (osR sgV rs o)).map fr))) none none) = mP ((List.range es.length).map fun (k : Nat) => PyData.int (k : Int)) := iRng1_nat rfl (by have := P.e1; omega)
    rw [sFor_eq, i0]
    exact e8
  have key : B__law_right [some (.ref n), none, none, none, none, none, none, none, none, none, none, none, none, none] h = .ok (.rt (.val (.bool true)), rro n rs es left o (dueD sgV rs es o) (TRD (SMat sgV rs es)) v z (some (.list ((toldR (SMat sgV rs es) v z (osR sgV rs o)).map fr))) y10 y11) K4 := by
    unfold B__law_right
    exact (sCons_nx s1).trans ((sCons_nx s2).trans ((sCons_nx (congrFun s3 K2)).trans ((sCons_nx (congrFun s4 K2)).trans ((sCons_nx s5).trans ((sCons_nx (congrFun s6 K4)).trans ((sCons_nx (congrFun s7 K4)).trans ((sCons_nx (congrFun s8 K4)).trans rfl)))))))
  have lf : K4.length = h.length := by omega
  refine ⟨K4, ?_, PoolM.mono p4 (by have := P.e1; omega), lf⟩
  show mCall (B__law_right [some (.ref n), none, none, none, none, none, none, none, none, none, none, none, none, none]) h = _
  unfold mCall
  rw [key]
  simp only
  rw [← lf, List.take_length]
end GL
set_option Elab.async false
set_option linter.all false
set_option maxRecDepth 100000
set_option maxHeartbeats 4000000
/-! the law answers True. -/
namespace GL
open MK PySem PySem.Spec PyProof.Rows L2
theorem lc_one {e : Em} {ρ : Ro} {h h1 h2 : Hm} {d y : PyData} {ds r : List PyData} {i : Nat} (q : e (ρ.set i (some (.val d))) h = .ok (.val y) h1) (q2 : lcLoop (gVar i) tYesM e ρ ds h1 = .ok r h2) : lcLoop (gVar i) tYesM e ρ (d :: ds) h = .ok (y :: r) h2 := by
  show mB (gVar i (.val d) ρ) (fun ρ1 => mB (tYesM ρ1) fun b => if b then mB (e ρ1) fun y => mB (mD y) fun yd => mB (lcLoop (gVar i) tYesM e ρ ds) fun r => mP (yd :: r) else lcLoop (gVar i) tYesM e ρ ds) h = _
  refine (mB_ok (a := ρ.set i (some (.val d))) (h' := h) rfl).trans ?_
  refine (mB_ok (a := true) (h' := h) rfl).trans ?_
  rw [if_pos rfl, mB_ok q]
  refine (mB_ok (a := y) (h' := h1) rfl).trans ?_
  rw [mB_ok q2]
  rfl
theorem body_ok (ns : List Int) {lap : Nat} (hl : lap < 3) {o2 : Option SV} {h : Hm} : ∃ h', 
    (sCons (sAsg (eCall V__law_pool (aCons (eVar 0) (aCons (eVar 1) aNil))) (gVar 2))
    (sIf (tNot (tE (eArgs (b1 bAll) (aCons (eLc false (iRng1 (eC (.int 2))) (gVar 3) tYesM (eCall V__law_right (aCons (eVar 2) aNil)) [3]) aNil)))) (sRet (eC (.bool false))) sNil))
    [some (.val (.list (ns.map .int))), some (.val (.int lap)), o2, none] h = .ok (.nx, [some (.val (.list (ns.map .int))), some (.val (.int lap)), some (.ref h.length), none]) h' := by
  obtain ⟨h0, e0, p0, z0⟩ := pool_ok ns lap hl h
  obtain ⟨h1, e1, p1, z1⟩ := right_ok p0 (by omega)
  obtain ⟨h2, e2, p2, z2⟩ := right_ok p1 (by omega)
  refine ⟨h2, ?_⟩
  refine (sCons_nx (sAsg_var (call_ok (ds := [.val (.list (ns.map .int)), .val (.int lap)]) (h1 := h) rfl rfl e0))).trans ?_
  have q : eLc false (iRng1 (eC (.int 2))) (gVar 3) tYesM (eCall V__law_right (aCons (eVar 2) aNil)) [3] [some (.val (.list (ns.map .int))), some (.val (.int lap)), some (.ref h.length), none] h0 = .ok (.val (.list [.bool true, .bool true])) h2 := by
    unfold eLc
    refine (mB_ok (a := [PyData.int 0, PyData.int 1]) (h' := h0) (by kernel_rfl)).trans ?_
    refine (mB_ok (guard_ok rfl)).trans ?_
    have l : lcLoop (gVar 3) tYesM (eCall V__law_right (aCons (eVar 2) aNil)) [some (.val (.list (ns.map .int))), some (.val (.int lap)), some (.ref h.length), none] [PyData.int 0, PyData.int 1] h0 = .ok [.bool true, .bool true] h2 :=
      lc_one (call_ok (ds := [.ref h.length]) (h1 := h0) rfl rfl e1) (lc_one (call_ok (ds := [.ref h.length]) (h1 := h1) rfl rfl e2) rfl)
    refine (mB_ok (a := [PyData.bool true, .bool true]) (h' := h2) ?_).trans rfl
    unfold noX
    have l' : lcLoop (gVar 3) tYesM (eCall V__law_right (aCons (eVar 2) aNil)) (wipeR (noExc [some (.val (.list (ns.map .int))), some (.val (.int lap)), some (.ref h.length), none]) [3]) [PyData.int 0, PyData.int 1] h0 = .ok [.bool true, .bool true] h2 := l
    rw [l']
  unfold sIf
  have c : tNot (tE (eArgs (b1 bAll) (aCons (eLc false (iRng1 (eC (.int 2))) (gVar 3) tYesM (eCall V__law_right (aCons (eVar 2) aNil)) [3]) aNil))) [some (.val (.list (ns.map .int))), some (.val (.int lap)), some (.ref h.length), none] h0 = .ok false h2 := by
    unfold MK.tNot tE eArgs
    rw [mB_ok (a := true) (h' := h2)]
    · rfl
    · rw [mB_ok (a := SV.val (.bool true)) (h' := h2)]
      · rfl
      · rw [mB_ok (aCons_ok q rfl)]
        rfl
  refine (mB_ok c).trans ?_
  rfl
theorem loop_ok (ns : List Int) : ∀ (m lo : Nat) (h : Hm) (o1 o2 : Option SV), lo + m ≤ 3 → ∃ h' o1' o2',
    MK.forM (gVar 1) (sCons (sAsg (eCall V__law_pool (aCons (eVar 0) (aCons (eVar 1) aNil))) (gVar 2))
    (sIf (tNot (tE (eArgs (b1 bAll) (aCons (eLc false (iRng1 (eC (.int 2))) (gVar 3) tYesM (eCall V__law_right (aCons (eVar 2) aNil)) [3]) aNil)))) (sRet (eC (.bool false))) sNil)) (rngD lo m) [some (.val (.list (ns.map .int))), o1, o2, none] h
     = .ok (.nx, [some (.val (.list (ns.map .int))), o1', o2', none]) h'
  | 0, lo, h, o1, o2, _ => ⟨h, o1, o2, rfl⟩
  | m + 1, lo, h, o1, o2, hm => by
    obtain ⟨h1, e1⟩ := body_ok ns (lap := lo) (by omega) (o2 := o2) (h := h)
    obtain ⟨h2, p1, p2, e2⟩ := loop_ok ns m (lo + 1) h1 (some (.val (.int lo))) (some (.ref h.length)) (by omega)
    refine ⟨h2, p1, p2, ?_⟩
    exact (forM_nx (ρ1 := [some (.val (.list (ns.map .int))), some (.val (.int lo)), o2, none]) (h1 := h) rfl e1).trans e2
theorem law_true (ns : List Int) : ∃ h', V_law [.val (.list (ns.map .int))] [] = .ok (.val (.bool true)) h' := by
  obtain ⟨k, k3, ek⟩ : ∃ k : Nat, k ≤ 3 ∧ iRng1 (eArgs (b2 bMax2) (aCons (eC (.int 1)) (aCons (eArgs (b2 bMin2) (aCons (eArgs (b1 bLen) (aCons (eVar 0) aNil)) (aCons (eC (.int 3)) aNil))) aNil))) [some (.val (.list (ns.map .int))), none, none, none] [] = .ok (rngD 0 k) [] := by
    have m0 : eArgs (b2 bMin2) (aCons (eArgs (b1 bLen) (aCons (eVar 0) aNil)) (aCons (eC (.int 3)) aNil)) [some (.val (.list (ns.map .int))), none, none, none] [] = .ok (.val (.int (if (3 : Int) < ((ns.map PyData.int).length : Nat) then 3 else ((ns.map PyData.int).length : Nat)))) [] := rfl
    generalize hm : (if (3 : Int) < ((ns.map PyData.int).length : Nat) then (3 : Int) else ((ns.map PyData.int).length : Nat)) = mn at m0
    have m1 : 0 ≤ mn ∧ mn ≤ 3 := by rw [← hm]; split <;> omega
    have m2 : eArgs (b2 bMax2) (aCons (eC (.int 1)) (aCons (eArgs (b2 bMin2) (aCons (eArgs (b1 bLen) (aCons (eVar 0) aNil)) (aCons (eC (.int 3)) aNil))) aNil)) [some (.val (.list (ns.map .int))), none, none, none] [] = .ok (.val (.int (if mn > 1 then mn else 1))) [] := by
      unfold eArgs
      refine (mB_ok (aCons_ok (h1 := []) rfl (aCons_ok m0 rfl))).trans rfl
    generalize hx : (if mn > 1 then mn else 1) = mx at m2
    have m3 : 0 ≤ mx ∧ mx ≤ 3 := by rw [← hx]; split <;> omega
    refine ⟨mx.toNat, by omega, ?_⟩
    unfold MK.iRng1
    rw [mB_ok m2]
    refine (mB_ok (a := mx) (h' := []) rfl).trans ?_
    refine (mB_ok (guard_ok ?_)).trans rfl
    unfold smallI
    exact decide_eq_true (by omega)
  obtain ⟨h', o1, o2, e⟩ := loop_ok ns k 0 [] none none (by omega)
  have key : B_law [some (.val (.list (ns.map .int))), none, none, none] [] = .ok (.rt (.val (.bool true)), [some (.val (.list (ns.map .int))), o1, o2, none]) h' := by
    unfold B_law
    refine (sCons_nx (ρ' := [some (.val (.list (ns.map .int))), o1, o2, none]) (h' := h') ?_).trans rfl
    unfold sFor
    exact (mB_ok ek).trans e
  refine ⟨h'.take 0, ?_⟩
  show mCall (B_law [some (.val (.list (ns.map .int))), none, none, none]) [] = _
  unfold mCall
  rw [key]
  rfl
end GL
set_option Elab.async false
set_option linter.all false
set_option maxRecDepth 100000
set_option maxHeartbeats 0
namespace GL
open PySem PySem.Spec PyProof.Rows L2 He MK MKQ
theorem toldM (w : World) {mg : Str → Option Value} {fa : Addr} {h : Heap} {K : PySem.W.Frag} (X : K.In h) (G : h.Ns mainGlobals mg) (hfa : mg ("law" : Str) = some (.ref fa)) (S : Says fas dn isn fileM tfM exM h K) (n : Nat) :
    ∃ (K : PySem.W.Frag) (T : Tb) (fd : FuncData) (cs : List (Addr × Addr)) (V : Fm), LawM (PySem.Challenge.rw_trialways_k78_whole_mixes_of_effects).prog w 12 n "script" mg fa h K T fd cs V := by
  have W : Wd (PySem.Challenge.rw_trialways_k78_whole_mixes_of_effects).prog K mg := Wd_of (by kernel_rfl) rfl X G S
  obtain ⟨fd, F⟩ := S.d.defs dm_law
  have ef : fa = fAd K ("law", none) := by
    obtain ⟨f2, fd2, F2, e2⟩ := fun_at X G S.d dm_law (fa_mem 89 rfl)
    have e3 := glo_ok X G (S.d.facts (fa_mem 89 rfl))
    rw [hfa] at e3
    exact Value.ref.inj (Option.some.inj e3)
  subst ef
  have b := FunD.bindsA (ps := ["script"]) F fun _ _ _ _ _ _ us hl => match us, hl with | [_], _ => rfl
  refine ⟨K, ⟨[]⟩, fd, tfM.map (cT K), V_law, X, S.nol, fun p hp => ?_, fun p hp => ?_, fun p hp => ?_, fun p hp => ?_, fun s v => b s [v] rfl, fun base KB GB TB => ?_, fun ns _ => law_true ns⟩
  · obtain ⟨d, hd, rfl⟩ := List.mem_map.mp hp
    exact S.empty d hd
  · obtain ⟨d, hd, rfl⟩ := List.mem_map.mp hp
    exact S.out d hd
  · obtain ⟨d, hd, rfl⟩ := List.mem_map.mp hp
    exact S.hd d hd
  · exact absurd (show p ∈ [] from hp) List.not_mem_nil
  · exact @ok_law ⟨[]⟩ _ w K mg base W trivial _ fd (@MK.FunD.toFun ⟨[]⟩ _ _ _ _ _ _ F)
end GL
open PySem PySem.W PySem.Calls PyProof.Rows
theorem PySem.Challenge.cw_trialways_k78_whole_mixes_of_effects_holds : PySem.Challenge.rw_trialways_k78_whole_mixes_of_effects.Holds := by
  w_on; o_law
  refine HandSHeadRun.head_imp (r := OpenLaw.row PySem.Challenge.rw_trialways_k78_whole_mixes_of_effects) (q := view (OpenLaw.row PySem.Challenge.rw_trialways_k78_whole_mixes_of_effects).prog [0, 91]) (H := GL.hk) (ob := GL.ob) (M := 60000) (loose := GL.names) (d := HandSHeadRun.topDef (OpenLaw.row PySem.Challenge.rw_trialways_k78_whole_mixes_of_effects).prog 91) (kwd := []) GL.ob_eq
    GL.run (by kernel_rfl) (by kernel_rfl) (by kernel_rfl) (by rfl) (by first | assumption | decide +kernel) (by decide +kernel) ⟨rfl, rfl, rfl, rfl, rfl, by decide +kernel⟩ ?hw ?hc
  case hw => w_witness2
  case hc =>
    refine MKQ.walk_ofG (l := PySem.Challenge.rw_trialways_k78_whole_mixes_of_effects) (k := 12) (x := "script") rfl (by decide) (by kernel_rfl) ⟨rfl, by decide, by decide⟩ ?F
    intro w mg fa h Y G hmg0
    obtain ⟨K, KX, c⟩ := Y
    have hmg : mg ("law" : PySem.Str) = some (.ref fa) := by
      have e : (HandSHeadRun.topDef (OpenLaw.row PySem.Challenge.rw_trialways_k78_whole_mixes_of_effects).prog 91).name = ("law" : PySem.Str) := by kernel_rfl
      rw [← e]
      exact hmg0
    exact GL.toldM w KX G hmg c _
