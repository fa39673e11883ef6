import PyProof.Rows.All
import Wide.All
import OpenK.AllK
import Wide.FinOn
import KE.KExcSuper
import KE.KSuper
import HandS.Base
import HandS.Call
import HandS.List
import HandS.Comp
import HandS.Exc
import HandS.ExcInit
import HandS.ExcOwn
import HandS.ExcCtx
import PyProof.EqAt
import PyProof.EqKinds
import PyProof.TupleCall
import HandS.Lambda
import HandS.WordsExc
import HandS.IsInst
import HandS.WideBits
import HandS.TupAny
import HandS.TupMul
import HandS.Deep
import HandS.Gcd
import HandS.Star
import HandS.Conv
import HandS.RaiseMore
import HandS.Words
import HandS.Iter
import HandS.Zip
import KE.GoesNew
import KE.GoesMore
import KE.GoesEnum
import KE.GoesZip
import PyProof.EnumMake
import HandS.Hot
import HandS.HotCalls
import PyProof.ReprRoads
import KE.KExcIs
import HandS.ExcField
import HandS.ExcIs
import HandS.EndBits
import HandS.EndTab
import HandS.Ends
import HandS.Text
import HandS.Codes
import HandS.TryOnly
import KE.SortData
import KE.LtData
import KE.KSortAsk
import HandS.Defaults
import HandS.HeadHook1
import HandS.HeadHook4
import HandS.Head3
import HandS.HeadWalk
import HandS.Style
import KE.KStateDown
import HandS.Head0
import HandS.Head1
import HandS.Head2
import HandS.HeadEnd
import PyProof.NoPylong
import KE.IntBitsLaws
import KE.DataEq
import PyProof.P3Eq
import PySem.Challenge.RW_trialways_k84_further_plots_refused
set_option Elab.async false
set_option linter.all false
set_option maxRecDepth 100000
set_option maxHeartbeats 2000000
/-! MKx: an own error class whose __init__ says super().__init__() and keeps its argument in one field: made. -/
namespace PySem
namespace MKX
open PySem.W PySem.Calls PyProof.Rows PySem.HandSPX
/-! ### the text of __init__ -/
def iA (fld : Str) (p1 p2 : Pos) : Arguments := { posonlyargs := [], args := [{ arg := "self", annotation := none, pos := p1 }, { arg := fld, annotation := none, pos := p2 }], vararg := none, kwonlyargs := [], kw_defaults := [], kwarg := none, defaults := [] }
def iB (fld : Str) (q1 q2 q3 q4 q5 q6 q7 q8 q9 : Pos) : List Stmt := [.Expr (.Call (.Attribute (.Call (.Name "super" q1) [] [] q2) "__init__" q3) [] [] q4) q5, .Assign [.Attribute (.Name "self" q6) fld q7] (.Name fld q8) q9]
def iS (fld : Str) : Scope := { kind := .function, names := [(PySem.Str.ofString "self", .local), (fld, .local), (PySem.Str.ofString "__class__", .free), (PySem.Str.ofString "super", .globalImplicit)], isGenerator := false, isCoroutine := false, more := [] }
/-- what the field's name must bear -/
structure FldOk (fld : Str) : Prop where
  s1 : (iS fld).names.lookup ("self" : Str) = some .local
  s2 : (iS fld).names.lookup fld = some .local
  s3 : (iS fld).names.lookup ("super" : Str) = some .globalImplicit
  s4 : (iS fld).names.lookup ("__class__" : Str) = some .free
  l1 : ∀ a b : Value, ([(("self" : Str), a), (fld, b)] : List (Str × Value)).reverse.lookup ("self" : Str) = some a
  l2 : ∀ a b : Value, ([(("self" : Str), a), (fld, b)] : List (Str × Value)).reverse.lookup fld = some b
  d : (fld == ("__debug__" : Str)) = false
  cell : ∀ x ∈ (iS fld).names, x.2 ≠ .cell
  sw : ∀ (q6 q7 q8 : Pos) (n : Nat) (env : Env), swapsWith (.Name fld q8) (some (.Attribute (.Name "self" q6) fld q7)) n env = pure false
  bd : ∀ (q : Str) (p1 p2 : Pos) (b : List Stmt) (doc pm : Value) (an : Option Addr) (cdv ct : Value) (cc : Addr) (x v : Value), bindArgs (ksFn "__init__" q (iA fld p1 p2) b (iS fld) .none .none doc pm an cdv ct cc) ⟨[x, v], []⟩ = pure [(("self" : Str), x), (fld, v)]
theorem fld_given : FldOk "given" := ⟨rfl, rfl, rfl, rfl, fun _ _ => rfl, fun _ _ => rfl, by decide, by decide, fun _ _ _ _ _ => rfl, fun _ _ _ _ _ _ _ _ _ _ _ _ => by first | rfl | with_unfolding_all rfl⟩
theorem fld_index : FldOk "index" := ⟨rfl, rfl, rfl, rfl, fun _ _ => rfl, fun _ _ => rfl, by decide, by decide, fun _ _ _ _ _ => rfl, fun _ _ _ _ _ _ _ _ _ _ _ _ => by first | rfl | with_unfolding_all rfl⟩
/-- what the written part says of the class nm, at C, and of its __init__, at fI -/
structure XTxt (P : Program) (K : Frag) (mg : Str → Option Value) (nm fld : Str) (C fI : Addr) : Prop where
  gC : mg nm = some (.ref C)
  cls : ∃ nm q N bs bm sn sub ab col dd k0 k1 k2 k3 k5, K.lookup C = some (excClassObj nm q C N bs bm true sn sub ab col dd k0 k1 k2 k3 k5 "ValueError.__new__") ∧ refsVE bm = true
  sa : findIn K (.ref C) "__setattr__" = some (some (.builtin "object.__setattr__"))
  ga : findIn K (.ref C) "__getattribute__" = some (some (.builtin "BaseException.__getattribute__"))
  gg : findIn K (.ref C) "__getattr__" = some none
  noN : findIn K (.ref C) fld = some none
  iC : findIn K (.ref C) "__init__" = some (some (.ref fI))
  tC : typeIn K (.ref fI) = some (.type "function")
  kC : keepIn K (.ref C) = true
  exC : subIn K (.ref C) (.type "BaseException") = some true
  tyC : typeIn K (.ref C) = some (.type "type")
  hdC : hasDictIn K C = true
  sup : ks_superIn K C C "__init__" = some (some (.builtin "ValueError.__init__"))
  hB : subIn K (.ref C) (.type "ValueError") = some true
  mr : mroIn K C (.ref C) = some true
  th : nsIn K cStatics "thirdparty.any" = some none
  ms : mg "super" = none
  top : (P.main.scope.names.lookup ("super" : Str)).isSome = false
  fn : ∃ (oc : Value) (od : Option Addr) (doc pm : Value) (an : Option Addr) (ct : Value) (osl : Array (Option Value)) (cda cc : Addr) (q : Str) (p1 p2 q1 q2 q3 q4 q5 q6 q7 q8 q9 : Pos) (ccl cl : Value) (cdd cld : Option Addr) (ccs csl : Array (Option Value)) (vs : Array Value) (file : Str) (tf : Tok),
    K.lookup fI = some ⟨oc, od, .func (ksFn "__init__" q (iA fld p1 p2) (iB fld q1 q2 q3 q4 q5 q6 q7 q8 q9) (iS fld) .none .none doc pm an (.ref cda) ct cc), osl⟩ ∧ codeIn K (.ref cda) q = true ∧
    K.lookup cda = some ⟨ccl, cdd, .fields vs, ccs⟩ ∧ vs[2]? = some (.str file tf) ∧ ((P.main.file : Str) == file) = true ∧ K.lookup cc = some ⟨cl, cld, .cell (some (.ref C)), csl⟩ ∧
    ∃ pl : Sem Bool, ∀ env : Env, eval (.Call (.Attribute (.Call (.Name "super" q1) [] [] q2) "__init__" q3) [] [] q4) env = (do
      let ov ← attributeBase (.Call (.Name "super" q1) [] [] q2) "__init__" env (eval (.Call (.Name "super" q1) [] [] q2) env)
      standAt q3.atName
      let (f, first) ← holding [ov] (getMethod ov "__init__" pl)
      callWith q4 f first (backTo q4 (starEach [] env)) [])
theorem one_size (v : Value) : [v].length ≤ sizeLine := by
  rw [sizeLine_eq]
  exact (by decide : 1 ≤ 16777216)
/-- what __init__ leaves of a fresh exception at x -/
structure InitEnd (h h' : Heap) (fld : Str) (x C dx : Addr) (v : Value) : Prop where
  keep : ∀ b o, b ≠ x → h.get? b = some o → h'.get? b = some o
  obj : ∃ t1, h'.get? x = some { cls := .ref C, dict := some dx, data := .fields #[.ref t1, .none, .none, .none, .bool false, .none] }
  dbig : h.objs.size ≤ dx
  dne : dx ≠ x
  ns : h'.Ns1 dx (fun y => if y = fld then some v else none)
/-- a made error -/
structure OwnMade (h h' : Heap) (fld : Str) (e C d : Addr) (v : Value) : Prop where
  keep : ∀ b o, h.get? b = some o → h'.get? b = some o
  new : h.objs.size ≤ e
  obj : ∃ oe vs, h'.get? e = some oe ∧ oe.cls = .ref C ∧ oe.dict = some d ∧ oe.data = .fields vs ∧ vs[1]? = some .none ∧ vs[2]? = some .none
  dbig : h.objs.size ≤ d
  dne : d ≠ e
  ns : h'.Ns1 d (fun y => if y = fld then some v else none)
section
variable {prog : Program} {w : World} {A : Around} {E : Value → Shared → Prop} {h : Heap} {g : Array GenState} {d : Drawn} {t : Nat} {os : OsState}
variable {nm q : Str} {C N : Addr} {bs bm : List Value} {hdct : Bool} {sn : List Str} {sub : List Value} {ab : Bool} {col : Option Bool} {dd : Option Addr} {k0 k1 k2 k3 k5 : Option Value}
theorem call_mw {u e t0 : Addr} {rest : List Value} {Q : Value → Shared → Prop}
    (hC : h.get? C = some (excClassObj nm q C N bs bm hdct sn sub ab col dd k0 k1 k2 k3 k5 "ValueError.__new__")) (he : h.get? e = some (excO C t0)) (hu : h.get? u = some (kxs_mw "ValueError.__init__" e)) (hrest : rest.length ≤ sizeLine)
    (hq : ∀ h' t1, (∀ b o, b ≠ e → h.get? b = some o → h'.get? b = some o) → h'.get? e = some (excO C t1) → h.objs.size ≤ h'.objs.size → Q .none ⟨h', g, d, t, os⟩) :
    wpAny (model prog w) A (call (.ref u) rest) Q E ⟨h, g, d, t, os⟩ := by
  refine wpAny_call (codeAny_of_tree ?_)
  show wpAny _ A.in1 (callAny (.ref u) ⟨rest, []⟩) _ _ _
  simp only [callAny]
  refine wpAny_bind (wpAny_load hu ?_)
  simp only [kxs_mw, show (Value.type "method-wrapper" == Value.type "method" || Value.type "method-wrapper" == Value.type "builtin_function_or_method" || Value.type "method-wrapper" == Value.type "method-wrapper") = true by decide, if_true]
  refine W.KFB.if_so (by decide) ?_
  refine wpAny_bind (check_bound_init F.excBase_ValueError.toExcCallFacts hC he rfl ?_)
  refine wpAny_bind (wpAny_pure (wpAny_pure ?_))
  refine ⟨Code.quiet_builtin _ (by decide +kernel), codeAny_builtin F.excBase_ValueError.initEntry ?_⟩
  rw [Around.under_plainId F.excBase_ValueError.init.plain _]
  wp_walk
  refine hq _ h.objs.size (fun b o hb ho => ?_) ?_ ?_
  · rw [Heap.get?_update_other _ _ (Ne.symm hb)]
    exact Heap.get?_push_of_some _ ho
  · rw [Heap.get?_update_self _ (Heap.get?_push_of_some _ he) rfl]
    rfl
  · rw [Heap.size_update, Heap.size_push]
    exact Nat.le_succ _
end
theorem kept_but {K : Frag} {h h' : Heap} {x : Addr} (X : K.In h) (hx : K.lookup x = none) (k : ∀ b o, b ≠ x → h.get? b = some o → h'.get? b = some o) : K.In h' := fun a o e =>
  k a o (fun z => by rw [z, hx] at e; cases e) (X a o e)
section
variable {prog : Program} {w : World} {A : Around} {E : Value → Shared → Prop} {R : Result → Shared → Prop} {s : Shared} {K : Frag} {mg : Str → Option Value} {nm fld : Str} {C fI : Addr}
theorem x_init (FO : FldOk fld) (T : XTxt prog K mg nm fld C fI) {x t0 : Addr} {v : Value} (X : K.In s.heap) (hlim : s.heap.NoLimit) (hG : s.heap.Ns mainGlobals mg) (hB : ∃ mb, s.heap.Ns builtinsNs mb ∧ ∀ y : Str, y ≠ "__name__" → mb y = bootBuiltins y)
    (hx : s.heap.get? x = some (excO C t0)) (hnx : K.lookup x = none) (hroom : A.depth < recursionLimit)
    (hq : ∀ h' tk dx, InitEnd s.heap h' fld x C dx v → R (.ok (.ret .none)) { s with heap := h', toks := tk }) :
    codeAny (model prog w) A (.call (.ref fI) ⟨[.ref x, v], []⟩) R s := by
  obtain ⟨oc, od, doc, pm, an, ct, osl, cda, cc, q, p1, p2, q1, q2, q3, q4, q5, q6, q7, q8, q9, ccl, cl, cdd, cld, ccs, csl, vs, file, tf, ho, hcd, hcode, hvs, hfile, hcell, pl, hev⟩ := T.fn
  obtain ⟨nm', q', N, bs, bm, sn, sub, ab, col, dd, k0, k1, k2, k3, k5, hC, hbm⟩ := T.cls
  have hcl : clsIn K C = some { name := nm', bases := bs, mro := .ref C :: bm, ns := N, qualname := q', hasDict := true, slotNames := sn, subclasses := sub, abstract := ab, collection := col, hasDel := false } := by unfold clsIn; rw [hC] <;> rfl
  refine ks_codeAny_call_defAt (binds := [(("self" : Str), .ref x), (fld, v)]) hroom (X _ _ ho) rfl hlim (codeRec_of X hcd) rfl (BindsTo.of_eq (FO.bd _ _ _ _ _ _ _ _ _ _ _ _)) FO.cell (fun y hy => ?_) (fun h₁ hns k => ?_) rfl rfl rfl
  · rcases List.mem_cons.mp hy with rfl | hy
    · exact FO.s1
    · rcases List.mem_cons.mp hy with rfl | hy
      · exact FO.s2
      · cases hy
  · have X₁ : K.In h₁ := X.keeps k
    have hx₁ := k _ _ hx
    have oD := X₁ _ _ hC
    have hxC : x ≠ C := fun z => by rw [z, hC] at hnx; cases hnx
    have I₁ : InstAt h₁ x (excO C t0) C none := ⟨hx₁, rfl, rfl, trivial⟩
    have LC : ∀ {hh : Heap}, K.In hh → Looks (model prog w) hh (mroOf (.ref C)) (.ref C :: bm) := fun {hh} X' A Q E s k q => wpAny_bind ((looks_clsIn X' hcl) A _ E s k (wpAny_pure q))
    obtain ⟨mb, hnb, hbb⟩ := hB
    refine ks_wpAt_execs_cons (ks_wpAt_Expr_any ?_)
    refine ks_wpAt_MethodCall ?_ (hev _)
    refine ks_wpAt_super_base (env := ksEnv q (iS fld) s.heap.objs.size fI (.ref cda) cc) FO.s3 FO.s4 (by decide) rfl (X₁ _ _ ho) rfl (by first | rfl | with_unfolding_all rfl) rfl (X₁ _ _ hcode) rfl hvs hfile T.top ?_
    refine ks_loadName_global rfl FO.s3 (loadGlobal_builtin (env := ksEnv q (iS fld) s.heap.objs.size fI (.ref cda) cc) (hG.keeps k) T.ms (hnb.keeps k) ((hbb _ (by decide +kernel)).trans (by first | exact Boot.«super» | kernel_rfl | decide +kernel)) ⟨rfl, ?_⟩)
    refine wpAny_loadName_free rfl FO.s4 rfl ⟨_, X₁ _ _ hcell, rfl⟩ ?_
    refine wpAny_loadName_local rfl FO.s1 hns (FO.l1 _ _) ?_
    refine ks_wpAny_isType_cls oD rfl ⟨rfl, ?_⟩
    refine ks_wpAny_call_super oD rfl hx₁ rfl (fun c e => by cases e) (looks_mroIn X₁ T.mr) (fun h₂ hso k₂ => ?_)
    have X₂ : K.In h₂ := X₁.keeps k₂
    have I₂ : InstAt h₂ x (excO C t0) C none := ⟨k₂ _ _ hx₁, rfl, rfl, trivial⟩
    have hm := T.sup
    unfold ks_superIn at hm
    rw [hcl] at hm
    refine kxs_getMethod kxs_ValueError hso (looks_opaque X₂ T.th) (LC X₂) rfl X₂ hm (I₂.type.andThen (looks_subIn X₂ T.hB)) hxC (by decide) ?_
    have k₃ : ∀ b o, h₂.get? b = some o → (h₂.push (kxs_mw "ValueError.__init__" x)).get? b = some o := fun b o e => Heap.get?_push_of_some _ e
    have X₃ : K.In (h₂.push (kxs_mw "ValueError.__init__" x)) := X₂.keeps k₃
    have hx₃ := k₃ _ _ (k₂ _ _ hx₁)
    have hu : (h₂.push (kxs_mw "ValueError.__init__" x)).get? h₂.objs.size = some (kxs_mw "ValueError.__init__" x) := Heap.get?_push_at rfl rfl
    refine kxs_callWith (i := "ValueError.__init__") (x := x) rfl (evalArgs_empty ⟨hu, ?_⟩)
    refine call_mw (X₃ _ _ hC) hx₃ hu (Nat.zero_le _) (fun h₄ t4 k₄ hx₄ hs₄ => ?_)
    have X₄ : K.In h₄ := kept_but X₃ hnx k₄
    have hxL : s.heap.objs.size ≠ x := Nat.ne_of_gt (Heap.lt_size hx)
    have hns₄ : h₄.Ns s.heap.objs.size (fun y => ([(("self" : Str), .ref x), (fld, v)] : List (Str × Value)).reverse.lookup y) := by
      obtain ⟨oL, es, ep, hL, r⟩ := hns
      exact ⟨oL, es, ep, k₄ _ _ hxL (k₃ _ _ (k₂ _ _ hL)), r⟩
    -- self.fld = fld
    refine wpAt_of_wpAny ?_
    show wpAny _ _ (execs _ _) _ _ _
    refine wpAny_execs_cons (plainObj_wpAny_Assign_Attribute ?_ (FO.sw _ _ _ _ _))
    refine wpAny_Name (wpAny_loadName_local rfl FO.s2 hns₄ (FO.l2 _ _) ?_) FO.d
    refine wpAny_Name (wpAny_loadName_local rfl FO.s1 hns₄ (FO.l1 _ _) ?_) (by decide)
    refine set_plain X₄ (ox := excO C t4) (od := none) ⟨hx₄, rfl, rfl, trivial⟩ T.sa ?_
    refine exc_osa X₄ hx₄ hcl (show refsVE (.ref C :: bm) = true from hbm) rfl T.noN (fun h₅ tk₅ dx k₅ dn dne hx₅ hn₅ => ?_)
    show wpAny _ _ (execs _ _) _ _ _
    have z : s.heap.objs.size ≤ h₄.objs.size := by
      obtain ⟨oL, es, ep, hL, r⟩ := hns₄
      exact Nat.le_of_lt (Heap.lt_size hL)
    exact wpAny_execs_nil (hq h₅ tk₅ dx ⟨fun b o hb e => k₅ b o hb (k₄ b o hb (k₃ _ _ (k₂ _ _ (k b o e)))), ⟨_, hx₅⟩, Nat.le_trans z dn, dne, hn₅⟩)
theorem x_made (FO : FldOk fld) (T : XTxt prog K mg nm fld C fI) {v : Value} (X : K.In s.heap) (hlim : s.heap.NoLimit) (hG : s.heap.Ns mainGlobals mg) (hB : ∃ mb, s.heap.Ns builtinsNs mb ∧ ∀ y : Str, y ≠ "__name__" → mb y = bootBuiltins y) (hroom : A.depth + 1 < recursionLimit)
    (hq : ∀ h' tk e d, OwnMade s.heap h' fld e C d v → R (.ok (.ret (.ref e))) { s with heap := h', toks := tk }) :
    codeAny (model prog w) A (.call (.ref C) ⟨[v], []⟩) R s := by
  obtain ⟨nm', q, N, bs, bm, sn, sub, ab, col, dd, k0, k1, k2, k3, k5, hC, hbm⟩ := T.cls
  obtain ⟨hp, g, dr, tk, os⟩ := s
  have k : ∀ b o, hp.get? b = some o → ((hp.push (kdv_tup [v])).push (excO C hp.objs.size)).get? b = some o := fun b o e => Heap.get?_push_of_some _ (Heap.get?_push_of_some _ e)
  have hget : ((hp.push (kdv_tup [v])).push (excO C hp.objs.size)).get? (hp.objs.size + 1) = some (excO C hp.objs.size) := by heap_get
  have hnx : K.lookup (hp.objs.size + 1) = none := by
    cases e : K.lookup (hp.objs.size + 1) with
    | none => rfl
    | some o =>
      have z : hp.get? (hp.objs.size + 1) = some o := X _ _ e
      exact absurd (Nat.lt_of_succ_lt (Heap.lt_size z)) (Nat.lt_irrefl _)
  obtain ⟨mb, hnb, hbb⟩ := hB
  refine call_own F.excBase_ValueError (fun X => refsVE_contains X bm hbm) (X _ _ hC) (looks_findIn X T.iC) (fun self => bind_fn X self T.tC) (one_size v) ?_
  refine x_init (s := ⟨(hp.push (kdv_tup [v])).push (excO C hp.objs.size), g, dr, tk, os⟩) FO T (X.keeps k) (hlim.keeps k) (hG.keeps k) ⟨mb, hnb.keeps k, hbb⟩ hget hnx ?_ fun h' tk' dx ⟨k', hx, dn, dne, hns⟩ => ?_
  · show A.depth + 1 < recursionLimit
    exact hroom
  · have old : ∀ b o, hp.get? b = some o → h'.get? b = some o := fun b o e => k' b o (Nat.ne_of_lt (Nat.lt_succ_of_lt (Heap.lt_size e))) (k b o e)
    have z : hp.objs.size + 1 + 1 ≤ dx := by
      first
        | (simpa only [Heap.size_push] using dn)
        | exact dn
        | (have q := dn; rw [Heap.size_push, Heap.size_push] at q; exact q)
    obtain ⟨t1, hx⟩ := hx
    exact ⟨rfl, hq h' tk' (hp.objs.size + 1) dx ⟨old, Nat.le_succ _, ⟨_, _, hx, rfl, rfl, rfl, rfl, rfl⟩, Nat.le_trans (Nat.le_trans (Nat.le_succ _) (Nat.le_succ _)) z, dne, hns⟩⟩
end
end MKX
end PySem
namespace L2
open PySem PySem.Spec PyProof.Rows
theorem relO_one {v : V} {v' : Value} {fld : Str} (r : RelV v v') (f : Str) : RelO (List.lookup f [(fld, v)]) (if f = fld then some v' else none) := by
  by_cases hw : f = fld
  · subst hw
    rw [if_pos rfl]
    have q : List.lookup f [(f, v)] = some v := by simp [List.lookup]
    rw [q]
    exact r
  · rw [if_neg hw]
    have qw : (f == fld) = false := by simpa using hw
    have q2 : List.lookup f [(fld, v)] = none := by simp [List.lookup, qw]
    rw [q2]
    trivial
section
variable {X : Cx} {C fI : Addr} {nm fld : Str}
def tMkX (fld : Str) (C : Addr) (ta : TA) : St → Hp → XK → Prop := fun σ H Q => ta σ H fun vs H1 => ∃ v, vs = [v] ∧ ∀ d, H1 d = none → Q (.ref C) (some d) (upd H1 d (.xd [(fld, v)]))
theorem pmk_x {a : Expr} {ta : TA} {p pos : Pos} {k : Nat} (FO : PySem.MKX.FldOk fld) (T : PySem.MKX.XTxt X.prog X.K X.mg nm fld C fI) (hr : Room k X.A) (ha : PA X [a] ta) (hg : Gl X nm)
    (hdb : (nm == ("__debug__" : Str)) = false) (he : starEach (a :: []) X.env = (false, eval a X.env) :: starEach [] X.env := by rfl) (hpl : (backTo pos (starEach [] X.env)).any (·.1) = false := by rfl) :
    L2N.PMk X (.Call (.Name nm p) [a] [] pos) (tMkX fld C ta) := by
  intro pins s σ H Q I h
  refine wpAny_Call_Name_kw (ld_glob I hg T.gC ?_ hdb)
  refine PySem.W.callWith_K (h₀ := X.base) I.ok.mod.kin T.kC (thn (ha.run pos pins s σ H _ I h) fun us s1 hh => ?_) he hpl
  obtain ⟨vs, H1, I1, r1, v, ev, q1⟩ := hh
  subst ev
  refine ⟨I1.kIn, ?_⟩
  cases r1 with
  | cons rv rn =>
    rename_i v' us'
    cases rn
    show wpAny _ _ (call (.ref C) [v']) _ _ _
    have hlim := I1.nolimit
    have hG := I1.mod.glob.keeps I1.bk
    obtain ⟨mb, hB, hbb⟩ := I1.mod.blt
    have hB := hB.keeps I1.bk
    obtain ⟨hp, g, dr, tk, os⟩ := s1
    refine wpAny_call (PySem.MKX.x_made FO T I1.kIn hlim hG ⟨mb, hB, hbb⟩ (by have := hr.dp; omega) fun h' tk' e d M => ?_)
    show L2N.MkP X pins σ Q (.ref e) ⟨h', g, dr, tk', os⟩
    obtain ⟨oe, fv, hoe, hc, hd, hdat, h1, h2⟩ := M.obj
    have hns := M.ns
    obtain ⟨G', g1, g2⟩ := restrict h' fun b => decide (b ≠ e)
    have gk : ∀ b, b ≠ e → G'.get? b = h'.get? b := fun b hb => g1 b (decide_eq_true hb)
    have ge : G'.get? e = none := g2 e (by simp)
    have old : ∀ b o, hp.get? b = some o → G'.get? b = some o := fun b o q => (gk b (Nat.ne_of_lt (Nat.lt_of_lt_of_le (Heap.lt_size q) M.new))).trans (M.keep b o q)
    have ob : ObjOk X.prog X.w (upd H1 d (.xd [(fld, v)])) G' d (.xd [(fld, v)]) :=
      ⟨_, hns.at (fun o q => (gk d M.dne).trans q), fun f => relO_one rv f⟩
    have J : Inv X pins σ (upd H1 d (.xd [(fld, v)])) ⟨G', g, dr, tk', os⟩ := I1.laid (t' := tk') old M.dbig ob
    refine ⟨e, oe, fv, ⟨G', g, dr, tk', os⟩, _, .ref C, some d, rfl, J, fun b o q => ?_, ge, hoe, ⟨hc, hd, fun vs e => by rw [hdat] at e; cases e; exact h2⟩, hdat, h1, ?_, rfl, I1.bare, raises_own T.exC T.tyC, q1 d (I1.hok.fresh M.dbig)⟩
    · by_cases hb : b = e
      · have q' : G'.get? b = some o := q
        rw [hb, ge] at q'; cases q'
      · exact (gk b hb).symm.trans q
    · rw [upd_ne (Ne.symm M.dne)]
      exact I1.hok.fresh M.new
end
/-- a class without own __init__, made of nothing: its dict is none -/
theorem pmk_own0 {X : Cx} {C : Addr} {bmB : List Value} {B newId initId : String} {x : Str} {p pos : Pos} (F : ExcBaseFacts B newId initId bmB) (q : PySem.W.excIn X.K C bmB newId = true) (gC : X.mg x = some (.ref C)) (kC : PySem.W.keepIn X.K (.ref C) = true) (r : Raises X (.ref C)) (hg : Gl X x)
    (hdb : (x == ("__debug__" : Str)) = false) : L2N.PMk X (.Call (.Name x p) [] [] pos) (fun _ H Q => Q (.ref C) none H) := by
  intro pins s σ H Q I h
  refine wpAny_Call_Name_kw (ld_glob I hg gC ?_ hdb)
  refine PySem.W.callWith_K0 I.kIn kC ?_
  obtain ⟨bm, N, nm, qn, bs, hdct, sn, sub, ab, col, dd, k0, k1, k2, k3, k5, mN, hC, hN, hni, T⟩ := exc_obj I.kIn q
  refine wpAny_call_exc_subT F T hC hN hni (fun h' e hm => ?_) (Nat.zero_le _)
  exact L2N.mk_of I hm r h (I.hok.gone hm.new)
end L2
set_option Elab.async false
set_option linter.all false
set_option maxRecDepth 100000
/-! MKa: a second layer over HandS: data by value, owned cells, a plain monad; what a reading computes. -/
namespace MK
open PySem PySem.Spec PyProof.Rows L2

/-- a raised error: its class's name, its one field -/
structure Xn where
  cls : Str
  arg : Option (Str × PyData)
/-- a slot's value: data by value, an owned cell, a range, a caught error -/
inductive SV where
  | val (d : PyData)
  | ref (n : Nat)
  | rng (lo hi : Int)
  | exc (x : Xn)
/-- an owned object -/
inductive Cell where
  | lst (ds : List PyData)
abbrev Hm := List (Option Cell)
inductive Res (α : Type) where
  | ok (a : α) (h : Hm)
  | exn (x : Xn) (h : Hm)
  | stuck
abbrev Mm (α : Type) := Hm → Res α
def mP {α : Type} (a : α) : Mm α := fun h => .ok a h
def mB {α β : Type} (m : Mm α) (f : α → Mm β) : Mm β := fun h => match m h with
  | .ok a h' => f a h'
  | .exn x h' => .exn x h'
  | .stuck => .stuck
def mStuck {α : Type} : Mm α := fun _ => .stuck
def mX {α : Type} (x : Xn) : Mm α := fun h => .exn x h
abbrev Ro := List (Option SV)

/-- the caught error that a suite holds: where it lies, its object, the names of the classes -/
abbrev Cxx := Option (Addr × Obj × (Str → Option Value))
def cx (X : Cx) : Cxx := X.pn.head?.map fun p => (p.1, p.2, X.mg)
variable {cz : Cxx}
/-- the tables of code objects that are known -/
class Tb where
  T : List (Addr × Str)
variable [Tb]
/-- ghost: the cells' addresses, the cells, further owned addresses (lists that grow in a comprehension) -/
structure Gh where
  mu : List Addr
  cs : Hm
  ex : List Addr
def own (g : Gh) (a : Addr) : Prop := (∃ (n : Nat) (c : Cell), g.cs[n]? = some (some c) ∧ g.mu[n]? = some a) ∨ a ∈ g.ex

def FL (K : PySem.W.Frag) (g : Gh) (H : Hp) (a : Addr) (xs : List V) : Prop := Rd H a (.lst xs) ∧ ¬ own g a
theorem FL.sq {K : PySem.W.Frag} {g : Gh} {H : Hp} {a : Addr} {xs : List V} (h : FL K g H a xs) : SqL K H a xs := .inl h.1

mutual
inductive RD (K : PySem.W.Frag) (g : Gh) (H : Hp) : V → PyData → Prop
  | non : RD K g H .non .none
  | bl (b : Bool) : RD K g H (.bl b) (.bool b)
  | int (i : Int) : RD K g H (.int i) (.int i)
  | str (x : Str) : RD K g H (.str x) (.str x)
  | lst {a : Addr} {xs : List V} {ds : List PyData} : FL K g H a xs → RDs K g H xs ds → RD K g H (.ref a) (.list ds)
  | tup {a : Addr} {xs : List V} {ds : List PyData} : SqT K H a xs → RDs K g H xs ds → RD K g H (.ref a) (.tuple ds)
inductive RDs (K : PySem.W.Frag) (g : Gh) (H : Hp) : List V → List PyData → Prop
  | nil : RDs K g H [] []
  | cons {v : V} {vs : List V} {d : PyData} {ds : List PyData} : RD K g H v d → RDs K g H vs ds → RDs K g H (v :: vs) (d :: ds)
end
section
variable {K : PySem.W.Frag} {g g' g'' : Gh} {H H' H'' : Hp}
mutual
theorem RD.dp : ∀ {d : PyData} {v : V}, RD K g H v d → Dp K H v d
  | .none, _, h => by cases h; exact .non
  | .bool b, _, h => by cases h; exact .bl b
  | .int i, _, h => by cases h; exact .int i
  | .str x, _, h => by cases h; exact .str x
  | .list ds, _, h => by
    cases h with
    | lst h1 h2 => exact .lst h1.sq (RDs.dp h2)
  | .tuple ds, _, h => by
    cases h with
    | tup h1 h2 => exact .tup h1 (RDs.dp h2)
  | .dict _, _, h => by cases h
theorem RDs.dp : ∀ {ds : List PyData} {vs : List V}, RDs K g H vs ds → DpAll K H vs ds
  | [], _, h => by cases h; exact .nil
  | d :: ds, _, h => by
    cases h with
    | cons h1 h2 => exact .cons (RD.dp h1) (RDs.dp h2)
end
theorem RDs.length : ∀ {vs : List V} {ds : List PyData}, RDs K g H vs ds → vs.length = ds.length
  | [], _, h => by cases h; rfl
  | v :: vs, _, h => by
    cases h with
    | cons h1 h2 => rw [List.length_cons, List.length_cons, RDs.length h2]
theorem RDs.get : ∀ {vs : List V} {ds : List PyData} {i : Nat} {d : PyData}, RDs K g H vs ds → ds[i]? = some d → ∃ v, vs[i]? = some v ∧ RD K g H v d
  | _, _, i, _, .nil, e => by simp at e
  | _, _, 0, _, .cons h1 h2, e => by simp at e; subst e; exact ⟨_, rfl, h1⟩
  | _, _, i + 1, _, .cons h1 h2, e => by
    obtain ⟨v, e1, r⟩ := RDs.get (i := i) h2 (by simpa using e)
    exact ⟨v, by simpa using e1, r⟩
theorem RDs.append : ∀ {vs ws : List V} {ds es : List PyData}, RDs K g H vs ds → RDs K g H ws es → RDs K g H (vs ++ ws) (ds ++ es)
  | _, _, _, _, .nil, s => s
  | _, _, _, _, .cons r t, s => .cons r (RDs.append t s)
theorem RDs.set {v : V} {d : PyData} (r : RD K g H v d) : ∀ {vs : List V} {ds : List PyData} (i : Nat), RDs K g H vs ds → RDs K g H (vs.set i v) (ds.set i d)
  | _, _, _, .nil => .nil
  | _, _, 0, .cons _ t => .cons r t
  | _, _, i + 1, .cons q t => .cons q (RDs.set r i t)
theorem RDs.drop : ∀ {vs : List V} {ds : List PyData} (n : Nat), RDs K g H vs ds → RDs K g H (vs.drop n) (ds.drop n)
  | _, _, 0, h => h
  | _, _, _ + 1, .nil => .nil
  | _, _, n + 1, .cons _ t => RDs.drop n t
theorem RDs.take : ∀ {vs : List V} {ds : List PyData} (n : Nat), RDs K g H vs ds → RDs K g H (vs.take n) (ds.take n)
  | _, _, 0, _ => .nil
  | _, _, _ + 1, .nil => .nil
  | _, _, n + 1, .cons r t => .cons r (RDs.take n t)
theorem RDs.one {v : V} {d : PyData} (r : RD K g H v d) : RDs K g H [v] [d] := .cons r .nil

def CellR (K : PySem.W.Frag) (g : Gh) (H : Hp) : Cell → Addr → Prop
  | .lst ds, a => ∃ vs, H a = some (.lst vs) ∧ RDs K g H vs ds
theorem CellR.mut {c : Cell} {a : Addr} (h : CellR K g H c a) : Mut (H a) := by
  cases c with
  | lst ds => obtain ⟨vs, e, _⟩ := h; rw [e]; trivial

/-- tracked, and no table -/
def Tk : Option HO → Prop
  | none => False
  | some (.tbl _) => False
  | _ => True
theorem Tk.some {o : Option HO} (h : Tk o) : o ≠ none := fun z => by rw [z] at h; exact h
structure Sim (K : PySem.W.Frag) (g : Gh) (H : Hp) : Prop where
  len : g.mu.length = g.cs.length
  cell : ∀ (n : Nat) (c : Cell) (a : Addr), g.cs[n]? = some (some c) → g.mu[n]? = some a → CellR K g H c a
  inj : ∀ (n m : Nat) (a : Addr), g.mu[n]? = some a → g.mu[m]? = some a → n = m
  trk : ∀ (n : Nat) (a : Addr), g.mu[n]? = some a → Tk (H a)
  exm : ∀ a ∈ g.ex, Mut (H a)
  exn : ∀ (n : Nat) (a : Addr), g.mu[n]? = some a → a ∉ g.ex
  tabs : LamX.Tabs Tb.T H
structure Le (g : Gh) (H : Hp) (g' : Gh) (H' : Hp) : Prop where
  pre : ∀ (n : Nat) (a : Addr), g.mu[n]? = some a → g'.mu[n]? = some a
  keep : ∀ a o, H a = some o → (∀ ps, o ≠ .tbl ps) → ¬ own g a → H' a = some o ∧ ¬ own g' a
  exe : g'.ex = g.ex
  exk : ∀ a ∈ g.ex, H' a = H a
  trk : ∀ a, Tk (H a) → Tk (H' a)
theorem Sim.mut {a : Addr} (S : Sim K g H) (h : own g a) : Mut (H a) := by
  rcases h with ⟨n, c, e1, e2⟩ | h
  · exact (S.cell n c a e1 e2).mut
  · exact S.exm a h
theorem Sim.not_own {a : Addr} {o : HO} (S : Sim K g H) (h : H a = some o) (hm : ¬ Mut (some o)) : ¬ own g a := fun q => by
  have := S.mut q
  rw [h] at this
  exact hm this
theorem Le.refl (g : Gh) (H : Hp) : Le g H g H := ⟨fun _ _ h => h, fun _ _ h _ n => ⟨h, n⟩, rfl, fun _ _ => rfl, fun _ h => h⟩
theorem Le.trans (a : Le g H g' H') (b : Le g' H' g'' H'') : Le g H g'' H'' :=
  ⟨fun n x h => b.pre n x (a.pre n x h), fun x o h t n => let q := a.keep x o h t n; b.keep x o q.1 t q.2, b.exe.trans a.exe, fun x hx => (b.exk x (by rw [a.exe]; exact hx)).trans (a.exk x hx), fun x h => b.trk x (a.trk x h)⟩
theorem Le.rd {a : Addr} {u : HO} (L : Le g H g' H') (S : Sim K g H) (hm : ¬ Mut (some u)) (nt : ∀ ps, u ≠ .tbl ps) (r : Rd H a u) : Rd H' a u := by
  rcases r with r | ⟨o, r⟩
  · exact .inl (L.keep a _ r nt (S.not_own r hm)).1
  · exact .inr ⟨o, (L.keep a _ r (fun _ z => nomatch z) (S.not_own r (fun z => z))).1⟩
theorem Le.sqt {a : Addr} {xs : List V} (L : Le g H g' H') (S : Sim K g H) (h : SqT K H a xs) : SqT K H' a xs := by
  rcases h with h | h
  · exact .inl (L.rd S (fun z => z) (fun _ z => nomatch z) h)
  · exact .inr h
theorem Le.fl {a : Addr} {xs : List V} (L : Le g H g' H') (S : Sim K g H) (h : FL K g H a xs) : FL K g' H' a xs := by
  rcases h with ⟨h | ⟨o, h⟩, n⟩
  · obtain ⟨q, n'⟩ := L.keep a _ h (fun _ z => nomatch z) n
    exact ⟨.inl q, n'⟩
  · obtain ⟨q, n'⟩ := L.keep a _ h (fun _ z => nomatch z) n
    exact ⟨.inr ⟨o, q⟩, n'⟩
mutual
theorem RD.mono (S : Sim K g H) (L : Le g H g' H') : ∀ {d : PyData} {v : V}, RD K g H v d → RD K g' H' v d
  | .none, _, h => by cases h; exact .non
  | .bool b, _, h => by cases h; exact .bl b
  | .int i, _, h => by cases h; exact .int i
  | .str x, _, h => by cases h; exact .str x
  | .list ds, _, h => by
    cases h with
    | lst h1 h2 => exact .lst (L.fl S h1) (RDs.mono S L h2)
  | .tuple ds, _, h => by
    cases h with
    | tup h1 h2 => exact .tup (L.sqt S h1) (RDs.mono S L h2)
  | .dict _, _, h => by cases h
theorem RDs.mono (S : Sim K g H) (L : Le g H g' H') : ∀ {ds : List PyData} {vs : List V}, RDs K g H vs ds → RDs K g' H' vs ds
  | [], _, h => by cases h; exact .nil
  | d :: ds, _, h => by
    cases h with
    | cons h1 h2 => exact .cons (RD.mono S L h1) (RDs.mono S L h2)
end
theorem CellR.mono (S : Sim K g H) (L : Le g H g' H') {c : Cell} {a : Addr} (e : H' a = H a) (h : CellR K g H c a) : CellR K g' H' c a := by
  cases c with
  | lst ds => obtain ⟨vs, e1, r⟩ := h; exact ⟨vs, e.trans e1, r.mono S L⟩

/-- the field of an error whose dict is oa -/
def XA (K : PySem.W.Frag) (g : Gh) (H : Hp) (x : Xn) (oa : Option Addr) : Prop := match x.arg with
  | none => oa = none
  | some (f, d) => ∃ dx v, oa = some dx ∧ H dx = some (.xd [(f, v)]) ∧ RD K g H v d
theorem XA.mono (S : Sim K g H) (L : Le g H g' H') {x : Xn} {oa : Option Addr} (h : XA K g H x oa) : XA K g' H' x oa := by
  unfold XA at *
  cases q : x.arg with
  | none => rw [q] at h; exact h
  | some p =>
    rw [q] at h
    obtain ⟨dx, v, e1, e2, r⟩ := h
    exact ⟨dx, v, e1, (L.keep dx _ e2 (fun _ z => nomatch z) (S.not_own e2 fun z => z)).1, r.mono S L⟩
def RSV (K : PySem.W.Frag) (cz : Cxx) (g : Gh) (H : Hp) (v : V) : SV → Prop
  | .val d => RD K g H v d
  | .ref n => ∃ a, v = .ref a ∧ g.mu[n]? = some a
  | .rng lo hi => ∃ a, v = .ref a ∧ H a = some (.rng lo hi)
  | .exc x => ∃ a oe mg C, cz = some (a, oe, mg) ∧ v = .ref a ∧ oe.cls = .ref C ∧ mg x.cls = some (.ref C) ∧ XA K g H x oe.dict
theorem RSV.mono (S : Sim K g H) (L : Le g H g' H') {d : SV} {v : V} (h : RSV K cz g H v d) : RSV K cz g' H' v d := by
  cases d with
  | val d => exact RD.mono S L h
  | ref n => obtain ⟨a, e1, e2⟩ := h; exact ⟨a, e1, L.pre n a e2⟩
  | rng lo hi => obtain ⟨a, e1, e2⟩ := h; exact ⟨a, e1, (L.keep a _ e2 (fun _ z => nomatch z) (S.not_own e2 fun z => z)).1⟩
  | exc x => obtain ⟨a, oe, mg, C, e1, e2, e3, e4, e5⟩ := h; exact ⟨a, oe, mg, C, e1, e2, e3, e4, e5.mono S L⟩
inductive RSVs (K : PySem.W.Frag) (cz : Cxx) (g : Gh) (H : Hp) : List V → List SV → Prop
  | nil : RSVs K cz g H [] []
  | cons {v : V} {vs : List V} {d : SV} {ds : List SV} : RSV K cz g H v d → RSVs K cz g H vs ds → RSVs K cz g H (v :: vs) (d :: ds)
theorem RSVs.mono (S : Sim K g H) (L : Le g H g' H') : ∀ {ds : List SV} {vs : List V}, RSVs K cz g H vs ds → RSVs K cz g' H' vs ds
  | _, _, .nil => .nil
  | _, _, .cons r t => .cons (r.mono S L) (t.mono S L)
theorem RSVs.length : ∀ {vs : List V} {ds : List SV}, RSVs K cz g H vs ds → vs.length = ds.length
  | _, _, .nil => rfl
  | _, _, .cons _ t => by rw [List.length_cons, List.length_cons, t.length]

def EnvR (K : PySem.W.Frag) (cz : Cxx) (g : Gh) (H : Hp) (ρ : Ro) (σ : L2.St) : Prop :=
  ρ.length = σ.length ∧ ∀ (i : Nat) (d : SV), ρ[i]? = some (some d) → ∃ v, σ[i]? = some (some v) ∧ RSV K cz g H v d
theorem EnvR.mono (S : Sim K g H) (L : Le g H g' H') {ρ : Ro} {σ : L2.St} (h : EnvR K cz g H ρ σ) : EnvR K cz g' H' ρ σ :=
  ⟨h.1, fun i d e => let ⟨v, e1, r⟩ := h.2 i d e; ⟨v, e1, r.mono S L⟩⟩
theorem EnvR.set {ρ : Ro} {σ : L2.St} {v : V} {d : SV} (h : EnvR K cz g H ρ σ) (r : RSV K cz g H v d) (i : Nat) : EnvR K cz g H (ρ.set i (some d)) (σ.set i (some v)) := by
  refine ⟨by rw [List.length_set, List.length_set]; exact h.1, fun j e q => ?_⟩
  by_cases hj : i = j
  · subst hj
    by_cases hl : i < ρ.length
    · rw [List.getElem?_set_self hl] at q
      cases q
      exact ⟨v, List.getElem?_set_self (by rw [← h.1]; exact hl), r⟩
    · rw [List.getElem?_eq_none (by simpa using hl)] at q
      cases q
  · rw [List.getElem?_set_ne hj] at q ⊢
    exact h.2 j e q
theorem EnvR.clear {ρ : Ro} {σ : L2.St} (h : EnvR K cz g H ρ σ) (i : Nat) (o : Option V) : EnvR K cz g H (ρ.set i none) (σ.set i o) := by
  refine ⟨by rw [List.length_set, List.length_set]; exact h.1, fun j e q => ?_⟩
  by_cases hj : i = j
  · subst hj
    by_cases hl : i < ρ.length
    · rw [List.getElem?_set_self hl] at q
      cases q
    · rw [List.getElem?_eq_none (by simpa using hl)] at q
      cases q
  · rw [List.getElem?_set_ne hj] at q ⊢
    exact h.2 j e q

/-! ### how the ghost moves -/
/-- new tracked things, nothing else -/
theorem Sim.grow (S : Sim K g H) (e : ∀ a o, H a = some o → H' a = some o) : Sim K g H' ∧ Le g H g H' := by
  have L : Le g H g H' := ⟨fun _ _ h => h, fun a o h _ n => ⟨e a o h, n⟩, rfl, fun a ha => ?_, fun a h => ?_⟩
  · refine ⟨⟨S.len, fun n c a h1 h2 => ?_, S.inj, fun n a h => L.trk a (S.trk n a h), fun a ha => by rw [L.exk a ha]; exact S.exm a ha, S.exn, S.tabs.ext e⟩, L⟩
    have hq := S.cell n c a h1 h2
    have hm := hq.mut
    refine hq.mono S L ?_
    cases q : H a with
    | none => rw [q] at hm; exact hm.elim
    | some o => exact e a o q
  · have hm := S.exm a ha
    cases q : H a with
    | none => rw [q] at hm; exact hm.elim
    | some o => exact e a o q
  · cases q : H a with
    | none => exact absurd q h.some
    | some o => rw [e a o q]; rw [q] at h; exact h
theorem upd_grow {p : Addr} {o : HO} (hp : H p = none) : ∀ a u, H a = some u → upd H p o a = some u := fun a u h => by
  rw [upd_ne (ne_of_none h hp)]; exact h
theorem Sim.laid {p : Addr} {o : HO} (S : Sim K g H) (hp : H p = none) : Sim K g (upd H p o) ∧ Le g H g (upd H p o) := S.grow (upd_grow hp)
theorem Sim.fresh_own {p : Addr} (S : Sim K g H) (hp : H p = none) : ¬ own g p := fun q => by
  have := S.mut q
  rw [hp] at this
  exact this
theorem Sim.fresh_mu {p : Addr} {n : Nat} (S : Sim K g H) (hp : H p = none) : g.mu[n]? ≠ some p := fun q => (S.trk n p q).some hp

/-- a new owned list -/
theorem Sim.alloc {p : Addr} {vs : List V} {ds : List PyData} (S : Sim K g H) (hp : H p = none) (r : RDs K g H vs ds) :
    Sim K ⟨g.mu ++ [p], g.cs ++ [some (.lst ds)], g.ex⟩ (upd H p (.lst vs)) ∧ Le g H ⟨g.mu ++ [p], g.cs ++ [some (.lst ds)], g.ex⟩ (upd H p (.lst vs)) := by
  have hmu : ∀ (n : Nat) (a : Addr), (g.mu ++ [p])[n]? = some a → (g.mu[n]? = some a) ∨ (n = g.mu.length ∧ a = p) := fun n a h => by
    by_cases hn : n < g.mu.length
    · rw [List.getElem?_append_left hn] at h; exact .inl h
    · rw [List.getElem?_append_right (by omega)] at h
      by_cases h0 : n - g.mu.length = 0
      · rw [h0] at h
        exact .inr ⟨by omega, by simpa using h.symm⟩
      · rw [List.getElem?_eq_none (by simp; omega)] at h
        cases h
  have hown : ∀ a, own ⟨g.mu ++ [p], g.cs ++ [some (.lst ds)], g.ex⟩ a → own g a ∨ a = p := fun a h => by
    rcases h with ⟨n, c, h1, h2⟩ | h
    · rcases hmu n a h2 with q | ⟨_, q⟩
      · have hn : n < g.cs.length := by rw [← S.len]; exact (List.getElem?_eq_some_iff.mp q).1
        have h1 : (g.cs ++ [some (Cell.lst ds)])[n]? = some (some c) := h1
        rw [List.getElem?_append_left hn] at h1
        exact .inl (.inl ⟨n, c, h1, q⟩)
      · exact .inr q
    · exact .inl (.inr h)
  have L : Le g H ⟨g.mu ++ [p], g.cs ++ [some (.lst ds)], g.ex⟩ (upd H p (.lst vs)) := by
    refine ⟨fun n a h => ?_, fun a o h _ n => ⟨upd_grow hp a o h, fun q => ?_⟩, rfl, fun a ha => ?_, fun a h => ?_⟩
    · show (g.mu ++ [p])[n]? = some a
      rw [List.getElem?_append_left (List.getElem?_eq_some_iff.mp h).1]; exact h
    · rcases hown a q with q | q
      · exact n q
      · rw [q, hp] at h; cases h
    · have hm := S.exm a ha
      rw [upd_ne]
      intro z; rw [z, hp] at hm; exact hm
    · by_cases hb : a = p
      · rw [hb, upd_same]; trivial
      · rw [upd_ne hb]; exact h
  refine ⟨⟨?_, fun n c a h1 h2 => ?_, fun n m a h1 h2 => ?_, fun n a h => ?_, fun a ha => ?_, fun n a h => ?_, S.tabs.ext (upd_grow hp)⟩, L⟩
  · show (g.mu ++ [p]).length = (g.cs ++ [some (Cell.lst ds)]).length
    rw [List.length_append, List.length_append, S.len]; rfl
  · rcases hmu n a h2 with q | ⟨e1, e2⟩
    · have hn : n < g.cs.length := by rw [← S.len]; exact (List.getElem?_eq_some_iff.mp q).1
      have h1 : (g.cs ++ [some (Cell.lst ds)])[n]? = some (some c) := h1
      rw [List.getElem?_append_left hn] at h1
      exact (S.cell n c a h1 q).mono S L (upd_ne fun z => (S.trk n a q).some (by rw [z]; exact hp))
    · subst e1 e2
      have h1 : (g.cs ++ [some (Cell.lst ds)])[g.mu.length]? = some (some c) := h1
      rw [S.len, List.getElem?_append_right (Nat.le_refl _), Nat.sub_self] at h1
      cases h1
      exact ⟨vs, upd_same, r.mono S L⟩
  · rcases hmu n a h1 with q | ⟨e1, e2⟩ <;> rcases hmu m a h2 with q' | ⟨e1', e2'⟩
    · exact S.inj n m a q q'
    · subst e2'; exact absurd q (S.fresh_mu hp)
    · subst e2; exact absurd q' (S.fresh_mu hp)
    · rw [e1, e1']
  · rcases hmu n a h with q | ⟨e1, e2⟩
    · exact L.trk a (S.trk n a q)
    · rw [e2, upd_same]; trivial
  · rw [L.exk a ha]; exact S.exm a ha
  · rcases hmu n a h with q | ⟨e1, e2⟩
    · exact S.exn n a q
    · subst e2
      intro z
      have hm := S.exm _ z
      rw [hp] at hm; exact hm

theorem tabs_write {T : List (Addr × Str)} {a : Addr} {o : HO} (t : LamX.Tabs T H) (h : ∃ us, H a = some (.lst us)) : LamX.Tabs T (upd H a o) := by
  obtain ⟨us, h⟩ := h
  intro p hp
  obtain ⟨ps, h1, h2, h3⟩ := t p hp
  refine ⟨ps, ?_, h2, fun pos cv hc => ?_⟩
  · rw [upd_ne]; exact h1
    intro z; rw [z, h] at h1; cases h1
  · obtain ⟨c, e1, e2⟩ := h3 pos cv hc
    refine ⟨c, e1, ?_⟩
    rw [upd_ne]; exact e2
    intro z; rw [z, h] at e2; exact nomatch e2
theorem cell_lst {c : Cell} {a : Addr} (h : CellR K g H c a) : ∃ us ds, H a = some (.lst us) ∧ c = .lst ds := by
  cases c with
  | lst ds => obtain ⟨us, e, _⟩ := h; exact ⟨us, ds, e, rfl⟩
/-- an owned list written -/
theorem Sim.write {a : Addr} {n : Nat} {vs : List V} {c : Cell} {ds : List PyData} (S : Sim K g H) (hc : g.cs[n]? = some (some c)) (ha : g.mu[n]? = some a) (r : RDs K g H vs ds) :
    Sim K ⟨g.mu, g.cs.set n (some (.lst ds)), g.ex⟩ (upd H a (.lst vs)) ∧ Le g H ⟨g.mu, g.cs.set n (some (.lst ds)), g.ex⟩ (upd H a (.lst vs)) := by
  have hn : n < g.cs.length := (List.getElem?_eq_some_iff.mp hc).1
  have oa : own g a := .inl ⟨n, c, hc, ha⟩
  have hown : ∀ b, own ⟨g.mu, g.cs.set n (some (.lst ds)), g.ex⟩ b → own g b := fun b h => by
    rcases h with ⟨m, c', h1, h2⟩ | h
    · by_cases hm : n = m
      · subst hm; exact .inl ⟨n, c, hc, h2⟩
      · have h1 : (g.cs.set n (some (Cell.lst ds)))[m]? = some (some c') := h1
        rw [List.getElem?_set_ne hm] at h1
        exact .inl ⟨m, c', h1, h2⟩
    · exact .inr h
  have L : Le g H ⟨g.mu, g.cs.set n (some (.lst ds)), g.ex⟩ (upd H a (.lst vs)) := by
    refine ⟨fun _ _ h => h, fun b o h _ nb => ?_, rfl, fun b hb => ?_, fun b h => ?_⟩
    · have hb : b ≠ a := fun z => nb (by rw [z]; exact oa)
      exact ⟨by rw [upd_ne hb]; exact h, fun q => nb (hown b q)⟩
    · rw [upd_ne]
      intro z; rw [z] at hb; exact S.exn n a ha hb
    · by_cases hb : b = a
      · rw [hb, upd_same]; trivial
      · rw [upd_ne hb]; exact h
  refine ⟨⟨?_, fun m c' b h1 h2 => ?_, S.inj, fun m b h => L.trk b (S.trk m b h), fun b hb => by rw [L.exk b hb]; exact S.exm b hb, S.exn, tabs_write S.tabs (let ⟨us, _, e, _⟩ := cell_lst (S.cell n c a hc ha); ⟨us, e⟩)⟩, L⟩
  · show g.mu.length = (g.cs.set n (some (Cell.lst ds))).length
    rw [List.length_set]; exact S.len
  · by_cases hm : n = m
    · subst hm
      have h1 : (g.cs.set n (some (Cell.lst ds)))[n]? = some (some c') := h1
      rw [List.getElem?_set_self hn] at h1
      cases h1
      have e : b = a := by rw [ha] at h2; exact (Option.some.inj h2).symm
      subst e
      exact ⟨vs, upd_same, r.mono S L⟩
    · have h1 : (g.cs.set n (some (Cell.lst ds)))[m]? = some (some c') := h1
      rw [List.getElem?_set_ne hm] at h1
      exact (S.cell m c' b h1 h2).mono S L (upd_ne fun z => hm (S.inj n m a ha (by rw [← z]; exact h2)))

/-- an owned cell let go: from now on by value -/
theorem Sim.free {n : Nat} {a : Addr} {ds : List PyData} (S : Sim K g H) (hc : g.cs[n]? = some (some (.lst ds))) (ha : g.mu[n]? = some a) :
    Sim K ⟨g.mu, g.cs.set n none, g.ex⟩ H ∧ Le g H ⟨g.mu, g.cs.set n none, g.ex⟩ H ∧ RD K ⟨g.mu, g.cs.set n none, g.ex⟩ H (.ref a) (.list ds) := by
  have hn : n < g.cs.length := (List.getElem?_eq_some_iff.mp hc).1
  have back : ∀ (m : Nat) (c' : Cell), (g.cs.set n none)[m]? = some (some c') → m ≠ n ∧ g.cs[m]? = some (some c') := fun m c' h => by
    by_cases hm : n = m
    · subst hm
      rw [List.getElem?_set_self hn] at h; cases h
    · rw [List.getElem?_set_ne hm] at h
      exact ⟨fun z => hm z.symm, h⟩
  have L : Le g H ⟨g.mu, g.cs.set n none, g.ex⟩ H := by
    refine ⟨fun _ _ h => h, fun b o h _ nb => ⟨h, fun q => nb ?_⟩, rfl, fun _ _ => rfl, fun _ h => h⟩
    rcases q with ⟨m, c', h1, h2⟩ | q
    · exact .inl ⟨m, c', (back m c' h1).2, h2⟩
    · exact .inr q
  have S' : Sim K ⟨g.mu, g.cs.set n none, g.ex⟩ H := ⟨by show g.mu.length = (g.cs.set n none).length; rw [List.length_set]; exact S.len,
    fun m c' b h1 h2 => (S.cell m c' b (back m c' h1).2 h2).mono S L rfl, S.inj, S.trk, S.exm, S.exn, S.tabs⟩
  refine ⟨S', L, ?_⟩
  obtain ⟨vs, e, r⟩ := S.cell n _ a hc ha
  refine .lst ⟨.inl e, fun q => ?_⟩ (r.mono S L)
  rcases q with ⟨m, c', h1, h2⟩ | q
  · obtain ⟨hm, _⟩ := back m c' h1
    exact hm (S.inj m n a h2 ha)
  · exact S.exn n a ha q

/-- at a def's end: the cells made in it are forgotten -/
theorem Sim.cut (n : Nat) (S : Sim K g H) : Sim K ⟨g.mu.take n, g.cs.take n, g.ex⟩ H := by
  have mu' : ∀ (m : Nat) (a : Addr), (g.mu.take n)[m]? = some a → g.mu[m]? = some a := fun m a h => by
    rw [List.getElem?_take] at h
    split at h
    · exact h
    · cases h
  have cs' : ∀ (m : Nat) (c : Option Cell), (g.cs.take n)[m]? = some c → g.cs[m]? = some c := fun m c h => by
    rw [List.getElem?_take] at h
    split at h
    · exact h
    · cases h
  have L : ∀ b, own ⟨g.mu.take n, g.cs.take n, g.ex⟩ b → own g b := fun b q => by
    rcases q with ⟨m, c', h1, h2⟩ | q
    · exact .inl ⟨m, c', cs' m _ h1, mu' m _ h2⟩
    · exact .inr q
  have fl : ∀ {a xs}, FL K g H a xs → FL K ⟨g.mu.take n, g.cs.take n, g.ex⟩ H a xs := fun {a xs} h => by
    exact ⟨h.1, fun z => h.2 (L _ z)⟩
  have rd : (∀ {d v}, RD K g H v d → RD K ⟨g.mu.take n, g.cs.take n, g.ex⟩ H v d) ∧ (∀ {ds vs}, RDs K g H vs ds → RDs K ⟨g.mu.take n, g.cs.take n, g.ex⟩ H vs ds) := by
    constructor
    · intro d v h
      induction h using RD.rec (motive_2 := fun vs ds _ => RDs K ⟨g.mu.take n, g.cs.take n, g.ex⟩ H vs ds) with
      | non => exact .non
      | bl b => exact .bl b
      | int i => exact .int i
      | str x => exact .str x
      | lst h1 _ ih => exact .lst (fl h1) ih
      | tup h1 _ ih => exact .tup h1 ih
      | nil => exact .nil
      | cons _ _ i1 i2 => exact .cons i1 i2
    · intro ds vs h
      induction h using RDs.rec (motive_1 := fun v d _ => RD K ⟨g.mu.take n, g.cs.take n, g.ex⟩ H v d) with
      | non => exact .non
      | bl b => exact .bl b
      | int i => exact .int i
      | str x => exact .str x
      | lst h1 _ ih => exact .lst (fl h1) ih
      | tup h1 _ ih => exact .tup h1 ih
      | nil => exact .nil
      | cons _ _ i1 i2 => exact .cons i1 i2
  refine ⟨by show (g.mu.take n).length = (g.cs.take n).length; rw [List.length_take, List.length_take, S.len], fun m c a h1 h2 => ?_, fun m m' a h1 h2 => S.inj m m' a (mu' _ _ h1) (mu' _ _ h2), fun m a h => S.trk m a (mu' _ _ h), S.exm, fun m a h => S.exn m a (mu' _ _ h), S.tabs⟩
  have q := S.cell m c a (cs' _ _ h1) (mu' _ _ h2)
  cases c with
  | lst ds => obtain ⟨vs, e, r⟩ := q; exact ⟨vs, e, rd.2 r⟩
theorem cut_own {n : Nat} {b : Addr} (q : own ⟨g.mu.take n, g.cs.take n, g.ex⟩ b) : own g b := by
  rcases q with ⟨m, c', h1, h2⟩ | q
  · refine .inl ⟨m, c', ?_, ?_⟩
    · have h1 : (g.cs.take n)[m]? = some (some c') := h1
      rw [List.getElem?_take] at h1
      split at h1
      · exact h1
      · cases h1
    · have h2 : (g.mu.take n)[m]? = some b := h2
      rw [List.getElem?_take] at h2
      split at h2
      · exact h2
      · cases h2
  · exact .inr q
theorem RD.cut (n : Nat) {d : PyData} {v : V} (h : RD K g H v d) : RD K ⟨g.mu.take n, g.cs.take n, g.ex⟩ H v d := by
  have fl : ∀ {a xs}, FL K g H a xs → FL K ⟨g.mu.take n, g.cs.take n, g.ex⟩ H a xs := fun {a xs} h => by
    exact ⟨h.1, fun z => h.2 (cut_own z)⟩
  induction h using RD.rec (motive_2 := fun vs ds _ => RDs K ⟨g.mu.take n, g.cs.take n, g.ex⟩ H vs ds) with
  | non => exact .non
  | bl b => exact .bl b
  | int i => exact .int i
  | str x => exact .str x
  | lst h1 _ ih => exact .lst (fl h1) ih
  | tup h1 _ ih => exact .tup h1 ih
  | nil => exact .nil
  | cons _ _ i1 i2 => exact .cons i1 i2
theorem Le.cut (S : Sim K g H) (L : Le g H g' H') : Le g H ⟨g'.mu.take g.mu.length, g'.cs.take g.mu.length, g'.ex⟩ H' := by
  refine ⟨fun n a h => ?_, fun a o h t n => ⟨(L.keep a o h t n).1, fun q => (L.keep a o h t n).2 (cut_own q)⟩, L.exe, L.exk, L.trk⟩
  show (g'.mu.take g.mu.length)[n]? = some a
  rw [List.getElem?_take, if_pos (List.getElem?_eq_some_iff.mp h).1]
  exact L.pre n a h
end
end MK
set_option Elab.async false
set_option linter.all false
set_option maxRecDepth 100000
set_option maxHeartbeats 1000000
/-! MKb: what a reading computes: expressions. -/
namespace MK
open PySem PySem.Spec PyProof.Rows L2
variable {cz : Cxx} [Tb]

abbrev Mg := Str → Option Value
def XR (K : PySem.W.Frag) (mg : Mg) (g : Gh) (H : Hp) (x : Xn) (cls : Value) (oa : Option Addr) : Prop :=
  (∃ C, mg x.cls = some (.ref C) ∧ cls = .ref C) ∧ XA K g H x oa
/-- what a computation leads to -/
def Out {α : Type} (K : PySem.W.Frag) (mg : Mg) (E : XK) (g : Gh) (H : Hp) (r : Res α) (P : α → Gh → Hp → Prop) : Prop := match r with
  | .ok d h' => ∀ g' H', g'.cs = h' → Sim K g' H' → Le g H g' H' → P d g' H'
  | .exn x h' => ∀ g' H' cls oa, g'.cs = h' → Sim K g' H' → Le g H g' H' → XR K mg g' H' x cls oa → E cls oa H'
  | .stuck => False
section
variable {K : PySem.W.Frag} {mg : Mg} {E : XK} {g : Gh} {H : Hp} {α β : Type}
theorem Out.mono {r : Res α} {P P' : α → Gh → Hp → Prop} (o : Out K mg E g H r P) (h : ∀ d g' H', Sim K g' H' → Le g H g' H' → P d g' H' → P' d g' H') : Out K mg E g H r P' := by
  cases r with
  | ok d h' => exact fun g' H' e S L => h d g' H' S L (o g' H' e S L)
  | exn x h' => exact o
  | stuck => exact o
theorem Out.bind {m : Mm α} {f : α → Mm β} {h : Hm} {P : β → Gh → Hp → Prop} (o : Out K mg E g H (mB m f h) P) : Out K mg E g H (m h) fun d g1 H1 => Out K mg E g1 H1 (f d g1.cs) P := by
  unfold mB at o
  cases q : m h with
  | ok d h' =>
    rw [q] at o
    intro g1 H1 e S1 L1
    subst e
    have o : Out K mg E g H (f d g1.cs) P := o
    cases q2 : f d g1.cs with
    | ok d2 h2 => rw [q2] at o; exact fun g2 H2 e S2 L2 => o g2 H2 e S2 (L1.trans L2)
    | exn x h2 => rw [q2] at o; exact fun g2 H2 cls oa e S2 L2 => o g2 H2 cls oa e S2 (L1.trans L2)
    | stuck => rw [q2] at o; exact o
  | exn x h' => rw [q] at o; exact o
  | stuck => rw [q] at o; exact o
theorem Out.pure {a : α} {P : α → Gh → Hp → Prop} (S : Sim K g H) (o : Out K mg E g H (mP a g.cs) P) : P a g H := o g H rfl S (Le.refl g H)
theorem Out.stuck {P : α → Gh → Hp → Prop} {h : Hm} (o : Out K mg E g H (mStuck (α := α) h) P) : False := o
/-- a new thing tracked by value -/
theorem Out.laid {a : α} {p : Addr} {u : HO} {P : α → Gh → Hp → Prop} (S : Sim K g H) (hp : H p = none) (o : Out K mg E g H (mP a g.cs) P) : P a g (upd H p u) ∧ Sim K g (upd H p u) ∧ Le g H g (upd H p u) := by
  obtain ⟨S', L'⟩ := S.laid (o := u) hp
  exact ⟨o g _ rfl S' L', S', L'⟩
end

theorem PEwk {X : Cx} {e : Expr} {t t' : TE} (h : PE X e t) (w : ∀ σ H Q, t' σ H Q → t σ H Q) : PE X e t' := ⟨fun pins s σ H Q I q => h.run pins s σ H Q I (w σ H Q q)⟩
theorem PTwk {X : Cx} {e : Expr} {t t' : TT} (h : PT X e t) (w : ∀ σ H Q, t' σ H Q → t σ H Q) : PT X e t' := ⟨fun pins s σ H Q I q => h.run pins s σ H Q I (w σ H Q q)⟩
theorem PWwk {X : Cx} {e : Expr} {t t' : TT} (h : PW X e t) (w : ∀ σ H Q, t' σ H Q → t σ H Q) : PW X e t' := ⟨fun wh pins s σ H Q I q => h.run wh pins s σ H Q I (w σ H Q q)⟩
theorem PAwk {X : Cx} {es : List Expr} {t t' : TA} (h : PA X es t) (w : ∀ σ H Q, t' σ H Q → t σ H Q) : PA X es t' := ⟨fun pos pins s σ H Q I q => h.run pos pins s σ H Q I (w σ H Q q)⟩
theorem PSwk {X : Cx} {e : Stmt} {t t' : TS} (h : PS X e t) (w : ∀ D σ H, t' D σ H → t D σ H) : PS X e t' := ⟨fun pins s σ H D I q => h.run pins s σ H D I (w D σ H q)⟩
theorem PSswk {X : Cx} {e : List Stmt} {t t' : TS} (h : PSs X e t) (w : ∀ D σ H, t' D σ H → t D σ H) : PSs X e t' := ⟨fun pins s σ H D I q => h.run pins s σ H D I (w D σ H q)⟩

/-! ### readings -/
abbrev vbl (b : Bool) : V := .bl b
abbrev Em := Ro → Mm SV
abbrev Tm := Ro → Mm Bool
abbrev Am := Ro → Mm (List SV)
def tM (K : PySem.W.Frag) (cz : Cxx) (mg : Mg) (E : XK) (m : Em) : TE := fun σ H Q => ∃ g ρ, Sim K g H ∧ EnvR K cz g H ρ σ ∧ Out K mg E g H (m ρ g.cs) fun d g' H' => ∀ v, RSV K cz g' H' v d → Q v H'
def tT (K : PySem.W.Frag) (cz : Cxx) (mg : Mg) (E : XK) (m : Tm) : TT := fun σ H Q => ∃ g ρ, Sim K g H ∧ EnvR K cz g H ρ σ ∧ Out K mg E g H (m ρ g.cs) fun b _ H' => Q b H'
def tA (K : PySem.W.Frag) (cz : Cxx) (mg : Mg) (E : XK) (m : Am) : TA := fun σ H Q => ∃ g ρ, Sim K g H ∧ EnvR K cz g H ρ σ ∧ Out K mg E g H (m ρ g.cs) fun ds g' H' => ∀ vs, RSVs K cz g' H' vs ds → Q vs H'
abbrev ME (X : Cx) (E : XK) (e : Expr) (m : Em) : Prop := PE X e (tM X.K (cx X) X.mg E m)
abbrev MT (X : Cx) (E : XK) (e : Expr) (m : Tm) : Prop := PT X e (tT X.K (cx X) X.mg E m)
abbrev MW (X : Cx) (E : XK) (e : Expr) (m : Tm) : Prop := PW X e (tT X.K (cx X) X.mg E m)
abbrev MA (X : Cx) (E : XK) (es : List Expr) (m : Am) : Prop := PA X es (tA X.K (cx X) X.mg E m)

/-! ### the combinators -/
def opt {α : Type} (o : Option α) : Mm α := match o with
  | some a => mP a
  | none => mStuck
def slot (ρ : Ro) (i : Nat) : Option SV := match ρ[i]? with
  | some (some d) => some d
  | _ => none
theorem slot_some {ρ : Ro} {i : Nat} {d : SV} (h : slot ρ i = some d) : ρ[i]? = some (some d) := by
  unfold slot at h
  split at h
  · rename_i e q
    cases h
    exact q
  · cases h
theorem opt_of {K : PySem.W.Frag} {mg : Mg} {E : XK} {g : Gh} {H : Hp} {α : Type} {q : Option α} {P : α → Gh → Hp → Prop} (S : Sim K g H) (o : Out K mg E g H (opt q g.cs) P) : ∃ x, q = some x ∧ P x g H := by
  unfold opt at o
  cases q with
  | none => exact o.elim
  | some x => exact ⟨x, rfl, o.pure S⟩
def eVar (i : Nat) : Em := fun ρ => opt (slot ρ i)
def eC (d : PyData) : Em := fun _ => mP (.val d)
def mFrz (d : SV) : Mm SV := fun h => match d with
  | .ref n => match h[n]? with
    | some (some (.lst ds)) => .ok (.val (.list ds)) (h.set n none)
    | _ => .stuck
  | _ => .stuck
/-- an owned list let go -/
def eFrz (i : Nat) : Em := fun ρ => mB (eVar i ρ) mFrz
def eOp2 (F : SV → SV → Mm SV) (a b : Em) : Em := fun ρ => mB (a ρ) fun x => mB (b ρ) fun y => F x y
def eOp1 (F : SV → Mm SV) (a : Em) : Em := fun ρ => mB (a ρ) F
def aNil : Am := fun _ => mP []
def aCons (a : Em) (r : Am) : Am := fun ρ => mB (a ρ) fun x => mB (r ρ) fun xs => mP (x :: xs)
def eArgs (F : List SV → Mm SV) (a : Am) : Em := fun ρ => mB (a ρ) F
def mBool : SV → Mm Bool
  | .val (.bool b) => mP b
  | _ => mStuck
def tE (a : Em) : Tm := fun ρ => mB (a ρ) mBool
def tAnd (a b : Tm) : Tm := fun ρ => mB (a ρ) fun c => if c then b ρ else mP false
def tOr (a b : Tm) : Tm := fun ρ => mB (a ρ) fun c => if c then mP true else b ρ
def tNot (a : Tm) : Tm := fun ρ => mB (a ρ) fun c => mP (!c)
def eAnd (a b : Em) : Em := fun ρ => mB (a ρ) fun x => mB (mBool x) fun c => if c then b ρ else mP (.val (.bool false))
def eOr (a b : Em) : Em := fun ρ => mB (a ρ) fun x => mB (mBool x) fun c => if c then mP (.val (.bool true)) else b ρ
def eNot (a : Em) : Em := fun ρ => mB (a ρ) fun x => mB (mBool x) fun c => mP (.val (.bool (!c)))
def eIf (c : Tm) (a b : Em) : Em := fun ρ => mB (c ρ) fun k => if k then a ρ else b ρ
/-- a op b op' c -/
def eChain (F G : SV → SV → Mm SV) (a b c : Em) : Em := fun ρ => mB (a ρ) fun x => mB (b ρ) fun y => mB (F x y) fun r => mB (mBool r) fun k =>
  if k then mB (c ρ) fun z => G y z else mP (.val (.bool false))
/-- the pure data of a list of values -/
def datas : List SV → Option (List PyData)
  | [] => some []
  | .val d :: r => (datas r).map (d :: ·)
  | _ :: _ => none
def mTup (ds : List SV) : Mm SV := match datas ds with
  | some xs => mP (.val (.tuple xs))
  | none => mStuck
/-- a new list: owned or by value -/
def mNew (o : Bool) (xs : List PyData) : Mm SV := if o then fun h => .ok (.ref h.length) (h ++ [some (.lst xs)]) else mP (.val (.list xs))
def mLst (o : Bool) (ds : List SV) : Mm SV := match datas ds with
  | some xs => mNew o xs
  | none => mStuck
/-- a list's or tuple's items -/
def mSeq (d : SV) : Mm (List PyData) := fun h => match d with
  | .val (.list xs) => .ok xs h
  | .val (.tuple xs) => .ok xs h
  | .ref n => match h[n]? with
    | some (some (.lst xs)) => .ok xs h
    | _ => .stuck
  | _ => .stuck
def mInt : SV → Mm Int
  | .val (.int i) => mP i
  | _ => mStuck
def mD : SV → Mm PyData
  | .val d => mP d
  | _ => mStuck
def int2 (F : Int → Int → Mm SV) : SV → SV → Mm SV := fun x y => mB (mInt x) fun i => mB (mInt y) fun j => F i j
def fIx : SV → SV → Mm SV := fun x y => mB (mSeq x) fun xs => mB (mInt y) fun i => mB (opt (atI xs i)) fun d => mP (.val d)

section
variable {X : Cx} {E : XK} {e a b c : Expr} {es rest : List Expr} {ma mb mc : Em} {ta tb : Tm} {ms : Am} {pos : Pos}

/-! ### rules: names, constants -/
theorem me_var {i : Nat} {x : Str} (hN : X.N[i]? = some x) (hv : Vis X.env.scope x) (hd : (x == ("__debug__" : Str)) = false) (hcd : (x == ("__classdict__" : Str)) = false) : ME X E (.Name x pos) (eVar i) := by
  refine PEwk (pe_var (i := i) hN hv hd hcd) fun σ H Q ⟨g, ρ, S, V, o⟩ => ?_
  obtain ⟨d, e, o⟩ := opt_of S o
  obtain ⟨v, e1, r⟩ := V.2 i d (slot_some e)
  exact ⟨v, e1, o v r⟩
theorem me_frz {i : Nat} {x : Str} (hN : X.N[i]? = some x) (hv : Vis X.env.scope x) (hd : (x == ("__debug__" : Str)) = false) (hcd : (x == ("__classdict__" : Str)) = false) : ME X E (.Name x pos) (eFrz i) := by
  refine PEwk (pe_var (i := i) hN hv hd hcd) fun σ H Q ⟨g, ρ, S, V, o⟩ => ?_
  obtain ⟨d, e, o⟩ := opt_of S o.bind
  obtain ⟨v, e1, r⟩ := V.2 i d (slot_some e)
  refine ⟨v, e1, ?_⟩
  unfold mFrz at o
  cases d with
  | val d => exact o.elim
  | rng l h => exact o.elim
  | exc _ => exact o.elim
  | ref n =>
    obtain ⟨a, e2, e3⟩ := r
    cases q : g.cs[n]? with
    | none => simp only [q] at o; exact o.elim
    | some oc =>
      cases oc with
      | none => simp only [q] at o; exact o.elim
      | some cc =>
        cases cc with
        | lst ds =>
          simp only [q] at o
          obtain ⟨S', L', rd⟩ := S.free q e3
          rw [e2]
          exact o _ H rfl S' L' _ rd
theorem me_int {i : Int} {j : Nat} : ME X E (.Constant (.int i) j pos) (eC (.int i)) := PEwk pe_int fun σ H Q ⟨g, ρ, S, V, o⟩ => o.pure S _ (RD.int i)
theorem me_bl {i : Bool} {j : Nat} : ME X E (.Constant (.bool i) j pos) (eC (.bool i)) := PEwk pe_bl fun σ H Q ⟨g, ρ, S, _, o⟩ => o.pure S _ (RD.bl i)
theorem me_non {j : Nat} : ME X E (.Constant .none j pos) (eC .none) := PEwk pe_non fun σ H Q ⟨g, ρ, S, V, o⟩ => o.pure S _ RD.non
theorem me_str {i : Str} {j : Nat} : ME X E (.Constant (.str i) j pos) (eC (.str i)) := PEwk pe_str fun σ H Q ⟨g, ρ, S, V, o⟩ => o.pure S _ (RD.str i)
/-- data of the module -/
structure GlobD (K : PySem.W.Frag) (mg : Mg) (x : Str) (d : PyData) : Prop where
  ex : ∃ u v, mg x = some u ∧ RelV v u ∧ ∀ g H, RD K g H v d
theorem me_glob {x : Str} {d : PyData} (G : GlobD X.K X.mg x d) (hg : Gl X x) (hd : (x == ("__debug__" : Str)) = false) : ME X E (.Name x pos) (eC d) := by
  obtain ⟨u, v, hm, r, k⟩ := G.ex
  exact PEwk (pe_glob hg hm r hd) fun σ H Q ⟨g, ρ, S, V, o⟩ => o.pure S _ (k g H)

/-! ### operators by values -/
def S2 (K : PySem.W.Frag) (cz : Cxx) (mg : Mg) (E : XK) (r : R2) (F : SV → SV → Mm SV) : Prop :=
  ∀ g H x y dx dy Q, Sim K g H → RSV K cz g H x dx → RSV K cz g H y dy → Out K mg E g H (F dx dy g.cs) (fun d g' H' => ∀ v, RSV K cz g' H' v d → Q v H') → r x y H Q
theorem me_op {op : Operator} {r : R2} {F : SV → SV → Mm SV} (ho : OpR X (binaryOp op) r) (hF : S2 X.K (cx X) X.mg E r F) (ha : ME X E a ma) (hb : ME X E b mb) : ME X E (.BinOp a op b pos) (eOp2 F ma mb) := by
  refine PEwk (pe_op ho ha hb) fun σ H Q ⟨g, ρ, S, V, o⟩ => ?_
  refine ⟨g, ρ, S, V, o.bind.mono fun dx g1 H1 S1 L1 o1 v rv => ?_⟩
  refine ⟨g1, ρ, S1, V.mono S L1, o1.bind.mono fun dy g2 H2 S2 L2 o2 u ru => ?_⟩
  exact hF g2 H2 v u dx dy Q S2 (rv.mono S1 L2) ru o2
theorem me_cmp {op : CmpOp} {r : R2} {F : SV → SV → Mm SV} (ho : OpR X (compareOp op) r) (hF : S2 X.K (cx X) X.mg E r F) (ha : ME X E a ma) (hb : ME X E b mb) (hm : behindInMarks op b = false) : ME X E (.Compare a [op] [b] pos) (eOp2 F ma mb) := by
  refine PEwk (pe_cmpR ho ha hb hm) fun σ H Q ⟨g, ρ, S, V, o⟩ => ?_
  refine ⟨g, ρ, S, V, o.bind.mono fun dx g1 H1 S1 L1 o1 v rv => ?_⟩
  refine ⟨g1, ρ, S1, V.mono S L1, o1.bind.mono fun dy g2 H2 S2 L2 o2 u ru => ?_⟩
  exact hF g2 H2 v u dx dy Q S2 (rv.mono S1 L2) ru o2
theorem mt_bool {K : PySem.W.Frag} {mg : Mg} {g : Gh} {H : Hp} {d : SV} {v : V} {P : Bool → Hp → Prop} (S : Sim K g H) (r : RSV K cz g H v d) (o : Out K mg E g H (mBool d g.cs) fun b _ H' => P b H') : ∃ k, v = .bl k ∧ P k H := by
  cases d with
  | ref n => exact o.elim
  | rng l h => exact o.elim
  | exc _ => exact o.elim
  | val d =>
    cases d with
    | bool k => cases r; exact ⟨k, rfl, o.pure S⟩
    | _ => exact o.elim
theorem mt_cmp {op : CmpOp} {r : R2} {F : SV → SV → Mm SV} (ho : OpR X (compareOp op) r) (hF : S2 X.K (cx X) X.mg E r F) (ha : ME X E a ma) (hb : ME X E b mb) (hm : behindInMarks op b = false) : MT X E (.Compare a [op] [b] pos) (tE (eOp2 F ma mb)) := by
  refine PTwk (pt_cmpR ho ha hb hm) fun σ H Q ⟨g, ρ, S, V, o⟩ => ?_
  unfold tE at o
  have o := o.bind
  refine ⟨g, ρ, S, V, o.bind.mono fun dx g1 H1 S1 L1 o1 v rv => ?_⟩
  refine ⟨g1, ρ, S1, V.mono S L1, o1.bind.mono fun dy g2 H2 S2 L2 o2 u ru => ?_⟩
  exact hF g2 H2 v u dx dy _ S2 (rv.mono S1 L2) ru (o2.mono fun d g3 H3 S3 L3 o3 w rw' => mt_bool S3 rw' o3)
theorem mt_val (ha : ME X E a ma) (he : ∀ whole, isTrue a X.env whole = (do let v ← whole; standAt a.pos; holding [v] (truthy v))) : MT X E a (tE ma) := by
  refine PTwk (pt_val ha he) fun σ H Q ⟨g, ρ, S, V, o⟩ => ?_
  exact ⟨g, ρ, S, V, o.bind.mono fun d g1 H1 S1 L1 o1 v rv => mt_bool S1 rv o1⟩
theorem mt_not (ha : MT X E a ta) : MT X E (.UnaryOp .Not a pos) (tNot ta) := by
  refine PTwk (pt_not ha) fun σ H Q ⟨g, ρ, S, V, o⟩ => ?_
  exact ⟨g, ρ, S, V, o.bind.mono fun k g1 H1 S1 L1 o1 => o1.pure S1⟩
theorem mw_and1 (ha : MT X E a ta) : MW X E (.BoolOp .And [a] pos) ta := pw_and1 ha
theorem mw_or1 (ha : MT X E a ta) : MW X E (.BoolOp .Or [a] pos) ta := pw_or1 ha
theorem mw_and (ha : MT X E a ta) (hb : MW X E (.BoolOp .And (b :: rest) pos) tb) : MW X E (.BoolOp .And (a :: b :: rest) pos) (tAnd ta tb) := by
  refine PWwk (pw_and ha hb) fun σ H Q ⟨g, ρ, S, V, o⟩ => ?_
  refine ⟨g, ρ, S, V, o.bind.mono fun k g1 H1 S1 L1 o1 => ?_⟩
  cases k with
  | true => rw [if_pos rfl]; exact ⟨g1, ρ, S1, V.mono S L1, o1⟩
  | false => rw [if_neg Bool.false_ne_true]; exact o1.pure S1
theorem mw_or (ha : MT X E a ta) (hb : MW X E (.BoolOp .Or (b :: rest) pos) tb) : MW X E (.BoolOp .Or (a :: b :: rest) pos) (tOr ta tb) := by
  refine PWwk (pw_or ha hb) fun σ H Q ⟨g, ρ, S, V, o⟩ => ?_
  refine ⟨g, ρ, S, V, o.bind.mono fun k g1 H1 S1 L1 o1 => ?_⟩
  cases k with
  | true => rw [if_pos rfl]; exact o1.pure S1
  | false => rw [if_neg Bool.false_ne_true]; exact ⟨g1, ρ, S1, V.mono S L1, o1⟩
theorem MW.mt (h : MW X E e ta) : MT X E e ta := PW.pt h
theorem me_one {op : BoolOp} (h : ME X E a ma) : ME X E (.BoolOp op [a] pos) ma := pe_one h
theorem me_and (ha : ME X E a ma) (hb : ME X E (.BoolOp .And (b :: rest) pos) mb) : ME X E (.BoolOp .And (a :: b :: rest) pos) (eAnd ma mb) := by
  refine PEwk (pe_and ha hb) fun σ H Q ⟨g, ρ, S, V, o⟩ => ?_
  refine ⟨g, ρ, S, V, o.bind.mono fun d g1 H1 S1 L1 o1 v rv => ?_⟩
  have o1 := o1.bind
  obtain ⟨k, e, q⟩ := mt_bool (P := fun k H => if k = true then tM X.K (cx X) X.mg E mb σ H Q else Q (vbl false) H) S1 rv (o1.mono fun k g2 H2 S2 L2 o2 => by
    cases k with
    | true => rw [if_pos rfl]; exact ⟨g2, ρ, S2, V.mono S (L1.trans L2), o2⟩
    | false => rw [if_neg Bool.false_ne_true]; exact o2.pure S2 _ (RD.bl false))
  exact ⟨k, e, q⟩
theorem me_or (ha : ME X E a ma) (hb : ME X E (.BoolOp .Or (b :: rest) pos) mb) : ME X E (.BoolOp .Or (a :: b :: rest) pos) (eOr ma mb) := by
  refine PEwk (pe_or ha hb) fun σ H Q ⟨g, ρ, S, V, o⟩ => ?_
  refine ⟨g, ρ, S, V, o.bind.mono fun d g1 H1 S1 L1 o1 v rv => ?_⟩
  have o1 := o1.bind
  obtain ⟨k, e, q⟩ := mt_bool (P := fun k H => if k = true then Q (vbl true) H else tM X.K (cx X) X.mg E mb σ H Q) S1 rv (o1.mono fun k g2 H2 S2 L2 o2 => by
    cases k with
    | true => rw [if_pos rfl]; exact o2.pure S2 _ (RD.bl true)
    | false => rw [if_neg Bool.false_ne_true]; exact ⟨g2, ρ, S2, V.mono S (L1.trans L2), o2⟩)
  exact ⟨k, e, q⟩
theorem me_not (ha : ME X E a ma) : ME X E (.UnaryOp .Not a pos) (eNot ma) := by
  refine PEwk (pe_not ha) fun σ H Q ⟨g, ρ, S, V, o⟩ => ?_
  refine ⟨g, ρ, S, V, o.bind.mono fun d g1 H1 S1 L1 o1 v rv => ?_⟩
  have o1 := o1.bind
  obtain ⟨k, e, q⟩ := mt_bool (P := fun k H => Q (vbl (!k)) H) S1 rv (o1.mono fun k g2 H2 S2 L2 o2 => o2.pure S2 _ (RD.bl _))
  exact ⟨k, e, q⟩
theorem me_ifE (hc : MT X E c ta) (ha : ME X E a ma) (hb : ME X E b mb) : ME X E (.IfExp c a b pos) (eIf ta ma mb) := by
  refine PEwk (pe_ifExp hc ha hb) fun σ H Q ⟨g, ρ, S, V, o⟩ => ?_
  refine ⟨g, ρ, S, V, o.bind.mono fun k g1 H1 S1 L1 o1 => ?_⟩
  cases k with
  | true => rw [if_pos rfl]; exact ⟨g1, ρ, S1, V.mono S L1, o1⟩
  | false => rw [if_neg Bool.false_ne_true]; exact ⟨g1, ρ, S1, V.mono S L1, o1⟩
theorem me_chain {op op' : CmpOp} {r r' : R2} {F G : SV → SV → Mm SV} (ho : OpR X (compareOp op) r) (ho' : OpR X (compareOp op') r') (hF : S2 X.K (cx X) X.mg E r F) (hG : S2 X.K (cx X) X.mg E r' G)
    (ha : ME X E a ma) (hb : ME X E b mb) (hc : ME X E c mc) (hm : lastMarks [op, op'] [b, c] = false) : ME X E (.Compare a [op, op'] [b, c] pos) (eChain F G ma mb mc) := by
  refine PEwk (pe_chain ho ho' ha hb hc hm) fun σ H Q ⟨g, ρ, S, V, o⟩ => ?_
  refine ⟨g, ρ, S, V, o.bind.mono fun dx g1 H1 S1 L1 o1 v rv => ?_⟩
  refine ⟨g1, ρ, S1, V.mono S L1, o1.bind.mono fun dy g2 H2 S2 L2 o2 u ru => ?_⟩
  refine hF g2 H2 v u dx dy _ S2 (rv.mono S1 L2) ru (o2.bind.mono fun d g3 H3 S3 L3 o3 w rw' => ?_)
  refine mt_bool (P := fun k H3 => if k = true then tM X.K (cx X) X.mg E mc σ H3 (fun w' H4 => r' u w' H4 Q) else Q (vbl false) H3) S3 rw' (o3.bind.mono fun k g4 H4 S4 L4 o4 => ?_)
  cases k with
  | false => rw [if_neg Bool.false_ne_true]; exact o4.pure S4 _ (RD.bl false)
  | true =>
    rw [if_pos rfl]
    refine ⟨g4, ρ, S4, V.mono S (L1.trans (L2.trans (L3.trans L4))), o4.bind.mono fun dz g5 H5 S5 L5 o5 z rz => ?_⟩
    exact hG g5 H5 u z dy dz Q S5 (ru.mono S2 (L3.trans (L4.trans L5))) rz o5
theorem mt_chain {op op' : CmpOp} {r r' : R2} {F G : SV → SV → Mm SV} (ho : OpR X (compareOp op) r) (ho' : OpR X (compareOp op') r') (hF : S2 X.K (cx X) X.mg E r F) (hG : S2 X.K (cx X) X.mg E r' G)
    (ha : ME X E a ma) (hb : ME X E b mb) (hc : ME X E c mc) (hm : lastMarks [op, op'] [b, c] = false) : MT X E (.Compare a [op, op'] [b, c] pos) (tE (eChain F G ma mb mc)) := by
  refine PTwk (pt_chain ho ho' ha hb hc hm) fun σ H Q ⟨g, ρ, S, V, o⟩ => ?_
  unfold tE at o
  have o := o.bind
  refine ⟨g, ρ, S, V, o.bind.mono fun dx g1 H1 S1 L1 o1 v rv => ?_⟩
  refine ⟨g1, ρ, S1, V.mono S L1, o1.bind.mono fun dy g2 H2 S2 L2 o2 u ru => ?_⟩
  refine hF g2 H2 v u dx dy _ S2 (rv.mono S1 L2) ru (o2.bind.mono fun d g3 H3 S3 L3 o3 w rw' => ?_)
  refine mt_bool (P := fun k H3 => if k = true then tM X.K (cx X) X.mg E mc σ H3 (fun w' H4 => r' u w' H4 _) else ∃ k', vbl false = vbl k' ∧ Q k' H3) S3 rw' (o3.bind.mono fun k g4 H4 S4 L4 o4 => ?_)
  cases k with
  | false => rw [if_neg Bool.false_ne_true]; exact ⟨false, rfl, ((o4.pure S4).pure S4)⟩
  | true =>
    rw [if_pos rfl]
    refine ⟨g4, ρ, S4, V.mono S (L1.trans (L2.trans (L3.trans L4))), o4.bind.mono fun dz g5 H5 S5 L5 o5 z rz => ?_⟩
    exact hG g5 H5 u z dy dz _ S5 (ru.mono S2 (L3.trans (L4.trans L5))) rz (o5.mono fun d g6 H6 S6 L6 o6 w rw' => mt_bool S6 rw' o6)

/-! ### argument lists, displays -/
theorem ma_nil : MA X E [] aNil := PAwk pa_nil fun σ H Q ⟨g, ρ, S, V, o⟩ => o.pure S [] .nil
theorem ma_cons (ha : ME X E e ma) (hr : MA X E es ms) (hs : starEach (e :: es) X.env = (false, eval e X.env) :: starEach es X.env) : MA X E (e :: es) (aCons ma ms) := by
  refine PAwk (pa_cons ha hr hs) fun σ H Q ⟨g, ρ, S, V, o⟩ => ?_
  refine ⟨g, ρ, S, V, o.bind.mono fun dx g1 H1 S1 L1 o1 v rv => ?_⟩
  refine ⟨g1, ρ, S1, V.mono S L1, o1.bind.mono fun ds g2 H2 S2 L2 o2 vs rs => ?_⟩
  exact o2.pure S2 _ (.cons (rv.mono S1 L2) rs)
theorem rds_of {K : PySem.W.Frag} {g : Gh} {H : Hp} : ∀ {ds : List SV} {xs : List PyData} {vs : List V}, datas ds = some xs → RSVs K cz g H vs ds → RDs K g H vs xs
  | [], _, _, e, .nil => by cases e; exact .nil
  | .val d :: r, xs, _, e, .cons h t => by
    unfold datas at e
    cases q : datas r with
    | none => rw [q] at e; cases e
    | some ys =>
      rw [q] at e
      cases e
      exact .cons h (rds_of q t)
  | .ref _ :: _, _, _, e, _ => nomatch e
  | .rng _ _ :: _, _, _, e, _ => nomatch e
/-- a display small enough -/
def few (ds : List SV) : Mm Unit := if ds.length ≤ 1000 then mP () else mStuck
def eTup (a : Am) : Em := fun ρ => mB (a ρ) fun ds => mB (few ds) fun _ => mTup ds
def eLst (o : Bool) (a : Am) : Em := fun ρ => mB (a ρ) fun ds => mB (few ds) fun _ => mLst o ds
theorem few_le {K : PySem.W.Frag} {mg : Mg} {g : Gh} {H : Hp} {ds : List SV} {P : Unit → Gh → Hp → Prop} (S : Sim K g H) (o : Out K mg E g H (few ds g.cs) P) : ds.length ≤ sizeLine ∧ P () g H := by
  unfold few at o
  by_cases h : ds.length ≤ 1000
  · rw [if_pos h] at o
    exact ⟨by rw [sizeLine_eq]; omega, o.pure S⟩
  · rw [if_neg h] at o
    exact o.stuck.elim
/-- what a new list comes to -/
theorem new_list {K : PySem.W.Frag} {mg : Mg} {g : Gh} {H : Hp} {o : Bool} {xs : List PyData} {vs : List V} {p : Addr} {Q : VK} (S : Sim K g H) (r : RDs K g H vs xs) (hp : H p = none)
    (h : Out K mg E g H (mNew o xs g.cs) fun d g' H' => ∀ v, RSV K cz g' H' v d → Q v H') : Q (.ref p) (upd H p (.lst vs)) := by
  unfold mNew at h
  cases o with
  | true =>
    rw [if_pos rfl] at h
    obtain ⟨S', L'⟩ := S.alloc hp r
    refine h _ _ rfl S' L' _ ⟨p, rfl, ?_⟩
    show (g.mu ++ [p])[g.cs.length]? = some p
    rw [← S.len, List.getElem?_append_right (Nat.le_refl _), Nat.sub_self]
    rfl
  | false =>
    rw [if_neg Bool.false_ne_true] at h
    obtain ⟨S', L'⟩ := S.laid (o := .lst vs) hp
    exact h g _ rfl S' L' _ (RD.lst ⟨.inl upd_same, S.fresh_own hp⟩ (r.mono S L'))
theorem new_tup {K : PySem.W.Frag} {mg : Mg} {g : Gh} {H : Hp} {xs : List PyData} {vs : List V} {p : Addr} {Q : VK} (S : Sim K g H) (r : RDs K g H vs xs) (hp : H p = none)
    (h : Out K mg E g H (mP (SV.val (.tuple xs)) g.cs) fun d g' H' => ∀ v, RSV K cz g' H' v d → Q v H') : Q (.ref p) (upd H p (.tup vs)) := by
  obtain ⟨S', L'⟩ := S.laid (o := .tup vs) hp
  exact h g _ rfl S' L' _ (RD.tup (.inl (.inl upd_same)) (r.mono S L'))
theorem me_tup {k : Nat} (h : MA X E es ms) : ME X E (.Tuple es k pos) (eTup ms) := by
  refine PEwk (pe_tup h) fun σ H Q ⟨g, ρ, S, V, o⟩ => ?_
  refine ⟨g, ρ, S, V, o.bind.mono fun ds g1 H1 S1 L1 o1 vs rs => ?_⟩
  obtain ⟨hl, o1⟩ := few_le S1 o1.bind
  refine ⟨by rw [rs.length]; exact hl, fun p hp => ?_⟩
  unfold mTup at o1
  cases q : datas ds with
  | none => rw [q] at o1; exact o1.stuck.elim
  | some xs => rw [q] at o1; exact new_tup S1 (rds_of q rs) hp o1
theorem me_lst {o : Bool} (h : MA X E es ms) : ME X E (.List es pos) (eLst o ms) := by
  refine PEwk (pe_lst h) fun σ H Q ⟨g, ρ, S, V, o⟩ => ?_
  refine ⟨g, ρ, S, V, o.bind.mono fun ds g1 H1 S1 L1 o1 vs rs => ?_⟩
  obtain ⟨hl, o1⟩ := few_le S1 o1.bind
  refine ⟨by rw [rs.length]; exact hl, fun p hp => ?_⟩
  unfold mLst at o1
  cases q : datas ds with
  | none => rw [q] at o1; exact o1.stuck.elim
  | some xs => rw [q] at o1; exact new_list S1 (rds_of q rs) hp o1

/-! ### sequences -/
theorem seq_of {K : PySem.W.Frag} {mg : Mg} {g : Gh} {H : Hp} {d : SV} {v : V} {P : List PyData → Gh → Hp → Prop} (S : Sim K g H) (r : RSV K cz g H v d) (o : Out K mg E g H (mSeq d g.cs) P) :
    ∃ a vs xs, v = .ref a ∧ RDs K g H vs xs ∧ (Rd H a (.lst vs) ∨ SqT K H a vs) ∧ P xs g H := by
  unfold mSeq at o
  cases d with
  | rng l h => exact o.elim
  | exc _ => exact o.elim
  | ref n =>
    obtain ⟨a, e2, e3⟩ := r
    cases q : g.cs[n]? with
    | none => simp only [q] at o; exact o.elim
    | some oc =>
      cases oc with
      | none => simp only [q] at o; exact o.elim
      | some cc =>
        cases cc with
        | lst ds =>
          simp only [q] at o
          obtain ⟨vs, e, r⟩ := S.cell n _ a q e3
          exact ⟨a, vs, ds, e2, r, .inl (.inl e), o g H rfl S (Le.refl _ _)⟩
  | val d =>
    cases d with
    | list xs =>
      cases r with
      | lst h1 h2 => exact ⟨_, _, _, rfl, h2, .inl h1.1, o g H rfl S (Le.refl _ _)⟩
    | tuple xs =>
      cases r with
      | tup h1 h2 => exact ⟨_, _, _, rfl, h2, .inr h1, o g H rfl S (Le.refl _ _)⟩
    | _ => exact o.elim
theorem int_of {K : PySem.W.Frag} {mg : Mg} {g : Gh} {H : Hp} {d : SV} {v : V} {P : Int → Gh → Hp → Prop} (S : Sim K g H) (r : RSV K cz g H v d) (o : Out K mg E g H (mInt d g.cs) P) : ∃ i, v = .int i ∧ P i g H := by
  unfold mInt at o
  cases d with
  | rng l h => exact o.elim
  | exc _ => exact o.elim
  | ref n => exact o.elim
  | val d =>
    cases d with
    | int i => cases r; exact ⟨i, rfl, o.pure S⟩
    | _ => exact o.elim
theorem s2_ix {K : PySem.W.Frag} {mg : Mg} : S2 K cz mg E (fun x y H Q => rIxL K x y H Q ∨ rIxT K x y H Q) fIx := by
  intro g H x y dx dy Q S rx ry o
  obtain ⟨a, vs, xs, e1, r, h, o⟩ := seq_of S rx o.bind
  obtain ⟨i, e2, o⟩ := int_of S ry o.bind
  obtain ⟨d, e3, o⟩ := opt_of S o.bind
  have hl := r.length
  unfold atI at e3
  cases q : ixN xs.length i with
  | none => rw [q] at e3; cases e3
  | some j =>
    rw [q] at e3
    obtain ⟨v, e4, rv⟩ := r.get (i := j) (d := d) e3
    have e5 : atI vs i = some v := by unfold atI; rw [hl, q]; exact e4
    rcases h with h | h
    · exact .inl ⟨a, vs, i, v, e1, e2, .inl h, e5, o.pure S v rv⟩
    · exact .inr ⟨a, vs, i, v, e1, e2, h, e5, o.pure S v rv⟩
theorem me_ix (ha : ME X E a ma) (hb : ME X E b mb) (hs : PlainIx b) : ME X E (.Subscript a b pos) (eOp2 fIx ma mb) := by
  refine PEwk (pe_ix (ix_list.or ix_tup) ha hb hs) fun σ H Q ⟨g, ρ, S, V, o⟩ => ?_
  refine ⟨g, ρ, S, V, o.bind.mono fun dx g1 H1 S1 L1 o1 v rv => ?_⟩
  refine ⟨g1, ρ, S1, V.mono S L1, o1.bind.mono fun dy g2 H2 S2 L2 o2 u ru => ?_⟩
  exact s2_ix g2 H2 v u dx dy Q S2 (rv.mono S1 L2) ru o2
end
end MK
set_option Elab.async false
set_option linter.all false
set_option maxRecDepth 100000
set_option maxHeartbeats 1000000
/-! MKc: operators, comparisons, slices, built-in functions. -/
namespace MK
open PySem PySem.Spec PyProof.Rows L2
variable {cz : Cxx} [Tb]

/-! ### more rules by values -/
section
variable {X : Cx}
theorem lst_at {pins : List (Addr × Obj)} {σ : L2.St} {H : Hp} {s : Shared} {a : Addr} {xs : List V} (I : Inv X pins σ H s) (h : Rd H a (.lst xs)) :
    xs.length ≤ sizeLine ∧ ∃ (its : List Value) (n : Nat), Vals xs its ∧ xs.length = its.length ∧ s.heap.get? a = some { cls := .type "list", data := .seq its.toArray n } := by
  obtain ⟨z, its, n, r, e⟩ := h.ok I.hok
  exact ⟨z, its, n, r, r.length, e⟩
def rCatL : R2 := fun x y H Q => ∃ l b xs zs, x = .ref l ∧ y = .ref b ∧ Rd H l (.lst xs) ∧ Rd H b (.lst zs) ∧ xs.length + zs.length ≤ sizeLine ∧ ∀ p, H p = none → Q (.ref p) (upd H p (.lst (xs ++ zs)))
theorem op_catL : OpR X (binaryOp .Add) rCatL := by
  intro pins s σ H x y v u Q I rx ry h
  obtain ⟨l, b, xs, zs, rfl, rfl, hH, hB, hz, q⟩ := h
  cases rx
  cases ry
  obtain ⟨z, its, n, r, hl, e⟩ := lst_at I hH
  obtain ⟨z2, its2, n2, r2, hl2, e2⟩ := lst_at I hB
  refine PySem.P.add_list e e2 ?_ (by rw [List.size_toArray, List.size_toArray]; omega)
  have ea : its.toArray ++ its2.toArray = (its ++ its2).toArray := by simp
  rw [ea]
  exact ⟨.ref _, _, I.lnew (t' := s.toks) (r.append r2) (by rw [List.length_append]; omega), rfl, q _ I.fresh⟩
def rRepL : R2 := fun x y H Q => ∃ l k xs, x = .ref l ∧ y = .int k ∧ Rd H l (.lst xs) ∧ -(2 ^ 63) ≤ k ∧ k < 2 ^ 63 ∧ xs.length * k.toNat ≤ sizeLine ∧
  ∀ p, H p = none → Q (.ref p) (upd H p (.lst (List.replicate k.toNat xs).flatten))
theorem op_repL : OpR X (binaryOp .Mult) rRepL := by
  intro pins s σ H x y v u Q I rx ry h
  obtain ⟨l, k, xs, rfl, rfl, hH, h1, h2, hz, q⟩ := h
  cases rx
  obtain ⟨t, rfl⟩ := ry
  obtain ⟨z, its, n, r, hl, e⟩ := lst_at I hH
  have hlen : its.toArray.size * k.toNat ≤ sizeLine := by rw [List.size_toArray, ← hl]; exact hz
  have hcap : ¬ its.toArray.size * k.toNat > (2 ^ 63 - 1) / 8 := by
    have : (sizeLine : Nat) ≤ (2 ^ 63 - 1) / 8 := by decide
    omega
  have hfit : ¬ (!Builtin.List.listFitsIndex k) = true := by
    rw [fitsIndex_both h1 h2]
    exact Bool.false_ne_true
  have hlong : ¬ Builtin.List.listTooLong (its.toArray.size * k.toNat) = true := by
    rw [notLongL hlen]
    exact Bool.false_ne_true
  have hnew : List.foldl (fun x1 x2 => x1 ++ x2) #[] (List.replicate (if its.toArray.isEmpty = true then 0 else k.toNat) its.toArray) = (List.replicate k.toNat its).flatten.toArray := by
    have f0 : ∀ m : Nat, List.foldl (fun x1 x2 => x1 ++ x2) #[] (List.replicate m its.toArray) = (List.replicate m its).flatten.toArray := fun m => by
      have := foldl_rep its m []
      rw [List.nil_append] at this
      exact this
    rw [f0]
    cases its with
    | nil => simp
    | cons a r' => rw [if_neg (by simp)]
  refine wpAny_binaryOp_repeat_ref (T := "list") (U := "int") (by decide) ⟨_, e, rfl⟩ (fun s' => typeIs_int s' k t) noFill_list_mul F.fills_int_mul F.slot_int_rmul repeat_list F.slot_int_index.lookup
    (call_meets F.slot_int_rmul (typeIs_int s k t) F.entry_int_rmul (F.args_int_rmul_2 _ _) (int___rmul___int_list k t l its.toArray n)
      ⟨e, rfl, ⟨_, e, rfl⟩, call_meets F.slot_list_mul ⟨_, e, rfl⟩ F.entry_list_mul (F.args_list_mul_2 _ _) (AutoListH.list___mul___list_int_3 l its.toArray n k t hfit hcap hlong) ⟨e, ?_⟩⟩)
  rw [hnew]
  exact ⟨.ref _, _, I.lnew (t' := s.toks) (r.rep k.toNat) (by rw [PyProof.Rows.lm_len_rep_flat, Nat.mul_comm]; exact hz), rfl, q _ I.fresh⟩
def CDivG (i j : Int) : Prop := j ≠ 0 ∧ Builtin.divisionGoesByPylong i j = false
theorem op_fdivG : OpR X (binaryOp .FloorDiv) (rI CDivG fun i j => .int (i.fdiv j)) := opI fun _ _ _ _ _ _ _ hc q => floordiv_int hc.1 q (.inl hc.2)
/-- in, of a tuple -/
def rInT (K : PySem.W.Frag) : R2 := fun x y H Q => ∃ d ds, Dp K H x d ∧ Dp K H y (.tuple ds) ∧ SeqAt.shaped d = true ∧ SeqAt.shaped (.tuple ds) = true ∧ Q (.bl (ds.any fun z => PyData.eqv z d)) H
def rNotInT (K : PySem.W.Frag) : R2 := fun x y H Q => ∃ d ds, Dp K H x d ∧ Dp K H y (.tuple ds) ∧ SeqAt.shaped d = true ∧ SeqAt.shaped (.tuple ds) = true ∧ Q (.bl (!ds.any fun z => PyData.eqv z d)) H
theorem op_inT (hu : X.A.units + 65 < cLine) : OpR X (compareOp .In) (rInT X.K) := by
  intro pins s σ H x y v u Q I rx ry h
  obtain ⟨d, ds, hd, he, sd, se, q⟩ := h
  obtain ⟨as, r1⟩ := Dp.reads I d x v hd rx
  obtain ⟨bs, r2⟩ := Dp.reads I (.tuple ds) y u he ry
  exact SeqAt.in_tuple_reads r2 r1 (SeqAt.canLay_of_shaped se) (SeqAt.canLay_of_shaped sd) (room_in_shaped sd hu) ⟨.bl _, H, I, rfl, q⟩
theorem op_notInT (hu : X.A.units + 65 < cLine) : OpR X (compareOp .NotIn) (rNotInT X.K) := by
  intro pins s σ H x y v u Q I rx ry h
  obtain ⟨d, ds, hd, he, sd, se, q⟩ := h
  obtain ⟨as, r1⟩ := Dp.reads I d x v hd rx
  obtain ⟨bs, r2⟩ := Dp.reads I (.tuple ds) y u he ry
  exact SeqAt.notIn_tuple_reads r2 r1 (SeqAt.canLay_of_shaped se) (SeqAt.canLay_of_shaped sd) (room_in_shaped sd hu) ⟨.bl _, H, I, rfl, q⟩
theorem cr_range1 : CallR X (.type "range") (fun vs H Q => ∃ j, vs = [V.int j] ∧ ∀ p, H p = none → Q (.ref p) (upd H p (.rng 0 j))) := by
  intro pins s σ H vs us Q I r h
  obtain ⟨j, rfl, q⟩ := h
  obtain ⟨u1, rfl, rj⟩ := vals1 r
  obtain ⟨u, rfl⟩ := rj
  refine call_range_1 ?_
  exact ⟨.ref s.heap.objs.size, upd H s.heap.objs.size (.rng 0 j), I.laid (t' := s.toks + 2) (fun b o e => Heap.get?_push_of_some _ e) (Nat.le_refl _) ⟨_, _, _, Heap.get?_push_size _ rfl⟩, rfl, q _ (I.hok.fresh (Nat.le_refl _))⟩
end

/-! ### the functions -/
def guard (c : Bool) : Mm Unit := if c then mP () else mStuck
theorem guard_of {K : PySem.W.Frag} {mg : Mg} {E : XK} {g : Gh} {H : Hp} {c : Bool} {P : Unit → Gh → Hp → Prop} (S : Sim K g H) (o : Out K mg E g H (guard c g.cs) P) : c = true ∧ P () g H := by
  unfold guard at o
  cases c with
  | true => exact ⟨rfl, o.pure S⟩
  | false => exact o.elim
def vI (i : Int) : Mm SV := mP (.val (.int i))
def vB (b : Bool) : Mm SV := mP (.val (.bool b))
/-- what both operands are -/
def fAdd (o : Bool) : SV → SV → Mm SV := fun x y => match x, y with
  | .val (.int i), .val (.int j) => vI (i + j)
  | .val (.tuple xs), .val (.tuple ys) => mB (guard (decide (xs.length + ys.length ≤ 10000))) fun _ => mP (.val (.tuple (xs ++ ys)))
  | .val (.list xs), .val (.list ys) => mB (guard (decide (xs.length + ys.length ≤ 10000))) fun _ => mNew o (xs ++ ys)
  | _, _ => mStuck
def fSub : SV → SV → Mm SV := int2 fun i j => vI (i - j)
def fMul (o : Bool) : SV → SV → Mm SV := fun x y => match x, y with
  | .val (.int i), .val (.int j) => mB (guard (decide (Builtin.Int.intBits i + Builtin.Int.intBits j ≤ 134217728))) fun _ => vI (i * j)
  | .val (.list xs), .val (.int k) => mB (guard (decide (k ≤ 1000 ∧ xs.length ≤ 1000 ∧ -1000 ≤ k))) fun _ => mNew o (List.replicate k.toNat xs).flatten
  | .val (.tuple xs), .val (.int k) => mB (guard (decide (1 ≤ k ∧ k ≤ 1000 ∧ xs.length ≤ 1000 ∧ 1 ≤ xs.length))) fun _ => mP (.val (.tuple (List.replicate k.toNat xs).flatten))
  | _, _ => mStuck
def fDiv : SV → SV → Mm SV := int2 fun i j => mB (guard (decide (j ≠ 0) && !Builtin.divisionGoesByPylong i j)) fun _ => vI (i.fdiv j)
def fMod : SV → SV → Mm SV := int2 fun i j => mB (guard (decide (j ≠ 0))) fun _ => vI (i.fmod j)
def fLt : SV → SV → Mm SV := int2 fun i j => vB (decide (i < j))
def fLe : SV → SV → Mm SV := int2 fun i j => vB (decide (i ≤ j))
def fGt : SV → SV → Mm SV := int2 fun i j => vB (decide (j < i))
def fGe : SV → SV → Mm SV := int2 fun i j => vB (decide (j ≤ i))
/-- the data that a value is at this time -/
def mDat (d : SV) : Mm PyData := fun h => match d with
  | .val d => .ok d h
  | .ref n => match h[n]? with
    | some (some (.lst xs)) => .ok (.list xs) h
    | _ => .stuck
  | _ => .stuck
def dat2 (F : PyData → PyData → Mm SV) : SV → SV → Mm SV := fun x y => mB (mDat x) fun d => mB (mDat y) fun e => mB (guard (SeqAt.shaped d && SeqAt.shaped e)) fun _ => F d e
def fEq : SV → SV → Mm SV := dat2 fun d e => vB (PyData.eqv d e)
def fNe : SV → SV → Mm SV := dat2 fun d e => vB (!PyData.eqv d e)
def itemsOf : PyData → Option (List PyData)
  | .list xs => some xs
  | .tuple xs => some xs
  | _ => none
def fIn : SV → SV → Mm SV := dat2 fun d e => mB (opt (itemsOf e)) fun ds => vB (ds.any fun z => PyData.eqv z d)
def fNin : SV → SV → Mm SV := dat2 fun d e => mB (opt (itemsOf e)) fun ds => vB (!ds.any fun z => PyData.eqv z d)
def isNoneB : SV → Bool
  | .val .none => true
  | _ => false
def fIsN : SV → SV → Mm SV := fun x y => mB (guard (isNoneB y)) fun _ => vB (isNoneB x)
def fNotN : SV → SV → Mm SV := fun x y => mB (guard (isNoneB y)) fun _ => vB (!isNoneB x)
def fNeg : SV → Mm SV := fun x => mB (mInt x) fun i => vI (-i)

section
variable {X : Cx} {E : XK} {K : PySem.W.Frag} {mg : Mg}
theorem s2_int {r : R2} {C : Int → Int → Prop} {G : Int → Int → V} {F : Int → Int → Mm SV} (hr : ∀ i j H Q, C i j → Q (G i j) H → r (.int i) (.int j) H Q)
    (hF : ∀ g H i j (Q : VK), Sim K g H → Out K mg E g H (F i j g.cs) (fun d g' H' => ∀ v, RSV K cz g' H' v d → Q v H') → C i j ∧ Q (G i j) H) : S2 K cz mg E r (int2 F) := by
  intro g H x y dx dy Q S rx ry o
  obtain ⟨i, e1, o⟩ := int_of S rx o.bind
  obtain ⟨j, e2, o⟩ := int_of S ry o.bind
  subst e1 e2
  obtain ⟨c, q⟩ := hF g H i j Q S o
  exact hr i j H Q c q
theorem vI_out {g : Gh} {H : Hp} {i : Int} {Q : VK} (S : Sim K g H) (o : Out K mg E g H (vI i g.cs) fun d g' H' => ∀ v, RSV K cz g' H' v d → Q v H') : Q (.int i) H := o.pure S _ (RD.int i)
theorem vB_out {g : Gh} {H : Hp} {i : Bool} {Q : VK} (S : Sim K g H) (o : Out K mg E g H (vB i g.cs) fun d g' H' => ∀ v, RSV K cz g' H' v d → Q v H') : Q (.bl i) H := o.pure S _ (RD.bl i)
theorem s2_sub : S2 K cz mg E (rI0 fun i j => .int (i - j)) fSub := s2_int (C := fun _ _ => True) (fun i j H Q _ q => ⟨i, j, rfl, rfl, q⟩) fun g H i j Q S o => ⟨trivial, vI_out S o⟩
theorem s2_lt : S2 K cz mg E (rI0 fun i j => .bl (decide (i < j))) fLt := s2_int (C := fun _ _ => True) (fun i j H Q _ q => ⟨i, j, rfl, rfl, q⟩) fun g H i j Q S o => ⟨trivial, vB_out S o⟩
theorem s2_le : S2 K cz mg E (rI0 fun i j => .bl (decide (i ≤ j))) fLe := s2_int (C := fun _ _ => True) (fun i j H Q _ q => ⟨i, j, rfl, rfl, q⟩) fun g H i j Q S o => ⟨trivial, vB_out S o⟩
theorem s2_gt : S2 K cz mg E (rI0 fun i j => .bl (decide (j < i))) fGt := s2_int (C := fun _ _ => True) (fun i j H Q _ q => ⟨i, j, rfl, rfl, q⟩) fun g H i j Q S o => ⟨trivial, vB_out S o⟩
theorem s2_ge : S2 K cz mg E (rI0 fun i j => .bl (decide (j ≤ i))) fGe := s2_int (C := fun _ _ => True) (fun i j H Q _ q => ⟨i, j, rfl, rfl, q⟩) fun g H i j Q S o => ⟨trivial, vB_out S o⟩
theorem s2_div : S2 K cz mg E (rI CDivG fun i j => .int (i.fdiv j)) fDiv := s2_int (C := CDivG) (fun i j H Q c q => ⟨i, j, rfl, rfl, c, q⟩) fun g H i j Q S o => by
  obtain ⟨c, o⟩ := guard_of S o.bind
  simp only [Bool.and_eq_true, decide_eq_true_eq, Bool.not_eq_true'] at c
  exact ⟨c, vI_out S o⟩
theorem s2_mod : S2 K cz mg E (rI (fun _ j => j ≠ 0) fun i j => .int (i.fmod j)) fMod := s2_int (C := fun _ j => j ≠ 0) (fun i j H Q c q => ⟨i, j, rfl, rfl, c, q⟩) fun g H i j Q S o => by
  obtain ⟨c, o⟩ := guard_of S o.bind
  exact ⟨of_decide_eq_true c, vI_out S o⟩
theorem line10 {n : Nat} (h : n ≤ 10000) : n ≤ sizeLine := by rw [sizeLine_eq]; omega
theorem s2_add {o : Bool} : S2 K cz mg E (fun x y H Q => (rI0 fun i j => .int (i + j)) x y H Q ∨ (rCatA K x y H Q ∨ rCatL x y H Q)) (fAdd o) := by
  intro g H x y dx dy Q S rx ry out
  unfold fAdd at out
  split at out
  · cases rx
    cases ry
    exact .inl ⟨_, _, rfl, rfl, vI_out S out⟩
  · rename_i xs ys
    obtain ⟨c, out⟩ := guard_of S out.bind
    have c := of_decide_eq_true c
    cases rx with
    | tup h1 r1 =>
      cases ry with
      | tup h2 r2 =>
        have l1 := r1.length
        have l2 := r2.length
        refine .inr (.inl ⟨_, _, _, _, rfl, rfl, h1, h2, line10 (by rw [l1, l2]; exact c), fun e => ?_, fun _ e => ?_, fun _ _ p hp => ?_⟩)
        · subst e
          cases r1
          exact out.pure S _ (RD.tup h2 r2)
        · subst e
          cases r2
          rw [List.append_nil] at out
          exact out.pure S _ (RD.tup h1 r1)
        · exact new_tup S (r1.append r2) hp out
  · rename_i xs ys
    obtain ⟨c, out⟩ := guard_of S out.bind
    have c := of_decide_eq_true c
    cases rx with
    | lst h1 r1 =>
      cases ry with
      | lst h2 r2 =>
        have l1 := r1.length
        have l2 := r2.length
        exact .inr (.inr ⟨_, _, _, _, rfl, rfl, h1.1, h2.1, line10 (by rw [l1, l2]; exact c), fun p hp => new_list S (r1.append r2) hp out⟩)
  · exact out.stuck.elim
theorem RDs.rep {g : Gh} {H : Hp} {vs : List V} {ds : List PyData} (r : RDs K g H vs ds) : ∀ k : Nat, RDs K g H (List.replicate k vs).flatten (List.replicate k ds).flatten
  | 0 => .nil
  | k + 1 => by
    rw [List.replicate_succ, List.replicate_succ, List.flatten_cons, List.flatten_cons]
    exact r.append (RDs.rep r k)
theorem s2_mul {o : Bool} : S2 K cz mg E (fun x y H Q => (rI CMulX fun i j => .int (i * j)) x y H Q ∨ (rRepL x y H Q ∨ (rRepT K x y H Q ∨ (∃ a xs, x = .ref a ∧ y = .int 1 ∧ SqT K H a xs ∧ Q (.ref a) H)))) (fMul o) := by
  intro g H x y dx dy Q S rx ry out
  unfold fMul at out
  split at out
  · rename_i i j
    obtain ⟨c, out⟩ := guard_of S out.bind
    have c := of_decide_eq_true c
    cases rx
    cases ry
    exact .inl ⟨_, _, rfl, rfl, by show ((Builtin.Int.intBits i : Int) + (Builtin.Int.intBits j : Int) ≤ 134217728); omega, vI_out S out⟩
  · rename_i xs k
    obtain ⟨c, out⟩ := guard_of S out.bind
    have c := of_decide_eq_true c
    cases ry
    cases rx with
    | lst h1 r1 =>
      have l1 := r1.length
      refine .inr (.inl ⟨_, _, _, rfl, rfl, h1.1, by omega, by omega, ?_, fun p hp => new_list S (r1.rep _) hp out⟩)
      rw [l1, sizeLine_eq]
      have := Nat.mul_le_mul c.2.1 (show k.toNat ≤ 1000 by omega)
      omega
  · rename_i xs k
    obtain ⟨c, out⟩ := guard_of S out.bind
    have c := of_decide_eq_true c
    cases ry
    cases rx with
    | tup h1 r1 =>
      have l1 := r1.length
      by_cases h : k = 1
      · subst h
        have e : (List.replicate (1 : Int).toNat xs).flatten = xs := by simp
        rw [e] at out
        exact .inr (.inr (.inr ⟨_, _, rfl, rfl, h1, out.pure S _ (RD.tup h1 r1)⟩))
      · refine .inr (.inr (.inl ⟨_, _, _, rfl, rfl, h1, fun e => ?_, by omega, c.2.1, by omega, fun p hp => new_tup S (r1.rep _) hp out⟩))
        subst e
        simp at l1
        omega
  · exact out.stuck.elim
theorem dat_of {g : Gh} {H : Hp} {d : SV} {v : V} {P : PyData → Gh → Hp → Prop} (S : Sim K g H) (r : RSV K cz g H v d) (o : Out K mg E g H (mDat d g.cs) P) : ∃ e, Dp K H v e ∧ P e g H := by
  unfold mDat at o
  cases d with
  | rng l h => exact o.elim
  | exc _ => exact o.elim
  | val d => exact ⟨d, r.dp, o g H rfl S (Le.refl _ _)⟩
  | ref n =>
    obtain ⟨a, e2, e3⟩ := r
    cases q : g.cs[n]? with
    | none => simp only [q] at o; exact o.elim
    | some oc =>
      cases oc with
      | none => simp only [q] at o; exact o.elim
      | some cc =>
        cases cc with
        | lst ds =>
          simp only [q] at o
          obtain ⟨vs, e, r⟩ := S.cell n _ a q e3
          exact ⟨_, e2 ▸ Dp.lst (SqL.of e) r.dp, o g H rfl S (Le.refl _ _)⟩
theorem dat2_of {g : Gh} {H : Hp} {x y : V} {dx dy : SV} {F : PyData → PyData → Mm SV} {P : SV → Gh → Hp → Prop} (S : Sim K g H) (rx : RSV K cz g H x dx) (ry : RSV K cz g H y dy) (o : Out K mg E g H (dat2 F dx dy g.cs) P) :
    ∃ d e, Dp K H x d ∧ Dp K H y e ∧ SeqAt.shaped d = true ∧ SeqAt.shaped e = true ∧ Out K mg E g H (F d e g.cs) P := by
  obtain ⟨d, hd, o⟩ := dat_of S rx o.bind
  obtain ⟨e, he, o⟩ := dat_of S ry o.bind
  obtain ⟨c, o⟩ := guard_of S o.bind
  rw [Bool.and_eq_true] at c
  exact ⟨d, e, hd, he, c.1, c.2, o⟩
theorem s2_eq : S2 K cz mg E (rEqD K) fEq := by
  intro g H x y dx dy Q S rx ry o
  obtain ⟨d, e, hd, he, h1, h2, o⟩ := dat2_of S rx ry o
  exact ⟨d, e, hd, he, h1, h2, vB_out S o⟩
theorem s2_ne : S2 K cz mg E (rNeD K) fNe := by
  intro g H x y dx dy Q S rx ry o
  obtain ⟨d, e, hd, he, h1, h2, o⟩ := dat2_of S rx ry o
  exact ⟨d, e, hd, he, h1, h2, vB_out S o⟩
theorem s2_in : S2 K cz mg E (fun x y H Q => rInD K x y H Q ∨ rInT K x y H Q) fIn := by
  intro g H x y dx dy Q S rx ry o
  obtain ⟨d, e, hd, he, h1, h2, o⟩ := dat2_of S rx ry o
  obtain ⟨ds, q, o⟩ := opt_of S o.bind
  unfold itemsOf at q
  split at q
  · cases q
    exact .inl ⟨d, _, hd, he, h1, h2, vB_out S o⟩
  · cases q
    exact .inr ⟨d, _, hd, he, h1, h2, vB_out S o⟩
  · cases q
theorem s2_nin : S2 K cz mg E (fun x y H Q => rNotInD K x y H Q ∨ rNotInT K x y H Q) fNin := by
  intro g H x y dx dy Q S rx ry o
  obtain ⟨d, e, hd, he, h1, h2, o⟩ := dat2_of S rx ry o
  obtain ⟨ds, q, o⟩ := opt_of S o.bind
  unfold itemsOf at q
  split at q
  · cases q
    exact .inl ⟨d, _, hd, he, h1, h2, vB_out S o⟩
  · cases q
    exact .inr ⟨d, _, hd, he, h1, h2, vB_out S o⟩
  · cases q
theorem none_of {g : Gh} {H : Hp} {v : V} {d : SV} (r : RSV K cz g H v d) : decide (v = .non) = isNoneB d := by
  cases d with
  | rng l h => obtain ⟨a, e, _⟩ := r; subst e; rfl
  | exc x => obtain ⟨a, oe, mg, C, _, e, _⟩ := r; subst e; rfl
  | ref n => obtain ⟨a, e, _⟩ := r; subst e; rfl
  | val d => cases r <;> rfl
theorem s2_isN : S2 K cz mg E (fun x y H Q => y = .non ∧ Q (.bl (decide (x = .non))) H) fIsN := by
  intro g H x y dx dy Q S rx ry o
  obtain ⟨c, o⟩ := guard_of S o.bind
  refine ⟨of_decide_eq_true ((none_of ry).trans c), ?_⟩
  rw [none_of rx]
  exact vB_out S o
theorem s2_notN : S2 K cz mg E (fun x y H Q => y = .non ∧ Q (.bl (!decide (x = .non))) H) fNotN := by
  intro g H x y dx dy Q S rx ry o
  obtain ⟨c, o⟩ := guard_of S o.bind
  refine ⟨of_decide_eq_true ((none_of ry).trans c), ?_⟩
  rw [none_of rx]
  exact vB_out S o
end

/-! ### t * 1 -/
section
variable {X : Cx}
theorem tuple_mul1 (l : Addr) (items : Array Value) (n : Nat) (dd : Option Addr) (sl : Array (Option Value)) (u : Tok) :
    Meets (Builtin.«tuple.__mul__» ⟨[.ref l, .int 1 u], []⟩) (fun A R s => s.heap.get? l = some ⟨.type "tuple", dd, .seq items n, sl⟩ ∧ R (.ok (.ret (.ref l))) s) :=
  .of_wp fun prog w A R s h => by
    obtain ⟨hp, g, d, tk, os⟩ := s
    obtain ⟨hl, h⟩ := h
    unfold Builtin.«tuple.__mul__»
    wp_walk using wpAny_loadPart' hl
    all_goals first | exact ⟨_, rfl, h⟩ | skip
end
end MK
set_option Elab.async false
set_option linter.all false
set_option maxRecDepth 100000
set_option maxHeartbeats 1000000
/-! MKd: t * 1, slices, built-in functions, stars. -/
namespace MK
open PySem PySem.Spec PyProof.Rows L2
variable {cz : Cxx} [Tb]
section
variable {X : Cx}
theorem op_rep1 : OpR X (binaryOp .Mult) (fun x y H Q => ∃ a xs, x = .ref a ∧ y = .int 1 ∧ SqT X.K H a xs ∧ Q (.ref a) H) := by
  intro pins s σ H x y v u Q I rx ry h
  obtain ⟨l, xs, rfl, rfl, hT, q⟩ := h
  cases rx
  obtain ⟨t, rfl⟩ := ry
  obtain ⟨its, r, ⟨⟨cls, dd, data, sl⟩, ho, hc, n, hd⟩, hs⟩ := I.tuple hT
  simp only at hc hd
  subst hc hd
  exact wpAny_binaryOp_repeat_ref (T := "tuple") (U := "int") (by decide) ⟨_, ho, rfl⟩ (fun s' => typeIs_int s' 1 t) noFill_tuple_mul F.fills_int_mul F.slot_int_rmul repeat_tuple F.slot_int_index.lookup
    (call_meets F.slot_int_rmul (typeIs_int s 1 t) F.entry_int_rmul (F.args_int_rmul_2 _ _) (int_rmul_tuple 1 t l its.toArray n dd sl)
      ⟨ho, rfl, ⟨_, ho, rfl⟩, call_meets F.slot_tuple_mul ⟨_, ho, rfl⟩ F.entry_tuple_mul (F.args_tuple_mul_2 _ _) (tuple_mul1 l its.toArray n dd sl t) ⟨ho, ⟨.ref l, H, I, rfl, q⟩⟩⟩)
end
section
variable {X : Cx} {E : XK} {a b : Expr} {ma mb : Em} {pos : Pos}
theorem me_add {o : Bool} (ha : ME X E a ma) (hb : ME X E b mb) : ME X E (.BinOp a .Add b pos) (eOp2 (fAdd o) ma mb) := me_op (op_add.or (op_catA.or op_catL)) s2_add ha hb
theorem me_sub (ha : ME X E a ma) (hb : ME X E b mb) : ME X E (.BinOp a .Sub b pos) (eOp2 fSub ma mb) := me_op op_sub s2_sub ha hb
theorem me_mul {o : Bool} (ha : ME X E a ma) (hb : ME X E b mb) : ME X E (.BinOp a .Mult b pos) (eOp2 (fMul o) ma mb) := me_op (op_mulX.or (op_repL.or (op_repT.or op_rep1))) s2_mul ha hb
theorem me_div (ha : ME X E a ma) (hb : ME X E b mb) : ME X E (.BinOp a .FloorDiv b pos) (eOp2 fDiv ma mb) := me_op op_fdivG s2_div ha hb
theorem me_mod (ha : ME X E a ma) (hb : ME X E b mb) : ME X E (.BinOp a .Mod b pos) (eOp2 fMod ma mb) := me_op op_modN s2_mod ha hb
/-- the comparisons -/
structure CmpOk (X : Cx) (E : XK) (op : CmpOp) (F : SV → SV → Mm SV) : Prop where
  ex : ∃ r, OpR X (compareOp op) r ∧ S2 X.K (cx X) X.mg E r F
theorem c_lt : CmpOk X E .Lt fLt := ⟨_, op_lt, s2_lt⟩
theorem c_le : CmpOk X E .LtE fLe := ⟨_, op_le, s2_le⟩
theorem c_gt : CmpOk X E .Gt fGt := ⟨_, op_gt, s2_gt⟩
theorem c_ge : CmpOk X E .GtE fGe := ⟨_, op_ge, s2_ge⟩
theorem c_eq (hu : X.A.units + 65 < cLine) : CmpOk X E .Eq fEq := ⟨_, op_eqD (Nat.lt_of_succ_lt hu), s2_eq⟩
theorem c_ne (hu : X.A.units + 65 < cLine) : CmpOk X E .NotEq fNe := ⟨_, op_neD (Nat.lt_of_succ_lt hu), s2_ne⟩
theorem c_in (hu : X.A.units + 65 < cLine) : CmpOk X E .In fIn := ⟨_, (op_inD hu).or (op_inT hu), s2_in⟩
theorem c_nin (hu : X.A.units + 65 < cLine) : CmpOk X E .NotIn fNin := ⟨_, (op_notInD hu).or (op_notInT hu), s2_nin⟩
theorem c_is : CmpOk X E .Is fIsN := ⟨_, op_isN, s2_isN⟩
theorem c_isnot : CmpOk X E .IsNot fNotN := ⟨_, op_notN, s2_notN⟩
theorem me_cmp' {op : CmpOp} {F : SV → SV → Mm SV} (c : CmpOk X E op F) (ha : ME X E a ma) (hb : ME X E b mb) (hm : behindInMarks op b = false) : ME X E (.Compare a [op] [b] pos) (eOp2 F ma mb) := by
  obtain ⟨r, h1, h2⟩ := c.ex
  exact me_cmp h1 h2 ha hb hm
theorem mt_cmp' {op : CmpOp} {F : SV → SV → Mm SV} (c : CmpOk X E op F) (ha : ME X E a ma) (hb : ME X E b mb) (hm : behindInMarks op b = false) : MT X E (.Compare a [op] [b] pos) (tE (eOp2 F ma mb)) := by
  obtain ⟨r, h1, h2⟩ := c.ex
  exact mt_cmp h1 h2 ha hb hm
theorem me_chain' {op op' : CmpOp} {F G : SV → SV → Mm SV} {d : Expr} {mc : Em} (c : CmpOk X E op F) (c' : CmpOk X E op' G) (ha : ME X E a ma) (hb : ME X E b mb) (hc : ME X E d mc) (hm : lastMarks [op, op'] [b, d] = false) :
    ME X E (.Compare a [op, op'] [b, d] pos) (eChain F G ma mb mc) := by
  obtain ⟨r, h1, h2⟩ := c.ex
  obtain ⟨r', h1', h2'⟩ := c'.ex
  exact me_chain h1 h1' h2 h2' ha hb hc hm
theorem mt_chain' {op op' : CmpOp} {F G : SV → SV → Mm SV} {d : Expr} {mc : Em} (c : CmpOk X E op F) (c' : CmpOk X E op' G) (ha : ME X E a ma) (hb : ME X E b mb) (hc : ME X E d mc) (hm : lastMarks [op, op'] [b, d] = false) :
    MT X E (.Compare a [op, op'] [b, d] pos) (tE (eChain F G ma mb mc)) := by
  obtain ⟨r, h1, h2⟩ := c.ex
  obtain ⟨r', h1', h2'⟩ := c'.ex
  exact mt_chain h1 h1' h2 h2' ha hb hc hm
theorem me_neg (ha : ME X E a ma) : ME X E (.UnaryOp .USub a pos) (eOp1 fNeg ma) := by
  refine PEwk (pe_un un_neg ha) fun σ H Q ⟨g, ρ, S, V, o⟩ => ?_
  refine ⟨g, ρ, S, V, o.bind.mono fun dx g1 H1 S1 L1 o1 v rv => ?_⟩
  obtain ⟨i, e, o1⟩ := int_of S1 rv o1.bind
  exact ⟨i, e, vI_out S1 o1⟩

/-! ### slices -/
abbrev Om := Ro → Mm (Option Int)
def tO (K : PySem.W.Frag) (cz : Cxx) (mg : Mg) (E : XK) (m : Om) : TO := fun σ H Q => ∃ g ρ, Sim K g H ∧ EnvR K cz g H ρ σ ∧ Out K mg E g H (m ρ g.cs) fun i _ H' => Q i H'
abbrev MO (X : Cx) (E : XK) (e : Option Expr) (m : Om) : Prop := PO X e (tO X.K (cx X) X.mg E m)
def oNone : Om := fun _ => mP none
def oSome (a : Em) : Om := fun ρ => mB (a ρ) fun x => mB (mInt x) fun i => mP (some i)
theorem mo_none : MO X E none oNone := ⟨fun pins s σ H Q I ⟨g, ρ, S, V, o⟩ => po_none.run pins s σ H Q I (o.pure S)⟩
theorem mo_some (ha : ME X E a ma) : MO X E (some a) (oSome ma) := ⟨fun pins s σ H Q I ⟨g, ρ, S, V, o⟩ => (po_some ha).run pins s σ H Q I (by
  refine ⟨g, ρ, S, V, o.bind.mono fun dx g1 H1 S1 L1 o1 v rv => ?_⟩
  obtain ⟨i, e, o1⟩ := int_of S1 rv o1.bind
  exact ⟨i, e, o1.pure S1⟩)⟩

def cutD (xs : List PyData) (lo hi : Option Int) : List PyData := (xs.drop (HT.sIx xs.length 0 lo)).take (HT.sIx xs.length xs.length hi - HT.sIx xs.length 0 lo)
theorem RDs.cut {K : PySem.W.Frag} {g : Gh} {H : Hp} {vs : List V} {ds : List PyData} (r : RDs K g H vs ds) (lo hi : Option Int) : RDs K g H (cutV vs lo hi) (cutD ds lo hi) := by
  unfold cutV cutD
  rw [r.length]
  exact (r.drop _).take _
theorem cutD_whole {xs : List PyData} {lo hi : Option Int} (h : HT.sIx xs.length 0 lo = 0 ∧ HT.sIx xs.length xs.length hi = xs.length) : cutD xs lo hi = xs := by
  unfold cutD
  rw [h.1, h.2]
  simp
/-- a list's items -/
def mLs (d : SV) : Mm (List PyData) := fun h => match d with
  | .val (.list xs) => .ok xs h
  | .ref n => match h[n]? with
    | some (some (.lst xs)) => .ok xs h
    | _ => .stuck
  | _ => .stuck
theorem ls_of {K : PySem.W.Frag} {mg : Mg} {g : Gh} {H : Hp} {d : SV} {v : V} {P : List PyData → Gh → Hp → Prop} (S : Sim K g H) (r : RSV K cz g H v d) (o : Out K mg E g H (mLs d g.cs) P) :
    ∃ a vs xs, v = .ref a ∧ RDs K g H vs xs ∧ Rd H a (.lst vs) ∧ P xs g H := by
  unfold mLs at o
  cases d with
  | rng l h => exact o.elim
  | exc _ => exact o.elim
  | ref n =>
    obtain ⟨a, e2, e3⟩ := r
    cases q : g.cs[n]? with
    | none => simp only [q] at o; exact o.elim
    | some oc =>
      cases oc with
      | none => simp only [q] at o; exact o.elim
      | some cc =>
        cases cc with
        | lst ds =>
          simp only [q] at o
          obtain ⟨vs, e, r⟩ := S.cell n _ a q e3
          exact ⟨a, vs, ds, e2, r, .inl e, o g H rfl S (Le.refl _ _)⟩
  | val d =>
    cases d with
    | list xs =>
      cases r with
      | lst h1 h2 => exact ⟨_, _, _, rfl, h2, h1.1, o g H rfl S (Le.refl _ _)⟩
    | _ => exact o.elim
def fSl (o : Bool) (x : SV) (lo hi : Option Int) : Mm SV := match x with
  | .val (.tuple xs) => mP (.val (.tuple (cutD xs lo hi)))
  | x => mB (mLs x) fun xs => mNew o (cutD xs lo hi)
def eSl (o : Bool) (a : Em) (l u : Om) : Em := fun ρ => mB (a ρ) fun x => mB (l ρ) fun lo => mB (u ρ) fun hi => fSl o x lo hi
theorem me_slice {o : Bool} {lo hi : Option Expr} {ml mu : Om} {p2 : Pos} (ha : ME X E a ma) (hl : MO X E lo ml) (hu : MO X E hi mu) : ME X E (.Subscript a (.Slice lo hi none p2) pos) (eSl o ma ml mu) := by
  refine PEwk (pe_slice (sl_list.or sl_tupA) ha hl hu) fun σ H Q ⟨g, ρ, S, V, out⟩ => ?_
  refine ⟨g, ρ, S, V, out.bind.mono fun dx g1 H1 S1 L1 o1 v rv => ?_⟩
  refine ⟨g1, ρ, S1, V.mono S L1, o1.bind.mono fun lo g2 H2 S2 L2 o2 => ?_⟩
  refine ⟨g2, ρ, S2, V.mono S (L1.trans L2), o2.bind.mono fun hi g3 H3 S3 L3 o3 => ?_⟩
  have rv3 := rv.mono S1 (L2.trans L3)
  unfold fSl at o3
  split at o3
  · rename_i xs
    cases rv3 with
    | tup h1 r1 =>
      refine .inr ⟨_, _, rfl, h1, fun w => ?_, fun _ p hp => new_tup S3 (r1.cut lo hi) hp o3⟩
      rw [r1.length] at w
      rw [cutD_whole w] at o3
      exact o3.pure S3 _ (RD.tup h1 r1)
  · obtain ⟨p, vs, xs, e, r, h, o3⟩ := ls_of S3 rv3 o3.bind
    exact .inl ⟨p, vs, e, .inl h, fun p hp => new_list S3 (r.cut lo hi) hp o3⟩

/-! ### stars -/
def aStar (a : Em) (r : Am) : Am := fun ρ => mB (a ρ) fun x => mB (mSeq x) fun xs => mB (r ρ) fun ys => mP (xs.map SV.val ++ ys)
theorem RSVs.ofD {K : PySem.W.Frag} {g : Gh} {H : Hp} : ∀ {vs : List V} {ds : List PyData}, RDs K g H vs ds → RSVs K cz g H vs (ds.map SV.val)
  | _, _, .nil => .nil
  | _, _, .cons r t => .cons r (RSVs.ofD t)
theorem RSVs.append {K : PySem.W.Frag} {g : Gh} {H : Hp} : ∀ {vs ws : List V} {ds es : List SV}, RSVs K cz g H vs ds → RSVs K cz g H ws es → RSVs K cz g H (vs ++ ws) (ds ++ es)
  | _, _, _, _, .nil, s => s
  | _, _, _, _, .cons r t, s => .cons r (RSVs.append t s)
theorem ma_star {es : List Expr} {ms : Am} {p : Pos} (ha : ME X E a ma) (hr : MA X E es ms) (hs : starEach (.Starred a p :: es) X.env = (true, eval a X.env) :: starEach es X.env) : MA X E (.Starred a p :: es) (aStar ma ms) := by
  refine PAwk (StX.pa_star ha hr hs) fun σ H Q ⟨g, ρ, S, V, o⟩ => ?_
  refine ⟨g, ρ, S, V, o.bind.mono fun dx g1 H1 S1 L1 o1 v rv => ?_⟩
  obtain ⟨a, vs, xs, e, r, h, o1⟩ := seq_of S1 rv o1.bind
  refine ⟨a, vs, e, ?_, g1, ρ, S1, V.mono S L1, o1.bind.mono fun ds g2 H2 S2 L2 o2 us rs => ?_⟩
  · rcases h with h | h
    · exact .inr (.inl h)
    · exact .inl h
  · exact o2.pure S2 _ ((RSVs.ofD (r.mono S1 L2)).append rs)

/-! ### built-in functions -/
def SL (K : PySem.W.Frag) (cz : Cxx) (mg : Mg) (E : XK) (r : List V → Hp → VK → Prop) (F : List SV → Mm SV) : Prop :=
  ∀ g H xs ds Q, Sim K g H → RSVs K cz g H xs ds → Out K mg E g H (F ds g.cs) (fun d g' H' => ∀ v, RSV K cz g' H' v d → Q v H') → r xs H Q
/-- a built-in function or type by its value -/
structure BltOk (X : Cx) (E : XK) (f : Value) (F : List SV → Mm SV) : Prop where
  ex : ∃ r, CallR X f r ∧ SL X.K (cx X) X.mg E r F
theorem me_cb {F : List SV → Mm SV} {id : String} {x : Str} {p : Pos} {es : List Expr} {ms : Am} (B : BltOk X E (.builtin id) F) (hg : Gl X x) (hm : X.mg x = none) (hv : bootBuiltins x = some (.builtin id)) (ha : MA X E (a :: es) ms) (hn : x ≠ "__name__") (hdb : (x == ("__debug__" : Str)) = false)
    (he : starEach (a :: es) X.env = (false, eval a X.env) :: starEach es X.env) (hpl : (backTo pos (starEach es X.env)).any (·.1) = false) : ME X E (.Call (.Name x p) (a :: es) [] pos) (eArgs F ms) := by
  obtain ⟨r, h1, h2⟩ := B.ex
  refine PEwk (pe_callB h1 hg hm hv ha hn hdb he hpl) fun σ H Q ⟨g, ρ, S, V, o⟩ => ?_
  exact ⟨g, ρ, S, V, o.bind.mono fun ds g1 H1 S1 L1 o1 vs rs => h2 g1 H1 vs ds Q S1 rs o1⟩
theorem me_ct {F : List SV → Mm SV} {T : String} {x : Str} {p : Pos} {es : List Expr} {ms : Am} (B : BltOk X E (.type T) F) (hg : Gl X x) (hm : X.mg x = none) (hv : bootBuiltins x = some (.type T)) (ha : MA X E (a :: es) ms) (hn : x ≠ "__name__") (hdb : (x == ("__debug__" : Str)) = false)
    (he : starEach (a :: es) X.env = (false, eval a X.env) :: starEach es X.env) (hpl : (backTo pos (starEach es X.env)).any (·.1) = false) : ME X E (.Call (.Name x p) (a :: es) [] pos) (eArgs F ms) := by
  obtain ⟨r, h1, h2⟩ := B.ex
  refine PEwk (pe_callTy h1 hg hm hv ha hn hdb he hpl) fun σ H Q ⟨g, ρ, S, V, o⟩ => ?_
  exact ⟨g, ρ, S, V, o.bind.mono fun ds g1 H1 S1 L1 o1 vs rs => h2 g1 H1 vs ds Q S1 rs o1⟩
theorem me_cg {F : List SV → Mm SV} {id : String} {x : Str} {p : Pos} {es : List Expr} {ms : Am} (B : BltOk X E (.builtin id) F) (hg : Gl X x) (hm : X.mg x = some (.builtin id)) (ha : MA X E (a :: es) ms) (hdb : (x == ("__debug__" : Str)) = false)
    (he : starEach (a :: es) X.env = (false, eval a X.env) :: starEach es X.env) (hpl : (backTo pos (starEach es X.env)).any (·.1) = false) : ME X E (.Call (.Name x p) (a :: es) [] pos) (eArgs F ms) := by
  obtain ⟨r, h1, h2⟩ := B.ex
  refine PEwk (pe_callBfun h1 hg hm ha hdb he hpl) fun σ H Q ⟨g, ρ, S, V, o⟩ => ?_
  exact ⟨g, ρ, S, V, o.bind.mono fun ds g1 H1 S1 L1 o1 vs rs => h2 g1 H1 vs ds Q S1 rs o1⟩

def b1 (F : SV → Mm SV) : List SV → Mm SV
  | [x] => F x
  | _ => mStuck
def b2 (F : SV → SV → Mm SV) : List SV → Mm SV
  | [x, y] => F x y
  | _ => mStuck
def intsD : List PyData → Option (List Int)
  | [] => some []
  | .int i :: r => (intsD r).map (i :: ·)
  | _ :: _ => none
def boolsD : List PyData → Option (List Bool)
  | [] => some []
  | .bool i :: r => (boolsD r).map (i :: ·)
  | _ :: _ => none
theorem ints_of {K : PySem.W.Frag} {g : Gh} {H : Hp} : ∀ {vs : List V} {ds : List PyData} {is : List Int}, RDs K g H vs ds → intsD ds = some is → vs = is.map V.int
  | _, _, _, .nil, e => by cases e; rfl
  | _, .int i :: ds, is, .cons r t, e => by
    unfold intsD at e
    cases q : intsD ds with
    | none => rw [q] at e; cases e
    | some js =>
      rw [q] at e
      cases e
      cases r
      rw [ints_of t q]; rfl
  | _, .none :: _, _, .cons _ _, e => nomatch e
  | _, .bool _ :: _, _, .cons _ _, e => nomatch e
  | _, .str _ :: _, _, .cons _ _, e => nomatch e
  | _, .list _ :: _, _, .cons _ _, e => nomatch e
  | _, .tuple _ :: _, _, .cons _ _, e => nomatch e
  | _, .dict _ :: _, _, .cons _ _, e => nomatch e
theorem bools_of {K : PySem.W.Frag} {g : Gh} {H : Hp} : ∀ {vs : List V} {ds : List PyData} {is : List Bool}, RDs K g H vs ds → boolsD ds = some is → vs = is.map V.bl
  | _, _, _, .nil, e => by cases e; rfl
  | _, .bool i :: ds, is, .cons r t, e => by
    unfold boolsD at e
    cases q : boolsD ds with
    | none => rw [q] at e; cases e
    | some js =>
      rw [q] at e
      cases e
      cases r
      rw [bools_of t q]; rfl
  | _, .none :: _, _, .cons _ _, e => nomatch e
  | _, .int _ :: _, _, .cons _ _, e => nomatch e
  | _, .str _ :: _, _, .cons _ _, e => nomatch e
  | _, .list _ :: _, _, .cons _ _, e => nomatch e
  | _, .tuple _ :: _, _, .cons _ _, e => nomatch e
  | _, .dict _ :: _, _, .cons _ _, e => nomatch e
def bLen : SV → Mm SV := fun x => mB (mSeq x) fun xs => vI (xs.length : Nat)
def bAbs : SV → Mm SV := fun x => mB (mInt x) fun i => vI (if i < 0 then -i else i)
def bMax2 : SV → SV → Mm SV := int2 fun i j => vI (if j > i then j else i)
def bMin2 : SV → SV → Mm SV := int2 fun i j => vI (if j < i then j else i)
def maxI : List Int → Int
  | [] => 0
  | [a] => a
  | a :: b :: r => let m := maxI (b :: r); if a < m then m else a
def minI : List Int → Int
  | [] => 0
  | [a] => a
  | a :: b :: r => let m := minI (b :: r); if m < a then m else a
theorem maxI_spec : ∀ l : List Int, l ≠ [] → maxI l ∈ l ∧ ∀ y ∈ l, y ≤ maxI l
  | [], h => absurd rfl h
  | [a], _ => by unfold maxI; simp
  | a :: b :: r, _ => by
    obtain ⟨h1, h2⟩ := maxI_spec (b :: r) (by simp)
    unfold maxI
    by_cases c : a < maxI (b :: r)
    · simp only [c, if_true]
      exact ⟨List.mem_cons_of_mem _ h1, fun y hy => (List.mem_cons.mp hy).elim (fun e => by omega) (h2 y)⟩
    · simp only [c, if_false]
      exact ⟨List.mem_cons_self, fun y hy => (List.mem_cons.mp hy).elim (fun e => by omega) fun q => by have := h2 y q; omega⟩
theorem minI_spec : ∀ l : List Int, l ≠ [] → minI l ∈ l ∧ ∀ y ∈ l, minI l ≤ y
  | [], h => absurd rfl h
  | [a], _ => by unfold minI; simp
  | a :: b :: r, _ => by
    obtain ⟨h1, h2⟩ := minI_spec (b :: r) (by simp)
    unfold minI
    by_cases c : minI (b :: r) < a
    · simp only [c, if_true]
      exact ⟨List.mem_cons_of_mem _ h1, fun y hy => (List.mem_cons.mp hy).elim (fun e => by omega) (h2 y)⟩
    · simp only [c, if_false]
      exact ⟨List.mem_cons_self, fun y hy => (List.mem_cons.mp hy).elim (fun e => by omega) fun q => by have := h2 y q; omega⟩
def bMax : SV → Mm SV := fun x => mB (mLs x) fun xs => mB (opt (intsD xs)) fun is => mB (guard (!is.isEmpty)) fun _ => vI (maxI is)
def bMin : SV → Mm SV := fun x => mB (mLs x) fun xs => mB (opt (intsD xs)) fun is => mB (guard (!is.isEmpty)) fun _ => vI (minI is)
def bSum : SV → Mm SV := fun x => mB (mLs x) fun xs => mB (opt (intsD xs)) fun is => vI is.sum
def bAny : SV → Mm SV := fun x => mB (mLs x) fun xs => mB (opt (boolsD xs)) fun is => vB (is.any id)
def bAll : SV → Mm SV := fun x => mB (mLs x) fun xs => mB (opt (boolsD xs)) fun is => vB (is.all id)
def bList (o : Bool) : SV → Mm SV := fun x => mB (mSeq x) fun xs => mNew o xs
def bTuple : SV → Mm SV := fun x => mB (mSeq x) fun xs => mP (.val (.tuple xs))
def bInt : SV → Mm SV := fun x => mB (mInt x) fun i => vI i
def bDivmod : SV → SV → Mm SV := int2 fun i j => mB (guard (decide (0 < j) && !Builtin.divisionGoesByPylong i j)) fun _ => mP (.val (.tuple [.int (i / j), .int (i % j)]))
def bGcd : SV → SV → Mm SV := int2 fun i j => vI (Nat.gcd i.natAbs j.natAbs : Nat)
def bRange1 : SV → Mm SV := fun x => mB (mInt x) fun i => mP (.rng 0 i)
section
variable {K : PySem.W.Frag} {mg : Mg}
theorem sl_1 {r : List V → Hp → VK → Prop} {F : SV → Mm SV} (h : ∀ g H x d (Q : VK), Sim K g H → RSV K cz g H x d → Out K mg E g H (F d g.cs) (fun d g' H' => ∀ v, RSV K cz g' H' v d → Q v H') → r [x] H Q) : SL K cz mg E r (b1 F) := by
  intro g H xs ds Q S rs o
  cases rs with
  | nil => exact o.elim
  | cons r1 t =>
    cases t with
    | cons _ _ => exact o.elim
    | nil => exact h g H _ _ Q S r1 o
theorem sl_2 {r : List V → Hp → VK → Prop} {F : SV → SV → Mm SV} (h : ∀ g H x y d e (Q : VK), Sim K g H → RSV K cz g H x d → RSV K cz g H y e → Out K mg E g H (F d e g.cs) (fun d g' H' => ∀ v, RSV K cz g' H' v d → Q v H') → r [x, y] H Q) : SL K cz mg E r (b2 F) := by
  intro g H xs ds Q S rs o
  cases rs with
  | nil => exact o.elim
  | cons r1 t =>
    cases t with
    | nil => exact o.elim
    | cons r2 t =>
      cases t with
      | cons _ _ => exact o.elim
      | nil => exact h g H _ _ _ _ Q S r1 r2 o
theorem sl_int2 {r : List V → Hp → VK → Prop} {F : Int → Int → Mm SV} (h : ∀ g H i j (Q : VK), Sim K g H → Out K mg E g H (F i j g.cs) (fun d g' H' => ∀ v, RSV K cz g' H' v d → Q v H') → r [.int i, .int j] H Q) : SL K cz mg E r (b2 (int2 F)) :=
  sl_2 fun g H x y d e Q S rx ry o => by
    obtain ⟨i, e1, o⟩ := int_of S rx o.bind
    obtain ⟨j, e2, o⟩ := int_of S ry o.bind
    subst e1 e2
    exact h g H i j Q S o
end
theorem bo_len : BltOk X E (.builtin "len") (b1 bLen) := ⟨_, call_len_seq, sl_1 fun g H x d Q S r o => by
  obtain ⟨a, vs, xs, e, rs, h, o⟩ := seq_of S r o.bind
  subst e
  have := vI_out S o
  rw [← rs.length] at this
  exact ⟨a, vs, rfl, h.elim (fun h => .inl (.inl h)) .inr, this⟩⟩
theorem bo_abs : BltOk X E (.builtin "abs") (b1 bAbs) := ⟨_, call_abs, sl_1 fun g H x d Q S r o => by
  obtain ⟨i, e, o⟩ := int_of S r o.bind
  subst e
  exact ⟨i, rfl, vI_out S o⟩⟩
theorem bo_int : BltOk X E (.type "int") (b1 bInt) := ⟨_, call_int1, sl_1 fun g H x d Q S r o => by
  obtain ⟨i, e, o⟩ := int_of S r o.bind
  subst e
  exact .inl ⟨i, rfl, vI_out S o⟩⟩
theorem bo_max2 (hc : X.calm = true) : BltOk X E (.builtin "max") (b2 bMax2) := ⟨_, call_max2 hc, sl_int2 fun g H i j Q S o => ⟨i, j, rfl, vI_out S o⟩⟩
theorem bo_min2 (hc : X.calm = true) : BltOk X E (.builtin "min") (b2 bMin2) := ⟨_, call_min2 hc, sl_int2 fun g H i j Q S o => ⟨i, j, rfl, vI_out S o⟩⟩
theorem bo_gcd : BltOk X E (.builtin "math.gcd") (b2 bGcd) := ⟨_, cr_gcd, sl_int2 fun g H i j Q S o => ⟨i, j, rfl, vI_out S o⟩⟩
theorem bo_divmod : BltOk X E (.builtin "divmod") (b2 bDivmod) := ⟨_, call_divmodW, sl_int2 fun g H i j Q S o => by
  obtain ⟨c, o⟩ := guard_of S o.bind
  simp only [Bool.and_eq_true, decide_eq_true_eq, Bool.not_eq_true'] at c
  exact ⟨i, j, rfl, c, fun p hp => new_tup S (.cons (.int _) (.cons (.int _) .nil)) hp o⟩⟩
theorem bo_max (hc : X.calm = true) : BltOk X E (.builtin "max") (b1 bMax) := ⟨_, cr_max hc, sl_1 fun g H x d Q S r o => by
  obtain ⟨a, vs, xs, e, rs, h, o⟩ := ls_of S r o.bind
  obtain ⟨is, q, o⟩ := opt_of S o.bind
  obtain ⟨c, o⟩ := guard_of S o.bind
  subst e
  have hne : is ≠ [] := by intro z; subst z; simp at c
  obtain ⟨m1, m2⟩ := maxI_spec is hne
  refine ⟨a, is, rfl, by rw [← ints_of rs q]; exact .inl h, List.length_pos_iff.mpr hne, fun m h1 h2 => ?_⟩
  have e : m = maxI is := Int.le_antisymm (m2 m h1) (h2 _ m1)
  rw [e]
  exact vI_out S o⟩
theorem bo_min (hc : X.calm = true) : BltOk X E (.builtin "min") (b1 bMin) := ⟨_, cr_min hc, sl_1 fun g H x d Q S r o => by
  obtain ⟨a, vs, xs, e, rs, h, o⟩ := ls_of S r o.bind
  obtain ⟨is, q, o⟩ := opt_of S o.bind
  obtain ⟨c, o⟩ := guard_of S o.bind
  subst e
  have hne : is ≠ [] := by intro z; subst z; simp at c
  obtain ⟨m1, m2⟩ := minI_spec is hne
  refine ⟨a, is, rfl, by rw [← ints_of rs q]; exact .inl h, List.length_pos_iff.mpr hne, fun m h1 h2 => ?_⟩
  have e : m = minI is := Int.le_antisymm (h2 _ m1) (m2 m h1)
  rw [e]
  exact vI_out S o⟩
theorem bo_sum (hc : X.calm = true) : BltOk X E (.builtin "sum") (b1 bSum) := ⟨_, cr_sum hc, sl_1 fun g H x d Q S r o => by
  obtain ⟨a, vs, xs, e, rs, h, o⟩ := ls_of S r o.bind
  obtain ⟨is, q, o⟩ := opt_of S o.bind
  subst e
  exact ⟨a, is, rfl, by rw [← ints_of rs q]; exact .inl h, vI_out S o⟩⟩
theorem bo_any (hc : X.calm = true) : BltOk X E (.builtin "any") (b1 bAny) := ⟨_, cr_any hc, sl_1 fun g H x d Q S r o => by
  obtain ⟨a, vs, xs, e, rs, h, o⟩ := ls_of S r o.bind
  obtain ⟨is, q, o⟩ := opt_of S o.bind
  subst e
  exact ⟨a, is, rfl, by rw [← bools_of rs q]; exact .inl h, vB_out S o⟩⟩
theorem bo_all (hc : X.calm = true) : BltOk X E (.builtin "all") (b1 bAll) := ⟨_, cr_all hc, sl_1 fun g H x d Q S r o => by
  obtain ⟨a, vs, xs, e, rs, h, o⟩ := ls_of S r o.bind
  obtain ⟨is, q, o⟩ := opt_of S o.bind
  subst e
  exact ⟨a, is, rfl, by rw [← bools_of rs q]; exact .inl h, vB_out S o⟩⟩
theorem bo_list {o : Bool} : BltOk X E (.type "list") (b1 (bList o)) := ⟨_, call_list_of, sl_1 fun g H x d Q S r o => by
  obtain ⟨a, vs, xs, e, rs, h, o⟩ := seq_of S r o.bind
  subst e
  exact ⟨a, vs, rfl, h.elim (fun h => .inl (.inl h)) .inr, fun p hp => new_list S rs hp o⟩⟩
theorem bo_tuple : BltOk X E (.type "tuple") (b1 bTuple) := ⟨_, call_tuple_of, sl_1 fun g H x d Q S r o => by
  obtain ⟨a, vs, xs, e, rs, h, o⟩ := seq_of S r o.bind
  subst e
  refine ⟨a, vs, rfl, ?_⟩
  rcases h with h | h
  · exact .inl ⟨.inl h, fun p hp => new_tup S rs hp o⟩
  · exact .inr ⟨h, o.pure S _ (RD.tup h rs)⟩⟩
theorem bo_range1 : BltOk X E (.type "range") (b1 bRange1) := ⟨_, cr_range1, sl_1 fun g H x d Q S r o => by
  obtain ⟨i, e, o⟩ := int_of S r o.bind
  subst e
  refine ⟨i, rfl, fun p hp => ?_⟩
  obtain ⟨S', L'⟩ := S.laid (o := .rng 0 i) hp
  exact o g _ rfl S' L' _ ⟨p, rfl, upd_same⟩⟩
end
end MK
set_option Elab.async false
set_option linter.all false
set_option maxRecDepth 100000
set_option maxHeartbeats 1000000
/-! MKe: statements, targets, loops, comprehensions, calls, defs. -/
namespace MK
open PySem PySem.Spec PyProof.Rows L2
variable {cz : Cxx} [Tb]

theorem Out.bind' {K : PySem.W.Frag} {mg : Mg} {E : XK} {g : Gh} {H : Hp} {α β : Type} {m : Mm α} {f : α → Mm β} {h : Hm} {P : β → Gh → Hp → Prop} (o : Out K mg E g H (mB m f h) P) : Out K mg E g H (m h) fun d g1 _ => Out K mg E g H (f d g1.cs) P := by
  unfold mB at o
  cases q : m h with
  | ok d h' =>
    rw [q] at o
    intro g1 H1 e S1 L1
    subst e
    exact o
  | exn x h' => rw [q] at o; exact o
  | stuck => rw [q] at o; exact o

/-! ### statements -/
inductive Fl where
  | nx | rt (d : SV) | bk | ct
abbrev Sm := Ro → Mm (Fl × Ro)
def EndR (K : PySem.W.Frag) (cz : Cxx) (D : Ends) (r : Fl × Ro) (g : Gh) (H : Hp) : Prop := match r.1 with
  | .nx => ∀ σ, EnvR K cz g H r.2 σ → D.nx σ H
  | .rt d => ∀ v, RSV K cz g H v d → D.rt v H
  | .bk => ∀ σ, EnvR K cz g H r.2 σ → D.bk σ H
  | .ct => ∀ σ, EnvR K cz g H r.2 σ → D.ct σ H
def tS (K : PySem.W.Frag) (cz : Cxx) (mg : Mg) (E : XK) (m : Sm) : TS := fun D σ H => ∃ g ρ, Sim K g H ∧ EnvR K cz g H ρ σ ∧ Out K mg E g H (m ρ g.cs) (EndR K cz D)
abbrev MS (X : Cx) (E : XK) (st : Stmt) (m : Sm) : Prop := PS X st (tS X.K (cx X) X.mg E m)
abbrev MSs (X : Cx) (E : XK) (st : List Stmt) (m : Sm) : Prop := PSs X st (tS X.K (cx X) X.mg E m)
def sNil : Sm := fun ρ => mP (.nx, ρ)
def sCons (a b : Sm) : Sm := fun ρ => mB (a ρ) fun r => match r.1 with
  | .nx => b r.2
  | _ => mP r
def sRet (a : Em) : Sm := fun ρ => mB (a ρ) fun d => mP (.rt d, ρ)
def sRetN : Sm := fun ρ => mP (.rt (.val .none), ρ)
def sIf (c : Tm) (a b : Sm) : Sm := fun ρ => mB (c ρ) fun k => if k then a ρ else b ρ
def sExpr (a : Em) : Sm := fun ρ => mB (a ρ) fun _ => mP (.nx, ρ)
/-- targets: what is written -/
abbrev Gm := SV → Ro → Mm Ro
def tG (K : PySem.W.Frag) (cz : Cxx) (mg : Mg) (E : XK) (ws : List Nat) (m : Gm) : TG := fun v σ H Q => ∃ g ρ d, Sim K g H ∧ EnvR K cz g H ρ σ ∧ RSV K cz g H v d ∧ Out K mg E g H (m d ρ g.cs) fun ρ' g' H' => ∀ σ', EnvR K cz g' H' ρ' σ' → wipe σ' ws = wipe σ ws → Q σ' H'
abbrev MG (X : Cx) (E : XK) (ws : List Nat) (t : Expr) (m : Gm) : Prop := PG X t (tG X.K (cx X) X.mg E ws m)
def gVar (i : Nat) : Gm := fun d ρ => mP (ρ.set i (some d))
def sAsg (a : Em) (t : Gm) : Sm := fun ρ => mB (a ρ) fun d => mB (t d ρ) fun ρ' => mP (.nx, ρ')
theorem PGwk {X : Cx} {e : Expr} {t t' : TG} (h : PG X e t) (w : ∀ v σ H Q, t' v σ H Q → t v σ H Q) : PG X e t' := ⟨fun pins s σ H v u Q I r q => h.run pins s σ H v u Q I r (w v σ H Q q)⟩
theorem wipe_get {ws : List Nat} {σ : L2.St} {j : Nat} : (wipe σ ws)[j]? = if j ∈ ws ∧ j < σ.length then some none else σ[j]? := by
  induction ws with
  | nil => simp [wipe]
  | cons w ws ih =>
    unfold wipe
    by_cases h : w = j
    · subst h
      by_cases hl : w < σ.length
      · rw [List.getElem?_set_self (by rw [wipe_length]; exact hl), if_pos ⟨List.mem_cons_self, hl⟩]
      · rw [List.getElem?_eq_none (by rw [List.length_set, wipe_length]; omega), if_neg (fun q => hl q.2), List.getElem?_eq_none (by omega)]
    · rw [List.getElem?_set_ne h, ih]
      by_cases hj : j ∈ ws
      · by_cases hl : j < σ.length
        · rw [if_pos ⟨hj, hl⟩, if_pos ⟨List.mem_cons_of_mem _ hj, hl⟩]
        · rw [if_neg (fun q => hl q.2), if_neg (fun q => hl q.2)]
      · rw [if_neg (fun q => hj q.1), if_neg (fun q => (List.mem_cons.mp q.1).elim (fun e => h e.symm) hj)]
theorem wipe_set {ws : List Nat} {σ : L2.St} {i : Nat} {o : Option V} (h : i ∈ ws) : wipe (σ.set i o) ws = wipe σ ws := by
  apply List.ext_getElem?
  intro j
  rw [wipe_get, wipe_get, List.length_set]
  by_cases hj : i = j
  · subst hj
    by_cases hl : i < σ.length
    · rw [if_pos ⟨h, hl⟩, if_pos ⟨h, hl⟩]
    · rw [if_neg (fun q => hl q.2), if_neg (fun q => hl q.2), List.getElem?_eq_none (by rw [List.length_set]; omega), List.getElem?_eq_none (by omega)]
  · rw [List.getElem?_set_ne hj]
section
variable {X : Cx} {E : XK} {e a b c : Expr} {es : List Expr} {ma mb mc : Em} {ta tb : Tm} {ms : Am} {pos : Pos} {st : Stmt} {rest bs cs : List Stmt} {sa sb sc : Sm} {ws : List Nat}
theorem ms_nil : MSs X E [] sNil := PSswk pss_nil fun D σ H ⟨g, ρ, S, V, o⟩ => o.pure S σ V
theorem ms_cons (h1 : MS X E st sa) (h2 : MSs X E rest sb) : MSs X E (st :: rest) (sCons sa sb) := by
  refine PSswk (pss_cons h1 h2) fun D σ H ⟨g, ρ, S, V, o⟩ => ?_
  refine ⟨g, ρ, S, V, o.bind.mono fun r g1 H1 S1 L1 o1 => ?_⟩
  obtain ⟨f, ρ1⟩ := r
  cases f with
  | nx => exact fun σ1 V1 => ⟨g1, ρ1, S1, V1, o1⟩
  | rt d => exact Out.pure (mg := X.mg) (E := E) (a := (Fl.rt d, ρ1)) (P := EndR X.K (cx X) D) S1 o1
  | bk => exact Out.pure (mg := X.mg) (E := E) (a := (Fl.bk, ρ1)) (P := EndR X.K (cx X) D) S1 o1
  | ct => exact Out.pure (mg := X.mg) (E := E) (a := (Fl.ct, ρ1)) (P := EndR X.K (cx X) D) S1 o1
theorem ms_one (h1 : MS X E st sa) : MSs X E [st] sa := pss_one h1
theorem ms_ret (ha : ME X E e ma) : MS X E (.Return (some e) pos) (sRet ma) := PSwk (ps_ret ha) fun D σ H ⟨g, ρ, S, V, o⟩ => ⟨g, ρ, S, V, o.bind.mono fun d g1 H1 S1 L1 o1 => o1.pure S1⟩
theorem ms_retN : MS X E (.Return none pos) sRetN := PSwk ps_retN fun D σ H ⟨g, ρ, S, V, o⟩ => o.pure S _ RD.non
theorem ms_pass : MS X E (.Pass pos) sNil := PSwk ps_pass fun D σ H ⟨g, ρ, S, V, o⟩ => o.pure S σ V
theorem ms_if (hc : MT X E c ta) (ha : MSs X E bs sa) (hb : MSs X E cs sb) : MS X E (.If c bs cs pos) (sIf ta sa sb) := by
  refine PSwk (ps_if hc ha hb) fun D σ H ⟨g, ρ, S, V, o⟩ => ?_
  refine ⟨g, ρ, S, V, o.bind.mono fun k g1 H1 S1 L1 o1 => ?_⟩
  cases k with
  | true => rw [if_pos rfl]; exact ⟨g1, ρ, S1, V.mono S L1, o1⟩
  | false => rw [if_neg Bool.false_ne_true]; exact ⟨g1, ρ, S1, V.mono S L1, o1⟩
theorem ms_expr (ha : ME X E e ma) (hs : swapsWith e none pos.line X.env = pure false) : MS X E (.Expr e pos) (sExpr ma) := by
  refine PSwk (ps_expr ha hs) fun D σ H ⟨g, ρ, S, V, o⟩ => ?_
  exact ⟨g, ρ, S, V, o.bind.mono fun d g1 H1 S1 L1 o1 v _ => o1.pure S1 σ (V.mono S L1)⟩
theorem mg_var {i : Nat} {x : Str} (hN : X.N.Nodup) (hi : X.N[i]? = some x) (hx : Loc X.env.scope x) (hw : i ∈ ws) (hf : X.fn x = true ∨ X.env.scope.names.lookup x = some .local) : MG X E ws (.Name x pos) (gVar i) := by
  refine PGwk (pg_name (i := i) hN hi hx hf) fun v σ H Q ⟨g, ρ, d, S, V, r, o⟩ => ?_
  exact o.pure S _ (V.set r i) (wipe_set hw)
theorem ms_asg {tg : Expr} {t : Gm} (he : ME X E e ma) (hg : MG X E ws tg t) (hs : swapsWithSole [tg] e pos.line X.env = pure false) (hw : swappedStores [tg] e X.env = pure none)
    (h1 : (assignEach [tg] X.env).map (·.2) = [assign tg X.env]) : MS X E (.Assign [tg] e pos) (sAsg ma t) := by
  refine PSwk (ps_asg he hg hs hw h1) fun D σ H ⟨g, ρ, S, V, o⟩ => ?_
  refine ⟨g, ρ, S, V, o.bind.mono fun d g1 H1 S1 L1 o1 v r => ?_⟩
  exact ⟨g1, ρ, d, S1, V.mono S L1, r, o1.bind.mono fun ρ' g2 H2 S2 L2 o2 σ' V' _ => o2.pure S2 σ' V'⟩
theorem ms_set {i : Nat} {x : Str} {p' : Pos} (hN : X.N.Nodup) (hi : X.N[i]? = some x) (hx : Loc X.env.scope x) (he : ME X E e ma) (hs : swapsWith e (some (.Name x p')) pos.line X.env = pure false) (hf : X.fn x = true ∨ X.env.scope.names.lookup x = some .local) :
    MS X E (.Assign [.Name x p'] e pos) (sAsg ma (gVar i)) := by
  refine PSwk (ps_set (i := i) hN hi hx he hs hf) fun D σ H ⟨g, ρ, S, V, o⟩ => ?_
  refine ⟨g, ρ, S, V, o.bind.mono fun d g1 H1 S1 L1 o1 v r => ?_⟩
  exact (o1.bind.pure S1).pure S1 _ ((V.mono S L1).set r i)
/-- a, b = x, y with plain local names -/
def sPar (i j : Nat) (a : Am) : Sm := fun ρ => mB (a ρ) fun ds => match ds with
  | [d, e] => mP (.nx, (ρ.set i (some d)).set j (some e))
  | _ => mStuck
theorem ms_par {i j : Nat} {x y : Str} {px py pt : Pos} {kt k2 : Nat} {pt2 : Pos} (hc : X.calm = true) (hN : X.N.Nodup) (hi : X.N[i]? = some x) (hj : X.N[j]? = some y) (hij : i ≠ j)
    (hx : X.env.scope.names.lookup x = some .local) (hy : X.env.scope.names.lookup y = some .local) (ha : MA X E [a, b] ms)
    (hw : swappedStores [.Tuple [.Name x px, .Name y py] kt pt] (.Tuple [a, b] k2 pt2) X.env = pure (some [x, y]))
    (hs : swapsWithSole [.Tuple [.Name x px, .Name y py] kt pt] (.Tuple [a, b] k2 pt2) pos.line X.env = pure false) :
    MS X E (.Assign [.Tuple [.Name x px, .Name y py] kt pt] (.Tuple [a, b] k2 pt2) pos) (sPar i j ms) := by
  refine PSwk (ps_par hc hN hi hj hij hx hy ha hw hs) fun D σ H ⟨g, ρ, S, V, o⟩ => ?_
  refine ⟨g, ρ, S, V, o.bind.mono fun ds g1 H1 S1 L1 o1 vs rs => ?_⟩
  have V1 := V.mono S L1
  cases rs with
  | nil => exact o1.elim
  | cons r1 t =>
    cases t with
    | nil => exact o1.elim
    | cons r2 t =>
      cases t with
      | cons _ _ => exact o1.elim
      | nil => exact ⟨_, _, rfl, o1.pure S1 _ ((V1.set r1 i).set r2 j)⟩

/-! ### more targets -/
abbrev Gsm := List PyData → Ro → Mm Ro
def tGs (K : PySem.W.Frag) (cz : Cxx) (mg : Mg) (E : XK) (ws : List Nat) (m : Gsm) : TGs := fun vs σ H Q => ∃ g ρ ds, Sim K g H ∧ EnvR K cz g H ρ σ ∧ RDs K g H vs ds ∧ Out K mg E g H (m ds ρ g.cs) fun ρ' g' H' => ∀ σ', EnvR K cz g' H' ρ' σ' → wipe σ' ws = wipe σ ws → Q σ' H'
abbrev MGs (X : Cx) (E : XK) (ws : List Nat) (ts : List Expr) (m : Gsm) : Prop := PGs X ts (tGs X.K (cx X) X.mg E ws m)
def gsNil : Gsm := fun ds ρ => match ds with
  | [] => mP ρ
  | _ => mStuck
def gsCons (t : Gm) (r : Gsm) : Gsm := fun ds ρ => match ds with
  | d :: ds => mB (t (.val d) ρ) fun ρ' => r ds ρ'
  | [] => mStuck
theorem PGswk {es : List Expr} {t t' : TGs} (h : PGs X es t) (w : ∀ v σ H Q, t' v σ H Q → t v σ H Q) : PGs X es t' := ⟨fun pins s σ H v u Q I r q => h.run pins s σ H v u Q I r (w v σ H Q q)⟩
theorem mgs_nil : MGs X E ws [] gsNil := by
  refine PGswk pgs_nil fun vs σ H Q ⟨g, ρ, ds, S, V, r, o⟩ => ?_
  cases r with
  | nil => exact ⟨rfl, o.pure S σ V rfl⟩
  | cons _ _ => exact o.elim
theorem mgs_cons {t : Gm} {ts : List Expr} {tr : Gsm} (h1 : MG X E ws e t) (h2 : MGs X E ws ts tr) (hs : (assignEach (e :: ts) X.env).map (·.2) = assign e X.env :: (assignEach ts X.env).map (·.2)) : MGs X E ws (e :: ts) (gsCons t tr) := by
  refine PGswk (pgs_cons h1 h2 hs) fun vs σ H Q ⟨g, ρ, ds, S, V, r, o⟩ => ?_
  cases r with
  | nil => exact o.elim
  | @cons v0 vs0 d0 ds0 r1 rt =>
    have o : Out X.K X.mg E g H (mB (t (.val d0) ρ) (fun ρ' => tr ds0 ρ') g.cs) _ := o
    refine ⟨_, _, rfl, g, ρ, .val d0, S, V, r1, o.bind.mono fun ρ1 g1 H1 S1 L1 o1 σ1 V1 w1 => ?_⟩
    exact ⟨g1, ρ1, _, S1, V1, rt.mono S L1, o1.mono fun ρ2 g2 H2 S2 L2 q σ2 V2 w2 => q σ2 V2 (w2.trans w1)⟩
/-- unpacking a tuple -/
def gTup (n : Nat) (t : Gsm) : Gm := fun d ρ => match d with
  | .val (.tuple ds) => mB (guard (decide (ds.length = n))) fun _ => t ds ρ
  | _ => mStuck
theorem mg_tup {ts : List Expr} {k n : Nat} {t : Gsm} (hc : X.calm = true) (h : MGs X E ws ts t) (hn : (assignEach ts X.env).length = n) (hst : (assignEach ts X.env).findIdx? (·.1) = none) : MG X E ws (.Tuple ts k pos) (gTup n t) := by
  refine PGwk (pg_tup hc h hn hst) fun v σ H Q ⟨g, ρ, d, S, V, r, o⟩ => ?_
  unfold gTup at o
  split at o
  · obtain ⟨c, o⟩ := guard_of S o.bind
    cases r with
    | tup h1 h2 => exact ⟨_, _, rfl, h1, by rw [h2.length]; exact of_decide_eq_true c, g, ρ, _, S, V, h2, o⟩
  · exact o.stuck.elim
/-- o[i] = v, o an owned list -/
def mSetIx (o i v : SV) : Mm Unit := mB (mInt i) fun k => mB (mD v) fun d => match o with
  | .ref n => fun h => match h[n]? with
    | some (some (.lst xs)) => match ixN xs.length k with
      | some j => .ok () (h.set n (some (.lst (xs.set j d))))
      | none => .stuck
    | _ => .stuck
  | _ => mStuck
def gIx (a b : Em) : Gm := fun v ρ => mB (a ρ) fun o => mB (b ρ) fun i => mB (mSetIx o i v) fun _ => mP ρ
theorem md_of {K : PySem.W.Frag} {mg : Mg} {g : Gh} {H : Hp} {d : SV} {v : V} {P : PyData → Gh → Hp → Prop} (S : Sim K g H) (r : RSV K cz g H v d) (o : Out K mg E g H (mD d g.cs) P) : ∃ e, RD K g H v e ∧ P e g H := by
  cases d with
  | val d => exact ⟨d, r, o.pure S⟩
  | ref n => exact o.elim
  | rng l h => exact o.elim
  | exc _ => exact o.elim
theorem mg_ix (ha : ME X E a ma) (hb : ME X E b mb)
    (hs : ∀ v, assign (.Subscript a b pos) X.env v = (do
      let ov ← holding [v] (eval a X.env)
      let iv ← holding [v, ov] (eval b X.env)
      standAt pos
      holding [v, ov, iv] (setItem ov iv v)
      release [v, ov, iv] [])) : MG X E ws (.Subscript a b pos) (gIx ma mb) := by
  refine PGwk (pg_sub ha hb set_list hs) fun v σ H Q ⟨g, ρ, d, S, V, r, o⟩ => ?_
  refine ⟨g, ρ, S, V, o.bind.mono fun dx g1 H1 S1 L1 o1 x rx => ?_⟩
  refine ⟨g1, ρ, S1, V.mono S L1, o1.bind.mono fun dy g2 H2 S2 L2 o2 y ry => ?_⟩
  obtain ⟨k, ey, o2⟩ := int_of S2 ry o2.bind.bind
  obtain ⟨e, re, o2⟩ := md_of S2 (r.mono S (L1.trans L2)) o2.bind
  have rx2 := rx.mono S1 L2
  cases dx with
  | val _ => exact o2.elim
  | rng _ _ => exact o2.elim
  | exc _ => exact o2.elim
  | ref n =>
    obtain ⟨p, ex, ep⟩ := rx2
    cases q : g2.cs[n]? with
    | none => simp only [q] at o2; exact o2.elim
    | some oc =>
      cases oc with
      | none => simp only [q] at o2; exact o2.elim
      | some cc =>
        cases cc with
        | lst ds =>
          simp only [q] at o2
          obtain ⟨vs, e1, rs⟩ := S2.cell n _ p q ep
          cases qj : ixN ds.length k with
          | none => simp only [qj] at o2; exact o2.elim
          | some j =>
            simp only [qj] at o2
            obtain ⟨S3, L3⟩ := S2.write q ep (rs.set re j)
            have o3 := (o2 _ _ rfl S3 L3).pure S3
            exact ⟨p, vs, k, j, ex, ey, e1, by rw [rs.length]; exact qj, o3 σ ((V.mono S (L1.trans L2)).mono S2 L3) rfl⟩
/-- o.append(e), o an owned list -/
def mApp (o v : SV) : Mm SV := mB (mD v) fun d => match o with
  | .ref n => fun h => match h[n]? with
    | some (some (.lst xs)) => if xs.length ≤ 10000 then .ok (.val .none) (h.set n (some (.lst (xs ++ [d])))) else .stuck
    | _ => .stuck
  | _ => mStuck
/-- the receiver first, then the item -/
def eApp (a b : Em) : Em := eOp2 mApp a b
def isLs (d : SV) : Mm Unit := mB (mLs d) fun _ => mP ()
theorem me_append {apos : Pos} (ha : ME X E a ma) (hb : ME X E b mb) (hbase : attributeBase a "append" X.env (eval a X.env) = eval a X.env)
    (hfew : ((backTo pos (starEach [b] X.env)).all (fun x => !x.1) && (backToKw pos (keywordEach [] X.env)).all (fun x => x.1.isSome)
      && decide ([b].length + ([] : List Keyword).length + (if ([] : List Keyword).isEmpty then 0 else 1) < 30)) = true)
    (hline : (apos.endLine == pos.line) = true) (hs : starEach [b] X.env = (false, eval b X.env) :: starEach [] X.env) (hplain : (backTo pos (starEach [] X.env)).any (·.1) = false) :
    ME X E (.Call (.Attribute a "append" apos) [b] [] pos) (fun ρ => mB (ma ρ) fun x => mB (isLs x) fun _ => mB (mb ρ) fun y => mApp x y) := by
  refine PEwk (pe_bm PySem.F.plainAttrs_list PySem.F.slot_list_append PySem.F.type_list_append mt_append ha (pa_cons hb pa_nil hs) hbase hfew hline hs hplain) fun σ H Q ⟨g, ρ, S, V, o⟩ => ?_
  refine ⟨g, ρ, S, V, o.bind.mono fun dx g1 H1 S1 L1 o1 x rx => ?_⟩
  obtain ⟨p0, vs0, xs0, ex0, _, h0, o1⟩ := ls_of S1 rx o1.bind.bind
  refine ⟨?_, ?_⟩
  · subst ex0
    exact .inl ⟨rfl, _, .inl h0⟩
  · refine ⟨g1, ρ, S1, V.mono S L1, (o1.pure S1).bind.mono fun dy g2 H2 S2 L2 o2 y ry => ?_⟩
    show rAppend x [y] H2 Q
    obtain ⟨e, re, o2⟩ := md_of S2 ry o2.bind
    have rx2 := rx.mono S1 L2
    cases dx with
    | val _ => exact o2.elim
    | rng _ _ => exact o2.elim
    | exc _ => exact o2.elim
    | ref n =>
      obtain ⟨p, ex, ep⟩ := rx2
      cases q : g2.cs[n]? with
      | none => simp only [q] at o2; exact o2.elim
      | some oc =>
        cases oc with
        | none => simp only [q] at o2; exact o2.elim
        | some cc =>
          cases cc with
          | lst ds =>
            simp only [q] at o2
            obtain ⟨vs, e1, rs⟩ := S2.cell n _ p q ep
            by_cases hl : ds.length ≤ 10000
            · rw [if_pos hl] at o2
              obtain ⟨S3, L3⟩ := S2.write q ep (rs.append (RDs.one re))
              exact ⟨p, vs, y, ex, rfl, e1, by rw [rs.length, sizeLine_eq]; omega, o2 _ _ rfl S3 L3 _ RD.non⟩
            · rw [if_neg hl] at o2; exact o2.elim
end
end MK
set_option Elab.async false
set_option linter.all false
set_option maxRecDepth 100000
set_option maxHeartbeats 2000000
/-! MKf: loops, comprehensions, what they walk. -/
namespace MK
open PySem PySem.Spec PyProof.Rows L2
variable {cz : Cxx} [Tb]

/-! ### what is walked: its items are known ahead -/
structure Kp (K : PySem.W.Frag) (g0 : Gh) (H0 : Hp) (g : Gh) (H : Hp) : Prop where
  rd : ∀ {d : PyData} {v : V}, RD K g0 H0 v d → RD K g H v d
  rng : ∀ {a : Addr} {lo hi : Int}, H0 a = some (.rng lo hi) → H a = some (.rng lo hi)
theorem Kp.of {K : PySem.W.Frag} {g0 g : Gh} {H0 H : Hp} (S : Sim K g0 H0) (L : Le g0 H0 g H) : Kp K g0 H0 g H := ⟨fun h => h.mono S L, fun h => (L.keep _ _ h (fun _ z => nomatch z) (S.not_own h fun z => z)).1⟩
theorem Kp.trans {K : PySem.W.Frag} {g0 g1 g : Gh} {H0 H1 H : Hp} (a : Kp K g0 H0 g1 H1) (b : Kp K g1 H1 g H) : Kp K g0 H0 g H := ⟨fun h => b.rd (a.rd h), fun h => b.rng (a.rng h)⟩
def IEn (K : PySem.W.Frag) (g0 : Gh) (H0 : Hp) (J : It) (ds : List PyData) : Prop := ∀ g H, Sim K g H → Kp K g0 H0 g H →
  (∀ (i : Nat) (d : PyData), ds[i]? = some d → J.go i H ∧ ∀ x H', J.yld i H x H' → Sim K g H' ∧ Le g H g H' ∧ RD K g H' x d) ∧ J.stop ds.length H
abbrev Im := Ro → Mm (List PyData)
def tI (K : PySem.W.Frag) (cz : Cxx) (mg : Mg) (E : XK) (m : Im) : TI := fun σ H R => ∃ g ρ, Sim K g H ∧ EnvR K cz g H ρ σ ∧ Out K mg E g H (m ρ g.cs) fun ds g' H' => ∀ J, IEn K g' H' J ds → R J H'
abbrev MI (X : Cx) (E : XK) (tg it : Expr) (m : Im) : Prop := PI X tg it (tI X.K (cx X) X.mg E m)
theorem PIwk {X : Cx} {tg e : Expr} {t t' : TI} (h : PI X tg e t) (w : ∀ σ H R, t' σ H R → t σ H R) : PI X tg e t' := ⟨fun pins s σ H R I q => h.run pins s σ H R I (w σ H R q)⟩

/-- for -/
def forM (t : Gm) (b : Sm) : List PyData → Sm
  | [] => fun ρ => mP (.nx, ρ)
  | d :: ds => fun ρ => mB (t (.val d) ρ) fun ρ1 => mB (b ρ1) fun r => match r.1 with
    | .nx => forM t b ds r.2
    | .ct => forM t b ds r.2
    | .bk => mP (.nx, r.2)
    | .rt d => mP (.rt d, r.2)
def sFor (it : Im) (t : Gm) (b : Sm) : Sm := fun ρ => mB (it ρ) fun ds => forM t b ds ρ
section
variable {X : Cx} {E : XK} {tg it : Expr} {mi : Im} {t : Gm} {b : Sm} {body : List Stmt} {ws : List Nat} {pos : Pos}
theorem ms_for (hp : PassesOwn (model X.prog X.w) X.A X.env X.xe) (hc : X.calm = true) (hi : MI X E tg it mi) (hg : MG X E ws tg t) (hb : MSs X E body b) (hs : ∀ x, foldedSetIterable it X.env x = pure x) : MS X E (.For tg it body [] pos) (sFor mi t b) := by
  refine PSwk (ps_for hp hc hi hg hb hs) fun D σ H ⟨g, ρ, S, V, o⟩ => ?_
  refine ⟨g, ρ, S, V, o.bind.mono fun ds g1 H1 S1 L1 o1 J en => ?_⟩
  refine ⟨fun i m σ H => m = ds.length - i ∧ i ≤ ds.length ∧ ∃ g ρ, Sim X.K g H ∧ Le g1 H1 g H ∧ EnvR X.K (cx X) g H ρ σ ∧ Out X.K X.mg E g H (forM t b (ds.drop i) ρ g.cs) (EndR X.K (cx X) D),
    ⟨ds.length, by simp, Nat.zero_le _, g1, ρ, S1, Le.refl _ _, V.mono S L1, o1⟩, ?_⟩
  rintro i m σ2 H2 ⟨rfl, hi, g2, ρ2, S2, L2, V2, o2⟩
  obtain ⟨e1, e2⟩ := en g2 H2 S2 (.of S1 L2)
  by_cases hlt : i < ds.length
  · right
    have hd : ds[i]? = some ds[i] := List.getElem?_eq_getElem hlt
    obtain ⟨go, yl⟩ := e1 i _ hd
    rw [List.drop_eq_getElem_cons hlt] at o2
    refine ⟨go, fun σ' H' => i + 1 ≤ ds.length ∧ ∃ g ρ, Sim X.K g H' ∧ Le g1 H1 g H' ∧ EnvR X.K (cx X) g H' ρ σ' ∧ Out X.K X.mg E g H' (forM t b (ds.drop (i + 1)) ρ g.cs) (EndR X.K (cx X) D),
      fun σ' H' q => ⟨ds.length - (i + 1), by omega, rfl, q⟩, fun x H3 y3 => ?_⟩
    obtain ⟨S3, L3, r3⟩ := yl x H3 y3
    have V3 := V2.mono S2 L3
    -- the step from H2 to H3 lays at most a new thing
    have o3 : Out X.K X.mg E g2 H3 (forM t b (ds[i] :: ds.drop (i + 1)) ρ2 g2.cs) (EndR X.K (cx X) D) := by
      cases q : forM t b (ds[i] :: ds.drop (i + 1)) ρ2 g2.cs with
      | ok r h' => rw [q] at o2; exact fun g' H' e S' L' => o2 g' H' e S' (L3.trans L')
      | exn x h' => rw [q] at o2; exact fun g' H' cls oa e S' L' => o2 g' H' cls oa e S' (L3.trans L')
      | stuck => rw [q] at o2; exact o2
    unfold forM at o3
    refine ⟨g2, ρ2, .val ds[i], S3, V3, r3, o3.bind.mono fun ρ4 g4 H4 S4 L4 o4 σ4 V4 _ => ?_⟩
    refine ⟨g4, ρ4, S4, V4, o4.bind.mono fun r g5 H5 S5 L5 o5 => ?_⟩
    obtain ⟨f, ρ5⟩ := r
    have LL := L2.trans (L3.trans (L4.trans L5))
    cases f with
    | nx => exact fun σ5 V5 => ⟨hlt, g5, ρ5, S5, LL, V5, o5⟩
    | ct => exact fun σ5 V5 => ⟨hlt, g5, ρ5, S5, LL, V5, o5⟩
    | bk => exact fun σ5 V5 => Out.pure (mg := X.mg) (E := E) (a := (Fl.nx, ρ5)) (P := EndR X.K (cx X) D) S5 o5 σ5 V5
    | rt d => exact fun v rv => Out.pure (mg := X.mg) (E := E) (a := (Fl.rt d, ρ5)) (P := EndR X.K (cx X) D) S5 o5 v rv
  · left
    have e : i = ds.length := by omega
    rw [e, List.drop_length] at o2
    exact ⟨by rw [e]; exact e2, Out.pure (mg := X.mg) (E := E) (a := (Fl.nx, ρ2)) (P := EndR X.K (cx X) D) S2 o2 σ2 V2⟩
end

/-- while: at most so many turns -/
def whileM (c : Tm) (b : Sm) : Nat → Sm
  | 0 => fun _ => mStuck
  | n + 1 => fun ρ => mB (c ρ) fun k => if k then mB (b ρ) fun r => match r.1 with
    | .nx => whileM c b n r.2
    | .ct => whileM c b n r.2
    | .bk => mP (.nx, r.2)
    | .rt d => mP (.rt d, r.2)
    else mP (.nx, ρ)
def sWhile (fuel : Ro → Nat) (c : Tm) (b : Sm) : Sm := fun ρ => whileM c b (fuel ρ) ρ
section
variable {X : Cx} {E : XK} {c : Expr} {tc : Tm} {b : Sm} {body : List Stmt} {pos : Pos}
theorem ms_while {fuel : Ro → Nat} (hp : PassesOwn (model X.prog X.w) X.A X.env X.xe) (hc : MT X E c tc) (hb : MSs X E body b) : MS X E (.While c body [] pos) (sWhile fuel tc b) := by
  refine PSwk (ps_while hp hc hb) fun D σ H ⟨g, ρ, S, V, o⟩ => ?_
  refine ⟨fun m σ H => ∃ g ρ, Sim X.K g H ∧ EnvR X.K (cx X) g H ρ σ ∧ Out X.K X.mg E g H (whileM tc b m ρ g.cs) (EndR X.K (cx X) D), ⟨fuel ρ, g, ρ, S, V, o⟩, ?_⟩
  rintro m σ1 H1 ⟨g1, ρ1, S1, V1, o1⟩
  cases m with
  | zero => exact o1.elim
  | succ n =>
    unfold whileM at o1
    refine ⟨g1, ρ1, S1, V1, o1.bind.mono fun k g2 H2 S2 L2 o2 => ?_⟩
    cases k with
    | false => 
      rw [if_neg Bool.false_ne_true]
      exact Out.pure (mg := X.mg) (E := E) (a := (Fl.nx, ρ1)) (P := EndR X.K (cx X) D) S2 o2 σ1 (V1.mono S1 L2)
    | true =>
      rw [if_pos rfl]
      refine ⟨fun σ' H' => ∃ g ρ, Sim X.K g H' ∧ EnvR X.K (cx X) g H' ρ σ' ∧ Out X.K X.mg E g H' (whileM tc b n ρ g.cs) (EndR X.K (cx X) D), fun σ' H' q => ⟨n, Nat.lt_succ_self n, q⟩, ?_⟩
      have o2 : Out X.K X.mg E g2 H2 (mB (b ρ1) _ g2.cs) (EndR X.K (cx X) D) := o2
      refine ⟨g2, ρ1, S2, V1.mono S1 L2, o2.bind.mono fun r g5 H5 S5 L5 o5 => ?_⟩
      obtain ⟨f, ρ5⟩ := r
      cases f with
      | nx => exact fun σ5 V5 => ⟨g5, ρ5, S5, V5, o5⟩
      | ct => exact fun σ5 V5 => ⟨g5, ρ5, S5, V5, o5⟩
      | bk => exact fun σ5 V5 => Out.pure (mg := X.mg) (E := E) (a := (Fl.nx, ρ5)) (P := EndR X.K (cx X) D) S5 o5 σ5 V5
      | rt d => exact fun v rv => Out.pure (mg := X.mg) (E := E) (a := (Fl.rt d, ρ5)) (P := EndR X.K (cx X) D) S5 o5 v rv
end

/-! ### comprehensions -/
def wipeR (ρ : Ro) : List Nat → Ro
  | [] => ρ
  | v :: vs => (wipeR ρ vs).set v none
theorem EnvR.wipe {K : PySem.W.Frag} {g : Gh} {H : Hp} {ρ : Ro} {σ : L2.St} (h : EnvR K cz g H ρ σ) : ∀ vs : List Nat, EnvR K cz g H (wipeR ρ vs) (L2.wipe σ vs)
  | [] => h
  | v :: vs => (EnvR.wipe h vs).clear v none
def lcLoop (t : Gm) (c : Tm) (e : Em) (ρ : Ro) : List PyData → Mm (List PyData)
  | [] => mP []
  | d :: ds => mB (t (.val d) ρ) fun ρ1 => mB (c ρ1) fun b => if b then mB (e ρ1) fun y => mB (mD y) fun yd => mB (lcLoop t c e ρ ds) fun r => mP (yd :: r) else lcLoop t c e ρ ds
def tYesM : Tm := fun _ => mP true

section
variable {K : PySem.W.Frag} {mg : Mg} {E : XK} {g : Gh} {H : Hp}
/-- an owned address less -/
theorem own_less {g : Gh} {l : List Addr} {D b : Addr} (he : g.ex = D :: l) (h : own ⟨g.mu, g.cs, l⟩ b) : own g b := by
  rcases h with h | h
  · exact .inl h
  · exact .inr (by rw [he]; exact List.mem_cons_of_mem _ h)
theorem RD.less {l : List Addr} {D : Addr} (he : g.ex = D :: l) {d : PyData} {v : V} (h : RD K g H v d) : RD K ⟨g.mu, g.cs, l⟩ H v d := by
  have fl : ∀ {a xs}, FL K g H a xs → FL K ⟨g.mu, g.cs, l⟩ H a xs := fun {a xs} h => ⟨h.1, fun z => h.2 (own_less he z)⟩
  induction h using RD.rec (motive_2 := fun vs ds _ => RDs K ⟨g.mu, g.cs, l⟩ H vs ds) with
  | non => exact .non
  | bl b => exact .bl b
  | int i => exact .int i
  | str x => exact .str x
  | lst h1 _ ih => exact .lst (fl h1) ih
  | tup h1 _ ih => exact .tup h1 ih
  | nil => exact .nil
  | cons _ _ i1 i2 => exact .cons i1 i2
theorem RDs.less {l : List Addr} {D : Addr} (he : g.ex = D :: l) : ∀ {ds : List PyData} {vs : List V}, RDs K g H vs ds → RDs K ⟨g.mu, g.cs, l⟩ H vs ds
  | _, _, .nil => .nil
  | _, _, .cons r t => .cons (r.less he) (RDs.less he t)
theorem Sim.less {l : List Addr} {D : Addr} (he : g.ex = D :: l) (S : Sim K g H) : Sim K ⟨g.mu, g.cs, l⟩ H := by
  refine ⟨S.len, fun n c a h1 h2 => ?_, S.inj, S.trk, fun a ha => S.exm a (by rw [he]; exact List.mem_cons_of_mem _ ha), fun n a h z => S.exn n a h (by rw [he]; exact List.mem_cons_of_mem _ z), S.tabs⟩
  have q := S.cell n c a h1 h2
  cases c with
  | lst ds => obtain ⟨vs, e, r⟩ := q; exact ⟨vs, e, r.less he⟩
theorem XA.less {l : List Addr} {D : Addr} (he : g.ex = D :: l) {x : Xn} {oa : Option Addr} (h : XA K g H x oa) : XA K ⟨g.mu, g.cs, l⟩ H x oa := by
  unfold XA at *
  cases q : x.arg with
  | none => rw [q] at h; exact h
  | some p =>
    rw [q] at h
    obtain ⟨dx, v, e1, e2, r⟩ := h
    exact ⟨dx, v, e1, e2, r.less he⟩
theorem XR.less {l : List Addr} {D : Addr} (he : g.ex = D :: l) {x : Xn} {cls : Value} {oa : Option Addr} (h : XR K mg g H x cls oa) : XR K mg ⟨g.mu, g.cs, l⟩ H x cls oa := ⟨h.1, h.2.less he⟩
theorem RD.up {D : Addr} {o : HO} (S : Sim K g H) (hD : H D = none) {d : PyData} {v : V} (h : RD K g H v d) : RD K ⟨g.mu, g.cs, D :: g.ex⟩ (upd H D o) v d := by
  obtain ⟨S', L'⟩ := S.laid (o := o) hD
  induction h using RD.rec (motive_2 := fun vs ds _ => RDs K ⟨g.mu, g.cs, D :: g.ex⟩ (upd H D o) vs ds) with
  | non => exact .non
  | bl b => exact .bl b
  | int i => exact .int i
  | str x => exact .str x
  | lst h1 _ ih =>
    obtain ⟨f1, f2⟩ := L'.fl S h1
    refine .lst ⟨f1, fun z => ?_⟩ ih
    rcases z with z | z
    · exact f2 (.inl z)
    · rcases List.mem_cons.mp z with z | z
      · obtain ⟨h0, _⟩ := h1
        rw [z] at h0
        rcases h0 with h0 | ⟨_, h0⟩ <;> (rw [hD] at h0; cases h0)
      · exact f2 (.inr z)
  | tup h1 _ ih => exact .tup (L'.sqt S h1) ih
  | nil => exact .nil
  | cons _ _ i1 i2 => exact .cons i1 i2
theorem RDs.up {D : Addr} {o : HO} (S : Sim K g H) (hD : H D = none) : ∀ {ds : List PyData} {vs : List V}, RDs K g H vs ds → RDs K ⟨g.mu, g.cs, D :: g.ex⟩ (upd H D o) vs ds
  | _, _, .nil => .nil
  | _, _, .cons r t => .cons (r.up S hD) (RDs.up S hD t)
/-- a new thing D is laid and owned for a while -/
theorem Sim.more {D : Addr} {o : HO} (S : Sim K g H) (hD : H D = none) (hm : Mut (some o)) : Sim K ⟨g.mu, g.cs, D :: g.ex⟩ (upd H D o) := by
  obtain ⟨S', L'⟩ := S.laid (o := o) hD
  refine ⟨S'.len, fun n c a h1 h2 => ?_, S'.inj, S'.trk, fun a ha => ?_, fun n a h z => ?_, S'.tabs⟩
  · have q := S.cell n c a h1 h2
    have hne : a ≠ D := fun z => (S.trk n a h2).some (by rw [z]; exact hD)
    cases c with
    | lst ds =>
      obtain ⟨vs, e, r⟩ := q
      exact ⟨vs, by rw [upd_ne hne]; exact e, r.up S hD⟩
  · rcases List.mem_cons.mp ha with z | z
    · subst z; rw [upd_same]; exact hm
    · exact S'.exm a z
  · rcases List.mem_cons.mp z with z | z
    · exact (S.trk n a h).some (by rw [z]; exact hD)
    · exact S.exn n a h z
theorem own_up {D a : Addr} (h : own ⟨g.mu, g.cs, D :: g.ex⟩ a) : own g a ∨ a = D := by
  rcases h with h | h
  · exact .inl (.inl h)
  · rcases List.mem_cons.mp h with h | h
    · exact .inr h
    · exact .inl (.inr h)
theorem own_drop {l : List Addr} {D a : Addr} (he : g.ex = D :: l) (h : own g a) : own ⟨g.mu, g.cs, l⟩ a ∨ a = D := by
  rcases h with h | h
  · exact .inl (.inl h)
  · rw [he] at h
    rcases List.mem_cons.mp h with h | h
    · exact .inr h
    · exact .inl (.inr h)
theorem Le.dropTrans {l : List Addr} {D : Addr} {g1 g' : Gh} {H1 H' : Hp} (hl : g1.ex = l) (hD : H1 D = none) (he : g.ex = D :: l) (a : Le g1 H1 ⟨g.mu, g.cs, l⟩ H) (b : Le g H g' H') : Le g1 H1 ⟨g'.mu, g'.cs, l⟩ H' := by
  refine ⟨fun n x h => b.pre n x (a.pre n x h), fun x u h t n => ?_, hl.symm, fun x hx => ?_, fun x h => b.trk x (a.trk x h)⟩
  · obtain ⟨h1, h2⟩ := a.keep x u h t n
    obtain ⟨h3, h4⟩ := b.keep x u h1 t fun q => (own_drop he q).elim h2 (ne_of_none h hD)
    exact ⟨h3, fun q => h4 (own_less (b.exe.trans he) q)⟩
  · exact (b.exk x (by rw [he]; exact List.mem_cons_of_mem _ (hl ▸ hx))).trans (a.exk x hx)
theorem RD.exw {D : Addr} {o : HO} (S : Sim K g H) (hD : D ∈ g.ex) {d : PyData} {v : V} (h : RD K g H v d) : RD K g (upd H D o) v d := by
  have hm := S.exm D hD
  have rd : ∀ {a u}, ¬ Mut (some u) → Rd H a u → Rd (upd H D o) a u := fun {a u} nm r => by
    rcases r with r | ⟨q, r⟩
    · exact .inl (by rw [upd_ne (fun z => nm (by rw [z] at r; rw [r] at hm; exact hm))]; exact r)
    · exact .inr ⟨q, by rw [upd_ne (fun z => by rw [z] at r; rw [r] at hm; exact hm)]; exact r⟩
  induction h using RD.rec (motive_2 := fun vs ds _ => RDs K g (upd H D o) vs ds) with
  | non => exact .non
  | bl b => exact .bl b
  | int i => exact .int i
  | str x => exact .str x
  | @lst a xs ds h1 _ ih =>
    have hne : a ≠ D := fun z => h1.2 (by rw [z]; exact .inr hD)
    refine .lst ⟨?_, h1.2⟩ ih
    rcases h1.1 with r | ⟨q, r⟩
    · exact .inl (by rw [upd_ne hne]; exact r)
    · exact .inr ⟨q, by rw [upd_ne hne]; exact r⟩
  | tup h1 _ ih =>
    refine .tup ?_ ih
    rcases h1 with h1 | h1
    · exact .inl (rd (fun z => z) h1)
    · exact .inr h1
  | nil => exact .nil
  | cons _ _ i1 i2 => exact .cons i1 i2
theorem RDs.exw {D : Addr} {o : HO} (S : Sim K g H) (hD : D ∈ g.ex) : ∀ {ds : List PyData} {vs : List V}, RDs K g H vs ds → RDs K g (upd H D o) vs ds
  | _, _, .nil => .nil
  | _, _, .cons r t => .cons (r.exw S hD) (RDs.exw S hD t)
theorem Sim.exw {D : Addr} {o : HO} (S : Sim K g H) (hD : D ∈ g.ex) (hl : ∃ us, H D = some (.lst us)) (hm : Mut (some o)) : Sim K g (upd H D o) := by
  refine ⟨S.len, fun n c a h1 h2 => ?_, S.inj, fun n a h => ?_, fun a ha => ?_, S.exn, tabs_write S.tabs hl⟩
  · have hne : a ≠ D := fun z => S.exn n a h2 (by rw [z]; exact hD)
    have q := S.cell n c a h1 h2
    cases c with
    | lst ds =>
      obtain ⟨vs, e, r⟩ := q
      exact ⟨vs, by rw [upd_ne hne]; exact e, r.exw S hD⟩
  · have hne : a ≠ D := fun z => S.exn n a h (by rw [z]; exact hD)
    rw [upd_ne hne]; exact S.trk n a h
  · by_cases hb : a = D
    · rw [hb, upd_same]; exact hm
    · rw [upd_ne hb]; exact S.exm a ha
theorem RSV.exw {D : Addr} {o : HO} (S : Sim K g H) (hD : D ∈ g.ex) {d : SV} {v : V} (h : RSV K cz g H v d) : RSV K cz g (upd H D o) v d := by
  cases d with
  | val d => exact RD.exw S hD h
  | ref n => exact h
  | rng lo hi =>
    obtain ⟨a, e1, e2⟩ := h
    have hm := S.exm D hD
    exact ⟨a, e1, by rw [upd_ne (fun z => by rw [z] at e2; rw [e2] at hm; exact hm)]; exact e2⟩
  | exc x =>
    obtain ⟨a, oe, mg, C, e1, e2, c1, c2, e3⟩ := h
    refine ⟨a, oe, mg, C, e1, e2, c1, c2, ?_⟩
    unfold XA at *
    cases q : x.arg with
    | none => rw [q] at e3; exact e3
    | some p =>
      rw [q] at e3
      obtain ⟨dx, v, e4, e5, r⟩ := e3
      have hm := S.exm D hD
      exact ⟨dx, v, e4, by rw [upd_ne (fun z => by rw [z] at e5; rw [e5] at hm; exact hm)]; exact e5, r.exw S hD⟩
theorem EnvR.exw {D : Addr} {o : HO} (S : Sim K g H) (hD : D ∈ g.ex) {ρ : Ro} {σ : L2.St} (h : EnvR K cz g H ρ σ) : EnvR K cz g (upd H D o) ρ σ :=
  ⟨h.1, fun i d e => let ⟨v, e1, r⟩ := h.2 i d e; ⟨v, e1, r.exw S hD⟩⟩
theorem EnvR.up {D : Addr} {o : HO} (S : Sim K g H) (hD : H D = none) {ρ : Ro} {σ : L2.St} (h : EnvR K cz g H ρ σ) : EnvR K cz ⟨g.mu, g.cs, D :: g.ex⟩ (upd H D o) ρ σ :=
  ⟨h.1, fun i d e => by
    obtain ⟨v, e1, r⟩ := h.2 i d e
    refine ⟨v, e1, ?_⟩
    cases d with
    | val d => exact RD.up S hD r
    | ref n => exact r
    | rng lo hi =>
      obtain ⟨a, e2, e3⟩ := r
      exact ⟨a, e2, upd_grow hD a _ e3⟩
    | exc x =>
      obtain ⟨a, oe, mg, C, e4, e2, c1, c2, e3⟩ := r
      refine ⟨a, oe, mg, C, e4, e2, c1, c2, ?_⟩
      unfold XA at *
      cases q : x.arg with
      | none => rw [q] at e3; exact e3
      | some p =>
        rw [q] at e3
        obtain ⟨dx, v, e5, e6, r⟩ := e3
        exact ⟨dx, v, e5, upd_grow hD _ _ e6, r.up S hD⟩⟩
theorem Out.of {α β : Type} {m : Mm α} {f : α → Mm β} {h : Hm} {C : Res β → Prop} (hx : ∀ x h, ¬ C (.exn x h)) (hs : ¬ C .stuck) (c : C (mB m f h)) : Out K mg E g H (m h) fun a g' _ => C (f a g'.cs) := by
  unfold mB at c
  cases q : m h with
  | ok a h' =>
    rw [q] at c
    intro g' H' e _ _
    rw [e]; exact c
  | exn x h' => rw [q] at c; exact absurd c (hx x h')
  | stuck => rw [q] at c; exact absurd c hs
theorem wipe_wipe {vs : List Nat} {σ : L2.St} : wipe (wipe σ vs) vs = wipe σ vs := by
  apply List.ext_getElem?
  intro j
  rw [wipe_get, wipe_length, wipe_get]
  split <;> rfl
theorem RD.sub {g' : Gh} (h0 : ∀ a, own g' a → own g a) {d : PyData} {v : V} (h : RD K g H v d) : RD K g' H v d := by
  induction h using RD.rec (motive_2 := fun vs ds _ => RDs K g' H vs ds) with
  | non => exact .non
  | bl b => exact .bl b
  | int i => exact .int i
  | str x => exact .str x
  | lst h1 _ ih => exact .lst ⟨h1.1, fun z => h1.2 (h0 _ z)⟩ ih
  | tup h1 _ ih => exact .tup h1 ih
  | nil => exact .nil
  | cons _ _ i1 i2 => exact .cons i1 i2
theorem RDs.sub {g' : Gh} (h0 : ∀ a, own g' a → own g a) : ∀ {ds : List PyData} {vs : List V}, RDs K g H vs ds → RDs K g' H vs ds
  | _, _, .nil => .nil
  | _, _, .cons r t => .cons (r.sub h0) (RDs.sub h0 t)
theorem CellR.sub {g' : Gh} (h0 : ∀ a, own g' a → own g a) {c : Cell} {a : Addr} (h : CellR K g H c a) : CellR K g' H c a := by
  cases c with
  | lst ds => obtain ⟨vs, e, r⟩ := h; exact ⟨vs, e, r.sub h0⟩
theorem snoc_get {α : Type} {l : List α} {x y : α} {n : Nat} (h : (l ++ [x])[n]? = some y) : l[n]? = some y ∨ (n = l.length ∧ y = x) := by
  by_cases hn : n < l.length
  · rw [List.getElem?_append_left hn] at h; exact .inl h
  · rw [List.getElem?_append_right (by omega)] at h
    by_cases h0 : n - l.length = 0
    · rw [h0] at h
      exact .inr ⟨by omega, by simpa using h.symm⟩
    · rw [List.getElem?_eq_none (by simp; omega)] at h
      cases h
theorem adopt_own {l : List Addr} {D a : Addr} {c : Cell} (S : Sim K g H) (he : g.ex = D :: l) (h : own ⟨g.mu ++ [D], g.cs ++ [some c], l⟩ a) : own g a := by
  rcases h with ⟨n, c', h1, h2⟩ | h
  · rcases snoc_get h2 with q | ⟨_, q⟩
    · rcases snoc_get h1 with q1 | ⟨e1, _⟩
      · exact .inl ⟨n, c', q1, q⟩
      · have := (List.getElem?_eq_some_iff.mp q).1
        rw [S.len] at this
        omega
    · exact .inr (by rw [he, q]; exact List.mem_cons_self)
  · exact .inr (by rw [he]; exact List.mem_cons_of_mem _ h)
/-- an owned address becomes a cell -/
theorem Sim.adopt {l : List Addr} {D : Addr} {vs : List V} {ds : List PyData} (S : Sim K g H) (he : g.ex = D :: l) (hl : D ∉ l) (e : H D = some (.lst vs)) (r : RDs K g H vs ds) : Sim K ⟨g.mu ++ [D], g.cs ++ [some (.lst ds)], l⟩ H := by
  have h0 : ∀ a, own ⟨g.mu ++ [D], g.cs ++ [some (.lst ds)], l⟩ a → own g a := fun a h => adopt_own S he h
  have hD : D ∈ g.ex := by rw [he]; exact List.mem_cons_self
  refine ⟨?_, fun n c a h1 h2 => ?_, fun n m a h1 h2 => ?_, fun n a h => ?_, fun a ha => S.exm a (by rw [he]; exact List.mem_cons_of_mem _ ha), fun n a h => ?_, S.tabs⟩
  · show (g.mu ++ [D]).length = (g.cs ++ [some (Cell.lst ds)]).length
    rw [List.length_append, List.length_append, S.len]; rfl
  · rcases snoc_get h2 with q | ⟨e1, e2⟩
    · rcases snoc_get h1 with q1 | ⟨e1, _⟩
      · exact (S.cell n c a q1 q).sub h0
      · have := (List.getElem?_eq_some_iff.mp q).1
        rw [S.len] at this
        omega
    · rcases snoc_get h1 with q1 | ⟨_, e4⟩
      · have := (List.getElem?_eq_some_iff.mp q1).1
        rw [← S.len] at this
        omega
      · have e4 : c = Cell.lst ds := Option.some.inj e4
        subst e4 e2
        exact ⟨vs, e, r.sub h0⟩
  · rcases snoc_get h1 with q | ⟨e1, e2⟩ <;> rcases snoc_get h2 with q' | ⟨e1', e2'⟩
    · exact S.inj n m a q q'
    · subst e2'; exact absurd hD (S.exn n _ q)
    · subst e2; exact absurd hD (S.exn m _ q')
    · rw [e1, e1']
  · rcases snoc_get h with q | ⟨e1, e2⟩
    · exact S.trk n a q
    · rw [e2, e]; trivial
  · rcases snoc_get h with q | ⟨e1, e2⟩
    · exact fun z => S.exn n a q (by rw [he]; exact List.mem_cons_of_mem _ z)
    · rw [e2]; exact hl
end
def noX {α : Type} (m : Mm α) : Mm α := fun h => match m h with
  | .exn _ _ => .stuck
  | r => r

/-- a comprehension's own block knows nothing of a caught error -/
def noExc (ρ : Ro) : Ro := ρ.map fun o => match o with
  | some (.exc _) => none
  | o => o
theorem EnvR.noExc {K : PySem.W.Frag} {g : Gh} {H : Hp} {ρ : Ro} {σ : L2.St} (h : EnvR K cz g H ρ σ) : EnvR K none g H (noExc ρ) σ := by
  refine ⟨by unfold MK.noExc; rw [List.length_map]; exact h.1, fun i d e => ?_⟩
  unfold MK.noExc at e
  rw [List.getElem?_map] at e
  cases q : ρ[i]? with
  | none => rw [q] at e; cases e
  | some o =>
    rw [q] at e
    cases o with
    | none => cases e
    | some d' =>
      cases d' with
      | exc x => cases e
      | val d0 => cases e; exact h.2 i _ q
      | ref n => cases e; exact h.2 i _ q
      | rng lo hi => cases e; exact h.2 i _ q
/-- [elt for tg in it if ..]: a list, owned or by value -/
def eLc (o : Bool) (it : Im) (t : Gm) (c : Tm) (e : Em) (vs : List Nat) : Em := fun ρ => mB (it ρ) fun ds => mB (guard (decide (ds.length ≤ 10000))) fun _ => mB (noX (lcLoop t c e (wipeR (noExc ρ) vs) ds)) fun xs => mNew o xs
section
variable {X : Cx} {E : XK} {elt tg it : Expr} {ifs : List Expr} {mi : Im} {t : Gm} {tc : Tm} {te : Em} {pos : Pos} {scope : Scope} {own' : List (Str × Nat)} {o : Bool}
theorem PTswk {ifs : List Expr} {t t' : TT} (h : PTs X ifs t) (w : ∀ σ H Q, t' σ H Q → t σ H Q) : PTs X ifs t' := ⟨fun pins s σ H Q I q => h.run pins s σ H Q I (w σ H Q q)⟩
abbrev MTs (X : Cx) (E : XK) (ifs : List Expr) (m : Tm) : Prop := PTs X ifs (tT X.K (cx X) X.mg E m)
theorem mts_nil : MTs X E [] tYesM := PTswk pts_nil fun σ H Q ⟨g, ρ, S, V, o⟩ => o.pure S
theorem mts_one {c : Expr} (h : MT X E c tc) : MTs X E [c] tc := pts_one h
/-- what the rest of a loop comes to -/
def LoopC (K : PySem.W.Frag) (cz : Cxx) (mg : Mg) (E : XK) (g1 : Gh) (H1 : Hp) (o : Bool) (Q : VK) (acc : List PyData) : Res (List PyData) → Prop
  | .ok xs h' => Out K mg E g1 H1 (mNew o (acc ++ xs) h') fun d g' H' => ∀ v, RSV K cz g' H' v d → Q v H'
  | _ => False
theorem lc_read {vs : List Nat} {σ : L2.St} {H : Hp} {Q : VK} (q : tM X.K (cx X) X.mg E (eLc o mi t tc te vs) σ H Q) : tLc (tI X.K (cx X) X.mg E mi) (tG X.K none X.mg E0 vs t) (tT X.K none X.mg E0 tc) (tM X.K none X.mg E0 te) vs σ H Q := by
  obtain ⟨g, ρ, S, V, out⟩ := q
  refine ⟨g, ρ, S, V, out.bind.mono fun ds g1 H1 S1 L1 o1 J en D hD => ?_⟩
  obtain ⟨c, o1⟩ := guard_of S1 o1.bind
  have hlen := of_decide_eq_true c
  have V1 := V.mono S L1
  have hDl : D ∉ g1.ex := fun z => by have := S1.exm D z; rw [hD] at this; exact this
  -- the whole loop
  have C0 : LoopC X.K (cx X) X.mg E g1 H1 o Q [] (lcLoop t tc te (wipeR (noExc ρ) vs) ds g1.cs) := by
    unfold mB noX at o1
    cases q : lcLoop t tc te (wipeR (noExc ρ) vs) ds g1.cs with
    | ok xs h' => rw [q] at o1; exact o1
    | exn x h' => rw [q] at o1; exact o1.elim
    | stuck => rw [q] at o1; exact o1.elim
  let Wp : Nat → Hp → Prop := fun i H => i ≤ ds.length ∧ ∃ g vacc acc, Sim X.K g H ∧ g.ex = D :: g1.ex ∧ Le g1 H1 ⟨g.mu, g.cs, g1.ex⟩ H ∧ H D = some (.lst vacc) ∧ RDs X.K g H vacc acc ∧ acc.length ≤ i ∧
    EnvR X.K none g H (wipeR (noExc ρ) vs) (wipe σ vs) ∧ Kp X.K g1 H1 g H ∧ LoopC X.K (cx X) X.mg E g1 H1 o Q acc (lcLoop t tc te (wipeR (noExc ρ) vs) (ds.drop i) g.cs)
  have K0 : Kp X.K g1 H1 ⟨g1.mu, g1.cs, D :: g1.ex⟩ (upd H1 D (.lst [])) := ⟨fun h => h.up S1 hD, fun h => upd_grow hD _ _ h⟩
  refine ⟨fun i m H => m = ds.length - i ∧ Wp i H, ⟨ds.length, by simp, Nat.zero_le _, ⟨g1.mu, g1.cs, D :: g1.ex⟩, [], [], S1.more hD trivial, rfl, (S1.laid hD).2, upd_same, .nil, Nat.zero_le _, (V1.noExc.wipe vs).up S1 hD, K0, C0⟩, ?_⟩
  rintro i m H2 ⟨rfl, hi, g2, vacc, acc, S2, x2, L2, d2, r2, a2, V2, K2, C2⟩
  have hDx : D ∈ g2.ex := by rw [x2]; exact List.mem_cons_self
  have en2 := en g2 H2 S2 K2
  by_cases hlt : i < ds.length
  · right
    have hd : ds[i]? = some ds[i] := List.getElem?_eq_getElem hlt
    obtain ⟨go, yl⟩ := en2.1 i _ hd
    rw [List.drop_eq_getElem_cons hlt] at C2
    refine ⟨go, fun H' => Wp (i + 1) H', fun H' q => ⟨ds.length - (i + 1), by omega, rfl, q⟩, fun x H3 y3 => ?_⟩
    obtain ⟨S3, L3, r3⟩ := yl x H3 y3
    have nx : ∀ {x h}, ¬ LoopC X.K (cx X) X.mg E g1 H1 o Q acc (.exn x h) := fun z => z
    have ns : ¬ LoopC X.K (cx X) X.mg E g1 H1 o Q acc .stuck := fun z => z
    unfold lcLoop at C2
    refine ⟨g2, wipeR (noExc ρ) vs, .val ds[i], S3, V2.mono S2 L3, r3, (Out.of (fun _ _ => nx) ns C2).mono fun ρ4 g4 H4 S4 L4 C4 σ4 V4 w4 => ?_⟩
    refine ⟨w4.trans wipe_wipe, g4, ρ4, S4, V4, (Out.of (fun _ _ => nx) ns C4).mono fun b g5 H5 S5 L5 C5 => ?_⟩
    have L35 := L3.trans (L4.trans L5)
    cases b with
    | false =>
      refine iteF ?_
      have d5 : H5 D = some (.lst vacc) := (L35.exk D hDx).trans d2
      exact ⟨hlt, g5, vacc, acc, S5, L35.exe.trans x2, L2.dropTrans rfl hD x2 L35, d5, r2.mono S2 L35, by omega, V2.mono S2 L35, K2.trans (.of S2 L35), C5⟩
    | true =>
      refine iteT ?_
      refine ⟨g5, ρ4, S5, V4.mono S4 L5, (Out.of (fun _ _ => nx) ns C5).mono fun y g6 H6 S6 L6 C6 v rv => ?_⟩
      have L36 := L35.trans L6
      have d6 : H6 D = some (.lst vacc) := (L36.exk D hDx).trans d2
      have x6 := L36.exe.trans x2
      have hDx6 : D ∈ g6.ex := by rw [x6]; exact List.mem_cons_self
      have r6 := r2.mono S2 L36
      refine ⟨vacc, d6, ?_, ?_⟩
      · rw [r6.length, sizeLine_eq]; omega
      · cases y with
        | ref n => exact C6.elim
        | rng l h => exact C6.elim
        | exc _ => exact C6.elim
        | val yd =>
          have C6 : LoopC X.K (cx X) X.mg E g1 H1 o Q acc (mB (lcLoop t tc te (wipeR (noExc ρ) vs) (ds.drop (i + 1))) (fun r => mP (yd :: r)) g6.cs) := C6
          refine ⟨hlt, g6, vacc ++ [v], acc ++ [yd], S6.exw hDx6 ⟨_, d6⟩ trivial, x6, ?_, upd_same, (r6.exw S6 hDx6).append (RDs.one (RD.exw S6 hDx6 rv)), by rw [List.length_append]; simp; omega, (V2.mono S2 L36).exw S6 hDx6, ?_, ?_⟩
          · have L26 := L2.dropTrans rfl hD x2 L36
            refine ⟨L26.pre, fun a u h t n => ?_, rfl, fun a ha => ?_, fun a h => ?_⟩
            · rw [upd_ne (ne_of_none h hD)]; exact L26.keep a u h t n
            · rw [upd_ne (show a ≠ D from fun z => hDl (by rw [← z]; exact ha))]; exact L26.exk a ha
            · rw [upd_ne (fun z => h.some (by rw [z]; exact hD))]; exact L26.trk a h
          · refine ⟨fun h => RD.exw S6 hDx6 ((K2.trans (.of S2 L36)).rd h), fun {a lo hi} h => ?_⟩
            rw [upd_ne (ne_of_none h hD)]
            exact (K2.trans (.of S2 L36)).rng h
          · unfold mB at C6
            cases q : lcLoop t tc te (wipeR (noExc ρ) vs) (ds.drop (i + 1)) g6.cs with
            | ok xs h' =>
              rw [q] at C6
              have C6 : Out X.K X.mg E g1 H1 (mNew o (acc ++ (yd :: xs)) h') fun d g' H' => ∀ v, RSV X.K (cx X) g' H' v d → Q v H' := C6
              show Out X.K X.mg E g1 H1 (mNew o ((acc ++ [yd]) ++ xs) h') fun d g' H' => ∀ v, RSV X.K (cx X) g' H' v d → Q v H'
              rw [List.append_assoc]
              exact C6
            | exn x h' => rw [q] at C6; exact C6.elim
            | stuck => rw [q] at C6; exact C6.elim
  · left
    have e : i = ds.length := by omega
    rw [e, List.drop_length] at C2
    refine ⟨by rw [e]; exact en2.2, ?_⟩
    have C2 : Out X.K X.mg E g1 H1 (mNew o (acc ++ []) g2.cs) fun d g' H' => ∀ v, RSV X.K (cx X) g' H' v d → Q v H' := C2
    rw [List.append_nil] at C2
    cases o with
    | true =>
      refine C2 ⟨g2.mu ++ [D], g2.cs ++ [some (.lst acc)], g1.ex⟩ H2 rfl (S2.adopt x2 hDl d2 r2) ⟨fun n a h => ?_, fun a u h t n => ?_, rfl, L2.exk, L2.trk⟩ _ ⟨D, rfl, ?_⟩
      · show (g2.mu ++ [D])[n]? = some a
        have q := L2.pre n a h
        have q : g2.mu[n]? = some a := q
        rw [List.getElem?_append_left (List.getElem?_eq_some_iff.mp q).1]
        exact q
      · obtain ⟨h1, h2⟩ := L2.keep a u h t n
        exact ⟨h1, fun q => (own_drop x2 (adopt_own S2 x2 q)).elim h2 (ne_of_none h hD)⟩
      · show (g2.mu ++ [D])[g2.cs.length]? = some D
        rw [← S2.len, List.getElem?_append_right (Nat.le_refl _), Nat.sub_self]
        rfl
    | false =>
      refine C2 ⟨g2.mu, g2.cs, g1.ex⟩ H2 rfl (S2.less x2) L2 _ (RD.lst ⟨.inl d2, fun q => ?_⟩ (r2.less x2))
      rcases q with ⟨n, c', _, h2⟩ | q
      · exact S2.exn n D h2 hDx
      · exact hDl q
theorem me_lc (hc : X.calm = true) (hN : X.N.Nodup) (hi : MI X E tg it mi) (ok : BlkOk X.N X.env.scope scope own')
    (hg : ∀ (s : Shared) (H : Hp) (C : Addr) (cl : List (Str × Addr)) (fp : List Addr), MG (X.blk s H scope (compEnvC scope cl C X.env) fp) E0 (own'.map (·.2)) tg t)
    (ht : ∀ (s : Shared) (H : Hp) (C : Addr) (cl : List (Str × Addr)) (fp : List Addr), MTs (X.blk s H scope (compEnvC scope cl C X.env) fp) E0 ifs tc)
    (he : ∀ (s : Shared) (H : Hp) (C : Addr) (cl : List (Str × Addr)) (fp : List Addr), ME (X.blk s H scope (compEnvC scope cl C X.env) fp) E0 elt te)
    (hs : ∀ x, foldedSetIterable it X.env x = pure x) : ME X E (.ListComp elt [⟨tg, it, ifs, 0⟩] scope pos) (eLc o mi t tc te (own'.map (·.2))) := by
  exact PEwk (pe_lc (g := tG X.K none X.mg E0 (own'.map fun p : Str × Nat => p.2) t) (tt := tT X.K none X.mg E0 tc) (te := tM X.K none X.mg E0 te) hc hN hi ok hg ht he hs) fun σ H Q q => lc_read q
end
end MK
set_option Elab.async false
set_option linter.all false
set_option maxRecDepth 100000
set_option maxHeartbeats 2000000
/-! MKg: what is walked: lists, tuples, ranges, enumerate, zip. -/
namespace MK
open PySem PySem.Spec PyProof.Rows L2
variable {cz : Cxx} [Tb]

/-! ### one source: a list or a tuple -/
def SeqS (b : Bool) (h : Heap) (a : Addr) (its : Array Value) : Prop := match b with
  | true => h.IsTuple a its
  | false => h.IsList a its
def IterS (b : Bool) (h : Heap) (it a : Addr) (i : Nat) : Prop := match b with
  | true => h.IsTupleIter it a i
  | false => h.IsListIter it a i
def iterO (b : Bool) (a : Addr) : Obj := match b with
  | true => { cls := .type "tuple_iterator", data := .fields #[.ref a, .int 0 0] }
  | false => { cls := .type "list_iterator", data := .fields #[.ref a, .int 0 0] }
def SqS (b : Bool) (K : PySem.W.Frag) (H : Hp) (a : Addr) (xs : List V) : Prop := match b with
  | true => SqT K H a xs
  | false => SqL K H a xs
theorem draws_s {P : Program} {w : World} {A : Around} (hh : A.handled = none) (b : Bool) (it a : Addr) (hne : a ≠ it) (its : Array Value) : Draws P w A it [it, a] its.size (fun i v => its[i]? = some v) (fun i h => IterS b h it a i ∧ SeqS b h a its) := by
  cases b with
  | true => exact Draws.tuple hh it a hne its
  | false => exact Draws.list hh it a hne its
theorem begins_s (b : Bool) (a : Addr) (its : Array Value) : Begins (.ref a) (iterO b a) fun h => SeqS b h a its := by
  cases b with
  | true => exact begins_tuple a its
  | false => exact begins_list a its
theorem iter_s {b : Bool} {h : Heap} {it a : Addr} (e : h.get? it = some (iterO b a)) : IterS b h it a 0 := by
  cases b with
  | true => exact ⟨_, e, rfl, rfl⟩
  | false => exact ⟨_, e, rfl, rfl⟩
theorem IterS.keep {b : Bool} {h h' : Heap} {it a : Addr} {i : Nat} (x : IterS b h it a i) (k : ∀ o, h.get? it = some o → h'.get? it = some o) : IterS b h' it a i := by
  cases b with
  | true => exact Heap.IsTupleIter.at x k
  | false => exact Heap.IsListIter.at x k
theorem IterS.obj {b : Bool} {h : Heap} {it a : Addr} {i : Nat} (x : IterS b h it a i) : ∃ o, h.get? it = some o ∧ ∀ v, o.data ≠ .cell v := by
  cases b with
  | true => obtain ⟨o, e, _, d⟩ := x; exact ⟨o, e, fun v q => by rw [d] at q; cases q⟩
  | false => obtain ⟨o, e, _, d⟩ := x; exact ⟨o, e, fun v q => by rw [d] at q; cases q⟩
section
variable {X : Cx} {pins : List (Addr × Obj)} {σ : L2.St} {H : Hp} {s : Shared}
theorem sq_items {b : Bool} {a : Addr} {xs : List V} (I : Inv X pins σ H s) (h : SqS b X.K H a xs) : ∃ its : List Value, Vals xs its ∧ SeqS b s.heap a its.toArray := by
  cases b with
  | true => obtain ⟨its, rv, p, _⟩ := I.tuple h; exact ⟨its, rv, p⟩
  | false => obtain ⟨its, rv, p, _⟩ := I.list h; exact ⟨its, rv, p.isList⟩
theorem sq_inj {b : Bool} {a : Addr} {xs ys : List V} (I : Inv X pins σ H s) (h : SqS b X.K H a xs) (h' : SqS b X.K H a ys) : xs = ys := by
  cases b with
  | true => exact I.tuple_inj h h'
  | false => exact I.list_inj h h'
theorem seq_lt {b : Bool} {h : Heap} {a : Addr} {its : Array Value} (x : SeqS b h a its) : a < h.objs.size := by
  cases b with
  | true => exact IsTup.lt x
  | false => obtain ⟨o, e, _⟩ := x; exact Heap.lt_size e
end
/-- enumerate over one source -/
def IteS (K : PySem.W.Frag) (b : Bool) (a : Addr) : It :=
  ⟨fun i H => ∃ (xs : List V) (x : V), SqS b K H a xs ∧ xs[i]? = some x, fun i H v H' => ∃ T x, v = .ref T ∧ H T = none ∧ H' = upd H T (.tup [.int (i : Nat), x]) ∧ ∀ xs, SqS b K H a xs → xs[i]? = some x, fun i H => ∃ xs : List V, SqS b K H a xs ∧ xs.length = i⟩
theorem turn_enumS {P : Program} {w : World} {K : PySem.W.Frag} {elts : List Expr} {kk : Nat} {tpos : Pos} (b : Bool) (a e it : Addr) (hei : e ≠ it) (hea : e ≠ a) (hia : it ≠ a) :
    Turn P w K (.Tuple elts kk tpos) (IteS K b a) [e, it] e (fun i h => (∃ old, IsEnum h e it ((0 : Int) + (i : Int)) old) ∧ IterS b h it a i) where
  mem := by simp
  obj := fun i h st c hc => by
    obtain ⟨⟨old, he⟩, hi⟩ := st
    have e' : c = e ∨ c = it := by simpa using hc
    rcases e' with z | z
    · rw [z]; exact ⟨_, he, fun v q => nomatch q⟩
    · rw [z]; exact hi.obj
  keep := fun i h h' st k => ⟨let ⟨old, he⟩ := st.1; ⟨old, k e (by simp) _ he⟩, st.2.keep fun o q => k it (by simp) o q⟩
  item := by
    intro X hP hw hK hc i pins s σ H E I hf st hg
    subst hP hw hK
    obtain ⟨xs, x, hq, hx⟩ := hg
    obtain ⟨its, rv, p⟩ := sq_items I hq
    obtain ⟨u, hu, ru⟩ := rv.get hx
    have W := GoesN.enumFrom (elts := elts) (x1 := kk) (pos := tpos) 0 (draws_s (P := X.prog) (w := X.w) (A := X.A.in1) (I.ok.hd hc) b it a (Ne.symm hia) its.toArray) e hei (by simp [hei, hea]) (by simp)
    have hi : i < its.toArray.size := by
      have := (List.getElem?_eq_some_iff.mp hu).1
      simpa using this
    refine W.goes i s _ E hi ⟨st.1, st.2, p⟩ fun v h' tk hY st' hk htk => ?_
    obtain ⟨T, t, y, rfl, hT, hy, hIs⟩ := hY
    have ey : y = u := by
      have hu' : its.toArray[i]? = some u := by simpa using hu
      rw [hu'] at hy
      exact (Option.some.inj hy).symm
    subst ey
    have hTn : H T = none := I.hok.fresh hT
    have new : ObjOk X.prog X.w (upd H T (.tup [.int (i : Nat), x])) h' T (.tup [.int (i : Nat), x]) :=
      ⟨by show 2 ≤ sizeLine; decide, [.int ((0 : Int) + (i : Int)) t, y], .cons ⟨t, by simp⟩ (.cons ru .nil), hIs⟩
    have I1 : Inv X pins σ (upd H T (.tup [.int (i : Nat), x])) { s with heap := h', toks := tk } := I.turnedNew (ch := [e, it]) (fun c ob hb q => hk c ob (by simpa using hb) q) hf hT new
    refine ⟨.ref T, _, I1, rfl, ⟨T, x, rfl, hTn, rfl, fun ys hy => by rw [sq_inj I hy hq]; exact hx⟩, ⟨st'.1, st'.2.1⟩, fun c hcm => ?_⟩
    have hne : c ≠ T := by
      intro z
      rw [z] at hcm
      have e' : T = e ∨ T = it := by simpa using hcm
      rcases e' with q | q
      · obtain ⟨old, he⟩ := st.1
        have := Heap.lt_size he
        rw [q] at hT; exact absurd (Nat.lt_of_lt_of_le this hT) (Nat.lt_irrefl _)
      · obtain ⟨o, he, _⟩ := st.2.obj
        have := Heap.lt_size he
        rw [q] at hT; exact absurd (Nat.lt_of_lt_of_le this hT) (Nat.lt_irrefl _)
    rw [upd_ne hne]
    exact (hf c hcm).1
  done := by
    intro X hP hw hK hc i pins s σ H E I hf st hg
    subst hP hw hK
    obtain ⟨xs, hq, hx⟩ := hg
    obtain ⟨its, rv, p⟩ := sq_items I hq
    have W := GoesN.enumFrom (elts := elts) (x1 := kk) (pos := tpos) 0 (draws_s (P := X.prog) (w := X.w) (A := X.A.in1) (I.ok.hd hc) b it a (Ne.symm hia) its.toArray) e hei (by simp [hei, hea]) (by simp)
    have hi : i = its.toArray.size := by rw [← hx, rv.length]; simp
    subst hi
    exact W.stops s _ E ⟨st.1, st.2, p⟩ fun h' tk hk htk => I.turnedL (ch := [e, it]) (fun c o hb q => hk c o (by simpa using hb) q) hf
  self := fun A i s Q E st h => let ⟨⟨_, he⟩, _⟩ := st; wpAny_pyIter_enum he h
/-- zip over two sources -/
def ItzS (K : PySem.W.Frag) (b1 b2 : Bool) (a1 a2 : Addr) : It :=
  ⟨fun i H => ∃ (xs ys : List V) (x y : V), SqS b1 K H a1 xs ∧ SqS b2 K H a2 ys ∧ xs[i]? = some x ∧ ys[i]? = some y,
    fun i H v H' => ∃ T x y, v = .ref T ∧ H T = none ∧ H' = upd H T (.tup [x, y]) ∧ (∀ xs, SqS b1 K H a1 xs → xs[i]? = some x) ∧ ∀ ys, SqS b2 K H a2 ys → ys[i]? = some y,
    fun i H => ∃ xs ys : List V, SqS b1 K H a1 xs ∧ SqS b2 K H a2 ys ∧ min xs.length ys.length = i⟩
theorem turn_zipS {P : Program} {w : World} {K : PySem.W.Frag} {elts : List Expr} {kk : Nat} {tpos : Pos} (b1 b2 : Bool) (a1 a2 z TI TO i1 i2 : Addr) (S : ZipSep2 z TI TO i1 i2 [i1, a1] [i2, a2]) (h1 : a1 ≠ i1) (h2 : a2 ≠ i2) :
    Turn P w K (.Tuple elts kk tpos) (ItzS K b1 b2 a1 a2) [z, TI, TO, i1, i2] z (fun i h => IsZip h z TI TO .none ∧ IsTupOf2 h TI (.ref i1) (.ref i2) ∧ (∃ x y, IsTupOf2 h TO x y) ∧ IterS b1 h i1 a1 i ∧ IterS b2 h i2 a2 i) where
  mem := by simp
  obj := fun i h st c hc => by
    obtain ⟨hz, hTI, ⟨x, y, hTO⟩, g1, g2⟩ := st
    have e' : c = z ∨ c = TI ∨ c = TO ∨ c = i1 ∨ c = i2 := by simpa using hc
    rcases e' with q | q | q | q | q
    · rw [q]; exact ⟨_, hz, fun v q => nomatch q⟩
    · rw [q]; exact ⟨_, hTI, fun v q => nomatch q⟩
    · rw [q]; exact ⟨_, hTO, fun v q => nomatch q⟩
    · rw [q]; exact g1.obj
    · rw [q]; exact g2.obj
  keep := fun i h h' st k => by
    obtain ⟨hz, hTI, ⟨x, y, hTO⟩, g1, g2⟩ := st
    exact ⟨k z (by simp) _ hz, k TI (by simp) _ hTI, ⟨x, y, k TO (by simp) _ hTO⟩, g1.keep fun o q => k i1 (by simp) o q, g2.keep fun o q => k i2 (by simp) o q⟩
  item := by
    intro X hP hw hK hc i pins s σ H E I hf st hg
    subst hP hw hK
    obtain ⟨xs, ys, x, y, hqx, hqy, hx, hy⟩ := hg
    obtain ⟨its, rv, p⟩ := sq_items I hqx
    obtain ⟨its2, rv2, p2⟩ := sq_items I hqy
    obtain ⟨u, hu, ru⟩ := rv.get hx
    obtain ⟨u2, hu2, ru2⟩ := rv2.get hy
    have W := GoesN.zip2 (elts := elts) (x1 := kk) (pos := tpos) S (draws_s (P := X.prog) (w := X.w) (A := X.A.in1) (I.ok.hd hc) b1 i1 a1 h1 its.toArray) (draws_s (P := X.prog) (w := X.w) (A := X.A.in1) (I.ok.hd hc) b2 i2 a2 h2 its2.toArray)
    have hi : i < min its.toArray.size its2.toArray.size := by
      have q1 := (List.getElem?_eq_some_iff.mp hu).1
      have q2 := (List.getElem?_eq_some_iff.mp hu2).1
      rw [List.size_toArray, List.size_toArray]
      omega
    refine W.goes i s _ E hi ⟨st.1, st.2.1, st.2.2.1, ⟨st.2.2.2.1, p⟩, ⟨st.2.2.2.2, p2⟩⟩ fun v h' tk hY st' hk htk => ?_
    obtain ⟨T, v1, v2, rfl, hT, hv1, hv2, hIs⟩ := hY
    have e1 : v1 = u := by
      have hu' : its.toArray[i]? = some u := by simpa using hu
      rw [hu'] at hv1
      exact (Option.some.inj hv1).symm
    have e2 : v2 = u2 := by
      have hu' : its2.toArray[i]? = some u2 := by simpa using hu2
      rw [hu'] at hv2
      exact (Option.some.inj hv2).symm
    subst e1 e2
    have hTn : H T = none := I.hok.fresh hT
    have new : ObjOk X.prog X.w (upd H T (.tup [x, y])) h' T (.tup [x, y]) := ⟨by show 2 ≤ sizeLine; decide, [v1, v2], .cons ru (.cons ru2 .nil), hIs⟩
    have I1 : Inv X pins σ (upd H T (.tup [x, y])) { s with heap := h', toks := tk } := I.turnedNew (ch := [z, TI, TO, i1, i2]) (fun c ob hb q => hk c ob (fun q2 => hb (by simp at q2 ⊢; rcases q2 with q2 | q2 | q2 | q2 <;> simp [q2])) q) hf hT new
    refine ⟨.ref T, _, I1, rfl, ⟨T, x, y, rfl, hTn, rfl, fun ys hy => by rw [sq_inj I hy hqx]; exact hx, fun l hl => by rw [sq_inj I hl hqy]; exact hy⟩, ⟨st'.1, st'.2.1, st'.2.2.1, st'.2.2.2.1.1, st'.2.2.2.2.1⟩, fun c hcm => ?_⟩
    have hne : c ≠ T := by
      intro q0
      obtain ⟨hz, hTI, ⟨x, y, hTO⟩, g1, g2⟩ := st
      obtain ⟨o1, ho1, _⟩ := g1.obj
      obtain ⟨o2, ho2, _⟩ := g2.obj
      have e' : c = z ∨ c = TI ∨ c = TO ∨ c = i1 ∨ c = i2 := by simpa using hcm
      have lt : c < s.heap.objs.size := by
        rcases e' with q | q | q | q | q
        · rw [q]; exact Heap.lt_size hz
        · rw [q]; exact Heap.lt_size hTI
        · rw [q]; exact Heap.lt_size hTO
        · rw [q]; exact Heap.lt_size ho1
        · rw [q]; exact Heap.lt_size ho2
      rw [q0] at lt
      exact absurd (Nat.lt_of_lt_of_le lt hT) (Nat.lt_irrefl _)
    rw [upd_ne hne]
    exact (hf c hcm).1
  done := by
    intro X hP hw hK hc i pins s σ H E I hf st hg
    subst hP hw hK
    obtain ⟨xs, ys, hqx, hqy, hx⟩ := hg
    obtain ⟨its, rv, p⟩ := sq_items I hqx
    obtain ⟨its2, rv2, p2⟩ := sq_items I hqy
    have W := GoesN.zip2 (elts := elts) (x1 := kk) (pos := tpos) S (draws_s (P := X.prog) (w := X.w) (A := X.A.in1) (I.ok.hd hc) b1 i1 a1 h1 its.toArray) (draws_s (P := X.prog) (w := X.w) (A := X.A.in1) (I.ok.hd hc) b2 i2 a2 h2 its2.toArray)
    have hi : i = min its.toArray.size its2.toArray.size := by rw [← hx, rv.length, rv2.length]; simp
    subst hi
    exact W.stops s _ E ⟨st.1, st.2.1, st.2.2.1, ⟨st.2.2.2.1, p⟩, ⟨st.2.2.2.2, p2⟩⟩ fun h' tk hk htk => I.turnedL (ch := [z, TI, TO, i1, i2]) (fun c o hb q => hk c o (fun q2 => hb (by simp at q2 ⊢; rcases q2 with q2 | q2 | q2 | q2 <;> simp [q2])) q) hf
  self := fun A i s Q E st h => wpAny_pyIter_zip st.1 h

/-- zip over three sources -/
def ItzS3 (K : PySem.W.Frag) (b1 b2 b3 : Bool) (a1 a2 a3 : Addr) : It :=
  ⟨fun i H => ∃ (xs ys zs : List V) (x y z : V), SqS b1 K H a1 xs ∧ SqS b2 K H a2 ys ∧ SqS b3 K H a3 zs ∧ xs[i]? = some x ∧ ys[i]? = some y ∧ zs[i]? = some z,
    fun i H v H' => ∃ T x y z, v = .ref T ∧ H T = none ∧ H' = upd H T (.tup [x, y, z]) ∧ (∀ xs, SqS b1 K H a1 xs → xs[i]? = some x) ∧ (∀ ys, SqS b2 K H a2 ys → ys[i]? = some y) ∧ ∀ ys, SqS b3 K H a3 ys → ys[i]? = some z,
    fun i H => ∃ xs ys zs : List V, SqS b1 K H a1 xs ∧ SqS b2 K H a2 ys ∧ SqS b3 K H a3 zs ∧ min (min xs.length ys.length) zs.length = i⟩
theorem turn_zipS3 {P : Program} {w : World} {K : PySem.W.Frag} {elts : List Expr} {kk : Nat} {tpos : Pos} (b1 b2 b3 : Bool) (a1 a2 a3 z TI TO i1 i2 i3 : Addr) (S : ZipSep3 z TI TO i1 i2 i3 [i1, a1] [i2, a2] [i3, a3]) (h1 : a1 ≠ i1) (h2 : a2 ≠ i2) (h3 : a3 ≠ i3) :
    Turn P w K (.Tuple elts kk tpos) (ItzS3 K b1 b2 b3 a1 a2 a3) [z, TI, TO, i1, i2, i3] z (fun i h => IsZip h z TI TO .none ∧ IsTupOf3 h TI (.ref i1) (.ref i2) (.ref i3) ∧ (∃ x y u, IsTupOf3 h TO x y u) ∧ IterS b1 h i1 a1 i ∧ IterS b2 h i2 a2 i ∧ IterS b3 h i3 a3 i) where
  mem := by simp
  obj := fun i h st c hc => by
    obtain ⟨hz, hTI, ⟨x, y, u, hTO⟩, g1, g2, g3⟩ := st
    have e' : c = z ∨ c = TI ∨ c = TO ∨ c = i1 ∨ c = i2 ∨ c = i3 := by simpa using hc
    rcases e' with q | q | q | q | q | q
    · rw [q]; exact ⟨_, hz, fun v q => nomatch q⟩
    · rw [q]; exact ⟨_, hTI, fun v q => nomatch q⟩
    · rw [q]; exact ⟨_, hTO, fun v q => nomatch q⟩
    · rw [q]; exact g1.obj
    · rw [q]; exact g2.obj
    · rw [q]; exact g3.obj
  keep := fun i h h' st k => by
    obtain ⟨hz, hTI, ⟨x, y, u, hTO⟩, g1, g2, g3⟩ := st
    exact ⟨k z (by simp) _ hz, k TI (by simp) _ hTI, ⟨x, y, u, k TO (by simp) _ hTO⟩, g1.keep fun o q => k i1 (by simp) o q, g2.keep fun o q => k i2 (by simp) o q, g3.keep fun o q => k i3 (by simp) o q⟩
  item := by
    intro X hP hw hK hc i pins s σ H E I hf st hg
    subst hP hw hK
    obtain ⟨xs, ys, zs, x, y, zz, hqx, hqy, hqz, hx, hy, hz0⟩ := hg
    obtain ⟨its, rv, p⟩ := sq_items I hqx
    obtain ⟨its2, rv2, p2⟩ := sq_items I hqy
    obtain ⟨its3, rv3, p3⟩ := sq_items I hqz
    obtain ⟨u, hu, ru⟩ := rv.get hx
    obtain ⟨u2, hu2, ru2⟩ := rv2.get hy
    obtain ⟨u3, hu3, ru3⟩ := rv3.get hz0
    have W := GoesN.zip3 (elts := elts) (x1 := kk) (pos := tpos) S (draws_s (P := X.prog) (w := X.w) (A := X.A.in1) (I.ok.hd hc) b1 i1 a1 h1 its.toArray) (draws_s (P := X.prog) (w := X.w) (A := X.A.in1) (I.ok.hd hc) b2 i2 a2 h2 its2.toArray)
      (draws_s (P := X.prog) (w := X.w) (A := X.A.in1) (I.ok.hd hc) b3 i3 a3 h3 its3.toArray)
    have hi : i < min (min its.toArray.size its2.toArray.size) its3.toArray.size := by
      have q1 := (List.getElem?_eq_some_iff.mp hu).1
      have q2 := (List.getElem?_eq_some_iff.mp hu2).1
      have q3 := (List.getElem?_eq_some_iff.mp hu3).1
      rw [List.size_toArray, List.size_toArray, List.size_toArray]
      omega
    refine W.goes i s _ E hi ⟨st.1, st.2.1, st.2.2.1, ⟨st.2.2.2.1, p⟩, ⟨st.2.2.2.2.1, p2⟩, ⟨st.2.2.2.2.2, p3⟩⟩ fun v h' tk hY st' hk htk => ?_
    obtain ⟨T, v1, v2, v3, rfl, hT, hv1, hv2, hv3, hIs⟩ := hY
    have e1 : v1 = u := by
      have hu' : its.toArray[i]? = some u := by simpa using hu
      rw [hu'] at hv1
      exact (Option.some.inj hv1).symm
    have e2 : v2 = u2 := by
      have hu' : its2.toArray[i]? = some u2 := by simpa using hu2
      rw [hu'] at hv2
      exact (Option.some.inj hv2).symm
    have e3 : v3 = u3 := by
      have hu' : its3.toArray[i]? = some u3 := by simpa using hu3
      rw [hu'] at hv3
      exact (Option.some.inj hv3).symm
    subst e1 e2 e3
    have hTn : H T = none := I.hok.fresh hT
    have new : ObjOk X.prog X.w (upd H T (.tup [x, y, zz])) h' T (.tup [x, y, zz]) := ⟨by show 3 ≤ sizeLine; decide, [v1, v2, v3], .cons ru (.cons ru2 (.cons ru3 .nil)), hIs⟩
    have I1 : Inv X pins σ (upd H T (.tup [x, y, zz])) { s with heap := h', toks := tk } := I.turnedNew (ch := [z, TI, TO, i1, i2, i3]) (fun c ob hb q => hk c ob (fun q2 => hb (by simp at q2 ⊢; rcases q2 with q2 | q2 | q2 | q2 | q2 <;> simp [q2])) q) hf hT new
    refine ⟨.ref T, _, I1, rfl, ⟨T, x, y, zz, rfl, hTn, rfl, fun ys hy => by rw [sq_inj I hy hqx]; exact hx, fun l hl => by rw [sq_inj I hl hqy]; exact hy, fun l hl => by rw [sq_inj I hl hqz]; exact hz0⟩, ⟨st'.1, st'.2.1, st'.2.2.1, st'.2.2.2.1.1, st'.2.2.2.2.1.1, st'.2.2.2.2.2.1⟩, fun c hcm => ?_⟩
    have hne : c ≠ T := by
      intro q0
      obtain ⟨hz, hTI, ⟨x, y, u, hTO⟩, g1, g2, g3⟩ := st
      obtain ⟨o1, ho1, _⟩ := g1.obj
      obtain ⟨o2, ho2, _⟩ := g2.obj
      obtain ⟨o3, ho3, _⟩ := g3.obj
      have e' : c = z ∨ c = TI ∨ c = TO ∨ c = i1 ∨ c = i2 ∨ c = i3 := by simpa using hcm
      have lt : c < s.heap.objs.size := by
        rcases e' with q | q | q | q | q | q
        · rw [q]; exact Heap.lt_size hz
        · rw [q]; exact Heap.lt_size hTI
        · rw [q]; exact Heap.lt_size hTO
        · rw [q]; exact Heap.lt_size ho1
        · rw [q]; exact Heap.lt_size ho2
        · rw [q]; exact Heap.lt_size ho3
      rw [q0] at lt
      exact absurd (Nat.lt_of_lt_of_le lt hT) (Nat.lt_irrefl _)
    rw [upd_ne hne]
    exact (hf c hcm).1
  done := by
    intro X hP hw hK hc i pins s σ H E I hf st hg
    subst hP hw hK
    obtain ⟨xs, ys, zs, hqx, hqy, hqz, hx⟩ := hg
    obtain ⟨its, rv, p⟩ := sq_items I hqx
    obtain ⟨its2, rv2, p2⟩ := sq_items I hqy
    obtain ⟨its3, rv3, p3⟩ := sq_items I hqz
    have W := GoesN.zip3 (elts := elts) (x1 := kk) (pos := tpos) S (draws_s (P := X.prog) (w := X.w) (A := X.A.in1) (I.ok.hd hc) b1 i1 a1 h1 its.toArray) (draws_s (P := X.prog) (w := X.w) (A := X.A.in1) (I.ok.hd hc) b2 i2 a2 h2 its2.toArray)
      (draws_s (P := X.prog) (w := X.w) (A := X.A.in1) (I.ok.hd hc) b3 i3 a3 h3 its3.toArray)
    have hi : i = min (min its.toArray.size its2.toArray.size) its3.toArray.size := by rw [← hx, rv.length, rv2.length, rv3.length]; simp
    subst hi
    exact W.stops s _ E ⟨st.1, st.2.1, st.2.2.1, ⟨st.2.2.2.1, p⟩, ⟨st.2.2.2.2.1, p2⟩, ⟨st.2.2.2.2.2, p3⟩⟩ fun h' tk hk htk => I.turnedL (ch := [z, TI, TO, i1, i2, i3]) (fun c o hb q => hk c o (fun q2 => hb (by simp at q2 ⊢; rcases q2 with q2 | q2 | q2 | q2 | q2 <;> simp [q2])) q) hf
  self := fun A i s Q E st h => wpAny_pyIter_zip st.1 h

/-! ### enumerate(v) by its one argument -/
set_option maxHeartbeats 2000000 in
theorem meets_enumerate_new1 {v : Value} {o : Obj} {H : Heap → Prop} (B : Begins v o H) :
    Meets (Builtin.«enumerate.__new__» ⟨[.type "enumerate", v], []⟩) (fun _ R s => H s.heap ∧
      R (.ok (.ret (.ref (s.heap.push o).objs.size))) { s with heap := (s.heap.push o).push { cls := .type "enumerate", data := .fields #[.none, .bool false, .ref s.heap.objs.size, rawInt 0, .none, .none] } }) :=
  .of_wp fun prog w A R s h => by
    obtain ⟨hp, g, d, tk, os⟩ := s; obtain ⟨h1, h⟩ := h
    have hsub := sub_enumerate
    have q1 : ∀ {A' : Around} {E : Value → Shared → Prop} {Q : Value → Shared → Prop}, Q (.ref hp.objs.size) ⟨hp.push o, g, d, tk, os⟩ → wpAny (model prog w) A' (pyIter v) Q E ⟨hp, g, d, tk, os⟩ :=
      fun q => B.iter prog w _ _ ⟨hp, g, d, tk, os⟩ _ h1 q
    wp_walk using q1
    refine wpAny_stack_any fun st => wpAny_pure ?_
    split
    · rename_i c _ _ _ _ _
      cases (c == Value.type "enumerate")
      · wp_walk using q1
        exact ⟨_, rfl, h⟩
      · wp_walk using q1
        exact ⟨_, rfl, h⟩
    · wp_walk using q1
      exact ⟨_, rfl, h⟩
theorem enum_begins1 {prog : Program} {w : World} {A : Around} {E : Value → Shared → Prop} {s : Shared} {v : Value} {o : Obj} {H : Heap → Prop} {Q : Value → Shared → Prop} (B : Begins v o H) (h1 : H s.heap)
    (h : ∀ h', IsEnum h' (s.heap.objs.size + 1) s.heap.objs.size 0 .none → h'.get? s.heap.objs.size = some o → h'.objs.size = s.heap.objs.size + 2 →
      (∀ b o, s.heap.get? b = some o → h'.get? b = some o) → Q (.ref (s.heap.objs.size + 1)) { s with heap := h' }) :
    wpAny (model prog w) A (call (.type "enumerate") [v]) Q E s := by
  refine callType_new F.called_enumerate (by decide) (F.typeCall_enumerate_1 _) (F.newCall_enumerate_1 _) (fun obj => F.args_object_init_2 obj _) F.entry_enumerate_new
    (meets_enumerate_new1 B) ⟨h1, ?_⟩
  have hz : (s.heap.push o).objs.size = s.heap.objs.size + 1 := Heap.size_push ..
  show _ ∧ _
  rw [hz]
  have he : IsEnum ((s.heap.push o).push { cls := .type "enumerate", data := .fields #[.none, .bool false, .ref s.heap.objs.size, rawInt 0, .none, .none] }) (s.heap.objs.size + 1) s.heap.objs.size 0 .none := by
    have := Heap.get?_push_size (s.heap.push o) (o := { cls := .type "enumerate", data := .fields #[.none, .bool false, .ref s.heap.objs.size, rawInt 0, .none, .none] }) rfl
    rw [hz] at this; exact this
  refine ⟨⟨_, he, rfl⟩, h _ he (Heap.get?_push_of_some _ (Heap.get?_push_size _ B.free)) (by rw [Heap.size_push, hz]) fun b o x => Heap.get?_push_of_some _ (Heap.get?_push_of_some _ x)⟩
end MK
set_option Elab.async false
set_option linter.all false
set_option maxRecDepth 100000
set_option maxHeartbeats 2000000
/-! MKh: the rules for what is walked; isinstance; calls and defs. -/
namespace MK
open PySem PySem.Spec PyProof.Rows L2
variable {cz : Cxx} [Tb]

def ItsS (K : PySem.W.Frag) (b : Bool) (a : Addr) : It := match b with
  | true => Itt K a
  | false => Itl K a
section
variable {X : Cx} {tg e e1 e2 e3 : Expr} {elts : List Expr} {kk : Nat} {tpos p pos : Pos} {tl : TE} {ta : TA}
theorem pi_src (hl : PE X e tl) : PI X tg e (fun σ H R => tl σ H fun x H1 => ∃ b a xs, x = .ref a ∧ SqS b X.K H1 a xs ∧ R (ItsS X.K b a) H1) := by
  refine ⟨fun pins s σ H R I h => ?_⟩
  refine thn (hl.run pins s σ H _ I h) fun v s1 ⟨x, H1, I1, r1, b, a, xs, ex, hq, q⟩ => ?_
  subst ex
  obtain rfl : v = Value.ref a := r1
  have hfp : ∀ b ∈ [s1.heap.objs.size], FpOk X pins H1 b := fun b hb => by
    have e : b = s1.heap.objs.size := by simpa using hb
    subst e
    exact I1.fpOk (Nat.le_refl _) (I1.hok.fresh (Nat.le_refl _))
  cases b with
  | true =>
    obtain ⟨its, rv, p, hz⟩ := I1.tuple hq
    refine wpAny_pyIter_tuple (show s1.heap.IsTuple a its.toArray from p) ?_
    exact ⟨s1.heap.objs.size, [s1.heap.objs.size], _, _, H1, rfl, I1.kept (t' := s1.toks) fun b o e => Heap.get?_push_of_some _ e, turn_tuple a _, ⟨_, Heap.get?_push_size _ rfl, rfl, rfl⟩, hfp, q⟩
  | false =>
    obtain ⟨its, rv, p, hz⟩ := I1.list hq
    refine wpAny_pyIter_list p.isList ?_
    exact ⟨s1.heap.objs.size, [s1.heap.objs.size], _, _, H1, rfl, I1.kept (t' := s1.toks) fun b o e => Heap.get?_push_of_some _ e, turn_list a _, ⟨_, Heap.get?_push_size _ rfl, rfl, rfl⟩, hfp, q⟩
theorem pi_enumS (hg : Gl X "enumerate") (hm : X.mg "enumerate" = none) (ha : PA X [e] ta) (hs : starEach [e] X.env = [(false, eval e X.env)]) :
    PI X (.Tuple elts kk tpos) (.Call (.Name "enumerate" p) [e] [] pos) (fun σ H R => ta σ H fun vs H1 => ∃ b a xs, vs = [.ref a] ∧ SqS b X.K H1 a xs ∧ R (IteS X.K b a) H1) := by
  refine ⟨fun pins s σ H R I h => ?_⟩
  refine Call_ (ld_blt I hg hm boot_enumerate (PyProof.Rows.callWith_type1 (thn (ha.run pos pins s σ H _ I h) fun us s1 ⟨vs, H1, I1, r1, b, a, xs, ex, hq, q⟩ => ?_) hs rfl))
  subst ex
  rw [Vals.ref1 r1]
  obtain ⟨its, rv, p'⟩ := sq_items I1 hq
  have la := seq_lt p'
  refine enum_begins1 (begins_s b a its.toArray) p' fun h' he hit hsz hk => wpAny_pyIter_enum he ?_
  have I2 : Inv X pins σ H1 { s1 with heap := h' } := I1.kept (t' := s1.toks) hk
  refine ⟨s1.heap.objs.size + 1, [s1.heap.objs.size + 1, s1.heap.objs.size], _, _, H1, rfl, I2, turn_enumS b a (s1.heap.objs.size + 1) s1.heap.objs.size (Nat.succ_ne_self _) (Nat.ne_of_gt (Nat.lt_succ_of_lt la)) (Nat.ne_of_gt la), ⟨⟨.none, ?_⟩, iter_s hit⟩, fun c hc => ?_, q⟩
  · exact he
  · have e' : c = s1.heap.objs.size + 1 ∨ c = s1.heap.objs.size := by simpa using hc
    have hle : s1.heap.objs.size ≤ c := by
      rcases e' with z | z
      · rw [z]; exact Nat.le_add_right _ _
      · rw [z]; exact Nat.le_refl _
    exact I1.fpOk hle (I1.hok.fresh hle)
theorem vals_ref2 {a b : Addr} {us : List Value} (r : Vals [V.ref a, V.ref b] us) : us = [.ref a, .ref b] := by
  cases r with
  | cons r1 t =>
    cases t with
    | cons r2 t =>
      cases t
      cases r1
      cases r2
      rfl
theorem vals_ref3 {a b c : Addr} {us : List Value} (r : Vals [V.ref a, V.ref b, V.ref c] us) : us = [.ref a, .ref b, .ref c] := by
  cases r with
  | cons r1 t =>
    cases r1
    rw [vals_ref2 t]
theorem pi_zipS (hg : Gl X "zip") (hm : X.mg "zip" = none) (ha : PA X [e1, e2] ta) (hs : starEach [e1, e2] X.env = (false, eval e1 X.env) :: starEach [e2] X.env) (hpl : (backTo pos (starEach [e2] X.env)).any (·.1) = false) :
    PI X (.Tuple elts kk tpos) (.Call (.Name "zip" p) [e1, e2] [] pos) (fun σ H R => ta σ H fun vs H1 => ∃ b1 b2 a1 a2 xs ys, vs = [.ref a1, .ref a2] ∧ SqS b1 X.K H1 a1 xs ∧ SqS b2 X.K H1 a2 ys ∧ R (ItzS X.K b1 b2 a1 a2) H1) := by
  refine ⟨fun pins s σ H R I h => ?_⟩
  refine Call_ (ld_blt I hg hm PyProof.Rows.boot_zip (PyProof.Rows.callWith_type1 (thn (ha.run pos pins s σ H _ I h) fun us s1 ⟨vs, H1, I1, r1, b1, b2, a1, a2, xs, ys, ex, hqx, hqy, q⟩ => ?_) hs hpl))
  subst ex
  rw [vals_ref2 r1]
  obtain ⟨its, rv, p1⟩ := sq_items I1 hqx
  obtain ⟨its2, rv2, p2⟩ := sq_items I1 hqy
  have l1 := seq_lt p1
  have l2 := seq_lt p2
  refine zip_begins2 (begins_s b1 a1 its.toArray) (begins_s b2 a2 its2.toArray) p1 p2 fun h' hz hTI hTO h1 h2 hsz hk => wpAny_pyIter_zip hz ?_
  have I2 : Inv X pins σ H1 { s1 with heap := h' } := I1.kept (t' := s1.toks) hk
  refine ⟨s1.heap.objs.size + 4, [s1.heap.objs.size + 4, s1.heap.objs.size + 2, s1.heap.objs.size + 3, s1.heap.objs.size, s1.heap.objs.size + 1], _, _, H1, rfl, I2,
    turn_zipS b1 b2 a1 a2 _ _ _ _ _ (zip_sep2 (N := s1.heap.objs.size) (fp1 := [a1]) (fp2 := [a2]) (by simpa using l1) (by simpa using l2)) (Nat.ne_of_lt l1) (Nat.ne_of_lt (Nat.lt_succ_of_lt l2)), ⟨hz, hTI, ⟨_, _, hTO⟩, iter_s h1, iter_s h2⟩, fun c hcm => ?_, q⟩
  have e' : c = s1.heap.objs.size + 4 ∨ c = s1.heap.objs.size + 2 ∨ c = s1.heap.objs.size + 3 ∨ c = s1.heap.objs.size ∨ c = s1.heap.objs.size + 1 := by simpa using hcm
  have hle : s1.heap.objs.size ≤ c := by
    rcases e' with z | z | z | z | z <;> rw [z] <;> first | exact Nat.le_add_right _ _ | exact Nat.le_refl _
  exact I1.fpOk hle (I1.hok.fresh hle)
theorem pi_zipS3 (hg : Gl X "zip") (hm : X.mg "zip" = none) (ha : PA X [e1, e2, e3] ta) (hs : starEach [e1, e2, e3] X.env = (false, eval e1 X.env) :: starEach [e2, e3] X.env) (hpl : (backTo pos (starEach [e2, e3] X.env)).any (·.1) = false) :
    PI X (.Tuple elts kk tpos) (.Call (.Name "zip" p) [e1, e2, e3] [] pos) (fun σ H R => ta σ H fun vs H1 => ∃ b1 b2 b3 a1 a2 a3 xs ys zs, vs = [.ref a1, .ref a2, .ref a3] ∧ SqS b1 X.K H1 a1 xs ∧ SqS b2 X.K H1 a2 ys ∧ SqS b3 X.K H1 a3 zs ∧ R (ItzS3 X.K b1 b2 b3 a1 a2 a3) H1) := by
  refine ⟨fun pins s σ H R I h => ?_⟩
  refine Call_ (ld_blt I hg hm PyProof.Rows.boot_zip (PyProof.Rows.callWith_type1 (thn (ha.run pos pins s σ H _ I h) fun us s1 ⟨vs, H1, I1, r1, b1, b2, b3, a1, a2, a3, xs, ys, zs, ex, hqx, hqy, hqz, q⟩ => ?_) hs hpl))
  subst ex
  rw [vals_ref3 r1]
  obtain ⟨its, rv, p1⟩ := sq_items I1 hqx
  obtain ⟨its2, rv2, p2⟩ := sq_items I1 hqy
  obtain ⟨its3, rv3, p3⟩ := sq_items I1 hqz
  have l1 := seq_lt p1
  have l2 := seq_lt p2
  have l3 := seq_lt p3
  refine zip_begins3 (begins_s b1 a1 its.toArray) (begins_s b2 a2 its2.toArray) (begins_s b3 a3 its3.toArray) p1 p2 p3 fun h' hz hTI hTO h1 h2 h3 hsz hk => wpAny_pyIter_zip hz ?_
  have I2 : Inv X pins σ H1 { s1 with heap := h' } := I1.kept (t' := s1.toks) hk
  refine ⟨s1.heap.objs.size + 5, [s1.heap.objs.size + 5, s1.heap.objs.size + 3, s1.heap.objs.size + 4, s1.heap.objs.size, s1.heap.objs.size + 1, s1.heap.objs.size + 2], _, _, H1, rfl, I2,
    turn_zipS3 b1 b2 b3 a1 a2 a3 _ _ _ _ _ _ (zip_sep3 (N := s1.heap.objs.size) (fp1 := [a1]) (fp2 := [a2]) (fp3 := [a3]) (by simpa using l1) (by simpa using l2) (by simpa using l3)) (Nat.ne_of_lt l1) (Nat.ne_of_lt (Nat.lt_succ_of_lt l2)) (Nat.ne_of_lt (Nat.lt_succ_of_lt (Nat.lt_succ_of_lt l3))),
    ⟨hz, hTI, ⟨_, _, _, hTO⟩, iter_s h1, iter_s h2, iter_s h3⟩, fun c hcm => ?_, q⟩
  have e' : c = s1.heap.objs.size + 5 ∨ c = s1.heap.objs.size + 3 ∨ c = s1.heap.objs.size + 4 ∨ c = s1.heap.objs.size ∨ c = s1.heap.objs.size + 1 ∨ c = s1.heap.objs.size + 2 := by simpa using hcm
  have hle : s1.heap.objs.size ≤ c := by
    rcases e' with z | z | z | z | z | z <;> rw [z] <;> first | exact Nat.le_add_right _ _ | exact Nat.le_refl _
  exact I1.fpOk hle (I1.hok.fresh hle)
/-- a range that stands in a name -/
theorem pi_rngV (hl : PE X e tl) : PI X tg e (fun σ H R => tl σ H fun x H1 => ∃ a lo hi, x = .ref a ∧ H1 a = some (.rng lo hi) ∧ (-(2 ^ 62) ≤ lo ∧ lo < 2 ^ 62 ∧ -(2 ^ 62) ≤ hi ∧ hi < 2 ^ 62) ∧ R (Itr lo (hi - lo).toNat) H1) := by
  refine ⟨fun pins s σ H R I h => ?_⟩
  refine thn (hl.run pins s σ H _ I h) fun v s1 ⟨x, H1, I1, r1, a, lo, hi, ex, hq, ⟨h1, h2, h3, h4⟩, q⟩ => ?_
  subst ex
  obtain rfl : v = Value.ref a := r1
  obtain ⟨t, u, w', hr⟩ := I1.hok a _ hq
  refine wpAny_pyIter_range (show IsRange s1.heap a lo hi 1 t u w' from hr) (small_one h1 h2 h3 h4) ?_
  refine ⟨s1.heap.objs.size, [s1.heap.objs.size], _, _, H1, rfl, I1.kept (t' := s1.toks) fun b o e => Heap.get?_push_of_some _ e, turn_range _ lo (hi - lo).toNat, ?_, fun b hb => ?_, q⟩
  · have e1 : lo + ((0 : Nat) : Int) * 1 = lo := by simp
    have e2 : (((hi - lo).toNat : Nat) : Int) - ((0 : Nat) : Int) = Builtin.Range.rangeSize lo hi 1 := by rw [rangeSize_one]; split <;> omega
    show IsRangeIter _ _ (lo + ((0 : Nat) : Int) * 1) ((((hi - lo).toNat : Nat) : Int) - ((0 : Nat) : Int)) 1
    rw [e1, e2]
    exact Heap.get?_push_size _ rfl
  · have e : b = s1.heap.objs.size := by simpa using hb
    subst e
    exact I1.fpOk (Nat.le_refl _) (I1.hok.fresh (Nat.le_refl _))
end

/-! ### the rules -/
def mIter (d : SV) : Mm (List PyData) := match d with
  | .val (.list xs) => mP xs
  | .val (.tuple xs) => mP xs
  | _ => mStuck
section
variable {K : PySem.W.Frag} {mg : Mg} {E : XK} {g : Gh} {H : Hp}
theorem src_of {d : SV} {v : V} {P : List PyData → Gh → Hp → Prop} (S : Sim K g H) (r : RSV K cz g H v d) (o : Out K mg E g H (mIter d g.cs) P) :
    ∃ b a xs, v = .ref a ∧ P xs g H ∧ ∀ g' H', Kp K g H g' H' → ∃ vs, SqS b K H' a vs ∧ RDs K g' H' vs xs := by
  unfold mIter at o
  split at o
  · cases r with
    | lst h1 h2 =>
      refine ⟨false, _, _, rfl, o.pure S, fun g' H' k => ?_⟩
      have := k.rd (RD.lst h1 h2)
      cases this with
      | lst h3 h4 => exact ⟨_, h3.sq, h4⟩
  · cases r with
    | tup h1 h2 =>
      refine ⟨true, _, _, rfl, o.pure S, fun g' H' k => ?_⟩
      have := k.rd (RD.tup h1 h2)
      cases this with
      | tup h3 h4 => exact ⟨_, h3, h4⟩
  · exact o.stuck.elim
theorem Kp.refl : Kp K g H g H := ⟨fun h => h, fun h => h⟩
theorem ien_src {b : Bool} {a : Addr} {xs : List PyData} (h : ∀ g' H', Kp K g H g' H' → ∃ vs, SqS b K H' a vs ∧ RDs K g' H' vs xs) : IEn K g H (ItsS K b a) xs := by
  intro g' H' S k
  obtain ⟨vs, hq, r⟩ := h g' H' k
  have hl := r.length
  cases b with
  | true =>
    refine ⟨fun i d hd => ?_, ⟨vs, hq, by omega⟩⟩
    obtain ⟨v, hv, rv⟩ := r.get hd
    refine ⟨⟨vs, v, hq, hv⟩, fun x H2 ⟨e, hy⟩ => ?_⟩
    subst e
    have := hy vs hq
    rw [hv] at this
    cases this
    exact ⟨S, Le.refl _ _, rv⟩
  | false =>
    refine ⟨fun i d hd => ?_, ⟨vs, hq, by omega⟩⟩
    obtain ⟨v, hv, rv⟩ := r.get hd
    refine ⟨⟨vs, v, hq, hv⟩, fun x H2 ⟨e, hy⟩ => ?_⟩
    subst e
    have := hy vs hq
    rw [hv] at this
    cases this
    exact ⟨S, Le.refl _ _, rv⟩
def enumD : Nat → List PyData → List PyData
  | _, [] => []
  | n, d :: ds => .tuple [.int n, d] :: enumD (n + 1) ds
theorem enumD_length : ∀ (n : Nat) (ds : List PyData), (enumD n ds).length = ds.length
  | _, [] => rfl
  | n, d :: ds => by unfold enumD; rw [List.length_cons, List.length_cons, enumD_length]
theorem enumD_get : ∀ (n : Nat) (ds : List PyData) (i : Nat) (e : PyData), (enumD n ds)[i]? = some e → ∃ d, ds[i]? = some d ∧ e = .tuple [.int ((n + i : Nat) : Int), d]
  | _, [], _, _, h => by simp [enumD] at h
  | n, d :: ds, 0, e, h => by
    simp [enumD] at h
    exact ⟨d, by simp, by rw [← h]; simp⟩
  | n, d :: ds, i + 1, e, h => by
    simp [enumD] at h
    obtain ⟨d', h1, h2⟩ := enumD_get (n + 1) ds i e h
    exact ⟨d', by simpa using h1, by rw [h2]; congr 4; omega⟩
theorem ien_enum {b : Bool} {a : Addr} {xs : List PyData} (h : ∀ g' H', Kp K g H g' H' → ∃ vs, SqS b K H' a vs ∧ RDs K g' H' vs xs) : IEn K g H (IteS K b a) (enumD 0 xs) := by
  intro g' H' S k
  obtain ⟨vs, hq, r⟩ := h g' H' k
  have hl := r.length
  refine ⟨fun i e he => ?_, ⟨vs, hq, by rw [enumD_length]; exact hl⟩⟩
  obtain ⟨d, hd, ee⟩ := enumD_get 0 xs i e he
  obtain ⟨v, hv, rv⟩ := r.get hd
  refine ⟨⟨vs, v, hq, hv⟩, fun x H2 ⟨T, y, ex, hT, eH, hy⟩ => ?_⟩
  have := hy vs hq
  rw [hv] at this
  cases this
  obtain ⟨S', L'⟩ := S.laid (o := .tup [.int (i : Nat), v]) hT
  subst ex eH ee
  refine ⟨S', L', .tup (.inl (.inl upd_same)) (.cons ?_ (.cons (rv.mono S L') .nil))⟩
  rw [Nat.zero_add]
  exact .int _
def zipD : List PyData → List PyData → List PyData
  | d :: ds, e :: es => .tuple [d, e] :: zipD ds es
  | _, _ => []
theorem zipD_length : ∀ ds es : List PyData, (zipD ds es).length = min ds.length es.length
  | [], _ => by simp [zipD]
  | _ :: _, [] => by simp [zipD]
  | d :: ds, e :: es => by unfold zipD; rw [List.length_cons, List.length_cons, List.length_cons, zipD_length]; omega
theorem zipD_get : ∀ (ds es : List PyData) (i : Nat) (z : PyData), (zipD ds es)[i]? = some z → ∃ d e, ds[i]? = some d ∧ es[i]? = some e ∧ z = .tuple [d, e]
  | [], _, _, _, h => by simp [zipD] at h
  | _ :: _, [], _, _, h => by simp [zipD] at h
  | d :: ds, e :: es, 0, z, h => by simp [zipD] at h; exact ⟨d, e, by simp, by simp, h.symm⟩
  | d :: ds, e :: es, i + 1, z, h => by
    simp [zipD] at h
    obtain ⟨d', e', h1, h2, h3⟩ := zipD_get ds es i z h
    exact ⟨d', e', by simpa using h1, by simpa using h2, h3⟩
theorem ien_zip {b1 b2 : Bool} {a1 a2 : Addr} {xs ys : List PyData} (h1 : ∀ g' H', Kp K g H g' H' → ∃ vs, SqS b1 K H' a1 vs ∧ RDs K g' H' vs xs) (h2 : ∀ g' H', Kp K g H g' H' → ∃ vs, SqS b2 K H' a2 vs ∧ RDs K g' H' vs ys) :
    IEn K g H (ItzS K b1 b2 a1 a2) (zipD xs ys) := by
  intro g' H' S k
  obtain ⟨vs, hq, r⟩ := h1 g' H' k
  obtain ⟨ws, hq2, r2⟩ := h2 g' H' k
  refine ⟨fun i e he => ?_, ⟨vs, ws, hq, hq2, by rw [zipD_length, r.length, r2.length]⟩⟩
  obtain ⟨d, d2, hd, hd2, ee⟩ := zipD_get xs ys i e he
  obtain ⟨v, hv, rv⟩ := r.get hd
  obtain ⟨v2, hv2, rv2⟩ := r2.get hd2
  refine ⟨⟨vs, ws, v, v2, hq, hq2, hv, hv2⟩, fun x H2 ⟨T, y, y2, ex, hT, eH, hy, hy2⟩ => ?_⟩
  have t1 := hy vs hq
  rw [hv] at t1
  cases t1
  have t2 := hy2 ws hq2
  rw [hv2] at t2
  cases t2
  obtain ⟨S', L'⟩ := S.laid (o := .tup [v, v2]) hT
  subst ex eH ee
  exact ⟨S', L', .tup (.inl (.inl upd_same)) (.cons (rv.mono S L') (.cons (rv2.mono S L') .nil))⟩
def zipD3 : List PyData → List PyData → List PyData → List PyData
  | d :: ds, e :: es, f :: fs => .tuple [d, e, f] :: zipD3 ds es fs
  | _, _, _ => []
theorem zipD3_length : ∀ ds es fs : List PyData, (zipD3 ds es fs).length = min (min ds.length es.length) fs.length
  | [], _, _ => by simp [zipD3]
  | _ :: _, [], _ => by simp [zipD3]
  | _ :: _, _ :: _, [] => by simp [zipD3]
  | d :: ds, e :: es, f :: fs => by unfold zipD3; rw [List.length_cons, List.length_cons, List.length_cons, List.length_cons, zipD3_length]; omega
theorem zipD3_get : ∀ (ds es fs : List PyData) (i : Nat) (z : PyData), (zipD3 ds es fs)[i]? = some z → ∃ d e f, ds[i]? = some d ∧ es[i]? = some e ∧ fs[i]? = some f ∧ z = .tuple [d, e, f]
  | [], _, _, _, _, h => by simp [zipD3] at h
  | _ :: _, [], _, _, _, h => by simp [zipD3] at h
  | _ :: _, _ :: _, [], _, _, h => by simp [zipD3] at h
  | d :: ds, e :: es, f :: fs, 0, z, h => by simp [zipD3] at h; exact ⟨d, e, f, by simp, by simp, by simp, h.symm⟩
  | d :: ds, e :: es, f :: fs, i + 1, z, h => by
    simp [zipD3] at h
    obtain ⟨d', e', f', h1, h2, h3, h4⟩ := zipD3_get ds es fs i z h
    exact ⟨d', e', f', by simpa using h1, by simpa using h2, by simpa using h3, h4⟩
theorem ien_zip3 {b1 b2 b3 : Bool} {a1 a2 a3 : Addr} {xs ys zs : List PyData} (h1 : ∀ g' H', Kp K g H g' H' → ∃ vs, SqS b1 K H' a1 vs ∧ RDs K g' H' vs xs) (h2 : ∀ g' H', Kp K g H g' H' → ∃ vs, SqS b2 K H' a2 vs ∧ RDs K g' H' vs ys)
    (h3 : ∀ g' H', Kp K g H g' H' → ∃ vs, SqS b3 K H' a3 vs ∧ RDs K g' H' vs zs) : IEn K g H (ItzS3 K b1 b2 b3 a1 a2 a3) (zipD3 xs ys zs) := by
  intro g' H' S k
  obtain ⟨vs, hq, r⟩ := h1 g' H' k
  obtain ⟨ws, hq2, r2⟩ := h2 g' H' k
  obtain ⟨us, hq3, r3⟩ := h3 g' H' k
  refine ⟨fun i e he => ?_, ⟨vs, ws, us, hq, hq2, hq3, by rw [zipD3_length, r.length, r2.length, r3.length]⟩⟩
  obtain ⟨d, d2, d3, hd, hd2, hd3, ee⟩ := zipD3_get xs ys zs i e he
  obtain ⟨v, hv, rv⟩ := r.get hd
  obtain ⟨v2, hv2, rv2⟩ := r2.get hd2
  obtain ⟨v3, hv3, rv3⟩ := r3.get hd3
  refine ⟨⟨vs, ws, us, v, v2, v3, hq, hq2, hq3, hv, hv2, hv3⟩, fun x H2 ⟨T, y, y2, y3, ex, hT, eH, hy, hy2, hy3⟩ => ?_⟩
  have t1 := hy vs hq
  rw [hv] at t1
  cases t1
  have t2 := hy2 ws hq2
  rw [hv2] at t2
  cases t2
  have t3 := hy3 us hq3
  rw [hv3] at t3
  cases t3
  obtain ⟨S', L'⟩ := S.laid (o := .tup [v, v2, v3]) hT
  subst ex eH ee
  exact ⟨S', L', .tup (.inl (.inl upd_same)) (.cons (rv.mono S L') (.cons (rv2.mono S L') (.cons (rv3.mono S L') .nil)))⟩
def rngD (lo : Int) : Nat → List PyData
  | 0 => []
  | n + 1 => .int lo :: rngD (lo + 1) n
theorem rngD_length : ∀ (lo : Int) (n : Nat), (rngD lo n).length = n
  | _, 0 => rfl
  | lo, n + 1 => by unfold rngD; rw [List.length_cons, rngD_length]
theorem rngD_get : ∀ (lo : Int) (n i : Nat) (e : PyData), (rngD lo n)[i]? = some e → i < n ∧ e = .int (lo + i)
  | _, 0, _, _, h => by simp [rngD] at h
  | lo, n + 1, 0, e, h => by simp [rngD] at h; exact ⟨by omega, by rw [← h]; simp⟩
  | lo, n + 1, i + 1, e, h => by
    simp [rngD] at h
    obtain ⟨h1, h2⟩ := rngD_get (lo + 1) n i e h
    exact ⟨by omega, by rw [h2]; congr 1; omega⟩
theorem ien_rng {lo : Int} {n : Nat} : IEn K g H (Itr lo n) (rngD lo n) := by
  intro g' H' S k
  refine ⟨fun i e he => ?_, by show n ≤ (rngD lo n).length; rw [rngD_length]; exact Nat.le_refl _⟩
  obtain ⟨h1, h2⟩ := rngD_get lo n i e he
  refine ⟨h1, fun x H2 ⟨e1, e2⟩ => ?_⟩
  subst e1 e2 h2
  exact ⟨S, Le.refl _ _, .int _⟩
end
def smallI (i : Int) : Bool := decide (-100000 ≤ i ∧ i ≤ 100000)
def iSeq (a : Em) : Im := fun ρ => mB (a ρ) mIter
def iEnum (a : Em) : Im := fun ρ => mB (a ρ) fun d => mB (mIter d) fun xs => mP (enumD 0 xs)
def iZip (a b : Em) : Im := fun ρ => mB (a ρ) fun d => mB (b ρ) fun e => mB (mIter d) fun xs => mB (mIter e) fun ys => mP (zipD xs ys)
def iZip3 (a b c : Em) : Im := fun ρ => mB (a ρ) fun d => mB (b ρ) fun e => mB (c ρ) fun f => mB (mIter d) fun xs => mB (mIter e) fun ys => mB (mIter f) fun zs => mP (zipD3 xs ys zs)
def iRng1 (a : Em) : Im := fun ρ => mB (a ρ) fun d => mB (mInt d) fun i => mB (guard (smallI i)) fun _ => mP (rngD 0 i.toNat)
def iRng2 (a b : Em) : Im := fun ρ => mB (a ρ) fun d => mB (b ρ) fun e => mB (mInt d) fun i => mB (mInt e) fun j => mB (guard (smallI i && smallI j)) fun _ => mP (rngD i (j - i).toNat)
def mRng : SV → Mm (Int × Int)
  | .rng lo hi => mP (lo, hi)
  | _ => mStuck
def iRngV (a : Em) : Im := fun ρ => mB (a ρ) fun d => mB (mRng d) fun q => mB (guard (smallI q.1 && smallI q.2)) fun _ => mP (rngD q.1 (q.2 - q.1).toNat)
theorem small_of {i : Int} (h : smallI i = true) : -(2 ^ 62) ≤ i ∧ i < 2 ^ 62 := by
  have := of_decide_eq_true h
  omega
section
variable {X : Cx} {E : XK} {tg e e1 e2 e3 : Expr} {elts : List Expr} {kk : Nat} {tpos p pos : Pos} {ma mb mc : Em}
theorem mi_seq (ha : ME X E e ma) : MI X E tg e (iSeq ma) := by
  refine PIwk (pi_src ha) fun σ H R ⟨g, ρ, S, V, o⟩ => ?_
  refine ⟨g, ρ, S, V, o.bind.mono fun d g1 H1 S1 L1 o1 v rv => ?_⟩
  obtain ⟨b, a, xs, ev, P, st⟩ := src_of S1 rv o1
  obtain ⟨vs, hq, _⟩ := st g1 H1 .refl
  exact ⟨b, a, vs, ev, hq, P _ (ien_src st)⟩
theorem mi_enum (hg : Gl X "enumerate") (hm : X.mg "enumerate" = none) (ha : ME X E e ma) (hs : starEach [e] X.env = [(false, eval e X.env)]) : MI X E (.Tuple elts kk tpos) (.Call (.Name "enumerate" p) [e] [] pos) (iEnum ma) := by
  refine PIwk (pi_enumS hg hm (pa_cons ha pa_nil hs) hs) fun σ H R ⟨g, ρ, S, V, o⟩ => ?_
  refine ⟨g, ρ, S, V, o.bind.mono fun d g1 H1 S1 L1 o1 v rv => ?_⟩
  obtain ⟨b, a, xs, ev, P, st⟩ := src_of S1 rv o1.bind
  obtain ⟨vs, hq, _⟩ := st g1 H1 .refl
  exact ⟨b, a, vs, by rw [ev], hq, P.pure S1 _ (ien_enum st)⟩
theorem mi_zip (hg : Gl X "zip") (hm : X.mg "zip" = none) (ha : ME X E e1 ma) (hb : ME X E e2 mb) (hs : starEach [e1, e2] X.env = (false, eval e1 X.env) :: starEach [e2] X.env) (hs2 : starEach [e2] X.env = (false, eval e2 X.env) :: starEach [] X.env)
    (hpl : (backTo pos (starEach [e2] X.env)).any (·.1) = false) : MI X E (.Tuple elts kk tpos) (.Call (.Name "zip" p) [e1, e2] [] pos) (iZip ma mb) := by
  refine PIwk (pi_zipS hg hm (pa_cons ha (pa_cons hb pa_nil hs2) hs) hs hpl) fun σ H R ⟨g, ρ, S, V, o⟩ => ?_
  refine ⟨g, ρ, S, V, o.bind.mono fun d g1 H1 S1 L1 o1 v rv => ?_⟩
  refine ⟨g1, ρ, S1, V.mono S L1, o1.bind.mono fun d2 g2 H2 S2 L2 o2 v2 rv2 => ?_⟩
  obtain ⟨b, a, xs, ev, P, st⟩ := src_of S2 (rv.mono S1 L2) o2.bind
  obtain ⟨b2, a2, ys, ev2, P2, st2⟩ := src_of S2 rv2 P.bind
  obtain ⟨vs, hq, _⟩ := st g2 H2 .refl
  obtain ⟨ws, hq2, _⟩ := st2 g2 H2 .refl
  exact ⟨b, b2, a, a2, vs, ws, by rw [ev, ev2], hq, hq2, P2.pure S2 _ (ien_zip st st2)⟩
theorem mi_zip3 (hg : Gl X "zip") (hm : X.mg "zip" = none) (ha : ME X E e1 ma) (hb : ME X E e2 mb) (hc : ME X E e3 mc) (hs : starEach [e1, e2, e3] X.env = (false, eval e1 X.env) :: starEach [e2, e3] X.env)
    (hs2 : starEach [e2, e3] X.env = (false, eval e2 X.env) :: starEach [e3] X.env) (hs3 : starEach [e3] X.env = (false, eval e3 X.env) :: starEach [] X.env)
    (hpl : (backTo pos (starEach [e2, e3] X.env)).any (·.1) = false) : MI X E (.Tuple elts kk tpos) (.Call (.Name "zip" p) [e1, e2, e3] [] pos) (iZip3 ma mb mc) := by
  refine PIwk (pi_zipS3 hg hm (pa_cons ha (pa_cons hb (pa_cons hc pa_nil hs3) hs2) hs) hs hpl) fun σ H R ⟨g, ρ, S, V, o⟩ => ?_
  refine ⟨g, ρ, S, V, o.bind.mono fun d g1 H1 S1 L1 o1 v rv => ?_⟩
  refine ⟨g1, ρ, S1, V.mono S L1, o1.bind.mono fun d2 g2 H2 S2 L2 o2 v2 rv2 => ?_⟩
  refine ⟨g2, ρ, S2, V.mono S (L1.trans L2), o2.bind.mono fun d3 g3 H3 S3 L3 o3 v3 rv3 => ?_⟩
  obtain ⟨b, a, xs, ev, P, st⟩ := src_of S3 (rv.mono S1 (L2.trans L3)) o3.bind
  obtain ⟨b2, a2, ys, ev2, P2, st2⟩ := src_of S3 (rv2.mono S2 L3) P.bind
  obtain ⟨b3, a3, zs, ev3, P3, st3⟩ := src_of S3 rv3 P2.bind
  obtain ⟨vs, hq, _⟩ := st g3 H3 .refl
  obtain ⟨ws, hq2, _⟩ := st2 g3 H3 .refl
  obtain ⟨us, hq3, _⟩ := st3 g3 H3 .refl
  exact ⟨b, b2, b3, a, a2, a3, vs, ws, us, by rw [ev, ev2, ev3], hq, hq2, hq3, P3.pure S3 _ (ien_zip3 st st2 st3)⟩
theorem mi_rng1 (hg : Gl X "range") (hm : X.mg "range" = none) (ha : ME X E e ma) (hs : starEach [e] X.env = [(false, eval e X.env)]) : MI X E tg (.Call (.Name "range" p) [e] [] pos) (iRng1 ma) := by
  refine PIwk (pi_range1 hg hm (pa_cons ha pa_nil hs) hs) fun σ H R ⟨g, ρ, S, V, o⟩ => ?_
  refine ⟨g, ρ, S, V, o.bind.mono fun d g1 H1 S1 L1 o1 v rv => ?_⟩
  obtain ⟨i, ev, o1⟩ := int_of S1 rv o1.bind
  obtain ⟨c, o1⟩ := guard_of S1 o1.bind
  exact ⟨i, by rw [ev], (small_of c).1, (small_of c).2, o1.pure S1 _ ien_rng⟩
theorem mi_rng2 (hg : Gl X "range") (hm : X.mg "range" = none) (ha : ME X E e1 ma) (hb : ME X E e2 mb) (hs : starEach [e1, e2] X.env = [(false, eval e1 X.env), (false, eval e2 X.env)]) (hs2 : starEach [e2] X.env = [(false, eval e2 X.env)]) : MI X E tg (.Call (.Name "range" p) [e1, e2] [] pos) (iRng2 ma mb) := by
  refine PIwk (pi_range2 hg hm (pa_cons ha (pa_cons hb pa_nil hs2) (by rw [hs, hs2])) hs hs2) fun σ H R ⟨g, ρ, S, V, o⟩ => ?_
  refine ⟨g, ρ, S, V, o.bind.mono fun d g1 H1 S1 L1 o1 v rv => ?_⟩
  refine ⟨g1, ρ, S1, V.mono S L1, o1.bind.mono fun d2 g2 H2 S2 L2 o2 v2 rv2 => ?_⟩
  obtain ⟨i, ev, o2⟩ := int_of S2 (rv.mono S1 L2) o2.bind
  obtain ⟨j, ev2, o2⟩ := int_of S2 rv2 o2.bind
  obtain ⟨c, o2⟩ := guard_of S2 o2.bind
  rw [Bool.and_eq_true] at c
  exact ⟨i, j, by rw [ev, ev2], ⟨(small_of c.1).1, (small_of c.1).2, (small_of c.2).1, (small_of c.2).2⟩, o2.pure S2 _ ien_rng⟩
theorem mi_rngV (ha : ME X E e ma) : MI X E tg e (iRngV ma) := by
  refine PIwk (pi_rngV ha) fun σ H R ⟨g, ρ, S, V, o⟩ => ?_
  refine ⟨g, ρ, S, V, o.bind.mono fun d g1 H1 S1 L1 o1 v rv => ?_⟩
  cases d with
  | val d => exact o1.bind.elim
  | ref n => exact o1.bind.elim
  | exc _ => exact o1.bind.elim
  | rng lo hi =>
    obtain ⟨a, ev, ea⟩ := rv
    obtain ⟨c, o1⟩ := guard_of S1 (o1.bind.pure S1).bind
    rw [Bool.and_eq_true] at c
    exact ⟨a, lo, hi, ev, ea, ⟨(small_of c.1).1, (small_of c.1).2, (small_of c.2).1, (small_of c.2).2⟩, o1.pure S1 _ ien_rng⟩
end
end MK
set_option Elab.async false
set_option linter.all false
set_option maxRecDepth 100000
set_option maxHeartbeats 1000000
/-! MKi: defs and their calls. -/
namespace MK
open PySem PySem.Spec PyProof.Rows L2
variable {cz : Cxx} [Tb]

/-- a def's mirror: what it makes of its arguments -/
abbrev Fm := List SV → Mm SV
def tSp (K : PySem.W.Frag) (mg : Mg) (F : Fm) : Sp := fun vs H Q E => ∃ g ds, Sim K g H ∧ RSVs K none g H vs ds ∧ Out K mg E g H (F ds g.cs) fun d g' H' => ∀ v, RSV K none g' H' v d → Q v H'
/-- a body's end as a call's value; the cells made in it are forgotten -/
def mCall (m : Mm (Fl × Ro)) : Mm SV := fun h => match m h with
  | .ok (.nx, _) h' => .ok (.val .none) (h'.take h.length)
  | .ok (.rt (.val d), _) h' => .ok (.val d) (h'.take h.length)
  | .ok (.rt (.rng lo hi), _) h' => .ok (.rng lo hi) (h'.take h.length)
  | .ok (.rt (.ref n), _) h' => if n < h.length then .ok (.ref n) (h'.take h.length) else match h'[n]? with
    | some (some c) => .ok (.ref h.length) (h'.take h.length ++ [some c])
    | _ => .stuck
  | .ok _ _ => .stuck
  | .exn x h' => .exn x (h'.take h.length)
  | .stuck => .stuck
def fnV (n m : Nat) (b : Sm) : Fm := fun ds => mB (guard (decide (ds.length = n))) fun _ => mCall (b (ds.map some ++ List.replicate (m - n) none))
section
variable {K : PySem.W.Frag} {mg : Mg} {E : XK} {g : Gh} {H : Hp}
theorem RSVs.get : ∀ {vs : List V} {ds : List SV} {i : Nat} {d : SV}, RSVs K cz g H vs ds → ds[i]? = some d → ∃ v, vs[i]? = some v ∧ RSV K cz g H v d
  | _, _, i, _, .nil, e => by simp at e
  | _, _, 0, _, .cons h1 h2, e => by simp at e; subst e; exact ⟨_, rfl, h1⟩
  | _, _, i + 1, _, .cons h1 h2, e => by
    obtain ⟨v, e1, r⟩ := RSVs.get (i := i) h2 (by simpa using e)
    exact ⟨v, by simpa using e1, r⟩
theorem EnvR.start {N : List Str} {vs : List V} {ds : List SV} {m : Nat} (hm : N.length = m) (r : RSVs K cz g H vs ds) : EnvR K cz g H (ds.map some ++ List.replicate (m - ds.length) none) (L2.start N vs) := by
  subst hm
  unfold L2.start
  refine ⟨by simp [r.length], fun i d e => ?_⟩
  by_cases hi : i < ds.length
  · rw [List.getElem?_append_left (by simpa using hi), List.getElem?_map] at e
    cases q : ds[i]? with
    | none => rw [q] at e; cases e
    | some d' =>
      rw [q] at e
      cases e
      obtain ⟨v, e1, r1⟩ := r.get q
      refine ⟨v, ?_, r1⟩
      have hv : i < vs.length := by rw [r.length]; exact hi
      rw [List.getElem?_append_left (by simpa using hv), List.getElem?_map, e1]
      rfl
  · rw [List.getElem?_append_right (by simpa using hi), List.getElem?_replicate] at e
    split at e <;> cases e
theorem XA.cut (n : Nat) {x : Xn} {oa : Option Addr} (h : XA K g H x oa) : XA K ⟨g.mu.take n, g.cs.take n, g.ex⟩ H x oa := by
  unfold XA at *
  cases q : x.arg with
  | none => rw [q] at h; exact h
  | some p =>
    rw [q] at h
    obtain ⟨dx, v, e1, e2, r⟩ := h
    exact ⟨dx, v, e1, e2, r.cut n⟩
/-- a cell that was made in the call is handed out -/
theorem Sim.keepOne {g' : Gh} {H' : Hp} {n : Nat} {a : Addr} {c : Cell} (S : Sim K g H) (S' : Sim K g' H') (L : Le g H g' H') (hc : g'.cs[n]? = some (some c)) (ha : g'.mu[n]? = some a) (hn : g.mu.length ≤ n) :
    Sim K ⟨g'.mu.take g.mu.length ++ [a], g'.cs.take g.mu.length ++ [some c], g'.ex⟩ H' ∧ Le g H ⟨g'.mu.take g.mu.length ++ [a], g'.cs.take g.mu.length ++ [some c], g'.ex⟩ H' := by
  have hk : g.mu.length ≤ g'.mu.length := Nat.le_trans hn (Nat.le_of_lt (List.getElem?_eq_some_iff.mp ha).1)
  have hlm : (g'.mu.take g.mu.length).length = g.mu.length := by rw [List.length_take]; omega
  have hlc : (g'.cs.take g.mu.length).length = g.mu.length := by rw [List.length_take, ← S'.len]; omega
  -- where an index of the new ghost points in the old one
  have mu' : ∀ (m : Nat) (b : Addr), (g'.mu.take g.mu.length ++ [a])[m]? = some b → (m < g.mu.length ∧ g'.mu[m]? = some b) ∨ (m = g.mu.length ∧ b = a) := fun m b h => by
    by_cases hm : m < g.mu.length
    · rw [List.getElem?_append_left (by rw [hlm]; exact hm), List.getElem?_take, if_pos hm] at h
      exact .inl ⟨hm, h⟩
    · rw [List.getElem?_append_right (by rw [hlm]; omega), hlm] at h
      by_cases h0 : m - g.mu.length = 0
      · rw [h0] at h
        exact .inr ⟨by omega, by simpa using h.symm⟩
      · rw [List.getElem?_eq_none (by simp; omega)] at h
        cases h
  have cs' : ∀ (m : Nat) (o : Option Cell), (g'.cs.take g.mu.length ++ [some c])[m]? = some o → (m < g.mu.length ∧ g'.cs[m]? = some o) ∨ (m = g.mu.length ∧ o = some c) := fun m o h => by
    by_cases hm : m < g.mu.length
    · rw [List.getElem?_append_left (by rw [hlc]; exact hm), List.getElem?_take, if_pos hm] at h
      exact .inl ⟨hm, h⟩
    · rw [List.getElem?_append_right (by rw [hlc]; omega), hlc] at h
      by_cases h0 : m - g.mu.length = 0
      · rw [h0] at h
        exact .inr ⟨by omega, by simpa using h.symm⟩
      · rw [List.getElem?_eq_none (by simp; omega)] at h
        cases h
  have hown : ∀ b, own ⟨g'.mu.take g.mu.length ++ [a], g'.cs.take g.mu.length ++ [some c], g'.ex⟩ b → own g' b := fun b h => by
    rcases h with ⟨m, c', h1, h2⟩ | h
    · rcases mu' m b h2 with ⟨q1, q2⟩ | ⟨q1, q2⟩
      · rcases cs' m _ h1 with ⟨_, q3⟩ | ⟨q3, _⟩
        · exact .inl ⟨m, c', q3, q2⟩
        · omega
      · rw [q2]; exact .inl ⟨n, c, hc, ha⟩
    · exact .inr h
  refine ⟨⟨?_, fun m c' b h1 h2 => ?_, fun m m' b h1 h2 => ?_, fun m b h => ?_, S'.exm, fun m b h => ?_, S'.tabs⟩, ⟨fun m b h => ?_, fun b o h t nb => ⟨(L.keep b o h t nb).1, fun q => (L.keep b o h t nb).2 (hown b q)⟩, L.exe, L.exk, L.trk⟩⟩
  · show (g'.mu.take g.mu.length ++ [a]).length = (g'.cs.take g.mu.length ++ [some c]).length
    rw [List.length_append, List.length_append, hlm, hlc]; rfl
  · rcases mu' m b h2 with ⟨q1, q2⟩ | ⟨q1, q2⟩ <;> rcases cs' m _ h1 with ⟨q3, q4⟩ | ⟨q3, q4⟩
    · exact (S'.cell m c' b q4 q2).sub hown
    · omega
    · omega
    · cases q4
      rw [q2]
      exact (S'.cell n c a hc ha).sub hown
  · rcases mu' m b h1 with ⟨q1, q2⟩ | ⟨q1, q2⟩ <;> rcases mu' m' b h2 with ⟨q3, q4⟩ | ⟨q3, q4⟩
    · exact S'.inj m m' b q2 q4
    · have := S'.inj m n b q2 (by rw [q4]; exact ha); omega
    · have := S'.inj m' n b q4 (by rw [q2]; exact ha); omega
    · omega
  · rcases mu' m b h with ⟨_, q2⟩ | ⟨_, q2⟩
    · exact S'.trk m b q2
    · rw [q2]; exact S'.trk n a ha
  · rcases mu' m b h with ⟨_, q2⟩ | ⟨_, q2⟩
    · exact S'.exn m b q2
    · rw [q2]; exact S'.exn n a ha
  · show (g'.mu.take g.mu.length ++ [a])[m]? = some b
    have hm := (List.getElem?_eq_some_iff.mp h).1
    rw [List.getElem?_append_left (by rw [hlm]; exact hm), List.getElem?_take, if_pos hm]
    exact L.pre m b h
theorem out_call {D : Ends} {Q : VK} {m : Mm (Fl × Ro)} (S : Sim K g H) (o : Out K mg E g H (mCall m g.cs) fun d g' H' => ∀ v, RSV K none g' H' v d → Q v H') (hnx : ∀ σ H', Q .non H' → D.nx σ H') (hrt : ∀ v H', Q v H' → D.rt v H') :
    Out K mg E g H (m g.cs) (EndR K cz D) := by
  have ct : ∀ {g' : Gh} {H' : Hp} {h' : Hm}, g'.cs = h' → Sim K g' H' → Le g H g' H' → (Gh.mk (g'.mu.take g.mu.length) (g'.cs.take g.mu.length) g'.ex).cs = h'.take g.cs.length ∧
      Sim K ⟨g'.mu.take g.mu.length, g'.cs.take g.mu.length, g'.ex⟩ H' ∧ Le g H ⟨g'.mu.take g.mu.length, g'.cs.take g.mu.length, g'.ex⟩ H' := fun {g' H' h'} e S' L' => by
    refine ⟨?_, S'.cut _, L'.cut S⟩
    show g'.cs.take g.mu.length = h'.take g.cs.length
    rw [e, S.len]
  unfold mCall at o
  cases q : m g.cs with
  | stuck => rw [q] at o; exact o
  | exn x h' =>
    rw [q] at o
    intro g' H' cls oa e S' L' xr
    obtain ⟨c1, c2, c3⟩ := ct e S' L'
    exact o _ H' cls oa c1 c2 c3 ⟨xr.1, xr.2.cut _⟩
  | ok r h' =>
    obtain ⟨f, ρ⟩ := r
    rw [q] at o
    cases f with
    | nx =>
      intro g' H' e S' L' σ V
      obtain ⟨c1, c2, c3⟩ := ct e S' L'
      exact hnx _ _ (o _ H' c1 c2 c3 _ RD.non)
    | bk => exact o.elim
    | ct => exact o.elim
    | rt d =>
      cases d with
      | exc _ => exact o.elim
      | val d =>
        intro g' H' e S' L' v r
        obtain ⟨c1, c2, c3⟩ := ct e S' L'
        exact hrt _ _ (o _ H' c1 c2 c3 _ (RD.cut _ r))
      | rng lo hi =>
        intro g' H' e S' L' v r
        obtain ⟨c1, c2, c3⟩ := ct e S' L'
        exact hrt _ _ (o _ H' c1 c2 c3 _ r)
      | ref n =>
        simp only at o
        split at o
        · rename_i hn
          intro g' H' e S' L' v r
          obtain ⟨c1, c2, c3⟩ := ct e S' L'
          obtain ⟨a, e1, e2⟩ := r
          refine hrt _ _ (o _ H' c1 c2 c3 _ ⟨a, e1, ?_⟩)
          show (g'.mu.take g.mu.length)[n]? = some a
          rw [List.getElem?_take, if_pos (by rw [S.len]; exact hn)]
          exact e2
        · rename_i hn
          cases qc : h'[n]? with
          | none => simp only [qc] at o; exact o.elim
          | some oc =>
            cases oc with
            | none => simp only [qc] at o; exact o.elim
            | some c =>
              simp only [qc] at o
              intro g' H' e S' L' v r
              obtain ⟨a, e1, e2⟩ := r
              obtain ⟨S2, L2⟩ := S.keepOne S' L' (by rw [e]; exact qc) e2 (by rw [S.len]; omega)
              refine hrt _ _ (o _ H' ?_ S2 L2 _ ⟨a, e1, ?_⟩)
              · show g'.cs.take g.mu.length ++ [some c] = h'.take g.cs.length ++ [some c]
                rw [e, S.len]
              · show (g'.mu.take g.mu.length ++ [a])[g.cs.length]? = some a
                have hlm : (g'.mu.take g.mu.length).length = g.cs.length := by
                  have := (List.getElem?_eq_some_iff.mp e2).1
                  rw [List.length_take, ← S.len]
                  have := S.len
                  omega
                rw [List.getElem?_append_right (by rw [hlm]; exact Nat.le_refl _), hlm, Nat.sub_self]
                rfl
end

/-! ### a def -/
section
variable {P : Program} {w : World} {K : PySem.W.Frag} {mg : Mg} {base : Heap}
theorem fn_ok {x qual : Str} {st : Stmt} {f : Addr} {fd : FuncData} {N ps : List Str} {k n m : Nat} {b : Sm} (F : Fun K x qual st f fd) (S : FnScope N ps (defScope st)) (hn : ps.length = n) (hm : N.length = m)
    (hbody : ∀ (cdv : Value) (A : Around) (outer : List Env) (s : Shared) (H : Hp) (E : XK), Room k (A.deeper (envOfC qual (defScope st) s.heap.objs.size f cdv)) →
      MSs (cxOf (L2N.CX P w) P w K mg base N qual (defScope st) f cdv A outer s H E) E (defBody st) b) : FnOk P w K mg base (L2N.CX P w) (k + 1) f fd ps (tSp K mg (fnV n m b)) := by
  obtain ⟨oc, od, kV, doc, pm, an, cdv, ct, osl, rfl, lk, hcd⟩ := F.ex
  refine fn_of lk hcd S (fun vs H Q E ⟨g, ds, S, r, o⟩ => ?_) fun A outer s H vs Q E hr ⟨g, ds, S, r, o⟩ => ?_
  · obtain ⟨c, _⟩ := guard_of S o.bind
    rw [r.length, hn]
    exact of_decide_eq_true c
  · obtain ⟨c, o⟩ := guard_of S o.bind
    have hl : ds.length = n := of_decide_eq_true c
    refine ⟨_, hbody cdv A outer s H E hr, g, _, S, EnvR.start hm r, out_call S ?_ (fun _ _ q => q) fun _ _ q => q⟩
    rw [hl]
    exact o
/-- what a call of x asks -/
structure FnD (P : Program) (w : World) (K : PySem.W.Frag) (mg : Mg) (base : Heap) (k : Nat) (x : Str) (n : Nat) (F : Fm) : Prop where
  ex : ∃ f fd ps, FnOk P w K mg base (L2N.CX P w) k f fd ps (tSp K mg F) ∧ mg x = some (.ref f) ∧ PySem.W.keepIn K (.ref f) = true ∧ Binds K fd ps []
theorem FnD.up {j k : Nat} {x : Str} {n : Nat} {F : Fm} (D : FnD P w K mg base j x n F) (h : j ≤ k) : FnD P w K mg base k x n F := by
  obtain ⟨f, fd, ps, a, b, c, d⟩ := D.ex
  exact ⟨f, fd, ps, a.mono h, b, c, d⟩
end
section
variable {X : Cx} {E : XK} {e : Expr} {es : List Expr} {ms : Am} {pos p : Pos} {x : Str} {k n : Nat} {F : Fm}
theorem RSV.all {K : PySem.W.Frag} {g : Gh} {H : Hp} {v : V} {d : SV} (h : RSV K none g H v d) : RSV K cz g H v d := by
  cases d with
  | exc x => obtain ⟨_, _, _, _, e, _⟩ := h; cases e
  | _ => exact h
def notExc : SV → Bool
  | .exc _ => false
  | _ => true
theorem RSVs.non {K : PySem.W.Frag} {g : Gh} {H : Hp} : ∀ {vs : List V} {ds : List SV}, RSVs K cz g H vs ds → ds.all notExc = true → RSVs K none g H vs ds
  | _, _, .nil, _ => .nil
  | _, _, @RSVs.cons _ _ _ _ _ _ d _ r t, h => by
    rw [List.all_cons, Bool.and_eq_true] at h
    refine .cons ?_ (RSVs.non t h.2)
    cases d with
    | exc x => cases h.1
    | _ => exact r
def eCall (F : Fm) (a : Am) : Em := fun ρ => mB (a ρ) fun ds => mB (guard (ds.all notExc)) fun _ => F ds
theorem me_call (D : FnD X.prog X.w X.K X.mg X.base k x n F) (hr : Room k X.A) (hg : Gl X x) (hx : Passes (L2N.CX X.prog X.w) X E) (ha : MA X E (e :: es) ms)
    (hdb : (x == ("__debug__" : Str)) = false := by decide) (he : starEach (e :: es) X.env = (false, eval e X.env) :: starEach es X.env := by rfl) (hpl : (backTo pos (starEach es X.env)).any (·.1) = false := by rfl) :
    ME X E (.Call (.Name x p) (e :: es) [] pos) (eCall F ms) := by
  obtain ⟨f, fd, ps, ok, hm, hk, hb⟩ := D.ex
  refine PEwk (pe_call ok hr hg hm hk hb .nil hx ha hdb he hpl) fun σ H Q ⟨g, ρ, S, V, o⟩ => ?_
  refine ⟨g, ρ, S, V, o.bind.mono fun ds g1 H1 S1 L1 o1 vs rs => ?_⟩
  show tSp X.K X.mg F (vs ++ []) H1 Q E
  rw [List.append_nil]
  obtain ⟨c, o1⟩ := guard_of S1 o1.bind
  exact ⟨g1, ds, S1, rs.non c, o1.mono fun d g2 H2 S2 L2 q v r => q v r.all⟩
theorem me_call0 (D : FnD X.prog X.w X.K X.mg X.base k x n F) (hr : Room k X.A) (hg : Gl X x) (hx : Passes (L2N.CX X.prog X.w) X E)
    (hdb : (x == ("__debug__" : Str)) = false := by decide) : ME X E (.Call (.Name x p) [] [] pos) (fun _ => F []) := by
  obtain ⟨f, fd, ps, ok, hm, hk, hb⟩ := D.ex
  refine PEwk (pe_call0 ok hr hg hm hk hb .nil hx hdb) fun σ H Q ⟨g, ρ, S, V, o⟩ => ?_
  exact ⟨g, [], S, .nil, o.mono fun d g2 H2 S2 L2 q v r => q v r.all⟩
/-- in a def's body what a callee lets out is let out -/
theorem passesX {P : Program} {w : World} {K : PySem.W.Frag} {mg : Mg} {base : Heap} {N : List Str} {qual : Str} {scope : Scope} {f : Addr} {cd : Value} {A : Around} {outer : List Env} {s : Shared} {H : Hp} {E : XK} :
    Passes (L2N.CX P w) (cxOf (L2N.CX P w) P w K mg base N qual scope f cd A outer s H E) E := L2N.passes_call (X := cxOf (L2N.CX P w) P w K mg base N qual scope f cd A outer s H E) (L2N.takes_of rfl rfl rfl rfl) fun _ _ _ _ h => h
end

/-! ### isinstance -/
inductive Ty where
  | int | bool | tuple | list | str
  deriving DecidableEq
def Ty.nm : Ty → String
  | .int => "int" | .bool => "bool" | .tuple => "tuple" | .list => "list" | .str => "str"
def isTy (T : Ty) : PyData → Bool
  | .int _ => match T with | .int => true | _ => false
  | .bool _ => match T with | .int => true | .bool => true | _ => false
  | .tuple _ => match T with | .tuple => true | _ => false
  | .list _ => match T with | .list => true | _ => false
  | .str _ => match T with | .str => true | _ => false
  | _ => false
def fIsi (T : Ty) : SV → Mm SV
  | .val (.dict _) => mStuck
  | .val d => mP (.val (.bool (isTy T d)))
  | _ => mStuck
theorem ty_of {K : PySem.W.Frag} {g : Gh} {H : Hp} {d : PyData} {v : V} (h : RD K g H v d) : ∃ t : String, TyX K H v (.type t) ∧ ∀ T : Ty, kitB t T.nm = some (isTy T d) := by
  cases h with
  | non => exact ⟨_, .base .non, fun T => by cases T <;> decide +kernel⟩
  | bl b => exact ⟨_, .base (.bl b), fun T => by cases T <;> (simp only [isTy]; decide +kernel)⟩
  | int i => exact ⟨_, .base (.int i), fun T => by cases T <;> (simp only [isTy]; decide +kernel)⟩
  | str x => exact ⟨_, .base (.str x), fun T => by cases T <;> (simp only [isTy]; decide +kernel)⟩
  | lst h1 _ =>
    refine ⟨"list", ?_, fun T => by cases T <;> (simp only [isTy]; decide +kernel)⟩
    rcases h1.1 with q | ⟨o, q⟩
    · exact .base (.lst q)
    · exact .base (.frz q)
  | tup h1 _ =>
    refine ⟨"tuple", ?_, fun T => by cases T <;> (simp only [isTy]; decide +kernel)⟩
    rcases h1 with (q | ⟨o, q⟩) | h1
    · exact .base (.tup q)
    · exact .fTuple q
    · obtain ⟨o, its, n, e, c, _⟩ := h1
      exact .kTuple e c
/-- isinstance(value, T) -/
theorem me_isi {X : Cx} {E : XK} {e : Expr} {ma : Em} {x : Str} {p p2 pos : Pos} (T : Ty) (ha : ME X E e ma) (hg : Gl X "isinstance") (hm : X.mg "isinstance" = none) (hgt : Gl X x) (hmt : X.mg x = none) (hv : bootBuiltins x = some (.type T.nm))
    (hn : x ≠ "__name__" := by decide) (hdb : (x == ("__debug__" : Str)) = false := by decide)
    (he : starEach (e :: [Expr.Name x p2]) X.env = (false, eval e X.env) :: starEach [Expr.Name x p2] X.env := by rfl) (hpl : (backTo pos (starEach [Expr.Name x p2] X.env)).any (·.1) = false := by rfl)
    (he2 : starEach [Expr.Name x p2] X.env = (false, eval (.Name x p2) X.env) :: starEach [] X.env := by rfl) :
    ME X E (.Call (.Name "isinstance" p) [e, .Name x p2] [] pos) (eOp1 (fIsi T) ma) := by
  have ht : PE X (.Name x p2) (fun _ H Q => Q (.ty T.nm) H) := ⟨fun pins s σ H Q I q => ld_blt I hgt hmt hv ⟨.ty T.nm, H, I, rfl, q⟩ hn hdb⟩
  refine PEwk (pe_callB call_isi hg hm (by first | exact PyProof.Rows.Boot.«isinstance» | kernel_rfl) (pa_cons ha (pa_cons ht pa_nil he2) he) (by decide) (by decide) he hpl) fun σ H Q ⟨g, ρ, S, V, o⟩ => ?_
  refine ⟨g, ρ, S, V, o.bind.mono fun dx g1 H1 S1 L1 o1 v rv => ?_⟩
  cases dx with
  | ref n => exact o1.elim
  | rng _ _ => exact o1.elim
  | exc _ => exact o1.elim
  | val d =>
    obtain ⟨t, ty, kb⟩ := ty_of rv
    have o2 : Out X.K X.mg E g1 H1 (mP (SV.val (.bool (isTy T d))) g1.cs) fun d g' H' => ∀ v, RSV X.K (cx X) g' H' v d → Q v H' := by
      cases d with
      | dict _ => exact o1.elim
      | _ => exact o1
    exact ⟨v, .ty T.nm, _, _, _, rfl, .ty _, ty, kit_ty (kb T), o2.pure S1 _ (RD.bl _)⟩

/-! ### raise -/
/-- an own error with one field -/
def sRaiseX (nm fld : Str) (a : Em) : Sm := fun ρ => mB (a ρ) fun d => match d with
  | .val d => mX ⟨nm, some (fld, d)⟩
  | _ => mStuck
def sRaise0 (nm : Str) : Sm := fun _ => mX ⟨nm, none⟩
section
variable {X : Cx} {E : XK} {a : Expr} {ma : Em} {nm fld : Str} {C fI : Addr} {p pos pos2 : Pos} {k : Nat}
theorem ms_raiseX (hc : X.calm = true) (tk : L2N.Takes X (fun cls d _ H => E cls d H)) (FO : PySem.MKX.FldOk fld) (T : PySem.MKX.XTxt X.prog X.K X.mg nm fld C fI) (hr : Room k X.A) (ha : ME X E a ma) (hg : Gl X nm)
    (hdb : (nm == ("__debug__" : Str)) = false := by decide) (he : starEach (a :: []) X.env = (false, eval a X.env) :: starEach [] X.env := by rfl) (hpl : (backTo pos (starEach [] X.env)).any (·.1) = false := by rfl) :
    MS X E (.Raise (some (.Call (.Name nm p) [a] [] pos)) none pos2) (sRaiseX nm fld ma) := by
  refine PSwk (L2N.ps_raise hc tk (pmk_x FO T hr (pa_cons ha pa_nil he) hg hdb he hpl)) fun D σ H ⟨g, ρ, S, V, o⟩ => ?_
  refine ⟨g, ρ, S, V, o.bind.mono fun dx g1 H1 S1 L1 o1 v rv => ?_⟩
  cases dx with
  | ref n => exact o1.elim
  | rng _ _ => exact o1.elim
  | exc _ => exact o1.elim
  | val d =>
    refine ⟨v, rfl, fun dd hd => ?_⟩
    obtain ⟨S2, L2⟩ := S1.laid (o := .xd [(fld, v)]) hd
    exact o1 g1 _ _ _ rfl S2 L2 ⟨⟨C, T.gC, rfl⟩, dd, v, rfl, upd_same, RD.mono S1 L2 rv⟩
theorem ms_raise0 {bmB : List Value} {B newId initId : String} (hc : X.calm = true) (tk : L2N.Takes X (fun cls d _ H => E cls d H)) (F : PySem.ExcBaseFacts B newId initId bmB) (q : PySem.W.excIn X.K C bmB newId = true) (gC : X.mg nm = some (.ref C)) (kC : PySem.W.keepIn X.K (.ref C) = true) (r : Raises X (.ref C)) (hg : Gl X nm)
    (hdb : (nm == ("__debug__" : Str)) = false := by decide) : MS X E (.Raise (some (.Call (.Name nm p) [] [] pos)) none pos2) (sRaise0 nm) := by
  refine PSwk (L2N.ps_raise hc tk (pmk_own0 F q gC kC r hg hdb)) fun D σ H ⟨g, ρ, S, V, o⟩ => ?_
  exact o g H _ _ rfl S (Le.refl _ _) ⟨⟨C, gC, rfl⟩, rfl⟩
end
end MK
set_option Elab.async false
set_option linter.all false
set_option maxRecDepth 100000
set_option maxHeartbeats 2000000
/-! MKs: while an error is handled: the end of a list, a tuple unpacked, a comprehension over a list. -/
namespace HotY
open PySem PySem.Spec PyProof.Rows HotX
section
variable {prog : Program} {w : World} {A : Around} {E : Value → Shared → Prop} {s : Shared}
theorem hot_kept {x1 : Addr} {h h' : Heap} (hot : HotAt A x1 h) (k : ∀ o, h.get? x1 = some o → h'.get? x1 = some o) : HotAt A x1 h' := by
  obtain ⟨hh, o, vs, h1, d1, c1⟩ := hot
  exact ⟨hh, o, vs, k _ h1, d1, c1⟩
/-- the end of an iterator: StopIteration is made, raised, caught -/
theorem stop_hot {x1 : Addr} {Q : Option Value → Shared → Prop} {QF : Fin → Shared → Prop} (hot : HotAt A x1 s.heap)
    (hQ : ∀ h', (∀ b o, s.heap.get? b = some o → h'.get? b = some o) → Q none { s with heap := h' }) :
    wpAny (model prog w) A.in1 Builtin.SmallTypes.stopIteration QF
      (fun e s' => wpAny (model prog w) A (do let b ← isInstance e (.type "StopIteration"); if b = true then pure none else throw e) Q E s') s := by
  obtain ⟨hh, o1, vs1, h1, d1, c1⟩ := hot
  show wpAny _ _ (newExc (.type "StopIteration") [] >>= _) _ _ _
  refine wpAny_bind ?_
  simp only [newExc, newTuple]
  refine wpAny_bind (wpAny_newObj_type ?_ (by size_fits))
  refine wpAny_bind (m := firstArgMember _ _) (wpAny_of_eq (a := Value.none) (by first | rfl | (simp only [firstArgMember]; rfl)) ?_)
  refine wpAny_newObj_type ?_ (by size_fits)
  refine raiseNew_hot (A := A.in1) ⟨hh, o1, vs1, Heap.get?_push_of_some _ (Heap.get?_push_of_some _ h1), d1, c1⟩ (Nat.ne_of_lt (Heap.lt_size (Heap.get?_push_of_some _ h1))) (Heap.get?_push_size _ rfl) rfl (by first | (simp; done) | (simp; omega) | (simp only [Array.size_append]; simp; omega)) ?_
  refine wpAny_bind (wpAny_isInstance (T := "StopIteration") (b := true) ⟨_, Heap.get?_update_self _ (Heap.get?_push_size _ rfl) rfl, rfl⟩ isSubtype_stop ?_)
  refine wpAny_pure (hQ _ fun b o e => ?_)
  rw [Heap.get?_update_other _ _ (Nat.ne_of_gt (Heap.lt_size (Heap.get?_push_of_some _ e)))]
  exact Heap.get?_push_of_some _ (Heap.get?_push_of_some _ e)
theorem list_end_hot {it l x1 : Addr} {i : Nat} {items} {Q : Option Value → Shared → Prop} (hot : HotAt A x1 s.heap) (hne : x1 ≠ it)
    (hit : s.heap.IsListIter it l i) (hl : s.heap.IsList l items) (hx : items[i]? = none)
    (hQ : ∀ h', Heap.ExtBut it s.heap h' → Q none { s with heap := h' }) : wpAny (model prog w) A (pyNext (.ref it)) Q E s := by
  obtain ⟨o, ho, hc, hd⟩ := id hit
  obtain ⟨ol, hol, _, nl, hdl⟩ := hl
  unfold pyNext
  refine wpAny_bind (wpAny_attempt (wpAny_callSpecial?_slot (name := Str.ofString "__next__") hit.typeIs slot_listiter_next
    (wpAny_call_entry slot_listiter_next hit.typeIs entry_listiter_next ?_ (args_listiter_next _))))
  show wpAny _ _ (field (.ref it) 0 >>= _) _ _ s
  refine wpAny_bind (wpAny_field ho hd (x := .ref l) rfl ?_)
  show wpAny _ _ (if (Value.ref l == Value.none) = true then _ else _) _ _ s
  rw [if_neg (show ¬ ((Value.ref l == Value.none) = true) from Bool.false_ne_true)]
  show wpAny _ _ (field (.ref it) 1 >>= _) _ _ s
  refine wpAny_bind (wpAny_field ho hd (x := .int i 0) rfl ?_)
  show wpAny _ _ (seqItems? (.ref l) >>= _) _ _ s
  refine wpAny_bind (wpAny_seqItems hol hdl ?_)
  simp only [Int.toNat_natCast, hx]
  refine wpAny_bind (wpAny_rule (wpAny_bind (wpAny_setField ho hd (by simp) ?_)))
  have sb : ∀ b o', b ≠ it → s.heap.get? b = some o' → (s.heap.update it (Obj.mapFields (·.setIfInBounds 0 Value.none))).get? b = some o' := fun b o' hb e => by
    rw [Heap.get?_update_other _ _ (Ne.symm hb)]; exact e
  have hot' := hot_kept hot (fun o e => sb x1 o hne e)
  exact stop_hot hot' fun h' k => hQ h' fun b o' hb e => k b o' (sb b o' hb e)
theorem tuple_end_hot {it t x1 : Addr} {i : Nat} {items} {Q : Option Value → Shared → Prop} (hot : HotAt A x1 s.heap) (hne : x1 ≠ it)
    (hit : IsTupIter s.heap it t i) (ht : IsTup s.heap t items) (hx : items[i]? = none)
    (hQ : ∀ h', Heap.ExtBut it s.heap h' → Q none { s with heap := h' }) : wpAny (model prog w) A (pyNext (.ref it)) Q E s := by
  obtain ⟨o, ho, hc, hd⟩ := id hit
  obtain ⟨ol, hol, _, nl, hdl⟩ := ht
  unfold pyNext
  refine wpAny_bind (wpAny_attempt (wpAny_callSpecial?_slot (name := Str.ofString "__next__") hit.typeIs slot_tupleiter_next
    (wpAny_call_entry slot_tupleiter_next hit.typeIs entry_tupleiter_next ?_ (args_tupleiter_next _))))
  show wpAny _ _ (field (.ref it) 0 >>= _) _ _ s
  refine wpAny_bind (wpAny_field ho hd (x := .ref t) rfl ?_)
  show wpAny _ _ (if (Value.ref t == Value.none) = true then _ else _) _ _ s
  rw [if_neg (show ¬ ((Value.ref t == Value.none) = true) from Bool.false_ne_true)]
  show wpAny _ _ (field (.ref it) 1 >>= _) _ _ s
  refine wpAny_bind (wpAny_field ho hd (x := .int i 0) rfl ?_)
  show wpAny _ _ (seqItems? (.ref t) >>= _) _ _ s
  refine wpAny_bind (wpAny_seqItems hol hdl ?_)
  simp only [Int.toNat_natCast, hx]
  refine wpAny_bind (wpAny_rule (wpAny_bind (wpAny_setField ho hd (by simp) ?_)))
  have sb : ∀ b o', b ≠ it → s.heap.get? b = some o' → (s.heap.update it (Obj.mapFields (·.setIfInBounds 0 Value.none))).get? b = some o' := fun b o' hb e => by
    rw [Heap.get?_update_other _ _ (Ne.symm hb)]; exact e
  have hot' := hot_kept hot (fun o e => sb x1 o hne e)
  exact stop_hot hot' fun h' k => hQ h' fun b o' hb e => k b o' (sb b o' hb e)
theorem unpackItems_hot {t x1 : Addr} {items : Array Value} {Q : List Value → Shared → Prop} (hot : HotAt A x1 s.heap) (ht : IsTup s.heap t items)
    (hQ : ∀ h', Heap.ExtBut s.heap.objs.size s.heap h' → Q items.toList { s with heap := h' }) : wpAny (model prog w) A (unpackItems (.ref t) items.size none) Q E s := by
  have hlt : t ≠ s.heap.objs.size := by obtain ⟨o, ho, _⟩ := ht; exact Nat.ne_of_lt (Heap.lt_size ho)
  have hx1 : x1 ≠ s.heap.objs.size := by obtain ⟨_, o, _, ho, _⟩ := id hot; exact Nat.ne_of_lt (Heap.lt_size ho)
  unfold unpackItems
  refine wpAny_bind ?_
  unfold notIterableAtAll
  refine wpAny_bind (wpAny_specialOf ht.typeIs slot_tuple_iter.lookup ?_)
  refine wpAny_pure ?_
  simp only [Bool.false_eq_true, if_false]
  refine wpAny_bind (wpAny_holding (iter_tuple ht ?_))
  refine wpAny_bind (wpAny_holding (draw_tuple hlt items.size 0 _ _ ⟨_, Heap.get?_push_size _ rfl, rfl, rfl⟩ (ht.push _) (by omega) fun h₁ hit₁ hs₁ => ?_))
  have hall : List.take items.size (List.drop 0 items.toList) = items.toList := by
    rw [List.drop_zero]; exact List.take_of_length_le (by simp)
  rw [hall]
  rw [if_neg (by simp)]
  have ht₁ : IsTup h₁ t items := (ht.push _).extBut hs₁.extBut hlt
  have hot₁ : HotAt A x1 h₁ := hot_kept hot fun o e => hs₁.extBut _ _ hx1 (Heap.get?_push_of_some _ e)
  refine wpAny_bind (wpAny_holding (tuple_end_hot hot₁ hx1 hit₁ ht₁ (by simp) fun h₂ he₂ => ?_))
  simp only [Option.isSome_none, Bool.false_eq_true, if_false]
  exact wpAny_pure (hQ h₂ fun b o hb e => he₂ b o hb (hs₁.extBut b o hb (Heap.get?_push_of_some _ e)))
theorem assign_hot {env : Env} {elts : List Expr} {k : Nat} {pos : Pos} {t x1 : Addr} {items : Array Value} {Q : Unit → Shared → Prop} (hot : HotAt A x1 s.heap) (ht : IsTup s.heap t items)
    (hn : (assignEach elts env).length = items.size) (hstar : (assignEach elts env).findIdx? (·.1) = none)
    (h : ∀ h', Heap.ExtBut s.heap.objs.size s.heap h' → wpAny (model prog w) A (assignInOrder ((assignEach elts env).map (·.2)) items.toList) Q E { s with heap := h' }) :
    wpAny (model prog w) A (assign (.Tuple elts k pos) env (.ref t)) Q E s := by
  rw [assign_Tuple]
  refine wpAny_bind (wpAny_standAt ?_)
  unfold unpack
  rw [hn, hstar]
  exact wpAny_bind (wpAny_holding (unpackItems_hot hot ht h))
end
end HotY

namespace L2
open PySem PySem.Spec PyProof.Rows HotX
/-- an error is handled: in every state of the context it stands as it must -/
def Hot (Y : Cx) : Prop := ∀ (pins : List (Addr × Obj)) (σ : St) (H : Hp) (s : Shared), Inv Y pins σ H s → ∃ x1, HotAt Y.A x1 s.heap ∧ H x1 = none
structure HotS (Y : Cx) : Prop where
  ex : ∃ a, Y.A.handled = some (.ref a) ∧ (∃ (o : Obj) (vs : Array Value), Y.s_0.heap.get? a = some o ∧ o.data = .fields vs ∧ vs[2]? = some .none) ∧ Y.H_0 a = none ∧ a ∉ Y.ex
theorem HotS.hot {Y : Cx} (h : HotS Y) : Hot Y := fun pins σ H s I => by
  obtain ⟨a, hh, ⟨o, vs, e, d, c⟩, h0, hx⟩ := h.ex
  have nf : a ∉ Y.fs := fun z => by
    obtain ⟨_, o', e', hnf⟩ := I.ok.funs.mem z
    rw [e] at e'; cases e'
    exact hnf _ d
  exact ⟨a, ⟨hh, o, vs, I.base.keep a o e h0 nf hx, d, c⟩, I.base.free a o e h0 hx⟩
theorem hot_suite {X : Cx} {a : Addr} {oe : Obj} {cls : Value} {d : Option Addr} {pn : List (Addr × Obj)} (hz : L2N.Zn cls d oe) (hf : ∃ vs, oe.data = .fields vs) : Hot (X.suite a ((a, oe) :: pn)) := fun pins σ H s I => by
  obtain ⟨e, h0, _⟩ := I.pin (a, oe) (List.mem_append_left _ List.mem_cons_self)
  obtain ⟨vs, hv⟩ := hf
  exact ⟨a, ⟨rfl, oe, vs, e, hv, hz.2.2 vs hv⟩, h0⟩
theorem pg_tupH {X : Cx} {es : List Expr} {k : Nat} {pos : Pos} {t : TGs} {n : Nat} (hot : Hot X) (h : PGs X es t)
    (hn : (assignEach es X.env).length = n) (hst : (assignEach es X.env).findIdx? (·.1) = none) : PG X (.Tuple es k pos) (gTup X.K n t) := by
  refine ⟨fun pins s σ H v u Q I r hw => ?_⟩
  obtain ⟨a, xs, e1, hq, hl, hw⟩ := hw
  subst e1
  cases r
  obtain ⟨its, rv, ht, hz⟩ := I.tuple hq
  obtain ⟨x1, ha, _⟩ := hot pins σ H s I
  refine HotY.assign_hot ha ht (by simp [hn, ← hl, rv.length]) hst fun h' hx => ?_
  have I1 : Inv X pins σ H { s with heap := h' } := I.kept (t' := s.toks) fun b o e => hx b o (Nat.ne_of_lt (Heap.lt_size e)) e
  exact h.run pins _ σ H xs _ Q I1 (by simpa using rv) hw
section
variable {X : Cx}
/-- [elt for target in l if ..] while an error is handled: the walk -/
theorem lc_coreH {pins : List (Addr × Obj)} {s : Shared} {σ : St} {H : Hp} {Q : VK} {elt tg l : Expr} {ifs : List Expr} {scope : Scope} {own : List (Str × Nat)} {pos pos' : Pos} {tl : TE} {g : TG} {tt : TT} {te : TE} {use : Option (Value → Sem Unit)} {Qf : Value → Shared → Prop} (hot : Hot X) (hN : X.N.Nodup) (I : Inv X pins σ H s) (hl : PE X l tl) (ok : BlkOk X.N X.env.scope scope own)
    (hg : ∀ (s : Shared) (H : Hp) (C : Addr) (cl : List (Str × Addr)) (fp : List Addr), Hot (X.blk s H scope (compEnvC scope cl C X.env) fp) → PG (X.blk s H scope (compEnvC scope cl C X.env) fp) tg g) (ht : ∀ (s : Shared) (H : Hp) (C : Addr) (cl : List (Str × Addr)) (fp : List Addr), PTs (X.blk s H scope (compEnvC scope cl C X.env) fp) ifs tt)
    (he : ∀ (s : Shared) (H : Hp) (C : Addr) (cl : List (Str × Addr)) (fp : List Addr), PE (X.blk s H scope (compEnvC scope cl C X.env) fp) elt te) (hs : ∀ x, foldedSetIterable l X.env x = pure x)
    (h : tLc (iList X.K tl) g tt te (own.map (·.2)) σ H Q)
    (hRR : ∀ D C s' m H', Inv X pins σ H' s' → Q (.ref D) H' → s'.heap.Ns C m → FpOk X pins H' C → compPost (model X.prog X.w) X.A X.xe use Qf (.ref D) C (.ok .next) s') :
    wpAny (model X.prog X.w) X.A (comprehension (.ListComp elt [⟨tg, l, ifs, 0⟩] scope pos) scope X.env pos' (newList []) false (eval l X.env) use) Qf X.xe s := by
  have hfree : ∀ y ∈ scope.names, y.2 = .free → ∃ c, X.env.cells.lookup y.1 = some c := fun y hy e => by
    rcases ok.free y hy e with k | k
    · exact I.ok.has _ (.inl k)
    · exact I.ok.has _ (.inr k)
  refine wpAny_comprehension_free (use := use) rfl hs (closure_ok hfree) ok.kind (fun y hy e => by rw [ok.uniq y hy, e])
    (thn (hl.run pins s σ H _ I h) fun xv s1 hx => ?_)
  obtain ⟨x0, H1, I1, r1, a, ex0, ⟨xs, hq⟩, q1⟩ := hx
  subst ex0
  cases r1
  obtain ⟨its, rv, p, hz⟩ := I1.list hq
  refine wpAny_pyIter_list p.isList ?_
  generalize hit : s1.heap.objs.size = it
  have st2 : Heap.IsListIter (s1.heap.push { cls := .type "list_iterator", data := .fields #[.ref a, .int 0 0] }) it a 0 := ⟨_, by rw [← hit]; exact Heap.get?_push_size _ rfl, rfl, rfl⟩
  have I2 : Inv X pins σ H1 { s1 with heap := s1.heap.push { cls := .type "list_iterator", data := .fields #[.ref a, .int 0 0] } } := I1.kept (t' := s1.toks) fun b o e => Heap.get?_push_of_some _ e
  have T : Turn X.prog X.w X.K tg (Itl X.K a) [it] it (fun i h => h.IsListIter it a i) := turn_list a it
  have f2 : ∀ b ∈ [it], FpOk X pins H1 b := fun b hb => by
    have e : b = it := by simpa using hb
    rw [e, ← hit]
    exact I1.fpOk (Nat.le_refl _) (I1.hok.fresh (Nat.le_refl _))
  generalize hs2 : ({ s1 with heap := s1.heap.push { cls := .type "list_iterator", data := .fields #[.ref a, .int 0 0] } } : Shared) = s2 at I2
  have st2' : s2.heap.IsListIter it a 0 := by rw [← hs2]; exact st2
  show wpAny _ _ _ _ _ s2
  refine wpAny_newObj_type (newEnv_comp ?_) (by show 0 ≤ sizeLine; decide)
  generalize hD : s2.heap.objs.size = D
  have hDn : H1 D = none := I2.hok.fresh (Nat.le_of_eq hD)
  obtain ⟨W, ⟨m0, w0⟩, turn⟩ := q1 D hDn
  generalize hs3 : ({ s2 with heap := s2.heap.push { cls := .type "list", data := .seq ([] : List Value).toArray } } : Shared) = s3
  have I3 : Inv X pins σ (upd H1 D (.lst [])) s3 := by
    rw [← hs3]
    refine I2.laid (t' := s2.toks) (fun b o e => Heap.get?_push_of_some _ e) (Nat.le_of_eq hD) ⟨Nat.zero_le _, [], 0, .nil, ?_⟩
    rw [← hD]
    exact Heap.get?_push_size _ rfl
  have h3 : s3.heap = s2.heap.push { cls := .type "list", data := .seq ([] : List Value).toArray } := by rw [← hs3]
  have ltit : it < s2.heap.objs.size := by
    obtain ⟨o, e, _⟩ := st2'
    exact Heap.lt_size e
  have f3 : ∀ b ∈ [it], FpOk X pins (upd H1 D (.lst [])) b ∧ b < s3.heap.objs.size := fun b hb => by
    have eb : b = it := by simpa using hb
    have hlt : b < s2.heap.objs.size := by rw [eb]; exact ltit
    refine ⟨⟨?_, (f2 b hb).2⟩, by rw [h3, Heap.size_push]; exact Nat.lt_succ_of_lt hlt⟩
    rw [upd_ne (by rw [← hD]; exact Nat.ne_of_lt hlt)]
    exact (f2 b hb).1
  have st3 : s3.heap.IsListIter it a 0 := T.keep _ _ _ st2' fun b _ o e => by rw [h3]; exact Heap.get?_push_of_some _ e
  have I4 := block_start I3 ok hN f3
  -- the error at hand stands in the block, too
  have hotB : HotS (X.blk s3 (upd H1 D (.lst [])) scope (compEnvC scope (cellsFrom (s3.heap.objs.size + 1) scope.names (cloFrom X.env.cells scope.names [])) s3.heap.objs.size X.env) [it]) := by
    obtain ⟨x1, ⟨hh, o, vs, e, d, c⟩, n⟩ := hot pins σ _ s3 I3
    refine ⟨x1, hh, ⟨o, vs, e, d, c⟩, n, fun z => ?_⟩
    have eb : x1 = it := by simpa using z
    obtain ⟨o', e', _, d'⟩ := st3
    rw [eb, e'] at e
    cases e
    rw [d'] at d
    cases d
    simp at c
  have hotB' := hotB.hot
  have pg := hg s3 (upd H1 D (.lst [])) s3.heap.objs.size (cellsFrom (s3.heap.objs.size + 1) scope.names (cloFrom X.env.cells scope.names [])) [it] hotB'
  have pt := ht s3 (upd H1 D (.lst [])) s3.heap.objs.size (cellsFrom (s3.heap.objs.size + 1) scope.names (cloFrom X.env.cells scope.names [])) [it]
  have pe := he s3 (upd H1 D (.lst [])) s3.heap.objs.size (cellsFrom (s3.heap.objs.size + 1) scope.names (cloFrom X.env.cells scope.names [])) [it]
  show codeAny _ _ (.compStart (.ListComp elt [⟨tg, l, ifs, 0⟩] scope pos) 0 (.ref it) (.ref D) (compEnvC scope (cellsFrom (s3.heap.objs.size + 1) scope.names (cloFrom X.env.cells scope.names [])) s3.heap.objs.size X.env)) _ { s3 with heap := pushCells (s3.heap.push { cls := .type "dict", data := .dict #[] }) scope.names }
  have nfp : ∀ b ∈ [it], (upd H1 D (.lst [])) b = none := fun b hb => (f3 b hb).1.1
  generalize hce : compEnvC scope (cellsFrom (s3.heap.objs.size + 1) scope.names (cloFrom X.env.cells scope.names [])) s3.heap.objs.size X.env = ce at I4 pg pt pe hotB hotB' ⊢
  have cL : ce.locals = s3.heap.objs.size := by subst hce; rfl
  generalize hH3 : upd H1 D (.lst []) = H3 at I3 I4 pg pt pe w0 nfp f3 hotB hotB'
  generalize hs4 : ({ s3 with heap := pushCells (s3.heap.push { cls := .type "dict", data := .dict #[] }) scope.names } : Shared) = s4 at I4 ⊢
  have st4 : s4.heap.IsListIter it a 0 := T.keep _ _ _ st3 fun b _ o e => by rw [← hs4]; exact pushCells_keeps _ _ _ _ (Heap.get?_push_of_some _ e)
  have stat : ∀ {σ' : St} {H' : Hp} {s' : Shared}, Inv (X.blk s3 H3 scope ce [it]) [] σ' H' s' → (∀ b ∈ [it], H' b = none) → ∀ b ∈ [it], FpOk (X.blk s3 H3 scope ce [it]) [] H' b := fun {σ' H' s'} I' hn b hb =>
    ⟨hn b hb, (I'.ok.exf b hb).1, I'.ok.exfs b hb, .inl hb, fun x c e => (I'.ok.exf b hb).2 x c e, fun p hp => absurd (show p ∈ ([] : List (Addr × Obj)) ++ [] from hp) (by simp)⟩
  refine codeAny_compStart_list ?loop (T.self X.A 0 _ _ _ st4 ?loop)
  refine compLoop_any (fun n s' => ∃ i H', Inv (X.blk s3 H3 scope ce [it]) [] (wipe σ (own.map (·.2))) H' s' ∧ s'.heap.IsListIter it a i ∧ (∀ b ∈ [it], H' b = none) ∧ W i n H') ?_ m0 ⟨0, H3, I4, st4, nfp, w0⟩
  rintro n s5 ⟨i, H5, I5, st5, n5, w5⟩
  obtain ⟨f0, f1, g2, g3, g4, g5⟩ := stat I5 n5 it (by simp)
  rcases turn i n H5 w5 with ⟨⟨xs', hq', hx'⟩, qq⟩ | ⟨⟨xs', x', hq', hx'⟩, Nx, hNx, step⟩
  · obtain ⟨its', rv', p', hz'⟩ := I5.list hq'
    obtain ⟨x1, ha, hx1⟩ := hotB' _ _ _ _ I5
    have hne : x1 ≠ it := fun z => by
      obtain ⟨_, o, vs, e, d, c⟩ := ha
      obtain ⟨o', e', _, d'⟩ := st5
      rw [z, e'] at e
      cases e
      rw [d'] at d
      cases d
      simp at c
    have hlen := rv'.length
    refine thnF (HotY.list_end_hot (Q := fun r s6 => r = none ∧ Inv (X.blk s3 H3 scope ce [it]) [] (wipe σ (own.map (·.2))) H5 s6) ha hne st5 p'.isList (by simp; omega) fun h' eb => ⟨rfl, I5.turned (t' := s5.toks) (fun b o hb e => eb b o hb e) f0 f1 g3 g4 g5⟩) fun r s6 ⟨hr, I6⟩ => ?_
    subst hr
    have I7 : Inv X pins σ H5 s6 := I3.call' (ch := [it]) I6.os I6.base I6.hok I6.bare fun b hb => ⟨(f3 b hb).1.2.2.2.1, (f3 b hb).1.2.1, (f3 b hb).1.2.2.2.2.1, (f3 b hb).1.2.2.2.2.2⟩
    have nC : H5 s3.heap.objs.size = none := by
      have z : H5 ce.locals = none := I6.free
      rw [cL] at z
      exact z
    obtain ⟨m, hn, _⟩ := I6.loc
    have hn : s6.heap.Ns ce.locals m := hn
    rw [cL] at hn
    have fC := I3.fpOk (Nat.le_refl _) nC
    exact hRR D s3.heap.objs.size s6 m H5 I7 qq hn fC
  · obtain ⟨its', rv', p', hz'⟩ := I5.list hq'
    obtain ⟨u, hu, ru⟩ := rv'.get hx'
    refine wpAny_pyNext_list_item st5 p'.isList (x := u) (by simpa using hu) fun h' st' sb => ?_
    have I6 : Inv (X.blk s3 H3 scope ce [it]) [] (wipe σ (own.map (·.2))) H5 { s5 with heap := h' } := I5.turned (t' := s5.toks) (fun b o hb e => (sb.2 b hb).trans e) f0 f1 g3 g4 g5
    obtain ⟨o, e, c, d⟩ := id st'
    refine thnF (go_of (s := { s5 with heap := h' }) (Q := fun _ s7 => s7 = { s5 with heap := h' }) e c d (by decide) rfl) fun _ s7 hs7 => ?_
    subst hs7
    have I7' := I6.pinned (stat I6 n5) (T.obj _ _ st')
    refine thnF (pg.run _ _ _ H5 x' u _ I7' ru (step x' H5 ⟨rfl, fun ys hy => by rw [I6.list_inj hy hq']; exact hx'⟩)) fun _ s8 ⟨σ8, H8, I8, hw8, q8⟩ => ?_
    refine thnF (pt.run _ s8 σ8 H8 _ I8 q8) fun b s9 ⟨H9, I9, q9⟩ => ?_
    have fin : ∀ {s' : Shared} {H' : Hp}, Inv (X.blk s3 H3 scope ce [it]) ([] ++ pinsAt [it] h') σ8 H' s' → Nx H' → ∃ m, m < n ∧ ∃ i H', Inv (X.blk s3 H3 scope ce [it]) [] (wipe σ (own.map (·.2))) H' s' ∧ s'.heap.IsListIter it a i ∧ (∀ b ∈ [it], H' b = none) ∧ W i m H' := fun {s' H'} I' nx => by
      obtain ⟨m', hm, w'⟩ := hNx H' nx
      have pin' : ∀ b ∈ [it], ∀ o, h'.get? b = some o → s'.heap.get? b = some o ∧ H' b = none := fun b hb o e =>
        let z := I'.pin (b, o) (List.mem_append_right _ (List.mem_append_right _ (mem_pinsAt hb e)))
        ⟨z.1, z.2.1⟩
      have hl : (wipe σ (own.map (·.2))).length = σ8.length := by rw [← hw8, wipe_length]
      refine ⟨m', hm, i + 1, H', (I'.unpinned (pins := [])).weak hl (fun j v e => ?_), T.keep _ _ _ st' fun b hb o e => (pin' b hb o e).1, fun b hb => ?_, w'⟩
      · rw [← hw8] at e
        exact (wipe_some e).1
      · obtain ⟨o, e, _⟩ := T.obj _ _ st' b hb
        exact (pin' b hb o e).2
    cases b with
    | false =>
      simp only [Bool.false_eq_true, if_false] at q9 ⊢
      exact fin I9 q9
    | true =>
      simp only [if_true] at q9 ⊢
      refine thnF (pe.run _ s9 σ8 H9 _ I9 q9) fun z s10 ⟨yv, H10, I10, r10, acc, hD10, hz10, nx⟩ => ?_
      exact app_ok (X := X.blk s3 H3 scope ce [it]) I10 hD10 hz10 r10 fun s11 I11 => fin I11 nx
/-- as a value -/
theorem pe_lcH {elt tg l : Expr} {ifs : List Expr} {scope : Scope} {own : List (Str × Nat)} {pos : Pos} {tl : TE} {g : TG} {tt : TT} {te : TE} (hot : Hot X) (hN : X.N.Nodup) (hl : PE X l tl) (ok : BlkOk X.N X.env.scope scope own)
    (hg : ∀ (s : Shared) (H : Hp) (C : Addr) (cl : List (Str × Addr)) (fp : List Addr), Hot (X.blk s H scope (compEnvC scope cl C X.env) fp) → PG (X.blk s H scope (compEnvC scope cl C X.env) fp) tg g) (ht : ∀ (s : Shared) (H : Hp) (C : Addr) (cl : List (Str × Addr)) (fp : List Addr), PTs (X.blk s H scope (compEnvC scope cl C X.env) fp) ifs tt)
    (he : ∀ (s : Shared) (H : Hp) (C : Addr) (cl : List (Str × Addr)) (fp : List Addr), PE (X.blk s H scope (compEnvC scope cl C X.env) fp) elt te) (hs : ∀ x, foldedSetIterable l X.env x = pure x) :
    PE X (.ListComp elt [⟨tg, l, ifs, 0⟩] scope pos) (tLc (iList X.K tl) g tt te (own.map (·.2))) := by
  refine ⟨fun pins s σ H Q I h => ?_⟩
  rw [eval_ListComp]
  refine lc_coreH hot hN I hl ok hg ht he hs h fun D C s' m H' I' q hn f => ⟨m, hn, fun h'' sb => ?_⟩
  obtain ⟨f0, f1, f2, f3, f4, f5⟩ := f
  exact ⟨.ref D, H', I'.turned (t' := s'.toks) (fun b o hb e => (sb.2 b hb).trans e) f0 f1 f3 f4 f5, rfl, q⟩
/-- name = [..] on one line, the name a local -/
theorem ps_setLcH {i : Nat} {y : Str} {py : Pos} {elt tg l : Expr} {ifs : List Expr} {scope : Scope} {own : List (Str × Nat)} {pos spos : Pos} {tl : TE} {g : TG} {tt : TT} {te : TE} (hot : Hot X) (hN : X.N.Nodup) (hy : X.N[i]? = some y) (hyl : X.env.scope.names.lookup y = some .local)
    (hsw : swapsWith (.ListComp elt [⟨tg, l, ifs, 0⟩] scope pos) (some (.Name y py)) spos.line X.env = pure true) (hl : PE X l tl) (ok : BlkOk X.N X.env.scope scope own)
    (hg : ∀ (s : Shared) (H : Hp) (C : Addr) (cl : List (Str × Addr)) (fp : List Addr), Hot (X.blk s H scope (compEnvC scope cl C X.env) fp) → PG (X.blk s H scope (compEnvC scope cl C X.env) fp) tg g) (ht : ∀ (s : Shared) (H : Hp) (C : Addr) (cl : List (Str × Addr)) (fp : List Addr), PTs (X.blk s H scope (compEnvC scope cl C X.env) fp) ifs tt)
    (he : ∀ (s : Shared) (H : Hp) (C : Addr) (cl : List (Str × Addr)) (fp : List Addr), PE (X.blk s H scope (compEnvC scope cl C X.env) fp) elt te) (hs : ∀ x, foldedSetIterable l X.env x = pure x) :
    PS X (.Assign [.Name y py] (.ListComp elt [⟨tg, l, ifs, 0⟩] scope pos) spos) (tAsg (tLc (iList X.K tl) g tt te (own.map (·.2))) (gName i)) := by
  refine ⟨fun pins s σ H D I h => ?_⟩
  rw [exec_Assign_Name_used _ _ _ _ hsw]
  refine wpAny_bind (wpAny_standAt (wpAny_bind ?_))
  show wpAny _ X.A (do let _ ← comprehension (.ListComp elt [⟨tg, l, ifs, 0⟩] scope pos) scope X.env (firstIterPos [⟨tg, l, ifs, 0⟩] pos) (newList []) false (eval l X.env) (some (assign (.Name y py) X.env))) _ _ s
  have h : tLc (iList X.K tl) g tt te (own.map (·.2)) σ H (fun x H1 => gName i x σ H1 D.nx) := h
  refine wpAny_bind (thn (lc_coreH (Qf := fun _ s' => SP X pins D .next s') hot hN I hl ok hg ht he hs h fun L C s' m H' I' q hn f => ?_) fun _ s' hq => wpAny_pure (wpAny_pure hq))
  show wpAny _ _ (assign (.Name y py) X.env (.ref L)) _ _ _
  refine wpAny_assign_Name (store_ok2 (v := V.ref L) I' hN hy (.inl hyl) rfl (fun s2 I2 ⟨a, sb, ha⟩ => ?_) (.inr hyl))
  obtain ⟨f0, f1, f2, f3, f4, f5⟩ := f
  have haC : C ≠ a := by
    rcases ha with z | z
    · rw [z]; exact f1
    · exact fun e => f4 y a z e.symm
  refine ⟨m, hn.sameBut sb haC, fun h3 sb3 => ?_⟩
  exact ⟨_, H', I2.turned (t' := s2.toks) (fun b o hb e => (sb3.2 b hb).trans e) f0 f1 f3 f4 f5, q⟩
end
end L2
set_option Elab.async false
set_option linter.all false
set_option maxRecDepth 100000
set_option maxHeartbeats 1000000
/-! MKj: repr; a caught error: isinstance, its field; a def that calls what it got. -/
namespace MK
open PySem PySem.Spec PyProof.Rows L2
variable {cz : Cxx} [Tb]

/-! ### repr -/
def fRepr : SV → Mm SV
  | .val d => mB (guard (d.showable && (!d.hasDict && (decide (d.depth ≤ 20) && decide (d.shown.length ≤ 10000))))) fun _ => mP (.val (.str d.shown))
  | _ => mStuck
section
variable {X : Cx} {E : XK} {pins : List (Addr × Obj)} {σ : L2.St} {H : Hp} {s : Shared} {g : Gh}
mutual
theorem reads_of (I : Inv X pins σ H s) : ∀ {d : PyData} {v : V} {u : Value}, RD X.K g H v d → RelV v u → ∃ as, Reads s.heap u d as
  | .none, _, _, h, r => by cases h; cases (show _ = Value.none from r); exact ⟨_, .none⟩
  | .bool b, _, _, h, r => by cases h; cases (show _ = Value.bool b from r); exact ⟨_, .bool b⟩
  | .int i, _, _, h, r => by cases h; obtain ⟨t, q⟩ := (show ∃ t, _ = Value.int i t from r); rw [q]; exact ⟨_, .int i t⟩
  | .str x, _, _, h, r => by cases h; obtain ⟨t, q⟩ := (show ∃ t, _ = Value.str x t from r); rw [q]; exact ⟨_, .str x t⟩
  | .list ds, _, _, h, r => by
    cases h with
    | @lst a xs _ h1 h2 =>
      cases (show _ = Value.ref a from r)
      obtain ⟨_, its, n, rv, e⟩ := (show ObjOk X.prog X.w H s.heap a (.lst xs) from h1.1.ok I.hok)
      obtain ⟨as, ra⟩ := readsAll_of I h2 rv
      exact ⟨_, .list e rfl rfl ra⟩
  | .tuple ds, _, _, h, r => by
    cases h with
    | @tup a xs _ h1 h2 =>
      cases (show _ = Value.ref a from r)
      rcases h1 with h1 | ⟨o, its, n, e, c, d, _, rv⟩
      · obtain ⟨_, its, rv, o, e, c, n, d⟩ := (show ObjOk X.prog X.w H s.heap a (.tup xs) from h1.ok I.hok)
        obtain ⟨as, ra⟩ := readsAll_of I h2 rv
        exact ⟨_, .tuple e c d ra⟩
      · obtain ⟨as, ra⟩ := readsAll_of I h2 rv
        exact ⟨_, .tuple (I.kIn _ _ e) c d ra⟩
  | .dict _, _, _, h, _ => by cases h
theorem readsAll_of (I : Inv X pins σ H s) : ∀ {ds : List PyData} {vs : List V} {us : List Value}, RDs X.K g H vs ds → Vals vs us → ∃ as, ReadsAll s.heap us ds as
  | [], _, _, h, r => by cases h; cases r; exact ⟨_, .nil⟩
  | d :: ds, _, _, h, r => by
    cases h with
    | cons h1 h2 =>
      cases r with
      | cons r1 r2 =>
        obtain ⟨as, q⟩ := reads_of I h1 r1
        obtain ⟨bs, q2⟩ := readsAll_of I h2 r2
        exact ⟨_, .cons q q2⟩
end
def rRepr (K : PySem.W.Frag) : List V → Hp → VK → Prop := fun xs H Q => ∃ v d g, xs = [v] ∧ RD K g H v d ∧ d.showable = true ∧ d.hasDict = false ∧ d.depth ≤ 20 ∧ d.shown.length ≤ 10000 ∧ Q (.str d.shown) H
theorem call_repr (hg : X.A.guards = some []) (hu : X.A.units + 30 < cLine) : CallR X (.builtin "repr") (rRepr X.K) := by
  intro pins s σ H xs us Q I r h
  obtain ⟨v, d, g, rfl, rd, h1, h2, h3, h4, q⟩ := h
  cases r with
  | @cons _ u _ us' ru rn =>
    cases rn
    have hz : d.shown.length ≤ sizeLine := by rw [sizeLine_eq]; omega
    obtain ⟨as, R⟩ := reads_of I rd ru
    cases rd with
    | non => cases (show u = Value.none from ru); exact PySem.P.repr_of_none ⟨.str _, H, I.tok _, ⟨_, rfl⟩, q⟩
    | bl b => cases (show u = Value.bool b from ru); exact PySem.P.repr_of_bool ⟨.str _, H, I.tok _, ⟨_, rfl⟩, by simpa only [PyData.shown] using q⟩
    | int i =>
      obtain ⟨t, e⟩ := (show ∃ t, u = Value.int i t from ru)
      subst e
      exact PySem.P.repr_of_int (by simpa only [PyData.showable, decide_eq_true_eq] using h1) ⟨.str _, H, I.tok _, ⟨_, rfl⟩, by simpa only [PyData.shown] using q⟩
    | str x =>
      obtain ⟨t, e⟩ := (show ∃ t, u = Value.str x t from ru)
      subst e
      exact PySem.P.repr_of_str ⟨.str _, H, I.tok _, ⟨_, rfl⟩, by simpa only [PyData.shown] using q⟩ (by simpa only [PyData.shown] using hz)
    | @lst a _ _ _ _ =>
      cases (show u = Value.ref a from ru)
      exact repr_of_reads' R h1 (PyData.noDict_hsm h2) hg (by omega) (fun _ _ z => z) (fun h' u tk k => ⟨.str _, H, I.kept k, ⟨_, rfl⟩, q⟩) hz
    | @tup a _ _ _ _ =>
      cases (show u = Value.ref a from ru)
      exact repr_of_reads' R h1 (PyData.noDict_hsm h2) hg (by omega) (fun _ _ z => z) (fun h' u tk k => ⟨.str _, H, I.kept k, ⟨_, rfl⟩, q⟩) hz
end
section
variable {X : Cx} {E : XK} {e : Expr} {ma : Em} {p p2 pos : Pos}
theorem me_repr (hgd : X.A.guards = some []) (hu : X.A.units + 30 < cLine) (ha : ME X E e ma) (hg : Gl X "repr") (hm : X.mg "repr" = none)
    (he : starEach [e] X.env = (false, eval e X.env) :: starEach [] X.env := by rfl) (hpl : (backTo pos (starEach [] X.env)).any (·.1) = false := by rfl) :
    ME X E (.Call (.Name "repr" p) [e] [] pos) (eOp1 fRepr ma) := by
  refine PEwk (pe_callB (call_repr hgd hu) hg hm (by first | exact PyProof.Rows.Boot.«repr» | kernel_rfl) (pa_cons ha pa_nil he) (by decide) (by decide) he hpl) fun σ H Q ⟨g, ρ, S, V, o⟩ => ?_
  refine ⟨g, ρ, S, V, o.bind.mono fun dx g1 H1 S1 L1 o1 v rv => ?_⟩
  cases dx with
  | ref n => exact o1.elim
  | rng _ _ => exact o1.elim
  | exc _ => exact o1.elim
  | val d =>
    obtain ⟨c, o1⟩ := guard_of S1 o1.bind
    simp only [Bool.and_eq_true, Bool.not_eq_true', decide_eq_true_eq] at c
    exact ⟨v, d, g1, rfl, rv, c.1, c.2.1, c.2.2.1, c.2.2.2, o1.pure S1 _ (RD.str _)⟩
end

/-! ### while an error is handled -/
theorem mg_tupH {X : Cx} {E : XK} {ws : List Nat} {ts : List Expr} {k n : Nat} {t : Gsm} {pos : Pos} (hot : Hot X) (h : MGs X E ws ts t) (hn : (assignEach ts X.env).length = n) (hst : (assignEach ts X.env).findIdx? (·.1) = none) : MG X E ws (.Tuple ts k pos) (gTup n t) := by
  refine PGwk (pg_tupH hot h hn hst) fun v σ H Q ⟨g, ρ, d, S, V, r, o⟩ => ?_
  unfold gTup at o
  split at o
  · obtain ⟨c, o⟩ := guard_of S o.bind
    cases r with
    | tup h1 h2 => exact ⟨_, _, rfl, h1, by rw [h2.length]; exact of_decide_eq_true c, g, ρ, _, S, V, h2, o⟩
  · exact o.stuck.elim
/-- over a list by value -/
def iLsH (a : Em) : Im := fun ρ => mB (a ρ) fun d => match d with
  | .val (.list xs) => mP xs
  | _ => mStuck
theorem lcH_read {X : Cx} {E : XK} {ma : Em} {t : Gm} {tc : Tm} {te : Em} {vs : List Nat} {o : Bool} {σ : L2.St} {H : Hp} {Q : VK} (q : tM X.K (cx X) X.mg E (eLc o (iLsH ma) t tc te vs) σ H Q) :
    tLc (iList X.K (tM X.K (cx X) X.mg E ma)) (tG X.K none X.mg E0 vs t) (tT X.K none X.mg E0 tc) (tM X.K none X.mg E0 te) vs σ H Q := by
  have r := lc_read q
  obtain ⟨g, ρ, S, V, out⟩ := r
  refine ⟨g, ρ, S, V, out.bind.mono fun d g1 H1 S1 L1 o1 v rv => ?_⟩
  cases d with
  | ref n => exact o1.elim
  | rng _ _ => exact o1.elim
  | exc _ => exact o1.elim
  | val d =>
    cases d with
    | list xs =>
      have P := o1.pure S1
      cases rv with
      | @lst a vs _ h1 h2 =>
        refine ⟨a, rfl, ⟨vs, h1.sq⟩, ?_⟩
        refine P (ItsS X.K false a) (ien_src fun g' H' k => ?_)
        have := k.rd (RD.lst h1 h2)
        cases this with
        | lst h3 h4 => exact ⟨_, h3.sq, h4⟩
    | _ => exact o1.elim
section
variable {X : Cx} {E : XK} {elt tg l : Expr} {ifs : List Expr} {ma : Em} {t : Gm} {tc : Tm} {te : Em} {pos spos p' : Pos} {scope : Scope} {o : Bool} {x : Str}
theorem me_lcH (own' : List (Str × Nat)) (hot : Hot X) (hN : X.N.Nodup) (ha : ME X E l ma)
    (hg : ∀ (s : Shared) (H : Hp) (C : Addr) (cl : List (Str × Addr)) (fp : List Addr), Hot (X.blk s H scope (compEnvC scope cl C X.env) fp) → MG (X.blk s H scope (compEnvC scope cl C X.env) fp) E0 (own'.map (·.2)) tg t)
    (ht : ∀ (s : Shared) (H : Hp) (C : Addr) (cl : List (Str × Addr)) (fp : List Addr), MTs (X.blk s H scope (compEnvC scope cl C X.env) fp) E0 ifs tc)
    (he : ∀ (s : Shared) (H : Hp) (C : Addr) (cl : List (Str × Addr)) (fp : List Addr), ME (X.blk s H scope (compEnvC scope cl C X.env) fp) E0 elt te)
    (ok : blkC X.N X.env.scope scope own' = true := by rfl) (hs : ∀ x, foldedSetIterable l X.env x = pure x := by intro _; rfl) : ME X E (.ListComp elt [⟨tg, l, ifs, 0⟩] scope pos) (eLc o (iLsH ma) t tc te (own'.map (·.2))) :=
  PEwk (pe_lcH (g := tG X.K none X.mg E0 (own'.map fun p : Str × Nat => p.2) t) (tt := tT X.K none X.mg E0 tc) (te := tM X.K none X.mg E0 te) hot hN ha (blkOk_by ok) hg ht he hs) fun σ H Q q => lcH_read q
theorem ssetLcH (i : Nat) (own' : List (Str × Nat)) (hot : Hot X) (hN : X.N.Nodup) (ha : ME X E l ma)
    (hg : ∀ (s : Shared) (H : Hp) (C : Addr) (cl : List (Str × Addr)) (fp : List Addr), Hot (X.blk s H scope (compEnvC scope cl C X.env) fp) → MG (X.blk s H scope (compEnvC scope cl C X.env) fp) E0 (own'.map (·.2)) tg t)
    (ht : ∀ (s : Shared) (H : Hp) (C : Addr) (cl : List (Str × Addr)) (fp : List Addr), MTs (X.blk s H scope (compEnvC scope cl C X.env) fp) E0 ifs tc)
    (he : ∀ (s : Shared) (H : Hp) (C : Addr) (cl : List (Str × Addr)) (fp : List Addr), ME (X.blk s H scope (compEnvC scope cl C X.env) fp) E0 elt te)
    (hy : X.N[i]? = some x := by rfl) (hyl : X.env.scope.names.lookup x = some .local := by rfl) (hsw : swapsWith (.ListComp elt [⟨tg, l, ifs, 0⟩] scope pos) (some (.Name x p')) spos.line X.env = pure true := by rfl)
    (ok : blkC X.N X.env.scope scope own' = true := by rfl) (hs : ∀ x, foldedSetIterable l X.env x = pure x := by intro _; rfl) :
    MS X E (.Assign [.Name x p'] (.ListComp elt [⟨tg, l, ifs, 0⟩] scope pos) spos) (sAsg (eLc o (iLsH ma) t tc te (own'.map (·.2))) (gVar i)) := by
  refine PSwk (ps_setLcH (i := i) (g := tG X.K none X.mg E0 (own'.map fun p : Str × Nat => p.2) t) (tt := tT X.K none X.mg E0 tc) (te := tM X.K none X.mg E0 te) hot hN hy hyl hsw ha (blkOk_by ok) hg ht he hs) fun D σ H ⟨g, ρ, S, V, q⟩ => ?_
  refine lcH_read (Q := fun x H1 => gName i x σ H1 D.nx) ⟨g, ρ, S, V, q.bind.mono fun d g1 H1 S1 L1 o1 v r => ?_⟩
  exact (o1.bind.pure S1).pure S1 _ ((V.mono S L1).set r i)
end
/-- what the class nm, at C, must bear so that isinstance asks its errors rightly -/
structure ExI (K : PySem.W.Frag) (mg : Mg) (nm : Str) : Prop where
  ex : ∃ C, mg nm = some (.ref C) ∧ ExcC K C ∧ (PySem.W.clsIn K C).isSome = true
/-- isinstance(e, c) for the caught error -/
def fIsE (tb : List (Str × Bool)) : SV → Mm SV
  | .exc x => match tb.lookup x.cls with
    | some b => mP (.val (.bool b))
    | none => mStuck
  | _ => mStuck
/-- the table tb tells rightly which errors are of the class cv -/
def IsTab (K : PySem.W.Frag) (mg : Mg) (cv : Value) (tb : List (Str × Bool)) : Prop := ∀ p ∈ tb, ∃ C, mg p.1 = some (.ref C) ∧ ExcC K C ∧ (PySem.W.clsIn K C).isSome = true ∧ PySem.W.kitOne K (.ref C) cv = some p.2
def rIsEd (K : PySem.W.Frag) (a : Addr) (D : Addr) (d : Option Addr) : List V → Hp → VK → Prop := fun xs H Q => ∃ (c : V) (cv : Value) (b : Bool), xs = [.ref a, c] ∧ (∀ u, RelV c u → u = cv) ∧ (d = none ∨ ∃ dd fs, d = some dd ∧ H dd = some (.xd fs)) ∧ PySem.W.kitOne K (.ref D) cv = some b ∧ Q (.bl b) H
theorem call_isEd {X : Cx} {a D : Addr} {oe : Obj} {d : Option Addr} {pn : List (Addr × Obj)} (C : ExcC X.K D) (hc : (PySem.W.clsIn X.K D).isSome = true) (hz : Zc (.ref D) d oe) (hf : ∃ vs, oe.data = .fields vs) : CallR (X.suite a ((a, oe) :: pn)) (.builtin "isinstance") (rIsEd X.K a D d) := by
  intro pins s σ H xs us Q I r h
  obtain ⟨c, cv, b, rfl, hcv, hd, e, q⟩ := h
  cases r with
  | cons rx rr =>
    cases rr with
    | cons rt rr =>
      cases rr
      cases rx
      have ec := hcv _ rt
      subst ec
      obtain ⟨hget, _⟩ := I.pin (a, oe) (List.mem_append.mpr (.inl List.mem_cons_self))
      obtain ⟨vs, hv⟩ := hf
      have no : PySem.W.notCls oe = true := by unfold PySem.W.notCls; rw [hv] <;> rfl
      rcases hd with hd | ⟨dd, fs, hd, hx⟩
      · have J : PySem.W.InstAt s.heap a oe D none := ⟨hget, hz.1, no, by rw [hz.2, hd]; trivial⟩
        exact PySem.W.kia_one (PySem.W.kitx_exc hc C.hg C.hk C.hs C.ha C.hn C.ht C.hm) I.kIn J e (fun z => nomatch z) fun tk => ⟨.bl b, H, I.kept (t' := tk) fun _ _ z => z, rfl, q⟩
      · have hx' : ObjOk X.prog X.w H s.heap dd (.xd fs) := I.hok dd _ hx
        obtain ⟨mA, hns, hr⟩ := hx'
        obtain ⟨od, ho, hl⟩ := lookIn_ns hns
        have J : PySem.W.InstAt s.heap a oe D (some od) := ⟨hget, hz.1, no, by rw [hz.2, hd]; exact ho⟩
        exact PySem.W.kia_one (PySem.W.kitx_exc hc C.hg C.hk C.hs C.ha C.hn C.ht C.hm) I.kIn J e (fun z => nomatch z) fun tk => ⟨.bl b, H, I.kept (t' := tk) fun _ _ z => z, rfl, q⟩

section
variable {X : Cx} {E : XK} {a : Addr} {oe : Obj} {pn : List (Addr × Obj)} {e : Expr} {ma : Em} {x f : Str} {p p2 pos : Pos} {tb : List (Str × Bool)} {cv : Value} {cV : V}
def rIsX (K : PySem.W.Frag) (a : Addr) (oe : Obj) : List V → Hp → VK → Prop := fun xs H Q => ∃ (c : V) (cv : Value) (b : Bool) (D : Addr), xs = [.ref a, c] ∧ (∀ u, RelV c u → u = cv) ∧ oe.cls = .ref D ∧ ExcC K D ∧ (PySem.W.clsIn K D).isSome = true ∧
  (oe.dict = none ∨ ∃ dd fs, oe.dict = some dd ∧ H dd = some (.xd fs)) ∧ PySem.W.kitOne K (.ref D) cv = some b ∧ Q (.bl b) H
theorem call_isX (hf : ∃ vs, oe.data = .fields vs) : CallR (X.suite a ((a, oe) :: pn)) (.builtin "isinstance") (rIsX X.K a oe) := by
  intro pins s σ H xs us Q I r h
  obtain ⟨c, cv, b, D, ex, hcv, ec, C, hcl, hd, k, q⟩ := h
  exact call_isEd (d := oe.dict) C hcl ⟨ec, rfl⟩ hf pins s σ H xs us Q I r ⟨c, cv, b, ex, hcv, hd, k, q⟩
theorem lookup_mem {α : Type} {l : List (Str × α)} {k : Str} {b : α} (h : l.lookup k = some b) : (k, b) ∈ l := by
  induction l with
  | nil => cases h
  | cons p l ih =>
    obtain ⟨k', b'⟩ := p
    rw [List.lookup_cons] at h
    split at h
    · rename_i q
      cases h
      rw [beq_iff_eq.mp q]
      exact List.mem_cons_self
    · exact List.mem_cons_of_mem _ (ih h)
theorem xa_dict {K : PySem.W.Frag} {g : Gh} {H : Hp} {x : Xn} {oa : Option Addr} (h : XA K g H x oa) : oa = none ∨ ∃ dd fs, oa = some dd ∧ H dd = some (.xd fs) := by
  unfold XA at h
  cases q : x.arg with
  | none => rw [q] at h; exact .inl h
  | some p =>
    rw [q] at h
    obtain ⟨dx, v, e1, e2, _⟩ := h
    exact .inr ⟨dx, _, e1, e2⟩
theorem me_isE0 (hf : ∃ vs, oe.data = .fields vs) (ht : PE (X.suite a ((a, oe) :: pn)) (.Name x p2) (fun _ H Q => Q cV H)) (hcv : ∀ u, RelV cV u → u = cv) (T : IsTab X.K X.mg cv tb) (ha : ME (X.suite a ((a, oe) :: pn)) E e ma)
    (hg : Gl X "isinstance") (hm : X.mg "isinstance" = none) (he : starEach (e :: [Expr.Name x p2]) X.env = (false, eval e X.env) :: starEach [Expr.Name x p2] X.env) (hpl : (backTo pos (starEach [Expr.Name x p2] X.env)).any (·.1) = false)
    (he2 : starEach [Expr.Name x p2] X.env = (false, eval (.Name x p2) X.env) :: starEach [] X.env) : ME (X.suite a ((a, oe) :: pn)) E (.Call (.Name "isinstance" p) [e, .Name x p2] [] pos) (eOp1 (fIsE tb) ma) := by
  refine PEwk (pe_callB (call_isX hf) hg hm (by first | exact PyProof.Rows.Boot.«isinstance» | kernel_rfl) (pa_cons ha (pa_cons ht pa_nil he2) he) (by decide) (by decide) he hpl) fun σ H Q ⟨g, ρ, S, V, o⟩ => ?_
  refine ⟨g, ρ, S, V, o.bind.mono fun dx g1 H1 S1 L1 o1 v rv => ?_⟩
  cases dx with
  | ref n => exact o1.elim
  | rng _ _ => exact o1.elim
  | val d => exact o1.elim
  | exc xn =>
    obtain ⟨a', oe', mg', C, e1, e2, e3, e4, xa⟩ := rv
    have e1 : some (a, oe, X.mg) = some (a', oe', mg') := e1
    cases e1
    unfold fIsE at o1
    cases q : tb.lookup xn.cls with
    | none => simp only [q] at o1; exact o1.elim
    | some b =>
      simp only [q] at o1
      obtain ⟨C', m1, m2, m3, m4⟩ := T _ (lookup_mem q)
      have eC : C' = C := by
        have z := e4.symm.trans m1
        cases z; rfl
      subst eC
      exact ⟨cV, cv, b, C', by rw [e2], hcv, e3, m2, m3, xa_dict xa, m4, o1.pure S1 _ (RD.bl b)⟩
/-- isinstance(e, C), C an own class -/
theorem me_isE {D : Addr} (hf : ∃ vs, oe.data = .fields vs) (hgx : Gl X x) (hmx : X.mg x = some (.ref D)) (T : IsTab X.K X.mg (.ref D) tb) (ha : ME (X.suite a ((a, oe) :: pn)) E e ma)
    (hg : Gl X "isinstance") (hm : X.mg "isinstance" = none) (hdb : (x == ("__debug__" : Str)) = false := by decide) (he : starEach (e :: [Expr.Name x p2]) X.env = (false, eval e X.env) :: starEach [Expr.Name x p2] X.env := by rfl) (hpl : (backTo pos (starEach [Expr.Name x p2] X.env)).any (·.1) = false := by rfl)
    (he2 : starEach [Expr.Name x p2] X.env = (false, eval (.Name x p2) X.env) :: starEach [] X.env := by rfl) : ME (X.suite a ((a, oe) :: pn)) E (.Call (.Name "isinstance" p) [e, .Name x p2] [] pos) (eOp1 (fIsE tb) ma) :=
  me_isE0 (cV := .ref D) hf (PEwk (pe_glob (X := X.suite a ((a, oe) :: pn)) (v := .ref D) hgx hmx rfl hdb) fun σ H Q q => q) (fun u r => r) T ha hg hm he hpl he2
/-- isinstance(e, C), C a built-in class -/
theorem me_isEB {n : String} (hf : ∃ vs, oe.data = .fields vs) (hgx : Gl X x) (hmx : X.mg x = none) (hv : bootBuiltins x = some (.type n)) (T : IsTab X.K X.mg (.type n) tb) (ha : ME (X.suite a ((a, oe) :: pn)) E e ma)
    (hg : Gl X "isinstance") (hm : X.mg "isinstance" = none) (hn : x ≠ "__name__" := by decide) (hdb : (x == ("__debug__" : Str)) = false := by decide) (he : starEach (e :: [Expr.Name x p2]) X.env = (false, eval e X.env) :: starEach [Expr.Name x p2] X.env := by rfl) (hpl : (backTo pos (starEach [Expr.Name x p2] X.env)).any (·.1) = false := by rfl)
    (he2 : starEach [Expr.Name x p2] X.env = (false, eval (.Name x p2) X.env) :: starEach [] X.env := by rfl) : ME (X.suite a ((a, oe) :: pn)) E (.Call (.Name "isinstance" p) [e, .Name x p2] [] pos) (eOp1 (fIsE tb) ma) :=
  me_isE0 (cV := .ty n) hf ⟨fun pins s σ H Q I q => ld_blt (X := X.suite a ((a, oe) :: pn)) I hgx hmx hv ⟨.ty n, H, I, rfl, q⟩ hn hdb⟩ (fun u r => r) T ha hg hm he hpl he2

/-- e.f -/
def fGiv (nms : List Str) (f : Str) : SV → Mm SV
  | .exc x => match x.arg with
    | some (f', d) => if f' = f ∧ x.cls ∈ nms then mP (.val d) else mStuck
    | none => mStuck
  | _ => mStuck
theorem pe_xg {te : TE} (hf : ∃ vs, oe.data = .fields vs) (he : PE (X.suite a ((a, oe) :: pn)) e te) (hb : attributeBase e f X.env (eval e X.env) = eval e X.env) :
    PE (X.suite a ((a, oe) :: pn)) (.Attribute e f pos) (fun σ H Q => te σ H fun x H1 => x = .ref a ∧ ∃ (C dd : Addr) (fs : List (Str × V)) (v : V), oe.cls = .ref C ∧ XfC X.K C ∧ PySem.W.findIn X.K (.ref C) f = some none ∧ oe.dict = some dd ∧ H1 dd = some (.xd fs) ∧ fs.lookup f = some v ∧ Q v H1) := by
  refine ⟨fun pins s σ H Q I h => ?_⟩
  refine attr_of hb (thn (he.run pins s σ H _ I h) fun u s1 hh => ?_)
  obtain ⟨x, H1, I1, rx, ex, C, dd, fs, v, ec, T, hno, ed, ea, l, q⟩ := hh
  subst ex
  obtain rfl : u = Value.ref a := rx
  obtain ⟨ha, _⟩ := I1.pin (a, oe) (List.mem_append_left _ List.mem_cons_self)
  obtain ⟨vs, hd⟩ := hf
  have hx : ObjOk X.prog X.w H1 s1.heap dd (.xd fs) := I1.hok dd _ ea
  obtain ⟨mA, hns, hr⟩ := hx
  obtain ⟨od, ho, hl⟩ := lookIn_ns hns
  obtain ⟨u, hu, ru⟩ := RelO.some_of (v := v) (o := mA f) (by rw [← l]; exact hr f)
  have J : PySem.W.InstAt s1.heap a oe C (some od) := ⟨ha, ec, by unfold PySem.W.notCls; rw [hd] <;> rfl, by rw [ed]; exact ho⟩
  exact HandSPX.exc_get I1.kIn J T.ga T.gg T.exC (PySem.W.findObj_own T.hdC hno rfl (by rw [hl, hu])) (handed_of ru) ⟨v, H1, I1.tok _, ru, q⟩
theorem me_giv {nms : List Str} (hf : ∃ vs, oe.data = .fields vs) (T : ∀ nm ∈ nms, ∃ C, X.mg nm = some (.ref C) ∧ XfC X.K C ∧ PySem.W.findIn X.K (.ref C) f = some none) (ha : ME (X.suite a ((a, oe) :: pn)) E e ma) (hb : attributeBase e f X.env (eval e X.env) = eval e X.env := by rfl) :
    ME (X.suite a ((a, oe) :: pn)) E (.Attribute e f pos) (eOp1 (fGiv nms f) ma) := by
  refine PEwk (pe_xg hf ha hb) fun σ H Q ⟨g, ρ, S, V, o⟩ => ?_
  refine ⟨g, ρ, S, V, o.bind.mono fun dx g1 H1 S1 L1 o1 v rv => ?_⟩
  cases dx with
  | ref n => exact o1.elim
  | rng _ _ => exact o1.elim
  | val d => exact o1.elim
  | exc xn =>
    obtain ⟨a', oe', mg', C, e1, e2, e3, e4, xa⟩ := rv
    have e1 : some (a, oe, X.mg) = some (a', oe', mg') := e1
    cases e1
    unfold fGiv at o1
    unfold XA at xa
    cases q : xn.arg with
    | none => simp only [q] at o1; exact o1.elim
    | some fd =>
      obtain ⟨f', d⟩ := fd
      simp only [q] at o1
      rw [q] at xa
      obtain ⟨dx, w, x1, x2, x3⟩ := xa
      split at o1
      · rename_i hc
        obtain ⟨C', m1, m2, m3⟩ := T _ hc.2
        have eC : C' = C := by
          have z := e4.symm.trans m1
          cases z; rfl
        subst eC
        rw [hc.1] at x2
        exact ⟨e2, C', dx, _, w, e3, m2, m3, x1, x2, by simp [List.lookup], o1.pure S1 _ x3⟩
      · exact o1.elim
end
end MK
set_option Elab.async false
set_option linter.all false
set_option maxRecDepth 100000
set_option maxHeartbeats 2000000
/-! MKl: a lambda handed to a def that calls it in a try. -/
namespace MK
open PySem PySem.Spec PyProof.Rows L2 LamX
variable {cz : Cxx} [Tb]
/-- the lambda's body, what it lets out told with its context -/
def lamN (X : Cx) (A : Around) (outer : List Env) (s : Shared) (H : Hp) (E : XK) (scope : Scope) (f c' : Addr) : Cx :=
  (lamCx X A outer s H (fun _ _ _ => False) scope f c').wish fun e s' => wpAny (model X.prog X.w) (A.deeper (lamEnv X scope s.heap.objs.size f c')) (leaving (lamEnv X scope s.heap.objs.size f c') e) (fun _ s'' => L2N.CX X.prog X.w outer H s E e s'') (fun e' s'' => L2N.CX X.prog X.w outer H s E e' s'') s'
section
variable {X : Cx} {pins : List (Addr × Obj)} {σ : L2.St} {H HZ : Hp} {s s1 : Shared}
theorem pe_actN {CXg : CXT} {Eg : XK} {Ng : List Str} {qg : Str} {sg : Scope} {g f c' : Addr} {cdg pm ctv : Value} {params : Arguments} {body : Expr} {scope : Scope} {k i : Nat} {a : Str} {pn : List (Addr × Obj)} {xe : Value → Shared → Prop} {W : WX} {tb : XK → TE} {p1 p2 : Pos}
    (I : Inv X pins σ H s) (L : LamS X.env.scope scope) (hf : s.heap.get? f = some (PySem.W.kla_obj "<lambda>" (X.env.qual ++ "<lambda>") params body scope (cloFrom X.env.cells scope.names []) pm c' ctv)) (hfn : H f = none) (hfr : f ∉ frs X.stack)
    (hbind : bindArgs (PySem.W.kla_fn "<lambda>" (X.env.qual ++ "<lambda>") params body scope (cloFrom X.env.cells scope.names []) pm (.ref c') ctv) ⟨[], []⟩ = pure [])
    (tk : L2N.Takes ((cxOf CXg X.prog X.w X.K X.mg X.base Ng qg sg g cdg X.A X.stack s H Eg).tr pn xe) W) (hr : Room (k + 1) (X.A.deeper (envOfC qg sg s.heap.objs.size g cdg)))
    (hbody : ∀ (A : Around) (outer : List Env) (s : Shared) (H : Hp) (E : XK), Room k (A.deeper (lamEnv X scope s.heap.objs.size f c')) → PE (lamN X A outer s H E scope f c') body (tb E))
    (hN : Ng[i]? = some a) (hv : Vis sg a) (hd : (a == ("__debug__" : Str)) = false := by decide) (hcd : (a == ("__classdict__" : Str)) = false := by decide) :
    PE ((cxOf CXg X.prog X.w X.K X.mg X.base Ng qg sg g cdg X.A X.stack s H Eg).tr pn xe) (.Call (.Name a p1) [] [] p2)
      (fun σZ HZ Q => σZ[i]? = some (some (.ref f)) ∧ HZ c' = some (CodeO c' (X.env.qual ++ "<lambda>")) ∧ tb (WE W σZ) σ HZ Q) := by
  refine ⟨fun pinsZ sZ σZ HZ Q IZ h => ?_⟩
  obtain ⟨hs, hc, ht⟩ := h
  refine wpAny_Call_Name_kw (thn ((pe_var (pos := p1) (i := i) hN hv hd hcd).run pinsZ sZ σZ HZ (fun v H1 => v = .ref f ∧ H1 = HZ) IZ ⟨.ref f, hs, rfl, rfl⟩) fun u s1 ⟨v, H1, I1, r1, q1⟩ => ?_)
  obtain ⟨ev, eH⟩ := q1
  subst ev
  rw [eH] at I1
  obtain rfl : u = Value.ref f := r1
  have of1 : s1.heap.get? f = some (PySem.W.kla_obj "<lambda>" (X.env.qual ++ "<lambda>") params body scope (cloFrom X.env.cells scope.names []) pm c' ctv) := I1.base.keep f _ hf hfn hfr (fun z => nomatch (show f ∈ ([] : List Addr) from z))
  refine PySem.W.callWith_F0 ⟨_, _, _, _, of1⟩ ?_
  have un : Un (frs X.stack) [] H HZ s.heap s1.heap := I1.base
  obtain ⟨⟨oc, vs, t, hoc, hdc, hvc⟩, _, _⟩ := I1.hok c' _ hc
  have rc : codeAny (model X.prog X.w) (X.A.deeper (envOfC qg sg s.heap.objs.size g cdg)) (.call (.ref f) ⟨[], []⟩) (CR (L2N.CX X.prog X.w) (envOfC qg sg s.heap.objs.size g cdg :: X.stack) X.prog X.w HZ s1 Q (WE W σZ)) s1 := by
    refine PySem.W.kla_callFunE hr.depth of1 rfl L.co L.gen rfl ⟨c', oc, vs, t, rfl, hoc, hdc, hvc⟩ ?_
    rw [hbind]
    refine wpAny_pure (wpAny_newFunctionEnv (fun y hy => (L.own y hy).2) (fun y hy => absurd hy (by simp)) (fun h₁ hns hsb => ⟨I1.nolimit.fresh _ hsb, ?_⟩) L.kind)
    show codeAny _ _ (.expr body (lamEnv X scope s1.heap.objs.size f c')) _ _
    have kp : ∀ b o, s1.heap.get? b = some o → h₁.get? b = some o := fun b o e => hsb.extBut b o (Nat.ne_of_lt (Heap.lt_size e)) (Heap.get?_push_of_some _ e)
    have J : Inv (lamCx X (X.A.deeper (envOfC qg sg s.heap.objs.size g cdg)) (envOfC qg sg s.heap.objs.size g cdg :: X.stack) s1 HZ (fun _ _ _ => False) scope f c') [] σ HZ { s1 with heap := h₁, toks := s1.toks + ([] : List (Str × Value)).length } :=
      lam_start2 I L I1.env0 hr.hd un hns kp
    refine PySem.W.kla_codeExpr (wpAny_mono ((hbody _ _ s1 HZ (WE W σZ) (hr.deeper _)).run [] _ _ HZ Q (J.wish _) ht) (fun v s' hq => ?_) fun e s' hq => hq)
    obtain ⟨w', H', J', rv, q⟩ := hq
    exact ⟨w', H', J'.os, J'.bare, J'.base, J'.hok, rv, q⟩
  have hx := L2N.passAt tk σZ
  refine wpAny_call (codeAny_mono rc fun r s' hq => ?_)
  cases r with
  | error e => exact hx pinsZ HZ s1 e s' I1 hq
  | ok fl =>
    cases fl with
    | ret u => exact I1.after hq
    | next => exact False.elim hq
    | brk => exact False.elim hq
    | cont => exact False.elim hq
/-- the def that calls what it got -/
def GivesN (X : Cx) (Ng : List Str) (x : Str) (sg : Scope) (g : Addr) (cdg : Value) (bg : List Stmt) (a : Str) (q : Str) (j : Nat) (TT : (XK → Hp → VK → Prop) → Hp → VK → Prop) : Prop :=
  ∀ (f c' : Addr) (s : Shared) (H : Hp) (Q : VK) (tl : XK → Hp → VK → Prop), Room j (X.A.deeper (envOfC x sg s.heap.objs.size g cdg)) →
    (∀ (W : WX) (pn : List (Addr × Obj)) (xe : Value → Shared → Prop) (p1 p2 : Pos), L2N.Takes ((cxOf C8.CX0 X.prog X.w X.K X.mg X.base Ng x sg g cdg X.A X.stack s H C8.E0).tr pn xe) W →
      PE ((cxOf C8.CX0 X.prog X.w X.K X.mg X.base Ng x sg g cdg X.A X.stack s H C8.E0).tr pn xe) (.Call (.Name a p1) [] [] p2) (fun σZ HZ Q => σZ[0]? = some (some (.ref f)) ∧ HZ c' = some (CodeO c' q) ∧ tl (WE W σZ) HZ Q)) →
    H c' = some (CodeO c' q) → TT tl H Q →
    ∃ t, PSs (cxOf C8.CX0 X.prog X.w X.K X.mg X.base Ng x sg g cdg X.A X.stack s H C8.E0).nox bg t ∧ t { nx := fun _ H' => Q .non H', rt := Q } (L2.start Ng [.ref f]) H
theorem pe_lamcallN {T : List (Addr × Str)} {TT : (XK → Hp → VK → Prop) → Hp → VK → Prop} {x a : Str} {g c P : Addr} {k : Nat} {pg : Arguments} {bg : List Stmt} {sg : Scope} {dV kV doc pm cdv ct oc : Value} {an od : Option Addr} {osl : Array (Option Value)} {Ng : List Str}
    {params : Arguments} {body : Expr} {scope : Scope} {t : XK → TE} {p lpos pos : Pos} (hg : Gl X x) (hm : X.mg x = some (.ref g)) (hk : PySem.W.keepIn X.K (.ref g) = true)
    (lk : X.K.lookup g = some ⟨oc, od, .func (PySem.W.fnOf x x pg bg sg dV kV doc pm an cdv ct), osl⟩) (hcg : PySem.W.codeIn X.K cdv x = true) (hb : L2.Binds X.K (PySem.W.fnOf x x pg bg sg dV kV doc pm an cdv ct) [a] []) (Sg : FnScope Ng [a] sg) (hNg : Ng[0]? = some a) (hva : Vis sg a)
    (hG : GivesN X Ng x sg g cdv bg a (X.env.qual ++ "<lambda>") (k + 1) TT)
    (TB : TabB X.base X.mg c P) (hcode : X.env.code = .ref c) (hmT : (P, X.env.qual ++ "<lambda>") ∈ T) (hu : ∀ p ∈ T, p.1 = P → p.2 = X.env.qual ++ "<lambda>") (hr : Room (k + 2) X.A) (L : LamS X.env.scope scope) (hdef : defaultsOf params X.env = ([], []))
    (hbind : ∀ (q : Str) (cl : List (Str × Addr)) (pm cv ctv : Value), bindArgs (PySem.W.kla_fn "<lambda>" q params body scope cl pm cv ctv) ⟨[], []⟩ = pure [])
    (hbody : ∀ (A : Around) (outer : List Env) (s : Shared) (H : Hp) (E : XK) (f c' : Addr), Room k (A.deeper (lamEnv X scope s.heap.objs.size f c')) → PE (lamN X A outer s H E scope f c') body (t E))
    (hdb : (x == ("__debug__" : Str)) = false := by decide) (hd : (a == ("__debug__" : Str)) = false := by decide) (hcd : (a == ("__classdict__" : Str)) = false := by decide) :
    PE X (.Call (.Name x p) [.Lambda params body scope lpos] [] pos) (tLam T TT t) := by
  refine ⟨fun pins s σ H Q I h => ?_⟩
  obtain ⟨hT, h⟩ := h
  refine wpAny_Call_Name_kw (ld_glob I hg hm ?_ hdb)
  refine PySem.W.callWith_K (h₀ := X.base) I.ok.mod.kin hk ?_ (by rfl) (by rfl)
  show wpAny _ _ (spliced ((false, eval (.Lambda params body scope lpos) X.env) :: backTo pos (starEach [] X.env))) _ _ s
  refine Calls.spliced_cons (lam_make2 I TB hcode hmT hu hT hdef (L.has I.ok) fun f c' pm' ctv H1 s' I1 eN T1 hf hfn hfr hco => ?_)
  refine Calls.spliced_nil ⟨I1.kIn, ?_⟩
  have rc : codeAny (model X.prog X.w) X.A (.call (.ref g) ⟨[.ref f], []⟩) (CR C8.CX0 X.stack X.prog X.w H1 s' Q C8.E0) s' := by
    refine run_ofS (N := Ng) (ps := [a]) (us := [.ref f]) (vs := [.ref f]) lk hcg Sg hr I1.env0 (hb s' [.ref f] I1.kIn rfl) (.cons rfl .nil) rfl fun hr' => ?_
    obtain ⟨t', ht', hq'⟩ := hG f c' s' H1 Q (fun E H' Q' => t E σ H' Q') hr' (fun W pn xe p1 p2 tk => pe_actN (i := 0) I1 L hf hfn hfr (hbind _ _ _ _ _) tk hr' (fun A outer s H E hr2 => hbody A outer s H E f c' hr2) hNg hva hd hcd) hco (h H1 eN T1)
    exact ⟨t', ht'.nox, hq'⟩
  refine wpAny_call (codeAny_mono rc fun r s2 hq => ?_)
  cases r with
  | error e => exact (show False from hq).elim
  | ok fl =>
    cases fl with
    | ret u => exact I1.after hq
    | next => exact False.elim hq
    | brk => exact False.elim hq
    | cont => exact False.elim hq
end

/-! ### said: try: act() / except e as n: .. / .. -/
def hdl (n i : Nat) (nms : List Str) (hm rest : Sm) (act : Mm SV) : Mm (Fl × Ro) := fun h => match act h with
  | .ok _ h' => rest (List.replicate n none) h'
  | .exn x h' => if x.cls ∈ nms then mB (hm ((List.replicate n none).set i (some (.exc x)))) (fun r => match r.1 with
    | .nx => rest (noExc (r.2.set i none))
    | _ => mP r) h' else .stuck
  | .stuck => .stuck
def fSaid (n i : Nat) (nms : List Str) (hm rest : Sm) (act : Mm SV) : Mm SV := mCall (hdl n i nms hm rest act)
theorem Out.le {K : PySem.W.Frag} {mg : Mg} {E : XK} {g g' : Gh} {H H' : Hp} {α : Type} {r : Res α} {P : α → Gh → Hp → Prop} (L : Le g H g' H') (o : Out K mg E g H r P) : Out K mg E g' H' r P := by
  cases r with
  | ok d h' => exact fun g2 H2 e S L2 => o g2 H2 e S (L.trans L2)
  | exn x h' => exact fun g2 H2 cls oa e S L2 => o g2 H2 cls oa e S (L.trans L2)
  | stuck => exact o
/-- between the lambda's making and the call -/
theorem Sim.extN {K : PySem.W.Frag} {g : Gh} {H H' : Hp} (S : Sim K g H) (e : ExtN H H') (t : Tabs Tb.T H') : Sim K g H' ∧ Le g H g H' := by
  have key : ∀ a, Mut (H a) → H' a = H a := fun a hm => by
    cases q : H a with
    | none => rw [q] at hm; exact hm.elim
    | some o => exact e a o q fun ps z => by rw [q, z] at hm; exact hm
  have L : Le g H g H' := ⟨fun _ _ h => h, fun a o h nt n => ⟨e a o h nt, n⟩, rfl, fun a ha => key a (S.exm a ha), fun a h => ?_⟩
  · refine ⟨⟨S.len, fun n c a h1 h2 => ?_, S.inj, fun n a h => L.trk a (S.trk n a h), fun a ha => by rw [L.exk a ha]; exact S.exm a ha, S.exn, t⟩, L⟩
    have hq := S.cell n c a h1 h2
    exact hq.mono S L (key a hq.mut)
  · cases q : H a with
    | none => exact absurd q h.some
    | some o =>
      rw [q] at h
      rw [e a o q fun ps z => by rw [z] at h; exact h]
      exact h

theorem replicate_env {K : PySem.W.Frag} {g : Gh} {H : Hp} {n : Nat} {σ : L2.St} (h : σ.length = n) : EnvR K cz g H (List.replicate n none) σ := by
  refine ⟨by rw [List.length_replicate, h], fun i d e => ?_⟩
  rw [List.getElem?_replicate] at e
  split at e <;> cases e
theorem EnvR.all {K : PySem.W.Frag} {g : Gh} {H : Hp} {ρ : Ro} {σ : L2.St} (h : EnvR K none g H ρ σ) : EnvR K cz g H ρ σ := ⟨h.1, fun i d e => let ⟨v, e1, r⟩ := h.2 i d e; ⟨v, e1, r.all⟩⟩
/-- what said makes of the lambda's reading -/
def TTs (K : PySem.W.Frag) (mg : Mg) (n i : Nat) (nms : List Str) (hm rs : Sm) : (XK → Hp → VK → Prop) → Hp → VK → Prop := fun tl H Q => ∃ g m, Sim K g H ∧ Out K mg E0 g H (fSaid n i nms hm rs m g.cs) (fun d g' H' => ∀ v, RSV K none g' H' v d → Q v H') ∧
  ∀ E' Q', Out K mg E' g H (m g.cs) (fun d g' H' => ∀ v, RSV K none g' H' v d → Q' v H') → tl E' H Q'
theorem takes0N {X : Cx} : L2N.Takes X (fun _ _ _ _ => False) := fun _ _ x => by
  obtain ⟨_, _, _, _, _, _, _, _, _, _, _, _, _, _, _, _, z⟩ := x
  exact z.elim
section
variable {X : Cx} {Ng : List Str} {x a q e en : Str} {sg : Scope} {g CS : Addr} {cdg : Value} {b₀ : Stmt} {suite rest : List Stmt} {n i j : Nat} {nms : List Str} {hm rs : Sm} {p1 p2 p3 p4 p7 p8 : Pos}
theorem said_gives (hn : Ng.length = n) (hN : Ng.Nodup) (h0 : Ng[0]? = some a) (hi : Ng[i]? = some en) (hln : sg.names.lookup en = some .local) (hge : sg.names.lookup e = some .globalImplicit) (hme : X.mg e = some (.ref CS)) (hde : (e == ("__debug__" : Str)) = false)
    (hcl : ∀ nm ∈ nms, ∃ C, X.mg nm = some (.ref C) ∧ PySem.W.exmOne X.K (.ref C) (.ref CS) = some true) (hsw : ∀ env : Env, swapsWith (.Call (.Name a p1) [] [] p2) none p3.line env = pure false)
    (hsu : ∀ (s : Shared) (H : Hp) (ad : Addr) (oe : Obj) (cls : Value) (d : Option Addr) (pn : List (Addr × Obj)), Room j (X.A.deeper (envOfC x sg s.heap.objs.size g cdg)) → L2N.Zn cls d oe → (∃ vs, oe.data = .fields vs) →
      MSs ((cxOf C8.CX0 X.prog X.w X.K X.mg X.base Ng x sg g cdg X.A X.stack s H C8.E0).nox.suite ad ((ad, oe) :: pn)) E0 (b₀ :: suite) hm)
    (hrs : ∀ (s : Shared) (H : Hp), Room j (X.A.deeper (envOfC x sg s.heap.objs.size g cdg)) → MSs (cxOf C8.CX0 X.prog X.w X.K X.mg X.base Ng x sg g cdg X.A X.stack s H C8.E0).nox E0 rest rs) :
    GivesN X Ng x sg g cdg (.Try [.Expr (.Call (.Name a p1) [] [] p2) p3] [.ExceptHandler (some (.Name e p4)) (some en) (b₀ :: suite) p7] [] [] p8 :: rest) a q j (TTs X.K X.mg n i nms hm rs) := by
  intro f c' s H Q tl hr act hc h
  obtain ⟨g0, m, S, o, tlk⟩ := h
  have hgl : Gl (cxOf C8.CX0 X.prog X.w X.K X.mg X.base Ng x sg g cdg X.A X.stack s H C8.E0).nox e := hge
  have hlen : (L2.start Ng [V.ref f]).length = n := by
    unfold L2.start
    have : 0 < Ng.length := (List.getElem?_eq_some_iff.mp h0).1
    simp; omega
  have hs0 : (L2.start Ng [V.ref f])[0]? = some (some (V.ref f)) := by unfold L2.start; rfl
  refine ⟨_, pss_cons (L2N.ps_try_as (X := (cxOf C8.CX0 X.prog X.w X.K X.mg X.base Ng x sg g cdg X.A X.stack s H C8.E0).nox) (c := .ref CS) (i := i)
      (tb := fun W D σ H => σ[0]? = some (some (V.ref f)) ∧ H c' = some (CodeO c' q) ∧ tl (WE W σ) H (fun _ H' => D.nx σ H'))
      (ts := fun ad cls d D σ H => ∀ oe, L2N.Zn cls d oe → tS X.K (some (ad, oe, X.mg)) X.mg E0 hm D σ H)
      rfl rfl hN hi hln ⟨hgl, hde, .inl hme⟩ takes0N (fun W pn xe tk _ => pss_one (PSwk (ps_expr (act W pn xe p1 p2 tk) (hsw _)) fun D σ H z => z)) (fun ad oe cls d pn hz hf => PSswk (hsu s H ad oe cls d pn hr hz hf) fun D σ H z => z oe hz)) (hrs s H hr), ?_⟩
  -- the whole, flow by flow
  have O : ∀ cz : Cxx, Out X.K X.mg E0 g0 H (hdl n i nms hm rs m g0.cs) (EndR X.K cz { nx := fun _ H' => Q .non H', rt := Q }) := fun cz => out_call S o (fun _ _ z => z) fun _ _ z => z
  refine ⟨hs0, hc, tlk _ _ ?_⟩
  unfold hdl at O
  cases qm : m g0.cs with
  | stuck =>
    have z := O none
    rw [qm] at z
    exact z
  | ok d h' =>
    intro g1 H1 e1 S1 L1 v _
    have z := O none
    rw [qm] at z
    subst e1
    exact ⟨g1, List.replicate n none, S1, replicate_env hlen, z.le L1⟩
  | exn xn h' =>
    intro g1 H1 cls oa e1 S1 L1 xr
    subst e1
    have z : ∀ cz : Cxx, xn.cls ∈ nms ∧ Out X.K X.mg E0 g0 H (mB (hm ((List.replicate n none).set i (some (.exc xn)))) (fun r => match r.1 with
      | .nx => rs (noExc (r.2.set i none))
      | _ => mP r) g1.cs) (EndR X.K cz { nx := fun _ H' => Q .non H', rt := Q }) := fun cz => by
      have z := O cz
      rw [qm] at z
      simp only at z
      split at z
      · rename_i hc; exact ⟨hc, z⟩
      · exact z.elim
    obtain ⟨C, m1, m2⟩ := hcl _ (z none).1
    obtain ⟨⟨C', m3, m4⟩, xa⟩ := xr
    have eC : C = C' := by rw [m1] at m3; cases m3; rfl
    subst eC
    subst m4
    refine ⟨true, m2, fun _ ad hn0 oe hz => ?_, fun b => by cases b⟩
    have V : EnvR X.K (some (ad, oe, X.mg)) g1 H1 ((List.replicate n none).set i (some (.exc xn))) ((L2.start Ng [V.ref f]).set i (some (.ref ad))) :=
      EnvR.set (d := .exc xn) (v := V.ref ad) (replicate_env hlen) ⟨ad, oe, X.mg, C, rfl, rfl, hz.1, m1, by rw [hz.2.1]; exact xa⟩ i
    refine ⟨g1, _, S1, V, ((z (some (ad, oe, X.mg))).2.le L1).bind.mono fun r g2 H2 S2 L2 o2 => ?_⟩
    obtain ⟨fl, ρ2⟩ := r
    cases fl with
    | nx =>
      intro σ2 V2
      have o3 : Out X.K X.mg E0 g2 H2 (rs (noExc (ρ2.set i none)) g2.cs) (EndR X.K (some (ad, oe, X.mg)) { nx := fun _ H' => Q .non H', rt := Q }) := o2
      refine ⟨g2, _, S2, (V2.clear i none).noExc, o3.mono fun r g3 H3 S3 L3 e3 => ?_⟩
      obtain ⟨fl, ρ3⟩ := r
      cases fl with
      | nx => exact fun σ3 V3 => e3 σ3 V3.all
      | rt d => exact fun v r => e3 v r.all
      | bk => exact fun σ3 V3 => e3 σ3 V3.all
      | ct => exact fun σ3 V3 => e3 σ3 V3.all
    | rt d => exact Out.pure (mg := X.mg) (E := E0) (a := (Fl.rt d, ρ2)) (P := EndR X.K (some (ad, oe, X.mg)) _) S2 o2
    | bk => exact fun σ2 V2 => (Out.pure (mg := X.mg) (E := E0) (a := (Fl.bk, ρ2)) (P := EndR X.K (some (ad, oe, X.mg)) { nx := fun _ H' => Q .non H', rt := Q }) S2 o2) σ2 V2
    | ct => exact fun σ2 V2 => (Out.pure (mg := X.mg) (E := E0) (a := (Fl.ct, ρ2)) (P := EndR X.K (some (ad, oe, X.mg)) { nx := fun _ H' => Q .non H', rt := Q }) S2 o2) σ2 V2
end

theorem Out.noX {K : PySem.W.Frag} {mg : Mg} {E E' : XK} {g : Gh} {H : Hp} {α : Type} {m : Mm α} {h : Hm} {P : α → Gh → Hp → Prop} (o : Out K mg E g H (MK.noX m h) P) : Out K mg E' g H (m h) P := by
  unfold MK.noX at o
  cases q : m h with
  | ok d h' => rw [q] at o; exact o
  | exn x h' => rw [q] at o; exact o.elim
  | stuck => rw [q] at o; exact o.elim
/-- said(lambda: body) -/
def eSaid (n i : Nat) (nms : List Str) (hm rs : Sm) (mb : Em) : Em := fun ρ => noX (fSaid n i nms hm rs (mb (noExc ρ)))
theorem me_said {X : Cx} {E : XK} {x a : Str} {g c P : Addr} {k : Nat} {pg : Arguments} {bg : List Stmt} {sg : Scope} {dV kV doc pm cdv ct oc : Value} {an od : Option Addr} {osl : Array (Option Value)} {Ng : List Str}
    {params : Arguments} {body : Expr} {scope : Scope} {mb : Em} {p lpos pos : Pos} {n i : Nat} {nms : List Str} {hm rs : Sm} (hg : Gl X x) (hmx : X.mg x = some (.ref g)) (hk : PySem.W.keepIn X.K (.ref g) = true)
    (lk : X.K.lookup g = some ⟨oc, od, .func (PySem.W.fnOf x x pg bg sg dV kV doc pm an cdv ct), osl⟩) (hcg : PySem.W.codeIn X.K cdv x = true) (hb : L2.Binds X.K (PySem.W.fnOf x x pg bg sg dV kV doc pm an cdv ct) [a] []) (Sg : FnScope Ng [a] sg) (hNg : Ng[0]? = some a) (hva : Vis sg a)
    (hG : GivesN X Ng x sg g cdv bg a (X.env.qual ++ "<lambda>") (k + 1) (TTs X.K X.mg n i nms hm rs))
    (TB : TabB X.base X.mg c P) (hcode : X.env.code = .ref c) (hmT : (P, X.env.qual ++ "<lambda>") ∈ Tb.T) (hu : ∀ p ∈ Tb.T, p.1 = P → p.2 = X.env.qual ++ "<lambda>") (hr : Room (k + 2) X.A) (L : LamS X.env.scope scope) (hdef : defaultsOf params X.env = ([], []))
    (hbind : ∀ (q : Str) (cl : List (Str × Addr)) (pm cv ctv : Value), bindArgs (PySem.W.kla_fn "<lambda>" q params body scope cl pm cv ctv) ⟨[], []⟩ = pure [])
    (hbody : ∀ (A : Around) (outer : List Env) (s : Shared) (H : Hp) (E : XK) (f c' : Addr), Room k (A.deeper (lamEnv X scope s.heap.objs.size f c')) → ME (lamN X A outer s H E scope f c') E body mb)
    (hdb : (x == ("__debug__" : Str)) = false := by decide) (hd : (a == ("__debug__" : Str)) = false := by decide) (hcd : (a == ("__classdict__" : Str)) = false := by decide) :
    ME X E (.Call (.Name x p) [.Lambda params body scope lpos] [] pos) (eSaid n i nms hm rs mb) := by
  refine PEwk (pe_lamcallN (T := Tb.T) (t := fun E => tM X.K none X.mg E mb) hg hmx hk lk hcg hb Sg hNg hva hG TB hcode hmT hu hr L hdef hbind hbody hdb hd hcd) fun σ H Q ⟨g0, ρ, S, V, o⟩ => ?_
  refine ⟨S.tabs, fun H1 eN T1 => ?_⟩
  obtain ⟨S1, L1⟩ := S.extN eN T1
  refine ⟨g0, mb (noExc ρ), S1, (Out.noX (o.le L1)).mono fun d g' H' _ _ q v r => q v r.all, fun E' Q' o' => ⟨g0, noExc ρ, S1, (V.mono S L1).noExc, o'⟩⟩
end MK
set_option Elab.async false
set_option linter.all false
set_option maxRecDepth 100000
set_option maxHeartbeats 2000000
/-! MKm: calls by name alone; defs that know that no repr runs around them; the law's end. -/
namespace MK
open PySem PySem.Spec PyProof.Rows L2 LamX
variable {cz : Cxx} [Tb]

/-! ### keywords alone -/
/-- the values of k = e, .. in the order in which they are written -/
def tK (K : PySem.W.Frag) (cz : Cxx) (mg : Mg) (E : XK) (m : Am) : TA := tA K cz mg E m
theorem mk_nil {X : Cx} {E : XK} : PK X [] (tA X.K (cx X) X.mg E aNil) := ⟨fun pos pins s σ H Q I ⟨g, ρ, S, V, o⟩ => pk_nil.run pos pins s σ H Q I (o.pure S _ .nil)⟩
theorem mk_cons {X : Cx} {E : XK} {e : Expr} {ma : Em} {kws : List Keyword} {mr : Am} {nm : Option Str} {kpos : Pos} (ha : ME X E e ma) (hr : PK X kws (tA X.K (cx X) X.mg E mr)) : PK X (⟨nm, e, kpos⟩ :: kws) (tA X.K (cx X) X.mg E (aCons ma mr)) := by
  refine ⟨fun pos pins s σ H Q I ⟨g, ρ, S, V, o⟩ => (pk_cons ha hr).run pos pins s σ H Q I ?_⟩
  refine ⟨g, ρ, S, V, o.bind.mono fun d g1 H1 S1 L1 o1 v rv => ?_⟩
  refine ⟨g1, ρ, S1, V.mono S L1, o1.bind.mono fun ds g2 H2 S2 L2 o2 vs rs => ?_⟩
  exact o2.pure S2 _ (.cons (rv.mono S1 L2) rs)
/-- the arguments from the order of writing to the parameters' -/
def permD {α : Type} (is : List Nat) (l : List α) : List α := is.filterMap fun i => l[i]?
/-- how a def binds keywords alone -/
structure KwB (fd : FuncData) (ps ks : List Str) (is : List Nat) : Prop where
  bd : ∀ us : List Value, us.length = ks.length → bindArgs fd ⟨[], ks.zip us⟩ = pure (ps.zip (permD is us))
structure FnKw (P : Program) (w : World) (K : PySem.W.Frag) (mg : Mg) (base : Heap) (k : Nat) (x : Str) (F : Fm) (ks : List Str) (is : List Nat) : Prop where
  ex : ∃ f fd ps, FnOk P w K mg base (L2N.CX P w) k f fd ps (tSp K mg F) ∧ mg x = some (.ref f) ∧ PySem.W.keepIn K (.ref f) = true ∧ KwB fd ps ks is
theorem _root_.L2.Fun.kwb {K : PySem.W.Frag} {x qual : Str} {st : Stmt} {f : Addr} {fd : FuncData} {ps ks : List Str} {is : List Nat} (F : Fun K x qual st f fd)
    (h : ∀ (kV doc pm : Value) (an : Option Addr) (cdv ct : Value) (us : List Value), us.length = ks.length → bindArgs (PySem.W.fnOf x qual (defArgs st) (defBody st) (defScope st) .none kV doc pm an cdv ct) ⟨[], ks.zip us⟩ = pure (ps.zip (permD is us))) : KwB fd ps ks is := by
  obtain ⟨oc, od, kV, doc, pm, an, cdv, ct, osl, rfl, lk, hcd⟩ := F.ex
  exact ⟨h kV doc pm an cdv ct⟩
theorem vals_permD {is : List Nat} {vs : List V} {us : List Value} (r : Vals vs us) : Vals (permD is vs) (permD is us) := by
  induction is with
  | nil => exact .nil
  | cons i is ih =>
    unfold permD
    rw [List.filterMap_cons, List.filterMap_cons]
    cases q : vs[i]? with
    | none =>
      have : us[i]? = none := by
        rw [List.getElem?_eq_none_iff] at q ⊢
        rw [← r.length]; exact q
      rw [this]
      exact ih
    | some v =>
      obtain ⟨u, hu, ru⟩ := r.get q
      rw [hu]
      exact .cons ru ih
theorem rsvs_permD {K : PySem.W.Frag} {g : Gh} {H : Hp} {is : List Nat} {vs : List V} {ds : List SV} (r : RSVs K cz g H vs ds) : RSVs K cz g H (permD is vs) (permD is ds) := by
  induction is with
  | nil => exact .nil
  | cons i is ih =>
    unfold permD
    rw [List.filterMap_cons, List.filterMap_cons]
    cases q : ds[i]? with
    | none =>
      have : vs[i]? = none := by
        rw [List.getElem?_eq_none_iff] at q ⊢
        rw [r.length]; exact q
      rw [this]
      exact ih
    | some d =>
      obtain ⟨v, hv, rv⟩ := r.get q
      rw [hv]
      exact .cons rv ih
def eCallK (F : Fm) (is : List Nat) (a : Am) : Em := fun ρ => mB (a ρ) fun ds => mB (guard (ds.all notExc && decide (ds.length = is.length))) fun _ => F (permD is ds)
theorem me_callK {X : Cx} {E : XK} {x : Str} {p pos : Pos} {kws : List Keyword} {ms : Am} {k : Nat} {F : Fm} {ks : List Str} {is : List Nat} (D : FnKw X.prog X.w X.K X.mg X.base k x F ks is) (hks : ks.length = is.length) (hr : Room k X.A) (hg : Gl X x) (hx : Passes (L2N.CX X.prog X.w) X E)
    (ha : PK X kws (tA X.K (cx X) X.mg E ms)) (hdb : (x == ("__debug__" : Str)) = false := by decide) (hall : (backToKw pos (keywordEach kws X.env)).all (·.1.isSome) = true := by rfl) (hkn : (backToKw pos (keywordEach kws X.env)).filterMap (·.1) = ks := by rfl)
    (hpl : ((backTo pos (starEach [] X.env)).any (·.1) || (backToKw pos (keywordEach kws X.env)).any (·.1.isNone)) = false := by rfl) :
    ME X E (.Call (.Name x p) [] kws pos) (eCallK F is ms) := by
  obtain ⟨f, fd, ps, ok, hm, hk, hb⟩ := D.ex
  refine ⟨fun pins s σ H Q I ⟨g, ρ, S, V, o⟩ => ?_⟩
  refine wpAny_Call_Name_kw (ld_glob I hg hm ?_ hdb)
  refine PySem.W.callWith_KW0 (h₀ := X.base) I.ok.mod.kin hk hall (thn (ha.run pos pins s σ H (fun vs H1 => ∃ g1 ds, Sim X.K g1 H1 ∧ RSVs X.K (cx X) g1 H1 vs ds ∧ Out X.K X.mg E g1 H1 (mB (guard (ds.all notExc && decide (ds.length = is.length))) (fun _ => F (permD is ds)) g1.cs) fun d g' H' => ∀ v, RSV X.K (cx X) g' H' v d → Q v H') I
    ⟨g, ρ, S, V, o.bind.mono fun ds g1 H1 S1 L1 o1 vs rs => ⟨g1, ds, S1, rs, o1⟩⟩) fun us s1 ⟨vs, H1, I1, r1, g1, ds, S1, rs, o1⟩ => ⟨I1.kIn, ?_⟩) hpl
  obtain ⟨c, o1⟩ := guard_of S1 o1.bind
  rw [Bool.and_eq_true] at c
  have hl : ds.length = is.length := of_decide_eq_true c.2
  rw [hkn]
  show wpAny _ _ (call (.ref f) ([] ++ []) (ks.zip us)) _ _ _
  have hus : us.length = ks.length := by rw [← r1.length, rs.length, hl, hks]
  refine wpAny_call (codeAny_mono (ok.run X.A X.stack s1 H1 ⟨[], ks.zip us⟩ (permD is us) (permD is vs) Q E hr I1.env0 (.of_eq (hb.bd us hus)) (vals_permD r1) ⟨g1, permD is ds, S1, rsvs_permD (rs.non c.1), o1.mono fun d g2 H2 S2 L2 q v r => q v r.all⟩) fun r s' hq => ?_)
  cases r with
  | error e => exact hx pins σ H1 s1 e s' I1 hq
  | ok fl =>
    cases fl with
    | ret u => exact I1.after hq
    | next => exact False.elim hq
    | brk => exact False.elim hq
    | cont => exact False.elim hq

/-! ### no repr runs around -/
structure FnOkG (P : Program) (w : World) (K : PySem.W.Frag) (mg : Mg) (base : Heap) (k : Nat) (f : Addr) (fd : FuncData) (ps : List Str) (sp : Sp) : Prop where
  len : ∀ vs H Q E, sp vs H Q E → vs.length = ps.length
  run : ∀ (A : Around) (outer : List Env) (s : Shared) (H : Hp) (args : Args) (us : List Value) (vs : List V) (Q : VK) (E : XK), A.guards = some [] → Room k A → Env0 P w K mg base A outer s H → BindsTo s fd args (ps.zip us) → Vals vs us → sp vs H Q E →
    codeAny (model P w) A (.call (.ref f) args) (CR (L2N.CX P w) outer P w H s Q E) s
theorem fn_okG {P : Program} {w : World} {K : PySem.W.Frag} {mg : Mg} {base : Heap} {x qual : Str} {st : Stmt} {f : Addr} {fd : FuncData} {N ps : List Str} {k n m : Nat} {b : Sm} (F : Fun K x qual st f fd) (S : FnScope N ps (defScope st)) (hn : ps.length = n) (hm : N.length = m)
    (hbody : ∀ (cdv : Value) (A : Around) (outer : List Env) (s : Shared) (H : Hp) (E : XK), fd.code = cdv → PySem.W.codeIn K cdv qual = true → A.guards = some [] → Room k (A.deeper (envOfC qual (defScope st) s.heap.objs.size f cdv)) →
      MSs (cxOf (L2N.CX P w) P w K mg base N qual (defScope st) f cdv A outer s H E) E (defBody st) b) : FnOkG P w K mg base (k + 1) f fd ps (tSp K mg (fnV n m b)) := by
  obtain ⟨oc, od, kV, doc, pm, an, cdv, ct, osl, rfl, lk, hcd⟩ := F.ex
  have len : ∀ vs H Q E, tSp K mg (fnV n m b) vs H Q E → vs.length = ps.length := fun vs H Q E ⟨g, ds, S, r, o⟩ => by
    obtain ⟨c, _⟩ := guard_of S o.bind
    rw [r.length, hn]
    exact of_decide_eq_true c
  refine ⟨len, fun A outer s H args us vs Q E hgd hr e0 hb rv hsp => ?_⟩
  have hl := len _ _ _ _ hsp
  refine run_ofS lk hcd S hr e0 hb rv hl fun hr' => ?_
  obtain ⟨g, ds, S, r, o⟩ := hsp
  obtain ⟨c, o⟩ := guard_of S o.bind
  have hl : ds.length = n := of_decide_eq_true c
  refine ⟨_, hbody cdv A outer s H E rfl hcd hgd hr', g, _, S, EnvR.start hm r, out_call S ?_ (fun _ _ q => q) fun _ _ q => q⟩
  rw [hl]
  exact o
structure FnDG (P : Program) (w : World) (K : PySem.W.Frag) (mg : Mg) (base : Heap) (k : Nat) (x : Str) (F : Fm) : Prop where
  ex : ∃ f fd ps, FnOkG P w K mg base k f fd ps (tSp K mg F) ∧ mg x = some (.ref f) ∧ PySem.W.keepIn K (.ref f) = true ∧ Binds K fd ps []
theorem me_callG {X : Cx} {E : XK} {e : Expr} {es : List Expr} {ms : Am} {pos p : Pos} {x : Str} {k : Nat} {F : Fm} (D : FnDG X.prog X.w X.K X.mg X.base k x F) (hgd : X.A.guards = some []) (hr : Room k X.A) (hg : Gl X x) (hx : Passes (L2N.CX X.prog X.w) X E) (ha : MA X E (e :: es) ms)
    (hdb : (x == ("__debug__" : Str)) = false := by decide) (he : starEach (e :: es) X.env = (false, eval e X.env) :: starEach es X.env := by rfl) (hpl : (backTo pos (starEach es X.env)).any (·.1) = false := by rfl) :
    ME X E (.Call (.Name x p) (e :: es) [] pos) (eCall F ms) := by
  obtain ⟨f, fd, ps, ok, hm, hk, hb⟩ := D.ex
  refine ⟨fun pins s σ H Q I ⟨g, ρ, S, V, o⟩ => ?_⟩
  refine wpAny_Call_Name_kw (ld_glob I hg hm ?_ hdb)
  refine PySem.W.callWith_K (h₀ := X.base) I.ok.mod.kin hk (thn (ha.run pos pins s σ H (fun vs H1 => ∃ g1 ds, Sim X.K g1 H1 ∧ RSVs X.K (cx X) g1 H1 vs ds ∧ Out X.K X.mg E g1 H1 (mB (guard (ds.all notExc)) (fun _ => F ds) g1.cs) fun d g' H' => ∀ v, RSV X.K (cx X) g' H' v d → Q v H') I
    ⟨g, ρ, S, V, o.bind.mono fun ds g1 H1 S1 L1 o1 vs rs => ⟨g1, ds, S1, rs, o1⟩⟩) fun us s1 ⟨vs, H1, I1, r1, g1, ds, S1, rs, o1⟩ => ⟨I1.kIn, ?_⟩) he hpl
  obtain ⟨c, o1⟩ := guard_of S1 o1.bind
  show wpAny _ _ (call (.ref f) us) _ _ _
  have sp : tSp X.K X.mg F vs H1 Q E := ⟨g1, ds, S1, rs.non c, o1.mono fun d g2 H2 S2 L2 q v r => q v r.all⟩
  have b := hb s1 us I1.kIn (by rw [List.append_nil, ← r1.length]; exact ok.len _ _ _ _ sp)
  rw [List.append_nil] at b
  refine wpAny_call (codeAny_mono (ok.run X.A X.stack s1 H1 ⟨us, []⟩ us vs Q E hgd hr I1.env0 b r1 sp) fun r s' hq => ?_)
  cases r with
  | error e => exact hx pins σ H1 s1 e s' I1 hq
  | ok fl =>
    cases fl with
    | ret u => exact I1.after hq
    | next => exact False.elim hq
    | brk => exact False.elim hq
    | cont => exact False.elim hq
end MK
set_option Elab.async false
set_option linter.all false
set_option maxRecDepth 100000
set_option maxHeartbeats 2000000
/-! MKn: the law's end: the caller's frame knows that no repr runs around (the way of the library's end with tables, for FnOkG). -/
namespace MK
open PySem PySem.Spec PyProof.Rows L2 LamX
variable {cz : Cxx} [Tb]
/-- what the heap behind the script tells -/
structure LawHeap (K : PySem.W.Frag) (mg : Mg) (cs : List (Addr × Addr)) (a : Addr) (vs : List Value) (h : Heap) : Prop where
  KX : K.In h
  ns : h.Ns mainGlobals mg
  nb : ∃ mb, h.Ns builtinsNs mb ∧ ∀ x : Str, x ≠ "__name__" → mb x = bootBuiltins x
  lim : h.NoLimit
  hT : ∀ p ∈ cs, h.get? p.2 = some { cls := .none, data := .fields #[] }
  nT : ∀ p ∈ cs, K.lookup p.2 = none
  hd : ∀ p ∈ cs, PySem.W.CodeHd h p.1 p.2
  bm : ∃ (bm : Addr) (ob : Obj), mg "__builtins__" = some (.ref bm) ∧ bm ≠ builtinsNs ∧ h.get? bm = some ob ∧ ob.cls = .type "module" ∧ ob.dict = some builtinsNs ∧ ob.data = .plain
  ha : h.get? a = some { cls := .type "list", data := .seq vs.toArray }
  nK : K.lookup a = none
/-- the abstract heap at the law's call: the script, the tables -/
def lawH (cs : List (Addr × Addr)) (a : Addr) (vs : List Value) (ns : List Int) : Hp := fun b =>
  if b = a then some (.frz { cls := .type "list", data := .seq vs.toArray } (.lst (ns.map V.int))) else if b ∈ cs.map (·.2) then some (.tbl #[]) else none
section
variable {P : Program} {w : World} {K : PySem.W.Frag} {mg : Mg} {cs : List (Addr × Addr)} {a : Addr} {vs : List Value} {ns : List Int} {s₁ : Shared}
theorem LawHeap.tb (L : LawHeap K mg cs a vs s₁.heap) {b : Addr} (hb : b ∈ cs.map (·.2)) : s₁.heap.get? b = some { cls := .none, data := .fields #[] } := by
  obtain ⟨p, hp, e⟩ := List.mem_map.mp hb
  rw [← e]
  exact L.hT p hp
theorem LawHeap.aT (L : LawHeap K mg cs a vs s₁.heap) : a ∉ cs.map (·.2) := fun z => by
  have q := L.tb z
  rw [L.ha] at q
  have z' : Data.seq vs.toArray _ = Data.fields #[] := congrArg Obj.data (Option.some.inj q)
  cases z'
theorem lawH_a : lawH cs a vs ns a = some (.frz { cls := .type "list", data := .seq vs.toArray } (.lst (ns.map V.int))) := if_pos rfl
theorem LawHeap.at_ (L : LawHeap K mg cs a vs s₁.heap) {b : Addr} (hb : b ∈ cs.map (·.2)) : lawH cs a vs ns b = some (.tbl #[]) := (if_neg fun z => L.aT (by rw [← z]; exact hb)).trans (if_pos hb)
theorem lawH_off {b : Addr} (h1 : b ≠ a) (h2 : b ∉ cs.map (·.2)) : lawH cs a vs ns b = none := (if_neg h1).trans (if_neg h2)
theorem lawH_some {b : Addr} {u : HO} (h : lawH cs a vs ns b = some u) : (b = a ∧ u = .frz { cls := .type "list", data := .seq vs.toArray } (.lst (ns.map V.int))) ∨ (b ≠ a ∧ b ∈ cs.map (·.2) ∧ u = .tbl #[]) := by
  unfold lawH at h
  by_cases h1 : b = a
  · rw [if_pos h1] at h
    exact .inl ⟨h1, (Option.some.inj h).symm⟩
  · rw [if_neg h1] at h
    by_cases h2 : b ∈ cs.map (·.2)
    · rw [if_pos h2] at h
      exact .inr ⟨h1, h2, (Option.some.inj h).symm⟩
    · rw [if_neg h2] at h
      cases h
theorem LawHeap.ok (L : LawHeap K mg cs a vs s₁.heap) (hi : IntsAre vs ns) (hl : ns.length ≤ sizeLine) : HOk P w (lawH cs a vs ns) s₁.heap := fun b u h => by
  rcases lawH_some h with ⟨e1, e2⟩ | ⟨_, e1, e2⟩
  · subst e1 e2
    exact ⟨L.ha, by rw [List.length_map]; exact hl, vs, _, vals_ints hi, L.ha⟩
  · subst e2
    exact L.tb e1
/-- objects that are neither lists nor empty records are not tracked -/
theorem LawHeap.off (L : LawHeap K mg cs a vs s₁.heap) {b : Addr} {o : Obj} (e : s₁.heap.get? b = some o) (h1 : ∀ vs n, o.data ≠ .seq vs n) (h2 : o.data ≠ .fields #[]) : lawH cs a vs ns b = none := by
  cases q : lawH cs a vs ns b with
  | none => rfl
  | some u =>
    rcases lawH_some q with ⟨e1, _⟩ | ⟨_, e1, _⟩
    · rw [e1, L.ha] at e
      cases e
      exact (h1 _ _ rfl).elim
    · rw [L.tb e1] at e
      cases e
      exact (h2 rfl).elim
theorem LawHeap.offD (L : LawHeap K mg cs a vs s₁.heap) {b : Addr} {o : Obj} {es : Array DictEntry} {ep : Nat} (e : s₁.heap.get? b = some o) (d : o.data = .dict es ep) : lawH cs a vs ns b = none :=
  L.off e (fun vs n z => by rw [d] at z; cases z) fun z => by rw [d] at z; cases z
theorem LawHeap.nsK (L : LawHeap K mg cs a vs s₁.heap) {b : Addr} {m : Str → Option Value} (h : s₁.heap.Ns b m) : (hidT s₁.heap (lawH cs a vs ns)).Ns b m := by
  obtain ⟨o, es, ep, e, d, r⟩ := h
  exact ⟨o, es, ep, hidT_get e (L.offD e d), d, r⟩
theorem LawHeap.inK (L : LawHeap K mg cs a vs s₁.heap) : K.In (hidT s₁.heap (lawH cs a vs ns)) := fun b o e => hidT_get (L.KX b o e) (by
  cases q : lawH cs a vs ns b with
  | none => rfl
  | some u =>
    rcases lawH_some q with ⟨e1, _⟩ | ⟨_, e1, _⟩
    · rw [e1, L.nK] at e; cases e
    · obtain ⟨p, hp, ep⟩ := List.mem_map.mp e1
      rw [← ep, L.nT p hp] at e
      cases e)
theorem LawHeap.mod (L : LawHeap K mg cs a vs s₁.heap) : L2.Mod K mg (hidT s₁.heap (lawH cs a vs ns)) := by
  obtain ⟨mb, h1, h2⟩ := L.nb
  obtain ⟨mc, h3, h4⟩ := L.lim
  exact ⟨L.inK, L.nsK L.ns, ⟨mb, L.nsK h1, h2⟩, ⟨mc, L.nsK h3, h4⟩⟩
theorem LawHeap.tabB (L : LawHeap K mg cs a vs s₁.heap) : ∀ p ∈ cs, TabB (hidT s₁.heap (lawH cs a vs ns)) mg p.1 p.2 := fun p hp => by
  have hTp := L.hT p hp
  refine ⟨?_, ?_, fun z => ?_⟩
  · obtain ⟨o, us, file, tf, flags, tg, inF, text, tt, e1, r1, r2, r3, r4, r5, r6, r7, r8, hne⟩ := L.hd p hp
    refine ⟨o, us, file, tf, flags, tg, inF, text, tt, hidT_get e1 (L.off e1 (fun vs n z => by rw [r2] at z; cases z) fun z => ?_), r1, r2, r3, r4, r5, r6, r7, r8, hne⟩
    rw [r2] at z
    cases z
    simp at r3
  · obtain ⟨bm, ob, b1, b2, b3, b4, b5, b6⟩ := L.bm
    have nG : bm ≠ mainGlobals := fun q => by
      obtain ⟨o, es, ep, e, hd, _⟩ := L.ns
      rw [q, e] at b3
      cases b3
      rw [hd] at b6
      cases b6
    have nP : bm ≠ p.2 := fun q => by
      rw [q, hTp] at b3
      cases b3
      cases b6
    exact ⟨bm, ob, b1, b2, nG, nP, hidT_get b3 (L.off b3 (fun vs n z => by rw [b6] at z; cases z) fun z => by rw [b6] at z; cases z), b4, b5, b6⟩
  · obtain ⟨o, es, ep, e, hd, _⟩ := L.ns
    rw [z, hTp] at e
    cases e
    cases hd
theorem LawHeap.env0 (L : LawHeap K mg cs a vs s₁.heap) (hi : IntsAre vs ns) (hl : ns.length ≤ sizeLine) (hg : s₁.gens = #[]) : Env0 P w K mg (hidT s₁.heap (lawH cs a vs ns)) callerA [] s₁ (lawH cs a vs ns) :=
  ⟨rfl, L.mod, fun b o e => of_hidT e, Nat.le_of_eq (hidT_size _ _), trivial, fun b hb => absurd (show b ∈ ([] : List Addr) from hb) (by simp), L.ok hi hl, .of_eq hg⟩
theorem law_callG {k : Nat} {fa : Addr} {fd : FuncData} {x : Str} {sp : Sp} (L : LawHeap K mg cs a vs s₁.heap) (hi : IntsAre vs ns) (hl : ns.length ≤ sizeLine) (hg : s₁.gens = #[]) (hr : Room k callerA)
    (F : ∀ base : Heap, K.In base → base.Ns mainGlobals mg → (∀ p ∈ cs, TabB base mg p.1 p.2) → FnOkG P w K mg base k fa fd [x] sp) (hbind : ∀ (s : Shared) (u : Value), BindsTo s fd ⟨[u], []⟩ [(x, u)])
    (hsp : sp [.ref a] (lawH cs a vs ns) (fun v _ => v = .bl true) fun _ _ _ => False) :
    codeAny (model P w) callerA (.call (.ref fa) ⟨[.ref a], []⟩) (fun r s' => r = .ok (.ret (.bool true)) ∧ OldK s₁.heap s'.heap ∧ s'.os = s₁.os ∧ AllBare s'.gens) s₁ := by
  refine codeAny_mono ((F _ L.inK (L.nsK L.ns) L.tabB).run callerA [] s₁ _ ⟨[.ref a], []⟩ [.ref a] [.ref a] _ _ rfl hr (L.env0 hi hl hg) (hbind s₁ (.ref a)) (.cons rfl .nil) hsp) fun r s' h => ?_
  cases r with
  | error e =>
    obtain ⟨_, _, _, _, _, _, _, _, _, _, _, _, z⟩ := (show L2N.CX P w [] _ s₁ _ e s' from h)
    exact z.elim
  | ok fl =>
    cases fl with
    | next => exact False.elim h
    | brk => exact False.elim h
    | cont => exact False.elim h
    | ret u =>
      obtain ⟨v, H', os, bare, un, hok', r', q⟩ := h
      have q' : v = .bl true := q
      subst q'
      obtain rfl : u = Value.bool true := r'
      have key : ∀ b o, b ∉ cs.map (·.2) → s₁.heap.get? b = some o → s'.heap.get? b = some o := fun b o nb e => by
        by_cases hb : b = a
        · have z2 := un.frzs b _ _ (by rw [hb]; exact lawH_a)
          obtain ⟨e2, _⟩ := hok' b _ z2
          rw [hb, L.ha] at e
          cases e
          exact e2
        · exact un.keep b o e (lawH_off hb nb) (by intro z; exact absurd (show b ∈ ([] : List Addr) from z) (by simp)) (by simp)
      have grown : ∀ b ∈ cs.map (·.2), ∃ more : Array Value, s'.heap.get? b = some { cls := .none, data := .fields more } := fun b hb => by
        obtain ⟨more, z⟩ := un.tbls b #[] (L.at_ hb)
        exact ⟨_, hok' b _ z⟩
      refine ⟨rfl, ⟨fun b o e => ?_, fun b o e => ?_⟩, os, bare⟩
      · by_cases hb : b ∈ cs.map (·.2)
        · obtain ⟨more, hm⟩ := grown b hb
          obtain ⟨p, hp, ep⟩ := List.mem_map.mp hb
          rw [← ep] at e hm ⊢
          rw [L.hT p hp] at e
          cases e
          exact .inr (.inl ⟨((L.hd p hp).tab (L.hT p hp)).isCodeTable, rfl, #[], more, rfl, by rw [Array.empty_append]; exact hm⟩)
        · exact .inl (key b o hb e)
      · by_cases hb : b ∈ cs.map (·.2)
        · obtain ⟨more, hm⟩ := grown b hb
          exact ⟨_, hm⟩
        · exact ⟨o, key b o hb e⟩
end
end MK
set_option Elab.async false
set_option linter.all false
set_option maxRecDepth 100000
set_option maxHeartbeats 1000000
/-! MKo: a call of values alone: what it computes does not lean on the caller's cells. -/
namespace MK
open PySem PySem.Spec PyProof.Rows L2 LamX
variable {cz : Cxx} [Tb]
def isVal : SV → Bool
  | .val _ => true
  | _ => false
/-- run with no cells; the caller's stay -/
def iso (m : Mm SV) : Mm SV := fun h => match m [] with
  | .ok (.val d) _ => .ok (.val d) h
  | .exn x _ => .exn x h
  | _ => .stuck
def eCallI (F : Fm) (a : Am) : Em := fun ρ => mB (a ρ) fun ds => mB (guard (ds.all isVal)) fun _ => iso (F ds)
def live (g : Gh) : List Addr := (List.range g.cs.length).filterMap fun n => match g.cs[n]?, g.mu[n]? with
  | some (some _), some a => some a
  | _, _ => none
theorem mem_live {g : Gh} {a : Addr} : a ∈ live g ↔ ∃ (n : Nat) (c : Cell), g.cs[n]? = some (some c) ∧ g.mu[n]? = some a := by
  unfold live
  rw [List.mem_filterMap]
  constructor
  · rintro ⟨n, _, h⟩
    split at h
    · rename_i c b e1 e2
      cases h
      exact ⟨n, c, e1, e2⟩
    · cases h
  · rintro ⟨n, c, e1, e2⟩
    refine ⟨n, List.mem_range.mpr (List.getElem?_eq_some_iff.mp e1).1, ?_⟩
    rw [e1, e2]
def bare0 (g : Gh) : Gh := ⟨[], [], live g ++ g.ex⟩
theorem own_bare {g : Gh} {a : Addr} : own (bare0 g) a ↔ own g a := by
  constructor
  · rintro (⟨n, c, h, _⟩ | h)
    · simp [bare0] at h
    · rcases List.mem_append.mp h with h | h
      · exact .inl (mem_live.mp h)
      · exact .inr h
  · rintro (h | h)
    · exact .inr (List.mem_append_left _ (mem_live.mpr h))
    · exact .inr (List.mem_append_right _ h)
section
variable {K : PySem.W.Frag} {mg : Mg} {E : XK} {g : Gh} {H : Hp}
theorem Sim.bare (S : Sim K g H) : Sim K (bare0 g) H :=
  ⟨rfl, fun n c a h => by simp [bare0] at h, fun n m a h => by simp [bare0] at h, fun n a h => by simp [bare0] at h, fun a ha => S.mut (own_bare.mp (.inr ha)), fun n a h => by simp [bare0] at h, S.tabs⟩
theorem XA.sub {g' : Gh} (h0 : ∀ a, own g' a → own g a) {x : Xn} {oa : Option Addr} (h : XA K g H x oa) : XA K g' H x oa := by
  unfold XA at *
  cases q : x.arg with
  | none => rw [q] at h; exact h
  | some p =>
    rw [q] at h
    obtain ⟨dx, v, e1, e2, r⟩ := h
    exact ⟨dx, v, e1, e2, r.sub h0⟩
/-- back among the caller's cells -/
theorem Sim.back {g1 : Gh} {H1 : Hp} (S : Sim K g H) (S1 : Sim K g1 H1) (L : Le (bare0 g) H g1 H1) : Sim K g H1 ∧ Le g H g H1 ∧ ∀ a, own g a → own g1 a := by
  have ow : ∀ a, own g a → own g1 a := fun a h => .inr (by
    rw [L.exe]
    rcases own_bare.mpr h with ⟨n, c, h', _⟩ | h'
    · simp [bare0] at h'
    · exact h')
  have ek : ∀ a, own g a → H1 a = H a := fun a h => L.exk a (by
    rcases own_bare.mpr h with ⟨n, c, h', _⟩ | h'
    · simp [bare0] at h'
    · exact h')
  refine ⟨⟨S.len, fun n c a h1 h2 => ?_, S.inj, fun n a h => L.trk a (S.trk n a h), fun a ha => by rw [ek a (.inr ha)]; exact S.exm a ha, S.exn, S1.tabs⟩, ⟨fun _ _ h => h, fun a o h t n => ⟨(L.keep a o h t fun q => n (own_bare.mp q)).1, n⟩, rfl, fun a ha => ek a (.inr ha), L.trk⟩, ow⟩
  have q := S.cell n c a h1 h2
  have oa : own g a := .inl ⟨n, c, h1, h2⟩
  cases c with
  | lst ds =>
    obtain ⟨vs, e, r⟩ := q
    exact ⟨vs, (ek a oa).trans e, ((r.sub fun a h => own_bare.mp h).mono S.bare L).sub ow⟩
theorem Out.iso {m : Mm SV} {Q : VK} (S : Sim K g H) (o : Out K mg E g H (MK.iso m g.cs) fun d g' H' => ∀ v, RSV K none g' H' v d → Q v H') : Out K mg E (bare0 g) H (m (bare0 g).cs) fun d g' H' => ∀ v, RSV K none g' H' v d → Q v H' := by
  show Out K mg E (bare0 g) H (m []) _
  unfold MK.iso at o
  cases q : m [] with
  | stuck => rw [q] at o; exact o
  | exn x h =>
    rw [q] at o
    intro g1 H1 cls oa e S1 L xr
    obtain ⟨S2, L2, ow⟩ := S.back S1 L
    exact o g H1 cls oa rfl S2 L2 ⟨xr.1, xr.2.sub ow⟩
  | ok d h =>
    rw [q] at o
    cases d with
    | ref n => exact o.elim
    | rng _ _ => exact o.elim
    | exc _ => exact o.elim
    | val d =>
      intro g1 H1 e S1 L v r
      obtain ⟨S2, L2, ow⟩ := S.back S1 L
      exact o g H1 rfl S2 L2 v (RD.sub ow r)
theorem RSVs.bare : ∀ {vs : List V} {ds : List SV}, RSVs K cz g H vs ds → ds.all isVal = true → RSVs K none (bare0 g) H vs ds
  | _, _, .nil, _ => .nil
  | _, _, .cons (d := d) r t, h => by
    rw [List.all_cons, Bool.and_eq_true] at h
    refine .cons ?_ (RSVs.bare t h.2)
    cases d with
    | val d => exact RD.sub (fun a q => own_bare.mp q) r
    | ref _ => cases h.1
    | rng _ _ => cases h.1
    | exc _ => cases h.1
end
section
variable {X : Cx} {E : XK} {e : Expr} {es : List Expr} {ms : Am} {pos p : Pos} {x : Str} {k n : Nat} {F : Fm}
theorem me_callI (D : FnD X.prog X.w X.K X.mg X.base k x n F) (hr : Room k X.A) (hg : Gl X x) (hx : Passes (L2N.CX X.prog X.w) X E) (ha : MA X E (e :: es) ms)
    (hdb : (x == ("__debug__" : Str)) = false := by decide) (he : starEach (e :: es) X.env = (false, eval e X.env) :: starEach es X.env := by rfl) (hpl : (backTo pos (starEach es X.env)).any (·.1) = false := by rfl) :
    ME X E (.Call (.Name x p) (e :: es) [] pos) (eCallI F ms) := by
  obtain ⟨f, fd, ps, ok, hm, hk, hb⟩ := D.ex
  refine PEwk (pe_call ok hr hg hm hk hb .nil hx ha hdb he hpl) fun σ H Q ⟨g, ρ, S, V, o⟩ => ?_
  refine ⟨g, ρ, S, V, o.bind.mono fun ds g1 H1 S1 L1 o1 vs rs => ?_⟩
  show tSp X.K X.mg F (vs ++ []) H1 Q E
  rw [List.append_nil]
  obtain ⟨c, o1⟩ := guard_of S1 o1.bind
  exact ⟨bare0 g1, ds, S1.bare, rs.bare c, Out.iso S1 (o1.mono fun d g2 H2 S2 L2 q v r => q v r.all)⟩
def eCallKI (F : Fm) (is : List Nat) (a : Am) : Em := fun ρ => mB (a ρ) fun ds => mB (guard (ds.all isVal && decide (ds.length = is.length))) fun _ => iso (F (permD is ds))
theorem me_callKI {kws : List Keyword} {ks : List Str} {is : List Nat} (D : FnKw X.prog X.w X.K X.mg X.base k x F ks is) (hks : ks.length = is.length) (hr : Room k X.A) (hg : Gl X x) (hx : Passes (L2N.CX X.prog X.w) X E)
    (ha : PK X kws (tA X.K (cx X) X.mg E ms)) (hdb : (x == ("__debug__" : Str)) = false := by decide) (hall : (backToKw pos (keywordEach kws X.env)).all (·.1.isSome) = true := by rfl) (hkn : (backToKw pos (keywordEach kws X.env)).filterMap (·.1) = ks := by rfl)
    (hpl : ((backTo pos (starEach [] X.env)).any (·.1) || (backToKw pos (keywordEach kws X.env)).any (·.1.isNone)) = false := by rfl) :
    ME X E (.Call (.Name x p) [] kws pos) (eCallKI F is ms) := by
  obtain ⟨f, fd, ps, ok, hm, hk, hb⟩ := D.ex
  refine ⟨fun pins s σ H Q I ⟨g, ρ, S, V, o⟩ => ?_⟩
  refine wpAny_Call_Name_kw (ld_glob I hg hm ?_ hdb)
  refine PySem.W.callWith_KW0 (h₀ := X.base) I.ok.mod.kin hk hall (thn (ha.run pos pins s σ H (fun vs H1 => ∃ g1 ds, Sim X.K g1 H1 ∧ RSVs X.K (cx X) g1 H1 vs ds ∧ Out X.K X.mg E g1 H1 (mB (guard (ds.all isVal && decide (ds.length = is.length))) (fun _ => iso (F (permD is ds))) g1.cs) fun d g' H' => ∀ v, RSV X.K (cx X) g' H' v d → Q v H') I
    ⟨g, ρ, S, V, o.bind.mono fun ds g1 H1 S1 L1 o1 vs rs => ⟨g1, ds, S1, rs, o1⟩⟩) fun us s1 ⟨vs, H1, I1, r1, g1, ds, S1, rs, o1⟩ => ⟨I1.kIn, ?_⟩) hpl
  obtain ⟨c, o1⟩ := guard_of S1 o1.bind
  rw [Bool.and_eq_true] at c
  have hl : ds.length = is.length := of_decide_eq_true c.2
  rw [hkn]
  show wpAny _ _ (call (.ref f) ([] ++ []) (ks.zip us)) _ _ _
  have hus : us.length = ks.length := by rw [← r1.length, rs.length, hl, hks]
  refine wpAny_call (codeAny_mono (ok.run X.A X.stack s1 H1 ⟨[], ks.zip us⟩ (permD is us) (permD is vs) Q E hr I1.env0 (.of_eq (hb.bd us hus)) (vals_permD r1) ⟨bare0 g1, permD is ds, S1.bare, rsvs_permD (rs.bare c.1), Out.iso S1 (o1.mono fun d g2 H2 S2 L2 q v r => q v r.all)⟩) fun r s' hq => ?_)
  cases r with
  | error e => exact hx pins σ H1 s1 e s' I1 hq
  | ok fl =>
    cases fl with
    | ret u => exact I1.after hq
    | next => exact False.elim hq
    | brk => exact False.elim hq
    | cont => exact False.elim hq
end
end MK
set_option Elab.async false
set_option linter.all false
set_option maxRecDepth 100000
set_option maxHeartbeats 1000000
/-! MKp: sorted of a list of tuples whose first is the empty one (the keys are then of one type, not taken apart). -/
namespace PySem.W
open PySem PySem.Calls PyProof.Rows PySem.SeqAt
section
variable {prog : Program} {w : World} {A : Around} {E : Value → Shared → Prop} {s : Shared}
theorem call_tuple_lt {Q : Value → Shared → Prop} {l b : Addr} {items items2 : Array Value} {e r : Nat → Bool} (hl : s.heap.IsTuple l items) (hb : s.heap.IsTuple b items2)
    (he : ∀ j (h1 : j < items.size) (h2 : j < items2.size), EqAt A.in1 s items[j] items2[j] (e j)) (hr : ∀ j (h1 : j < items.size) (h2 : j < items2.size), e j = false → RcLt A.in1 s items[j] items2[j] (r j))
    (h : Q (.bool (firstLt e r (decide (items.size < items2.size)) (List.range (min items.size items2.size)))) s) : wpAny (model prog w) A (call (.builtin "tuple.__lt__") [.ref l, .ref b]) Q E s := by
  obtain ⟨⟨cls, dd, data, sl⟩, ho, hc, n, hd⟩ := id hl
  obtain ⟨⟨cls2, dd2, data2, sl2⟩, ho2, hc2, n2, hd2⟩ := id hb
  simp only at hc hd hc2 hd2
  subst hc hd hc2 hd2
  exact call_meets F.slot_tuple_lt ⟨_, ho, rfl⟩ F.entry_tuple_lt (F.args_tuple_lt_2 _ _) (tuple_ltAt l b items items2 n n2 dd dd2 sl sl2 e r) ⟨ho, ho2, he, hr, h⟩
theorem oneLt_tup {xs ys : List PyData} {a b : Value} {as bs : List Addr} {Q : Bool → Shared → Prop} (ra : Reads s.heap a (.tuple xs) as) (rb : Reads s.heap b (.tuple ys) bs) (h : alike (.tuple xs) (.tuple ys) = true)
    (hu : A.units + min (PyData.tuple xs).depth (PyData.tuple ys).depth < cLine) (hq : Q (dataLt (.tuple xs) (.tuple ys)) s) : wpAny (model prog w) A (oneLt' true a b) Q E s := by
  have hal : alikeAll xs ys = true := by simpa [alike] using h
  cases ra with
  | @tuple l o vs n _ as₁ h1 h2 h3 h4 =>
    cases rb with
    | @tuple l' o' vs' n' _ bs₁ k1 k2 k3 k4 =>
      have n1 : vs.size = xs.length := by simpa using ReadsAll.length _ _ _ h4
      have n2 : vs'.size = ys.length := by simpa using ReadsAll.length _ _ _ k4
      rw [dataLt_tuple, ← firstLt_toks xs ys hal, ← n1, ← n2] at hq
      rw [oneLt'_eq]
      simp only [if_true]
      refine wpAny_bind (wpAny_cRoomFor (room_here hu) ?_)
      refine wpAny_bind (wpAny_callSpecialIfBound?_slot (T := "tuple") ⟨_, h1, h2⟩ F.slot_tuple_lt (call_tuple_lt (e := pairEq xs ys) (r := fun j => dataLt (xs.getD j .none) (ys.getD j .none)) ⟨_, h1, h2, _, h3⟩ ⟨_, k1, k2, _, k3⟩ (fun j j1 j2 => ?_) (fun j j1 j2 hj => ?_) ?_))
      · have := eqAt_alikeAll xs ys A.in1 s vs.toList vs'.toList _ _ h4 k4 hal (room_in hu) j (by simpa using j1) (by simpa using j2)
        simpa using this
      · have := rcLt_alikeAll xs ys A.in1 s vs.toList vs'.toList _ _ h4 k4 hal (room_in hu) j (by simpa using j1) (by simpa using j2) hj
        simpa using this
      · exact wpAny_truthy_bool hq
theorem mapM_each {α β : Type} {M : Model} {f : α → Sem β} : ∀ {vs : List α} {rs : List β} {Q : List β → Shared → Prop}, EachIs (fun v r => ∀ Q' : β → Shared → Prop, Q' r s → wpAny M A (f v) Q' E s) vs rs → Q rs s → wpAny M A (vs.mapM f) Q E s
  | _, _, _, .nil, hq => by rw [List.mapM_nil]; exact wpAny_pure hq
  | _, _, _, .cons h t, hq => by
    rw [List.mapM_cons]
    exact wpAny_bind (h _ (wpAny_bind (mapM_each (Q := fun rs s => wpAny _ A (pure (_ :: rs)) _ E s) t (wpAny_pure hq))))
/-- tuples, the first one empty: keys of one type -/
theorem kind_empty {M : Model} {v : Value} {vs : List Value} {ds : List PyData} {as₀ : List Addr} {Q : SortKind → Shared → Prop} (r₀ : Reads s.heap v (.tuple []) as₀) (e : EachIs (fun v d => ∃ as, Reads s.heap v d as) vs ds) (ht : ∀ d ∈ ds, ∃ xs, d = .tuple xs) (hq : Q oneType' s) :
    wpAny M A (keyKind' (v :: vs).toArray) Q E s := by
  have first : ∀ {v : Value} {xs : List PyData} {as : List Addr}, Reads s.heap v (.tuple xs) as → ∃ r : Option Value, (xs = [] → r = none) ∧ ∀ Q' : Option Value → Shared → Prop, Q' r s → wpAny M A (firstOfTuple' v) Q' E s := fun {v xs as} rd => by
    cases rd with
    | @tuple l o its n _ _ h1 h2 h3 h4 =>
      refine ⟨its[0]?, fun e => ?_, fun Q' q => ?_⟩
      · subst e
        have n1 : its.size = 0 := by simpa using ReadsAll.length _ _ _ h4
        rw [Array.getElem?_eq_none (by omega)]
      · rw [kas_first_eq]
        refine wpAny_bind ((h2 ▸ (Looks.ld h1).andThen .now : Looks M s.heap (typeOf (Value.ref l)) (.type "tuple")).here ?_)
        rw [if_neg (by decide)]
        exact wpAny_bind (listItems_at h1 h3 (wpAny_pure q))
  have tT : ∀ {v : Value} {xs : List PyData} {as : List Addr}, Reads s.heap v (.tuple xs) as → Looks M s.heap (typeOf v) (.type "tuple") := fun rd => looks_reads rd
  obtain ⟨r0, n0, f0⟩ := first r₀
  obtain ⟨rs, hrs⟩ : ∃ rs : List (Option Value), EachIs (fun v r => ∀ Q' : Option Value → Shared → Prop, Q' r s → wpAny M A (firstOfTuple' v) Q' E s) vs rs := by
    clear hq r₀ n0 f0
    induction e with
    | nil => exact ⟨[], .nil⟩
    | cons h t ih =>
      obtain ⟨rs, q⟩ := ih fun d hd => ht d (List.mem_cons_of_mem _ hd)
      obtain ⟨as, rd⟩ := h
      obtain ⟨xs, rfl⟩ := ht _ List.mem_cons_self
      obtain ⟨r, _, f⟩ := first rd
      exact ⟨r :: rs, .cons f q⟩
  have hty : ∀ u ∈ v :: vs, Looks M s.heap (typeOf u) (.type "tuple") := fun u hu => by
    rcases List.mem_cons.mp hu with rfl | hu
    · exact tT r₀
    · obtain ⟨d, hd, as, rd⟩ := e.left u hu
      obtain ⟨xs, rfl⟩ := ht d hd
      exact tT rd
  rw [keyKind'_eq, List.mapM_toArray, map_eq_pure_bind]
  refine wpAny_bind (wpAny_bind (mapM_each (.cons f0 hrs) (wpAny_pure ?_)))
  rw [n0 rfl]
  rw [if_neg (by simp), if_neg (by simp)]
  rw [oneTypeOnly'_eq, List.mapM_toArray, map_eq_pure_bind]
  refine wpAny_bind (wpAny_bind (wpAny_bind (kas_mapM (r := Value.type "tuple") _ (fun v hv Q' hq => (hty v hv).here hq) (wpAny_pure ?_))))
  have hall : ((List.map (fun _ => Value.type "tuple") (v :: vs)).toArray.all fun x => x == Value.type "tuple") = true := by
    simp only [List.all_toArray, List.all_map, List.all_eq_true]
    intro _ _
    rfl
  have h0 : (List.map (fun _ => Value.type "tuple") (v :: vs)).toArray[0]? = some (Value.type "tuple") := by simp
  rw [h0]
  simp only [hall, if_true]
  exact wpAny_pure (wpAny_pure hq)
theorem SortsAt.tups {v : Value} {vs : List Value} {ds : List PyData} {as₀ : List Addr} (r₀ : Reads s.heap v (.tuple []) as₀) (e : EachIs (fun v d => ∃ as, Reads s.heap v d as) vs ds) (ht : ∀ d ∈ ds, ∃ xs, d = .tuple xs) (hal : AllAlike (.tuple [] :: ds)) (hu : ∀ d, d ∈ PyData.tuple [] :: ds → A.units + d.depth < cLine) :
    SortsAt prog w A s (dataKind s.heap (.tuple [] :: ds)) (v :: vs) := by
  have e' : EachIs (fun v d => ∃ as, Reads s.heap v d as) (v :: vs) (.tuple [] :: ds) := .cons ⟨as₀, r₀⟩ e
  have ht' : ∀ d ∈ PyData.tuple [] :: ds, ∃ xs, d = .tuple xs := fun d hd => by
    rcases List.mem_cons.mp hd with rfl | hd
    · exact ⟨[], rfl⟩
    · exact ht d hd
  refine ⟨fun u hv => ?_, oneType', ?_, fun h2 E Q hq => kind_empty r₀ e ht hq⟩
  · obtain ⟨d, hd, as, r⟩ := e'.left u hv
    exact ⟨_, dataKind_some hal hd r⟩
  · intro E x y a b Q ha hb hq
    obtain ⟨d, as, hd, ra, rfl⟩ := dataKind_inv ha
    obtain ⟨d', as', hd', rb, rfl⟩ := dataKind_inv hb
    rw [keyLt'_oneType]
    obtain ⟨xs, rfl⟩ := ht' d hd
    obtain ⟨ys, rfl⟩ := ht' d' hd'
    exact oneLt_tup ra rb (hal _ hd _ hd') (Nat.lt_of_le_of_lt (Nat.add_le_add_left (Nat.min_le_left _ _) _) (hu _ hd)) hq
end
end PySem.W

namespace PySem.W
section
variable {α : Type} {le : α → α → Bool}
def ins (le : α → α → Bool) (x : α) : List α → List α
  | [] => [x]
  | y :: l => if le x y then x :: y :: l else y :: ins le x l
def isort (le : α → α → Bool) : List α → List α
  | [] => []
  | x :: l => ins le x (isort le l)
theorem ins_mem {x z : α} : ∀ {l : List α}, z ∈ ins le x l → z = x ∨ z ∈ l
  | [], h => by simp [ins] at h; exact .inl h
  | y :: l, h => by
    unfold ins at h
    split at h
    · rcases List.mem_cons.mp h with h | h
      · exact .inl h
      · exact .inr h
    · rcases List.mem_cons.mp h with h | h
      · exact .inr (by rw [h]; exact List.mem_cons_self)
      · rcases ins_mem h with h | h
        · exact .inl h
        · exact .inr (List.mem_cons_of_mem _ h)
theorem ins_sorted (h : TotalLe le) {x : α} : ∀ {l : List α}, l.Pairwise (fun a b => le a b = true) → (ins le x l).Pairwise (fun a b => le a b = true)
  | [], _ => by unfold ins; exact List.pairwise_singleton _ _
  | y :: l, hp => by
    obtain ⟨h1, h2⟩ := List.pairwise_cons.mp hp
    unfold ins
    split
    · rename_i hxy
      refine List.pairwise_cons.mpr ⟨fun z hz => ?_, hp⟩
      rcases List.mem_cons.mp hz with rfl | hz
      · exact hxy
      · exact h.trans _ _ _ hxy (h1 z hz)
    · rename_i hxy
      have hyx : le y x = true := (h.total x y).elim (fun z => absurd z hxy) id
      refine List.pairwise_cons.mpr ⟨fun z hz => ?_, ins_sorted h h2⟩
      rcases ins_mem hz with rfl | hz
      · exact hyx
      · exact h1 z hz
theorem isort_sorted (h : TotalLe le) : ∀ l : List α, (isort le l).Pairwise (fun a b => le a b = true)
  | [] => List.Pairwise.nil
  | x :: l => ins_sorted h (isort_sorted h l)
theorem ins_filter (h : TotalLe le) {x c : α} : ∀ l : List α, (ins le x l).filter (sameRank le c) = (x :: l).filter (sameRank le c)
  | [] => rfl
  | y :: l => by
    unfold ins
    split
    · rfl
    · rename_i hxy
      rw [List.filter_cons, ins_filter h l, List.filter_cons, List.filter_cons, List.filter_cons]
      by_cases px : sameRank le c x = true
      · by_cases py : sameRank le c y = true
        · unfold sameRank at px py
          rw [Bool.and_eq_true] at px py
          exact absurd (h.trans _ _ _ px.2 py.1) hxy
        · simp [px, py]
      · by_cases py : sameRank le c y = true
        · rw [if_pos py, if_neg px, if_neg px, if_pos py]
        · rw [if_neg py, if_neg px, if_neg px, if_neg py]
theorem isort_filter (h : TotalLe le) (c : α) : ∀ l : List α, (isort le l).filter (sameRank le c) = l.filter (sameRank le c)
  | [] => rfl
  | x :: l => by
    show (ins le x (isort le l)).filter _ = _
    rw [ins_filter h, List.filter_cons, List.filter_cons, isort_filter h c l]
theorem isort_eq (h : TotalLe le) (l : List α) : isort le l = l.mergeSort le := sort_unique h (isort_sorted h l) fun c => isort_filter h c l
end
end PySem.W
namespace MK
open PySem PySem.Spec PyProof.Rows L2 PySem.W
variable {cz : Cxx} [Tb]
def isTup : PyData → Bool
  | .tuple _ => true
  | _ => false
def srtOk (ds : List PyData) : Bool := ds.all isTup && ((ds.all fun d => ds.all fun e => alike d e) && ((ds.all fun d => decide (d.depth ≤ 10)) && decide (ds.length ≤ 10000)))
def bSorted : SV → Mm SV
  | .val (.list (.tuple [] :: ds)) => mB (guard (srtOk (.tuple [] :: ds))) fun _ => mP (.val (.list (isort (dataLe false id) (.tuple [] :: ds))))
  | _ => mStuck
def rSrt (K : PySem.W.Frag) : List V → Hp → VK → Prop := fun xs H Q => ∃ x g ds, xs = [x] ∧ RD K g H x (.list (.tuple [] :: ds)) ∧ srtOk (.tuple [] :: ds) = true ∧ ∀ ys p, H p = none → RDs K g H ys (isort (dataLe false id) (.tuple [] :: ds)) → Q (.ref p) (upd H p (.lst ys))
section
variable {X : Cx} {E : XK}
theorem each_of {K : PySem.W.Frag} {g : Gh} {H : Hp} : ∀ {xs : List V} {us : List Value} {ds : List PyData}, Vals xs us → RDs K g H xs ds → EachIs (fun u d => ∃ y, RelV y u ∧ RD K g H y d) us ds
  | _, _, _, .nil, .nil => .nil
  | _, _, _, .cons r t, .cons q v => .cons ⟨_, r, q⟩ (each_of t v)
theorem of_each {K : PySem.W.Frag} {g : Gh} {H : Hp} : ∀ {us : List Value} {ds : List PyData}, EachIs (fun u d => ∃ y, RelV y u ∧ RD K g H y d) us ds → ∃ ys, Vals ys us ∧ RDs K g H ys ds
  | _, _, .nil => ⟨[], .nil, .nil⟩
  | _, _, .cons ⟨y, r, q⟩ t => let ⟨ys, a, b⟩ := of_each t; ⟨y :: ys, .cons r a, .cons q b⟩
theorem call_srt (hu : X.A.units + 65 < cLine) : CallR X (.builtin "sorted") (rSrt X.K) := by
  intro pins s σ H vs us Q I r h
  obtain ⟨x, g, ds, rfl, rd, ok, q⟩ := h
  unfold srtOk at ok
  simp only [Bool.and_eq_true, List.all_eq_true, decide_eq_true_eq] at ok
  obtain ⟨o1, o2, o3, o4⟩ := ok
  cases rd with
  | @lst a xs _ h1 h2 =>
    obtain ⟨u, rfl, ru⟩ := vals1 r
    obtain rfl : u = Value.ref a := ru
    obtain ⟨its, rv, hl, hz⟩ := I.list h1.sq
    have e := each_of rv h2
    have er : EachIs (fun v b => ∃ as, Reads s.heap v b as) its (.tuple [] :: ds) := e.mono fun u d ⟨y, ry, rdy⟩ => reads_of I rdy ry
    have er' : EachIs (fun v b => ∃ as, Reads (sortingHeap (copyHeap s.heap its) (s.heap.objs.size + 1) its) v b as) its (.tuple [] :: ds) := er.mono fun _ _ ⟨as, r⟩ => ⟨as, PyProof.Rows.Reads.keeps (fun _ _ => sorting_copy_old) r⟩
    have hal : AllAlike (PyData.tuple [] :: ds) := fun d hd d' hd' => o2 d hd d' hd'
    have tot : TotalLe (dataLe false (id : PyData → PyData)) := sortLe_total _ _ _
    have ht : ∀ d ∈ ds, ∃ xs, d = PyData.tuple xs := fun d hd => by
      have := o1 d (List.mem_cons_of_mem _ hd)
      cases d <;> first | exact ⟨_, rfl⟩ | cases this
    refine sorted_vals (κ := dataKind (sortingHeap (copyHeap s.heap its) (s.heap.objs.size + 1) its) (.tuple [] :: ds)) hl.isList ?_ (by rw [← rv.length]; exact hz) ?_
    · cases er' with
      | cons r0 rest =>
        obtain ⟨as0, r0⟩ := r0
        refine SortsAt.tups r0 rest ht hal fun d hd => ?_
        have := o3 d hd
        show X.A.units + 1 + 1 + d.depth < cLine
        omega
    · have out := sortVals_data (h' := sortingHeap (copyHeap s.heap its) (s.heap.objs.size + 1) its) (enc := id) false e er' (by rw [List.map_id]; exact hal)
      rw [List.map_id] at out
      rw [← isort_eq tot] at out
      obtain ⟨ys, rv2, rd2⟩ := of_each out
      obtain ⟨c, hc⟩ := sortedAll_at s.heap its (sortVals (dataKind (sortingHeap (copyHeap s.heap its) (s.heap.objs.size + 1) its) (.tuple [] :: ds)) false its its).toArray
      refine ⟨.ref (s.heap.objs.size + 1), upd H (s.heap.objs.size + 1) (.lst ys), I.laid (t' := s.toks) (fun b o z => sortedAll_old z) (Nat.le_succ _) ⟨?_, _, c, rv2, hc⟩, rfl, q ys _ (I.hok.fresh (Nat.le_succ _)) rd2⟩
      rw [rv2.length, sortVals_length false rfl, ← rv.length]
      exact hz
theorem bo_sorted (hu : X.A.units + 65 < cLine) : BltOk X E (.builtin "sorted") (b1 bSorted) := by
  refine ⟨rSrt X.K, call_srt hu, fun g H vs ds Q S r o => ?_⟩
  cases r with
  | nil => exact o.elim
  | cons r1 t =>
    rename_i v vs d ds0
    cases t with
    | cons _ _ => exact o.elim
    | nil =>
      have o : Out X.K X.mg E g H (bSorted d g.cs) _ := o
      unfold bSorted at o
      split at o
      · rename_i ds _
        obtain ⟨c, o⟩ := guard_of S o.bind
        refine ⟨v, g, ds, rfl, r1, c, fun ys p hp rd => ?_⟩
        obtain ⟨q, S2, L2⟩ := Out.laid (u := .lst ys) S hp o
        exact q _ (RD.lst ⟨.inl upd_same, fun z => S.fresh_own hp z⟩ (rd.mono S L2))
      · exact o.stuck.elim
end
end MK
set_option Elab.async false
set_option linter.all false
set_option maxRecDepth 100000
set_option maxHeartbeats 1000000
/-! MKz: the rules in short words, what is plain left to the kernel. -/
namespace MK
open PySem PySem.Spec PyProof.Rows L2 LamX
variable {cz : Cxx} [Tb]
/-! ### powers of constants -/
def fPow : SV → SV → Mm SV := int2 fun i j => mB (guard (decide (0 ≤ j ∧ j ≤ 1000000) && decide (i.natAbs < 2 ^ 64))) fun _ => vI (i ^ j.toNat)
section
variable {X : Cx} {E : XK} {K : PySem.W.Frag} {mg : Mg} {a b : Expr} {ma mb : Em} {pos : Pos}
theorem s2_pow : S2 K cz mg E (rI CPow fun i j => .int (i ^ j.toNat)) fPow := by
  intro g H x y dx dy Q S rx ry o
  obtain ⟨i, ex, o⟩ := int_of S rx o.bind
  obtain ⟨j, ey, o⟩ := int_of S ry o.bind
  obtain ⟨c, o⟩ := guard_of S o.bind
  rw [Bool.and_eq_true] at c
  have c1 := of_decide_eq_true c.1
  exact ⟨i, j, ex, ey, ⟨c1.1, c1.2, of_decide_eq_true c.2⟩, o.pure S _ (RD.int _)⟩
theorem me_pow (ha : ME X E a ma) (hb : ME X E b mb) : ME X E (.BinOp a .Pow b pos) (eOp2 fPow ma mb) := me_op op_pow s2_pow ha hb
end
theorem passLN {X : Cx} : Passes (L2N.CX X.prog X.w) X E0 := fun _ _ _ _ _ _ _ h => by
  obtain ⟨_, _, _, _, _, _, _, _, _, _, _, _, z⟩ := h
  exact z.elim
theorem passLam {X : Cx} {A : Around} {outer : List Env} {s : Shared} {H : Hp} {E : XK} {scope : Scope} {f c' : Addr} : Passes (L2N.CX (lamN X A outer s H E scope f c').prog (lamN X A outer s H E scope f c').w) (lamN X A outer s H E scope f c') E :=
  L2N.passes_call (X := lamN X A outer s H E scope f c') (L2N.takes_of rfl rfl rfl rfl) fun _ _ _ _ h => h
theorem hu65 {k : Nat} {A : Around} (r : Room k A) : A.units + 65 < cLine := by have := r.un; omega
theorem hu30 {k : Nat} {A : Around} (r : Room k A) : A.units + 30 < cLine := by have := r.un; omega
theorem FunD.toFun {K : PySem.W.Frag} {x qual : Str} {st : Stmt} {f : Addr} {fd : FuncData} (F : FunD K x qual (defArgs st) (defBody st) (defScope st) [] [] f fd) : Fun K x qual st f fd := by
  obtain ⟨oc, od, dV, kV, doc, pm, an, cdv, ct, osl, e, lk, hc, hd, _⟩ := F.ex
  rcases hd with ⟨_, hd⟩ | ⟨hd, _⟩
  · subst hd
    exact ⟨⟨oc, od, kV, doc, pm, an, cdv, ct, osl, e, lk, hc⟩, F.kp⟩
  · exact absurd rfl hd
section
variable {X : Cx} {E : XK} {e a b c d : Expr} {es : List Expr} {ma mb mc md : Em} {ta tb : Tm} {ms : Am} {pos p p2 : Pos} {x : Str} {k n : Nat} {F : Fm} {ws : List Nat} {o : Bool}
theorem mv (i : Nat) (hN : X.N[i]? = some x := by rfl) (hv : Vis X.env.scope x := by first | exact Or.inl rfl | exact Or.inr (Or.inl rfl) | exact Or.inr (Or.inr rfl)) (hd : (x == ("__debug__" : Str)) = false := by decide) (hcd : (x == ("__classdict__" : Str)) = false := by decide) :
    ME X E (.Name x pos) (eVar i) := me_var hN hv hd hcd
theorem mz (i : Nat) (hN : X.N[i]? = some x := by rfl) (hv : Vis X.env.scope x := by first | exact Or.inl rfl | exact Or.inr (Or.inl rfl) | exact Or.inr (Or.inr rfl)) (hd : (x == ("__debug__" : Str)) = false := by decide) (hcd : (x == ("__classdict__" : Str)) = false := by decide) :
    ME X E (.Name x pos) (eFrz i) := me_frz hN hv hd hcd
theorem mgl {d : PyData} (G : GlobD X.K X.mg x d) (hg : Gl X x := by rfl) (hd : (x == ("__debug__" : Str)) = false := by decide) : ME X E (.Name x pos) (eC d) := me_glob G hg hd
theorem mcmp {op : CmpOp} {F : SV → SV → Mm SV} (c : CmpOk X E op F) (ha : ME X E a ma) (hb : ME X E b mb) (hm : behindInMarks op b = false := by rfl) : ME X E (.Compare a [op] [b] pos) (eOp2 F ma mb) := me_cmp' c ha hb hm
theorem tcmp {op : CmpOp} {F : SV → SV → Mm SV} (c : CmpOk X E op F) (ha : ME X E a ma) (hb : ME X E b mb) (hm : behindInMarks op b = false := by rfl) : MT X E (.Compare a [op] [b] pos) (tE (eOp2 F ma mb)) := mt_cmp' c ha hb hm
theorem mchain {op op' : CmpOp} {F G : SV → SV → Mm SV} (c : CmpOk X E op F) (c' : CmpOk X E op' G) (ha : ME X E a ma) (hb : ME X E b mb) (hc : ME X E d mc) (hm : lastMarks [op, op'] [b, d] = false := by rfl) : ME X E (.Compare a [op, op'] [b, d] pos) (eChain F G ma mb mc) := me_chain' c c' ha hb hc hm
theorem tchain {op op' : CmpOp} {F G : SV → SV → Mm SV} (c : CmpOk X E op F) (c' : CmpOk X E op' G) (ha : ME X E a ma) (hb : ME X E b mb) (hc : ME X E d mc) (hm : lastMarks [op, op'] [b, d] = false := by rfl) : MT X E (.Compare a [op, op'] [b, d] pos) (tE (eChain F G ma mb mc)) := mt_chain' c c' ha hb hc hm
theorem tval (ha : ME X E a ma) (he : ∀ whole, isTrue a X.env whole = (do let v ← whole; standAt a.pos; holding [v] (truthy v)) := by intro _; rfl) : MT X E a (tE ma) := mt_val ha he
theorem mac (ha : ME X E e ma) (hr : MA X E es ms) (hs : starEach (e :: es) X.env = (false, eval e X.env) :: starEach es X.env := by rfl) : MA X E (e :: es) (aCons ma ms) := ma_cons ha hr hs
theorem mas (ha : ME X E a ma) (hr : MA X E es ms) (hs : starEach (.Starred a p :: es) X.env = (true, eval a X.env) :: starEach es X.env := by rfl) : MA X E (.Starred a p :: es) (aStar ma ms) := ma_star ha hr hs
theorem mxi (ha : ME X E a ma) (hb : ME X E b mb) (hs : PlainIx b := by intro _ _; rfl) : ME X E (.Subscript a b pos) (eOp2 fIx ma mb) := me_ix ha hb hs
theorem mcb {G : List SV → Mm SV} {id : String} (B : BltOk X E (.builtin id) G) (hm : X.mg x = none) (hv : bootBuiltins x = some (.builtin id)) (ha : MA X E (a :: es) ms) (hg : Gl X x := by rfl) (hn : x ≠ "__name__" := by decide) (hdb : (x == ("__debug__" : Str)) = false := by decide)
    (he : starEach (a :: es) X.env = (false, eval a X.env) :: starEach es X.env := by rfl) (hpl : (backTo pos (starEach es X.env)).any (·.1) = false := by rfl) : ME X E (.Call (.Name x p) (a :: es) [] pos) (eArgs G ms) := me_cb B hg hm hv ha hn hdb he hpl
theorem mct {G : List SV → Mm SV} {T : String} (B : BltOk X E (.type T) G) (hm : X.mg x = none) (hv : bootBuiltins x = some (.type T)) (ha : MA X E (a :: es) ms) (hg : Gl X x := by rfl) (hn : x ≠ "__name__" := by decide) (hdb : (x == ("__debug__" : Str)) = false := by decide)
    (he : starEach (a :: es) X.env = (false, eval a X.env) :: starEach es X.env := by rfl) (hpl : (backTo pos (starEach es X.env)).any (·.1) = false := by rfl) : ME X E (.Call (.Name x p) (a :: es) [] pos) (eArgs G ms) := me_ct B hg hm hv ha hn hdb he hpl
theorem mcg {G : List SV → Mm SV} {id : String} (B : BltOk X E (.builtin id) G) (hm : X.mg x = some (.builtin id)) (ha : MA X E (a :: es) ms) (hg : Gl X x := by rfl) (hdb : (x == ("__debug__" : Str)) = false := by decide)
    (he : starEach (a :: es) X.env = (false, eval a X.env) :: starEach es X.env := by rfl) (hpl : (backTo pos (starEach es X.env)).any (·.1) = false := by rfl) : ME X E (.Call (.Name x p) (a :: es) [] pos) (eArgs G ms) := me_cg B hg hm ha hdb he hpl
theorem mcall (D : FnD X.prog X.w X.K X.mg X.base k x n F) (hr : Room k X.A) (hx : Passes (L2N.CX X.prog X.w) X E) (ha : MA X E (e :: es) ms) (hg : Gl X x := by rfl)
    (hdb : (x == ("__debug__" : Str)) = false := by decide) (he : starEach (e :: es) X.env = (false, eval e X.env) :: starEach es X.env := by rfl) (hpl : (backTo pos (starEach es X.env)).any (·.1) = false := by rfl) :
    ME X E (.Call (.Name x p) (e :: es) [] pos) (eCallI F ms) := me_callI D hr hg hx ha hdb he hpl
theorem mcallR (D : FnD X.prog X.w X.K X.mg X.base k x n F) (hr : Room k X.A) (hx : Passes (L2N.CX X.prog X.w) X E) (ha : MA X E (e :: es) ms) (hg : Gl X x := by rfl)
    (hdb : (x == ("__debug__" : Str)) = false := by decide) (he : starEach (e :: es) X.env = (false, eval e X.env) :: starEach es X.env := by rfl) (hpl : (backTo pos (starEach es X.env)).any (·.1) = false := by rfl) :
    ME X E (.Call (.Name x p) (e :: es) [] pos) (eCall F ms) := me_call D hr hg hx ha hdb he hpl
theorem misi (T : Ty) (hm : X.mg "isinstance" = none) (hmt : X.mg x = none) (hv : bootBuiltins x = some (.type T.nm)) (ha : ME X E e ma) (hg : Gl X "isinstance" := by rfl) (hgt : Gl X x := by rfl)
    (hn : x ≠ "__name__" := by decide) (hdb : (x == ("__debug__" : Str)) = false := by decide)
    (he : starEach (e :: [Expr.Name x p2]) X.env = (false, eval e X.env) :: starEach [Expr.Name x p2] X.env := by rfl) (hpl : (backTo pos (starEach [Expr.Name x p2] X.env)).any (·.1) = false := by rfl)
    (he2 : starEach [Expr.Name x p2] X.env = (false, eval (.Name x p2) X.env) :: starEach [] X.env := by rfl) : ME X E (.Call (.Name "isinstance" p) [e, .Name x p2] [] pos) (eOp1 (fIsi T) ma) := me_isi T ha hg hm hgt hmt hv hn hdb he hpl he2
variable {st : Stmt} {rest bs cs : List Stmt} {sa sb : Sm} {tg it : Expr} {mi : Im} {t : Gm} {tc : Tm} {te : Em} {scope : Scope} {own' : List (Str × Nat)} {ifs : List Expr}
theorem gv (i : Nat) (hN : X.N.Nodup) (hi : X.N[i]? = some x := by rfl) (hx : Loc X.env.scope x := by first | exact Or.inl rfl | exact Or.inr rfl) (hw : i ∈ ws := by decide) (hf : X.fn x = true ∨ X.env.scope.names.lookup x = some .local := by first | exact Or.inl rfl | exact Or.inr rfl) : MG X E ws (.Name x pos) (gVar i) := mg_var hN hi hx hw hf
theorem gc {t : Gm} {ts : List Expr} {tr : Gsm} (h1 : MG X E ws e t) (h2 : MGs X E ws ts tr) (hs : (assignEach (e :: ts) X.env).map (·.2) = assign e X.env :: (assignEach ts X.env).map (·.2) := by rfl) : MGs X E ws (e :: ts) (gsCons t tr) := mgs_cons h1 h2 hs
theorem gt {ts : List Expr} {k n : Nat} {t : Gsm} (h : MGs X E ws ts t) (hc : X.calm = true := by rfl) (hn : (assignEach ts X.env).length = n := by rfl) (hst : (assignEach ts X.env).findIdx? (·.1) = none := by rfl) : MG X E ws (.Tuple ts k pos) (gTup n t) := mg_tup hc h hn hst
theorem gi (ha : ME X E a ma) (hb : ME X E b mb) (hs : ∀ v, assign (.Subscript a b pos) X.env v = (do
      let ov ← holding [v] (eval a X.env)
      let iv ← holding [v, ov] (eval b X.env)
      standAt pos
      holding [v, ov, iv] (setItem ov iv v)
      release [v, ov, iv] []) := by intro _; rfl) : MG X E ws (.Subscript a b pos) (gIx ma mb) := mg_ix ha hb hs
theorem sexpr (ha : ME X E e ma) (hs : swapsWith e none pos.line X.env = pure false := by rfl) : MS X E (.Expr e pos) (sExpr ma) := ms_expr ha hs
theorem sset (i : Nat) {p' : Pos} (hN : X.N.Nodup) (he : ME X E e ma) (hi : X.N[i]? = some x := by rfl) (hx : Loc X.env.scope x := by first | exact Or.inl rfl | exact Or.inr rfl) (hs : swapsWith e (some (.Name x p')) pos.line X.env = pure false := by rfl) (hf : X.fn x = true ∨ X.env.scope.names.lookup x = some .local := by first | exact Or.inl rfl | exact Or.inr rfl) :
    MS X E (.Assign [.Name x p'] e pos) (sAsg ma (gVar i)) := ms_set hN hi hx he hs hf
theorem sasg {tg : Expr} {t : Gm} (ws : List Nat) (he : ME X E e ma) (hg : MG X E ws tg t) (hs : swapsWithSole [tg] e pos.line X.env = pure false := by rfl) (hw : swappedStores [tg] e X.env = pure none := by rfl)
    (h1 : (assignEach [tg] X.env).map (·.2) = [assign tg X.env] := by rfl) : MS X E (.Assign [tg] e pos) (sAsg ma t) := ms_asg he hg hs hw h1
theorem spar (i j : Nat) {x y : Str} {px py pt : Pos} {kt k2 : Nat} {pt2 : Pos} (hN : X.N.Nodup) (ha : MA X E [a, b] ms) (hij : i ≠ j := by decide) (hc : X.calm = true := by rfl) (hi : X.N[i]? = some x := by rfl) (hj : X.N[j]? = some y := by rfl)
    (hx : X.env.scope.names.lookup x = some .local := by rfl) (hy : X.env.scope.names.lookup y = some .local := by rfl)
    (hw : swappedStores [.Tuple [.Name x px, .Name y py] kt pt] (.Tuple [a, b] k2 pt2) X.env = pure (some [x, y]) := by rfl)
    (hs : swapsWithSole [.Tuple [.Name x px, .Name y py] kt pt] (.Tuple [a, b] k2 pt2) pos.line X.env = pure false := by rfl) :
    MS X E (.Assign [.Tuple [.Name x px, .Name y py] kt pt] (.Tuple [a, b] k2 pt2) pos) (sPar i j ms) := ms_par hc hN hi hj hij hx hy ha hw hs
theorem sapp {apos : Pos} (ha : ME X E a ma) (hb : ME X E b mb) (hbase : attributeBase a "append" X.env (eval a X.env) = eval a X.env := by rfl)
    (hfew : ((backTo pos (starEach [b] X.env)).all (fun x => !x.1) && (backToKw pos (keywordEach [] X.env)).all (fun x => x.1.isSome)
      && decide ([b].length + ([] : List Keyword).length + (if ([] : List Keyword).isEmpty then 0 else 1) < 30)) = true := by rfl)
    (hline : (apos.endLine == pos.line) = true := by rfl) (hs : starEach [b] X.env = (false, eval b X.env) :: starEach [] X.env := by rfl) (hplain : (backTo pos (starEach [] X.env)).any (·.1) = false := by rfl) :
    ME X E (.Call (.Attribute a "append" apos) [b] [] pos) (fun ρ => mB (ma ρ) fun x => mB (isLs x) fun _ => mB (mb ρ) fun y => mApp x y) := me_append ha hb hbase hfew hline hs hplain
theorem sfor (ws : List Nat) (hp : PassesOwn (model X.prog X.w) X.A X.env X.xe) (hi : MI X E tg it mi) (hg : MG X E ws tg t) (hb : MSs X E bs sb) (hc : X.calm = true := by rfl) (hs : ∀ x, foldedSetIterable it X.env x = pure x := by intro _; rfl) : MS X E (.For tg it bs [] pos) (sFor mi t sb) := ms_for hp hc hi hg hb hs
theorem mlc (own' : List (Str × Nat)) (hN : X.N.Nodup) (hi : MI X E tg it mi)
    (hg : ∀ (s : Shared) (H : Hp) (C : Addr) (cl : List (Str × Addr)) (fp : List Addr), MG (X.blk s H scope (compEnvC scope cl C X.env) fp) E0 (own'.map (·.2)) tg t)
    (ht : ∀ (s : Shared) (H : Hp) (C : Addr) (cl : List (Str × Addr)) (fp : List Addr), MTs (X.blk s H scope (compEnvC scope cl C X.env) fp) E0 ifs tc)
    (he : ∀ (s : Shared) (H : Hp) (C : Addr) (cl : List (Str × Addr)) (fp : List Addr), ME (X.blk s H scope (compEnvC scope cl C X.env) fp) E0 c te)
    (ok : blkC X.N X.env.scope scope own' = true := by rfl) (hc : X.calm = true := by rfl) (hs : ∀ x, foldedSetIterable it X.env x = pure x := by intro _; rfl) : ME X E (.ListComp c [⟨tg, it, ifs, 0⟩] scope pos) (eLc o mi t tc te (own'.map (·.2))) := me_lc hc hN hi (blkOk_by ok) hg ht he hs
theorem ienum {elts : List Expr} {kk : Nat} {tpos : Pos} (hm : X.mg "enumerate" = none) (ha : ME X E e ma) (hg : Gl X "enumerate" := by rfl) (hs : starEach [e] X.env = [(false, eval e X.env)] := by rfl) : MI X E (.Tuple elts kk tpos) (.Call (.Name "enumerate" p) [e] [] pos) (iEnum ma) := mi_enum hg hm ha hs
theorem izip {elts : List Expr} {kk : Nat} {tpos : Pos} (hm : X.mg "zip" = none) (ha : ME X E a ma) (hb : ME X E b mb) (hg : Gl X "zip" := by rfl) (hs : starEach [a, b] X.env = (false, eval a X.env) :: starEach [b] X.env := by rfl) (hs2 : starEach [b] X.env = (false, eval b X.env) :: starEach [] X.env := by rfl)
    (hpl : (backTo pos (starEach [b] X.env)).any (·.1) = false := by rfl) : MI X E (.Tuple elts kk tpos) (.Call (.Name "zip" p) [a, b] [] pos) (iZip ma mb) := mi_zip hg hm ha hb hs hs2 hpl
theorem izip3 {elts : List Expr} {kk : Nat} {tpos : Pos} (hm : X.mg "zip" = none) (ha : ME X E a ma) (hb : ME X E b mb) (hc : ME X E c mc) (hg : Gl X "zip" := by rfl) (hs : starEach [a, b, c] X.env = (false, eval a X.env) :: starEach [b, c] X.env := by rfl)
    (hs2 : starEach [b, c] X.env = (false, eval b X.env) :: starEach [c] X.env := by rfl) (hs3 : starEach [c] X.env = (false, eval c X.env) :: starEach [] X.env := by rfl) (hpl : (backTo pos (starEach [b, c] X.env)).any (·.1) = false := by rfl) :
    MI X E (.Tuple elts kk tpos) (.Call (.Name "zip" p) [a, b, c] [] pos) (iZip3 ma mb mc) := mi_zip3 hg hm ha hb hc hs hs2 hs3 hpl
theorem irng1 (hm : X.mg "range" = none) (ha : ME X E e ma) (hg : Gl X "range" := by rfl) (hs : starEach [e] X.env = [(false, eval e X.env)] := by rfl) : MI X E tg (.Call (.Name "range" p) [e] [] pos) (iRng1 ma) := mi_rng1 hg hm ha hs
theorem irng2 (hm : X.mg "range" = none) (ha : ME X E a ma) (hb : ME X E b mb) (hg : Gl X "range" := by rfl) (hs : starEach [a, b] X.env = [(false, eval a X.env), (false, eval b X.env)] := by rfl) (hs2 : starEach [b] X.env = [(false, eval b X.env)] := by rfl) : MI X E tg (.Call (.Name "range" p) [a, b] [] pos) (iRng2 ma mb) := mi_rng2 hg hm ha hb hs hs2
theorem sraise {C fI : Addr} {nm fld : Str} {pos2 : Pos} (FO : PySem.MKX.FldOk fld) (T : PySem.MKX.XTxt X.prog X.K X.mg nm fld C fI) (hr : Room k X.A) (tk : L2N.Takes X (fun cls d _ H => E cls d H)) (ha : ME X E a ma) (hc : X.calm = true := by rfl) (hg : Gl X nm := by rfl)
    (hdb : (nm == ("__debug__" : Str)) = false := by decide) (he : starEach (a :: []) X.env = (false, eval a X.env) :: starEach [] X.env := by rfl) (hpl : (backTo pos (starEach [] X.env)).any (·.1) = false := by rfl) :
    MS X E (.Raise (some (.Call (.Name nm p) [a] [] pos)) none pos2) (sRaiseX nm fld ma) := ms_raiseX hc tk FO T hr ha hg hdb he hpl
end

end MK
namespace L2
open PySem PySem.Spec PyProof.Rows
/-- a, b = x, y where the stores are not swapped (captured names, constants): the pair itself is not tracked -/
theorem ps_parC {X : Cx} {i j : Nat} {x y : Str} {a b : Expr} {ta : TA} {px py pt pos : Pos} {kt k2 : Nat} {pt2 : Pos} (hc : X.calm = true) (hN : X.N.Nodup) (hi : X.N[i]? = some x) (hj : X.N[j]? = some y)
    (hx : Loc X.env.scope x) (hy : Loc X.env.scope y) (hfx : X.fn x = true ∨ X.env.scope.names.lookup x = some .local) (hfy : X.fn y = true ∨ X.env.scope.names.lookup y = some .local) (ha : PA X [a, b] ta)
    (hw : swappedStores [.Tuple [.Name x px, .Name y py] kt pt] (.Tuple [a, b] k2 pt2) X.env = pure none)
    (hs : swapsWithSole [.Tuple [.Name x px, .Name y py] kt pt] (.Tuple [a, b] k2 pt2) pos.line X.env = pure false)
    (h1 : (assignEach [.Tuple [.Name x px, .Name y py] kt pt] X.env).map (·.2) = [assign (.Tuple [.Name x px, .Name y py] kt pt) X.env])
    (h2 : (assignEach [.Name x px, .Name y py] X.env).map (·.2) = [assign (.Name x px) X.env, assign (.Name y py) X.env]) (h3 : (assignEach [.Name x px, .Name y py] X.env).length = 2) (h4 : (assignEach [.Name x px, .Name y py] X.env).findIdx? (·.1) = none) :
    PS X (.Assign [.Tuple [.Name x px, .Name y py] kt pt] (.Tuple [a, b] k2 pt2) pos) (tPar i j ta) := by
  refine ⟨fun pins s σ H D I h => ?_⟩
  refine wpAny_Assign_stores (Tuple_ (thn (ha.run _ pins s σ H _ I h) fun us s1 ⟨vs, H1, I1, r1, q1⟩ => ?_)) hs hw
  obtain ⟨v, w, e1, q1⟩ := q1
  subst e1
  obtain ⟨u1, u2, rfl, rv, rw'⟩ : ∃ u1 u2, us = [u1, u2] ∧ RelV v u1 ∧ RelV w u2 := by
    cases r1 with
    | cons p q =>
      cases q with
      | cons p' q' =>
        cases q'
        exact ⟨_, _, rfl, p, p'⟩
  refine wpAny_newObj_type ?_ (by show 2 ≤ sizeLine; decide)
  have I2 : Inv X pins σ H1 { s1 with heap := s1.heap.push { cls := .type "tuple", data := .seq [u1, u2].toArray } } := I1.kept (t' := s1.toks) fun b o e => Heap.get?_push_of_some _ e
  rw [h1]
  show wpAny (model X.prog X.w) X.A (assign (.Tuple [.Name x px, .Name y py] kt pt) X.env (.ref s1.heap.objs.size)) _ _ _
  refine assign_Tuple_tuple (items := #[u1, u2]) (I.ok.hd hc) (IsTup.new s1.heap _) h3 h4 fun h' hx' => ?_
  have I3 := I2.kept (h' := h') (t' := s1.toks) fun b o e => hx' b o (Nat.ne_of_lt (Heap.lt_size e)) e
  rw [h2]
  refine assignInOrder_cons (wpAny_assign_Name (store_ok I3 hN hi hx rv (fun s2 I4 => ?_) hfx))
  refine assignInOrder_cons (wpAny_assign_Name (store_ok I4 hN hj hy rw' (fun s3 I5 => assignInOrder_nil ⟨_, H1, I5, q1⟩) hfy))
end L2
namespace MK
open PySem PySem.Spec PyProof.Rows L2 LamX
variable {cz : Cxx} [Tb]
theorem sparC {X : Cx} {E : XK} {a b : Expr} {ms : Am} {pos : Pos} (i j : Nat) {x y : Str} {px py pt : Pos} {kt k2 : Nat} {pt2 : Pos} (hN : X.N.Nodup) (ha : MA X E [a, b] ms) (hc : X.calm = true := by rfl) (hi : X.N[i]? = some x := by rfl) (hj : X.N[j]? = some y := by rfl)
    (hx : Loc X.env.scope x := by first | exact Or.inl rfl | exact Or.inr rfl) (hy : Loc X.env.scope y := by first | exact Or.inl rfl | exact Or.inr rfl)
    (hfx : X.fn x = true ∨ X.env.scope.names.lookup x = some .local := by first | exact Or.inl rfl | exact Or.inr rfl) (hfy : X.fn y = true ∨ X.env.scope.names.lookup y = some .local := by first | exact Or.inl rfl | exact Or.inr rfl)
    (hw : swappedStores [.Tuple [.Name x px, .Name y py] kt pt] (.Tuple [a, b] k2 pt2) X.env = pure none := by rfl)
    (hs : swapsWithSole [.Tuple [.Name x px, .Name y py] kt pt] (.Tuple [a, b] k2 pt2) pos.line X.env = pure false := by rfl)
    (h1 : (assignEach [.Tuple [.Name x px, .Name y py] kt pt] X.env).map (·.2) = [assign (.Tuple [.Name x px, .Name y py] kt pt) X.env] := by rfl)
    (h2 : (assignEach [.Name x px, .Name y py] X.env).map (·.2) = [assign (.Name x px) X.env, assign (.Name y py) X.env] := by rfl) (h3 : (assignEach [.Name x px, .Name y py] X.env).length = 2 := by rfl) (h4 : (assignEach [.Name x px, .Name y py] X.env).findIdx? (·.1) = none := by rfl) :
    MS X E (.Assign [.Tuple [.Name x px, .Name y py] kt pt] (.Tuple [a, b] k2 pt2) pos) (sPar i j ms) := by
  refine PSwk (ps_parC hc hN hi hj hx hy hfx hfy ha hw hs h1 h2 h3 h4) fun D σ H ⟨g, ρ, S, V, o⟩ => ?_
  refine ⟨g, ρ, S, V, o.bind.mono fun ds g1 H1 S1 L1 o1 vs rs => ?_⟩
  have V1 := V.mono S L1
  cases rs with
  | nil => exact o1.elim
  | cons r1 t =>
    cases t with
    | nil => exact o1.elim
    | cons r2 t =>
      cases t with
      | cons _ _ => exact o1.elim
      | nil => exact ⟨_, _, rfl, o1.pure S1 _ ((V1.set r1 i).set r2 j)⟩
theorem sraise0 {X : Cx} {E : XK} {nm : Str} {p pos pos2 : Pos} (h : ∃ C, X.mg nm = some (.ref C) ∧ PySem.W.excIn X.K C He.veBase "ValueError.__new__" = true ∧ PySem.W.keepIn X.K (.ref C) = true ∧ PySem.W.subIn X.K (.ref C) (.type "BaseException") = some true ∧ PySem.W.typeIn X.K (.ref C) = some (.type "type"))
    (tk : L2N.Takes X (fun cls d _ H => E cls d H)) (hc : X.calm = true := by rfl) (hg : Gl X nm := by rfl) (hdb : (nm == ("__debug__" : Str)) = false := by decide) : MS X E (.Raise (some (.Call (.Name nm p) [] [] pos)) none pos2) (sRaise0 nm) := by
  obtain ⟨C, h1, h2, h3, h4, h5⟩ := h
  exact ms_raise0 hc tk F.excBase_ValueError h2 h1 h3 (raises_own h4 h5) hg hdb

/-- name = [..] on one line, the name a local -/
theorem ssetLc {X : Cx} {E : XK} {x : Str} {p' pos spos : Pos} {c tg it : Expr} {ifs : List Expr} {scope : Scope} {mi : Im} {t : Gm} {tc : Tm} {te : Em} {o : Bool} (i : Nat) (own' : List (Str × Nat)) (hN : X.N.Nodup) (hi : MI X E tg it mi)
    (hg : ∀ (s : Shared) (H : Hp) (C : Addr) (cl : List (Str × Addr)) (fp : List Addr), MG (X.blk s H scope (compEnvC scope cl C X.env) fp) E0 (own'.map (·.2)) tg t)
    (ht : ∀ (s : Shared) (H : Hp) (C : Addr) (cl : List (Str × Addr)) (fp : List Addr), MTs (X.blk s H scope (compEnvC scope cl C X.env) fp) E0 ifs tc)
    (he : ∀ (s : Shared) (H : Hp) (C : Addr) (cl : List (Str × Addr)) (fp : List Addr), ME (X.blk s H scope (compEnvC scope cl C X.env) fp) E0 c te)
    (hy : X.N[i]? = some x := by rfl) (hyl : X.env.scope.names.lookup x = some .local := by rfl) (hsw : swapsWith (.ListComp c [⟨tg, it, ifs, 0⟩] scope pos) (some (.Name x p')) spos.line X.env = pure true := by rfl)
    (ok : blkC X.N X.env.scope scope own' = true := by rfl) (hc : X.calm = true := by rfl) (hs : ∀ x, foldedSetIterable it X.env x = pure x := by intro _; rfl) :
    MS X E (.Assign [.Name x p'] (.ListComp c [⟨tg, it, ifs, 0⟩] scope pos) spos) (sAsg (eLc o mi t tc te (own'.map (·.2))) (gVar i)) := by
  refine PSwk (ps_setLc (i := i) (g := tG X.K none X.mg E0 (own'.map fun p : Str × Nat => p.2) t) (tt := tT X.K none X.mg E0 tc) (te := tM X.K none X.mg E0 te) hc hN hy hyl hsw hi (blkOk_by ok) hg ht he hs) fun D σ H ⟨g, ρ, S, V, q⟩ => ?_
  refine lc_read (Q := fun x H1 => gName i x σ H1 D.nx) ⟨g, ρ, S, V, q.bind.mono fun d g1 H1 S1 L1 o1 v r => ?_⟩
  exact (o1.bind.pure S1).pure S1 _ ((V.mono S L1).set r i)
end MK
set_option Elab.async false
set_option linter.all false
set_option maxRecDepth 100000
set_option maxHeartbeats 2000000
/-! MKq: the head's facts for a text with own errors (super().__init__() and one field), tables of constants, one def with lambdas. -/
namespace MKQ
open PySem PySem.Spec PyProof.Rows L2 He
/-- addresses looked at -/
def asM (g : Addr → Option Obj) (n : Nat) : List Addr := asD g n ++ [cStatics]
abbrev InitV : Type := Option (Str × Str × Arguments × FuncBody × Scope × Addr × List Str × Addr)
def initW (K : PySem.W.Frag) (nm : Str) : InitV := match K.lookup (ma K (ga K nm) "__init__") with
  | some ⟨_, _, .func fd, _⟩ => some (fd.name, fd.qualname, fd.params, fd.body, fd.scope, fd.globals, fd.closure.map (·.1), fd.builtins)
  | _ => none
/-- an own error's class: its name, its field, its __init__'s text -/
structure InitD where
  nm : Str
  fld : Str
  qual : Str
  st : Stmt
def InitD.val (d : InitD) : InitV := some ("__init__", d.qual, defArgs d.st, .stmts (defBody d.st), defScope d.st, mainGlobals, ["__class__"], builtinsNs)
def initB (K : PySem.W.Frag) (nm file : Str) : Bool := match K.lookup (ma K (ga K nm) "__init__") with
  | some ⟨_, _, .func fd, _⟩ => (match fd.defaults with | .none => true | _ => false) && ((match fd.kwdefaults with | .none => true | _ => false) && ((match fd.code with
    | .ref c => PySem.W.codeIn K (.ref c) fd.qualname && (match K.lookup c with
      | some ⟨_, _, .fields vs, _⟩ => (match (vs[2]? : Option Value) with
        | some (.str f _) => file == f
        | _ => false)
      | _ => false)
    | _ => false) && (match fd.closure with
    | [(_, cc)] => (match K.lookup cc with
      | some ⟨_, _, .cell (some (.ref C)), _⟩ => C == ga K nm
      | _ => false)
    | _ => false)))
  | _ => false
def clsB (K : PySem.W.Frag) (C : Addr) : Bool := match K.lookup C with
  | some ⟨.type t, _, .cls cd, sl⟩ => (match cd.mro, sl.toList with
    | .ref C' :: bm, [_, _, _, _, some (.builtin n), _] => decide (t = "type") && (C' == C && (n == "ValueError.__new__" && (!cd.hasDel && (cd.hasDict && PySem.HandSPX.refsVE bm))))
    | _, _ => false)
  | _ => false
theorem clsB_ok {K : PySem.W.Frag} {C : Addr} (q : clsB K C = true) : ∃ nm q N bs bm sn sub ab col dd k0 k1 k2 k3 k5, K.lookup C = some (excClassObj nm q C N bs bm true sn sub ab col dd k0 k1 k2 k3 k5 "ValueError.__new__") ∧ PySem.HandSPX.refsVE bm = true := by
  unfold clsB at q
  split at q
  · rename_i t dd cd sl ho
    split at q
    · rename_i C' bm k0 k1 k2 k3 n k5 hm hs
      simp only [Bool.and_eq_true, beq_iff_eq, Bool.not_eq_true', decide_eq_true_eq] at q
      obtain ⟨rfl, rfl, rfl, hdel, hd, hb⟩ := q
      obtain ⟨nm, bs, mro, ns, qn, hd', sn, sub, ab, col, del⟩ := cd
      dsimp only at hm hdel hd
      subst hm hdel hd
      have hsl : sl = #[k0, k1, k2, k3, some (.builtin "ValueError.__new__"), k5] := by
        obtain ⟨l⟩ := sl
        simp only at hs
        rw [hs]
      subst hsl
      exact ⟨nm, qn, ns, bs, bm, sn, sub, ab, col, dd, k0, k1, k2, k3, k5, ho, hb⟩
    · cases q
  · cases q
def eqB (a b : Option Bool) : Bool := decide (a = b)
def xtB (K : PySem.W.Frag) (nm fld file : Str) : Bool :=
  clsB K (ga K nm) && (eqO (PySem.W.findIn K (.ref (ga K nm)) "__setattr__") (some (some (.builtin "object.__setattr__"))) && (eqO (PySem.W.findIn K (.ref (ga K nm)) "__getattribute__") (some (some (.builtin "BaseException.__getattribute__"))) &&
  (eqO (PySem.W.findIn K (.ref (ga K nm)) "__getattr__") (some none) && (eqO (PySem.W.findIn K (.ref (ga K nm)) fld) (some none) && (eqO (PySem.W.findIn K (.ref (ga K nm)) "__init__") (some (some (.ref (ma K (ga K nm) "__init__")))) &&
  (decide (PySem.W.typeIn K (.ref (ma K (ga K nm) "__init__")) = some (.type "function")) && (PySem.W.keepIn K (.ref (ga K nm)) && (decide (PySem.W.subIn K (.ref (ga K nm)) (.type "BaseException") = some true) && (decide (PySem.W.typeIn K (.ref (ga K nm)) = some (.type "type")) &&
  (PySem.W.hasDictIn K (ga K nm) && (eqO (PySem.W.ks_superIn K (ga K nm) (ga K nm) "__init__") (some (some (.builtin "ValueError.__init__"))) && (decide (PySem.W.subIn K (.ref (ga K nm)) (.type "ValueError") = some true) && (decide (PySem.W.mroIn K (ga K nm) (.ref (ga K nm)) = some true) &&
  (eqO (PySem.W.nsIn K cStatics "thirdparty.any") (some none) && initB K nm file))))))))))))))
/-- what the class's text must be -/
def TxtOk (fld : Str) (st : Stmt) : Prop := ∃ (p1 p2 q1 q2 q3 q4 q5 q6 q7 q8 q9 : Pos), defArgs st = PySem.MKX.iA fld p1 p2 ∧ defBody st = PySem.MKX.iB fld q1 q2 q3 q4 q5 q6 q7 q8 q9 ∧ defScope st = PySem.MKX.iS fld ∧ ∃ pl : Sem Bool, ∀ env : Env, eval (.Call (.Attribute (.Call (.Name "super" q1) [] [] q2) "__init__" q3) [] [] q4) env = (do
      let ov ← attributeBase (.Call (.Name "super" q1) [] [] q2) "__init__" env (eval (.Call (.Name "super" q1) [] [] q2) env)
      standAt q3.atName
      let (f, first) ← holding [ov] (getMethod ov "__init__" pl)
      callWith q4 f first (backTo q4 (starEach [] env)) [])
theorem xt_ok {P : Program} {K : PySem.W.Frag} {h : Heap} {mg : Str → Option Value} {d : InitD} (X : K.In h) (G : h.Ns mainGlobals mg) (hg : (Fa.glo d.nm).ok K = true) (hs : (Fa.free "super").ok K = true) (ht : (P.main.scope.names.lookup ("super" : Str)).isSome = false)
    (hx : xtB K d.nm d.fld P.main.file = true) (hw : initW K d.nm = d.val) (ht2 : TxtOk d.fld d.st) : PySem.MKX.XTxt P K mg d.nm d.fld (ga K d.nm) (ma K (ga K d.nm) "__init__") := by
  unfold xtB at hx
  simp only [Bool.and_eq_true, decide_eq_true_eq] at hx
  obtain ⟨c1, c2, c3, c4, c5, c6, c7, c8, c9, c10, c11, c12, c13, c14, c15, c16⟩ := hx
  obtain ⟨p1, p2, q1, q2, q3, q4, q5, q6, q7, q8, q9, e1, e2, e3, e4⟩ := ht2
  refine ⟨glo_ok X G hg, clsB_ok c1, eqO_ok c2, eqO_ok c3, eqO_ok c4, eqO_ok c5, eqO_ok c6, c7, c8, c9, c10, c11, eqO_ok c12, c13, c14, eqO_ok c15, free_ok X G hs, ht, ?_⟩
  unfold initB at c16
  unfold initW at hw
  cases q : K.lookup (ma K (ga K d.nm) "__init__") with
  | none => rw [q] at hw; cases hw
  | some o =>
    obtain ⟨oc, od, dt, osl⟩ := o
    rw [q] at hw c16
    cases dt with
    | func fd =>
      obtain ⟨n1, n2, n3, n4, n5, n6, n7, n8, n9, n10, n11, n12, n13, n14, n15⟩ := fd
      have hw2 : (some (n1, n2, n3, n4, n5, n6, n7.map (·.1), n15) : InitV) = some (("__init__" : Str), d.qual, defArgs d.st, FuncBody.stmts (defBody d.st), defScope d.st, mainGlobals, [("__class__" : Str)], builtinsNs) := hw
      simp only [Option.some.injEq, Prod.mk.injEq] at hw2
      obtain ⟨h1, h2, h3, h4, h5, h6, h7, h8⟩ := hw2
      subst h1 h2 h3 h4 h5 h6 h8
      simp only [Bool.and_eq_true] at c16
      obtain ⟨d1, d2, d3, d4⟩ := c16
      cases n8 with
      | none =>
        cases n9 with
        | none =>
          cases n13 with
          | ref c =>
            simp only [Bool.and_eq_true] at d3
            obtain ⟨d5, d6⟩ := d3
            cases n7 with
            | nil => cases d4
            | cons z zs =>
              cases zs with
              | cons _ _ => cases d4
              | nil =>
                obtain ⟨x, cc⟩ := z
                have hx : x = "__class__" := by simpa using h7
                subst hx
                simp only at d4
                split at d4
                · rename_i cl cld C csl qc
                  have eC : C = ga K d.nm := beq_iff_eq.mp d4
                  subst eC
                  split at d6
                  · rename_i ccl cdd vs ccs qv
                    split at d6
                    · rename_i f tf qf
                      exact ⟨oc, od, n10, n11, n12, n14, osl, c, cc, d.qual, p1, p2, q1, q2, q3, q4, q5, q6, q7, q8, q9, ccl, cl, cdd, cld, ccs, csl, vs, f, tf, (by rw [e1, e2, e3]), d5, qv, qf, d6, qc, e4⟩
                    · cases d6
                  · cases d6
                · cases d4
          | _ => cases d3
        | _ => cases d2
      | _ => cases d1
    | _ => cases hw
/-! ### the Hook -/
structure Says (fa : List Fa) (fn : List DefD) (is : List InitD) (file : Str) (tf : List Defn) (ex : PySem.W.Frag → Bool) (h : Heap) (K : PySem.W.Frag) : Prop where
  d : SaysD fa fn K
  more : ex K = true
  init : ∀ d ∈ is, xtB K d.nm d.fld file = true ∧ initW K d.nm = d.val
  nol : ∀ (a : Addr) (o : Obj), K.lookup a = some o → o.cls = .type "list" → False
  hd : ∀ p ∈ tf, PySem.W.codeHdIn K (cT K p).1 (cT K p).2 = true
  out : ∀ p ∈ tf, K.lookup (cT K p).2 = none
  empty : ∀ p ∈ tf, h.get? (cT K p).2 = some { cls := .none, data := .fields #[] }
def isLst (o : Obj) : Bool := match o.cls with
  | .type t => decide (t = "list")
  | _ => false
abbrev AlM : Type := AlD × (Bool × List InitV)
def obsM (n : Nat) (fa : List Fa) (fn : List DefD) (is : List InitD) (file : Str) (tf : List Defn) (ex : PySem.W.Frag → Bool) (g : Addr → Option Obj) : AlM :=
  (obsD fa fn (frT g (asM g n)), (ex (frT g (asM g n)) && (is.all (fun d => xtB (frT g (asM g n)) d.nm d.fld file) && ((frT g (asM g n)).all (fun q => !isLst q.2) && tabsB g tf (frT g (asM g n)))), is.map fun d => initW (frT g (asM g n)) d.nm))
def valM (fn : List DefD) (is : List InitD) : AlM := (valD fn, (true, is.map InitD.val))
theorem says_of {n : Nat} {fa : List Fa} {fn : List DefD} {is : List InitD} {file : Str} {tf : List Defn} {ex : PySem.W.Frag → Bool} {h : Heap} (e : obsM n fa fn is file tf ex h.get? = valM fn is) : Says fa fn is file tf ex h (frT h.get? (asM h.get? n)) := by
  have e1 : obsD fa fn (frT h.get? (asM h.get? n)) = valD fn := congrArg (fun z : AlM => z.1) e
  have e2 : (ex (frT h.get? (asM h.get? n)) && (is.all (fun d => xtB (frT h.get? (asM h.get? n)) d.nm d.fld file) && ((frT h.get? (asM h.get? n)).all (fun q => !isLst q.2) && tabsB h.get? tf (frT h.get? (asM h.get? n))))) = true := congrArg (fun z : AlM => z.2.1) e
  have e3 : (is.map fun d => initW (frT h.get? (asM h.get? n)) d.nm) = is.map InitD.val := congrArg (fun z : AlM => z.2.2) e
  obtain ⟨h1, h2⟩ := ba e2
  obtain ⟨h3, h4⟩ := ba h2
  obtain ⟨h5, h6⟩ := ba h4
  have key : ∀ p ∈ tf, PySem.W.codeHdIn (frT h.get? (asM h.get? n)) (cT (frT h.get? (asM h.get? n)) p).1 (cT (frT h.get? (asM h.get? n)) p).2 = true ∧ ∃ o, h.get? (cT (frT h.get? (asM h.get? n)) p).2 = some o ∧ emptyTab o = true := fun p hp => by
    obtain ⟨k1, k2⟩ := ba (List.all_eq_true.mp h6 p hp)
    refine ⟨k1, ?_⟩
    cases q : h.get? (cT (frT h.get? (asM h.get? n)) p).2 with
    | none =>
      rw [q] at k2
      cases k2
    | some o =>
      rw [q] at k2
      exact ⟨o, rfl, k2⟩
  refine ⟨e1, h1, fun d hd => ⟨List.all_eq_true.mp h3 d hd, ?_⟩, fun a o lk hc => ?_, fun p hp => (key p hp).1, fun p hp => ?_, fun p hp => ?_⟩
  · obtain ⟨i, hi, e⟩ := List.mem_iff_getElem.mp hd
    have z : (is.map fun d => initW (frT h.get? (asM h.get? n)) d.nm)[i]? = (is.map InitD.val)[i]? := by rw [e3]
    rw [List.getElem?_map, List.getElem?_map, List.getElem?_eq_getElem hi, e] at z
    exact Option.some.inj z
  · have z := List.all_eq_true.mp h5 (a, o) (lookup_mem lk)
    unfold isLst at z
    simp only [hc] at z
    cases z
  · obtain ⟨_, o, q, z⟩ := key p hp
    exact frT_none q z
  · obtain ⟨_, o, q, z⟩ := key p hp
    rw [q, emptyTab_eq z]
def hookM (n : Nat) (fa : List Fa) (fn : List DefD) (is : List InitD) (file : Str) (tf : List Defn) (ex : PySem.W.Frag → Bool) : PySem.W.Hook where
  α := AlM
  obs := fun s => obsM n fa fn is file tf ex s.heap.get?
  val := fun _ => valM fn is
  says := fun _ h => ∃ K : PySem.W.Frag, K.In h ∧ Says fa fn is file tf ex h K
  of := fun _ _ e => ⟨_, frT_in, says_of e⟩
  keeps := fun _ _ _ ⟨K, hK, c⟩ k => ⟨K, PySem.W.Frag.In.keeps hK k, ⟨c.d, c.more, c.init, c.nol, c.hd, c.out, fun p hp => k _ _ (c.empty p hp)⟩⟩
theorem obsM_eq {n : Nat} {fa : List Fa} {fn : List DefD} {is : List InitD} {file : Str} {tf : List Defn} {ex : PySem.W.Frag → Bool} {g : Addr → Option Obj} {s : Shared} (h : ∀ a, g a = s.heap.get? a) : obsM n fa fn is file tf ex g = (hookM n fa fn is file tf ex).obs s := by
  have e : g = s.heap.get? := funext h
  rw [e] <;> rfl
/-! ### further facts -/
def excB (K : PySem.W.Frag) (D : Addr) : Bool := eqO (PySem.W.findIn K (.ref D) "__getattribute__") (some (some (.builtin "BaseException.__getattribute__"))) && (eqO (PySem.W.findIn K (.ref D) "__getattr__") (some none) && (decide (PySem.W.subIn K (.ref D) (.type "BaseException") = some true) && (PySem.W.hasDictIn K D &&
  (eqO (PySem.W.findIn K (.ref D) "__class__") (some (some (.builtin "object.__class__"))) && (eqO (PySem.W.specialIn K (.builtin "object.__class__") "__get__") (some (some (.builtin "getset_descriptor.__get__"))) && (eqB (PySem.W.takesIn K (.builtin "object.__class__")) (some true) && eqB (PySem.W.mroIn K D (.type "object")) (some true)))))))
theorem excB_ok {K : PySem.W.Frag} {D : Addr} (h : excB K D = true) : ExcC K D := by
  unfold excB at h
  simp only [Bool.and_eq_true, decide_eq_true_eq] at h
  obtain ⟨c1, c2, c3, c4, c5, c6, c7, c8⟩ := h
  exact ⟨eqO_ok c1, eqO_ok c2, c3, c4, eqO_ok c5, eqO_ok c6, of_decide_eq_true c7, of_decide_eq_true c8⟩
def tabIn (K : PySem.W.Frag) (cv : Value) (tb : List (Str × Bool)) : Bool := tb.all fun p => (Fa.glo p.1).ok K && (excB K (ga K p.1) && ((PySem.W.clsIn K (ga K p.1)).isSome && decide (PySem.W.kitOne K (.ref (ga K p.1)) cv = some p.2)))
theorem tabIn_ok {K : PySem.W.Frag} {h : Heap} {mg : Str → Option Value} (X : K.In h) (G : h.Ns mainGlobals mg) {cv : Value} {tb : List (Str × Bool)} (z : tabIn K cv tb = true) : MK.IsTab K mg cv tb := fun p hp => by
  have z := List.all_eq_true.mp z p hp
  simp only [Bool.and_eq_true, decide_eq_true_eq] at z
  obtain ⟨c1, c2, c3, c4⟩ := z
  exact ⟨ga K p.1, glo_ok X G c1, excB_ok c2, c3, c4⟩
def givB (K : PySem.W.Frag) (f : Str) (nms : List Str) : Bool := nms.all fun nm => (Fa.glo nm).ok K && (xfB K (ga K nm) && eqO (PySem.W.findIn K (.ref (ga K nm)) f) (some none))
theorem givB_ok {K : PySem.W.Frag} {h : Heap} {mg : Str → Option Value} (X : K.In h) (G : h.Ns mainGlobals mg) {f : Str} {nms : List Str} (z : givB K f nms = true) : ∀ nm ∈ nms, ∃ C, mg nm = some (.ref C) ∧ XfC K C ∧ PySem.W.findIn K (.ref C) f = some none := fun nm hm => by
  have z := List.all_eq_true.mp z nm hm
  simp only [Bool.and_eq_true] at z
  obtain ⟨c1, c2, c3⟩ := z
  exact ⟨ga K nm, glo_ok X G c1, xfB_ok c2, eqO_ok c3⟩
def supB (K : PySem.W.Frag) (S : Str) (nms : List Str) : Bool := (Fa.glo S).ok K && nms.all fun nm => (Fa.glo nm).ok K && decide (PySem.W.exmOne K (.ref (ga K nm)) (.ref (ga K S)) = some true)
theorem supB_ok {K : PySem.W.Frag} {h : Heap} {mg : Str → Option Value} (X : K.In h) (G : h.Ns mainGlobals mg) {S : Str} {nms : List Str} (z : supB K S nms = true) : ∃ CS, mg S = some (.ref CS) ∧ ∀ nm ∈ nms, ∃ C, mg nm = some (.ref C) ∧ PySem.W.exmOne K (.ref C) (.ref CS) = some true := by
  obtain ⟨z1, z2⟩ := ba z
  refine ⟨ga K S, glo_ok X G z1, fun nm hm => ?_⟩
  have z := List.all_eq_true.mp z2 nm hm
  simp only [Bool.and_eq_true, decide_eq_true_eq] at z
  exact ⟨ga K nm, glo_ok X G z.1, z.2⟩
/-- a constant of the module: a tuple of integers -/
theorem globT {K : PySem.W.Frag} {h : Heap} {mg : Str → Option Value} (X : K.In h) (G : h.Ns mainGlobals mg) {x : Str} {is : List Int} (hg : (Fa.glo x).ok K = true) (ht : tupB K x (is.map Dv.int) = true) : MK.GlobD K mg x (.tuple (is.map .int)) := by
  refine ⟨_, .ref (ga K x), glo_ok X G hg, rfl, fun g H => ?_⟩
  have t := tupB_ok ht H
  refine MK.RD.tup t ?_
  rw [List.map_map]
  clear ht t
  induction is with
  | nil => exact .nil
  | cons i is ih => exact .cons (.int i) ih
theorem globI {K : PySem.W.Frag} {h : Heap} {mg : Str → Option Value} (X : K.In h) (G : h.Ns mainGlobals mg) {x : Str} {i : Int} (hg : (Fa.int x i).ok K = true) : MK.GlobD K mg x (.int i) := by
  obtain ⟨t, e⟩ := int_ok X G hg
  exact ⟨_, .int i, e, ⟨t, rfl⟩, fun g H => .int i⟩
end MKQ
set_option Elab.async false
set_option linter.all false
set_option maxRecDepth 100000
set_option maxHeartbeats 2000000
/-! MKv: the head's facts over all objects below a bound; the run in parts. -/
namespace MKQ
open PySem PySem.Spec PyProof.Rows L2 He
/-- all objects below n but lists and empty tables -/
def frN (g : Addr → Option Obj) (n : Nat) : PySem.W.Frag := (frT g (List.range n)).filter fun q => !isLst q.2
theorem frN_mem {g : Addr → Option Obj} {n : Nat} {a : Addr} {o : Obj} (h : (a, o) ∈ frN g n) : g a = some o ∧ emptyTab o = false := by
  unfold frN frT at h
  obtain ⟨h1, _⟩ := List.mem_filter.mp h
  obtain ⟨h3, h4⟩ := List.mem_filter.mp h1
  exact ⟨frG_mem h3, by simpa using h4⟩
theorem frN_in {h : Heap} {n : Nat} : PySem.W.Frag.In (frN h.get? n) h := fun a o e => (frN_mem (lookup_mem e)).1
theorem frN_none {g : Addr → Option Obj} {n : Nat} {a : Addr} {o : Obj} (q : g a = some o) (z : emptyTab o = true) : (frN g n).lookup a = none := by
  cases e : (frN g n).lookup a with
  | none => rfl
  | some u =>
    obtain ⟨h1, h2⟩ := frN_mem (lookup_mem e)
    rw [q] at h1
    cases h1
    rw [z] at h2
    cases h2
def obsN (n : Nat) (fa : List Fa) (fn : List DefD) (is : List InitD) (file : Str) (tf : List Defn) (ex : PySem.W.Frag → Bool) (g : Addr → Option Obj) : AlM :=
  (obsD fa fn (frN g n), (ex (frN g n) && (is.all (fun d => xtB (frN g n) d.nm d.fld file) && ((frN g n).all (fun q => !isLst q.2) && tabsB g tf (frN g n))), is.map fun d => initW (frN g n) d.nm))
theorem saysN_of {n : Nat} {fa : List Fa} {fn : List DefD} {is : List InitD} {file : Str} {tf : List Defn} {ex : PySem.W.Frag → Bool} {h : Heap} (e : obsN n fa fn is file tf ex h.get? = valM fn is) : Says fa fn is file tf ex h (frN h.get? n) := by
  have e1 : obsD fa fn (frN h.get? n) = valD fn := congrArg (fun z : AlM => z.1) e
  have e2 : (ex (frN h.get? n) && (is.all (fun d => xtB (frN h.get? n) d.nm d.fld file) && ((frN h.get? n).all (fun q => !isLst q.2) && tabsB h.get? tf (frN h.get? n)))) = true := congrArg (fun z : AlM => z.2.1) e
  have e3 : (is.map fun d => initW (frN h.get? n) d.nm) = is.map InitD.val := congrArg (fun z : AlM => z.2.2) e
  obtain ⟨h1, h2⟩ := ba e2
  obtain ⟨h3, h4⟩ := ba h2
  obtain ⟨h5, h6⟩ := ba h4
  have key : ∀ p ∈ tf, PySem.W.codeHdIn (frN h.get? n) (cT (frN h.get? n) p).1 (cT (frN h.get? n) p).2 = true ∧ ∃ o, h.get? (cT (frN h.get? n) p).2 = some o ∧ emptyTab o = true := fun p hp => by
    obtain ⟨k1, k2⟩ := ba (List.all_eq_true.mp h6 p hp)
    refine ⟨k1, ?_⟩
    cases q : h.get? (cT (frN h.get? n) p).2 with
    | none =>
      rw [q] at k2
      cases k2
    | some o =>
      rw [q] at k2
      exact ⟨o, rfl, k2⟩
  refine ⟨e1, h1, fun d hd => ⟨List.all_eq_true.mp h3 d hd, ?_⟩, fun a o lk hc => ?_, fun p hp => (key p hp).1, fun p hp => ?_, fun p hp => ?_⟩
  · obtain ⟨i, hi, e⟩ := List.mem_iff_getElem.mp hd
    have z : (is.map fun d => initW (frN h.get? n) d.nm)[i]? = (is.map InitD.val)[i]? := by rw [e3]
    rw [List.getElem?_map, List.getElem?_map, List.getElem?_eq_getElem hi, e] at z
    exact Option.some.inj z
  · have z := List.all_eq_true.mp h5 (a, o) (lookup_mem lk)
    unfold isLst at z
    simp only [hc] at z
    cases z
  · obtain ⟨_, o, q, z⟩ := key p hp
    exact frN_none q z
  · obtain ⟨_, o, q, z⟩ := key p hp
    rw [q, emptyTab_eq z]
def hookN (n : Nat) (fa : List Fa) (fn : List DefD) (is : List InitD) (file : Str) (tf : List Defn) (ex : PySem.W.Frag → Bool) : PySem.W.Hook where
  α := AlM
  obs := fun s => obsN n fa fn is file tf ex s.heap.get?
  val := fun _ => valM fn is
  says := fun _ h => ∃ K : PySem.W.Frag, K.In h ∧ Says fa fn is file tf ex h K
  of := fun _ _ e => ⟨_, frN_in, saysN_of e⟩
  keeps := fun _ _ _ ⟨K, hK, c⟩ k => ⟨K, PySem.W.Frag.In.keeps hK k, ⟨c.d, c.more, c.init, c.nol, c.hd, c.out, fun p hp => k _ _ (c.empty p hp)⟩⟩
theorem obsN_eq {n : Nat} {fa : List Fa} {fn : List DefD} {is : List InitD} {file : Str} {tf : List Defn} {ex : PySem.W.Frag → Bool} {g : Addr → Option Obj} {s : Shared} (h : ∀ a, g a = s.heap.get? a) : obsN n fa fn is file tf ex g = (hookN n fa fn is file tf ex).obs s := by
  have e : g = s.heap.get? := funext h
  rw [e] <;> rfl
/-! ### the run in parts -/
theorem map_pair {α β γ : Type} {o : Option α} {A : α → β} {B : α → γ} {a : β} {b : γ} (h1 : o.map A = some a) (h2 : o.map B = some b) : o.map (fun x => (A x, B x)) = some (a, b) := by
  cases o with
  | none => cases h1
  | some x =>
    cases h1
    cases h2
    rfl
theorem run_parts {α β γ δ ε : Type} {o : Option α} {A : α → β} {B : α → γ} {C : α → δ} {D : α → ε} {a : β} {b : γ} {c : δ} {d : ε} (h1 : o.map (fun x => (A x, B x)) = some (a, b)) (h2 : o.map C = some c) (h3 : o.map D = some d) :
    o.map (fun x => (A x, B x, (C x, D x))) = some (a, b, (c, d)) := by
  cases o with
  | none => cases h1
  | some x =>
    cases h1
    cases h2
    cases h3
    rfl
end MKQ
set_option Elab.async false
set_option linter.all false
set_option maxRecDepth 100000
set_option maxHeartbeats 2000000
/-! MKr: the law's walk from its mirror. -/
namespace MKQ
open PySem PySem.Spec PyProof.Rows L2 He MK
/-- what is to be told at the law's call -/
structure LawM (P : Program) (w : World) (k n : Nat) (x : Str) (mg : Str → Option Value) (fa : Addr) (h : Heap) (K : PySem.W.Frag) (T : Tb) (fd : FuncData) (cs : List (Addr × Addr)) (V : Fm) : Prop where
  KX : K.In h
  nol : ∀ (a : Addr) (o : Obj), K.lookup a = some o → o.cls = .type "list" → False
  empty : ∀ p ∈ cs, h.get? p.2 = some { cls := .none, data := .fields #[] }
  out : ∀ p ∈ cs, K.lookup p.2 = none
  hd : ∀ p ∈ cs, PySem.W.codeHdIn K p.1 p.2 = true
  tb : ∀ p ∈ T.T, p.1 ∈ cs.map (·.2)
  bind : ∀ (s : Shared) (u : Value), BindsTo s fd ⟨[u], []⟩ [(x, u)]
  ok : ∀ base : Heap, K.In base → base.Ns mainGlobals mg → (∀ p ∈ cs, LamX.TabB base mg p.1 p.2) → FnOkG P w K mg base k fa fd [x] (@tSp T K mg V)
  law : ∀ ns : List Int, ns.length ≤ n → ∃ h', V [.val (.list (ns.map .int))] [] = .ok (.val (.bool true)) h'
theorem ints_RDs [Tb] {K : PySem.W.Frag} {g : Gh} {H : Hp} : ∀ ns : List Int, RDs K g H (ns.map V.int) (ns.map PyData.int)
  | [] => .nil
  | n :: ns => .cons (.int n) (ints_RDs ns)
theorem hsp_of [Tb] {K : PySem.W.Frag} {mg : Str → Option Value} {cs : List (Addr × Addr)} {a : Addr} {vs : List Value} {ns : List Int} {h : Heap} {V : Fm} {h' : Hm} (L : LawHeap K mg cs a vs h) {s : Shared} (es : s.heap = h) (tb : ∀ p ∈ Tb.T, p.1 ∈ cs.map (·.2)) (e : V [.val (.list (ns.map .int))] [] = .ok (.val (.bool true)) h') :
    tSp K mg V [.ref a] (lawH cs a vs ns) (fun v _ => v = .bl true) fun _ _ _ => False := by
  subst es
  refine ⟨⟨[], [], []⟩, [.val (.list (ns.map .int))], ?_, ?_, ?_⟩
  · refine Sim.mk rfl (fun n c a h _ => ?_) (fun n m a h _ => ?_) (fun n a h => ?_) (fun a h => ?_) (fun n a h => ?_) (fun p hp => ?_)
    · cases (show (none : Option (Option Cell)) = _ from h)
    · cases (show (none : Option Addr) = _ from h)
    · cases (show (none : Option Addr) = _ from h)
    · cases h
    · cases (show (none : Option Addr) = _ from h)
    · exact ⟨#[], L.at_ (tb p hp), by first | trivial | exact .nil | simp [LamX.TriplesOk] | decide, fun pos cv z => by cases z⟩
  · refine .cons ?_ .nil
    refine RD.lst ⟨?_, ?_⟩ (ints_RDs ns)
    · exact .inr ⟨_, lawH_a⟩
    · rintro (⟨n, c, z, _⟩ | z)
      · cases (show (none : Option (Option Cell)) = _ from z)
      · cases z
  · show Out K mg _ _ _ (V [.val (.list (ns.map .int))] []) _
    rw [e]
    intro g' H' _ S' L' v rv
    cases rv
    rfl
theorem walk_ofG {l : PySem.W.OpenLaw} {n k : Nat} {q : Program} {loose : List Str} {XP : (Str → Option Value) → Heap → Prop} {YP : World → Heap → Prop} {d : DefRec} {x : Str}
    (hn : l.most = some n) (hn2 : n ≤ sizeLine) (hdf : d.params.defaults = []) (hr : Room k callerA)
    (F : ∀ (w : World) (mg : Str → Option Value) (fa : Addr) (h : Heap), YP w h → h.Ns mainGlobals mg → mg d.name = some (.ref fa) → ∃ (K : PySem.W.Frag) (T : Tb) (fd : FuncData) (cs : List (Addr × Addr)) (V : Fm), LawM l.prog w k n x mg fa h K T fd cs V) :
    PySem.W.WalkO q loose XP YP l.row.toRowW d [] (fun f vs => PySem.call f vs) := by
  refine Att.attach_callB hn hdf fun w s₀ s₁ mg mb fa o pm cd doc a vs ns G Y ho hd hcd hmg hobj hints hlen hbits hg => ?_
  obtain ⟨K, T, fd, cs, V, M⟩ := F w mg fa _ Y G.T.g hmg
  haveI : Tb := T
  have L : LawHeap K mg cs a vs s₁.heap := ⟨M.KX, G.T.g, ⟨mb, G.T.b, G.T.builtins⟩, G.T.nolimit, M.empty, M.out, fun p hp => PySem.W.codeHd_of_K M.KX (M.hd p hp), G.T.bmain, hobj, by
    cases q : K.lookup a with
    | none => rfl
    | some u =>
      have e := M.KX a u q
      rw [hobj] at e
      cases e
      exact (M.nol a _ q rfl).elim⟩
  refine law_callG L hints (Nat.le_trans hlen hn2) hg hr M.ok M.bind ?_
  obtain ⟨h', e⟩ := M.law ns hlen
  exact @hsp_of T K mg cs a vs ns s₁.heap V h' L s₁ rfl M.tb e
end MKQ
set_option Elab.async false
set_option linter.all false
set_option maxRecDepth 100000
set_option maxHeartbeats 1000000
/-! MKy: more rules: a list backwards, a truth less a truth. -/
namespace MK
open PySem PySem.Spec PyProof.Rows L2 LamX
variable {cz : Cxx} [Tb]
section
variable {X : Cx} {E : XK} {K : PySem.W.Frag} {mg : Mg} {a b e : Expr} {ma mb : Em} {pos : Pos}
theorem RDs.reverse {g : Gh} {H : Hp} : ∀ {vs : List V} {ds : List PyData}, RDs K g H vs ds → RDs K g H vs.reverse ds.reverse
  | _, _, .nil => .nil
  | _, _, .cons r t => by
    rw [List.reverse_cons, List.reverse_cons]
    exact (RDs.reverse t).append (.cons r .nil)
def fRev (o : Bool) (x : SV) : Mm SV := mB (mLs x) fun xs => mNew o xs.reverse
theorem me_rev {o : Bool} {k : Nat} {p1 p2 p3 : Pos} (ha : ME X E a ma) : ME X E (.Subscript a (.Slice none none (some (.UnaryOp .USub (.Constant (.int 1) k p1) p2)) p3) pos) (eOp1 (fRev o) ma) := by
  refine PEwk (L2.pe_revL ha) fun σ H Q ⟨g, ρ, S, V, out⟩ => ?_
  refine ⟨g, ρ, S, V, out.bind.mono fun dx g1 H1 S1 L1 o1 v rv => ?_⟩
  obtain ⟨p, vs, xs, e, r, h, o2⟩ := ls_of S1 rv o1.bind
  exact ⟨p, vs, e, .inl h, fun p hp => new_list S1 r.reverse hp o2⟩
/-- a difference of two truths, or of two numbers -/
def fSubB : SV → SV → Mm SV := fun x y => match x, y with
  | .val (.bool p), .val (.bool q) => vI (b2i p - b2i q)
  | x, y => fSub x y
theorem op_subB : OpR X (binaryOp .Sub) (fun x y H Q => ∃ p q, x = .bl p ∧ y = .bl q ∧ Q (.int (b2i p - b2i q)) H) := by
  intro pins s σ H x y v u Q I rx ry h
  obtain ⟨p, q, rfl, rfl, hq⟩ := h
  obtain rfl : v = Value.bool p := rx
  obtain rfl : u = Value.bool q := ry
  refine sub_bool ?_
  exact ⟨.int (b2i p - b2i q), H, I.tok _, ⟨_, rfl⟩, hq⟩
theorem s2_subB : S2 K cz mg E (fun x y H Q => (rI0 fun i j => .int (i - j)) x y H Q ∨ (∃ p q, x = .bl p ∧ y = .bl q ∧ Q (.int (b2i p - b2i q)) H)) fSubB := by
  intro g H x y dx dy Q S rx ry out
  unfold fSubB at out
  split at out
  · cases rx
    cases ry
    exact .inr ⟨_, _, rfl, rfl, vI_out S out⟩
  · exact .inl (s2_sub g H x y _ _ Q S rx ry out)
theorem me_subB (ha : ME X E a ma) (hb : ME X E b mb) : ME X E (.BinOp a .Sub b pos) (eOp2 fSubB ma mb) := me_op (op_sub.or op_subB) s2_subB ha hb
end
section
variable {X : Cx} {E : XK} {e : Expr} {es : List Expr} {ms : Am} {pos p : Pos} {x : Str} {k n : Nat} {F : Fm}
theorem me_callGI (D : FnDG X.prog X.w X.K X.mg X.base k x F) (hgd : X.A.guards = some []) (hr : Room k X.A) (hg : Gl X x) (hx : Passes (L2N.CX X.prog X.w) X E) (ha : MA X E (e :: es) ms)
    (hdb : (x == ("__debug__" : Str)) = false := by decide) (he : starEach (e :: es) X.env = (false, eval e X.env) :: starEach es X.env := by rfl) (hpl : (backTo pos (starEach es X.env)).any (·.1) = false := by rfl) :
    ME X E (.Call (.Name x p) (e :: es) [] pos) (eCallI F ms) := by
  obtain ⟨f, fd, ps, ok, hm, hk, hb⟩ := D.ex
  refine ⟨fun pins s σ H Q I ⟨g, ρ, S, V, o⟩ => ?_⟩
  refine wpAny_Call_Name_kw (ld_glob I hg hm ?_ hdb)
  refine PySem.W.callWith_K (h₀ := X.base) I.ok.mod.kin hk (thn (ha.run pos pins s σ H (fun vs H1 => ∃ g1 ds, Sim X.K g1 H1 ∧ RSVs X.K (cx X) g1 H1 vs ds ∧ Out X.K X.mg E g1 H1 (mB (guard (ds.all isVal)) (fun _ => iso (F ds)) g1.cs) fun d g' H' => ∀ v, RSV X.K (cx X) g' H' v d → Q v H') I
    ⟨g, ρ, S, V, o.bind.mono fun ds g1 H1 S1 L1 o1 vs rs => ⟨g1, ds, S1, rs, o1⟩⟩) fun us s1 ⟨vs, H1, I1, r1, g1, ds, S1, rs, o1⟩ => ⟨I1.kIn, ?_⟩) he hpl
  obtain ⟨c, o1⟩ := guard_of S1 o1.bind
  show wpAny _ _ (call (.ref f) us) _ _ _
  have sp : tSp X.K X.mg F vs H1 Q E := ⟨bare0 g1, ds, S1.bare, rs.bare c, Out.iso S1 (o1.mono fun d g2 H2 S2 L2 q v r => q v r.all)⟩
  have b := hb s1 us I1.kIn (by rw [List.append_nil, ← r1.length]; exact ok.len _ _ _ _ sp)
  rw [List.append_nil] at b
  refine wpAny_call (codeAny_mono (ok.run X.A X.stack s1 H1 ⟨us, []⟩ us vs Q E hgd hr I1.env0 b r1 sp) fun r s' hq => ?_)
  cases r with
  | error e => exact hx pins σ H1 s1 e s' I1 hq
  | ok fl =>
    cases fl with
    | ret u => exact I1.after hq
    | next => exact False.elim hq
    | brk => exact False.elim hq
    | cont => exact False.elim hq
end
/-! ### sorted: tuples (the first one empty, or none empty), or things that are no tuples -/
section
open PySem.W
def isTup1 : PyData → Bool
  | .tuple (_ :: _) => true
  | _ => false
def noTup : PyData → Bool
  | .tuple _ => false
  | .none => false
  | _ => true
def sKind (ds : List PyData) : Bool := (match ds with
  | .tuple [] :: _ => ds.all isTup
  | _ => false) || (ds.all isTup1 || ds.all noTup)
def srtOk2 (ds : List PyData) : Bool := sKind ds && ((ds.all fun d => ds.all fun e => alike d e) && ((ds.all fun d => decide (d.depth ≤ 10)) && decide (ds.length ≤ 10000)))
def bSorted2 : SV → Mm SV
  | .val (.list ds) => mB (guard (srtOk2 ds)) fun _ => mP (.val (.list (isort (dataLe false id) ds)))
  | _ => mStuck
def rSrt2 (K : PySem.W.Frag) : List V → Hp → VK → Prop := fun xs H Q => ∃ x g ds, xs = [x] ∧ RD K g H x (.list ds) ∧ srtOk2 ds = true ∧ ∀ ys p, H p = none → RDs K g H ys (isort (dataLe false id) ds) → Q (.ref p) (upd H p (.lst ys))
variable {X : Cx} {E : XK}
theorem call_srt2 (hu : X.A.units + 65 < cLine) : CallR X (.builtin "sorted") (rSrt2 X.K) := by
  intro pins s σ H vs us Q I r h
  obtain ⟨x, g, ds, rfl, rd, ok, q⟩ := h
  unfold srtOk2 at ok
  simp only [Bool.and_eq_true, List.all_eq_true, decide_eq_true_eq] at ok
  obtain ⟨o1, o2, o3, o4⟩ := ok
  cases rd with
  | @lst a xs _ h1 h2 =>
    obtain ⟨u, rfl, ru⟩ := vals1 r
    obtain rfl : u = Value.ref a := ru
    obtain ⟨its, rv, hl, hz⟩ := I.list h1.sq
    have e := each_of rv h2
    have er : EachIs (fun v b => ∃ as, Reads s.heap v b as) its ds := e.mono fun u d ⟨y, ry, rdy⟩ => reads_of I rdy ry
    have er' : EachIs (fun v b => ∃ as, Reads (sortingHeap (copyHeap s.heap its) (s.heap.objs.size + 1) its) v b as) its ds := er.mono fun _ _ ⟨as, r⟩ => ⟨as, PyProof.Rows.Reads.keeps (fun _ _ => sorting_copy_old) r⟩
    have hal : AllAlike ds := fun d hd d' hd' => o2 d hd d' hd'
    have tot : TotalLe (dataLe false (id : PyData → PyData)) := sortLe_total _ _ _
    have hdep : ∀ d, d ∈ ds → X.A.in1.in1.units + d.depth < cLine := fun d hd => by
      have := o3 d hd
      show X.A.units + 1 + 1 + d.depth < cLine
      omega
    refine sorted_vals (κ := dataKind (sortingHeap (copyHeap s.heap its) (s.heap.objs.size + 1) its) ds) hl.isList ?_ (by rw [← rv.length]; exact hz) ?_
    · unfold sKind at o1
      rw [Bool.or_eq_true, Bool.or_eq_true] at o1
      rcases o1 with o1 | o1 | o1
      · split at o1
        · rename_i rest0
          have ht : ∀ d ∈ rest0, ∃ xs, d = PyData.tuple xs := fun d hd => by
            have := List.all_eq_true.mp o1 d (List.mem_cons_of_mem _ hd)
            cases d <;> first | exact ⟨_, rfl⟩ | cases this
          cases er' with
          | cons r0 rest =>
            obtain ⟨as0, r0⟩ := r0
            exact SortsAt.tups r0 rest ht hal hdep
        · cases o1
      · refine SortsAt.data er' hal (.inl fun d hd => ?_) hdep
        have := List.all_eq_true.mp o1 d hd
        unfold isTup1 at this
        split at this
        · exact ⟨_, _, rfl⟩
        · cases this
      · refine SortsAt.data er' hal (.inr fun d hd => ?_) hdep
        have := List.all_eq_true.mp o1 d hd
        unfold noTup at this
        split at this
        · cases this
        · cases this
        · rename_i n1 n2
          exact ⟨n2, n1⟩
    · have out := sortVals_data (h' := sortingHeap (copyHeap s.heap its) (s.heap.objs.size + 1) its) (enc := id) false e er' (by rw [List.map_id]; exact hal)
      rw [List.map_id] at out
      rw [← isort_eq tot] at out
      obtain ⟨ys, rv2, rd2⟩ := of_each out
      obtain ⟨c, hc⟩ := sortedAll_at s.heap its (sortVals (dataKind (sortingHeap (copyHeap s.heap its) (s.heap.objs.size + 1) its) ds) false its its).toArray
      refine ⟨.ref (s.heap.objs.size + 1), upd H (s.heap.objs.size + 1) (.lst ys), I.laid (t' := s.toks) (fun b o z => sortedAll_old z) (Nat.le_succ _) ⟨?_, _, c, rv2, hc⟩, rfl, q ys _ (I.hok.fresh (Nat.le_succ _)) rd2⟩
      rw [rv2.length, sortVals_length false rfl, ← rv.length]
      exact hz
theorem bo_sorted2 (hu : X.A.units + 65 < cLine) : BltOk X E (.builtin "sorted") (b1 bSorted2) := by
  refine ⟨rSrt2 X.K, call_srt2 hu, fun g H vs ds Q S r o => ?_⟩
  cases r with
  | nil => exact o.elim
  | cons r1 t =>
    rename_i v vs d ds0
    cases t with
    | cons _ _ => exact o.elim
    | nil =>
      have o : Out X.K X.mg E g H (bSorted2 d g.cs) _ := o
      unfold bSorted2 at o
      split at o
      · obtain ⟨c, o⟩ := guard_of S o.bind
        refine ⟨v, g, _, rfl, r1, c, fun ys p hp rd => ?_⟩
        obtain ⟨q, S2, L2⟩ := Out.laid (u := .lst ys) S hp o
        exact q _ (RD.lst ⟨.inl upd_same, fun z => S.fresh_own hp z⟩ (rd.mono S L2))
      · exact o.stuck.elim
end
end MK
set_option Elab.async false
set_option linter.all false
set_option maxRecDepth 100000
set_option maxHeartbeats 1000000
/-! MKu: a comprehension over an owned list that stays as it is meanwhile. -/
namespace MK
open PySem PySem.Spec PyProof.Rows L2
variable {cz : Cxx} [Tb]
mutual
def pdB : PyData → PyData → Bool
  | .none, .none => true
  | .bool a, .bool b => a == b
  | .int a, .int b => a == b
  | .str a, .str b => a == b
  | .list a, .list b => pdsB a b
  | .tuple a, .tuple b => pdsB a b
  | _, _ => false
def pdsB : List PyData → List PyData → Bool
  | [], [] => true
  | a :: as, b :: bs => pdB a b && pdsB as bs
  | _, _ => false
end
mutual
theorem pdB_eq : ∀ {a b : PyData}, pdB a b = true → a = b
  | .none, b, h => by cases b <;> first | rfl | (simp [pdB] at h)
  | .bool x, b, h => by cases b <;> simp_all [pdB]
  | .int x, b, h => by cases b <;> simp_all [pdB]
  | .str x, b, h => by cases b <;> simp_all [pdB]
  | .list x, b, h => by
    cases b with
    | list y =>
      have q : pdsB x y = true := by simpa [pdB] using h
      rw [pdsB_eq q]
    | _ => simp [pdB] at h
  | .tuple x, b, h => by
    cases b with
    | tuple y =>
      have q : pdsB x y = true := by simpa [pdB] using h
      rw [pdsB_eq q]
    | _ => simp [pdB] at h
  | .dict x, b, h => by cases b <;> simp [pdB] at h
theorem pdsB_eq : ∀ {a b : List PyData}, pdsB a b = true → a = b
  | [], b, h => by cases b <;> first | rfl | (simp [pdsB] at h)
  | a :: as, b, h => by
    cases b with
    | nil => simp [pdsB] at h
    | cons b bs =>
      simp [pdsB] at h
      rw [pdB_eq h.1, pdsB_eq h.2]
end
/-- the owned list at n is still so -/
def cellB (n : Nat) (ds0 : List PyData) : Mm Unit := fun h => match h[n]? with
  | some (some (.lst ds)) => if pdsB ds ds0 then .ok () h else .stuck
  | _ => .stuck
theorem cellB_cases (n : Nat) (ds0 : List PyData) (h : Hm) : (cellB n ds0 h = .ok () h ∧ h[n]? = some (some (.lst ds0))) ∨ cellB n ds0 h = .stuck := by
  unfold cellB
  split
  · rename_i ds e
    split
    · rename_i q
      left
      exact ⟨rfl, by rw [e, pdsB_eq q]⟩
    · exact .inr rfl
  · exact .inr rfl
/-- what is walked: the cell, what it holds, the items -/
abbrev Icm := Ro → Mm (Nat × List PyData × List PyData)
mutual
def lcLoopC (n : Nat) (ds0 : List PyData) (t : Gm) (c : Tm) (e : Em) (ρ : Ro) : List PyData → Mm (List PyData)
  | [] => mB (cellB n ds0) fun _ => mP []
  | d :: ds => mB (cellB n ds0) fun _ => mB (t (.val d) ρ) fun ρ1 => mB (c ρ1) fun b => if b then mB (e ρ1) fun y => mB (mD y) fun yd => mB (lcLoopC n ds0 t c e ρ ds) fun r => mP (yd :: r) else lcLoopC n ds0 t c e ρ ds
end
def lcLoopD (n : Nat) (ds0 : List PyData) (t : Gm) (c : Tm) (e : Em) (ρ : Ro) : List PyData → Mm (List PyData)
  | [] => mP []
  | d :: ds => mB (t (.val d) ρ) fun ρ1 => mB (c ρ1) fun b => if b then mB (e ρ1) fun y => mB (mD y) fun yd => mB (lcLoopC n ds0 t c e ρ ds) fun r => mP (yd :: r) else lcLoopC n ds0 t c e ρ ds
def eLcC (o : Bool) (it : Icm) (t : Gm) (c : Tm) (e : Em) (vs : List Nat) : Em := fun ρ => mB (it ρ) fun q => mB (guard (decide (q.2.2.length ≤ 10000))) fun _ => mB (noX (lcLoopC q.1 q.2.1 t c e (wipeR (noExc ρ) vs) q.2.2)) fun xs => mNew o xs
def IEnC (K : PySem.W.Frag) (n : Nat) (ds0 : List PyData) (g0 : Gh) (J : It) (ds : List PyData) : Prop := ∀ g H, Sim K g H → (∀ a, g0.mu[n]? = some a → g.mu[n]? = some a) → g.cs[n]? = some (some (.lst ds0)) →
  (∀ (i : Nat) (d : PyData), ds[i]? = some d → J.go i H ∧ ∀ x H', J.yld i H x H' → Sim K g H' ∧ Le g H g H' ∧ RD K g H' x d) ∧ J.stop ds.length H
def tIC (K : PySem.W.Frag) (cz : Cxx) (mg : Mg) (E : XK) (m : Icm) : TI := fun σ H R => ∃ g ρ, Sim K g H ∧ EnvR K cz g H ρ σ ∧ Out K mg E g H (m ρ g.cs) fun q g' H' => ∀ J, (∃ a, g'.mu[q.1]? = some a) ∧ IEnC K q.1 q.2.1 g' J q.2.2 → R J H'
section
variable {X : Cx} {E : XK} {elt tg it : Expr} {ifs : List Expr} {mi : Im} {t : Gm} {tc : Tm} {te : Em} {pos : Pos} {scope : Scope} {own' : List (Str × Nat)} {o : Bool}
theorem lc_readC {ic : Icm} {vs : List Nat} {σ : L2.St} {H : Hp} {Q : VK} (q : tM X.K (cx X) X.mg E (eLcC o ic t tc te vs) σ H Q) : tLc (tIC X.K (cx X) X.mg E ic) (tG X.K none X.mg E0 vs t) (tT X.K none X.mg E0 tc) (tM X.K none X.mg E0 te) vs σ H Q := by
  obtain ⟨g, ρ, S, V, out⟩ := q
  refine ⟨g, ρ, S, V, out.bind.mono fun q g1 H1 S1 L1 o1 J en D hD => ?_⟩
  obtain ⟨n0, ds0, ds⟩ := q
  simp only at o1 en
  obtain ⟨hn1, en⟩ := en
  obtain ⟨c, o1⟩ := guard_of S1 o1.bind
  have hlen := of_decide_eq_true c
  have V1 := V.mono S L1
  have hDl : D ∉ g1.ex := fun z => by have := S1.exm D z; rw [hD] at this; exact this
  -- the whole loop
  have C0 : LoopC X.K (cx X) X.mg E g1 H1 o Q [] (lcLoopC n0 ds0 t tc te (wipeR (noExc ρ) vs) ds g1.cs) := by
    unfold mB noX at o1
    cases q : lcLoopC n0 ds0 t tc te (wipeR (noExc ρ) vs) ds g1.cs with
    | ok xs h' => rw [q] at o1; exact o1
    | exn x h' => rw [q] at o1; exact o1.elim
    | stuck => rw [q] at o1; exact o1.elim
  let Wp : Nat → Hp → Prop := fun i H => i ≤ ds.length ∧ ∃ g vacc acc, Sim X.K g H ∧ g.ex = D :: g1.ex ∧ Le g1 H1 ⟨g.mu, g.cs, g1.ex⟩ H ∧ H D = some (.lst vacc) ∧ RDs X.K g H vacc acc ∧ acc.length ≤ i ∧
    EnvR X.K none g H (wipeR (noExc ρ) vs) (wipe σ vs) ∧ LoopC X.K (cx X) X.mg E g1 H1 o Q acc (lcLoopC n0 ds0 t tc te (wipeR (noExc ρ) vs) (ds.drop i) g.cs)
  refine ⟨fun i m H => m = ds.length - i ∧ Wp i H, ⟨ds.length, by simp, Nat.zero_le _, ⟨g1.mu, g1.cs, D :: g1.ex⟩, [], [], S1.more hD trivial, rfl, (S1.laid hD).2, upd_same, .nil, Nat.zero_le _, (V1.noExc.wipe vs).up S1 hD, C0⟩, ?_⟩
  rintro i m H2 ⟨rfl, hi, g2, vacc, acc, S2, x2, L2, d2, r2, a2, V2, C2⟩
  have hDx : D ∈ g2.ex := by rw [x2]; exact List.mem_cons_self
  have nx : ∀ {x h}, ¬ LoopC X.K (cx X) X.mg E g1 H1 o Q acc (.exn x h) := fun z => z
  have ns : ¬ LoopC X.K (cx X) X.mg E g1 H1 o Q acc .stuck := fun z => z
  have C2' : ∃ r, lcLoopC n0 ds0 t tc te (wipeR (noExc ρ) vs) (ds.drop i) = r := ⟨_, rfl⟩
  obtain ⟨k2, C2⟩ : g2.cs[n0]? = some (some (.lst ds0)) ∧ LoopC X.K (cx X) X.mg E g1 H1 o Q acc (lcLoopD n0 ds0 t tc te (wipeR (noExc ρ) vs) (ds.drop i) g2.cs) := by
    have e : lcLoopC n0 ds0 t tc te (wipeR (noExc ρ) vs) (ds.drop i) = mB (cellB n0 ds0) fun _ => lcLoopD n0 ds0 t tc te (wipeR (noExc ρ) vs) (ds.drop i) := by
      cases ds.drop i <;> rfl
    rw [e] at C2
    unfold mB at C2
    rcases cellB_cases n0 ds0 g2.cs with ⟨z, z2⟩ | z
    · rw [z] at C2
      exact ⟨z2, C2⟩
    · rw [z] at C2
      exact C2.elim
  have en2 := en g2 H2 S2 (fun a ha => L2.pre n0 a ha) k2
  by_cases hlt : i < ds.length
  · right
    have hd : ds[i]? = some ds[i] := List.getElem?_eq_getElem hlt
    obtain ⟨go, yl⟩ := en2.1 i _ hd
    rw [List.drop_eq_getElem_cons hlt] at C2
    refine ⟨go, fun H' => Wp (i + 1) H', fun H' q => ⟨ds.length - (i + 1), by omega, rfl, q⟩, fun x H3 y3 => ?_⟩
    obtain ⟨S3, L3, r3⟩ := yl x H3 y3
    unfold lcLoopD at C2
    refine ⟨g2, wipeR (noExc ρ) vs, .val ds[i], S3, V2.mono S2 L3, r3, (Out.of (fun _ _ => nx) ns C2).mono fun ρ4 g4 H4 S4 L4 C4 σ4 V4 w4 => ?_⟩
    refine ⟨w4.trans wipe_wipe, g4, ρ4, S4, V4, (Out.of (fun _ _ => nx) ns C4).mono fun b g5 H5 S5 L5 C5 => ?_⟩
    have L35 := L3.trans (L4.trans L5)
    cases b with
    | false =>
      refine iteF ?_
      have d5 : H5 D = some (.lst vacc) := (L35.exk D hDx).trans d2
      exact ⟨hlt, g5, vacc, acc, S5, L35.exe.trans x2, L2.dropTrans rfl hD x2 L35, d5, r2.mono S2 L35, by omega, V2.mono S2 L35, C5⟩
    | true =>
      refine iteT ?_
      refine ⟨g5, ρ4, S5, V4.mono S4 L5, (Out.of (fun _ _ => nx) ns C5).mono fun y g6 H6 S6 L6 C6 v rv => ?_⟩
      have L36 := L35.trans L6
      have d6 : H6 D = some (.lst vacc) := (L36.exk D hDx).trans d2
      have x6 := L36.exe.trans x2
      have hDx6 : D ∈ g6.ex := by rw [x6]; exact List.mem_cons_self
      have r6 := r2.mono S2 L36
      refine ⟨vacc, d6, ?_, ?_⟩
      · rw [r6.length, sizeLine_eq]; omega
      · cases y with
        | ref n => exact C6.elim
        | rng l h => exact C6.elim
        | exc _ => exact C6.elim
        | val yd =>
          have C6 : LoopC X.K (cx X) X.mg E g1 H1 o Q acc (mB (lcLoopC n0 ds0 t tc te (wipeR (noExc ρ) vs) (ds.drop (i + 1))) (fun r => mP (yd :: r)) g6.cs) := C6
          refine ⟨hlt, g6, vacc ++ [v], acc ++ [yd], S6.exw hDx6 ⟨_, d6⟩ trivial, x6, ?_, upd_same, (r6.exw S6 hDx6).append (RDs.one (RD.exw S6 hDx6 rv)), by rw [List.length_append]; simp; omega, (V2.mono S2 L36).exw S6 hDx6, ?_⟩
          · have L26 := L2.dropTrans rfl hD x2 L36
            refine ⟨L26.pre, fun a u h t n => ?_, rfl, fun a ha => ?_, fun a h => ?_⟩
            · rw [upd_ne (ne_of_none h hD)]; exact L26.keep a u h t n
            · rw [upd_ne (show a ≠ D from fun z => hDl (by rw [← z]; exact ha))]; exact L26.exk a ha
            · rw [upd_ne (fun z => h.some (by rw [z]; exact hD))]; exact L26.trk a h
          · unfold mB at C6
            cases q : lcLoopC n0 ds0 t tc te (wipeR (noExc ρ) vs) (ds.drop (i + 1)) g6.cs with
            | ok xs h' =>
              rw [q] at C6
              have C6 : Out X.K X.mg E g1 H1 (mNew o (acc ++ (yd :: xs)) h') fun d g' H' => ∀ v, RSV X.K (cx X) g' H' v d → Q v H' := C6
              show Out X.K X.mg E g1 H1 (mNew o ((acc ++ [yd]) ++ xs) h') fun d g' H' => ∀ v, RSV X.K (cx X) g' H' v d → Q v H'
              rw [List.append_assoc]
              exact C6
            | exn x h' => rw [q] at C6; exact C6.elim
            | stuck => rw [q] at C6; exact C6.elim
  · left
    have e : i = ds.length := by omega
    rw [e, List.drop_length] at C2
    refine ⟨by rw [e]; exact en2.2, ?_⟩
    have C2 : Out X.K X.mg E g1 H1 (mNew o (acc ++ []) g2.cs) fun d g' H' => ∀ v, RSV X.K (cx X) g' H' v d → Q v H' := C2
    rw [List.append_nil] at C2
    cases o with
    | true =>
      refine C2 ⟨g2.mu ++ [D], g2.cs ++ [some (.lst acc)], g1.ex⟩ H2 rfl (S2.adopt x2 hDl d2 r2) ⟨fun n a h => ?_, fun a u h t n => ?_, rfl, L2.exk, L2.trk⟩ _ ⟨D, rfl, ?_⟩
      · show (g2.mu ++ [D])[n]? = some a
        have q := L2.pre n a h
        have q : g2.mu[n]? = some a := q
        rw [List.getElem?_append_left (List.getElem?_eq_some_iff.mp q).1]
        exact q
      · obtain ⟨h1, h2⟩ := L2.keep a u h t n
        exact ⟨h1, fun q => (own_drop x2 (adopt_own S2 x2 q)).elim h2 (ne_of_none h hD)⟩
      · show (g2.mu ++ [D])[g2.cs.length]? = some D
        rw [← S2.len, List.getElem?_append_right (Nat.le_refl _), Nat.sub_self]
        rfl
    | false =>
      refine C2 ⟨g2.mu, g2.cs, g1.ex⟩ H2 rfl (S2.less x2) L2 _ (RD.lst ⟨.inl d2, fun q => ?_⟩ (r2.less x2))
      rcases q with ⟨n, c', _, h2⟩ | q
      · exact S2.exn n D h2 hDx
      · exact hDl q

end
/-! ### what is walked -/
def mCell : SV → Mm (Nat × List PyData)
  | .ref n => fun h => match h[n]? with
    | some (some (.lst xs)) => .ok (n, xs) h
    | _ => .stuck
  | _ => mStuck
def iEnumC (a : Em) : Icm := fun ρ => mB (a ρ) fun d => mB (mCell d) fun q => mP (q.1, q.2, enumD 0 q.2)
def iSeqC (a : Em) : Icm := fun ρ => mB (a ρ) fun d => mB (mCell d) fun q => mP (q.1, q.2, q.2)
section
variable {K : PySem.W.Frag} {mg : Mg} {E : XK} {g : Gh} {H : Hp}
theorem cell_of {d : SV} {v : V} {P : Nat × List PyData → Gh → Hp → Prop} (S : Sim K g H) (r : RSV K cz g H v d) (o : Out K mg E g H (mCell d g.cs) P) :
    ∃ n a xs, v = .ref a ∧ g.mu[n]? = some a ∧ g.cs[n]? = some (some (.lst xs)) ∧ P (n, xs) g H := by
  unfold mCell at o
  cases d with
  | rng l h => exact o.elim
  | exc _ => exact o.elim
  | val d => exact o.elim
  | ref n =>
    obtain ⟨a, e2, e3⟩ := r
    cases q : g.cs[n]? with
    | none => simp only [q] at o; exact o.elim
    | some oc =>
      cases oc with
      | none => simp only [q] at o; exact o.elim
      | some cc =>
        cases cc with
        | lst ds =>
          simp only [q] at o
          exact ⟨n, a, ds, e2, e3, q, o g H rfl S (Le.refl _ _)⟩
theorem ienC_src {n : Nat} {a : Addr} {xs : List PyData} (ha : g.mu[n]? = some a) : IEnC K n xs g (ItsS K false a) xs := by
  intro g' H' S k c
  obtain ⟨vs, hq0, r⟩ := S.cell n _ a c (k a ha)
  have hq : SqS false K H' a vs := .inl (.inl hq0)
  have hl := r.length
  refine ⟨fun i d hd => ?_, ⟨vs, hq, by omega⟩⟩
  obtain ⟨v, hv, rv⟩ := r.get hd
  refine ⟨⟨vs, v, hq, hv⟩, fun x H2 ⟨e, hy⟩ => ?_⟩
  subst e
  have := hy vs hq
  rw [hv] at this
  cases this
  exact ⟨S, Le.refl _ _, rv⟩
theorem ienC_enum {n : Nat} {a : Addr} {xs : List PyData} (ha : g.mu[n]? = some a) : IEnC K n xs g (IteS K false a) (enumD 0 xs) := by
  intro g' H' S k c
  obtain ⟨vs, hq0, r⟩ := S.cell n _ a c (k a ha)
  have hq : SqS false K H' a vs := .inl (.inl hq0)
  have hl := r.length
  refine ⟨fun i e he => ?_, ⟨vs, hq, by rw [enumD_length]; exact hl⟩⟩
  obtain ⟨d, hd, ee⟩ := enumD_get 0 xs i e he
  obtain ⟨v, hv, rv⟩ := r.get hd
  refine ⟨⟨vs, v, hq, hv⟩, fun x H2 ⟨T, y, ex, hT, eH, hy⟩ => ?_⟩
  have := hy vs hq
  rw [hv] at this
  cases this
  obtain ⟨S', L'⟩ := S.laid (o := .tup [.int (i : Nat), v]) hT
  subst ex eH ee
  refine ⟨S', L', .tup (.inl (.inl upd_same)) (.cons ?_ (.cons (rv.mono S L') .nil))⟩
  rw [Nat.zero_add]
  exact .int _
end
section
variable {X : Cx} {E : XK} {tg it e elt : Expr} {elts ifs : List Expr} {kk : Nat} {tpos p pos : Pos} {ma : Em} {ic : Icm} {t : Gm} {tc : Tm} {te : Em} {scope : Scope} {o : Bool}
abbrev MIC (X : Cx) (E : XK) (tg it : Expr) (m : Icm) : Prop := PI X tg it (tIC X.K (cx X) X.mg E m)
theorem mic_seq (ha : ME X E e ma) : MIC X E tg e (iSeqC ma) := by
  refine PIwk (pi_src ha) fun σ H R ⟨g, ρ, S, V, o⟩ => ?_
  refine ⟨g, ρ, S, V, o.bind.mono fun d g1 H1 S1 L1 o1 v rv => ?_⟩
  obtain ⟨n, a, xs, ev, hm, hc, P⟩ := cell_of S1 rv o1.bind
  obtain ⟨vs, hq, _⟩ := S1.cell n _ a hc hm
  exact ⟨false, a, vs, ev, .inl (.inl hq), P.pure S1 _ ⟨⟨a, hm⟩, ienC_src hm⟩⟩
theorem mic_enum (hm : X.mg "enumerate" = none) (ha : ME X E e ma) (hg : Gl X "enumerate" := by rfl) (hs : starEach [e] X.env = [(false, eval e X.env)] := by rfl) : MIC X E (.Tuple elts kk tpos) (.Call (.Name "enumerate" p) [e] [] pos) (iEnumC ma) := by
  refine PIwk (pi_enumS hg hm (pa_cons ha pa_nil hs) hs) fun σ H R ⟨g, ρ, S, V, o⟩ => ?_
  refine ⟨g, ρ, S, V, o.bind.mono fun d g1 H1 S1 L1 o1 v rv => ?_⟩
  obtain ⟨n, a, xs, ev, hm, hc, P⟩ := cell_of S1 rv o1.bind
  obtain ⟨vs, hq, _⟩ := S1.cell n _ a hc hm
  exact ⟨false, a, vs, by rw [ev], .inl (.inl hq), P.pure S1 _ ⟨⟨a, hm⟩, ienC_enum hm⟩⟩
theorem mlcC (own' : List (Str × Nat)) (hN : X.N.Nodup) (hi : MIC X E tg it ic)
    (hg : ∀ (s : Shared) (H : Hp) (C : Addr) (cl : List (Str × Addr)) (fp : List Addr), MG (X.blk s H scope (compEnvC scope cl C X.env) fp) E0 (own'.map (·.2)) tg t)
    (ht : ∀ (s : Shared) (H : Hp) (C : Addr) (cl : List (Str × Addr)) (fp : List Addr), MTs (X.blk s H scope (compEnvC scope cl C X.env) fp) E0 ifs tc)
    (he : ∀ (s : Shared) (H : Hp) (C : Addr) (cl : List (Str × Addr)) (fp : List Addr), ME (X.blk s H scope (compEnvC scope cl C X.env) fp) E0 elt te)
    (ok : blkC X.N X.env.scope scope own' = true := by rfl) (hc : X.calm = true := by rfl) (hs : ∀ x, foldedSetIterable it X.env x = pure x := by intro _; rfl) : ME X E (.ListComp elt [⟨tg, it, ifs, 0⟩] scope pos) (eLcC o ic t tc te (own'.map (·.2))) := by
  exact PEwk (pe_lc (g := tG X.K none X.mg E0 (own'.map fun p : Str × Nat => p.2) t) (tt := tT X.K none X.mg E0 tc) (te := tM X.K none X.mg E0 te) hc hN hi (blkOk_by ok) hg ht he hs) fun σ H Q q => lc_readC q
end
end MK
set_option Elab.async false
set_option linter.all false
set_option maxRecDepth 100000
set_option maxHeartbeats 4000000
namespace GL
open PySem PySem.Spec PyProof.Rows L2 LamX MK
variable [Tb]
def top (i : Nat) : Stmt := PySem.Challenge.pw_trialways_k84_further_plots_refused.main.body.getD i (.Pass ⟨0, 0, 0, 0⟩)
def frees : List Str := ["LookupError", "ValueError", "abs", "all", "any", "bool", "divmod", "enumerate", "int", "isinstance", "len", "list", "max", "min", "range", "repr", "sorted", "tuple", "zip"]
def sd_nms : List Str := ["InvalidNumber", "InvalidQuestion", "InvalidRows", "InvalidTrial", "Unfit", "NotTold"]
def t_InvalidNumber : List (Str × Bool) := [("InvalidNumber", true), ("InvalidQuestion", false), ("InvalidRows", false), ("InvalidTrial", false), ("Unfit", false), ("NotTold", false)]
def t_InvalidQuestion : List (Str × Bool) := [("InvalidNumber", false), ("InvalidQuestion", true), ("InvalidRows", false), ("InvalidTrial", false), ("Unfit", false), ("NotTold", false)]
def t_InvalidRows : List (Str × Bool) := [("InvalidNumber", false), ("InvalidQuestion", false), ("InvalidRows", true), ("InvalidTrial", false), ("Unfit", false), ("NotTold", false)]
def t_InvalidTrial : List (Str × Bool) := [("InvalidNumber", false), ("InvalidQuestion", false), ("InvalidRows", false), ("InvalidTrial", true), ("Unfit", false), ("NotTold", false)]
def t_LookupError : List (Str × Bool) := [("InvalidNumber", false), ("InvalidQuestion", false), ("InvalidRows", false), ("InvalidTrial", false), ("Unfit", false), ("NotTold", false)]
def t_NotTold : List (Str × Bool) := [("InvalidNumber", false), ("InvalidQuestion", false), ("InvalidRows", false), ("InvalidTrial", false), ("Unfit", false), ("NotTold", true)]
def t_Unfit : List (Str × Bool) := [("InvalidNumber", false), ("InvalidQuestion", false), ("InvalidRows", false), ("InvalidTrial", false), ("Unfit", true), ("NotTold", false)]
def t_ValueError : List (Str × Bool) := [("InvalidNumber", true), ("InvalidQuestion", true), ("InvalidRows", true), ("InvalidTrial", true), ("Unfit", true), ("NotTold", true)]
def g_given : List Str := ["InvalidNumber", "InvalidQuestion", "InvalidTrial", "Unfit"]
def g_index : List Str := ["InvalidRows"]
abbrev st__law_pool : Stmt := top 105
abbrev st__law_below : Stmt := top 106
abbrev st__law_one : Stmt := top 107
abbrev st__law_said : Stmt := top 108
abbrev st_is_whole : Stmt := top 10
abbrev st_is_between : Stmt := top 11
abbrev st_are_blocks : Stmt := top 32
abbrev st_is_tuple_of : Stmt := top 12
abbrev st_is_ratio : Stmt := top 16
abbrev st_is_row : Stmt := top 27
abbrev st_are_plots : Stmt := top 33
abbrev st_is_trial_by : Stmt := top 34
abbrev st_check_trial : Stmt := top 43
abbrev st_many_unknowns : Stmt := top 35
abbrev st_is_question_by : Stmt := top 38
abbrev st_check_question : Stmt := top 44
abbrev st_check_asked : Stmt := top 45
abbrev st_is_plot_more : Stmt := top 72
abbrev st_wrong_in_candidates : Stmt := top 83
abbrev st_check_candidates : Stmt := top 93
abbrev st_check_many : Stmt := top 46
abbrev st_many_plots : Stmt := top 36
abbrev st_check_room : Stmt := top 94
abbrev st_ratio : Stmt := top 17
abbrev st_over : Stmt := top 21
abbrev st_minus : Stmt := top 19
abbrev st_times : Stmt := top 20
abbrev st_without_column : Stmt := top 48
abbrev st_brought : Stmt := top 49
abbrev st_some_answer : Stmt := top 50
abbrev st_turned : Stmt := top 51
abbrev st_many_levels : Stmt := top 37
abbrev st_whole_question : Stmt := top 40
abbrev st_whole_rows : Stmt := top 39
abbrev st_fair_by : Stmt := top 77
abbrev st_check_told : Stmt := top 91
abbrev st_check_further : Stmt := top 95
abbrev st_plot_lots : Stmt := top 75
abbrev st_is_less : Stmt := top 24
abbrev st_plus : Stmt := top 18
abbrev st_total : Stmt := top 25
abbrev st_dot : Stmt := top 26
abbrev st_normal_rows : Stmt := top 78
abbrev st_parted_world : Stmt := top 41
abbrev st_load_by : Stmt := top 79
abbrev st_least_by : Stmt := top 80
abbrev st_grown : Stmt := top 73
abbrev st_trial_more : Stmt := top 84
abbrev st_spread_more : Stmt := top 85
abbrev st_best_lot_by : Stmt := top 86
abbrev st_best_lot : Stmt := top 96
abbrev st_step_lot_by : Stmt := top 87
abbrev st_step_by_step : Stmt := top 97
abbrev st_spread_further : Stmt := top 98
abbrev st_best_lot_paper : Stmt := top 101
abbrev st_certify_best_lot : Stmt := top 103
abbrev st__law_told_all : Stmt := top 109
abbrev st_noughts_table : Stmt := top 61
abbrev st_blocks_of : Stmt := top 54
abbrev st_as_table : Stmt := top 60
abbrev st_added : Stmt := top 58
abbrev st_outer : Stmt := top 57
abbrev st_lessened : Stmt := top 59
abbrev st_heft_of : Stmt := top 53
abbrev st_heavy_row : Stmt := top 56
abbrev st_heft_sum : Stmt := top 55
abbrev st_table_by : Stmt := top 62
abbrev st_sign_of : Stmt := top 23
abbrev st_letters_taken : Stmt := top 65
abbrev st_low_row : Stmt := top 66
abbrev st_opposite : Stmt := top 22
abbrev st_put_back : Stmt := top 64
abbrev st_squares_or_below_by : Stmt := top 67
abbrev st_table_gap : Stmt := top 68
abbrev st_question_of : Stmt := top 69
abbrev st_compared_by : Stmt := top 70
abbrev st_is_good_for : Stmt := top 88
abbrev st_best_for_all_by : Stmt := top 89
abbrev st_best_for_all : Stmt := top 99
abbrev st__law_right : Stmt := top 110
abbrev st_law : Stmt := top 111
structure Wd (P : Program) (K : PySem.W.Frag) (mg : Str → Option Value) : Prop where
  fr : ∀ x ∈ frees, mg x = none
  gcd : mg "gcd" = some (.builtin "math.gcd")
  g_MOST_BLOCK : GlobD K mg "MOST_BLOCK" (.int 4)
  g_MOST_CANDIDATES : GlobD K mg "MOST_CANDIDATES" (.int 8)
  g_MOST_PLOTS : GlobD K mg "MOST_PLOTS" (.int 10)
  g_MOST_UNKNOWNS : GlobD K mg "MOST_UNKNOWNS" (.int 5)
  g_ONE : GlobD K mg "ONE" (.tuple [.int 1, .int 1])
  g_ZERO : GlobD K mg "ZERO" (.tuple [.int 0, .int 1])
  e_InvalidNumber : ∃ C fI, PySem.MKX.XTxt P K mg "InvalidNumber" "given" C fI
  e_InvalidQuestion : ∃ C fI, PySem.MKX.XTxt P K mg "InvalidQuestion" "given" C fI
  e_InvalidRows : ∃ C fI, PySem.MKX.XTxt P K mg "InvalidRows" "index" C fI
  e_InvalidTrial : ∃ C fI, PySem.MKX.XTxt P K mg "InvalidTrial" "given" C fI
  e_Unfit : ∃ C fI, PySem.MKX.XTxt P K mg "Unfit" "given" C fI
  e_NotTold : ∃ C, mg "NotTold" = some (.ref C) ∧ PySem.W.excIn K C He.veBase "ValueError.__new__" = true ∧ PySem.W.keepIn K (.ref C) = true ∧ PySem.W.subIn K (.ref C) (.type "BaseException") = some true ∧ PySem.W.typeIn K (.ref C) = some (.type "type")
  s_cls : ∃ CS, mg "TrialError" = some (.ref CS) ∧ ∀ nm ∈ sd_nms, ∃ C, mg nm = some (.ref C) ∧ PySem.W.exmOne K (.ref C) (.ref CS) = some true
  i_InvalidNumber : ∃ D, mg "InvalidNumber" = some (.ref D) ∧ IsTab K mg (.ref D) t_InvalidNumber
  i_InvalidQuestion : ∃ D, mg "InvalidQuestion" = some (.ref D) ∧ IsTab K mg (.ref D) t_InvalidQuestion
  i_InvalidRows : ∃ D, mg "InvalidRows" = some (.ref D) ∧ IsTab K mg (.ref D) t_InvalidRows
  i_InvalidTrial : ∃ D, mg "InvalidTrial" = some (.ref D) ∧ IsTab K mg (.ref D) t_InvalidTrial
  i_LookupError : IsTab K mg (.type "LookupError") t_LookupError
  i_NotTold : ∃ D, mg "NotTold" = some (.ref D) ∧ IsTab K mg (.ref D) t_NotTold
  i_Unfit : ∃ D, mg "Unfit" = some (.ref D) ∧ IsTab K mg (.ref D) t_Unfit
  i_ValueError : IsTab K mg (.type "ValueError") t_ValueError
  giv_given : ∀ nm ∈ g_given, ∃ C, mg nm = some (.ref C) ∧ XfC K C ∧ PySem.W.findIn K (.ref C) "given" = some none
  giv_index : ∀ nm ∈ g_index, ∃ C, mg nm = some (.ref C) ∧ XfC K C ∧ PySem.W.findIn K (.ref C) "index" = some none
  f__law_pool : ∃ f fd, Fun K "_law_pool" "_law_pool" st__law_pool f fd ∧ mg "_law_pool" = some (.ref f)
  f__law_below : ∃ f fd, Fun K "_law_below" "_law_below" st__law_below f fd ∧ mg "_law_below" = some (.ref f)
  f__law_one : ∃ f fd, Fun K "_law_one" "_law_one" st__law_one f fd ∧ mg "_law_one" = some (.ref f)
  f__law_said : ∃ f fd, Fun K "_law_said" "_law_said" st__law_said f fd ∧ mg "_law_said" = some (.ref f)
  f_is_whole : ∃ f fd, Fun K "is_whole" "is_whole" st_is_whole f fd ∧ mg "is_whole" = some (.ref f)
  f_is_between : ∃ f fd, Fun K "is_between" "is_between" st_is_between f fd ∧ mg "is_between" = some (.ref f)
  f_are_blocks : ∃ f fd, Fun K "are_blocks" "are_blocks" st_are_blocks f fd ∧ mg "are_blocks" = some (.ref f)
  f_is_tuple_of : ∃ f fd, Fun K "is_tuple_of" "is_tuple_of" st_is_tuple_of f fd ∧ mg "is_tuple_of" = some (.ref f)
  f_is_ratio : ∃ f fd, Fun K "is_ratio" "is_ratio" st_is_ratio f fd ∧ mg "is_ratio" = some (.ref f)
  f_is_row : ∃ f fd, Fun K "is_row" "is_row" st_is_row f fd ∧ mg "is_row" = some (.ref f)
  f_are_plots : ∃ f fd, Fun K "are_plots" "are_plots" st_are_plots f fd ∧ mg "are_plots" = some (.ref f)
  f_is_trial_by : ∃ f fd, Fun K "is_trial_by" "is_trial_by" st_is_trial_by f fd ∧ mg "is_trial_by" = some (.ref f)
  f_check_trial : ∃ f fd, Fun K "check_trial" "check_trial" st_check_trial f fd ∧ mg "check_trial" = some (.ref f)
  f_many_unknowns : ∃ f fd, Fun K "many_unknowns" "many_unknowns" st_many_unknowns f fd ∧ mg "many_unknowns" = some (.ref f)
  f_is_question_by : ∃ f fd, Fun K "is_question_by" "is_question_by" st_is_question_by f fd ∧ mg "is_question_by" = some (.ref f)
  f_check_question : ∃ f fd, Fun K "check_question" "check_question" st_check_question f fd ∧ mg "check_question" = some (.ref f)
  f_check_asked : ∃ f fd, Fun K "check_asked" "check_asked" st_check_asked f fd ∧ mg "check_asked" = some (.ref f)
  f_is_plot_more : ∃ f fd, Fun K "is_plot_more" "is_plot_more" st_is_plot_more f fd ∧ mg "is_plot_more" = some (.ref f)
  f_wrong_in_candidates : ∃ f fd, Fun K "wrong_in_candidates" "wrong_in_candidates" st_wrong_in_candidates f fd ∧ mg "wrong_in_candidates" = some (.ref f)
  f_check_candidates : ∃ f fd, Fun K "check_candidates" "check_candidates" st_check_candidates f fd ∧ mg "check_candidates" = some (.ref f)
  f_check_many : ∃ f fd, Fun K "check_many" "check_many" st_check_many f fd ∧ mg "check_many" = some (.ref f)
  f_many_plots : ∃ f fd, Fun K "many_plots" "many_plots" st_many_plots f fd ∧ mg "many_plots" = some (.ref f)
  f_check_room : ∃ f fd, Fun K "check_room" "check_room" st_check_room f fd ∧ mg "check_room" = some (.ref f)
  f_ratio : ∃ f fd, Fun K "ratio" "ratio" st_ratio f fd ∧ mg "ratio" = some (.ref f)
  f_over : ∃ f fd, Fun K "over" "over" st_over f fd ∧ mg "over" = some (.ref f)
  f_minus : ∃ f fd, Fun K "minus" "minus" st_minus f fd ∧ mg "minus" = some (.ref f)
  f_times : ∃ f fd, Fun K "times" "times" st_times f fd ∧ mg "times" = some (.ref f)
  f_without_column : ∃ f fd, Fun K "without_column" "without_column" st_without_column f fd ∧ mg "without_column" = some (.ref f)
  f_brought : ∃ f fd, Fun K "brought" "brought" st_brought f fd ∧ mg "brought" = some (.ref f)
  f_some_answer : ∃ f fd, Fun K "some_answer" "some_answer" st_some_answer f fd ∧ mg "some_answer" = some (.ref f)
  f_turned : ∃ f fd, Fun K "turned" "turned" st_turned f fd ∧ mg "turned" = some (.ref f)
  f_many_levels : ∃ f fd, Fun K "many_levels" "many_levels" st_many_levels f fd ∧ mg "many_levels" = some (.ref f)
  f_whole_question : ∃ f fd, Fun K "whole_question" "whole_question" st_whole_question f fd ∧ mg "whole_question" = some (.ref f)
  f_whole_rows : ∃ f fd, Fun K "whole_rows" "whole_rows" st_whole_rows f fd ∧ mg "whole_rows" = some (.ref f)
  f_fair_by : ∃ f fd, Fun K "fair_by" "fair_by" st_fair_by f fd ∧ mg "fair_by" = some (.ref f)
  f_check_told : ∃ f fd, Fun K "check_told" "check_told" st_check_told f fd ∧ mg "check_told" = some (.ref f)
  f_check_further : ∃ f fd, Fun K "check_further" "check_further" st_check_further f fd ∧ mg "check_further" = some (.ref f)
  f_plot_lots : ∃ f fd, Fun K "plot_lots" "plot_lots" st_plot_lots f fd ∧ mg "plot_lots" = some (.ref f)
  f_is_less : ∃ f fd, Fun K "is_less" "is_less" st_is_less f fd ∧ mg "is_less" = some (.ref f)
  f_plus : ∃ f fd, Fun K "plus" "plus" st_plus f fd ∧ mg "plus" = some (.ref f)
  f_total : ∃ f fd, Fun K "total" "total" st_total f fd ∧ mg "total" = some (.ref f)
  f_dot : ∃ f fd, Fun K "dot" "dot" st_dot f fd ∧ mg "dot" = some (.ref f)
  f_normal_rows : ∃ f fd, Fun K "normal_rows" "normal_rows" st_normal_rows f fd ∧ mg "normal_rows" = some (.ref f)
  f_parted_world : ∃ f fd, Fun K "parted_world" "parted_world" st_parted_world f fd ∧ mg "parted_world" = some (.ref f)
  f_load_by : ∃ f fd, Fun K "load_by" "load_by" st_load_by f fd ∧ mg "load_by" = some (.ref f)
  f_least_by : ∃ f fd, Fun K "least_by" "least_by" st_least_by f fd ∧ mg "least_by" = some (.ref f)
  f_grown : ∃ f fd, Fun K "grown" "grown" st_grown f fd ∧ mg "grown" = some (.ref f)
  f_trial_more : ∃ f fd, Fun K "trial_more" "trial_more" st_trial_more f fd ∧ mg "trial_more" = some (.ref f)
  f_spread_more : ∃ f fd, Fun K "spread_more" "spread_more" st_spread_more f fd ∧ mg "spread_more" = some (.ref f)
  f_best_lot_by : ∃ f fd, Fun K "best_lot_by" "best_lot_by" st_best_lot_by f fd ∧ mg "best_lot_by" = some (.ref f)
  f_best_lot : ∃ f fd, Fun K "best_lot" "best_lot" st_best_lot f fd ∧ mg "best_lot" = some (.ref f)
  f_step_lot_by : ∃ f fd, Fun K "step_lot_by" "step_lot_by" st_step_lot_by f fd ∧ mg "step_lot_by" = some (.ref f)
  f_step_by_step : ∃ f fd, Fun K "step_by_step" "step_by_step" st_step_by_step f fd ∧ mg "step_by_step" = some (.ref f)
  f_spread_further : ∃ f fd, Fun K "spread_further" "spread_further" st_spread_further f fd ∧ mg "spread_further" = some (.ref f)
  f_best_lot_paper : ∃ f fd, Fun K "best_lot_paper" "best_lot_paper" st_best_lot_paper f fd ∧ mg "best_lot_paper" = some (.ref f)
  f_certify_best_lot : ∃ f fd, Fun K "certify_best_lot" "certify_best_lot" st_certify_best_lot f fd ∧ mg "certify_best_lot" = some (.ref f)
  f__law_told_all : ∃ f fd, Fun K "_law_told_all" "_law_told_all" st__law_told_all f fd ∧ mg "_law_told_all" = some (.ref f)
  f_noughts_table : ∃ f fd, Fun K "noughts_table" "noughts_table" st_noughts_table f fd ∧ mg "noughts_table" = some (.ref f)
  f_blocks_of : ∃ f fd, Fun K "blocks_of" "blocks_of" st_blocks_of f fd ∧ mg "blocks_of" = some (.ref f)
  f_as_table : ∃ f fd, Fun K "as_table" "as_table" st_as_table f fd ∧ mg "as_table" = some (.ref f)
  f_added : ∃ f fd, Fun K "added" "added" st_added f fd ∧ mg "added" = some (.ref f)
  f_outer : ∃ f fd, Fun K "outer" "outer" st_outer f fd ∧ mg "outer" = some (.ref f)
  f_lessened : ∃ f fd, Fun K "lessened" "lessened" st_lessened f fd ∧ mg "lessened" = some (.ref f)
  f_heft_of : ∃ f fd, Fun K "heft_of" "heft_of" st_heft_of f fd ∧ mg "heft_of" = some (.ref f)
  f_heavy_row : ∃ f fd, Fun K "heavy_row" "heavy_row" st_heavy_row f fd ∧ mg "heavy_row" = some (.ref f)
  f_heft_sum : ∃ f fd, Fun K "heft_sum" "heft_sum" st_heft_sum f fd ∧ mg "heft_sum" = some (.ref f)
  f_table_by : ∃ f fd, Fun K "table_by" "table_by" st_table_by f fd ∧ mg "table_by" = some (.ref f)
  f_sign_of : ∃ f fd, Fun K "sign_of" "sign_of" st_sign_of f fd ∧ mg "sign_of" = some (.ref f)
  f_letters_taken : ∃ f fd, Fun K "letters_taken" "letters_taken" st_letters_taken f fd ∧ mg "letters_taken" = some (.ref f)
  f_low_row : ∃ f fd, Fun K "low_row" "low_row" st_low_row f fd ∧ mg "low_row" = some (.ref f)
  f_opposite : ∃ f fd, Fun K "opposite" "opposite" st_opposite f fd ∧ mg "opposite" = some (.ref f)
  f_put_back : ∃ f fd, Fun K "put_back" "put_back" st_put_back f fd ∧ mg "put_back" = some (.ref f)
  f_squares_or_below_by : ∃ f fd, Fun K "squares_or_below_by" "squares_or_below_by" st_squares_or_below_by f fd ∧ mg "squares_or_below_by" = some (.ref f)
  f_table_gap : ∃ f fd, Fun K "table_gap" "table_gap" st_table_gap f fd ∧ mg "table_gap" = some (.ref f)
  f_question_of : ∃ f fd, Fun K "question_of" "question_of" st_question_of f fd ∧ mg "question_of" = some (.ref f)
  f_compared_by : ∃ f fd, Fun K "compared_by" "compared_by" st_compared_by f fd ∧ mg "compared_by" = some (.ref f)
  f_is_good_for : ∃ f fd, Fun K "is_good_for" "is_good_for" st_is_good_for f fd ∧ mg "is_good_for" = some (.ref f)
  f_best_for_all_by : ∃ f fd, Fun K "best_for_all_by" "best_for_all_by" st_best_for_all_by f fd ∧ mg "best_for_all_by" = some (.ref f)
  f_best_for_all : ∃ f fd, Fun K "best_for_all" "best_for_all" st_best_for_all f fd ∧ mg "best_for_all" = some (.ref f)
  f__law_right : ∃ f fd, Fun K "_law_right" "_law_right" st__law_right f fd ∧ mg "_law_right" = some (.ref f)
  f_law : ∃ f fd, Fun K "law" "law" st_law f fd ∧ mg "law" = some (.ref f)
variable {P : Program} {w : World} {K : PySem.W.Frag} {mg : Str → Option Value} {base : Heap}
theorem sc__law_pool : FnScope ["script", "lap", "cell", "stirred", "each"] ["script", "lap"] (defScope st__law_pool) := ⟨rfl, rfl, rfl, by decide +kernel, rfl, by decide +kernel, by decide +kernel⟩
def B__law_pool : Sm := (sCons (sAsg (eIf (tE (eOp2 fLt (eVar 1) (eArgs (b1 bLen) (aCons (eVar 0) aNil)))) (eArgs (b1 bInt) (aCons (eOp2 fIx (eVar 0) (eVar 1)) aNil)) (eOp2 (fAdd false) (eOp2 (fMul false) (eC (.int 8887)) (eVar 1)) (eC (.int 1237)))) (gVar 2))
    (sCons (sAsg (eOp2 (fAdd false) (eC (.int 95261)) (eOp2 (fMul false) (eC (.int 9013)) (eVar 1))) (gVar 3))
    (sCons (sFor (iSeq (eSl false (eVar 0) oNone (oSome (eC (.int 63))))) (gVar 4) (sAsg (eOp2 fMod (eArgs (b1 bInt) (aCons (eOp2 (fAdd false) (eOp2 (fAdd false) (eOp2 (fMul false) (eVar 3) (eC (.int 40699))) (eOp2 fMod (eArgs (b1 bInt) (aCons (eVar 4) aNil)) (eC (.int 2147483587)))) (eC (.int 23))) aNil)) (eC (.int 2147483629))) (gVar 3)))
    (sCons (sAsg (eOp2 fMod (eArgs (b1 bInt) (aCons (eOp2 (fAdd false) (eOp2 (fAdd false) (eOp2 (fMul false) (eVar 3) (eC (.int 97))) (eOp2 (fMul false) (eOp2 fMod (eArgs (b1 bInt) (aCons (eVar 2) aNil)) (eC (.int 2147483587))) (eC (.int 31013)))) (eC (.int 7))) aNil)) (eC (.int 2147483629))) (gVar 3))
    (sRet (eLst true (aCons (eIf (tOr (tE (eOp2 fLt (eVar 2) (eC (.int 0)))) (tE (eOp2 fGe (eVar 2) (eOp2 fPow (eC (.int 10)) (eC (.int 15)))))) (eArgs (b1 bAbs) (aCons (eVar 2) aNil)) (eC (.int 0))) (aCons (eVar 3) (aCons (eC (.int 0)) aNil)))))))))
def V__law_pool : Fm := fnV 2 5 B__law_pool
theorem ok__law_pool (W : Wd P K mg) {f : Addr} {fd : FuncData} (F : Fun K "_law_pool" "_law_pool" st__law_pool f fd) : FnOk P w K mg base (L2N.CX P w) 1 f fd ["script", "lap"] (tSp K mg V__law_pool) :=
  fn_ok F sc__law_pool rfl rfl (fun cdv A outer s H E hr => (ms_cons (sset 2 sc__law_pool.nd (me_ifE (tcmp c_lt (mv 1) (mcb (bo_len) (W.fr "len" (by decide)) PyProof.Rows.Boot.«len» (mac (mv 0) ma_nil))) (mct (bo_int) (W.fr "int" (by decide)) PyProof.Rows.Boot.«int» (mac (mxi (mv 0) (mv 1)) ma_nil)) (me_add (me_mul me_int (mv 1)) me_int)))
    (ms_cons (sset 3 sc__law_pool.nd (me_add me_int (me_mul me_int (mv 1))))
    (ms_cons (sfor [4] (passes_of rfl) (mi_seq (me_slice (mv 0) mo_none (mo_some me_int))) (gv 4 sc__law_pool.nd) (ms_one (sset 3 sc__law_pool.nd (me_mod (mct (bo_int) (W.fr "int" (by decide)) PyProof.Rows.Boot.«int» (mac (me_add (me_add (me_mul (mv 3) me_int) (me_mod (mct (bo_int) (W.fr "int" (by decide)) PyProof.Rows.Boot.«int» (mac (mv 4) ma_nil)) me_int)) me_int) ma_nil)) me_int))))
    (ms_cons (sset 3 sc__law_pool.nd (me_mod (mct (bo_int) (W.fr "int" (by decide)) PyProof.Rows.Boot.«int» (mac (me_add (me_add (me_mul (mv 3) me_int) (me_mul (me_mod (mct (bo_int) (W.fr "int" (by decide)) PyProof.Rows.Boot.«int» (mac (mv 2) ma_nil)) me_int) me_int)) me_int) ma_nil)) me_int))
    (ms_one (ms_ret (me_lst (mac (me_ifE (PW.pt (mw_or (tcmp c_lt (mv 2) me_int) (mw_or1 (tcmp c_ge (mv 2) (me_pow me_int me_int))))) (mcb (bo_abs) (W.fr "abs" (by decide)) PyProof.Rows.Boot.«abs» (mac (mv 2) ma_nil)) me_int) (mac (mv 3) (mac me_int ma_nil)))))))))))
theorem D__law_pool (W : Wd P K mg) : FnD P w K mg base 1 "_law_pool" 2 V__law_pool := by
  obtain ⟨f, fd, F, hm⟩ := W.f__law_pool
  exact ⟨f, fd, _, ok__law_pool W F, hm, F.kp, F.binds fun _ _ _ _ _ _ us hl => match us, hl with | [_, _], _ => rfl⟩
theorem sc__law_below : FnScope ["pool", "many", "figure", "stirred"] ["pool", "many"] (defScope st__law_below) := ⟨rfl, rfl, rfl, by decide +kernel, rfl, by decide +kernel, by decide +kernel⟩
def B__law_below : Sm := (sCons (sIf (tE (eOp2 fGt (eOp2 fIx (eVar 0) (eC (.int 0))) (eC (.int 0)))) (sCons (sAsg (eArgs (b2 bDivmod) (aCons (eOp2 fIx (eVar 0) (eC (.int 0))) (aCons (eVar 1) aNil))) (gTup 2 (gsCons (gIx (eVar 0) (eC (.int 0))) (gsCons (gVar 2) gsNil))))
    (sRet (eVar 2))) sNil)
    (sCons (sAsg (eOp2 (fAdd false) (eOp2 fIx (eVar 0) (eC (.int 2))) (eC (.int 1))) (gIx (eVar 0) (eC (.int 2))))
    (sCons (sAsg (eOp2 fMod (eArgs (b1 bInt) (aCons (eOp2 (fAdd false) (eOp2 (fAdd false) (eOp2 (fMul false) (eOp2 fIx (eVar 0) (eC (.int 1))) (eC (.int 48677))) (eOp2 (fMul false) (eC (.int 3413)) (eOp2 fIx (eVar 0) (eC (.int 2))))) (eC (.int 61))) aNil)) (eC (.int 2147483563))) (gVar 3))
    (sCons (sAsg (eOp2 fMod (eArgs (b1 bInt) (aCons (eOp2 (fAdd false) (eOp2 (fMul false) (eVar 3) (eOp2 (fAdd false) (eOp2 fMod (eArgs (b1 bInt) (aCons (eVar 3) aNil)) (eC (.int 4001))) (eC (.int 17911)))) (eOp2 fIx (eVar 0) (eC (.int 2)))) aNil)) (eC (.int 2147483563))) (gIx (eVar 0) (eC (.int 1))))
    (sRet (eOp2 fMod (eArgs (b1 bInt) (aCons (eOp2 fDiv (eOp2 fIx (eVar 0) (eC (.int 1))) (eC (.int 367))) aNil)) (eVar 1)))))))
def V__law_below : Fm := fnV 2 4 B__law_below
theorem ok__law_below (W : Wd P K mg) {f : Addr} {fd : FuncData} (F : Fun K "_law_below" "_law_below" st__law_below f fd) : FnOk P w K mg base (L2N.CX P w) 1 f fd ["pool", "many"] (tSp K mg V__law_below) :=
  fn_ok F sc__law_below rfl rfl (fun cdv A outer s H E hr => (ms_cons (ms_if (tcmp c_gt (mxi (mv 0) me_int) me_int) (ms_cons (sasg [2] (mcb (bo_divmod) (W.fr "divmod" (by decide)) PyProof.Rows.Boot.«divmod» (mac (mxi (mv 0) me_int) (mac (mv 1) ma_nil))) (gt (gc (gi (mv 0) me_int) (gc (gv 2 sc__law_below.nd) mgs_nil))))
    (ms_one (ms_ret (mv 2)))) ms_nil)
    (ms_cons (sasg [] (me_add (mxi (mv 0) me_int) me_int) (gi (mv 0) me_int))
    (ms_cons (sset 3 sc__law_below.nd (me_mod (mct (bo_int) (W.fr "int" (by decide)) PyProof.Rows.Boot.«int» (mac (me_add (me_add (me_mul (mxi (mv 0) me_int) me_int) (me_mul me_int (mxi (mv 0) me_int))) me_int) ma_nil)) me_int))
    (ms_cons (sasg [] (me_mod (mct (bo_int) (W.fr "int" (by decide)) PyProof.Rows.Boot.«int» (mac (me_add (me_mul (mv 3) (me_add (me_mod (mct (bo_int) (W.fr "int" (by decide)) PyProof.Rows.Boot.«int» (mac (mv 3) ma_nil)) me_int) me_int)) (mxi (mv 0) me_int)) ma_nil)) me_int) (gi (mv 0) me_int))
    (ms_one (ms_ret (me_mod (mct (bo_int) (W.fr "int" (by decide)) PyProof.Rows.Boot.«int» (mac (me_div (mxi (mv 0) me_int) me_int) ma_nil)) (mv 1)))))))))
theorem D__law_below (W : Wd P K mg) : FnD P w K mg base 1 "_law_below" 2 V__law_below := by
  obtain ⟨f, fd, F, hm⟩ := W.f__law_below
  exact ⟨f, fd, _, ok__law_below W F, hm, F.kp, F.binds fun _ _ _ _ _ _ us hl => match us, hl with | [_, _], _ => rfl⟩
theorem sc__law_one : FnScope ["pool", "some"] ["pool", "some"] (defScope st__law_one) := ⟨rfl, rfl, rfl, by decide +kernel, rfl, by decide +kernel, by decide +kernel⟩
def B__law_one : Sm := (sRet (eOp2 fIx (eVar 1) (eCall V__law_below (aCons (eVar 0) (aCons (eArgs (b1 bLen) (aCons (eVar 1) aNil)) aNil)))))
def V__law_one : Fm := fnV 2 2 B__law_one
theorem ok__law_one (W : Wd P K mg) {f : Addr} {fd : FuncData} (F : Fun K "_law_one" "_law_one" st__law_one f fd) : FnOk P w K mg base (L2N.CX P w) 2 f fd ["pool", "some"] (tSp K mg V__law_one) :=
  fn_ok F sc__law_one rfl rfl (fun cdv A outer s H E hr => (ms_one (ms_ret (mxi (mv 1) (mcallR (D__law_below W) (hr.mono (by decide)) passesX (mac (mv 0) (mac (mcb (bo_len) (W.fr "len" (by decide)) PyProof.Rows.Boot.«len» (mac (mv 1) ma_nil)) ma_nil)))))))
theorem D__law_one (W : Wd P K mg) : FnD P w K mg base 2 "_law_one" 2 V__law_one := by
  obtain ⟨f, fd, F, hm⟩ := W.f__law_one
  exact ⟨f, fd, _, ok__law_one W F, hm, F.kp, F.binds fun _ _ _ _ _ _ us hl => match us, hl with | [_, _], _ => rfl⟩
theorem sc__law_said : FnScope ["act", "e", "some", "found", "word", "is_so"] ["act"] (defScope st__law_said) := ⟨rfl, rfl, rfl, by decide +kernel, rfl, by decide +kernel, by decide +kernel⟩
def sd_n : Nat := 6
def sd_i : Nat := 1
def sd_h : Sm := (sCons (sAsg (eLst false (aCons (eTup (aCons (eC (.str "trial")) (aCons (eOp1 (fIsE t_InvalidTrial) (eVar 1)) aNil))) (aCons (eTup (aCons (eC (.str "question")) (aCons (eOp1 (fIsE t_InvalidQuestion) (eVar 1)) aNil))) (aCons (eTup (aCons (eC (.str "rows")) (aCons (eOp1 (fIsE t_InvalidRows) (eVar 1)) aNil))) aNil)))) (gVar 2))
    (sCons (sAsg (eOp2 (fAdd false) (eVar 2) (eLst false (aCons (eTup (aCons (eC (.str "number")) (aCons (eOp1 (fIsE t_InvalidNumber) (eVar 1)) aNil))) (aCons (eTup (aCons (eC (.str "unfit")) (aCons (eOp1 (fIsE t_Unfit) (eVar 1)) aNil))) (aCons (eTup (aCons (eC (.str "untold")) (aCons (eOp1 (fIsE t_NotTold) (eVar 1)) aNil))) aNil))))) (gVar 2))
    (sCons (sAsg (eLc false (iLsH (eVar 2)) (gTup 2 (gsCons (gVar 4) (gsCons (gVar 5) gsNil))) (tE (eVar 5)) (eVar 4) [4, 5]) (gVar 3))
    (sCons (sIf (tOr (tE (eOp2 fNe (eArgs (b1 bLen) (aCons (eVar 3) aNil)) (eC (.int 1)))) (tOr (tNot (tE (eOp1 (fIsE t_ValueError) (eVar 1)))) (tE (eOp1 (fIsE t_LookupError) (eVar 1))))) (sRet (eTup (aCons (eC (.str "odd")) (aCons (eC (.str "")) aNil)))) sNil)
    (sCons (sIf (tE (eOp2 fEq (eOp2 fIx (eVar 3) (eC (.int 0))) (eC (.str "untold")))) (sRet (eTup (aCons (eC (.str "untold")) (aCons (eC (.str "")) aNil)))) sNil)
    (sRet (eTup (aCons (eOp2 fIx (eVar 3) (eC (.int 0))) (aCons (eOp1 fRepr (eIf (tE (eOp2 fEq (eOp2 fIx (eVar 3) (eC (.int 0))) (eC (.str "rows")))) (eOp1 (fGiv g_index "index") (eVar 1)) (eOp1 (fGiv g_given "given") (eVar 1)))) aNil)))))))))
def sd_r : Sm := (sRet (eTup (aCons (eC (.str "right")) (aCons (eC (.str "")) aNil))))
theorem sc_is_whole : FnScope ["value"] ["value"] (defScope st_is_whole) := ⟨rfl, rfl, rfl, by decide +kernel, rfl, by decide +kernel, by decide +kernel⟩
def B_is_whole : Sm := (sRet (eAnd (eOp1 (fIsi .int) (eVar 0)) (eNot (eOp1 (fIsi .bool) (eVar 0)))))
def V_is_whole : Fm := fnV 1 1 B_is_whole
theorem ok_is_whole (W : Wd P K mg) {f : Addr} {fd : FuncData} (F : Fun K "is_whole" "is_whole" st_is_whole f fd) : FnOk P w K mg base (L2N.CX P w) 1 f fd ["value"] (tSp K mg V_is_whole) :=
  fn_ok F sc_is_whole rfl rfl (fun cdv A outer s H E hr => (ms_one (ms_ret (me_and (misi .int (W.fr "isinstance" (by decide)) (W.fr "int" (by decide)) PyProof.Rows.Boot.«int» (mv 0)) (me_one (me_not (misi .bool (W.fr "isinstance" (by decide)) (W.fr "bool" (by decide)) PyProof.Rows.Boot.«bool» (mv 0))))))))
theorem D_is_whole (W : Wd P K mg) : FnD P w K mg base 1 "is_whole" 1 V_is_whole := by
  obtain ⟨f, fd, F, hm⟩ := W.f_is_whole
  exact ⟨f, fd, _, ok_is_whole W F, hm, F.kp, F.binds fun _ _ _ _ _ _ us hl => match us, hl with | [_], _ => rfl⟩
theorem sc_is_between : FnScope ["value", "low", "high"] ["value", "low", "high"] (defScope st_is_between) := ⟨rfl, rfl, rfl, by decide +kernel, rfl, by decide +kernel, by decide +kernel⟩
def B_is_between : Sm := (sRet (eAnd (eCallI V_is_whole (aCons (eVar 0) aNil)) (eChain fLe fLe (eVar 1) (eVar 0) (eVar 2))))
def V_is_between : Fm := fnV 3 3 B_is_between
theorem ok_is_between (W : Wd P K mg) {f : Addr} {fd : FuncData} (F : Fun K "is_between" "is_between" st_is_between f fd) : FnOk P w K mg base (L2N.CX P w) 2 f fd ["value", "low", "high"] (tSp K mg V_is_between) :=
  fn_ok F sc_is_between rfl rfl (fun cdv A outer s H E hr => (ms_one (ms_ret (me_and (mcall (D_is_whole W) (hr.mono (by decide)) passesX (mac (mv 0) ma_nil)) (me_one (mchain c_le c_le (mv 1) (mv 0) (mv 2)))))))
theorem D_is_between (W : Wd P K mg) : FnD P w K mg base 2 "is_between" 3 V_is_between := by
  obtain ⟨f, fd, F, hm⟩ := W.f_is_between
  exact ⟨f, fd, _, ok_is_between W F, hm, F.kp, F.binds fun _ _ _ _ _ _ us hl => match us, hl with | [_, _, _], _ => rfl⟩
theorem sc_are_blocks : FnScope ["value", "many", "each"] ["value", "many"] (defScope st_are_blocks) := ⟨rfl, rfl, rfl, by decide +kernel, rfl, by decide +kernel, by decide +kernel⟩
def B_are_blocks : Sm := (sCons (sIf (tNot (tE (eOp1 (fIsi .tuple) (eVar 0)))) (sRet (eC (.bool false))) sNil)
    (sRet (eOr (eOp2 fEq (eVar 0) (eTup aNil)) (eAnd (eOp2 fEq (eArgs (b1 bLen) (aCons (eVar 0) aNil)) (eVar 1)) (eArgs (b1 bAll) (aCons (eLc false (iSeq (eVar 0)) (gVar 2) tYesM (eCallI V_is_between (aCons (eVar 2) (aCons (eC (.int 0)) (aCons (eC (.int 4)) aNil)))) [2]) aNil))))))
def V_are_blocks : Fm := fnV 2 3 B_are_blocks
theorem ok_are_blocks (W : Wd P K mg) {f : Addr} {fd : FuncData} (F : Fun K "are_blocks" "are_blocks" st_are_blocks f fd) : FnOk P w K mg base (L2N.CX P w) 3 f fd ["value", "many"] (tSp K mg V_are_blocks) :=
  fn_ok F sc_are_blocks rfl rfl (fun cdv A outer s H E hr => (ms_cons (ms_if (mt_not (tval (misi .tuple (W.fr "isinstance" (by decide)) (W.fr "tuple" (by decide)) PyProof.Rows.Boot.«tuple» (mv 0)))) (ms_one (ms_ret me_bl)) ms_nil)
    (ms_one (ms_ret (me_or (mcmp (c_eq (hu65 hr)) (mv 0) (me_tup ma_nil)) (me_one (me_and (mcmp (c_eq (hu65 hr)) (mcb (bo_len) (W.fr "len" (by decide)) PyProof.Rows.Boot.«len» (mac (mv 0) ma_nil)) (mv 1)) (me_one (mcb (bo_all rfl) (W.fr "all" (by decide)) PyProof.Rows.Boot.«all» (mac (mlc ([("each", 2)] : List (Str × Nat)) sc_are_blocks.nd (mi_seq (mv 0)) (fun s H C cl fp => (gv 2 sc_are_blocks.nd)) (fun s H C cl fp => mts_nil) (fun s H C cl fp => (mcall (D_is_between W) (hr.mono (by decide)) passLN (mac (mv 2) (mac me_int (mac (mgl W.g_MOST_BLOCK) ma_nil)))))) ma_nil))))))))))
theorem D_are_blocks (W : Wd P K mg) : FnD P w K mg base 3 "are_blocks" 2 V_are_blocks := by
  obtain ⟨f, fd, F, hm⟩ := W.f_are_blocks
  exact ⟨f, fd, _, ok_are_blocks W F, hm, F.kp, F.binds fun _ _ _ _ _ _ us hl => match us, hl with | [_, _], _ => rfl⟩
theorem sc_is_tuple_of : FnScope ["value", "many"] ["value", "many"] (defScope st_is_tuple_of) := ⟨rfl, rfl, rfl, by decide +kernel, rfl, by decide +kernel, by decide +kernel⟩
def B_is_tuple_of : Sm := (sRet (eAnd (eOp1 (fIsi .tuple) (eVar 0)) (eOp2 fEq (eArgs (b1 bLen) (aCons (eVar 0) aNil)) (eVar 1))))
def V_is_tuple_of : Fm := fnV 2 2 B_is_tuple_of
theorem ok_is_tuple_of (W : Wd P K mg) {f : Addr} {fd : FuncData} (F : Fun K "is_tuple_of" "is_tuple_of" st_is_tuple_of f fd) : FnOk P w K mg base (L2N.CX P w) 1 f fd ["value", "many"] (tSp K mg V_is_tuple_of) :=
  fn_ok F sc_is_tuple_of rfl rfl (fun cdv A outer s H E hr => (ms_one (ms_ret (me_and (misi .tuple (W.fr "isinstance" (by decide)) (W.fr "tuple" (by decide)) PyProof.Rows.Boot.«tuple» (mv 0)) (me_one (mcmp (c_eq (hu65 hr)) (mcb (bo_len) (W.fr "len" (by decide)) PyProof.Rows.Boot.«len» (mac (mv 0) ma_nil)) (mv 1)))))))
theorem D_is_tuple_of (W : Wd P K mg) : FnD P w K mg base 1 "is_tuple_of" 2 V_is_tuple_of := by
  obtain ⟨f, fd, F, hm⟩ := W.f_is_tuple_of
  exact ⟨f, fd, _, ok_is_tuple_of W F, hm, F.kp, F.binds fun _ _ _ _ _ _ us hl => match us, hl with | [_, _], _ => rfl⟩
theorem sc_is_ratio : FnScope ["value"] ["value"] (defScope st_is_ratio) := ⟨rfl, rfl, rfl, by decide +kernel, rfl, by decide +kernel, by decide +kernel⟩
def B_is_ratio : Sm := (sCons (sIf (tOr (tNot (tE (eCallI V_is_tuple_of (aCons (eVar 0) (aCons (eC (.int 2)) aNil))))) (tOr (tNot (tE (eCallI V_is_whole (aCons (eOp2 fIx (eVar 0) (eC (.int 0))) aNil)))) (tNot (tE (eCallI V_is_whole (aCons (eOp2 fIx (eVar 0) (eC (.int 1))) aNil)))))) (sRet (eC (.bool false))) sNil)
    (sRet (eAnd (eOp2 fGt (eOp2 fIx (eVar 0) (eC (.int 1))) (eC (.int 0))) (eOp2 fEq (eArgs (b2 bGcd) (aCons (eOp2 fIx (eVar 0) (eC (.int 0))) (aCons (eOp2 fIx (eVar 0) (eC (.int 1))) aNil))) (eC (.int 1))))))
def V_is_ratio : Fm := fnV 1 1 B_is_ratio
theorem ok_is_ratio (W : Wd P K mg) {f : Addr} {fd : FuncData} (F : Fun K "is_ratio" "is_ratio" st_is_ratio f fd) : FnOk P w K mg base (L2N.CX P w) 2 f fd ["value"] (tSp K mg V_is_ratio) :=
  fn_ok F sc_is_ratio rfl rfl (fun cdv A outer s H E hr => (ms_cons (ms_if (PW.pt (mw_or (mt_not (tval (mcall (D_is_tuple_of W) (hr.mono (by decide)) passesX (mac (mv 0) (mac me_int ma_nil))))) (mw_or (mt_not (tval (mcall (D_is_whole W) (hr.mono (by decide)) passesX (mac (mxi (mv 0) me_int) ma_nil)))) (mw_or1 (mt_not (tval (mcall (D_is_whole W) (hr.mono (by decide)) passesX (mac (mxi (mv 0) me_int) ma_nil)))))))) (ms_one (ms_ret me_bl)) ms_nil)
    (ms_one (ms_ret (me_and (mcmp c_gt (mxi (mv 0) me_int) me_int) (me_one (mcmp (c_eq (hu65 hr)) (mcg bo_gcd W.gcd (mac (mxi (mv 0) me_int) (mac (mxi (mv 0) me_int) ma_nil))) me_int)))))))
theorem D_is_ratio (W : Wd P K mg) : FnD P w K mg base 2 "is_ratio" 1 V_is_ratio := by
  obtain ⟨f, fd, F, hm⟩ := W.f_is_ratio
  exact ⟨f, fd, _, ok_is_ratio W F, hm, F.kp, F.binds fun _ _ _ _ _ _ us hl => match us, hl with | [_], _ => rfl⟩
theorem sc_is_row : FnScope ["value", "many", "each"] ["value", "many"] (defScope st_is_row) := ⟨rfl, rfl, rfl, by decide +kernel, rfl, by decide +kernel, by decide +kernel⟩
def B_is_row : Sm := (sRet (eAnd (eCallI V_is_tuple_of (aCons (eVar 0) (aCons (eVar 1) aNil))) (eArgs (b1 bAll) (aCons (eLc false (iSeq (eVar 0)) (gVar 2) tYesM (eCallI V_is_ratio (aCons (eVar 2) aNil)) [2]) aNil))))
def V_is_row : Fm := fnV 2 3 B_is_row
theorem ok_is_row (W : Wd P K mg) {f : Addr} {fd : FuncData} (F : Fun K "is_row" "is_row" st_is_row f fd) : FnOk P w K mg base (L2N.CX P w) 3 f fd ["value", "many"] (tSp K mg V_is_row) :=
  fn_ok F sc_is_row rfl rfl (fun cdv A outer s H E hr => (ms_one (ms_ret (me_and (mcall (D_is_tuple_of W) (hr.mono (by decide)) passesX (mac (mv 0) (mac (mv 1) ma_nil))) (me_one (mcb (bo_all rfl) (W.fr "all" (by decide)) PyProof.Rows.Boot.«all» (mac (mlc ([("each", 2)] : List (Str × Nat)) sc_is_row.nd (mi_seq (mv 0)) (fun s H C cl fp => (gv 2 sc_is_row.nd)) (fun s H C cl fp => mts_nil) (fun s H C cl fp => (mcall (D_is_ratio W) (hr.mono (by decide)) passLN (mac (mv 2) ma_nil)))) ma_nil)))))))
theorem D_is_row (W : Wd P K mg) : FnD P w K mg base 3 "is_row" 2 V_is_row := by
  obtain ⟨f, fd, F, hm⟩ := W.f_is_row
  exact ⟨f, fd, _, ok_is_row W F, hm, F.kp, F.binds fun _ _ _ _ _ _ us hl => match us, hl with | [_, _], _ => rfl⟩
theorem sc_are_plots : FnScope ["value", "row"] ["value"] (defScope st_are_plots) := ⟨rfl, rfl, rfl, by decide +kernel, rfl, by decide +kernel, by decide +kernel⟩
def B_are_plots : Sm := (sCons (sIf (tOr (tNot (tE (eOp1 (fIsi .tuple) (eVar 0)))) (tOr (tNot (tE (eChain fLe fLe (eC (.int 1)) (eArgs (b1 bLen) (aCons (eVar 0) aNil)) (eC (.int 10))))) (tNot (tE (eOp1 (fIsi .tuple) (eOp2 fIx (eVar 0) (eC (.int 0)))))))) (sRet (eC (.bool false))) sNil)
    (sRet (eAnd (eChain fLe fLe (eC (.int 1)) (eArgs (b1 bLen) (aCons (eOp2 fIx (eVar 0) (eC (.int 0))) aNil)) (eC (.int 5))) (eArgs (b1 bAll) (aCons (eLc false (iSeq (eVar 0)) (gVar 1) tYesM (eCallI V_is_row (aCons (eVar 1) (aCons (eArgs (b1 bLen) (aCons (eOp2 fIx (eVar 0) (eC (.int 0))) aNil)) aNil))) [1]) aNil)))))
def V_are_plots : Fm := fnV 1 2 B_are_plots
theorem ok_are_plots (W : Wd P K mg) {f : Addr} {fd : FuncData} (F : Fun K "are_plots" "are_plots" st_are_plots f fd) : FnOk P w K mg base (L2N.CX P w) 4 f fd ["value"] (tSp K mg V_are_plots) :=
  fn_ok F sc_are_plots rfl rfl (fun cdv A outer s H E hr => (ms_cons (ms_if (PW.pt (mw_or (mt_not (tval (misi .tuple (W.fr "isinstance" (by decide)) (W.fr "tuple" (by decide)) PyProof.Rows.Boot.«tuple» (mv 0)))) (mw_or (mt_not (tchain c_le c_le me_int (mcb (bo_len) (W.fr "len" (by decide)) PyProof.Rows.Boot.«len» (mac (mv 0) ma_nil)) (mgl W.g_MOST_PLOTS))) (mw_or1 (mt_not (tval (misi .tuple (W.fr "isinstance" (by decide)) (W.fr "tuple" (by decide)) PyProof.Rows.Boot.«tuple» (mxi (mv 0) me_int)))))))) (ms_one (ms_ret me_bl)) ms_nil)
    (ms_one (ms_ret (me_and (mchain c_le c_le me_int (mcb (bo_len) (W.fr "len" (by decide)) PyProof.Rows.Boot.«len» (mac (mxi (mv 0) me_int) ma_nil)) (mgl W.g_MOST_UNKNOWNS)) (me_one (mcb (bo_all rfl) (W.fr "all" (by decide)) PyProof.Rows.Boot.«all» (mac (mlc ([("row", 1)] : List (Str × Nat)) sc_are_plots.nd (mi_seq (mv 0)) (fun s H C cl fp => (gv 1 sc_are_plots.nd)) (fun s H C cl fp => mts_nil) (fun s H C cl fp => (mcall (D_is_row W) (hr.mono (by decide)) passLN (mac (mv 1) (mac (mcb (bo_len) (W.fr "len" (by decide)) PyProof.Rows.Boot.«len» (mac (mxi (mv 0) me_int) ma_nil)) ma_nil))))) ma_nil))))))))
theorem D_are_plots (W : Wd P K mg) : FnD P w K mg base 4 "are_plots" 1 V_are_plots := by
  obtain ⟨f, fd, F, hm⟩ := W.f_are_plots
  exact ⟨f, fd, _, ok_are_plots W F, hm, F.kp, F.binds fun _ _ _ _ _ _ us hl => match us, hl with | [_], _ => rfl⟩
theorem sc_is_trial_by : FnScope ["value", "each"] ["value"] (defScope st_is_trial_by) := ⟨rfl, rfl, rfl, by decide +kernel, rfl, by decide +kernel, by decide +kernel⟩
def B_is_trial_by : Sm := (sCons (sIf (tOr (tNot (tE (eCallI V_is_tuple_of (aCons (eVar 0) (aCons (eC (.int 3)) aNil))))) (tOr (tNot (tE (eCallI V_are_plots (aCons (eOp2 fIx (eVar 0) (eC (.int 0))) aNil)))) (tNot (tE (eCallI V_is_row (aCons (eOp2 fIx (eVar 0) (eC (.int 1))) (aCons (eArgs (b1 bLen) (aCons (eOp2 fIx (eVar 0) (eC (.int 0))) aNil)) aNil))))))) (sRet (eC (.bool false))) sNil)
    (sRet (eAnd (eArgs (b1 bAll) (aCons (eLc false (iSeq (eOp2 fIx (eVar 0) (eC (.int 1)))) (gVar 1) tYesM (eOp2 fGt (eOp2 fIx (eVar 1) (eC (.int 0))) (eC (.int 0))) [1]) aNil)) (eCallI V_are_blocks (aCons (eOp2 fIx (eVar 0) (eC (.int 2))) (aCons (eArgs (b1 bLen) (aCons (eOp2 fIx (eVar 0) (eC (.int 0))) aNil)) aNil))))))
def V_is_trial_by : Fm := fnV 1 2 B_is_trial_by
theorem ok_is_trial_by (W : Wd P K mg) {f : Addr} {fd : FuncData} (F : Fun K "is_trial_by" "is_trial_by" st_is_trial_by f fd) : FnOk P w K mg base (L2N.CX P w) 5 f fd ["value"] (tSp K mg V_is_trial_by) :=
  fn_ok F sc_is_trial_by rfl rfl (fun cdv A outer s H E hr => (ms_cons (ms_if (PW.pt (mw_or (mt_not (tval (mcall (D_is_tuple_of W) (hr.mono (by decide)) passesX (mac (mv 0) (mac me_int ma_nil))))) (mw_or (mt_not (tval (mcall (D_are_plots W) (hr.mono (by decide)) passesX (mac (mxi (mv 0) me_int) ma_nil)))) (mw_or1 (mt_not (tval (mcall (D_is_row W) (hr.mono (by decide)) passesX (mac (mxi (mv 0) me_int) (mac (mcb (bo_len) (W.fr "len" (by decide)) PyProof.Rows.Boot.«len» (mac (mxi (mv 0) me_int) ma_nil)) ma_nil))))))))) (ms_one (ms_ret me_bl)) ms_nil)
    (ms_one (ms_ret (me_and (mcb (bo_all rfl) (W.fr "all" (by decide)) PyProof.Rows.Boot.«all» (mac (mlc ([("each", 1)] : List (Str × Nat)) sc_is_trial_by.nd (mi_seq (mxi (mv 0) me_int)) (fun s H C cl fp => (gv 1 sc_is_trial_by.nd)) (fun s H C cl fp => mts_nil) (fun s H C cl fp => (mcmp c_gt (mxi (mv 1) me_int) me_int))) ma_nil)) (me_one (mcall (D_are_blocks W) (hr.mono (by decide)) passesX (mac (mxi (mv 0) me_int) (mac (mcb (bo_len) (W.fr "len" (by decide)) PyProof.Rows.Boot.«len» (mac (mxi (mv 0) me_int) ma_nil)) ma_nil)))))))))
theorem D_is_trial_by (W : Wd P K mg) : FnD P w K mg base 5 "is_trial_by" 1 V_is_trial_by := by
  obtain ⟨f, fd, F, hm⟩ := W.f_is_trial_by
  exact ⟨f, fd, _, ok_is_trial_by W F, hm, F.kp, F.binds fun _ _ _ _ _ _ us hl => match us, hl with | [_], _ => rfl⟩
theorem sc_check_trial : FnScope ["value"] ["value"] (defScope st_check_trial) := ⟨rfl, rfl, rfl, by decide +kernel, rfl, by decide +kernel, by decide +kernel⟩
def B_check_trial : Sm := (sIf (tNot (tE (eCallI V_is_trial_by (aCons (eVar 0) aNil)))) (sRaiseX "InvalidTrial" "given" (eVar 0)) sNil)
def V_check_trial : Fm := fnV 1 1 B_check_trial
theorem ok_check_trial (W : Wd P K mg) {f : Addr} {fd : FuncData} (F : Fun K "check_trial" "check_trial" st_check_trial f fd) : FnOk P w K mg base (L2N.CX P w) 6 f fd ["value"] (tSp K mg V_check_trial) :=
  fn_ok F sc_check_trial rfl rfl (fun cdv A outer s H E hr => (ms_one (ms_if (mt_not (tval (mcall (D_is_trial_by W) (hr.mono (by decide)) passesX (mac (mv 0) ma_nil)))) (ms_one (sraise PySem.MKX.fld_given (W.e_InvalidTrial).choose_spec.choose_spec hr (L2N.takes_of rfl rfl rfl rfl) (mv 0))) ms_nil)))
theorem D_check_trial (W : Wd P K mg) : FnD P w K mg base 6 "check_trial" 1 V_check_trial := by
  obtain ⟨f, fd, F, hm⟩ := W.f_check_trial
  exact ⟨f, fd, _, ok_check_trial W F, hm, F.kp, F.binds fun _ _ _ _ _ _ us hl => match us, hl with | [_], _ => rfl⟩
theorem sc_many_unknowns : FnScope ["trial"] ["trial"] (defScope st_many_unknowns) := ⟨rfl, rfl, rfl, by decide +kernel, rfl, by decide +kernel, by decide +kernel⟩
def B_many_unknowns : Sm := (sRet (eArgs (b1 bLen) (aCons (eOp2 fIx (eOp2 fIx (eVar 0) (eC (.int 0))) (eC (.int 0))) aNil)))
def V_many_unknowns : Fm := fnV 1 1 B_many_unknowns
theorem ok_many_unknowns (W : Wd P K mg) {f : Addr} {fd : FuncData} (F : Fun K "many_unknowns" "many_unknowns" st_many_unknowns f fd) : FnOk P w K mg base (L2N.CX P w) 1 f fd ["trial"] (tSp K mg V_many_unknowns) :=
  fn_ok F sc_many_unknowns rfl rfl (fun cdv A outer s H E hr => (ms_one (ms_ret (mcb (bo_len) (W.fr "len" (by decide)) PyProof.Rows.Boot.«len» (mac (mxi (mxi (mv 0) me_int) me_int) ma_nil)))))
theorem D_many_unknowns (W : Wd P K mg) : FnD P w K mg base 1 "many_unknowns" 1 V_many_unknowns := by
  obtain ⟨f, fd, F, hm⟩ := W.f_many_unknowns
  exact ⟨f, fd, _, ok_many_unknowns W F, hm, F.kp, F.binds fun _ _ _ _ _ _ us hl => match us, hl with | [_], _ => rfl⟩
theorem sc_is_question_by : FnScope ["trial", "value"] ["trial", "value"] (defScope st_is_question_by) := ⟨rfl, rfl, rfl, by decide +kernel, rfl, by decide +kernel, by decide +kernel⟩
def B_is_question_by : Sm := (sRet (eCallI V_is_row (aCons (eVar 1) (aCons (eCallI V_many_unknowns (aCons (eVar 0) aNil)) aNil))))
def V_is_question_by : Fm := fnV 2 2 B_is_question_by
theorem ok_is_question_by (W : Wd P K mg) {f : Addr} {fd : FuncData} (F : Fun K "is_question_by" "is_question_by" st_is_question_by f fd) : FnOk P w K mg base (L2N.CX P w) 4 f fd ["trial", "value"] (tSp K mg V_is_question_by) :=
  fn_ok F sc_is_question_by rfl rfl (fun cdv A outer s H E hr => (ms_one (ms_ret (mcall (D_is_row W) (hr.mono (by decide)) passesX (mac (mv 1) (mac (mcall (D_many_unknowns W) (hr.mono (by decide)) passesX (mac (mv 0) ma_nil)) ma_nil))))))
theorem D_is_question_by (W : Wd P K mg) : FnD P w K mg base 4 "is_question_by" 2 V_is_question_by := by
  obtain ⟨f, fd, F, hm⟩ := W.f_is_question_by
  exact ⟨f, fd, _, ok_is_question_by W F, hm, F.kp, F.binds fun _ _ _ _ _ _ us hl => match us, hl with | [_, _], _ => rfl⟩
theorem sc_check_question : FnScope ["trial", "value"] ["trial", "value"] (defScope st_check_question) := ⟨rfl, rfl, rfl, by decide +kernel, rfl, by decide +kernel, by decide +kernel⟩
def B_check_question : Sm := (sIf (tNot (tE (eCallI V_is_question_by (aCons (eVar 0) (aCons (eVar 1) aNil))))) (sRaiseX "InvalidQuestion" "given" (eVar 1)) sNil)
def V_check_question : Fm := fnV 2 2 B_check_question
theorem ok_check_question (W : Wd P K mg) {f : Addr} {fd : FuncData} (F : Fun K "check_question" "check_question" st_check_question f fd) : FnOk P w K mg base (L2N.CX P w) 5 f fd ["trial", "value"] (tSp K mg V_check_question) :=
  fn_ok F sc_check_question rfl rfl (fun cdv A outer s H E hr => (ms_one (ms_if (mt_not (tval (mcall (D_is_question_by W) (hr.mono (by decide)) passesX (mac (mv 0) (mac (mv 1) ma_nil))))) (ms_one (sraise PySem.MKX.fld_given (W.e_InvalidQuestion).choose_spec.choose_spec hr (L2N.takes_of rfl rfl rfl rfl) (mv 1))) ms_nil)))
theorem D_check_question (W : Wd P K mg) : FnD P w K mg base 5 "check_question" 2 V_check_question := by
  obtain ⟨f, fd, F, hm⟩ := W.f_check_question
  exact ⟨f, fd, _, ok_check_question W F, hm, F.kp, F.binds fun _ _ _ _ _ _ us hl => match us, hl with | [_, _], _ => rfl⟩
theorem sc_check_asked : FnScope ["trial", "question"] ["trial", "question"] (defScope st_check_asked) := ⟨rfl, rfl, rfl, by decide +kernel, rfl, by decide +kernel, by decide +kernel⟩
def B_check_asked : Sm := (sCons (sExpr (eCallI V_check_trial (aCons (eVar 0) aNil)))
    (sExpr (eCallI V_check_question (aCons (eVar 0) (aCons (eVar 1) aNil)))))
def V_check_asked : Fm := fnV 2 2 B_check_asked
theorem ok_check_asked (W : Wd P K mg) {f : Addr} {fd : FuncData} (F : Fun K "check_asked" "check_asked" st_check_asked f fd) : FnOk P w K mg base (L2N.CX P w) 7 f fd ["trial", "question"] (tSp K mg V_check_asked) :=
  fn_ok F sc_check_asked rfl rfl (fun cdv A outer s H E hr => (ms_cons (sexpr (mcall (D_check_trial W) (hr.mono (by decide)) passesX (mac (mv 0) ma_nil)))
    (ms_one (sexpr (mcall (D_check_question W) (hr.mono (by decide)) passesX (mac (mv 0) (mac (mv 1) ma_nil)))))))
theorem D_check_asked (W : Wd P K mg) : FnD P w K mg base 7 "check_asked" 2 V_check_asked := by
  obtain ⟨f, fd, F, hm⟩ := W.f_check_asked
  exact ⟨f, fd, _, ok_check_asked W F, hm, F.kp, F.binds fun _ _ _ _ _ _ us hl => match us, hl with | [_, _], _ => rfl⟩
theorem sc_is_plot_more : FnScope ["trial", "value"] ["trial", "value"] (defScope st_is_plot_more) := ⟨rfl, rfl, rfl, by decide +kernel, rfl, by decide +kernel, by decide +kernel⟩
def B_is_plot_more : Sm := (sCons (sIf (tOr (tNot (tE (eCallI V_is_tuple_of (aCons (eVar 1) (aCons (eC (.int 3)) aNil))))) (tOr (tNot (tE (eCallI V_is_question_by (aCons (eVar 0) (aCons (eOp2 fIx (eVar 1) (eC (.int 0))) aNil))))) (tOr (tNot (tE (eCallI V_is_ratio (aCons (eOp2 fIx (eVar 1) (eC (.int 1))) aNil)))) (tE (eOp2 fLe (eOp2 fIx (eOp2 fIx (eVar 1) (eC (.int 1))) (eC (.int 0))) (eC (.int 0))))))) (sRet (eC (.bool false))) sNil)
    (sRet (eIf (tE (eOp2 fEq (eOp2 fIx (eVar 0) (eC (.int 2))) (eTup aNil))) (eOp2 fIsN (eOp2 fIx (eVar 1) (eC (.int 2))) (eC .none)) (eCallI V_is_between (aCons (eOp2 fIx (eVar 1) (eC (.int 2))) (aCons (eC (.int 0)) (aCons (eC (.int 4)) aNil)))))))
def V_is_plot_more : Fm := fnV 2 2 B_is_plot_more
theorem ok_is_plot_more (W : Wd P K mg) {f : Addr} {fd : FuncData} (F : Fun K "is_plot_more" "is_plot_more" st_is_plot_more f fd) : FnOk P w K mg base (L2N.CX P w) 5 f fd ["trial", "value"] (tSp K mg V_is_plot_more) :=
  fn_ok F sc_is_plot_more rfl rfl (fun cdv A outer s H E hr => (ms_cons (ms_if (PW.pt (mw_or (mt_not (tval (mcall (D_is_tuple_of W) (hr.mono (by decide)) passesX (mac (mv 1) (mac me_int ma_nil))))) (mw_or (mt_not (tval (mcall (D_is_question_by W) (hr.mono (by decide)) passesX (mac (mv 0) (mac (mxi (mv 1) me_int) ma_nil))))) (mw_or (mt_not (tval (mcall (D_is_ratio W) (hr.mono (by decide)) passesX (mac (mxi (mv 1) me_int) ma_nil)))) (mw_or1 (tcmp c_le (mxi (mxi (mv 1) me_int) me_int) me_int)))))) (ms_one (ms_ret me_bl)) ms_nil)
    (ms_one (ms_ret (me_ifE (tcmp (c_eq (hu65 hr)) (mxi (mv 0) me_int) (me_tup ma_nil)) (mcmp c_is (mxi (mv 1) me_int) me_non) (mcall (D_is_between W) (hr.mono (by decide)) passesX (mac (mxi (mv 1) me_int) (mac me_int (mac (mgl W.g_MOST_BLOCK) ma_nil)))))))))
theorem D_is_plot_more (W : Wd P K mg) : FnD P w K mg base 5 "is_plot_more" 2 V_is_plot_more := by
  obtain ⟨f, fd, F, hm⟩ := W.f_is_plot_more
  exact ⟨f, fd, _, ok_is_plot_more W F, hm, F.kp, F.binds fun _ _ _ _ _ _ us hl => match us, hl with | [_, _], _ => rfl⟩
theorem sc_wrong_in_candidates : FnScope ["trial", "value", "index", "each"] ["trial", "value"] (defScope st_wrong_in_candidates) := ⟨rfl, rfl, rfl, by decide +kernel, rfl, by decide +kernel, by decide +kernel⟩
def B_wrong_in_candidates : Sm := (sCons (sIf (tOr (tNot (tE (eOp1 (fIsi .tuple) (eVar 1)))) (tNot (tE (eChain fLe fLe (eC (.int 1)) (eArgs (b1 bLen) (aCons (eVar 1) aNil)) (eC (.int 8)))))) (sRet (eLst false (aCons (eC .none) aNil))) sNil)
    (sRet (eSl false (eLc false (iEnum (eVar 1)) (gTup 2 (gsCons (gVar 2) (gsCons (gVar 3) gsNil))) (tNot (tE (eCallI V_is_plot_more (aCons (eVar 0) (aCons (eVar 3) aNil))))) (eVar 2) [2, 3]) oNone (oSome (eC (.int 1))))))
def V_wrong_in_candidates : Fm := fnV 2 4 B_wrong_in_candidates
theorem ok_wrong_in_candidates (W : Wd P K mg) {f : Addr} {fd : FuncData} (F : Fun K "wrong_in_candidates" "wrong_in_candidates" st_wrong_in_candidates f fd) : FnOk P w K mg base (L2N.CX P w) 6 f fd ["trial", "value"] (tSp K mg V_wrong_in_candidates) :=
  fn_ok F sc_wrong_in_candidates rfl rfl (fun cdv A outer s H E hr => (ms_cons (ms_if (PW.pt (mw_or (mt_not (tval (misi .tuple (W.fr "isinstance" (by decide)) (W.fr "tuple" (by decide)) PyProof.Rows.Boot.«tuple» (mv 1)))) (mw_or1 (mt_not (tchain c_le c_le me_int (mcb (bo_len) (W.fr "len" (by decide)) PyProof.Rows.Boot.«len» (mac (mv 1) ma_nil)) (mgl W.g_MOST_CANDIDATES)))))) (ms_one (ms_ret (me_lst (mac me_non ma_nil)))) ms_nil)
    (ms_one (ms_ret (me_slice (mlc ([("index", 2), ("each", 3)] : List (Str × Nat)) sc_wrong_in_candidates.nd (ienum (W.fr "enumerate" (by decide)) (mv 1)) (fun s H C cl fp => (gt (gc (gv 2 sc_wrong_in_candidates.nd) (gc (gv 3 sc_wrong_in_candidates.nd) mgs_nil)))) (fun s H C cl fp => (mts_one (mt_not (tval (mcall (D_is_plot_more W) (hr.mono (by decide)) passLN (mac (mv 0) (mac (mv 3) ma_nil))))))) (fun s H C cl fp => (mv 2))) mo_none (mo_some me_int))))))
theorem D_wrong_in_candidates (W : Wd P K mg) : FnD P w K mg base 6 "wrong_in_candidates" 2 V_wrong_in_candidates := by
  obtain ⟨f, fd, F, hm⟩ := W.f_wrong_in_candidates
  exact ⟨f, fd, _, ok_wrong_in_candidates W F, hm, F.kp, F.binds fun _ _ _ _ _ _ us hl => match us, hl with | [_, _], _ => rfl⟩
theorem sc_check_candidates : FnScope ["trial", "candidates", "index"] ["trial", "candidates"] (defScope st_check_candidates) := ⟨rfl, rfl, rfl, by decide +kernel, rfl, by decide +kernel, by decide +kernel⟩
def B_check_candidates : Sm := (sFor (iSeq (eCallI V_wrong_in_candidates (aCons (eVar 0) (aCons (eVar 1) aNil)))) (gVar 2) (sRaiseX "InvalidRows" "index" (eVar 2)))
def V_check_candidates : Fm := fnV 2 3 B_check_candidates
theorem ok_check_candidates (W : Wd P K mg) {f : Addr} {fd : FuncData} (F : Fun K "check_candidates" "check_candidates" st_check_candidates f fd) : FnOk P w K mg base (L2N.CX P w) 7 f fd ["trial", "candidates"] (tSp K mg V_check_candidates) :=
  fn_ok F sc_check_candidates rfl rfl (fun cdv A outer s H E hr => (ms_one (sfor [2] (passes_of rfl) (mi_seq (mcall (D_wrong_in_candidates W) (hr.mono (by decide)) passesX (mac (mv 0) (mac (mv 1) ma_nil)))) (gv 2 sc_check_candidates.nd) (ms_one (sraise PySem.MKX.fld_index (W.e_InvalidRows).choose_spec.choose_spec hr (L2N.takes_of rfl rfl rfl rfl) (mv 2))))))
theorem D_check_candidates (W : Wd P K mg) : FnD P w K mg base 7 "check_candidates" 2 V_check_candidates := by
  obtain ⟨f, fd, F, hm⟩ := W.f_check_candidates
  exact ⟨f, fd, _, ok_check_candidates W F, hm, F.kp, F.binds fun _ _ _ _ _ _ us hl => match us, hl with | [_, _], _ => rfl⟩
theorem sc_check_many : FnScope ["value", "low", "high"] ["value", "low", "high"] (defScope st_check_many) := ⟨rfl, rfl, rfl, by decide +kernel, rfl, by decide +kernel, by decide +kernel⟩
def B_check_many : Sm := (sIf (tNot (tE (eCallI V_is_between (aCons (eVar 0) (aCons (eVar 1) (aCons (eVar 2) aNil)))))) (sRaiseX "InvalidNumber" "given" (eVar 0)) sNil)
def V_check_many : Fm := fnV 3 3 B_check_many
theorem ok_check_many (W : Wd P K mg) {f : Addr} {fd : FuncData} (F : Fun K "check_many" "check_many" st_check_many f fd) : FnOk P w K mg base (L2N.CX P w) 3 f fd ["value", "low", "high"] (tSp K mg V_check_many) :=
  fn_ok F sc_check_many rfl rfl (fun cdv A outer s H E hr => (ms_one (ms_if (mt_not (tval (mcall (D_is_between W) (hr.mono (by decide)) passesX (mac (mv 0) (mac (mv 1) (mac (mv 2) ma_nil)))))) (ms_one (sraise PySem.MKX.fld_given (W.e_InvalidNumber).choose_spec.choose_spec hr (L2N.takes_of rfl rfl rfl rfl) (mv 0))) ms_nil)))
theorem D_check_many (W : Wd P K mg) : FnD P w K mg base 3 "check_many" 3 V_check_many := by
  obtain ⟨f, fd, F, hm⟩ := W.f_check_many
  exact ⟨f, fd, _, ok_check_many W F, hm, F.kp, F.binds fun _ _ _ _ _ _ us hl => match us, hl with | [_, _, _], _ => rfl⟩
theorem sc_many_plots : FnScope ["trial"] ["trial"] (defScope st_many_plots) := ⟨rfl, rfl, rfl, by decide +kernel, rfl, by decide +kernel, by decide +kernel⟩
def B_many_plots : Sm := (sRet (eArgs (b1 bLen) (aCons (eOp2 fIx (eVar 0) (eC (.int 0))) aNil)))
def V_many_plots : Fm := fnV 1 1 B_many_plots
theorem ok_many_plots (W : Wd P K mg) {f : Addr} {fd : FuncData} (F : Fun K "many_plots" "many_plots" st_many_plots f fd) : FnOk P w K mg base (L2N.CX P w) 1 f fd ["trial"] (tSp K mg V_many_plots) :=
  fn_ok F sc_many_plots rfl rfl (fun cdv A outer s H E hr => (ms_one (ms_ret (mcb (bo_len) (W.fr "len" (by decide)) PyProof.Rows.Boot.«len» (mac (mxi (mv 0) me_int) ma_nil)))))
theorem D_many_plots (W : Wd P K mg) : FnD P w K mg base 1 "many_plots" 1 V_many_plots := by
  obtain ⟨f, fd, F, hm⟩ := W.f_many_plots
  exact ⟨f, fd, _, ok_many_plots W F, hm, F.kp, F.binds fun _ _ _ _ _ _ us hl => match us, hl with | [_], _ => rfl⟩
theorem sc_check_room : FnScope ["trial", "many"] ["trial", "many"] (defScope st_check_room) := ⟨rfl, rfl, rfl, by decide +kernel, rfl, by decide +kernel, by decide +kernel⟩
def B_check_room : Sm := (sIf (tE (eOp2 fGt (eOp2 (fAdd false) (eCallI V_many_plots (aCons (eVar 0) aNil)) (eVar 1)) (eC (.int 10)))) (sRaiseX "Unfit" "given" (eOp2 (fAdd false) (eCallI V_many_plots (aCons (eVar 0) aNil)) (eVar 1))) sNil)
def V_check_room : Fm := fnV 2 2 B_check_room
theorem ok_check_room (W : Wd P K mg) {f : Addr} {fd : FuncData} (F : Fun K "check_room" "check_room" st_check_room f fd) : FnOk P w K mg base (L2N.CX P w) 2 f fd ["trial", "many"] (tSp K mg V_check_room) :=
  fn_ok F sc_check_room rfl rfl (fun cdv A outer s H E hr => (ms_one (ms_if (tcmp c_gt (me_add (mcall (D_many_plots W) (hr.mono (by decide)) passesX (mac (mv 0) ma_nil)) (mv 1)) (mgl W.g_MOST_PLOTS)) (ms_one (sraise PySem.MKX.fld_given (W.e_Unfit).choose_spec.choose_spec hr (L2N.takes_of rfl rfl rfl rfl) (me_add (mcall (D_many_plots W) (hr.mono (by decide)) passesX (mac (mv 0) ma_nil)) (mv 1)))) ms_nil)))
theorem D_check_room (W : Wd P K mg) : FnD P w K mg base 2 "check_room" 2 V_check_room := by
  obtain ⟨f, fd, F, hm⟩ := W.f_check_room
  exact ⟨f, fd, _, ok_check_room W F, hm, F.kp, F.binds fun _ _ _ _ _ _ us hl => match us, hl with | [_, _], _ => rfl⟩
theorem sc_ratio : FnScope ["top", "low", "part"] ["top", "low"] (defScope st_ratio) := ⟨rfl, rfl, rfl, by decide +kernel, rfl, by decide +kernel, by decide +kernel⟩
def B_ratio : Sm := (sCons (sAsg (eIf (tE (eOp2 fGt (eVar 1) (eC (.int 0)))) (eArgs (b2 bGcd) (aCons (eVar 0) (aCons (eVar 1) aNil))) (eOp1 fNeg (eArgs (b2 bGcd) (aCons (eVar 0) (aCons (eVar 1) aNil))))) (gVar 2))
    (sRet (eTup (aCons (eOp2 fDiv (eVar 0) (eVar 2)) (aCons (eOp2 fDiv (eVar 1) (eVar 2)) aNil)))))
def V_ratio : Fm := fnV 2 3 B_ratio
theorem ok_ratio (W : Wd P K mg) {f : Addr} {fd : FuncData} (F : Fun K "ratio" "ratio" st_ratio f fd) : FnOk P w K mg base (L2N.CX P w) 1 f fd ["top", "low"] (tSp K mg V_ratio) :=
  fn_ok F sc_ratio rfl rfl (fun cdv A outer s H E hr => (ms_cons (sset 2 sc_ratio.nd (me_ifE (tcmp c_gt (mv 1) me_int) (mcg bo_gcd W.gcd (mac (mv 0) (mac (mv 1) ma_nil))) (me_neg (mcg bo_gcd W.gcd (mac (mv 0) (mac (mv 1) ma_nil))))))
    (ms_one (ms_ret (me_tup (mac (me_div (mv 0) (mv 2)) (mac (me_div (mv 1) (mv 2)) ma_nil)))))))
theorem D_ratio (W : Wd P K mg) : FnD P w K mg base 1 "ratio" 2 V_ratio := by
  obtain ⟨f, fd, F, hm⟩ := W.f_ratio
  exact ⟨f, fd, _, ok_ratio W F, hm, F.kp, F.binds fun _ _ _ _ _ _ us hl => match us, hl with | [_, _], _ => rfl⟩
theorem sc_over : FnScope ["one", "two"] ["one", "two"] (defScope st_over) := ⟨rfl, rfl, rfl, by decide +kernel, rfl, by decide +kernel, by decide +kernel⟩
def B_over : Sm := (sRet (eCallI V_ratio (aCons (eOp2 (fMul false) (eOp2 fIx (eVar 0) (eC (.int 0))) (eOp2 fIx (eVar 1) (eC (.int 1)))) (aCons (eOp2 (fMul false) (eOp2 fIx (eVar 0) (eC (.int 1))) (eOp2 fIx (eVar 1) (eC (.int 0)))) aNil))))
def V_over : Fm := fnV 2 2 B_over
theorem ok_over (W : Wd P K mg) {f : Addr} {fd : FuncData} (F : Fun K "over" "over" st_over f fd) : FnOk P w K mg base (L2N.CX P w) 2 f fd ["one", "two"] (tSp K mg V_over) :=
  fn_ok F sc_over rfl rfl (fun cdv A outer s H E hr => (ms_one (ms_ret (mcall (D_ratio W) (hr.mono (by decide)) passesX (mac (me_mul (mxi (mv 0) me_int) (mxi (mv 1) me_int)) (mac (me_mul (mxi (mv 0) me_int) (mxi (mv 1) me_int)) ma_nil))))))
theorem D_over (W : Wd P K mg) : FnD P w K mg base 2 "over" 2 V_over := by
  obtain ⟨f, fd, F, hm⟩ := W.f_over
  exact ⟨f, fd, _, ok_over W F, hm, F.kp, F.binds fun _ _ _ _ _ _ us hl => match us, hl with | [_, _], _ => rfl⟩
theorem sc_minus : FnScope ["one", "two"] ["one", "two"] (defScope st_minus) := ⟨rfl, rfl, rfl, by decide +kernel, rfl, by decide +kernel, by decide +kernel⟩
def B_minus : Sm := (sRet (eCallI V_ratio (aCons (eOp2 fSub (eOp2 (fMul false) (eOp2 fIx (eVar 0) (eC (.int 0))) (eOp2 fIx (eVar 1) (eC (.int 1)))) (eOp2 (fMul false) (eOp2 fIx (eVar 1) (eC (.int 0))) (eOp2 fIx (eVar 0) (eC (.int 1))))) (aCons (eOp2 (fMul false) (eOp2 fIx (eVar 0) (eC (.int 1))) (eOp2 fIx (eVar 1) (eC (.int 1)))) aNil))))
def V_minus : Fm := fnV 2 2 B_minus
theorem ok_minus (W : Wd P K mg) {f : Addr} {fd : FuncData} (F : Fun K "minus" "minus" st_minus f fd) : FnOk P w K mg base (L2N.CX P w) 2 f fd ["one", "two"] (tSp K mg V_minus) :=
  fn_ok F sc_minus rfl rfl (fun cdv A outer s H E hr => (ms_one (ms_ret (mcall (D_ratio W) (hr.mono (by decide)) passesX (mac (me_sub (me_mul (mxi (mv 0) me_int) (mxi (mv 1) me_int)) (me_mul (mxi (mv 1) me_int) (mxi (mv 0) me_int))) (mac (me_mul (mxi (mv 0) me_int) (mxi (mv 1) me_int)) ma_nil))))))
theorem D_minus (W : Wd P K mg) : FnD P w K mg base 2 "minus" 2 V_minus := by
  obtain ⟨f, fd, F, hm⟩ := W.f_minus
  exact ⟨f, fd, _, ok_minus W F, hm, F.kp, F.binds fun _ _ _ _ _ _ us hl => match us, hl with | [_, _], _ => rfl⟩
theorem sc_times : FnScope ["one", "two"] ["one", "two"] (defScope st_times) := ⟨rfl, rfl, rfl, by decide +kernel, rfl, by decide +kernel, by decide +kernel⟩
def B_times : Sm := (sRet (eCallI V_ratio (aCons (eOp2 (fMul false) (eOp2 fIx (eVar 0) (eC (.int 0))) (eOp2 fIx (eVar 1) (eC (.int 0)))) (aCons (eOp2 (fMul false) (eOp2 fIx (eVar 0) (eC (.int 1))) (eOp2 fIx (eVar 1) (eC (.int 1)))) aNil))))
def V_times : Fm := fnV 2 2 B_times
theorem ok_times (W : Wd P K mg) {f : Addr} {fd : FuncData} (F : Fun K "times" "times" st_times f fd) : FnOk P w K mg base (L2N.CX P w) 2 f fd ["one", "two"] (tSp K mg V_times) :=
  fn_ok F sc_times rfl rfl (fun cdv A outer s H E hr => (ms_one (ms_ret (mcall (D_ratio W) (hr.mono (by decide)) passesX (mac (me_mul (mxi (mv 0) me_int) (mxi (mv 1) me_int)) (mac (me_mul (mxi (mv 0) me_int) (mxi (mv 1) me_int)) ma_nil))))))
theorem D_times (W : Wd P K mg) : FnD P w K mg base 2 "times" 2 V_times := by
  obtain ⟨f, fd, F, hm⟩ := W.f_times
  exact ⟨f, fd, _, ok_times W F, hm, F.kp, F.binds fun _ _ _ _ _ _ us hl => match us, hl with | [_, _], _ => rfl⟩
theorem sc_without_column : FnScope ["row", "lead", "column", "by", "here", "there"] ["row", "lead", "column"] (defScope st_without_column) := ⟨rfl, rfl, rfl, by decide +kernel, rfl, by decide +kernel, by decide +kernel⟩
def B_without_column : Sm := (sCons (sAsg (eOp2 fIx (eVar 0) (eVar 2)) (gVar 3))
    (sRet (eIf (tE (eOp2 fEq (eVar 3) (eC (.tuple [.int 0, .int 1])))) (eVar 0) (eLc false (iZip (eVar 0) (eVar 1)) (gTup 2 (gsCons (gVar 4) (gsCons (gVar 5) gsNil))) tYesM (eCallI V_minus (aCons (eVar 4) (aCons (eCallI V_times (aCons (eVar 3) (aCons (eVar 5) aNil))) aNil))) [4, 5]))))
def V_without_column : Fm := fnV 3 6 B_without_column
theorem ok_without_column (W : Wd P K mg) {f : Addr} {fd : FuncData} (F : Fun K "without_column" "without_column" st_without_column f fd) : FnOk P w K mg base (L2N.CX P w) 3 f fd ["row", "lead", "column"] (tSp K mg V_without_column) :=
  fn_ok F sc_without_column rfl rfl (fun cdv A outer s H E hr => (ms_cons (sset 3 sc_without_column.nd (mxi (mv 0) (mv 2)))
    (ms_one (ms_ret (me_ifE (tcmp (c_eq (hu65 hr)) (mv 3) (mgl W.g_ZERO)) (mv 0) (mlc ([("here", 4), ("there", 5)] : List (Str × Nat)) sc_without_column.nd (izip (W.fr "zip" (by decide)) (mv 0) (mv 1)) (fun s H C cl fp => (gt (gc (gv 4 sc_without_column.nd) (gc (gv 5 sc_without_column.nd) mgs_nil)))) (fun s H C cl fp => mts_nil) (fun s H C cl fp => (mcall (D_minus W) (hr.mono (by decide)) passLN (mac (mv 4) (mac (mcall (D_times W) (hr.mono (by decide)) passLN (mac (mv 3) (mac (mv 5) ma_nil))) ma_nil))))))))))
theorem D_without_column (W : Wd P K mg) : FnD P w K mg base 3 "without_column" 3 V_without_column := by
  obtain ⟨f, fd, F, hm⟩ := W.f_without_column
  exact ⟨f, fd, _, ok_without_column W F, hm, F.kp, F.binds fun _ _ _ _ _ _ us hl => match us, hl with | [_, _, _], _ => rfl⟩
theorem sc_brought : FnScope ["table", "many", "rows", "leads", "column", "done", "spots", "lead", "row", "at", "each"] ["table", "many"] (defScope st_brought) := ⟨rfl, rfl, rfl, by decide +kernel, rfl, by decide +kernel, by decide +kernel⟩
def B_brought : Sm := (sCons (sPar 2 3 (aCons (eLc true (iSeq (eVar 0)) (gVar 8) tYesM (eArgs (b1 (bList false)) (aCons (eVar 8) aNil)) [8]) (aCons (eLst true aNil) aNil)))
    (sCons (sFor (iRng1 (eVar 1)) (gVar 4) (sCons (sAsg (eArgs (b1 bLen) (aCons (eVar 3) aNil)) (gVar 5))
    (sCons (sAsg (eLc false (iRng2 (eVar 5) (eArgs (b1 bLen) (aCons (eVar 2) aNil))) (gVar 9) (tE (eOp2 fNe (eOp2 fIx (eOp2 fIx (eVar 2) (eVar 9)) (eVar 4)) (eC (.tuple [.int 0, .int 1])))) (eVar 9) [9]) (gVar 6))
    (sIf (tE (eOp2 fNe (eVar 6) (eLst false aNil))) (sCons (sAsg (eTup (aCons (eOp2 fIx (eVar 2) (eOp2 fIx (eVar 6) (eC (.int 0)))) (aCons (eOp2 fIx (eVar 2) (eVar 5)) aNil))) (gTup 2 (gsCons (gIx (eVar 2) (eVar 5)) (gsCons (gIx (eVar 2) (eOp2 fIx (eVar 6) (eC (.int 0)))) gsNil))))
    (sCons (sAsg (eLc false (iSeq (eOp2 fIx (eVar 2) (eVar 5))) (gVar 10) tYesM (eCallI V_over (aCons (eVar 10) (aCons (eOp2 fIx (eOp2 fIx (eVar 2) (eVar 5)) (eVar 4)) aNil))) [10]) (gVar 7))
    (sCons (sAsg (eLc true (iEnum (eFrz 2)) (gTup 2 (gsCons (gVar 9) (gsCons (gVar 8) gsNil))) tYesM (eIf (tE (eOp2 fEq (eVar 9) (eVar 5))) (eVar 7) (eCallI V_without_column (aCons (eVar 8) (aCons (eVar 7) (aCons (eVar 4) aNil))))) [9, 8]) (gVar 2))
    (sExpr (fun ρ => mB ((eVar 3) ρ) fun x => mB (isLs x) fun _ => mB ((eVar 4) ρ) fun y => mApp x y))))) sNil))))
    (sRet (eTup (aCons (eFrz 2) (aCons (eFrz 3) aNil))))))
def V_brought : Fm := fnV 2 11 B_brought
theorem ok_brought (W : Wd P K mg) {f : Addr} {fd : FuncData} (F : Fun K "brought" "brought" st_brought f fd) : FnOk P w K mg base (L2N.CX P w) 4 f fd ["table", "many"] (tSp K mg V_brought) :=
  fn_ok F sc_brought rfl rfl (fun cdv A outer s H E hr => (ms_cons (sparC 2 3 sc_brought.nd (mac (mlc ([("row", 8)] : List (Str × Nat)) sc_brought.nd (mi_seq (mv 0)) (fun s H C cl fp => (gv 8 sc_brought.nd)) (fun s H C cl fp => mts_nil) (fun s H C cl fp => (mct bo_list (W.fr "list" (by decide)) PyProof.Rows.Boot.«list» (mac (mv 8) ma_nil)))) (mac (me_lst ma_nil) ma_nil)))
    (ms_cons (sfor [4] (passes_of rfl) (irng1 (W.fr "range" (by decide)) (mv 1)) (gv 4 sc_brought.nd) (ms_cons (sset 5 sc_brought.nd (mcb (bo_len) (W.fr "len" (by decide)) PyProof.Rows.Boot.«len» (mac (mv 3) ma_nil)))
    (ms_cons (ssetLc 6 ([("at", 9)] : List (Str × Nat)) sc_brought.nd (irng2 (W.fr "range" (by decide)) (mv 5) (mcb (bo_len) (W.fr "len" (by decide)) PyProof.Rows.Boot.«len» (mac (mv 2) ma_nil))) (fun s H C cl fp => (gv 9 sc_brought.nd)) (fun s H C cl fp => (mts_one (tcmp (c_ne (hu65 hr)) (mxi (mxi (mv 2) (mv 9)) (mv 4)) (mgl W.g_ZERO)))) (fun s H C cl fp => (mv 9)))
    (ms_one (ms_if (tcmp (c_ne (hu65 hr)) (mv 6) (me_lst ma_nil)) (ms_cons (sasg [] (me_tup (mac (mxi (mv 2) (mxi (mv 6) me_int)) (mac (mxi (mv 2) (mv 5)) ma_nil))) (gt (gc (gi (mv 2) (mv 5)) (gc (gi (mv 2) (mxi (mv 6) me_int)) mgs_nil))))
    (ms_cons (sset 7 sc_brought.nd (mlc ([("each", 10)] : List (Str × Nat)) sc_brought.nd (mi_seq (mxi (mv 2) (mv 5))) (fun s H C cl fp => (gv 10 sc_brought.nd)) (fun s H C cl fp => mts_nil) (fun s H C cl fp => (mcall (D_over W) (hr.mono (by decide)) passLN (mac (mv 10) (mac (mxi (mxi (mv 2) (mv 5)) (mv 4)) ma_nil))))))
    (ms_cons (sset 2 sc_brought.nd (mlc ([("at", 9), ("row", 8)] : List (Str × Nat)) sc_brought.nd (ienum (W.fr "enumerate" (by decide)) (mz 2)) (fun s H C cl fp => (gt (gc (gv 9 sc_brought.nd) (gc (gv 8 sc_brought.nd) mgs_nil)))) (fun s H C cl fp => mts_nil) (fun s H C cl fp => (me_ifE (tcmp (c_eq (hu65 hr)) (mv 9) (mv 5)) (mv 7) (mcall (D_without_column W) (hr.mono (by decide)) passLN (mac (mv 8) (mac (mv 7) (mac (mv 4) ma_nil))))))))
    (ms_one (sexpr (sapp (mv 3) (mv 4))))))) ms_nil)))))
    (ms_one (ms_ret (me_tup (mac (mz 2) (mac (mz 3) ma_nil))))))))
theorem D_brought (W : Wd P K mg) : FnD P w K mg base 4 "brought" 2 V_brought := by
  obtain ⟨f, fd, F, hm⟩ := W.f_brought
  exact ⟨f, fd, _, ok_brought W F, hm, F.kp, F.binds fun _ _ _ _ _ _ us hl => match us, hl with | [_, _], _ => rfl⟩
theorem sc_some_answer : FnScope ["table", "rights", "many", "rows", "leads", "found", "row", "column", "right"] ["table", "rights"] (defScope st_some_answer) := ⟨rfl, rfl, rfl, by decide +kernel, rfl, by decide +kernel, by decide +kernel⟩
def B_some_answer : Sm := (sCons (sAsg (eArgs (b1 bLen) (aCons (eOp2 fIx (eVar 0) (eC (.int 0))) aNil)) (gVar 2))
    (sCons (sAsg (eCallI V_brought (aCons (eLc false (iZip (eVar 0) (eVar 1)) (gTup 2 (gsCons (gVar 6) (gsCons (gVar 8) gsNil))) tYesM (eLst false (aStar (eVar 6) (aCons (eVar 8) aNil))) [6, 8]) (aCons (eVar 2) aNil))) (gTup 2 (gsCons (gVar 3) (gsCons (gVar 4) gsNil))))
    (sCons (sIf (tE (eArgs (b1 bAny) (aCons (eLc false (iSeq (eSl false (eVar 3) (oSome (eArgs (b1 bLen) (aCons (eVar 4) aNil))) oNone)) (gVar 6) tYesM (eOp2 fNe (eOp2 fIx (eVar 6) (eVar 2)) (eC (.tuple [.int 0, .int 1]))) [6]) aNil))) (sRet (eLst false aNil)) sNil)
    (sCons (sAsg (eOp2 (fMul true) (eLst false (aCons (eC (.tuple [.int 0, .int 1])) aNil)) (eVar 2)) (gVar 5))
    (sCons (sFor (iZip (eVar 3) (eVar 4)) (gTup 2 (gsCons (gVar 6) (gsCons (gVar 7) gsNil))) (sAsg (eOp2 fIx (eVar 6) (eVar 2)) (gIx (eVar 5) (eVar 7))))
    (sRet (eLst false (aCons (eFrz 5) aNil))))))))
def V_some_answer : Fm := fnV 2 9 B_some_answer
theorem ok_some_answer (W : Wd P K mg) {f : Addr} {fd : FuncData} (F : Fun K "some_answer" "some_answer" st_some_answer f fd) : FnOk P w K mg base (L2N.CX P w) 5 f fd ["table", "rights"] (tSp K mg V_some_answer) :=
  fn_ok F sc_some_answer rfl rfl (fun cdv A outer s H E hr => (ms_cons (sset 2 sc_some_answer.nd (mcb (bo_len) (W.fr "len" (by decide)) PyProof.Rows.Boot.«len» (mac (mxi (mv 0) me_int) ma_nil)))
    (ms_cons (sasg [3, 4] (mcall (D_brought W) (hr.mono (by decide)) passesX (mac (mlc ([("row", 6), ("right", 8)] : List (Str × Nat)) sc_some_answer.nd (izip (W.fr "zip" (by decide)) (mv 0) (mv 1)) (fun s H C cl fp => (gt (gc (gv 6 sc_some_answer.nd) (gc (gv 8 sc_some_answer.nd) mgs_nil)))) (fun s H C cl fp => mts_nil) (fun s H C cl fp => (me_lst (mas (mv 6) (mac (mv 8) ma_nil))))) (mac (mv 2) ma_nil))) (gt (gc (gv 3 sc_some_answer.nd) (gc (gv 4 sc_some_answer.nd) mgs_nil))))
    (ms_cons (ms_if (tval (mcb (bo_any rfl) (W.fr "any" (by decide)) PyProof.Rows.Boot.«any» (mac (mlc ([("row", 6)] : List (Str × Nat)) sc_some_answer.nd (mi_seq (me_slice (mv 3) (mo_some (mcb (bo_len) (W.fr "len" (by decide)) PyProof.Rows.Boot.«len» (mac (mv 4) ma_nil))) mo_none)) (fun s H C cl fp => (gv 6 sc_some_answer.nd)) (fun s H C cl fp => mts_nil) (fun s H C cl fp => (mcmp (c_ne (hu65 hr)) (mxi (mv 6) (mv 2)) (mgl W.g_ZERO)))) ma_nil))) (ms_one (ms_ret (me_lst ma_nil))) ms_nil)
    (ms_cons (sset 5 sc_some_answer.nd (me_mul (me_lst (mac (mgl W.g_ZERO) ma_nil)) (mv 2)))
    (ms_cons (sfor [6, 7] (passes_of rfl) (izip (W.fr "zip" (by decide)) (mv 3) (mv 4)) (gt (gc (gv 6 sc_some_answer.nd) (gc (gv 7 sc_some_answer.nd) mgs_nil))) (ms_one (sasg [] (mxi (mv 6) (mv 2)) (gi (mv 5) (mv 7)))))
    (ms_one (ms_ret (me_lst (mac (mz 5) ma_nil))))))))))
theorem D_some_answer (W : Wd P K mg) : FnD P w K mg base 5 "some_answer" 2 V_some_answer := by
  obtain ⟨f, fd, F, hm⟩ := W.f_some_answer
  exact ⟨f, fd, _, ok_some_answer W F, hm, F.kp, F.binds fun _ _ _ _ _ _ us hl => match us, hl with | [_, _], _ => rfl⟩
theorem sc_turned : FnScope ["table", "at", "row"] ["table"] (defScope st_turned) := ⟨rfl, rfl, rfl, by decide +kernel, rfl, by decide +kernel, by decide +kernel⟩
def B_turned : Sm := (sRet (eLc false (iRng1 (eArgs (b1 bLen) (aCons (eOp2 fIx (eVar 0) (eC (.int 0))) aNil))) (gVar 1) tYesM (eLc false (iSeq (eVar 0)) (gVar 2) tYesM (eOp2 fIx (eVar 2) (eVar 1)) [2]) [1]))
def V_turned : Fm := fnV 1 3 B_turned
theorem ok_turned (W : Wd P K mg) {f : Addr} {fd : FuncData} (F : Fun K "turned" "turned" st_turned f fd) : FnOk P w K mg base (L2N.CX P w) 1 f fd ["table"] (tSp K mg V_turned) :=
  fn_ok F sc_turned rfl rfl (fun cdv A outer s H E hr => (ms_one (ms_ret (mlc ([("at", 1)] : List (Str × Nat)) sc_turned.nd (irng1 (W.fr "range" (by decide)) (mcb (bo_len) (W.fr "len" (by decide)) PyProof.Rows.Boot.«len» (mac (mxi (mv 0) me_int) ma_nil))) (fun s H C cl fp => (gv 1 sc_turned.nd)) (fun s H C cl fp => mts_nil) (fun s H C cl fp => (mlc ([("row", 2)] : List (Str × Nat)) sc_turned.nd (mi_seq (mv 0)) (fun s H C cl fp => (gv 2 sc_turned.nd)) (fun s H C cl fp => mts_nil) (fun s H C cl fp => (mxi (mv 2) (mv 1)))))))))
theorem D_turned (W : Wd P K mg) : FnD P w K mg base 1 "turned" 1 V_turned := by
  obtain ⟨f, fd, F, hm⟩ := W.f_turned
  exact ⟨f, fd, _, ok_turned W F, hm, F.kp, F.binds fun _ _ _ _ _ _ us hl => match us, hl with | [_], _ => rfl⟩
theorem sc_many_levels : FnScope ["trial"] ["trial"] (defScope st_many_levels) := ⟨rfl, rfl, rfl, by decide +kernel, rfl, by decide +kernel, by decide +kernel⟩
def B_many_levels : Sm := (sRet (eIf (tE (eOp2 fNe (eOp2 fIx (eVar 0) (eC (.int 2))) (eTup aNil))) (eOp2 (fAdd false) (eArgs (b1 bMax) (aCons (eOp2 fIx (eVar 0) (eC (.int 2))) aNil)) (eC (.int 1))) (eC (.int 0))))
def V_many_levels : Fm := fnV 1 1 B_many_levels
theorem ok_many_levels (W : Wd P K mg) {f : Addr} {fd : FuncData} (F : Fun K "many_levels" "many_levels" st_many_levels f fd) : FnOk P w K mg base (L2N.CX P w) 1 f fd ["trial"] (tSp K mg V_many_levels) :=
  fn_ok F sc_many_levels rfl rfl (fun cdv A outer s H E hr => (ms_one (ms_ret (me_ifE (tcmp (c_ne (hu65 hr)) (mxi (mv 0) me_int) (me_tup ma_nil)) (me_add (mcb (bo_max rfl) (W.fr "max" (by decide)) PyProof.Rows.Boot.«max» (mac (mxi (mv 0) me_int) ma_nil)) me_int) me_int))))
theorem D_many_levels (W : Wd P K mg) : FnD P w K mg base 1 "many_levels" 1 V_many_levels := by
  obtain ⟨f, fd, F, hm⟩ := W.f_many_levels
  exact ⟨f, fd, _, ok_many_levels W F, hm, F.kp, F.binds fun _ _ _ _ _ _ us hl => match us, hl with | [_], _ => rfl⟩
theorem sc_whole_question : FnScope ["trial", "question"] ["trial", "question"] (defScope st_whole_question) := ⟨rfl, rfl, rfl, by decide +kernel, rfl, by decide +kernel, by decide +kernel⟩
def B_whole_question : Sm := (sRet (eLst false (aStar (eVar 1) (aStar (eOp2 (fMul false) (eLst false (aCons (eC (.tuple [.int 0, .int 1])) aNil)) (eCallI V_many_levels (aCons (eVar 0) aNil))) aNil))))
def V_whole_question : Fm := fnV 2 2 B_whole_question
theorem ok_whole_question (W : Wd P K mg) {f : Addr} {fd : FuncData} (F : Fun K "whole_question" "whole_question" st_whole_question f fd) : FnOk P w K mg base (L2N.CX P w) 2 f fd ["trial", "question"] (tSp K mg V_whole_question) :=
  fn_ok F sc_whole_question rfl rfl (fun cdv A outer s H E hr => (ms_one (ms_ret (me_lst (mas (mv 1) (mas (me_mul (me_lst (mac (mgl W.g_ZERO) ma_nil)) (mcall (D_many_levels W) (hr.mono (by decide)) passesX (mac (mv 0) ma_nil))) ma_nil))))))
theorem D_whole_question (W : Wd P K mg) : FnD P w K mg base 2 "whole_question" 2 V_whole_question := by
  obtain ⟨f, fd, F, hm⟩ := W.f_whole_question
  exact ⟨f, fd, _, ok_whole_question W F, hm, F.kp, F.binds fun _ _ _ _ _ _ us hl => match us, hl with | [_, _], _ => rfl⟩
theorem sc_whole_rows : FnScope ["trial", "levels", "plot", "row", "level"] ["trial"] (defScope st_whole_rows) := ⟨rfl, rfl, rfl, by decide +kernel, rfl, by decide +kernel, by decide +kernel⟩
def B_whole_rows : Sm := (sCons (sAsg (eArgs (b1 bRange1) (aCons (eCallI V_many_levels (aCons (eVar 0) aNil)) aNil)) (gVar 1))
    (sRet (eLc false (iEnum (eOp2 fIx (eVar 0) (eC (.int 0)))) (gTup 2 (gsCons (gVar 2) (gsCons (gVar 3) gsNil))) tYesM (eLst false (aStar (eVar 3) (aStar (eLc false (iRngV (eVar 1)) (gVar 4) tYesM (eIf (tE (eOp2 fEq (eOp2 fIx (eOp2 fIx (eVar 0) (eC (.int 2))) (eVar 2)) (eVar 4))) (eC (.tuple [.int 1, .int 1])) (eC (.tuple [.int 0, .int 1]))) [4]) aNil))) [2, 3])))
def V_whole_rows : Fm := fnV 1 5 B_whole_rows
theorem ok_whole_rows (W : Wd P K mg) {f : Addr} {fd : FuncData} (F : Fun K "whole_rows" "whole_rows" st_whole_rows f fd) : FnOk P w K mg base (L2N.CX P w) 2 f fd ["trial"] (tSp K mg V_whole_rows) :=
  fn_ok F sc_whole_rows rfl rfl (fun cdv A outer s H E hr => (ms_cons (sset 1 sc_whole_rows.nd (mct (bo_range1) (W.fr "range" (by decide)) PyProof.Rows.Boot.«range» (mac (mcall (D_many_levels W) (hr.mono (by decide)) passesX (mac (mv 0) ma_nil)) ma_nil)))
    (ms_one (ms_ret (mlc ([("plot", 2), ("row", 3)] : List (Str × Nat)) sc_whole_rows.nd (ienum (W.fr "enumerate" (by decide)) (mxi (mv 0) me_int)) (fun s H C cl fp => (gt (gc (gv 2 sc_whole_rows.nd) (gc (gv 3 sc_whole_rows.nd) mgs_nil)))) (fun s H C cl fp => mts_nil) (fun s H C cl fp => (me_lst (mas (mv 3) (mas (mlc ([("level", 4)] : List (Str × Nat)) sc_whole_rows.nd (mi_rngV (mv 1)) (fun s H C cl fp => (gv 4 sc_whole_rows.nd)) (fun s H C cl fp => mts_nil) (fun s H C cl fp => (me_ifE (tcmp (c_eq (hu65 hr)) (mxi (mxi (mv 0) me_int) (mv 2)) (mv 4)) (mgl W.g_ONE) (mgl W.g_ZERO)))) ma_nil)))))))))
theorem D_whole_rows (W : Wd P K mg) : FnD P w K mg base 2 "whole_rows" 1 V_whole_rows := by
  obtain ⟨f, fd, F, hm⟩ := W.f_whole_rows
  exact ⟨f, fd, _, ok_whole_rows W F, hm, F.kp, F.binds fun _ _ _ _ _ _ us hl => match us, hl with | [_], _ => rfl⟩
theorem sc_fair_by : FnScope ["trial", "question", "found", "each"] ["trial", "question"] (defScope st_fair_by) := ⟨rfl, rfl, rfl, by decide +kernel, rfl, by decide +kernel, by decide +kernel⟩
def B_fair_by : Sm := (sCons (sAsg (eCallI V_some_answer (aCons (eCallI V_turned (aCons (eCallI V_whole_rows (aCons (eVar 0) aNil)) aNil)) (aCons (eCallI V_whole_question (aCons (eVar 0) (aCons (eVar 1) aNil))) aNil))) (gVar 2))
    (sRet (eLc false (iSeq (eVar 2)) (gVar 3) tYesM (eArgs (b1 bTuple) (aCons (eVar 3) aNil)) [3])))
def V_fair_by : Fm := fnV 2 4 B_fair_by
theorem ok_fair_by (W : Wd P K mg) {f : Addr} {fd : FuncData} (F : Fun K "fair_by" "fair_by" st_fair_by f fd) : FnOk P w K mg base (L2N.CX P w) 6 f fd ["trial", "question"] (tSp K mg V_fair_by) :=
  fn_ok F sc_fair_by rfl rfl (fun cdv A outer s H E hr => (ms_cons (sset 2 sc_fair_by.nd (mcall (D_some_answer W) (hr.mono (by decide)) passesX (mac (mcall (D_turned W) (hr.mono (by decide)) passesX (mac (mcall (D_whole_rows W) (hr.mono (by decide)) passesX (mac (mv 0) ma_nil)) ma_nil)) (mac (mcall (D_whole_question W) (hr.mono (by decide)) passesX (mac (mv 0) (mac (mv 1) ma_nil))) ma_nil))))
    (ms_one (ms_ret (mlc ([("each", 3)] : List (Str × Nat)) sc_fair_by.nd (mi_seq (mv 2)) (fun s H C cl fp => (gv 3 sc_fair_by.nd)) (fun s H C cl fp => mts_nil) (fun s H C cl fp => (mct (bo_tuple) (W.fr "tuple" (by decide)) PyProof.Rows.Boot.«tuple» (mac (mv 3) ma_nil))))))))
theorem D_fair_by (W : Wd P K mg) : FnD P w K mg base 6 "fair_by" 2 V_fair_by := by
  obtain ⟨f, fd, F, hm⟩ := W.f_fair_by
  exact ⟨f, fd, _, ok_fair_by W F, hm, F.kp, F.binds fun _ _ _ _ _ _ us hl => match us, hl with | [_, _], _ => rfl⟩
theorem sc_check_told : FnScope ["trial", "question"] ["trial", "question"] (defScope st_check_told) := ⟨rfl, rfl, rfl, by decide +kernel, rfl, by decide +kernel, by decide +kernel⟩
def B_check_told : Sm := (sIf (tE (eOp2 fEq (eCallI V_fair_by (aCons (eVar 0) (aCons (eVar 1) aNil))) (eLst false aNil))) (sRaise0 "NotTold") sNil)
def V_check_told : Fm := fnV 2 2 B_check_told
theorem ok_check_told (W : Wd P K mg) {f : Addr} {fd : FuncData} (F : Fun K "check_told" "check_told" st_check_told f fd) : FnOk P w K mg base (L2N.CX P w) 7 f fd ["trial", "question"] (tSp K mg V_check_told) :=
  fn_ok F sc_check_told rfl rfl (fun cdv A outer s H E hr => (ms_one (ms_if (tcmp (c_eq (hu65 hr)) (mcall (D_fair_by W) (hr.mono (by decide)) passesX (mac (mv 0) (mac (mv 1) ma_nil))) (me_lst ma_nil)) (ms_one (sraise0 W.e_NotTold (L2N.takes_of rfl rfl rfl rfl))) ms_nil)))
theorem D_check_told (W : Wd P K mg) : FnD P w K mg base 7 "check_told" 2 V_check_told := by
  obtain ⟨f, fd, F, hm⟩ := W.f_check_told
  exact ⟨f, fd, _, ok_check_told W F, hm, F.kp, F.binds fun _ _ _ _ _ _ us hl => match us, hl with | [_, _], _ => rfl⟩
theorem sc_check_further : FnScope ["trial", "question", "candidates", "many"] ["trial", "question", "candidates", "many"] (defScope st_check_further) := ⟨rfl, rfl, rfl, by decide +kernel, rfl, by decide +kernel, by decide +kernel⟩
def B_check_further : Sm := (sCons (sExpr (eCallI V_check_asked (aCons (eVar 0) (aCons (eVar 1) aNil))))
    (sCons (sExpr (eCallI V_check_candidates (aCons (eVar 0) (aCons (eVar 2) aNil))))
    (sCons (sExpr (eCallI V_check_many (aCons (eVar 3) (aCons (eC (.int 0)) (aCons (eArgs (b1 bLen) (aCons (eVar 2) aNil)) aNil)))))
    (sCons (sExpr (eCallI V_check_room (aCons (eVar 0) (aCons (eVar 3) aNil))))
    (sExpr (eCallI V_check_told (aCons (eVar 0) (aCons (eVar 1) aNil))))))))
def V_check_further : Fm := fnV 4 4 B_check_further
theorem ok_check_further (W : Wd P K mg) {f : Addr} {fd : FuncData} (F : Fun K "check_further" "check_further" st_check_further f fd) : FnOk P w K mg base (L2N.CX P w) 8 f fd ["trial", "question", "candidates", "many"] (tSp K mg V_check_further) :=
  fn_ok F sc_check_further rfl rfl (fun cdv A outer s H E hr => (ms_cons (sexpr (mcall (D_check_asked W) (hr.mono (by decide)) passesX (mac (mv 0) (mac (mv 1) ma_nil))))
    (ms_cons (sexpr (mcall (D_check_candidates W) (hr.mono (by decide)) passesX (mac (mv 0) (mac (mv 2) ma_nil))))
    (ms_cons (sexpr (mcall (D_check_many W) (hr.mono (by decide)) passesX (mac (mv 3) (mac me_int (mac (mcb (bo_len) (W.fr "len" (by decide)) PyProof.Rows.Boot.«len» (mac (mv 2) ma_nil)) ma_nil)))))
    (ms_cons (sexpr (mcall (D_check_room W) (hr.mono (by decide)) passesX (mac (mv 0) (mac (mv 3) ma_nil))))
    (ms_one (sexpr (mcall (D_check_told W) (hr.mono (by decide)) passesX (mac (mv 0) (mac (mv 1) ma_nil))))))))))
theorem D_check_further (W : Wd P K mg) : FnD P w K mg base 8 "check_further" 4 V_check_further := by
  obtain ⟨f, fd, F, hm⟩ := W.f_check_further
  exact ⟨f, fd, _, ok_check_further W F, hm, F.kp, F.binds fun _ _ _ _ _ _ us hl => match us, hl with | [_, _, _, _], _ => rfl⟩
theorem sc_plot_lots : FnScope ["many", "size", "found", "plot", "lot"] ["many", "size"] (defScope st_plot_lots) := ⟨rfl, rfl, rfl, by decide +kernel, rfl, by decide +kernel, by decide +kernel⟩
def B_plot_lots : Sm := (sCons (sAsg (eLst false (aCons (eTup aNil) aNil)) (gVar 2))
    (sCons (sFor (iRng1 (eVar 0)) (gVar 3) (sAsg (eOp2 (fAdd false) (eVar 2) (eLc false (iSeq (eVar 2)) (gVar 4) (tE (eOp2 fLt (eArgs (b1 bLen) (aCons (eVar 4) aNil)) (eVar 1))) (eTup (aStar (eVar 4) (aCons (eVar 3) aNil))) [4])) (gVar 2)))
    (sRet (eLc false (iSeq (eVar 2)) (gVar 4) (tE (eOp2 fEq (eArgs (b1 bLen) (aCons (eVar 4) aNil)) (eVar 1))) (eVar 4) [4]))))
def V_plot_lots : Fm := fnV 2 5 B_plot_lots
theorem ok_plot_lots (W : Wd P K mg) {f : Addr} {fd : FuncData} (F : Fun K "plot_lots" "plot_lots" st_plot_lots f fd) : FnOk P w K mg base (L2N.CX P w) 1 f fd ["many", "size"] (tSp K mg V_plot_lots) :=
  fn_ok F sc_plot_lots rfl rfl (fun cdv A outer s H E hr => (ms_cons (sset 2 sc_plot_lots.nd (me_lst (mac (me_tup ma_nil) ma_nil)))
    (ms_cons (sfor [3] (passes_of rfl) (irng1 (W.fr "range" (by decide)) (mv 0)) (gv 3 sc_plot_lots.nd) (ms_one (sset 2 sc_plot_lots.nd (me_add (mv 2) (mlc ([("lot", 4)] : List (Str × Nat)) sc_plot_lots.nd (mi_seq (mv 2)) (fun s H C cl fp => (gv 4 sc_plot_lots.nd)) (fun s H C cl fp => (mts_one (tcmp c_lt (mcb (bo_len) (W.fr "len" (by decide)) PyProof.Rows.Boot.«len» (mac (mv 4) ma_nil)) (mv 1)))) (fun s H C cl fp => (me_tup (mas (mv 4) (mac (mv 3) ma_nil)))))))))
    (ms_one (ms_ret (mlc ([("lot", 4)] : List (Str × Nat)) sc_plot_lots.nd (mi_seq (mv 2)) (fun s H C cl fp => (gv 4 sc_plot_lots.nd)) (fun s H C cl fp => (mts_one (tcmp (c_eq (hu65 hr)) (mcb (bo_len) (W.fr "len" (by decide)) PyProof.Rows.Boot.«len» (mac (mv 4) ma_nil)) (mv 1)))) (fun s H C cl fp => (mv 4))))))))
theorem D_plot_lots (W : Wd P K mg) : FnD P w K mg base 1 "plot_lots" 2 V_plot_lots := by
  obtain ⟨f, fd, F, hm⟩ := W.f_plot_lots
  exact ⟨f, fd, _, ok_plot_lots W F, hm, F.kp, F.binds fun _ _ _ _ _ _ us hl => match us, hl with | [_, _], _ => rfl⟩
theorem sc_is_less : FnScope ["one", "two"] ["one", "two"] (defScope st_is_less) := ⟨rfl, rfl, rfl, by decide +kernel, rfl, by decide +kernel, by decide +kernel⟩
def B_is_less : Sm := (sRet (eOp2 fLt (eOp2 (fMul false) (eOp2 fIx (eVar 0) (eC (.int 0))) (eOp2 fIx (eVar 1) (eC (.int 1)))) (eOp2 (fMul false) (eOp2 fIx (eVar 1) (eC (.int 0))) (eOp2 fIx (eVar 0) (eC (.int 1))))))
def V_is_less : Fm := fnV 2 2 B_is_less
theorem ok_is_less (W : Wd P K mg) {f : Addr} {fd : FuncData} (F : Fun K "is_less" "is_less" st_is_less f fd) : FnOk P w K mg base (L2N.CX P w) 1 f fd ["one", "two"] (tSp K mg V_is_less) :=
  fn_ok F sc_is_less rfl rfl (fun cdv A outer s H E hr => (ms_one (ms_ret (mcmp c_lt (me_mul (mxi (mv 0) me_int) (mxi (mv 1) me_int)) (me_mul (mxi (mv 1) me_int) (mxi (mv 0) me_int))))))
theorem D_is_less (W : Wd P K mg) : FnD P w K mg base 1 "is_less" 2 V_is_less := by
  obtain ⟨f, fd, F, hm⟩ := W.f_is_less
  exact ⟨f, fd, _, ok_is_less W F, hm, F.kp, F.binds fun _ _ _ _ _ _ us hl => match us, hl with | [_, _], _ => rfl⟩
theorem sc_plus : FnScope ["one", "two"] ["one", "two"] (defScope st_plus) := ⟨rfl, rfl, rfl, by decide +kernel, rfl, by decide +kernel, by decide +kernel⟩
def B_plus : Sm := (sRet (eCallI V_ratio (aCons (eOp2 (fAdd false) (eOp2 (fMul false) (eOp2 fIx (eVar 0) (eC (.int 0))) (eOp2 fIx (eVar 1) (eC (.int 1)))) (eOp2 (fMul false) (eOp2 fIx (eVar 1) (eC (.int 0))) (eOp2 fIx (eVar 0) (eC (.int 1))))) (aCons (eOp2 (fMul false) (eOp2 fIx (eVar 0) (eC (.int 1))) (eOp2 fIx (eVar 1) (eC (.int 1)))) aNil))))
def V_plus : Fm := fnV 2 2 B_plus
theorem ok_plus (W : Wd P K mg) {f : Addr} {fd : FuncData} (F : Fun K "plus" "plus" st_plus f fd) : FnOk P w K mg base (L2N.CX P w) 2 f fd ["one", "two"] (tSp K mg V_plus) :=
  fn_ok F sc_plus rfl rfl (fun cdv A outer s H E hr => (ms_one (ms_ret (mcall (D_ratio W) (hr.mono (by decide)) passesX (mac (me_add (me_mul (mxi (mv 0) me_int) (mxi (mv 1) me_int)) (me_mul (mxi (mv 1) me_int) (mxi (mv 0) me_int))) (mac (me_mul (mxi (mv 0) me_int) (mxi (mv 1) me_int)) ma_nil))))))
theorem D_plus (W : Wd P K mg) : FnD P w K mg base 2 "plus" 2 V_plus := by
  obtain ⟨f, fd, F, hm⟩ := W.f_plus
  exact ⟨f, fd, _, ok_plus W F, hm, F.kp, F.binds fun _ _ _ _ _ _ us hl => match us, hl with | [_, _], _ => rfl⟩
theorem sc_total : FnScope ["fractions", "found", "each"] ["fractions"] (defScope st_total) := ⟨rfl, rfl, rfl, by decide +kernel, rfl, by decide +kernel, by decide +kernel⟩
def B_total : Sm := (sCons (sAsg (eC (.tuple [.int 0, .int 1])) (gVar 1))
    (sCons (sFor (iSeq (eVar 0)) (gVar 2) (sAsg (eCallI V_plus (aCons (eVar 1) (aCons (eVar 2) aNil))) (gVar 1)))
    (sRet (eVar 1))))
def V_total : Fm := fnV 1 3 B_total
theorem ok_total (W : Wd P K mg) {f : Addr} {fd : FuncData} (F : Fun K "total" "total" st_total f fd) : FnOk P w K mg base (L2N.CX P w) 3 f fd ["fractions"] (tSp K mg V_total) :=
  fn_ok F sc_total rfl rfl (fun cdv A outer s H E hr => (ms_cons (sset 1 sc_total.nd (mgl W.g_ZERO))
    (ms_cons (sfor [2] (passes_of rfl) (mi_seq (mv 0)) (gv 2 sc_total.nd) (ms_one (sset 1 sc_total.nd (mcall (D_plus W) (hr.mono (by decide)) passesX (mac (mv 1) (mac (mv 2) ma_nil))))))
    (ms_one (ms_ret (mv 1))))))
theorem D_total (W : Wd P K mg) : FnD P w K mg base 3 "total" 1 V_total := by
  obtain ⟨f, fd, F, hm⟩ := W.f_total
  exact ⟨f, fd, _, ok_total W F, hm, F.kp, F.binds fun _ _ _ _ _ _ us hl => match us, hl with | [_], _ => rfl⟩
theorem sc_dot : FnScope ["one", "two", "here", "there"] ["one", "two"] (defScope st_dot) := ⟨rfl, rfl, rfl, by decide +kernel, rfl, by decide +kernel, by decide +kernel⟩
def B_dot : Sm := (sRet (eCallI V_total (aCons (eLc false (iZip (eVar 0) (eVar 1)) (gTup 2 (gsCons (gVar 2) (gsCons (gVar 3) gsNil))) tYesM (eCallI V_times (aCons (eVar 2) (aCons (eVar 3) aNil))) [2, 3]) aNil)))
def V_dot : Fm := fnV 2 4 B_dot
theorem ok_dot (W : Wd P K mg) {f : Addr} {fd : FuncData} (F : Fun K "dot" "dot" st_dot f fd) : FnOk P w K mg base (L2N.CX P w) 4 f fd ["one", "two"] (tSp K mg V_dot) :=
  fn_ok F sc_dot rfl rfl (fun cdv A outer s H E hr => (ms_one (ms_ret (mcall (D_total W) (hr.mono (by decide)) passesX (mac (mlc ([("here", 2), ("there", 3)] : List (Str × Nat)) sc_dot.nd (izip (W.fr "zip" (by decide)) (mv 0) (mv 1)) (fun s H C cl fp => (gt (gc (gv 2 sc_dot.nd) (gc (gv 3 sc_dot.nd) mgs_nil)))) (fun s H C cl fp => mts_nil) (fun s H C cl fp => (mcall (D_times W) (hr.mono (by decide)) passLN (mac (mv 2) (mac (mv 3) ma_nil))))) ma_nil)))))
theorem D_dot (W : Wd P K mg) : FnD P w K mg base 4 "dot" 2 V_dot := by
  obtain ⟨f, fd, F, hm⟩ := W.f_dot
  exact ⟨f, fd, _, ok_dot W F, hm, F.kp, F.binds fun _ _ _ _ _ _ us hl => match us, hl with | [_, _], _ => rfl⟩
theorem sc_normal_rows : FnScope ["trial", "rows", "columns", "one", "two", "here", "there", "spread"] ["trial"] (defScope st_normal_rows) := ⟨rfl, rfl, rfl, by decide +kernel, rfl, by decide +kernel, by decide +kernel⟩
def B_normal_rows : Sm := (sCons (sAsg (eCallI V_whole_rows (aCons (eVar 0) aNil)) (gVar 1))
    (sCons (sAsg (eCallI V_turned (aCons (eVar 1) aNil)) (gVar 2))
    (sRet (eLc false (iSeq (eVar 2)) (gVar 3) tYesM (eLc false (iSeq (eVar 2)) (gVar 4) tYesM (eCallI V_total (aCons (eLc false (iZip3 (eVar 3) (eVar 4) (eOp2 fIx (eVar 0) (eC (.int 1)))) (gTup 3 (gsCons (gVar 5) (gsCons (gVar 6) (gsCons (gVar 7) gsNil)))) tYesM (eCallI V_over (aCons (eCallI V_times (aCons (eVar 5) (aCons (eVar 6) aNil))) (aCons (eVar 7) aNil))) [5, 6, 7]) aNil)) [4]) [3]))))
def V_normal_rows : Fm := fnV 1 8 B_normal_rows
theorem ok_normal_rows (W : Wd P K mg) {f : Addr} {fd : FuncData} (F : Fun K "normal_rows" "normal_rows" st_normal_rows f fd) : FnOk P w K mg base (L2N.CX P w) 4 f fd ["trial"] (tSp K mg V_normal_rows) :=
  fn_ok F sc_normal_rows rfl rfl (fun cdv A outer s H E hr => (ms_cons (sset 1 sc_normal_rows.nd (mcall (D_whole_rows W) (hr.mono (by decide)) passesX (mac (mv 0) ma_nil)))
    (ms_cons (sset 2 sc_normal_rows.nd (mcall (D_turned W) (hr.mono (by decide)) passesX (mac (mv 1) ma_nil)))
    (ms_one (ms_ret (mlc ([("one", 3)] : List (Str × Nat)) sc_normal_rows.nd (mi_seq (mv 2)) (fun s H C cl fp => (gv 3 sc_normal_rows.nd)) (fun s H C cl fp => mts_nil) (fun s H C cl fp => (mlc ([("two", 4)] : List (Str × Nat)) sc_normal_rows.nd (mi_seq (mv 2)) (fun s H C cl fp => (gv 4 sc_normal_rows.nd)) (fun s H C cl fp => mts_nil) (fun s H C cl fp => (mcall (D_total W) (hr.mono (by decide)) passLN (mac (mlc ([("here", 5), ("there", 6), ("spread", 7)] : List (Str × Nat)) sc_normal_rows.nd (izip3 (W.fr "zip" (by decide)) (mv 3) (mv 4) (mxi (mv 0) me_int)) (fun s H C cl fp => (gt (gc (gv 5 sc_normal_rows.nd) (gc (gv 6 sc_normal_rows.nd) (gc (gv 7 sc_normal_rows.nd) mgs_nil))))) (fun s H C cl fp => mts_nil) (fun s H C cl fp => (mcall (D_over W) (hr.mono (by decide)) passLN (mac (mcall (D_times W) (hr.mono (by decide)) passLN (mac (mv 5) (mac (mv 6) ma_nil))) (mac (mv 7) ma_nil))))) ma_nil)))))))))))
theorem D_normal_rows (W : Wd P K mg) : FnD P w K mg base 4 "normal_rows" 1 V_normal_rows := by
  obtain ⟨f, fd, F, hm⟩ := W.f_normal_rows
  exact ⟨f, fd, _, ok_normal_rows W F, hm, F.kp, F.binds fun _ _ _ _ _ _ us hl => match us, hl with | [_], _ => rfl⟩
theorem sc_parted_world : FnScope ["trial", "numbers", "many"] ["trial", "numbers"] (defScope st_parted_world) := ⟨rfl, rfl, rfl, by decide +kernel, rfl, by decide +kernel, by decide +kernel⟩
def B_parted_world : Sm := (sCons (sAsg (eCallI V_many_unknowns (aCons (eVar 0) aNil)) (gVar 2))
    (sRet (eTup (aCons (eArgs (b1 bTuple) (aCons (eSl false (eVar 1) oNone (oSome (eVar 2))) aNil)) (aCons (eArgs (b1 bTuple) (aCons (eSl false (eVar 1) (oSome (eVar 2)) oNone) aNil)) aNil)))))
def V_parted_world : Fm := fnV 2 3 B_parted_world
theorem ok_parted_world (W : Wd P K mg) {f : Addr} {fd : FuncData} (F : Fun K "parted_world" "parted_world" st_parted_world f fd) : FnOk P w K mg base (L2N.CX P w) 2 f fd ["trial", "numbers"] (tSp K mg V_parted_world) :=
  fn_ok F sc_parted_world rfl rfl (fun cdv A outer s H E hr => (ms_cons (sset 2 sc_parted_world.nd (mcall (D_many_unknowns W) (hr.mono (by decide)) passesX (mac (mv 0) ma_nil)))
    (ms_one (ms_ret (me_tup (mac (mct (bo_tuple) (W.fr "tuple" (by decide)) PyProof.Rows.Boot.«tuple» (mac (me_slice (mv 1) mo_none (mo_some (mv 2))) ma_nil)) (mac (mct (bo_tuple) (W.fr "tuple" (by decide)) PyProof.Rows.Boot.«tuple» (mac (me_slice (mv 1) (mo_some (mv 2)) mo_none) ma_nil)) ma_nil)))))))
theorem D_parted_world (W : Wd P K mg) : FnD P w K mg base 2 "parted_world" 2 V_parted_world := by
  obtain ⟨f, fd, F, hm⟩ := W.f_parted_world
  exact ⟨f, fd, _, ok_parted_world W F, hm, F.kp, F.binds fun _ _ _ _ _ _ us hl => match us, hl with | [_, _], _ => rfl⟩
theorem sc_load_by : FnScope ["trial", "question", "found", "each"] ["trial", "question"] (defScope st_load_by) := ⟨rfl, rfl, rfl, by decide +kernel, rfl, by decide +kernel, by decide +kernel⟩
def B_load_by : Sm := (sCons (sAsg (eCallI V_some_answer (aCons (eCallI V_normal_rows (aCons (eVar 0) aNil)) (aCons (eCallI V_whole_question (aCons (eVar 0) (aCons (eVar 1) aNil))) aNil))) (gVar 2))
    (sRet (eLc false (iSeq (eVar 2)) (gVar 3) tYesM (eCallI V_parted_world (aCons (eVar 0) (aCons (eVar 3) aNil))) [3])))
def V_load_by : Fm := fnV 2 4 B_load_by
theorem ok_load_by (W : Wd P K mg) {f : Addr} {fd : FuncData} (F : Fun K "load_by" "load_by" st_load_by f fd) : FnOk P w K mg base (L2N.CX P w) 6 f fd ["trial", "question"] (tSp K mg V_load_by) :=
  fn_ok F sc_load_by rfl rfl (fun cdv A outer s H E hr => (ms_cons (sset 2 sc_load_by.nd (mcall (D_some_answer W) (hr.mono (by decide)) passesX (mac (mcall (D_normal_rows W) (hr.mono (by decide)) passesX (mac (mv 0) ma_nil)) (mac (mcall (D_whole_question W) (hr.mono (by decide)) passesX (mac (mv 0) (mac (mv 1) ma_nil))) ma_nil))))
    (ms_one (ms_ret (mlc ([("each", 3)] : List (Str × Nat)) sc_load_by.nd (mi_seq (mv 2)) (fun s H C cl fp => (gv 3 sc_load_by.nd)) (fun s H C cl fp => mts_nil) (fun s H C cl fp => (mcall (D_parted_world W) (hr.mono (by decide)) passLN (mac (mv 0) (mac (mv 3) ma_nil)))))))))
theorem D_load_by (W : Wd P K mg) : FnD P w K mg base 6 "load_by" 2 V_load_by := by
  obtain ⟨f, fd, F, hm⟩ := W.f_load_by
  exact ⟨f, fd, _, ok_load_by W F, hm, F.kp, F.binds fun _ _ _ _ _ _ us hl => match us, hl with | [_, _], _ => rfl⟩
theorem sc_least_by : FnScope ["trial", "question", "world"] ["trial", "question"] (defScope st_least_by) := ⟨rfl, rfl, rfl, by decide +kernel, rfl, by decide +kernel, by decide +kernel⟩
def B_least_by : Sm := (sRet (eLc false (iSeq (eCallI V_load_by (aCons (eVar 0) (aCons (eVar 1) aNil)))) (gVar 2) tYesM (eCallI V_dot (aCons (eVar 1) (aCons (eOp2 fIx (eVar 2) (eC (.int 0))) aNil))) [2]))
def V_least_by : Fm := fnV 2 3 B_least_by
theorem ok_least_by (W : Wd P K mg) {f : Addr} {fd : FuncData} (F : Fun K "least_by" "least_by" st_least_by f fd) : FnOk P w K mg base (L2N.CX P w) 7 f fd ["trial", "question"] (tSp K mg V_least_by) :=
  fn_ok F sc_least_by rfl rfl (fun cdv A outer s H E hr => (ms_one (ms_ret (mlc ([("world", 2)] : List (Str × Nat)) sc_least_by.nd (mi_seq (mcall (D_load_by W) (hr.mono (by decide)) passesX (mac (mv 0) (mac (mv 1) ma_nil)))) (fun s H C cl fp => (gv 2 sc_least_by.nd)) (fun s H C cl fp => mts_nil) (fun s H C cl fp => (mcall (D_dot W) (hr.mono (by decide)) passLN (mac (mv 1) (mac (mxi (mv 2) me_int) ma_nil))))))))
theorem D_least_by (W : Wd P K mg) : FnD P w K mg base 7 "least_by" 2 V_least_by := by
  obtain ⟨f, fd, F, hm⟩ := W.f_least_by
  exact ⟨f, fd, _, ok_least_by W F, hm, F.kp, F.binds fun _ _ _ _ _ _ us hl => match us, hl with | [_, _], _ => rfl⟩
theorem sc_grown : FnScope ["trial", "plot"] ["trial", "plot"] (defScope st_grown) := ⟨rfl, rfl, rfl, by decide +kernel, rfl, by decide +kernel, by decide +kernel⟩
def B_grown : Sm := (sRet (eTup (aCons (eOp2 (fAdd false) (eOp2 fIx (eVar 0) (eC (.int 0))) (eTup (aCons (eOp2 fIx (eVar 1) (eC (.int 0))) aNil))) (aCons (eOp2 (fAdd false) (eOp2 fIx (eVar 0) (eC (.int 1))) (eTup (aCons (eOp2 fIx (eVar 1) (eC (.int 1))) aNil))) (aCons (eOp2 (fAdd false) (eOp2 fIx (eVar 0) (eC (.int 2))) (eIf (tE (eOp2 fNe (eOp2 fIx (eVar 0) (eC (.int 2))) (eTup aNil))) (eTup (aCons (eOp2 fIx (eVar 1) (eC (.int 2))) aNil)) (eTup aNil))) aNil)))))
def V_grown : Fm := fnV 2 2 B_grown
theorem ok_grown (W : Wd P K mg) {f : Addr} {fd : FuncData} (F : Fun K "grown" "grown" st_grown f fd) : FnOk P w K mg base (L2N.CX P w) 1 f fd ["trial", "plot"] (tSp K mg V_grown) :=
  fn_ok F sc_grown rfl rfl (fun cdv A outer s H E hr => (ms_one (ms_ret (me_tup (mac (me_add (mxi (mv 0) me_int) (me_tup (mac (mxi (mv 1) me_int) ma_nil))) (mac (me_add (mxi (mv 0) me_int) (me_tup (mac (mxi (mv 1) me_int) ma_nil))) (mac (me_add (mxi (mv 0) me_int) (me_ifE (tcmp (c_ne (hu65 hr)) (mxi (mv 0) me_int) (me_tup ma_nil)) (me_tup (mac (mxi (mv 1) me_int) ma_nil)) (me_tup ma_nil))) ma_nil)))))))
theorem D_grown (W : Wd P K mg) : FnD P w K mg base 1 "grown" 2 V_grown := by
  obtain ⟨f, fd, F, hm⟩ := W.f_grown
  exact ⟨f, fd, _, ok_grown W F, hm, F.kp, F.binds fun _ _ _ _ _ _ us hl => match us, hl with | [_, _], _ => rfl⟩
theorem sc_trial_more : FnScope ["trial", "candidates", "lot", "index"] ["trial", "candidates", "lot"] (defScope st_trial_more) := ⟨rfl, rfl, rfl, by decide +kernel, rfl, by decide +kernel, by decide +kernel⟩
def B_trial_more : Sm := (sCons (sFor (iSeq (eVar 2)) (gVar 3) (sAsg (eCallI V_grown (aCons (eVar 0) (aCons (eOp2 fIx (eVar 1) (eVar 3)) aNil))) (gVar 0)))
    (sRet (eVar 0)))
def V_trial_more : Fm := fnV 3 4 B_trial_more
theorem ok_trial_more (W : Wd P K mg) {f : Addr} {fd : FuncData} (F : Fun K "trial_more" "trial_more" st_trial_more f fd) : FnOk P w K mg base (L2N.CX P w) 2 f fd ["trial", "candidates", "lot"] (tSp K mg V_trial_more) :=
  fn_ok F sc_trial_more rfl rfl (fun cdv A outer s H E hr => (ms_cons (sfor [3] (passes_of rfl) (mi_seq (mv 2)) (gv 3 sc_trial_more.nd) (ms_one (sset 0 sc_trial_more.nd (mcall (D_grown W) (hr.mono (by decide)) passesX (mac (mv 0) (mac (mxi (mv 1) (mv 3)) ma_nil))))))
    (ms_one (ms_ret (mv 0)))))
theorem D_trial_more (W : Wd P K mg) : FnD P w K mg base 2 "trial_more" 3 V_trial_more := by
  obtain ⟨f, fd, F, hm⟩ := W.f_trial_more
  exact ⟨f, fd, _, ok_trial_more W F, hm, F.kp, F.binds fun _ _ _ _ _ _ us hl => match us, hl with | [_, _, _], _ => rfl⟩
theorem sc_spread_more : FnScope ["trial", "question", "candidates", "lot"] ["trial", "question", "candidates", "lot"] (defScope st_spread_more) := ⟨rfl, rfl, rfl, by decide +kernel, rfl, by decide +kernel, by decide +kernel⟩
def B_spread_more : Sm := (sRet (eOp2 fIx (eCallI V_least_by (aCons (eCallI V_trial_more (aCons (eVar 0) (aCons (eVar 2) (aCons (eVar 3) aNil)))) (aCons (eVar 1) aNil))) (eC (.int 0))))
def V_spread_more : Fm := fnV 4 4 B_spread_more
theorem ok_spread_more (W : Wd P K mg) {f : Addr} {fd : FuncData} (F : Fun K "spread_more" "spread_more" st_spread_more f fd) : FnOk P w K mg base (L2N.CX P w) 8 f fd ["trial", "question", "candidates", "lot"] (tSp K mg V_spread_more) :=
  fn_ok F sc_spread_more rfl rfl (fun cdv A outer s H E hr => (ms_one (ms_ret (mxi (mcall (D_least_by W) (hr.mono (by decide)) passesX (mac (mcall (D_trial_more W) (hr.mono (by decide)) passesX (mac (mv 0) (mac (mv 2) (mac (mv 3) ma_nil)))) (mac (mv 1) ma_nil))) me_int))))
theorem D_spread_more (W : Wd P K mg) : FnD P w K mg base 8 "spread_more" 4 V_spread_more := by
  obtain ⟨f, fd, F, hm⟩ := W.f_spread_more
  exact ⟨f, fd, _, ok_spread_more W F, hm, F.kp, F.binds fun _ _ _ _ _ _ us hl => match us, hl with | [_, _, _, _], _ => rfl⟩
theorem sc_best_lot_by : FnScope ["trial", "question", "candidates", "many", "lots", "best", "lot"] ["trial", "question", "candidates", "many"] (defScope st_best_lot_by) := ⟨rfl, rfl, rfl, by decide +kernel, rfl, by decide +kernel, by decide +kernel⟩
def B_best_lot_by : Sm := (sCons (sAsg (eArgs (b1 bSorted2) (aCons (eCallI V_plot_lots (aCons (eArgs (b1 bLen) (aCons (eVar 2) aNil)) (aCons (eVar 3) aNil))) aNil)) (gVar 4))
    (sCons (sAsg (eOp2 fIx (eVar 4) (eC (.int 0))) (gVar 5))
    (sCons (sFor (iSeq (eSl false (eVar 4) (oSome (eC (.int 1))) oNone)) (gVar 6) (sIf (tE (eCallI V_is_less (aCons (eCallI V_spread_more (aCons (eVar 0) (aCons (eVar 1) (aCons (eVar 2) (aCons (eVar 6) aNil))))) (aCons (eCallI V_spread_more (aCons (eVar 0) (aCons (eVar 1) (aCons (eVar 2) (aCons (eVar 5) aNil))))) aNil)))) (sAsg (eVar 6) (gVar 5)) sNil))
    (sRet (eVar 5)))))
def V_best_lot_by : Fm := fnV 4 7 B_best_lot_by
theorem ok_best_lot_by (W : Wd P K mg) {f : Addr} {fd : FuncData} (F : Fun K "best_lot_by" "best_lot_by" st_best_lot_by f fd) : FnOk P w K mg base (L2N.CX P w) 9 f fd ["trial", "question", "candidates", "many"] (tSp K mg V_best_lot_by) :=
  fn_ok F sc_best_lot_by rfl rfl (fun cdv A outer s H E hr => (ms_cons (sset 4 sc_best_lot_by.nd (mcb (bo_sorted2 (hu65 hr)) (W.fr "sorted" (by decide)) PyProof.Rows.Boot.«sorted» (mac (mcall (D_plot_lots W) (hr.mono (by decide)) passesX (mac (mcb (bo_len) (W.fr "len" (by decide)) PyProof.Rows.Boot.«len» (mac (mv 2) ma_nil)) (mac (mv 3) ma_nil))) ma_nil)))
    (ms_cons (sset 5 sc_best_lot_by.nd (mxi (mv 4) me_int))
    (ms_cons (sfor [6] (passes_of rfl) (mi_seq (me_slice (mv 4) (mo_some me_int) mo_none)) (gv 6 sc_best_lot_by.nd) (ms_one (ms_if (tval (mcall (D_is_less W) (hr.mono (by decide)) passesX (mac (mcall (D_spread_more W) (hr.mono (by decide)) passesX (mac (mv 0) (mac (mv 1) (mac (mv 2) (mac (mv 6) ma_nil))))) (mac (mcall (D_spread_more W) (hr.mono (by decide)) passesX (mac (mv 0) (mac (mv 1) (mac (mv 2) (mac (mv 5) ma_nil))))) ma_nil)))) (ms_one (sset 5 sc_best_lot_by.nd (mv 6))) ms_nil)))
    (ms_one (ms_ret (mv 5)))))))
theorem D_best_lot_by (W : Wd P K mg) : FnD P w K mg base 9 "best_lot_by" 4 V_best_lot_by := by
  obtain ⟨f, fd, F, hm⟩ := W.f_best_lot_by
  exact ⟨f, fd, _, ok_best_lot_by W F, hm, F.kp, F.binds fun _ _ _ _ _ _ us hl => match us, hl with | [_, _, _, _], _ => rfl⟩
theorem sc_best_lot : FnScope ["trial", "question", "candidates", "many"] ["trial", "question", "candidates", "many"] (defScope st_best_lot) := ⟨rfl, rfl, rfl, by decide +kernel, rfl, by decide +kernel, by decide +kernel⟩
def B_best_lot : Sm := (sCons (sExpr (eCallI V_check_further (aCons (eVar 0) (aCons (eVar 1) (aCons (eVar 2) (aCons (eVar 3) aNil))))))
    (sRet (eCallI V_best_lot_by (aCons (eVar 0) (aCons (eVar 1) (aCons (eVar 2) (aCons (eVar 3) aNil)))))))
def V_best_lot : Fm := fnV 4 4 B_best_lot
theorem ok_best_lot (W : Wd P K mg) {f : Addr} {fd : FuncData} (F : Fun K "best_lot" "best_lot" st_best_lot f fd) : FnOk P w K mg base (L2N.CX P w) 10 f fd ["trial", "question", "candidates", "many"] (tSp K mg V_best_lot) :=
  fn_ok F sc_best_lot rfl rfl (fun cdv A outer s H E hr => (ms_cons (sexpr (mcall (D_check_further W) (hr.mono (by decide)) passesX (mac (mv 0) (mac (mv 1) (mac (mv 2) (mac (mv 3) ma_nil))))))
    (ms_one (ms_ret (mcall (D_best_lot_by W) (hr.mono (by decide)) passesX (mac (mv 0) (mac (mv 1) (mac (mv 2) (mac (mv 3) ma_nil)))))))))
theorem D_best_lot (W : Wd P K mg) : FnD P w K mg base 10 "best_lot" 4 V_best_lot := by
  obtain ⟨f, fd, F, hm⟩ := W.f_best_lot
  exact ⟨f, fd, _, ok_best_lot W F, hm, F.kp, F.binds fun _ _ _ _ _ _ us hl => match us, hl with | [_, _, _, _], _ => rfl⟩
theorem sc_step_lot_by : FnScope ["trial", "question", "candidates", "many", "found", "_", "left", "best", "index", "here"] ["trial", "question", "candidates", "many"] (defScope st_step_lot_by) := ⟨rfl, rfl, rfl, by decide +kernel, rfl, by decide +kernel, by decide +kernel⟩
def B_step_lot_by : Sm := (sCons (sAsg (eTup aNil) (gVar 4))
    (sCons (sFor (iRng1 (eVar 3)) (gVar 5) (sCons (sAsg (eLc false (iRng1 (eArgs (b1 bLen) (aCons (eVar 2) aNil))) (gVar 8) (tE (eOp2 fNin (eVar 8) (eVar 4))) (eVar 8) [8]) (gVar 6))
    (sCons (sAsg (eOp2 fIx (eVar 6) (eC (.int 0))) (gVar 7))
    (sCons (sFor (iSeq (eSl false (eVar 6) (oSome (eC (.int 1))) oNone)) (gVar 8) (sCons (sAsg (eCallI V_spread_more (aCons (eVar 0) (aCons (eVar 1) (aCons (eVar 2) (aCons (eTup (aStar (eVar 4) (aCons (eVar 8) aNil))) aNil))))) (gVar 9))
    (sAsg (eIf (tE (eCallI V_is_less (aCons (eVar 9) (aCons (eCallI V_spread_more (aCons (eVar 0) (aCons (eVar 1) (aCons (eVar 2) (aCons (eTup (aStar (eVar 4) (aCons (eVar 7) aNil))) aNil))))) aNil)))) (eVar 8) (eVar 7)) (gVar 7))))
    (sAsg (eTup (aStar (eVar 4) (aCons (eVar 7) aNil))) (gVar 4))))))
    (sRet (eVar 4))))
def V_step_lot_by : Fm := fnV 4 10 B_step_lot_by
theorem ok_step_lot_by (W : Wd P K mg) {f : Addr} {fd : FuncData} (F : Fun K "step_lot_by" "step_lot_by" st_step_lot_by f fd) : FnOk P w K mg base (L2N.CX P w) 9 f fd ["trial", "question", "candidates", "many"] (tSp K mg V_step_lot_by) :=
  fn_ok F sc_step_lot_by rfl rfl (fun cdv A outer s H E hr => (ms_cons (sset 4 sc_step_lot_by.nd (me_tup ma_nil))
    (ms_cons (sfor [5] (passes_of rfl) (irng1 (W.fr "range" (by decide)) (mv 3)) (gv 5 sc_step_lot_by.nd) (ms_cons (ssetLc 6 ([("index", 8)] : List (Str × Nat)) sc_step_lot_by.nd (irng1 (W.fr "range" (by decide)) (mcb (bo_len) (W.fr "len" (by decide)) PyProof.Rows.Boot.«len» (mac (mv 2) ma_nil))) (fun s H C cl fp => (gv 8 sc_step_lot_by.nd)) (fun s H C cl fp => (mts_one (tcmp (c_nin (hu65 hr)) (mv 8) (mv 4)))) (fun s H C cl fp => (mv 8)))
    (ms_cons (sset 7 sc_step_lot_by.nd (mxi (mv 6) me_int))
    (ms_cons (sfor [8] (passes_of rfl) (mi_seq (me_slice (mv 6) (mo_some me_int) mo_none)) (gv 8 sc_step_lot_by.nd) (ms_cons (sset 9 sc_step_lot_by.nd (mcall (D_spread_more W) (hr.mono (by decide)) passesX (mac (mv 0) (mac (mv 1) (mac (mv 2) (mac (me_tup (mas (mv 4) (mac (mv 8) ma_nil))) ma_nil))))))
    (ms_one (sset 7 sc_step_lot_by.nd (me_ifE (tval (mcall (D_is_less W) (hr.mono (by decide)) passesX (mac (mv 9) (mac (mcall (D_spread_more W) (hr.mono (by decide)) passesX (mac (mv 0) (mac (mv 1) (mac (mv 2) (mac (me_tup (mas (mv 4) (mac (mv 7) ma_nil))) ma_nil))))) ma_nil)))) (mv 8) (mv 7))))))
    (ms_one (sset 4 sc_step_lot_by.nd (me_tup (mas (mv 4) (mac (mv 7) ma_nil)))))))))
    (ms_one (ms_ret (mv 4))))))
theorem D_step_lot_by (W : Wd P K mg) : FnD P w K mg base 9 "step_lot_by" 4 V_step_lot_by := by
  obtain ⟨f, fd, F, hm⟩ := W.f_step_lot_by
  exact ⟨f, fd, _, ok_step_lot_by W F, hm, F.kp, F.binds fun _ _ _ _ _ _ us hl => match us, hl with | [_, _, _, _], _ => rfl⟩
theorem sc_step_by_step : FnScope ["trial", "question", "candidates", "many"] ["trial", "question", "candidates", "many"] (defScope st_step_by_step) := ⟨rfl, rfl, rfl, by decide +kernel, rfl, by decide +kernel, by decide +kernel⟩
def B_step_by_step : Sm := (sCons (sExpr (eCallI V_check_further (aCons (eVar 0) (aCons (eVar 1) (aCons (eVar 2) (aCons (eVar 3) aNil))))))
    (sRet (eCallI V_step_lot_by (aCons (eVar 0) (aCons (eVar 1) (aCons (eVar 2) (aCons (eVar 3) aNil)))))))
def V_step_by_step : Fm := fnV 4 4 B_step_by_step
theorem ok_step_by_step (W : Wd P K mg) {f : Addr} {fd : FuncData} (F : Fun K "step_by_step" "step_by_step" st_step_by_step f fd) : FnOk P w K mg base (L2N.CX P w) 10 f fd ["trial", "question", "candidates", "many"] (tSp K mg V_step_by_step) :=
  fn_ok F sc_step_by_step rfl rfl (fun cdv A outer s H E hr => (ms_cons (sexpr (mcall (D_check_further W) (hr.mono (by decide)) passesX (mac (mv 0) (mac (mv 1) (mac (mv 2) (mac (mv 3) ma_nil))))))
    (ms_one (ms_ret (mcall (D_step_lot_by W) (hr.mono (by decide)) passesX (mac (mv 0) (mac (mv 1) (mac (mv 2) (mac (mv 3) ma_nil)))))))))
theorem D_step_by_step (W : Wd P K mg) : FnD P w K mg base 10 "step_by_step" 4 V_step_by_step := by
  obtain ⟨f, fd, F, hm⟩ := W.f_step_by_step
  exact ⟨f, fd, _, ok_step_by_step W F, hm, F.kp, F.binds fun _ _ _ _ _ _ us hl => match us, hl with | [_, _, _, _], _ => rfl⟩
theorem sc_spread_further : FnScope ["trial", "question", "candidates", "many", "best", "steps"] ["trial", "question", "candidates", "many"] (defScope st_spread_further) := ⟨rfl, rfl, rfl, by decide +kernel, rfl, by decide +kernel, by decide +kernel⟩
def B_spread_further : Sm := (sCons (sExpr (eCallI V_check_further (aCons (eVar 0) (aCons (eVar 1) (aCons (eVar 2) (aCons (eVar 3) aNil))))))
    (sCons (sPar 4 5 (aCons (eCallI V_best_lot_by (aCons (eVar 0) (aCons (eVar 1) (aCons (eVar 2) (aCons (eVar 3) aNil))))) (aCons (eCallI V_step_lot_by (aCons (eVar 0) (aCons (eVar 1) (aCons (eVar 2) (aCons (eVar 3) aNil))))) aNil)))
    (sRet (eTup (aCons (eCallI V_spread_more (aCons (eVar 0) (aCons (eVar 1) (aCons (eVar 2) (aCons (eVar 4) aNil))))) (aCons (eCallI V_spread_more (aCons (eVar 0) (aCons (eVar 1) (aCons (eVar 2) (aCons (eVar 5) aNil))))) aNil))))))
def V_spread_further : Fm := fnV 4 6 B_spread_further
theorem ok_spread_further (W : Wd P K mg) {f : Addr} {fd : FuncData} (F : Fun K "spread_further" "spread_further" st_spread_further f fd) : FnOk P w K mg base (L2N.CX P w) 10 f fd ["trial", "question", "candidates", "many"] (tSp K mg V_spread_further) :=
  fn_ok F sc_spread_further rfl rfl (fun cdv A outer s H E hr => (ms_cons (sexpr (mcall (D_check_further W) (hr.mono (by decide)) passesX (mac (mv 0) (mac (mv 1) (mac (mv 2) (mac (mv 3) ma_nil))))))
    (ms_cons (spar 4 5 sc_spread_further.nd (mac (mcall (D_best_lot_by W) (hr.mono (by decide)) passesX (mac (mv 0) (mac (mv 1) (mac (mv 2) (mac (mv 3) ma_nil))))) (mac (mcall (D_step_lot_by W) (hr.mono (by decide)) passesX (mac (mv 0) (mac (mv 1) (mac (mv 2) (mac (mv 3) ma_nil))))) ma_nil)))
    (ms_one (ms_ret (me_tup (mac (mcall (D_spread_more W) (hr.mono (by decide)) passesX (mac (mv 0) (mac (mv 1) (mac (mv 2) (mac (mv 4) ma_nil))))) (mac (mcall (D_spread_more W) (hr.mono (by decide)) passesX (mac (mv 0) (mac (mv 1) (mac (mv 2) (mac (mv 5) ma_nil))))) ma_nil))))))))
theorem D_spread_further (W : Wd P K mg) : FnD P w K mg base 10 "spread_further" 4 V_spread_further := by
  obtain ⟨f, fd, F, hm⟩ := W.f_spread_further
  exact ⟨f, fd, _, ok_spread_further W F, hm, F.kp, F.binds fun _ _ _ _ _ _ us hl => match us, hl with | [_, _, _, _], _ => rfl⟩
theorem sc_best_lot_paper : FnScope ["trial", "question", "candidates", "many"] ["trial", "question", "candidates", "many"] (defScope st_best_lot_paper) := ⟨rfl, rfl, rfl, by decide +kernel, rfl, by decide +kernel, by decide +kernel⟩
def B_best_lot_paper : Sm := (sRet (eTup (aCons (eTup (aCons (eC (.str "best lot")) (aCons (eVar 0) (aCons (eVar 1) (aCons (eVar 2) (aCons (eCallI V_best_lot_by (aCons (eVar 0) (aCons (eVar 1) (aCons (eVar 2) (aCons (eVar 3) aNil))))) aNil)))))) (aCons (eTup aNil) aNil))))
def V_best_lot_paper : Fm := fnV 4 4 B_best_lot_paper
theorem ok_best_lot_paper (W : Wd P K mg) {f : Addr} {fd : FuncData} (F : Fun K "best_lot_paper" "best_lot_paper" st_best_lot_paper f fd) : FnOk P w K mg base (L2N.CX P w) 10 f fd ["trial", "question", "candidates", "many"] (tSp K mg V_best_lot_paper) :=
  fn_ok F sc_best_lot_paper rfl rfl (fun cdv A outer s H E hr => (ms_one (ms_ret (me_tup (mac (me_tup (mac me_str (mac (mv 0) (mac (mv 1) (mac (mv 2) (mac (mcall (D_best_lot_by W) (hr.mono (by decide)) passesX (mac (mv 0) (mac (mv 1) (mac (mv 2) (mac (mv 3) ma_nil))))) ma_nil)))))) (mac (me_tup ma_nil) ma_nil))))))
theorem D_best_lot_paper (W : Wd P K mg) : FnD P w K mg base 10 "best_lot_paper" 4 V_best_lot_paper := by
  obtain ⟨f, fd, F, hm⟩ := W.f_best_lot_paper
  exact ⟨f, fd, _, ok_best_lot_paper W F, hm, F.kp, F.binds fun _ _ _ _ _ _ us hl => match us, hl with | [_, _, _, _], _ => rfl⟩
theorem sc_certify_best_lot : FnScope ["trial", "question", "candidates", "many"] ["trial", "question", "candidates", "many"] (defScope st_certify_best_lot) := ⟨rfl, rfl, rfl, by decide +kernel, rfl, by decide +kernel, by decide +kernel⟩
def B_certify_best_lot : Sm := (sCons (sExpr (eCallI V_check_further (aCons (eVar 0) (aCons (eVar 1) (aCons (eVar 2) (aCons (eVar 3) aNil))))))
    (sRet (eCallI V_best_lot_paper (aCons (eVar 0) (aCons (eVar 1) (aCons (eVar 2) (aCons (eVar 3) aNil)))))))
def V_certify_best_lot : Fm := fnV 4 4 B_certify_best_lot
theorem ok_certify_best_lot (W : Wd P K mg) {f : Addr} {fd : FuncData} (F : Fun K "certify_best_lot" "certify_best_lot" st_certify_best_lot f fd) : FnOk P w K mg base (L2N.CX P w) 11 f fd ["trial", "question", "candidates", "many"] (tSp K mg V_certify_best_lot) :=
  fn_ok F sc_certify_best_lot rfl rfl (fun cdv A outer s H E hr => (ms_cons (sexpr (mcall (D_check_further W) (hr.mono (by decide)) passesX (mac (mv 0) (mac (mv 1) (mac (mv 2) (mac (mv 3) ma_nil))))))
    (ms_one (ms_ret (mcall (D_best_lot_paper W) (hr.mono (by decide)) passesX (mac (mv 0) (mac (mv 1) (mac (mv 2) (mac (mv 3) ma_nil)))))))))
theorem D_certify_best_lot (W : Wd P K mg) : FnD P w K mg base 11 "certify_best_lot" 4 V_certify_best_lot := by
  obtain ⟨f, fd, F, hm⟩ := W.f_certify_best_lot
  exact ⟨f, fd, _, ok_certify_best_lot W F, hm, F.kp, F.binds fun _ _ _ _ _ _ us hl => match us, hl with | [_, _, _, _], _ => rfl⟩
theorem sc__law_told_all : FnScope ["trial", "question", "candidates", "many", "told"] ["trial", "question", "candidates", "many"] (defScope st__law_told_all) := ⟨rfl, rfl, rfl, by decide +kernel, rfl, by decide +kernel, by decide +kernel⟩
def B__law_told_all : Sm := (sCons (sAsg (eLst true (aCons (eSaid sd_n sd_i sd_nms sd_h sd_r (eCallI V_best_lot (aCons (eVar 0) (aCons (eVar 1) (aCons (eVar 2) (aCons (eVar 3) aNil)))))) aNil)) (gVar 4))
    (sCons (sExpr (fun ρ => mB ((eVar 4) ρ) fun x => mB (isLs x) fun _ => mB ((eSaid sd_n sd_i sd_nms sd_h sd_r (eCallKI V_step_by_step [3, 2, 1, 0] (aCons (eVar 3) (aCons (eVar 2) (aCons (eVar 1) (aCons (eVar 0) aNil)))))) ρ) fun y => mApp x y))
    (sCons (sExpr (fun ρ => mB ((eVar 4) ρ) fun x => mB (isLs x) fun _ => mB ((eSaid sd_n sd_i sd_nms sd_h sd_r (eCallI V_spread_further (aCons (eVar 0) (aCons (eVar 1) (aCons (eVar 2) (aCons (eVar 3) aNil)))))) ρ) fun y => mApp x y))
    (sCons (sExpr (fun ρ => mB ((eVar 4) ρ) fun x => mB (isLs x) fun _ => mB ((eSaid sd_n sd_i sd_nms sd_h sd_r (eCallI V_certify_best_lot (aCons (eVar 0) (aCons (eVar 1) (aCons (eVar 2) (aCons (eVar 3) aNil)))))) ρ) fun y => mApp x y))
    (sRet (eFrz 4))))))
def V__law_told_all : Fm := fnV 4 5 B__law_told_all
theorem sc_noughts_table : FnScope ["many", "_"] ["many"] (defScope st_noughts_table) := ⟨rfl, rfl, rfl, by decide +kernel, rfl, by decide +kernel, by decide +kernel⟩
def B_noughts_table : Sm := (sRet (eLc false (iRng1 (eVar 0)) (gVar 1) tYesM (eOp2 (fMul false) (eLst false (aCons (eC (.tuple [.int 0, .int 1])) aNil)) (eVar 0)) [1]))
def V_noughts_table : Fm := fnV 1 2 B_noughts_table
theorem ok_noughts_table (W : Wd P K mg) {f : Addr} {fd : FuncData} (F : Fun K "noughts_table" "noughts_table" st_noughts_table f fd) : FnOk P w K mg base (L2N.CX P w) 1 f fd ["many"] (tSp K mg V_noughts_table) :=
  fn_ok F sc_noughts_table rfl rfl (fun cdv A outer s H E hr => (ms_one (ms_ret (mlc ([("_", 1)] : List (Str × Nat)) sc_noughts_table.nd (irng1 (W.fr "range" (by decide)) (mv 0)) (fun s H C cl fp => (gv 1 sc_noughts_table.nd)) (fun s H C cl fp => mts_nil) (fun s H C cl fp => (me_mul (me_lst (mac (mgl W.g_ZERO) ma_nil)) (mv 0)))))))
theorem D_noughts_table (W : Wd P K mg) : FnD P w K mg base 1 "noughts_table" 1 V_noughts_table := by
  obtain ⟨f, fd, F, hm⟩ := W.f_noughts_table
  exact ⟨f, fd, _, ok_noughts_table W F, hm, F.kp, F.binds fun _ _ _ _ _ _ us hl => match us, hl with | [_], _ => rfl⟩
theorem sc_blocks_of : FnScope ["trial", "plots", "level", "plot"] ["trial"] (defScope st_blocks_of) := ⟨rfl, rfl, rfl, by decide +kernel, rfl, by decide +kernel, by decide +kernel⟩
def B_blocks_of : Sm := (sCons (sAsg (eArgs (b1 bRange1) (aCons (eCallI V_many_plots (aCons (eVar 0) aNil)) aNil)) (gVar 1))
    (sRet (eLc false (iRng1 (eCallI V_many_levels (aCons (eVar 0) aNil))) (gVar 2) tYesM (eLc false (iRngV (eVar 1)) (gVar 3) (tE (eOp2 fEq (eOp2 fIx (eOp2 fIx (eVar 0) (eC (.int 2))) (eVar 3)) (eVar 2))) (eVar 3) [3]) [2])))
def V_blocks_of : Fm := fnV 1 4 B_blocks_of
theorem ok_blocks_of (W : Wd P K mg) {f : Addr} {fd : FuncData} (F : Fun K "blocks_of" "blocks_of" st_blocks_of f fd) : FnOk P w K mg base (L2N.CX P w) 2 f fd ["trial"] (tSp K mg V_blocks_of) :=
  fn_ok F sc_blocks_of rfl rfl (fun cdv A outer s H E hr => (ms_cons (sset 1 sc_blocks_of.nd (mct (bo_range1) (W.fr "range" (by decide)) PyProof.Rows.Boot.«range» (mac (mcall (D_many_plots W) (hr.mono (by decide)) passesX (mac (mv 0) ma_nil)) ma_nil)))
    (ms_one (ms_ret (mlc ([("level", 2)] : List (Str × Nat)) sc_blocks_of.nd (irng1 (W.fr "range" (by decide)) (mcall (D_many_levels W) (hr.mono (by decide)) passesX (mac (mv 0) ma_nil))) (fun s H C cl fp => (gv 2 sc_blocks_of.nd)) (fun s H C cl fp => mts_nil) (fun s H C cl fp => (mlc ([("plot", 3)] : List (Str × Nat)) sc_blocks_of.nd (mi_rngV (mv 1)) (fun s H C cl fp => (gv 3 sc_blocks_of.nd)) (fun s H C cl fp => (mts_one (tcmp (c_eq (hu65 hr)) (mxi (mxi (mv 0) me_int) (mv 3)) (mv 2)))) (fun s H C cl fp => (mv 3)))))))))
theorem D_blocks_of (W : Wd P K mg) : FnD P w K mg base 2 "blocks_of" 1 V_blocks_of := by
  obtain ⟨f, fd, F, hm⟩ := W.f_blocks_of
  exact ⟨f, fd, _, ok_blocks_of W F, hm, F.kp, F.binds fun _ _ _ _ _ _ us hl => match us, hl with | [_], _ => rfl⟩
theorem sc_as_table : FnScope ["rows", "row"] ["rows"] (defScope st_as_table) := ⟨rfl, rfl, rfl, by decide +kernel, rfl, by decide +kernel, by decide +kernel⟩
def B_as_table : Sm := (sRet (eArgs (b1 bTuple) (aCons (eLc false (iSeq (eVar 0)) (gVar 1) tYesM (eArgs (b1 bTuple) (aCons (eVar 1) aNil)) [1]) aNil)))
def V_as_table : Fm := fnV 1 2 B_as_table
theorem ok_as_table (W : Wd P K mg) {f : Addr} {fd : FuncData} (F : Fun K "as_table" "as_table" st_as_table f fd) : FnOk P w K mg base (L2N.CX P w) 1 f fd ["rows"] (tSp K mg V_as_table) :=
  fn_ok F sc_as_table rfl rfl (fun cdv A outer s H E hr => (ms_one (ms_ret (mct (bo_tuple) (W.fr "tuple" (by decide)) PyProof.Rows.Boot.«tuple» (mac (mlc ([("row", 1)] : List (Str × Nat)) sc_as_table.nd (mi_seq (mv 0)) (fun s H C cl fp => (gv 1 sc_as_table.nd)) (fun s H C cl fp => mts_nil) (fun s H C cl fp => (mct (bo_tuple) (W.fr "tuple" (by decide)) PyProof.Rows.Boot.«tuple» (mac (mv 1) ma_nil)))) ma_nil)))))
theorem D_as_table (W : Wd P K mg) : FnD P w K mg base 1 "as_table" 1 V_as_table := by
  obtain ⟨f, fd, F, hm⟩ := W.f_as_table
  exact ⟨f, fd, _, ok_as_table W F, hm, F.kp, F.binds fun _ _ _ _ _ _ us hl => match us, hl with | [_], _ => rfl⟩
theorem sc_added : FnScope ["one", "two", "row", "other", "here", "there"] ["one", "two"] (defScope st_added) := ⟨rfl, rfl, rfl, by decide +kernel, rfl, by decide +kernel, by decide +kernel⟩
def B_added : Sm := (sRet (eLc false (iZip (eVar 0) (eVar 1)) (gTup 2 (gsCons (gVar 2) (gsCons (gVar 3) gsNil))) tYesM (eLc false (iZip (eVar 2) (eVar 3)) (gTup 2 (gsCons (gVar 4) (gsCons (gVar 5) gsNil))) tYesM (eCallI V_plus (aCons (eVar 4) (aCons (eVar 5) aNil))) [4, 5]) [2, 3]))
def V_added : Fm := fnV 2 6 B_added
theorem ok_added (W : Wd P K mg) {f : Addr} {fd : FuncData} (F : Fun K "added" "added" st_added f fd) : FnOk P w K mg base (L2N.CX P w) 3 f fd ["one", "two"] (tSp K mg V_added) :=
  fn_ok F sc_added rfl rfl (fun cdv A outer s H E hr => (ms_one (ms_ret (mlc ([("row", 2), ("other", 3)] : List (Str × Nat)) sc_added.nd (izip (W.fr "zip" (by decide)) (mv 0) (mv 1)) (fun s H C cl fp => (gt (gc (gv 2 sc_added.nd) (gc (gv 3 sc_added.nd) mgs_nil)))) (fun s H C cl fp => mts_nil) (fun s H C cl fp => (mlc ([("here", 4), ("there", 5)] : List (Str × Nat)) sc_added.nd (izip (W.fr "zip" (by decide)) (mv 2) (mv 3)) (fun s H C cl fp => (gt (gc (gv 4 sc_added.nd) (gc (gv 5 sc_added.nd) mgs_nil)))) (fun s H C cl fp => mts_nil) (fun s H C cl fp => (mcall (D_plus W) (hr.mono (by decide)) passLN (mac (mv 4) (mac (mv 5) ma_nil))))))))))
theorem D_added (W : Wd P K mg) : FnD P w K mg base 3 "added" 2 V_added := by
  obtain ⟨f, fd, F, hm⟩ := W.f_added
  exact ⟨f, fd, _, ok_added W F, hm, F.kp, F.binds fun _ _ _ _ _ _ us hl => match us, hl with | [_, _], _ => rfl⟩
theorem sc_outer : FnScope ["number", "row", "here", "there"] ["number", "row"] (defScope st_outer) := ⟨rfl, rfl, rfl, by decide +kernel, rfl, by decide +kernel, by decide +kernel⟩
def B_outer : Sm := (sRet (eLc false (iSeq (eVar 1)) (gVar 2) tYesM (eLc false (iSeq (eVar 1)) (gVar 3) tYesM (eCallI V_times (aCons (eVar 0) (aCons (eCallI V_times (aCons (eVar 2) (aCons (eVar 3) aNil))) aNil))) [3]) [2]))
def V_outer : Fm := fnV 2 4 B_outer
theorem ok_outer (W : Wd P K mg) {f : Addr} {fd : FuncData} (F : Fun K "outer" "outer" st_outer f fd) : FnOk P w K mg base (L2N.CX P w) 3 f fd ["number", "row"] (tSp K mg V_outer) :=
  fn_ok F sc_outer rfl rfl (fun cdv A outer s H E hr => (ms_one (ms_ret (mlc ([("here", 2)] : List (Str × Nat)) sc_outer.nd (mi_seq (mv 1)) (fun s H C cl fp => (gv 2 sc_outer.nd)) (fun s H C cl fp => mts_nil) (fun s H C cl fp => (mlc ([("there", 3)] : List (Str × Nat)) sc_outer.nd (mi_seq (mv 1)) (fun s H C cl fp => (gv 3 sc_outer.nd)) (fun s H C cl fp => mts_nil) (fun s H C cl fp => (mcall (D_times W) (hr.mono (by decide)) passLN (mac (mv 0) (mac (mcall (D_times W) (hr.mono (by decide)) passLN (mac (mv 2) (mac (mv 3) ma_nil))) ma_nil))))))))))
theorem D_outer (W : Wd P K mg) : FnD P w K mg base 3 "outer" 2 V_outer := by
  obtain ⟨f, fd, F, hm⟩ := W.f_outer
  exact ⟨f, fd, _, ok_outer W F, hm, F.kp, F.binds fun _ _ _ _ _ _ us hl => match us, hl with | [_, _], _ => rfl⟩
theorem sc_lessened : FnScope ["one", "two", "row", "other", "here", "there"] ["one", "two"] (defScope st_lessened) := ⟨rfl, rfl, rfl, by decide +kernel, rfl, by decide +kernel, by decide +kernel⟩
def B_lessened : Sm := (sRet (eLc false (iZip (eVar 0) (eVar 1)) (gTup 2 (gsCons (gVar 2) (gsCons (gVar 3) gsNil))) tYesM (eLc false (iZip (eVar 2) (eVar 3)) (gTup 2 (gsCons (gVar 4) (gsCons (gVar 5) gsNil))) tYesM (eCallI V_minus (aCons (eVar 4) (aCons (eVar 5) aNil))) [4, 5]) [2, 3]))
def V_lessened : Fm := fnV 2 6 B_lessened
theorem ok_lessened (W : Wd P K mg) {f : Addr} {fd : FuncData} (F : Fun K "lessened" "lessened" st_lessened f fd) : FnOk P w K mg base (L2N.CX P w) 3 f fd ["one", "two"] (tSp K mg V_lessened) :=
  fn_ok F sc_lessened rfl rfl (fun cdv A outer s H E hr => (ms_one (ms_ret (mlc ([("row", 2), ("other", 3)] : List (Str × Nat)) sc_lessened.nd (izip (W.fr "zip" (by decide)) (mv 0) (mv 1)) (fun s H C cl fp => (gt (gc (gv 2 sc_lessened.nd) (gc (gv 3 sc_lessened.nd) mgs_nil)))) (fun s H C cl fp => mts_nil) (fun s H C cl fp => (mlc ([("here", 4), ("there", 5)] : List (Str × Nat)) sc_lessened.nd (izip (W.fr "zip" (by decide)) (mv 2) (mv 3)) (fun s H C cl fp => (gt (gc (gv 4 sc_lessened.nd) (gc (gv 5 sc_lessened.nd) mgs_nil)))) (fun s H C cl fp => mts_nil) (fun s H C cl fp => (mcall (D_minus W) (hr.mono (by decide)) passLN (mac (mv 4) (mac (mv 5) ma_nil))))))))))
theorem D_lessened (W : Wd P K mg) : FnD P w K mg base 3 "lessened" 2 V_lessened := by
  obtain ⟨f, fd, F, hm⟩ := W.f_lessened
  exact ⟨f, fd, _, ok_lessened W F, hm, F.kp, F.binds fun _ _ _ _ _ _ us hl => match us, hl with | [_, _], _ => rfl⟩
theorem sc_heft_of : FnScope ["trial", "plot"] ["trial", "plot"] (defScope st_heft_of) := ⟨rfl, rfl, rfl, by decide +kernel, rfl, by decide +kernel, by decide +kernel⟩
def B_heft_of : Sm := (sRet (eCallI V_over (aCons (eC (.tuple [.int 1, .int 1])) (aCons (eOp2 fIx (eOp2 fIx (eVar 0) (eC (.int 1))) (eVar 1)) aNil))))
def V_heft_of : Fm := fnV 2 2 B_heft_of
theorem ok_heft_of (W : Wd P K mg) {f : Addr} {fd : FuncData} (F : Fun K "heft_of" "heft_of" st_heft_of f fd) : FnOk P w K mg base (L2N.CX P w) 3 f fd ["trial", "plot"] (tSp K mg V_heft_of) :=
  fn_ok F sc_heft_of rfl rfl (fun cdv A outer s H E hr => (ms_one (ms_ret (mcall (D_over W) (hr.mono (by decide)) passesX (mac (mgl W.g_ONE) (mac (mxi (mxi (mv 0) me_int) (mv 1)) ma_nil))))))
theorem D_heft_of (W : Wd P K mg) : FnD P w K mg base 3 "heft_of" 2 V_heft_of := by
  obtain ⟨f, fd, F, hm⟩ := W.f_heft_of
  exact ⟨f, fd, _, ok_heft_of W F, hm, F.kp, F.binds fun _ _ _ _ _ _ us hl => match us, hl with | [_, _], _ => rfl⟩
theorem sc_heavy_row : FnScope ["trial", "plots", "many", "at", "plot"] ["trial", "plots"] (defScope st_heavy_row) := ⟨rfl, rfl, rfl, by decide +kernel, rfl, by decide +kernel, by decide +kernel⟩
def B_heavy_row : Sm := (sCons (sAsg (eCallI V_many_unknowns (aCons (eVar 0) aNil)) (gVar 2))
    (sRet (eLc false (iRng1 (eVar 2)) (gVar 3) tYesM (eCallI V_total (aCons (eLc false (iSeq (eVar 1)) (gVar 4) tYesM (eCallI V_times (aCons (eCallI V_heft_of (aCons (eVar 0) (aCons (eVar 4) aNil))) (aCons (eOp2 fIx (eOp2 fIx (eOp2 fIx (eVar 0) (eC (.int 0))) (eVar 4)) (eVar 3)) aNil))) [4]) aNil)) [3])))
def V_heavy_row : Fm := fnV 2 5 B_heavy_row
theorem ok_heavy_row (W : Wd P K mg) {f : Addr} {fd : FuncData} (F : Fun K "heavy_row" "heavy_row" st_heavy_row f fd) : FnOk P w K mg base (L2N.CX P w) 4 f fd ["trial", "plots"] (tSp K mg V_heavy_row) :=
  fn_ok F sc_heavy_row rfl rfl (fun cdv A outer s H E hr => (ms_cons (sset 2 sc_heavy_row.nd (mcall (D_many_unknowns W) (hr.mono (by decide)) passesX (mac (mv 0) ma_nil)))
    (ms_one (ms_ret (mlc ([("at", 3)] : List (Str × Nat)) sc_heavy_row.nd (irng1 (W.fr "range" (by decide)) (mv 2)) (fun s H C cl fp => (gv 3 sc_heavy_row.nd)) (fun s H C cl fp => mts_nil) (fun s H C cl fp => (mcall (D_total W) (hr.mono (by decide)) passLN (mac (mlc ([("plot", 4)] : List (Str × Nat)) sc_heavy_row.nd (mi_seq (mv 1)) (fun s H C cl fp => (gv 4 sc_heavy_row.nd)) (fun s H C cl fp => mts_nil) (fun s H C cl fp => (mcall (D_times W) (hr.mono (by decide)) passLN (mac (mcall (D_heft_of W) (hr.mono (by decide)) passLN (mac (mv 0) (mac (mv 4) ma_nil))) (mac (mxi (mxi (mxi (mv 0) me_int) (mv 4)) (mv 3)) ma_nil))))) ma_nil))))))))
theorem D_heavy_row (W : Wd P K mg) : FnD P w K mg base 4 "heavy_row" 2 V_heavy_row := by
  obtain ⟨f, fd, F, hm⟩ := W.f_heavy_row
  exact ⟨f, fd, _, ok_heavy_row W F, hm, F.kp, F.binds fun _ _ _ _ _ _ us hl => match us, hl with | [_, _], _ => rfl⟩
theorem sc_heft_sum : FnScope ["trial", "plots", "plot"] ["trial", "plots"] (defScope st_heft_sum) := ⟨rfl, rfl, rfl, by decide +kernel, rfl, by decide +kernel, by decide +kernel⟩
def B_heft_sum : Sm := (sRet (eCallI V_total (aCons (eLc false (iSeq (eVar 1)) (gVar 2) tYesM (eCallI V_heft_of (aCons (eVar 0) (aCons (eVar 2) aNil))) [2]) aNil)))
def V_heft_sum : Fm := fnV 2 3 B_heft_sum
theorem ok_heft_sum (W : Wd P K mg) {f : Addr} {fd : FuncData} (F : Fun K "heft_sum" "heft_sum" st_heft_sum f fd) : FnOk P w K mg base (L2N.CX P w) 4 f fd ["trial", "plots"] (tSp K mg V_heft_sum) :=
  fn_ok F sc_heft_sum rfl rfl (fun cdv A outer s H E hr => (ms_one (ms_ret (mcall (D_total W) (hr.mono (by decide)) passesX (mac (mlc ([("plot", 2)] : List (Str × Nat)) sc_heft_sum.nd (mi_seq (mv 1)) (fun s H C cl fp => (gv 2 sc_heft_sum.nd)) (fun s H C cl fp => mts_nil) (fun s H C cl fp => (mcall (D_heft_of W) (hr.mono (by decide)) passLN (mac (mv 0) (mac (mv 2) ma_nil))))) ma_nil)))))
theorem D_heft_sum (W : Wd P K mg) : FnD P w K mg base 4 "heft_sum" 2 V_heft_sum := by
  obtain ⟨f, fd, F, hm⟩ := W.f_heft_sum
  exact ⟨f, fd, _, ok_heft_sum W F, hm, F.kp, F.binds fun _ _ _ _ _ _ us hl => match us, hl with | [_, _], _ => rfl⟩
theorem sc_table_by : FnScope ["trial", "found", "plot", "row", "plots"] ["trial"] (defScope st_table_by) := ⟨rfl, rfl, rfl, by decide +kernel, rfl, by decide +kernel, by decide +kernel⟩
def B_table_by : Sm := (sCons (sAsg (eCallI V_noughts_table (aCons (eCallI V_many_unknowns (aCons (eVar 0) aNil)) aNil)) (gVar 1))
    (sCons (sFor (iEnum (eOp2 fIx (eVar 0) (eC (.int 0)))) (gTup 2 (gsCons (gVar 2) (gsCons (gVar 3) gsNil))) (sAsg (eCallI V_added (aCons (eVar 1) (aCons (eCallI V_outer (aCons (eCallI V_heft_of (aCons (eVar 0) (aCons (eVar 2) aNil))) (aCons (eVar 3) aNil))) aNil))) (gVar 1)))
    (sCons (sFor (iSeq (eCallI V_blocks_of (aCons (eVar 0) aNil))) (gVar 4) (sIf (tE (eOp2 fNe (eVar 4) (eLst false aNil))) (sAsg (eCallI V_lessened (aCons (eVar 1) (aCons (eCallI V_outer (aCons (eCallI V_over (aCons (eC (.tuple [.int 1, .int 1])) (aCons (eCallI V_heft_sum (aCons (eVar 0) (aCons (eVar 4) aNil))) aNil))) (aCons (eCallI V_heavy_row (aCons (eVar 0) (aCons (eVar 4) aNil))) aNil))) aNil))) (gVar 1)) sNil))
    (sRet (eCallI V_as_table (aCons (eVar 1) aNil))))))
def V_table_by : Fm := fnV 1 5 B_table_by
theorem ok_table_by (W : Wd P K mg) {f : Addr} {fd : FuncData} (F : Fun K "table_by" "table_by" st_table_by f fd) : FnOk P w K mg base (L2N.CX P w) 5 f fd ["trial"] (tSp K mg V_table_by) :=
  fn_ok F sc_table_by rfl rfl (fun cdv A outer s H E hr => (ms_cons (sset 1 sc_table_by.nd (mcall (D_noughts_table W) (hr.mono (by decide)) passesX (mac (mcall (D_many_unknowns W) (hr.mono (by decide)) passesX (mac (mv 0) ma_nil)) ma_nil)))
    (ms_cons (sfor [2, 3] (passes_of rfl) (ienum (W.fr "enumerate" (by decide)) (mxi (mv 0) me_int)) (gt (gc (gv 2 sc_table_by.nd) (gc (gv 3 sc_table_by.nd) mgs_nil))) (ms_one (sset 1 sc_table_by.nd (mcall (D_added W) (hr.mono (by decide)) passesX (mac (mv 1) (mac (mcall (D_outer W) (hr.mono (by decide)) passesX (mac (mcall (D_heft_of W) (hr.mono (by decide)) passesX (mac (mv 0) (mac (mv 2) ma_nil))) (mac (mv 3) ma_nil))) ma_nil))))))
    (ms_cons (sfor [4] (passes_of rfl) (mi_seq (mcall (D_blocks_of W) (hr.mono (by decide)) passesX (mac (mv 0) ma_nil))) (gv 4 sc_table_by.nd) (ms_one (ms_if (tcmp (c_ne (hu65 hr)) (mv 4) (me_lst ma_nil)) (ms_one (sset 1 sc_table_by.nd (mcall (D_lessened W) (hr.mono (by decide)) passesX (mac (mv 1) (mac (mcall (D_outer W) (hr.mono (by decide)) passesX (mac (mcall (D_over W) (hr.mono (by decide)) passesX (mac (mgl W.g_ONE) (mac (mcall (D_heft_sum W) (hr.mono (by decide)) passesX (mac (mv 0) (mac (mv 4) ma_nil))) ma_nil))) (mac (mcall (D_heavy_row W) (hr.mono (by decide)) passesX (mac (mv 0) (mac (mv 4) ma_nil))) ma_nil))) ma_nil))))) ms_nil)))
    (ms_one (ms_ret (mcall (D_as_table W) (hr.mono (by decide)) passesX (mac (mv 1) ma_nil))))))))
theorem D_table_by (W : Wd P K mg) : FnD P w K mg base 5 "table_by" 1 V_table_by := by
  obtain ⟨f, fd, F, hm⟩ := W.f_table_by
  exact ⟨f, fd, _, ok_table_by W F, hm, F.kp, F.binds fun _ _ _ _ _ _ us hl => match us, hl with | [_], _ => rfl⟩
theorem sc_sign_of : FnScope ["one"] ["one"] (defScope st_sign_of) := ⟨rfl, rfl, rfl, by decide +kernel, rfl, by decide +kernel, by decide +kernel⟩
def B_sign_of : Sm := (sRet (eOp2 fSubB (eOp2 fGt (eOp2 fIx (eVar 0) (eC (.int 0))) (eC (.int 0))) (eOp2 fLt (eOp2 fIx (eVar 0) (eC (.int 0))) (eC (.int 0)))))
def V_sign_of : Fm := fnV 1 1 B_sign_of
theorem ok_sign_of (W : Wd P K mg) {f : Addr} {fd : FuncData} (F : Fun K "sign_of" "sign_of" st_sign_of f fd) : FnOk P w K mg base (L2N.CX P w) 1 f fd ["one"] (tSp K mg V_sign_of) :=
  fn_ok F sc_sign_of rfl rfl (fun cdv A outer s H E hr => (ms_one (ms_ret (me_subB (mcmp c_gt (mxi (mv 0) me_int) me_int) (mcmp c_lt (mxi (mv 0) me_int) me_int)))))
theorem D_sign_of (W : Wd P K mg) : FnD P w K mg base 1 "sign_of" 1 V_sign_of := by
  obtain ⟨f, fd, F, hm⟩ := W.f_sign_of
  exact ⟨f, fd, _, ok_sign_of W F, hm, F.kp, F.binds fun _ _ _ _ _ _ us hl => match us, hl with | [_], _ => rfl⟩
theorem sc_letters_taken : FnScope ["table", "left", "taken", "_", "marks", "above", "line", "row", "at", "each"] ["table"] (defScope st_letters_taken) := ⟨rfl, rfl, rfl, by decide +kernel, rfl, by decide +kernel, by decide +kernel⟩
def B_letters_taken : Sm := (sCons (sPar 1 2 (aCons (eLc false (iSeq (eVar 0)) (gVar 7) tYesM (eArgs (b1 (bList false)) (aCons (eVar 7) aNil)) [7]) (aCons (eLst true aNil) aNil)))
    (sCons (sFor (iSeq (eVar 0)) (gVar 3) (sCons (sAsg (eLc false (iRng1 (eArgs (b1 bLen) (aCons (eVar 1) aNil))) (gVar 8) tYesM (eOp2 fIx (eOp2 fIx (eVar 1) (eVar 8)) (eVar 8)) [8]) (gVar 4))
    (sCons (sAsg (eLc false (iEnum (eVar 4)) (gTup 2 (gsCons (gVar 8) (gsCons (gVar 9) gsNil))) (tE (eOp2 fGt (eOp2 fIx (eVar 9) (eC (.int 0))) (eC (.int 0)))) (eVar 8) [8, 9]) (gVar 5))
    (sIf (tAnd (tE (eOp2 fNe (eVar 5) (eLst false aNil))) (tE (eOp2 fGe (eArgs (b1 bMin) (aCons (eLc false (iSeq (eVar 4)) (gVar 9) tYesM (eCallI V_sign_of (aCons (eVar 9) aNil)) [9]) aNil)) (eC (.int 0))))) (sCons (sAsg (eOp2 fIx (eVar 1) (eOp2 fIx (eVar 5) (eC (.int 0)))) (gVar 6))
    (sCons (sExpr (fun ρ => mB ((eVar 2) ρ) fun x => mB (isLs x) fun _ => mB ((eTup (aCons (eOp2 fIx (eVar 5) (eC (.int 0))) (aCons (eVar 6) aNil))) ρ) fun y => mApp x y))
    (sAsg (eCallI V_lessened (aCons (eVar 1) (aCons (eCallI V_outer (aCons (eCallI V_over (aCons (eC (.tuple [.int 1, .int 1])) (aCons (eOp2 fIx (eVar 6) (eOp2 fIx (eVar 5) (eC (.int 0)))) aNil))) (aCons (eVar 6) aNil))) aNil))) (gVar 1)))) sNil))))
    (sRet (eTup (aCons (eVar 1) (aCons (eFrz 2) aNil))))))
def V_letters_taken : Fm := fnV 1 10 B_letters_taken
theorem ok_letters_taken (W : Wd P K mg) {f : Addr} {fd : FuncData} (F : Fun K "letters_taken" "letters_taken" st_letters_taken f fd) : FnOk P w K mg base (L2N.CX P w) 4 f fd ["table"] (tSp K mg V_letters_taken) :=
  fn_ok F sc_letters_taken rfl rfl (fun cdv A outer s H E hr => (ms_cons (sparC 1 2 sc_letters_taken.nd (mac (mlc ([("row", 7)] : List (Str × Nat)) sc_letters_taken.nd (mi_seq (mv 0)) (fun s H C cl fp => (gv 7 sc_letters_taken.nd)) (fun s H C cl fp => mts_nil) (fun s H C cl fp => (mct bo_list (W.fr "list" (by decide)) PyProof.Rows.Boot.«list» (mac (mv 7) ma_nil)))) (mac (me_lst ma_nil) ma_nil)))
    (ms_cons (sfor [3] (passes_of rfl) (mi_seq (mv 0)) (gv 3 sc_letters_taken.nd) (ms_cons (ssetLc 4 ([("at", 8)] : List (Str × Nat)) sc_letters_taken.nd (irng1 (W.fr "range" (by decide)) (mcb (bo_len) (W.fr "len" (by decide)) PyProof.Rows.Boot.«len» (mac (mv 1) ma_nil))) (fun s H C cl fp => (gv 8 sc_letters_taken.nd)) (fun s H C cl fp => mts_nil) (fun s H C cl fp => (mxi (mxi (mv 1) (mv 8)) (mv 8))))
    (ms_cons (ssetLc 5 ([("at", 8), ("each", 9)] : List (Str × Nat)) sc_letters_taken.nd (ienum (W.fr "enumerate" (by decide)) (mv 4)) (fun s H C cl fp => (gt (gc (gv 8 sc_letters_taken.nd) (gc (gv 9 sc_letters_taken.nd) mgs_nil)))) (fun s H C cl fp => (mts_one (tcmp c_gt (mxi (mv 9) me_int) me_int))) (fun s H C cl fp => (mv 8)))
    (ms_one (ms_if (PW.pt (mw_and (tcmp (c_ne (hu65 hr)) (mv 5) (me_lst ma_nil)) (mw_and1 (tcmp c_ge (mcb (bo_min rfl) (W.fr "min" (by decide)) PyProof.Rows.Boot.«min» (mac (mlc ([("each", 9)] : List (Str × Nat)) sc_letters_taken.nd (mi_seq (mv 4)) (fun s H C cl fp => (gv 9 sc_letters_taken.nd)) (fun s H C cl fp => mts_nil) (fun s H C cl fp => (mcall (D_sign_of W) (hr.mono (by decide)) passLN (mac (mv 9) ma_nil)))) ma_nil)) me_int)))) (ms_cons (sset 6 sc_letters_taken.nd (mxi (mv 1) (mxi (mv 5) me_int)))
    (ms_cons (sexpr (sapp (mv 2) (me_tup (mac (mxi (mv 5) me_int) (mac (mv 6) ma_nil)))))
    (ms_one (sset 1 sc_letters_taken.nd (mcall (D_lessened W) (hr.mono (by decide)) passesX (mac (mv 1) (mac (mcall (D_outer W) (hr.mono (by decide)) passesX (mac (mcall (D_over W) (hr.mono (by decide)) passesX (mac (mgl W.g_ONE) (mac (mxi (mv 6) (mxi (mv 5) me_int)) ma_nil))) (mac (mv 6) ma_nil))) ma_nil))))))) ms_nil)))))
    (ms_one (ms_ret (me_tup (mac (mv 1) (mac (mz 2) ma_nil))))))))
theorem D_letters_taken (W : Wd P K mg) : FnD P w K mg base 4 "letters_taken" 1 V_letters_taken := by
  obtain ⟨f, fd, F, hm⟩ := W.f_letters_taken
  exact ⟨f, fd, _, ok_letters_taken W F, hm, F.kp, F.binds fun _ _ _ _ _ _ us hl => match us, hl with | [_], _ => rfl⟩
theorem sc_low_row : FnScope ["left", "cells", "letter", "one", "two", "part", "at"] ["left"] (defScope st_low_row) := ⟨rfl, rfl, rfl, by decide +kernel, rfl, by decide +kernel, by decide +kernel⟩
def B_low_row : Sm := (sCons (sAsg (eArgs (b1 bRange1) (aCons (eArgs (b1 bLen) (aCons (eVar 0) aNil)) aNil)) (gVar 1))
    (sCons (sFor (iRngV (eVar 1)) (gVar 2) (sIf (tE (eOp2 fLt (eOp2 fIx (eOp2 fIx (eOp2 fIx (eVar 0) (eVar 2)) (eVar 2)) (eC (.int 0))) (eC (.int 0)))) (sRet (eLst false (aCons (eLc false (iRngV (eVar 1)) (gVar 6) tYesM (eIf (tE (eOp2 fEq (eVar 6) (eVar 2))) (eC (.tuple [.int 1, .int 1])) (eC (.tuple [.int 0, .int 1]))) [6]) aNil))) sNil))
    (sCons (sFor (iRngV (eVar 1)) (gVar 3) (sFor (iRngV (eVar 1)) (gVar 4) (sIf (tE (eOp2 fNe (eOp2 fIx (eOp2 fIx (eVar 0) (eVar 3)) (eVar 4)) (eC (.tuple [.int 0, .int 1])))) (sCons (sAsg (eTup (aCons (eOp1 fNeg (eCallI V_sign_of (aCons (eOp2 fIx (eOp2 fIx (eVar 0) (eVar 3)) (eVar 4)) aNil))) (aCons (eC (.int 1)) aNil))) (gVar 5))
    (sRet (eLst false (aCons (eLc false (iRngV (eVar 1)) (gVar 6) tYesM (eIf (tE (eOp2 fEq (eVar 6) (eVar 4))) (eC (.tuple [.int 1, .int 1])) (eIf (tE (eOp2 fEq (eVar 6) (eVar 3))) (eVar 5) (eC (.tuple [.int 0, .int 1])))) [6]) aNil)))) sNil)))
    (sRet (eLst false aNil)))))
def V_low_row : Fm := fnV 1 7 B_low_row
theorem ok_low_row (W : Wd P K mg) {f : Addr} {fd : FuncData} (F : Fun K "low_row" "low_row" st_low_row f fd) : FnOk P w K mg base (L2N.CX P w) 2 f fd ["left"] (tSp K mg V_low_row) :=
  fn_ok F sc_low_row rfl rfl (fun cdv A outer s H E hr => (ms_cons (sset 1 sc_low_row.nd (mct (bo_range1) (W.fr "range" (by decide)) PyProof.Rows.Boot.«range» (mac (mcb (bo_len) (W.fr "len" (by decide)) PyProof.Rows.Boot.«len» (mac (mv 0) ma_nil)) ma_nil)))
    (ms_cons (sfor [2] (passes_of rfl) (mi_rngV (mv 1)) (gv 2 sc_low_row.nd) (ms_one (ms_if (tcmp c_lt (mxi (mxi (mxi (mv 0) (mv 2)) (mv 2)) me_int) me_int) (ms_one (ms_ret (me_lst (mac (mlc ([("at", 6)] : List (Str × Nat)) sc_low_row.nd (mi_rngV (mv 1)) (fun s H C cl fp => (gv 6 sc_low_row.nd)) (fun s H C cl fp => mts_nil) (fun s H C cl fp => (me_ifE (tcmp (c_eq (hu65 hr)) (mv 6) (mv 2)) (mgl W.g_ONE) (mgl W.g_ZERO)))) ma_nil)))) ms_nil)))
    (ms_cons (sfor [3] (passes_of rfl) (mi_rngV (mv 1)) (gv 3 sc_low_row.nd) (ms_one (sfor [4] (passes_of rfl) (mi_rngV (mv 1)) (gv 4 sc_low_row.nd) (ms_one (ms_if (tcmp (c_ne (hu65 hr)) (mxi (mxi (mv 0) (mv 3)) (mv 4)) (mgl W.g_ZERO)) (ms_cons (sset 5 sc_low_row.nd (me_tup (mac (me_neg (mcall (D_sign_of W) (hr.mono (by decide)) passesX (mac (mxi (mxi (mv 0) (mv 3)) (mv 4)) ma_nil))) (mac me_int ma_nil))))
    (ms_one (ms_ret (me_lst (mac (mlc ([("at", 6)] : List (Str × Nat)) sc_low_row.nd (mi_rngV (mv 1)) (fun s H C cl fp => (gv 6 sc_low_row.nd)) (fun s H C cl fp => mts_nil) (fun s H C cl fp => (me_ifE (tcmp (c_eq (hu65 hr)) (mv 6) (mv 4)) (mgl W.g_ONE) (me_ifE (tcmp (c_eq (hu65 hr)) (mv 6) (mv 3)) (mv 5) (mgl W.g_ZERO))))) ma_nil))))) ms_nil)))))
    (ms_one (ms_ret (me_lst ma_nil)))))))
theorem D_low_row (W : Wd P K mg) : FnD P w K mg base 2 "low_row" 1 V_low_row := by
  obtain ⟨f, fd, F, hm⟩ := W.f_low_row
  exact ⟨f, fd, _, ok_low_row W F, hm, F.kp, F.binds fun _ _ _ _ _ _ us hl => match us, hl with | [_], _ => rfl⟩
theorem sc_opposite : FnScope ["one"] ["one"] (defScope st_opposite) := ⟨rfl, rfl, rfl, by decide +kernel, rfl, by decide +kernel, by decide +kernel⟩
def B_opposite : Sm := (sRet (eTup (aCons (eOp1 fNeg (eOp2 fIx (eVar 0) (eC (.int 0)))) (aCons (eOp2 fIx (eVar 0) (eC (.int 1))) aNil))))
def V_opposite : Fm := fnV 1 1 B_opposite
theorem ok_opposite (W : Wd P K mg) {f : Addr} {fd : FuncData} (F : Fun K "opposite" "opposite" st_opposite f fd) : FnOk P w K mg base (L2N.CX P w) 1 f fd ["one"] (tSp K mg V_opposite) :=
  fn_ok F sc_opposite rfl rfl (fun cdv A outer s H E hr => (ms_one (ms_ret (me_tup (mac (me_neg (mxi (mv 0) me_int)) (mac (mxi (mv 0) me_int) ma_nil))))))
theorem D_opposite (W : Wd P K mg) : FnD P w K mg base 1 "opposite" 1 V_opposite := by
  obtain ⟨f, fd, F, hm⟩ := W.f_opposite
  exact ⟨f, fd, _, ok_opposite W F, hm, F.kp, F.binds fun _ _ _ _ _ _ us hl => match us, hl with | [_], _ => rfl⟩
theorem sc_put_back : FnScope ["taken", "row", "found", "letter", "line", "rest", "at", "each"] ["taken", "row"] (defScope st_put_back) := ⟨rfl, rfl, rfl, by decide +kernel, rfl, by decide +kernel, by decide +kernel⟩
def B_put_back : Sm := (sCons (sAsg (eArgs (b1 (bList true)) (aCons (eVar 1) aNil)) (gVar 2))
    (sCons (sFor (iSeq (eOp1 (fRev false) (eVar 0))) (gTup 2 (gsCons (gVar 3) (gsCons (gVar 4) gsNil))) (sCons (sAsg (eCallI V_dot (aCons (eVar 4) (aCons (eLcC false (iEnumC (eVar 2)) (gTup 2 (gsCons (gVar 6) (gsCons (gVar 7) gsNil))) tYesM (eIf (tE (eOp2 fEq (eVar 6) (eVar 3))) (eC (.tuple [.int 0, .int 1])) (eVar 7)) [6, 7]) aNil))) (gVar 5))
    (sAsg (eCallI V_opposite (aCons (eCallI V_over (aCons (eVar 5) (aCons (eOp2 fIx (eVar 4) (eVar 3)) aNil))) aNil)) (gIx (eVar 2) (eVar 3)))))
    (sRet (eArgs (b1 bTuple) (aCons (eVar 2) aNil)))))
def V_put_back : Fm := fnV 2 8 B_put_back
theorem ok_put_back (W : Wd P K mg) {f : Addr} {fd : FuncData} (F : Fun K "put_back" "put_back" st_put_back f fd) : FnOk P w K mg base (L2N.CX P w) 5 f fd ["taken", "row"] (tSp K mg V_put_back) :=
  fn_ok F sc_put_back rfl rfl (fun cdv A outer s H E hr => (ms_cons (sset 2 sc_put_back.nd (mct bo_list (W.fr "list" (by decide)) PyProof.Rows.Boot.«list» (mac (mv 1) ma_nil)))
    (ms_cons (sfor [3, 4] (passes_of rfl) (mi_seq (me_rev (mv 0))) (gt (gc (gv 3 sc_put_back.nd) (gc (gv 4 sc_put_back.nd) mgs_nil))) (ms_cons (sset 5 sc_put_back.nd (mcall (D_dot W) (hr.mono (by decide)) passesX (mac (mv 4) (mac (mlcC ([("at", 6), ("each", 7)] : List (Str × Nat)) sc_put_back.nd (mic_enum (W.fr "enumerate" (by decide)) (mv 2)) (fun s H C cl fp => (gt (gc (gv 6 sc_put_back.nd) (gc (gv 7 sc_put_back.nd) mgs_nil)))) (fun s H C cl fp => mts_nil) (fun s H C cl fp => (me_ifE (tcmp (c_eq (hu65 hr)) (mv 6) (mv 3)) (mgl W.g_ZERO) (mv 7)))) ma_nil))))
    (ms_one (sasg [] (mcall (D_opposite W) (hr.mono (by decide)) passesX (mac (mcall (D_over W) (hr.mono (by decide)) passesX (mac (mv 5) (mac (mxi (mv 4) (mv 3)) ma_nil))) ma_nil)) (gi (mv 2) (mv 3))))))
    (ms_one (ms_ret (mct (bo_tuple) (W.fr "tuple" (by decide)) PyProof.Rows.Boot.«tuple» (mac (mv 2) ma_nil)))))))
theorem D_put_back (W : Wd P K mg) : FnD P w K mg base 5 "put_back" 2 V_put_back := by
  obtain ⟨f, fd, F, hm⟩ := W.f_put_back
  exact ⟨f, fd, _, ok_put_back W F, hm, F.kp, F.binds fun _ _ _ _ _ _ us hl => match us, hl with | [_, _], _ => rfl⟩
theorem sc_squares_or_below_by : FnScope ["table", "left", "taken", "row", "letter", "line"] ["table"] (defScope st_squares_or_below_by) := ⟨rfl, rfl, rfl, by decide +kernel, rfl, by decide +kernel, by decide +kernel⟩
def B_squares_or_below_by : Sm := (sCons (sAsg (eCallI V_letters_taken (aCons (eVar 0) aNil)) (gTup 2 (gsCons (gVar 1) (gsCons (gVar 2) gsNil))))
    (sCons (sFor (iSeq (eCallI V_low_row (aCons (eVar 1) aNil))) (gVar 3) (sRet (eTup (aCons (eC (.str "below")) (aCons (eCallI V_put_back (aCons (eVar 2) (aCons (eVar 3) aNil))) aNil)))))
    (sRet (eTup (aCons (eC (.str "squares")) (aCons (eArgs (b1 bTuple) (aCons (eLc false (iSeq (eVar 2)) (gTup 2 (gsCons (gVar 4) (gsCons (gVar 5) gsNil))) tYesM (eTup (aCons (eCallI V_over (aCons (eC (.tuple [.int 1, .int 1])) (aCons (eOp2 fIx (eVar 5) (eVar 4)) aNil))) (aCons (eArgs (b1 bTuple) (aCons (eVar 5) aNil)) aNil))) [4, 5]) aNil)) aNil))))))
def V_squares_or_below_by : Fm := fnV 1 6 B_squares_or_below_by
theorem ok_squares_or_below_by (W : Wd P K mg) {f : Addr} {fd : FuncData} (F : Fun K "squares_or_below_by" "squares_or_below_by" st_squares_or_below_by f fd) : FnOk P w K mg base (L2N.CX P w) 6 f fd ["table"] (tSp K mg V_squares_or_below_by) :=
  fn_ok F sc_squares_or_below_by rfl rfl (fun cdv A outer s H E hr => (ms_cons (sasg [1, 2] (mcall (D_letters_taken W) (hr.mono (by decide)) passesX (mac (mv 0) ma_nil)) (gt (gc (gv 1 sc_squares_or_below_by.nd) (gc (gv 2 sc_squares_or_below_by.nd) mgs_nil))))
    (ms_cons (sfor [3] (passes_of rfl) (mi_seq (mcall (D_low_row W) (hr.mono (by decide)) passesX (mac (mv 1) ma_nil))) (gv 3 sc_squares_or_below_by.nd) (ms_one (ms_ret (me_tup (mac me_str (mac (mcall (D_put_back W) (hr.mono (by decide)) passesX (mac (mv 2) (mac (mv 3) ma_nil))) ma_nil))))))
    (ms_one (ms_ret (me_tup (mac me_str (mac (mct (bo_tuple) (W.fr "tuple" (by decide)) PyProof.Rows.Boot.«tuple» (mac (mlc ([("letter", 4), ("line", 5)] : List (Str × Nat)) sc_squares_or_below_by.nd (mi_seq (mv 2)) (fun s H C cl fp => (gt (gc (gv 4 sc_squares_or_below_by.nd) (gc (gv 5 sc_squares_or_below_by.nd) mgs_nil)))) (fun s H C cl fp => mts_nil) (fun s H C cl fp => (me_tup (mac (mcall (D_over W) (hr.mono (by decide)) passLN (mac (mgl W.g_ONE) (mac (mxi (mv 5) (mv 4)) ma_nil))) (mac (mct (bo_tuple) (W.fr "tuple" (by decide)) PyProof.Rows.Boot.«tuple» (mac (mv 5) ma_nil)) ma_nil))))) ma_nil)) ma_nil))))))))
theorem D_squares_or_below_by (W : Wd P K mg) : FnD P w K mg base 6 "squares_or_below_by" 1 V_squares_or_below_by := by
  obtain ⟨f, fd, F, hm⟩ := W.f_squares_or_below_by
  exact ⟨f, fd, _, ok_squares_or_below_by W F, hm, F.kp, F.binds fun _ _ _ _ _ _ us hl => match us, hl with | [_], _ => rfl⟩
theorem sc_table_gap : FnScope ["one", "two"] ["one", "two"] (defScope st_table_gap) := ⟨rfl, rfl, rfl, by decide +kernel, rfl, by decide +kernel, by decide +kernel⟩
def B_table_gap : Sm := (sRet (eCallI V_as_table (aCons (eCallI V_lessened (aCons (eVar 0) (aCons (eVar 1) aNil))) aNil)))
def V_table_gap : Fm := fnV 2 2 B_table_gap
theorem ok_table_gap (W : Wd P K mg) {f : Addr} {fd : FuncData} (F : Fun K "table_gap" "table_gap" st_table_gap f fd) : FnOk P w K mg base (L2N.CX P w) 4 f fd ["one", "two"] (tSp K mg V_table_gap) :=
  fn_ok F sc_table_gap rfl rfl (fun cdv A outer s H E hr => (ms_one (ms_ret (mcall (D_as_table W) (hr.mono (by decide)) passesX (mac (mcall (D_lessened W) (hr.mono (by decide)) passesX (mac (mv 0) (mac (mv 1) ma_nil))) ma_nil)))))
theorem D_table_gap (W : Wd P K mg) : FnD P w K mg base 4 "table_gap" 2 V_table_gap := by
  obtain ⟨f, fd, F, hm⟩ := W.f_table_gap
  exact ⟨f, fd, _, ok_table_gap W F, hm, F.kp, F.binds fun _ _ _ _ _ _ us hl => match us, hl with | [_, _], _ => rfl⟩
theorem sc_question_of : FnScope ["table", "row", "each"] ["table", "row"] (defScope st_question_of) := ⟨rfl, rfl, rfl, by decide +kernel, rfl, by decide +kernel, by decide +kernel⟩
def B_question_of : Sm := (sRet (eArgs (b1 bTuple) (aCons (eLc false (iSeq (eVar 0)) (gVar 2) tYesM (eCallI V_dot (aCons (eVar 2) (aCons (eVar 1) aNil))) [2]) aNil)))
def V_question_of : Fm := fnV 2 3 B_question_of
theorem ok_question_of (W : Wd P K mg) {f : Addr} {fd : FuncData} (F : Fun K "question_of" "question_of" st_question_of f fd) : FnOk P w K mg base (L2N.CX P w) 5 f fd ["table", "row"] (tSp K mg V_question_of) :=
  fn_ok F sc_question_of rfl rfl (fun cdv A outer s H E hr => (ms_one (ms_ret (mct (bo_tuple) (W.fr "tuple" (by decide)) PyProof.Rows.Boot.«tuple» (mac (mlc ([("each", 2)] : List (Str × Nat)) sc_question_of.nd (mi_seq (mv 0)) (fun s H C cl fp => (gv 2 sc_question_of.nd)) (fun s H C cl fp => mts_nil) (fun s H C cl fp => (mcall (D_dot W) (hr.mono (by decide)) passLN (mac (mv 2) (mac (mv 1) ma_nil))))) ma_nil)))))
theorem D_question_of (W : Wd P K mg) : FnD P w K mg base 5 "question_of" 2 V_question_of := by
  obtain ⟨f, fd, F, hm⟩ := W.f_question_of
  exact ⟨f, fd, _, ok_question_of W F, hm, F.kp, F.binds fun _ _ _ _ _ _ us hl => match us, hl with | [_, _], _ => rfl⟩
theorem sc_compared_by : FnScope ["one", "two", "word", "found"] ["one", "two"] (defScope st_compared_by) := ⟨rfl, rfl, rfl, by decide +kernel, rfl, by decide +kernel, by decide +kernel⟩
def B_compared_by : Sm := (sCons (sAsg (eCallI V_squares_or_below_by (aCons (eCallI V_table_gap (aCons (eVar 0) (aCons (eVar 1) aNil))) aNil)) (gTup 2 (gsCons (gVar 2) (gsCons (gVar 3) gsNil))))
    (sRet (eIf (tE (eOp2 fEq (eVar 2) (eC (.str "squares")))) (eTup (aCons (eC (.str "as good")) (aCons (eVar 3) aNil))) (eTup (aCons (eC (.str "not")) (aCons (eVar 3) (aCons (eCallI V_question_of (aCons (eVar 1) (aCons (eVar 3) aNil))) aNil)))))))
def V_compared_by : Fm := fnV 2 4 B_compared_by
theorem ok_compared_by (W : Wd P K mg) {f : Addr} {fd : FuncData} (F : Fun K "compared_by" "compared_by" st_compared_by f fd) : FnOk P w K mg base (L2N.CX P w) 7 f fd ["one", "two"] (tSp K mg V_compared_by) :=
  fn_ok F sc_compared_by rfl rfl (fun cdv A outer s H E hr => (ms_cons (sasg [2, 3] (mcall (D_squares_or_below_by W) (hr.mono (by decide)) passesX (mac (mcall (D_table_gap W) (hr.mono (by decide)) passesX (mac (mv 0) (mac (mv 1) ma_nil))) ma_nil)) (gt (gc (gv 2 sc_compared_by.nd) (gc (gv 3 sc_compared_by.nd) mgs_nil))))
    (ms_one (ms_ret (me_ifE (tcmp (c_eq (hu65 hr)) (mv 2) me_str) (me_tup (mac me_str (mac (mv 3) ma_nil))) (me_tup (mac me_str (mac (mv 3) (mac (mcall (D_question_of W) (hr.mono (by decide)) passesX (mac (mv 1) (mac (mv 3) ma_nil))) ma_nil)))))))))
theorem D_compared_by (W : Wd P K mg) : FnD P w K mg base 7 "compared_by" 2 V_compared_by := by
  obtain ⟨f, fd, F, hm⟩ := W.f_compared_by
  exact ⟨f, fd, _, ok_compared_by W F, hm, F.kp, F.binds fun _ _ _ _ _ _ us hl => match us, hl with | [_, _], _ => rfl⟩
theorem sc_is_good_for : FnScope ["table", "other"] ["table", "other"] (defScope st_is_good_for) := ⟨rfl, rfl, rfl, by decide +kernel, rfl, by decide +kernel, by decide +kernel⟩
def B_is_good_for : Sm := (sRet (eOp2 fEq (eOp2 fIx (eCallI V_compared_by (aCons (eVar 0) (aCons (eVar 1) aNil))) (eC (.int 0))) (eC (.str "as good"))))
def V_is_good_for : Fm := fnV 2 2 B_is_good_for
theorem ok_is_good_for (W : Wd P K mg) {f : Addr} {fd : FuncData} (F : Fun K "is_good_for" "is_good_for" st_is_good_for f fd) : FnOk P w K mg base (L2N.CX P w) 8 f fd ["table", "other"] (tSp K mg V_is_good_for) :=
  fn_ok F sc_is_good_for rfl rfl (fun cdv A outer s H E hr => (ms_one (ms_ret (mcmp (c_eq (hu65 hr)) (mxi (mcall (D_compared_by W) (hr.mono (by decide)) passesX (mac (mv 0) (mac (mv 1) ma_nil))) me_int) me_str))))
theorem D_is_good_for (W : Wd P K mg) : FnD P w K mg base 8 "is_good_for" 2 V_is_good_for := by
  obtain ⟨f, fd, F, hm⟩ := W.f_is_good_for
  exact ⟨f, fd, _, ok_is_good_for W F, hm, F.kp, F.binds fun _ _ _ _ _ _ us hl => match us, hl with | [_, _], _ => rfl⟩
theorem sc_best_for_all_by : FnScope ["tables", "index", "table", "each"] ["tables"] (defScope st_best_for_all_by) := ⟨rfl, rfl, rfl, by decide +kernel, rfl, by decide +kernel, by decide +kernel⟩
def B_best_for_all_by : Sm := (sRet (eLc false (iEnum (eVar 0)) (gTup 2 (gsCons (gVar 1) (gsCons (gVar 2) gsNil))) (tE (eArgs (b1 bAll) (aCons (eLc false (iSeq (eVar 0)) (gVar 3) tYesM (eCallI V_is_good_for (aCons (eVar 2) (aCons (eVar 3) aNil))) [3]) aNil))) (eVar 1) [1, 2]))
def V_best_for_all_by : Fm := fnV 1 4 B_best_for_all_by
theorem ok_best_for_all_by (W : Wd P K mg) {f : Addr} {fd : FuncData} (F : Fun K "best_for_all_by" "best_for_all_by" st_best_for_all_by f fd) : FnOk P w K mg base (L2N.CX P w) 9 f fd ["tables"] (tSp K mg V_best_for_all_by) :=
  fn_ok F sc_best_for_all_by rfl rfl (fun cdv A outer s H E hr => (ms_one (ms_ret (mlc ([("index", 1), ("table", 2)] : List (Str × Nat)) sc_best_for_all_by.nd (ienum (W.fr "enumerate" (by decide)) (mv 0)) (fun s H C cl fp => (gt (gc (gv 1 sc_best_for_all_by.nd) (gc (gv 2 sc_best_for_all_by.nd) mgs_nil)))) (fun s H C cl fp => (mts_one (tval (mcb (bo_all rfl) (W.fr "all" (by decide)) PyProof.Rows.Boot.«all» (mac (mlc ([("each", 3)] : List (Str × Nat)) sc_best_for_all_by.nd (mi_seq (mv 0)) (fun s H C cl fp => (gv 3 sc_best_for_all_by.nd)) (fun s H C cl fp => mts_nil) (fun s H C cl fp => (mcall (D_is_good_for W) (hr.mono (by decide)) passLN (mac (mv 2) (mac (mv 3) ma_nil))))) ma_nil))))) (fun s H C cl fp => (mv 1))))))
theorem D_best_for_all_by (W : Wd P K mg) : FnD P w K mg base 9 "best_for_all_by" 1 V_best_for_all_by := by
  obtain ⟨f, fd, F, hm⟩ := W.f_best_for_all_by
  exact ⟨f, fd, _, ok_best_for_all_by W F, hm, F.kp, F.binds fun _ _ _ _ _ _ us hl => match us, hl with | [_], _ => rfl⟩
theorem sc_best_for_all : FnScope ["trial", "candidates", "many", "lots", "tables", "lot", "index"] ["trial", "candidates", "many"] (defScope st_best_for_all) := ⟨rfl, rfl, rfl, by decide +kernel, rfl, by decide +kernel, by decide +kernel⟩
def B_best_for_all : Sm := (sCons (sExpr (eCallI V_check_trial (aCons (eVar 0) aNil)))
    (sCons (sExpr (eCallI V_check_candidates (aCons (eVar 0) (aCons (eVar 1) aNil))))
    (sCons (sExpr (eCallI V_check_many (aCons (eVar 2) (aCons (eC (.int 0)) (aCons (eArgs (b1 bLen) (aCons (eVar 1) aNil)) aNil)))))
    (sCons (sExpr (eCallI V_check_room (aCons (eVar 0) (aCons (eVar 2) aNil))))
    (sCons (sAsg (eArgs (b1 bSorted2) (aCons (eCallI V_plot_lots (aCons (eArgs (b1 bLen) (aCons (eVar 1) aNil)) (aCons (eVar 2) aNil))) aNil)) (gVar 3))
    (sCons (sAsg (eLc false (iSeq (eVar 3)) (gVar 5) tYesM (eCallI V_table_by (aCons (eCallI V_trial_more (aCons (eVar 0) (aCons (eVar 1) (aCons (eVar 5) aNil)))) aNil)) [5]) (gVar 4))
    (sRet (eArgs (b1 bTuple) (aCons (eLc false (iSeq (eCallI V_best_for_all_by (aCons (eVar 4) aNil))) (gVar 6) tYesM (eOp2 fIx (eVar 3) (eVar 6)) [6]) aNil)))))))))
def V_best_for_all : Fm := fnV 3 7 B_best_for_all
theorem ok_best_for_all (W : Wd P K mg) {f : Addr} {fd : FuncData} (F : Fun K "best_for_all" "best_for_all" st_best_for_all f fd) : FnOk P w K mg base (L2N.CX P w) 10 f fd ["trial", "candidates", "many"] (tSp K mg V_best_for_all) :=
  fn_ok F sc_best_for_all rfl rfl (fun cdv A outer s H E hr => (ms_cons (sexpr (mcall (D_check_trial W) (hr.mono (by decide)) passesX (mac (mv 0) ma_nil)))
    (ms_cons (sexpr (mcall (D_check_candidates W) (hr.mono (by decide)) passesX (mac (mv 0) (mac (mv 1) ma_nil))))
    (ms_cons (sexpr (mcall (D_check_many W) (hr.mono (by decide)) passesX (mac (mv 2) (mac me_int (mac (mcb (bo_len) (W.fr "len" (by decide)) PyProof.Rows.Boot.«len» (mac (mv 1) ma_nil)) ma_nil)))))
    (ms_cons (sexpr (mcall (D_check_room W) (hr.mono (by decide)) passesX (mac (mv 0) (mac (mv 2) ma_nil))))
    (ms_cons (sset 3 sc_best_for_all.nd (mcb (bo_sorted2 (hu65 hr)) (W.fr "sorted" (by decide)) PyProof.Rows.Boot.«sorted» (mac (mcall (D_plot_lots W) (hr.mono (by decide)) passesX (mac (mcb (bo_len) (W.fr "len" (by decide)) PyProof.Rows.Boot.«len» (mac (mv 1) ma_nil)) (mac (mv 2) ma_nil))) ma_nil)))
    (ms_cons (ssetLc 4 ([("lot", 5)] : List (Str × Nat)) sc_best_for_all.nd (mi_seq (mv 3)) (fun s H C cl fp => (gv 5 sc_best_for_all.nd)) (fun s H C cl fp => mts_nil) (fun s H C cl fp => (mcall (D_table_by W) (hr.mono (by decide)) passLN (mac (mcall (D_trial_more W) (hr.mono (by decide)) passLN (mac (mv 0) (mac (mv 1) (mac (mv 5) ma_nil)))) ma_nil))))
    (ms_one (ms_ret (mct (bo_tuple) (W.fr "tuple" (by decide)) PyProof.Rows.Boot.«tuple» (mac (mlc ([("index", 6)] : List (Str × Nat)) sc_best_for_all.nd (mi_seq (mcall (D_best_for_all_by W) (hr.mono (by decide)) passesX (mac (mv 4) ma_nil))) (fun s H C cl fp => (gv 6 sc_best_for_all.nd)) (fun s H C cl fp => mts_nil) (fun s H C cl fp => (mxi (mv 3) (mv 6)))) ma_nil)))))))))))
theorem D_best_for_all (W : Wd P K mg) : FnD P w K mg base 10 "best_for_all" 3 V_best_for_all := by
  obtain ⟨f, fd, F, hm⟩ := W.f_best_for_all
  exact ⟨f, fd, _, ok_best_for_all W F, hm, F.kp, F.binds fun _ _ _ _ _ _ us hl => match us, hl with | [_, _, _], _ => rfl⟩
theorem sc__law_right : FnScope ["pool", "trial", "question", "blocked", "more", "bad", "ill", "rows", "odd", "number", "untold", "wide", "told"] ["pool"] (defScope st__law_right) := ⟨rfl, rfl, rfl, by decide +kernel, rfl, by decide +kernel, by decide +kernel⟩
def B__law_right : Sm := (sCons (sPar 1 2 (aCons (eTup (aCons (eTup (aCons (eTup (aCons (eTup (aCons (eC (.int 1)) (aCons (eC (.int 1)) aNil))) (aCons (eTup (aCons (eC (.int 0)) (aCons (eC (.int 1)) aNil))) aNil))) (aCons (eTup (aCons (eTup (aCons (eC (.int 2)) (aCons (eC (.int 1)) aNil))) (aCons (eTup (aCons (eC (.int 0)) (aCons (eC (.int 1)) aNil))) aNil))) aNil))) (aCons (eTup (aCons (eTup (aCons (eC (.int 1)) (aCons (eC (.int 1)) aNil))) (aCons (eTup (aCons (eC (.int 1)) (aCons (eC (.int 2)) aNil))) aNil))) (aCons (eTup aNil) aNil)))) (aCons (eTup (aCons (eTup (aCons (eC (.int 1)) (aCons (eC (.int 1)) aNil))) (aCons (eTup (aCons (eC (.int 0)) (aCons (eC (.int 1)) aNil))) aNil))) aNil)))
    (sCons (sPar 3 4 (aCons (eOp2 (fAdd false) (eSl false (eVar 1) oNone (oSome (eC (.int 2)))) (eTup (aCons (eTup (aCons (eC (.int 0)) (aCons (eC (.int 0)) aNil))) aNil))) (aCons (eTup (aCons (eTup (aCons (eTup (aCons (eTup (aCons (eC (.int 1)) (aCons (eC (.int 1)) aNil))) (aCons (eTup (aCons (eC (.int 1)) (aCons (eC (.int 1)) aNil))) aNil))) (aCons (eTup (aCons (eC (.int 1)) (aCons (eC (.int 1)) aNil))) (aCons (eC .none) aNil)))) (aCons (eTup (aCons (eTup (aCons (eTup (aCons (eC (.int 0)) (aCons (eC (.int 1)) aNil))) (aCons (eTup (aCons (eC (.int 1)) (aCons (eC (.int 1)) aNil))) aNil))) (aCons (eTup (aCons (eC (.int 2)) (aCons (eC (.int 1)) aNil))) (aCons (eC .none) aNil)))) aNil))) aNil)))
    (sCons (sAsg (eCall V__law_one (aCons (eVar 0) (aCons (eLst false (aCons (eC .none) (aCons (eSl false (eVar 1) oNone (oSome (eC (.int 2)))) (aCons (eArgs (b1 (bList false)) (aCons (eVar 1) aNil)) (aCons (eC (.int 0)) (aCons (eTup (aCons (eOp2 fIx (eVar 1) (eC (.int 0))) (aCons (eSl false (eOp2 fIx (eVar 1) (eC (.int 1))) oNone (oSome (eC (.int 1)))) (aCons (eTup aNil) aNil)))) aNil)))))) aNil))) (gVar 5))
    (sCons (sAsg (eCall V__law_one (aCons (eVar 0) (aCons (eLst false (aCons (eC .none) (aCons (eSl false (eVar 2) oNone (oSome (eC (.int 1)))) (aCons (eArgs (b1 (bList false)) (aCons (eVar 2) aNil)) (aCons (eTup (aCons (eTup (aCons (eC (.int 2)) (aCons (eC (.int 2)) aNil))) (aCons (eTup (aCons (eC (.int 0)) (aCons (eC (.int 1)) aNil))) aNil))) (aCons (eC (.int 5)) aNil)))))) aNil))) (gVar 6))
    (sCons (sAsg (eLst false (aCons (eTup (aCons (eC .none) (aCons (eC .none) aNil))) (aCons (eTup (aCons (eTup aNil) (aCons (eC .none) aNil))) (aCons (eTup (aCons (eArgs (b1 (bList false)) (aCons (eVar 4) aNil)) (aCons (eC .none) aNil))) (aCons (eTup (aCons (eOp2 (fAdd false) (eVar 4) (eTup (aCons (eSl false (eOp2 fIx (eVar 4) (eC (.int 0))) oNone (oSome (eC (.int 2)))) aNil))) (aCons (eC (.int 2)) aNil))) (aCons (eTup (aCons (eTup (aCons (eOp2 (fAdd false) (eSl false (eOp2 fIx (eVar 4) (eC (.int 0))) oNone (oSome (eC (.int 2)))) (eTup (aCons (eC (.int 0)) aNil))) aNil)) (aCons (eC (.int 0)) aNil))) (aCons (eTup (aCons (eTup (aCons (eOp2 fIx (eVar 4) (eC (.int 0))) (aCons (eTup (aCons (eOp2 fIx (eOp2 fIx (eVar 4) (eC (.int 0))) (eC (.int 0))) (aCons (eTup (aCons (eC (.int 0)) (aCons (eC (.int 1)) aNil))) (aCons (eC .none) aNil)))) aNil))) (aCons (eC (.int 1)) aNil))) (aCons (eTup (aCons (eTup (aCons (eOp2 fIx (eVar 4) (eC (.int 0))) (aCons (eC .none) aNil))) (aCons (eC (.int 1)) aNil))) aNil)))))))) (gVar 7))
    (sCons (sAsg (eCall V__law_one (aCons (eVar 0) (aCons (eOp2 (fAdd false) (eVar 7) (eLst false (aCons (eTup (aCons (eOp2 (fAdd false) (eOp2 (fMul false) (eVar 4) (eC (.int 4))) (eSl false (eVar 4) oNone (oSome (eC (.int 1))))) (aCons (eC .none) aNil))) (aCons (eTup (aCons (eTup (aCons (eTup (aCons (eTup (aCons (eTup (aCons (eC (.int 1)) (aCons (eC (.int 1)) aNil))) aNil)) (aCons (eTup (aCons (eC (.int 1)) (aCons (eC (.int 1)) aNil))) (aCons (eC .none) aNil)))) aNil)) (aCons (eC (.int 0)) aNil))) (aCons (eTup (aCons (eTup (aCons (eTup (aCons (eTup (aCons (eC (.int 1)) (aCons (eC (.int 1)) aNil))) (aCons (eTup (aCons (eC (.int 1)) (aCons (eC (.int 1)) aNil))) aNil))) (aCons (eC (.int 1)) (aCons (eC .none) aNil)))) (aCons (eC (.int 0)) aNil))) aNil))))) aNil))) (gVar 8))
    (sCons (sAsg (eCall V__law_one (aCons (eVar 0) (aCons (eLst false (aCons (eOp1 fNeg (eC (.int 1))) (aCons (eC (.int 3)) (aCons (eC .none) (aCons (eC (.bool true)) (aCons (eC (.str "1")) (aCons (eTup (aCons (eC (.int 1)) aNil)) aNil))))))) aNil))) (gVar 9))
    (sCons (sIf (tOr (tE (eOp2 fNe (eCallI V__law_told_all (aCons (eVar 5) (aCons (eVar 6) (aCons (eOp2 fIx (eVar 8) (eC (.int 0))) (aCons (eVar 9) aNil))))) (eOp2 (fMul false) (eLst false (aCons (eTup (aCons (eC (.str "trial")) (aCons (eOp1 fRepr (eVar 5)) aNil))) aNil)) (eC (.int 4))))) (tE (eOp2 fNe (eCallI V__law_told_all (aCons (eVar 1) (aCons (eVar 6) (aCons (eOp2 fIx (eVar 8) (eC (.int 0))) (aCons (eVar 9) aNil))))) (eOp2 (fMul false) (eLst false (aCons (eTup (aCons (eC (.str "question")) (aCons (eOp1 fRepr (eVar 6)) aNil))) aNil)) (eC (.int 4)))))) (sRet (eC (.bool false))) sNil)
    (sCons (sIf (tE (eOp2 fNe (eCallI V__law_told_all (aCons (eVar 1) (aCons (eVar 2) (aCons (eOp2 fIx (eVar 8) (eC (.int 0))) (aCons (eVar 9) aNil))))) (eOp2 (fMul false) (eLst false (aCons (eTup (aCons (eC (.str "rows")) (aCons (eOp1 fRepr (eOp2 fIx (eVar 8) (eC (.int 1)))) aNil))) aNil)) (eC (.int 4))))) (sRet (eC (.bool false))) sNil)
    (sCons (sIf (tE (eOp2 fNe (eCallI V__law_told_all (aCons (eVar 1) (aCons (eVar 2) (aCons (eVar 4) (aCons (eVar 9) aNil))))) (eOp2 (fMul false) (eLst false (aCons (eTup (aCons (eC (.str "number")) (aCons (eOp1 fRepr (eVar 9)) aNil))) aNil)) (eC (.int 4))))) (sRet (eC (.bool false))) sNil)
    (sCons (sPar 10 11 (aCons (eTup (aCons (eTup (aCons (eC (.int 0)) (aCons (eC (.int 1)) aNil))) (aCons (eTup (aCons (eC (.int 1)) (aCons (eC (.int 1)) aNil))) aNil))) (aCons (eTup (aCons (eOp2 (fMul false) (eOp2 fIx (eVar 1) (eC (.int 0))) (eC (.int 4))) (aCons (eOp2 (fMul false) (eOp2 fIx (eVar 1) (eC (.int 1))) (eC (.int 4))) (aCons (eTup aNil) aNil)))) aNil)))
    (sCons (sIf (tOr (tE (eOp2 fNe (eCallI V__law_told_all (aCons (eVar 1) (aCons (eVar 10) (aCons (eVar 4) (aCons (eC (.int 1)) aNil))))) (eOp2 (fMul false) (eLst false (aCons (eTup (aCons (eC (.str "untold")) (aCons (eC (.str "")) aNil))) aNil)) (eC (.int 4))))) (tE (eOp2 fNe (eCallI V__law_told_all (aCons (eVar 11) (aCons (eVar 10) (aCons (eOp2 (fMul false) (eVar 4) (eC (.int 2))) (aCons (eC (.int 3)) aNil))))) (eOp2 (fMul false) (eLst false (aCons (eTup (aCons (eC (.str "unfit")) (aCons (eC (.str "11")) aNil))) aNil)) (eC (.int 4)))))) (sRet (eC (.bool false))) sNil)
    (sCons (sIf (tOr (tE (eOp2 fNe (eCallI V__law_told_all (aCons (eVar 11) (aCons (eVar 2) (aCons (eVar 4) (aCons (eC (.int 2)) aNil))))) (eOp2 (fMul false) (eLst false (aCons (eTup (aCons (eC (.str "right")) (aCons (eC (.str "")) aNil))) aNil)) (eC (.int 4))))) (tE (eOp2 fNe (eCallI V__law_told_all (aCons (eVar 3) (aCons (eVar 2) (aCons (eVar 4) (aCons (eC (.int 1)) aNil))))) (eOp2 (fMul false) (eLst false (aCons (eTup (aCons (eC (.str "rows")) (aCons (eC (.str "0")) aNil))) aNil)) (eC (.int 4)))))) (sRet (eC (.bool false))) sNil)
    (sCons (sAsg (eLst true (aCons (eSaid sd_n sd_i sd_nms sd_h sd_r (eCallI V_best_for_all (aCons (eVar 5) (aCons (eOp2 fIx (eVar 8) (eC (.int 0))) (aCons (eVar 9) aNil))))) aNil)) (gVar 12))
    (sCons (sExpr (fun ρ => mB ((eVar 12) ρ) fun x => mB (isLs x) fun _ => mB ((eSaid sd_n sd_i sd_nms sd_h sd_r (eCallI V_best_for_all (aCons (eVar 1) (aCons (eOp2 fIx (eVar 8) (eC (.int 0))) (aCons (eVar 9) aNil))))) ρ) fun y => mApp x y))
    (sCons (sExpr (fun ρ => mB ((eVar 12) ρ) fun x => mB (isLs x) fun _ => mB ((eSaid sd_n sd_i sd_nms sd_h sd_r (eCallKI V_best_for_all [2, 1, 0] (aCons (eVar 9) (aCons (eVar 4) (aCons (eVar 1) aNil))))) ρ) fun y => mApp x y))
    (sCons (sExpr (fun ρ => mB ((eVar 12) ρ) fun x => mB (isLs x) fun _ => mB ((eSaid sd_n sd_i sd_nms sd_h sd_r (eCallI V_best_for_all (aCons (eVar 11) (aCons (eOp2 (fMul false) (eVar 4) (eC (.int 2))) (aCons (eC (.int 4)) aNil))))) ρ) fun y => mApp x y))
    (sCons (sExpr (fun ρ => mB ((eVar 12) ρ) fun x => mB (isLs x) fun _ => mB ((eSaid sd_n sd_i sd_nms sd_h sd_r (eCallI V_best_for_all (aCons (eVar 1) (aCons (eVar 4) (aCons (eC (.int 1)) aNil))))) ρ) fun y => mApp x y))
    (sRet (eOp2 fEq (eVar 12) (eLst false (aCons (eTup (aCons (eC (.str "trial")) (aCons (eOp1 fRepr (eVar 5)) aNil))) (aCons (eTup (aCons (eC (.str "rows")) (aCons (eOp1 fRepr (eOp2 fIx (eVar 8) (eC (.int 1)))) aNil))) (aCons (eTup (aCons (eC (.str "number")) (aCons (eOp1 fRepr (eVar 9)) aNil))) (aCons (eTup (aCons (eC (.str "unfit")) (aCons (eC (.str "12")) aNil))) (aCons (eTup (aCons (eC (.str "right")) (aCons (eC (.str "")) aNil))) aNil))))))))))))))))))))))))))
def V__law_right : Fm := fnV 1 13 B__law_right
theorem sc_law : FnScope ["script", "lap", "pool", "again"] ["script"] (defScope st_law) := ⟨rfl, rfl, rfl, by decide +kernel, rfl, by decide +kernel, by decide +kernel⟩
def B_law : Sm := (sCons (sFor (iRng1 (eArgs (b2 bMax2) (aCons (eC (.int 1)) (aCons (eArgs (b2 bMin2) (aCons (eArgs (b1 bLen) (aCons (eVar 0) aNil)) (aCons (eC (.int 3)) aNil))) aNil)))) (gVar 1) (sCons (sAsg (eCall V__law_pool (aCons (eVar 0) (aCons (eVar 1) aNil))) (gVar 2))
    (sIf (tNot (tE (eArgs (b1 bAll) (aCons (eLc false (iRng1 (eC (.int 2))) (gVar 3) tYesM (eCall V__law_right (aCons (eVar 2) aNil)) [3]) aNil)))) (sRet (eC (.bool false))) sNil)))
    (sRet (eC (.bool true))))
def V_law : Fm := fnV 1 4 B_law
theorem DK_step_by_step_3_2_1_0 (W : Wd P K mg) : FnKw P w K mg base 10 "step_by_step" V_step_by_step ["many", "candidates", "question", "trial"] [3, 2, 1, 0] := by
  obtain ⟨f, fd, F, hm⟩ := W.f_step_by_step
  exact ⟨f, fd, _, ok_step_by_step W F, hm, F.kp, F.kwb fun _ _ _ _ _ _ us hl => match us, hl with | [_, _, _, _], _ => rfl⟩
theorem DK_best_for_all_2_1_0 (W : Wd P K mg) : FnKw P w K mg base 10 "best_for_all" V_best_for_all ["many", "candidates", "trial"] [2, 1, 0] := by
  obtain ⟨f, fd, F, hm⟩ := W.f_best_for_all
  exact ⟨f, fd, _, ok_best_for_all W F, hm, F.kp, F.kwb fun _ _ _ _ _ _ us hl => match us, hl with | [_, _, _], _ => rfl⟩
end GL
set_option Elab.async false
set_option linter.all false
set_option maxRecDepth 100000
set_option maxHeartbeats 4000000
namespace GL
open PySem PySem.Spec PyProof.Rows L2 LamX MK
variable [Tb]
variable {P : Program} {w : World} {K : PySem.W.Frag} {mg : Str → Option Value} {base : Heap}
def lamQ__law_told_all : Str := (("_law_told_all" : Str) ++ ".<locals>.") ++ "<lambda>"
abbrev cR__law_told_all (P : Program) (w : World) (K : PySem.W.Frag) (mg : Str → Option Value) (base : Heap) (f c : Addr) (A : Around) (outer : List Env) (s : Shared) (H : Hp) (E : XK) : Cx := cxOf (L2N.CX P w) P w K mg base ["trial", "question", "candidates", "many", "told"] "_law_told_all" (defScope st__law_told_all) f (.ref c) A outer s H E
theorem said__law_told_all (W : Wd P K mg) {f c Pt : Addr} {A : Around} {outer : List Env} {s : Shared} {H : Hp} {E : XK} {params : Arguments} {body : Expr} {scope : Scope} {mb : Em} {p lpos pos : Pos} (TB : TabB base mg c Pt) (hT : (Pt, lamQ__law_told_all) ∈ Tb.T ∧ ∀ p ∈ Tb.T, p.1 = Pt → p.2 = lamQ__law_told_all) (hgd : A.guards = some []) (hr : Room 14 (cR__law_told_all P w K mg base f c A outer s H E).A)
    (hbody : ∀ (A2 : Around) (outer2 : List Env) (s2 : Shared) (H2 : Hp) (E2 : XK) (f2 c2 : Addr), Room 12 (A2.deeper (lamEnv (cR__law_told_all P w K mg base f c A outer s H E) scope s2.heap.objs.size f2 c2)) → ME (lamN (cR__law_told_all P w K mg base f c A outer s H E) A2 outer2 s2 H2 E2 scope f2 c2) E2 body mb)
    (L : lamSB (cR__law_told_all P w K mg base f c A outer s H E).env.scope scope = true := by rfl) (hdef : defaultsOf params (cR__law_told_all P w K mg base f c A outer s H E).env = ([], []) := by rfl)
    (hbind : ∀ (q : Str) (cl : List (Str × Addr)) (pm cv ctv : Value), bindArgs (PySem.W.kla_fn "<lambda>" q params body scope cl pm cv ctv) ⟨[], []⟩ = pure [] := by intro _ _ _ _ _; rfl) :
    ME (cR__law_told_all P w K mg base f c A outer s H E) E (.Call (.Name "_law_said" p) [.Lambda params body scope lpos] [] pos) (eSaid sd_n sd_i sd_nms sd_h sd_r mb) := by
  obtain ⟨g, fdg, Fg, hmg⟩ := W.f__law_said
  have bg := Fg.binds (ps := ["act"]) fun _ _ _ _ _ _ us hl => match us, hl with | [_], _ => rfl
  obtain ⟨oc, od, kV, doc, pm, an, cdg, ct, osl, rfl, lk, hcg⟩ := Fg.ex
  obtain ⟨CS, hCS, hcl⟩ := W.s_cls
  refine me_said (n := sd_n) (i := sd_i) (nms := sd_nms) (hm := sd_h) (rs := sd_r) (k := 12) rfl hmg Fg.kp lk hcg bg sc__law_said rfl (by first | exact Or.inl rfl | exact Or.inr (Or.inl rfl)) ?_ TB rfl hT.1 hT.2 hr (lamS_by L) hdef hbind hbody
  refine said_gives (e := "TrialError") (en := "e") rfl sc__law_said.nd rfl rfl rfl rfl hCS (by decide) hcl (fun _ => rfl) (fun s3 H3 ad oe cls d pn hr hz hf => ?_) (fun s3 H3 hr => ?_)
  · have hot := hot_suite (a := ad) (X := (cxOf C8.CX0 P w K mg base ["act", "e", "some", "found", "word", "is_so"] "_law_said" (defScope st__law_said) g cdg (cR__law_told_all P w K mg base f c A outer s H E).A (cR__law_told_all P w K mg base f c A outer s H E).stack s3 H3 C8.E0).nox) (pn := pn) hz hf
    have hu5 := hu65 hr
    have hu3 := hu30 hr
    exact (ms_cons (sset 2 sc__law_said.nd (me_lst (mac (me_tup (mac me_str (mac (me_isE hf rfl (W.i_InvalidTrial).choose_spec.1 (W.i_InvalidTrial).choose_spec.2 (mv 1) rfl (W.fr "isinstance" (by decide))) ma_nil))) (mac (me_tup (mac me_str (mac (me_isE hf rfl (W.i_InvalidQuestion).choose_spec.1 (W.i_InvalidQuestion).choose_spec.2 (mv 1) rfl (W.fr "isinstance" (by decide))) ma_nil))) (mac (me_tup (mac me_str (mac (me_isE hf rfl (W.i_InvalidRows).choose_spec.1 (W.i_InvalidRows).choose_spec.2 (mv 1) rfl (W.fr "isinstance" (by decide))) ma_nil))) ma_nil)))))
    (ms_cons (sset 2 sc__law_said.nd (me_add (mv 2) (me_lst (mac (me_tup (mac me_str (mac (me_isE hf rfl (W.i_InvalidNumber).choose_spec.1 (W.i_InvalidNumber).choose_spec.2 (mv 1) rfl (W.fr "isinstance" (by decide))) ma_nil))) (mac (me_tup (mac me_str (mac (me_isE hf rfl (W.i_Unfit).choose_spec.1 (W.i_Unfit).choose_spec.2 (mv 1) rfl (W.fr "isinstance" (by decide))) ma_nil))) (mac (me_tup (mac me_str (mac (me_isE hf rfl (W.i_NotTold).choose_spec.1 (W.i_NotTold).choose_spec.2 (mv 1) rfl (W.fr "isinstance" (by decide))) ma_nil))) ma_nil))))))
    (ms_cons (ssetLcH 3 ([("word", 4), ("is_so", 5)] : List (Str × Nat)) hot sc__law_said.nd (mv 2) (fun s H C cl fp hb => (mg_tupH hb (gc (gv 4 sc__law_said.nd) (gc (gv 5 sc__law_said.nd) mgs_nil)) rfl rfl)) (fun s H C cl fp => (mts_one (tval (mv 5)))) (fun s H C cl fp => (mv 4)))
    (ms_cons (ms_if (PW.pt (mw_or (tcmp (c_ne hu5) (mcb (bo_len) (W.fr "len" (by decide)) PyProof.Rows.Boot.«len» (mac (mv 3) ma_nil)) me_int) (mw_or (mt_not (tval (me_isEB hf rfl (W.fr "ValueError" (by decide)) PyProof.Rows.Boot.«ValueError» W.i_ValueError (mv 1) rfl (W.fr "isinstance" (by decide))))) (mw_or1 (tval (me_isEB hf rfl (W.fr "LookupError" (by decide)) PyProof.Rows.Boot.«LookupError» W.i_LookupError (mv 1) rfl (W.fr "isinstance" (by decide)))))))) (ms_one (ms_ret (me_tup (mac me_str (mac me_str ma_nil))))) ms_nil)
    (ms_cons (ms_if (tcmp (c_eq hu5) (mxi (mv 3) me_int) me_str) (ms_one (ms_ret (me_tup (mac me_str (mac me_str ma_nil))))) ms_nil)
    (ms_one (ms_ret (me_tup (mac (mxi (mv 3) me_int) (mac (me_repr hgd hu3 (me_ifE (tcmp (c_eq hu5) (mxi (mv 3) me_int) me_str) (me_giv hf W.giv_index (mv 1)) (me_giv hf W.giv_given (mv 1))) rfl (W.fr "repr" (by decide))) ma_nil))))))))))
  · exact (ms_one (ms_ret (me_tup (mac me_str (mac me_str ma_nil)))))
def lamQ__law_right : Str := (("_law_right" : Str) ++ ".<locals>.") ++ "<lambda>"
abbrev cR__law_right (P : Program) (w : World) (K : PySem.W.Frag) (mg : Str → Option Value) (base : Heap) (f c : Addr) (A : Around) (outer : List Env) (s : Shared) (H : Hp) (E : XK) : Cx := cxOf (L2N.CX P w) P w K mg base ["pool", "trial", "question", "blocked", "more", "bad", "ill", "rows", "odd", "number", "untold", "wide", "told"] "_law_right" (defScope st__law_right) f (.ref c) A outer s H E
theorem said__law_right (W : Wd P K mg) {f c Pt : Addr} {A : Around} {outer : List Env} {s : Shared} {H : Hp} {E : XK} {params : Arguments} {body : Expr} {scope : Scope} {mb : Em} {p lpos pos : Pos} (TB : TabB base mg c Pt) (hT : (Pt, lamQ__law_right) ∈ Tb.T ∧ ∀ p ∈ Tb.T, p.1 = Pt → p.2 = lamQ__law_right) (hgd : A.guards = some []) (hr : Room 18 (cR__law_right P w K mg base f c A outer s H E).A)
    (hbody : ∀ (A2 : Around) (outer2 : List Env) (s2 : Shared) (H2 : Hp) (E2 : XK) (f2 c2 : Addr), Room 16 (A2.deeper (lamEnv (cR__law_right P w K mg base f c A outer s H E) scope s2.heap.objs.size f2 c2)) → ME (lamN (cR__law_right P w K mg base f c A outer s H E) A2 outer2 s2 H2 E2 scope f2 c2) E2 body mb)
    (L : lamSB (cR__law_right P w K mg base f c A outer s H E).env.scope scope = true := by rfl) (hdef : defaultsOf params (cR__law_right P w K mg base f c A outer s H E).env = ([], []) := by rfl)
    (hbind : ∀ (q : Str) (cl : List (Str × Addr)) (pm cv ctv : Value), bindArgs (PySem.W.kla_fn "<lambda>" q params body scope cl pm cv ctv) ⟨[], []⟩ = pure [] := by intro _ _ _ _ _; rfl) :
    ME (cR__law_right P w K mg base f c A outer s H E) E (.Call (.Name "_law_said" p) [.Lambda params body scope lpos] [] pos) (eSaid sd_n sd_i sd_nms sd_h sd_r mb) := by
  obtain ⟨g, fdg, Fg, hmg⟩ := W.f__law_said
  have bg := Fg.binds (ps := ["act"]) fun _ _ _ _ _ _ us hl => match us, hl with | [_], _ => rfl
  obtain ⟨oc, od, kV, doc, pm, an, cdg, ct, osl, rfl, lk, hcg⟩ := Fg.ex
  obtain ⟨CS, hCS, hcl⟩ := W.s_cls
  refine me_said (n := sd_n) (i := sd_i) (nms := sd_nms) (hm := sd_h) (rs := sd_r) (k := 16) rfl hmg Fg.kp lk hcg bg sc__law_said rfl (by first | exact Or.inl rfl | exact Or.inr (Or.inl rfl)) ?_ TB rfl hT.1 hT.2 hr (lamS_by L) hdef hbind hbody
  refine said_gives (e := "TrialError") (en := "e") rfl sc__law_said.nd rfl rfl rfl rfl hCS (by decide) hcl (fun _ => rfl) (fun s3 H3 ad oe cls d pn hr hz hf => ?_) (fun s3 H3 hr => ?_)
  · have hot := hot_suite (a := ad) (X := (cxOf C8.CX0 P w K mg base ["act", "e", "some", "found", "word", "is_so"] "_law_said" (defScope st__law_said) g cdg (cR__law_right P w K mg base f c A outer s H E).A (cR__law_right P w K mg base f c A outer s H E).stack s3 H3 C8.E0).nox) (pn := pn) hz hf
    have hu5 := hu65 hr
    have hu3 := hu30 hr
    exact (ms_cons (sset 2 sc__law_said.nd (me_lst (mac (me_tup (mac me_str (mac (me_isE hf rfl (W.i_InvalidTrial).choose_spec.1 (W.i_InvalidTrial).choose_spec.2 (mv 1) rfl (W.fr "isinstance" (by decide))) ma_nil))) (mac (me_tup (mac me_str (mac (me_isE hf rfl (W.i_InvalidQuestion).choose_spec.1 (W.i_InvalidQuestion).choose_spec.2 (mv 1) rfl (W.fr "isinstance" (by decide))) ma_nil))) (mac (me_tup (mac me_str (mac (me_isE hf rfl (W.i_InvalidRows).choose_spec.1 (W.i_InvalidRows).choose_spec.2 (mv 1) rfl (W.fr "isinstance" (by decide))) ma_nil))) ma_nil)))))
    (ms_cons (sset 2 sc__law_said.nd (me_add (mv 2) (me_lst (mac (me_tup (mac me_str (mac (me_isE hf rfl (W.i_InvalidNumber).choose_spec.1 (W.i_InvalidNumber).choose_spec.2 (mv 1) rfl (W.fr "isinstance" (by decide))) ma_nil))) (mac (me_tup (mac me_str (mac (me_isE hf rfl (W.i_Unfit).choose_spec.1 (W.i_Unfit).choose_spec.2 (mv 1) rfl (W.fr "isinstance" (by decide))) ma_nil))) (mac (me_tup (mac me_str (mac (me_isE hf rfl (W.i_NotTold).choose_spec.1 (W.i_NotTold).choose_spec.2 (mv 1) rfl (W.fr "isinstance" (by decide))) ma_nil))) ma_nil))))))
    (ms_cons (ssetLcH 3 ([("word", 4), ("is_so", 5)] : List (Str × Nat)) hot sc__law_said.nd (mv 2) (fun s H C cl fp hb => (mg_tupH hb (gc (gv 4 sc__law_said.nd) (gc (gv 5 sc__law_said.nd) mgs_nil)) rfl rfl)) (fun s H C cl fp => (mts_one (tval (mv 5)))) (fun s H C cl fp => (mv 4)))
    (ms_cons (ms_if (PW.pt (mw_or (tcmp (c_ne hu5) (mcb (bo_len) (W.fr "len" (by decide)) PyProof.Rows.Boot.«len» (mac (mv 3) ma_nil)) me_int) (mw_or (mt_not (tval (me_isEB hf rfl (W.fr "ValueError" (by decide)) PyProof.Rows.Boot.«ValueError» W.i_ValueError (mv 1) rfl (W.fr "isinstance" (by decide))))) (mw_or1 (tval (me_isEB hf rfl (W.fr "LookupError" (by decide)) PyProof.Rows.Boot.«LookupError» W.i_LookupError (mv 1) rfl (W.fr "isinstance" (by decide)))))))) (ms_one (ms_ret (me_tup (mac me_str (mac me_str ma_nil))))) ms_nil)
    (ms_cons (ms_if (tcmp (c_eq hu5) (mxi (mv 3) me_int) me_str) (ms_one (ms_ret (me_tup (mac me_str (mac me_str ma_nil))))) ms_nil)
    (ms_one (ms_ret (me_tup (mac (mxi (mv 3) me_int) (mac (me_repr hgd hu3 (me_ifE (tcmp (c_eq hu5) (mxi (mv 3) me_int) me_str) (me_giv hf W.giv_index (mv 1)) (me_giv hf W.giv_given (mv 1))) rfl (W.fr "repr" (by decide))) ma_nil))))))))))
  · exact (ms_one (ms_ret (me_tup (mac me_str (mac me_str ma_nil)))))
end GL
set_option Elab.async false
set_option linter.all false
set_option maxRecDepth 100000
set_option maxHeartbeats 4000000
namespace GL
open PySem PySem.Spec PyProof.Rows L2 LamX MK
variable [Tb]
variable {P : Program} {w : World} {K : PySem.W.Frag} {mg : Str → Option Value} {base : Heap}
/-- the tables of code objects -/
def TbOk (K : PySem.W.Frag) (mg : Str → Option Value) (base : Heap) (x : Str) (st : Stmt) (q : Str) : Prop := ∀ (f : Addr) (fd : FuncData) (c : Addr), Fun K x x st f fd → mg x = some (.ref f) → fd.code = .ref c → ∃ Pt, TabB base mg c Pt ∧ (Pt, q) ∈ Tb.T ∧ ∀ p ∈ Tb.T, p.1 = Pt → p.2 = q
structure Tbs (K : PySem.W.Frag) (mg : Str → Option Value) (base : Heap) : Prop where
  t__law_told_all : TbOk K mg base "_law_told_all" st__law_told_all lamQ__law_told_all
  t__law_right : TbOk K mg base "_law_right" st__law_right lamQ__law_right
theorem D__law_told_all (W : Wd P K mg) (TBS : Tbs K mg base) : FnDG P w K mg base 15 "_law_told_all" V__law_told_all := by
  obtain ⟨f, fd, F, hm⟩ := W.f__law_told_all
  refine ⟨f, fd, _, fn_okG F sc__law_told_all rfl rfl (fun cdv A outer s H E hcode hcd hgd hr => ?_), hm, F.kp, F.binds fun _ _ _ _ _ _ us hl => match us, hl with | [_, _, _, _], _ => rfl⟩
  obtain ⟨c, rfl⟩ := He.codeIn_ref hcd
  obtain ⟨Pt, TB, hT⟩ := TBS.t__law_told_all f fd c F hm hcode
  exact (ms_cons (sset 4 sc__law_told_all.nd (me_lst (mac (said__law_told_all W TB hT hgd hr (fun A2 outer2 s2 H2 E2 f2 c2 hr2 => (mcall (D_best_lot W) (hr2.mono (by decide)) passLam (mac (mv 0) (mac (mv 1) (mac (mv 2) (mac (mv 3) ma_nil))))))) ma_nil)))
    (ms_cons (sexpr (sapp (mv 4) (said__law_told_all W TB hT hgd hr (fun A2 outer2 s2 H2 E2 f2 c2 hr2 => (me_callKI (DK_step_by_step_3_2_1_0 W) rfl (hr2.mono (by decide)) rfl passLam (mk_cons (mv 3) (mk_cons (mv 2) (mk_cons (mv 1) (mk_cons (mv 0) mk_nil)))))))))
    (ms_cons (sexpr (sapp (mv 4) (said__law_told_all W TB hT hgd hr (fun A2 outer2 s2 H2 E2 f2 c2 hr2 => (mcall (D_spread_further W) (hr2.mono (by decide)) passLam (mac (mv 0) (mac (mv 1) (mac (mv 2) (mac (mv 3) ma_nil)))))))))
    (ms_cons (sexpr (sapp (mv 4) (said__law_told_all W TB hT hgd hr (fun A2 outer2 s2 H2 E2 f2 c2 hr2 => (mcall (D_certify_best_lot W) (hr2.mono (by decide)) passLam (mac (mv 0) (mac (mv 1) (mac (mv 2) (mac (mv 3) ma_nil)))))))))
    (ms_one (ms_ret (mz 4)))))))
theorem D__law_right (W : Wd P K mg) (TBS : Tbs K mg base) : FnDG P w K mg base 19 "_law_right" V__law_right := by
  obtain ⟨f, fd, F, hm⟩ := W.f__law_right
  refine ⟨f, fd, _, fn_okG F sc__law_right rfl rfl (fun cdv A outer s H E hcode hcd hgd hr => ?_), hm, F.kp, F.binds fun _ _ _ _ _ _ us hl => match us, hl with | [_], _ => rfl⟩
  obtain ⟨c, rfl⟩ := He.codeIn_ref hcd
  obtain ⟨Pt, TB, hT⟩ := TBS.t__law_right f fd c F hm hcode
  exact (ms_cons (sparC 1 2 sc__law_right.nd (mac (me_tup (mac (me_tup (mac (me_tup (mac (me_tup (mac me_int (mac me_int ma_nil))) (mac (me_tup (mac me_int (mac me_int ma_nil))) ma_nil))) (mac (me_tup (mac (me_tup (mac me_int (mac me_int ma_nil))) (mac (me_tup (mac me_int (mac me_int ma_nil))) ma_nil))) ma_nil))) (mac (me_tup (mac (me_tup (mac me_int (mac me_int ma_nil))) (mac (me_tup (mac me_int (mac me_int ma_nil))) ma_nil))) (mac (me_tup ma_nil) ma_nil)))) (mac (me_tup (mac (me_tup (mac me_int (mac me_int ma_nil))) (mac (me_tup (mac me_int (mac me_int ma_nil))) ma_nil))) ma_nil)))
    (ms_cons (sparC 3 4 sc__law_right.nd (mac (me_add (me_slice (mv 1) mo_none (mo_some me_int)) (me_tup (mac (me_tup (mac me_int (mac me_int ma_nil))) ma_nil))) (mac (me_tup (mac (me_tup (mac (me_tup (mac (me_tup (mac me_int (mac me_int ma_nil))) (mac (me_tup (mac me_int (mac me_int ma_nil))) ma_nil))) (mac (me_tup (mac me_int (mac me_int ma_nil))) (mac me_non ma_nil)))) (mac (me_tup (mac (me_tup (mac (me_tup (mac me_int (mac me_int ma_nil))) (mac (me_tup (mac me_int (mac me_int ma_nil))) ma_nil))) (mac (me_tup (mac me_int (mac me_int ma_nil))) (mac me_non ma_nil)))) ma_nil))) ma_nil)))
    (ms_cons (sset 5 sc__law_right.nd (mcallR (D__law_one W) (hr.mono (by decide)) passesX (mac (mv 0) (mac (me_lst (mac me_non (mac (me_slice (mv 1) mo_none (mo_some me_int)) (mac (mct bo_list (W.fr "list" (by decide)) PyProof.Rows.Boot.«list» (mac (mv 1) ma_nil)) (mac me_int (mac (me_tup (mac (mxi (mv 1) me_int) (mac (me_slice (mxi (mv 1) me_int) mo_none (mo_some me_int)) (mac (me_tup ma_nil) ma_nil)))) ma_nil)))))) ma_nil))))
    (ms_cons (sset 6 sc__law_right.nd (mcallR (D__law_one W) (hr.mono (by decide)) passesX (mac (mv 0) (mac (me_lst (mac me_non (mac (me_slice (mv 2) mo_none (mo_some me_int)) (mac (mct bo_list (W.fr "list" (by decide)) PyProof.Rows.Boot.«list» (mac (mv 2) ma_nil)) (mac (me_tup (mac (me_tup (mac me_int (mac me_int ma_nil))) (mac (me_tup (mac me_int (mac me_int ma_nil))) ma_nil))) (mac me_int ma_nil)))))) ma_nil))))
    (ms_cons (sset 7 sc__law_right.nd (me_lst (mac (me_tup (mac me_non (mac me_non ma_nil))) (mac (me_tup (mac (me_tup ma_nil) (mac me_non ma_nil))) (mac (me_tup (mac (mct bo_list (W.fr "list" (by decide)) PyProof.Rows.Boot.«list» (mac (mv 4) ma_nil)) (mac me_non ma_nil))) (mac (me_tup (mac (me_add (mv 4) (me_tup (mac (me_slice (mxi (mv 4) me_int) mo_none (mo_some me_int)) ma_nil))) (mac me_int ma_nil))) (mac (me_tup (mac (me_tup (mac (me_add (me_slice (mxi (mv 4) me_int) mo_none (mo_some me_int)) (me_tup (mac me_int ma_nil))) ma_nil)) (mac me_int ma_nil))) (mac (me_tup (mac (me_tup (mac (mxi (mv 4) me_int) (mac (me_tup (mac (mxi (mxi (mv 4) me_int) me_int) (mac (me_tup (mac me_int (mac me_int ma_nil))) (mac me_non ma_nil)))) ma_nil))) (mac me_int ma_nil))) (mac (me_tup (mac (me_tup (mac (mxi (mv 4) me_int) (mac me_non ma_nil))) (mac me_int ma_nil))) ma_nil)))))))))
    (ms_cons (sset 8 sc__law_right.nd (mcallR (D__law_one W) (hr.mono (by decide)) passesX (mac (mv 0) (mac (me_add (mv 7) (me_lst (mac (me_tup (mac (me_add (me_mul (mv 4) me_int) (me_slice (mv 4) mo_none (mo_some me_int))) (mac me_non ma_nil))) (mac (me_tup (mac (me_tup (mac (me_tup (mac (me_tup (mac (me_tup (mac me_int (mac me_int ma_nil))) ma_nil)) (mac (me_tup (mac me_int (mac me_int ma_nil))) (mac me_non ma_nil)))) ma_nil)) (mac me_int ma_nil))) (mac (me_tup (mac (me_tup (mac (me_tup (mac (me_tup (mac me_int (mac me_int ma_nil))) (mac (me_tup (mac me_int (mac me_int ma_nil))) ma_nil))) (mac me_int (mac me_non ma_nil)))) (mac me_int ma_nil))) ma_nil))))) ma_nil))))
    (ms_cons (sset 9 sc__law_right.nd (mcallR (D__law_one W) (hr.mono (by decide)) passesX (mac (mv 0) (mac (me_lst (mac (me_neg me_int) (mac me_int (mac me_non (mac me_bl (mac me_str (mac (me_tup (mac me_int ma_nil)) ma_nil))))))) ma_nil))))
    (ms_cons (ms_if (PW.pt (mw_or (tcmp (c_ne (hu65 hr)) (me_callGI (D__law_told_all W TBS) hgd (hr.mono (by decide)) rfl passesX (mac (mv 5) (mac (mv 6) (mac (mxi (mv 8) me_int) (mac (mv 9) ma_nil))))) (me_mul (me_lst (mac (me_tup (mac me_str (mac (me_repr hgd (hu30 hr) (mv 5) rfl (W.fr "repr" (by decide))) ma_nil))) ma_nil)) me_int)) (mw_or1 (tcmp (c_ne (hu65 hr)) (me_callGI (D__law_told_all W TBS) hgd (hr.mono (by decide)) rfl passesX (mac (mv 1) (mac (mv 6) (mac (mxi (mv 8) me_int) (mac (mv 9) ma_nil))))) (me_mul (me_lst (mac (me_tup (mac me_str (mac (me_repr hgd (hu30 hr) (mv 6) rfl (W.fr "repr" (by decide))) ma_nil))) ma_nil)) me_int))))) (ms_one (ms_ret me_bl)) ms_nil)
    (ms_cons (ms_if (tcmp (c_ne (hu65 hr)) (me_callGI (D__law_told_all W TBS) hgd (hr.mono (by decide)) rfl passesX (mac (mv 1) (mac (mv 2) (mac (mxi (mv 8) me_int) (mac (mv 9) ma_nil))))) (me_mul (me_lst (mac (me_tup (mac me_str (mac (me_repr hgd (hu30 hr) (mxi (mv 8) me_int) rfl (W.fr "repr" (by decide))) ma_nil))) ma_nil)) me_int)) (ms_one (ms_ret me_bl)) ms_nil)
    (ms_cons (ms_if (tcmp (c_ne (hu65 hr)) (me_callGI (D__law_told_all W TBS) hgd (hr.mono (by decide)) rfl passesX (mac (mv 1) (mac (mv 2) (mac (mv 4) (mac (mv 9) ma_nil))))) (me_mul (me_lst (mac (me_tup (mac me_str (mac (me_repr hgd (hu30 hr) (mv 9) rfl (W.fr "repr" (by decide))) ma_nil))) ma_nil)) me_int)) (ms_one (ms_ret me_bl)) ms_nil)
    (ms_cons (sparC 10 11 sc__law_right.nd (mac (me_tup (mac (me_tup (mac me_int (mac me_int ma_nil))) (mac (me_tup (mac me_int (mac me_int ma_nil))) ma_nil))) (mac (me_tup (mac (me_mul (mxi (mv 1) me_int) me_int) (mac (me_mul (mxi (mv 1) me_int) me_int) (mac (me_tup ma_nil) ma_nil)))) ma_nil)))
    (ms_cons (ms_if (PW.pt (mw_or (tcmp (c_ne (hu65 hr)) (me_callGI (D__law_told_all W TBS) hgd (hr.mono (by decide)) rfl passesX (mac (mv 1) (mac (mv 10) (mac (mv 4) (mac me_int ma_nil))))) (me_mul (me_lst (mac (me_tup (mac me_str (mac me_str ma_nil))) ma_nil)) me_int)) (mw_or1 (tcmp (c_ne (hu65 hr)) (me_callGI (D__law_told_all W TBS) hgd (hr.mono (by decide)) rfl passesX (mac (mv 11) (mac (mv 10) (mac (me_mul (mv 4) me_int) (mac me_int ma_nil))))) (me_mul (me_lst (mac (me_tup (mac me_str (mac me_str ma_nil))) ma_nil)) me_int))))) (ms_one (ms_ret me_bl)) ms_nil)
    (ms_cons (ms_if (PW.pt (mw_or (tcmp (c_ne (hu65 hr)) (me_callGI (D__law_told_all W TBS) hgd (hr.mono (by decide)) rfl passesX (mac (mv 11) (mac (mv 2) (mac (mv 4) (mac me_int ma_nil))))) (me_mul (me_lst (mac (me_tup (mac me_str (mac me_str ma_nil))) ma_nil)) me_int)) (mw_or1 (tcmp (c_ne (hu65 hr)) (me_callGI (D__law_told_all W TBS) hgd (hr.mono (by decide)) rfl passesX (mac (mv 3) (mac (mv 2) (mac (mv 4) (mac me_int ma_nil))))) (me_mul (me_lst (mac (me_tup (mac me_str (mac me_str ma_nil))) ma_nil)) me_int))))) (ms_one (ms_ret me_bl)) ms_nil)
    (ms_cons (sset 12 sc__law_right.nd (me_lst (mac (said__law_right W TB hT hgd hr (fun A2 outer2 s2 H2 E2 f2 c2 hr2 => (mcall (D_best_for_all W) (hr2.mono (by decide)) passLam (mac (mv 5) (mac (mxi (mv 8) me_int) (mac (mv 9) ma_nil)))))) ma_nil)))
    (ms_cons (sexpr (sapp (mv 12) (said__law_right W TB hT hgd hr (fun A2 outer2 s2 H2 E2 f2 c2 hr2 => (mcall (D_best_for_all W) (hr2.mono (by decide)) passLam (mac (mv 1) (mac (mxi (mv 8) me_int) (mac (mv 9) ma_nil))))))))
    (ms_cons (sexpr (sapp (mv 12) (said__law_right W TB hT hgd hr (fun A2 outer2 s2 H2 E2 f2 c2 hr2 => (me_callKI (DK_best_for_all_2_1_0 W) rfl (hr2.mono (by decide)) rfl passLam (mk_cons (mv 9) (mk_cons (mv 4) (mk_cons (mv 1) mk_nil))))))))
    (ms_cons (sexpr (sapp (mv 12) (said__law_right W TB hT hgd hr (fun A2 outer2 s2 H2 E2 f2 c2 hr2 => (mcall (D_best_for_all W) (hr2.mono (by decide)) passLam (mac (mv 11) (mac (me_mul (mv 4) me_int) (mac me_int ma_nil))))))))
    (ms_cons (sexpr (sapp (mv 12) (said__law_right W TB hT hgd hr (fun A2 outer2 s2 H2 E2 f2 c2 hr2 => (mcall (D_best_for_all W) (hr2.mono (by decide)) passLam (mac (mv 1) (mac (mv 4) (mac me_int ma_nil))))))))
    (ms_one (ms_ret (mcmp (c_eq (hu65 hr)) (mv 12) (me_lst (mac (me_tup (mac me_str (mac (me_repr hgd (hu30 hr) (mv 5) rfl (W.fr "repr" (by decide))) ma_nil))) (mac (me_tup (mac me_str (mac (me_repr hgd (hu30 hr) (mxi (mv 8) me_int) rfl (W.fr "repr" (by decide))) ma_nil))) (mac (me_tup (mac me_str (mac (me_repr hgd (hu30 hr) (mv 9) rfl (W.fr "repr" (by decide))) ma_nil))) (mac (me_tup (mac me_str (mac me_str ma_nil))) (mac (me_tup (mac me_str (mac me_str ma_nil))) ma_nil)))))))))))))))))))))))))))
theorem ok_law (W : Wd P K mg) (TBS : Tbs K mg base) {f : Addr} {fd : FuncData} (F : Fun K "law" "law" st_law f fd) : FnOkG P w K mg base 20 f fd ["script"] (tSp K mg V_law) :=
  fn_okG F sc_law rfl rfl (fun cdv A outer s H E hcode hcd hgd hr => (ms_cons (sfor [1] (passes_of rfl) (irng1 (W.fr "range" (by decide)) (mcb (bo_max2 rfl) (W.fr "max" (by decide)) PyProof.Rows.Boot.«max» (mac me_int (mac (mcb (bo_min2 rfl) (W.fr "min" (by decide)) PyProof.Rows.Boot.«min» (mac (mcb (bo_len) (W.fr "len" (by decide)) PyProof.Rows.Boot.«len» (mac (mv 0) ma_nil)) (mac me_int ma_nil))) ma_nil)))) (gv 1 sc_law.nd) (ms_cons (sset 2 sc_law.nd (mcallR (D__law_pool W) (hr.mono (by decide)) passesX (mac (mv 0) (mac (mv 1) ma_nil))))
    (ms_one (ms_if (mt_not (tval (mcb (bo_all rfl) (W.fr "all" (by decide)) PyProof.Rows.Boot.«all» (mac (mlc ([("again", 3)] : List (Str × Nat)) sc_law.nd (irng1 (W.fr "range" (by decide)) me_int) (fun s H C cl fp => (gv 3 sc_law.nd)) (fun s H C cl fp => mts_nil) (fun s H C cl fp => (me_callG (D__law_right W TBS) hgd (hr.mono (by decide)) rfl passLN (mac (mv 2) ma_nil)))) ma_nil)))) (ms_one (ms_ret me_bl)) ms_nil))))
    (ms_one (ms_ret me_bl))))
end GL
set_option Elab.async false
set_option linter.all false
set_option maxRecDepth 100000
set_option maxHeartbeats 0
/-! HD84: the head. -/
namespace GL
open PySem PySem.Spec PyProof.Rows L2 He MK MKQ
abbrev R : PySem.W.OpenRow := PySem.W.OpenLaw.row PySem.Challenge.rw_trialways_k84_further_plots_refused
def dd (x : Str) (st : Stmt) : DefD := ⟨(x, none), x, x, defArgs st, defBody st, defScope st, [], []⟩
def nm0 : List PySem.Str := ["gcd", "TrialError", "InvalidTrial", "InvalidQuestion", "InvalidNumber", "Unfit", "InvalidRows", "NotTold", "is_whole", "is_between", "is_tuple_of", "ZERO", "ONE", "is_ratio", "ratio", "plus", "minus", "times", "over", "opposite", "sign_of", "is_less", "total", "dot", "is_row", "MOST_PLOTS", "MOST_UNKNOWNS", "MOST_BLOCK", "are_blocks", "are_plots"]
def nm1 : List PySem.Str := ["is_trial_by", "many_unknowns", "many_plots", "many_levels", "is_question_by", "whole_rows", "whole_question", "parted_world", "check_trial", "check_question", "check_asked", "check_many", "without_column", "brought", "some_answer", "turned", "heft_of", "blocks_of", "heft_sum", "heavy_row", "outer", "added", "lessened", "as_table", "noughts_table", "table_by", "put_back", "letters_taken", "low_row", "squares_or_below_by"]
def nm2 : List PySem.Str := ["table_gap", "question_of", "compared_by", "is_plot_more", "grown", "plot_lots", "fair_by", "normal_rows", "load_by", "least_by", "MOST_CANDIDATES", "wrong_in_candidates", "trial_more", "spread_more", "best_lot_by", "step_lot_by", "is_good_for", "best_for_all_by", "check_told", "check_candidates", "check_room", "check_further", "best_lot", "step_by_step", "spread_further", "best_for_all", "best_lot_paper", "certify_best_lot", "_law_pool", "_law_below"]
def nm3 : List PySem.Str := ["_law_one", "_law_said", "_law_told_all", "_law_right"]
def names : List PySem.Str := nm0 ++ nm1 ++ nm2 ++ nm3
def dn0 : List DefD := [dd "_law_pool" st__law_pool, dd "_law_below" st__law_below, dd "_law_one" st__law_one, dd "_law_said" st__law_said, dd "is_whole" st_is_whole, dd "is_between" st_is_between, dd "are_blocks" st_are_blocks, dd "is_tuple_of" st_is_tuple_of, dd "is_ratio" st_is_ratio, dd "is_row" st_is_row, dd "are_plots" st_are_plots, dd "is_trial_by" st_is_trial_by, dd "check_trial" st_check_trial, dd "many_unknowns" st_many_unknowns, dd "is_question_by" st_is_question_by, dd "check_question" st_check_question, dd "check_asked" st_check_asked, dd "is_plot_more" st_is_plot_more, dd "wrong_in_candidates" st_wrong_in_candidates, dd "check_candidates" st_check_candidates]
def dn1 : List DefD := [dd "check_many" st_check_many, dd "many_plots" st_many_plots, dd "check_room" st_check_room, dd "ratio" st_ratio, dd "over" st_over, dd "minus" st_minus, dd "times" st_times, dd "without_column" st_without_column, dd "brought" st_brought, dd "some_answer" st_some_answer, dd "turned" st_turned, dd "many_levels" st_many_levels, dd "whole_question" st_whole_question, dd "whole_rows" st_whole_rows, dd "fair_by" st_fair_by, dd "check_told" st_check_told, dd "check_further" st_check_further, dd "plot_lots" st_plot_lots, dd "is_less" st_is_less, dd "plus" st_plus]
def dn2 : List DefD := [dd "total" st_total, dd "dot" st_dot, dd "normal_rows" st_normal_rows, dd "parted_world" st_parted_world, dd "load_by" st_load_by, dd "least_by" st_least_by, dd "grown" st_grown, dd "trial_more" st_trial_more, dd "spread_more" st_spread_more, dd "best_lot_by" st_best_lot_by, dd "best_lot" st_best_lot, dd "step_lot_by" st_step_lot_by, dd "step_by_step" st_step_by_step, dd "spread_further" st_spread_further, dd "best_lot_paper" st_best_lot_paper, dd "certify_best_lot" st_certify_best_lot, dd "_law_told_all" st__law_told_all, dd "noughts_table" st_noughts_table, dd "blocks_of" st_blocks_of, dd "as_table" st_as_table]
def dn3 : List DefD := [dd "added" st_added, dd "outer" st_outer, dd "lessened" st_lessened, dd "heft_of" st_heft_of, dd "heavy_row" st_heavy_row, dd "heft_sum" st_heft_sum, dd "table_by" st_table_by, dd "sign_of" st_sign_of, dd "letters_taken" st_letters_taken, dd "low_row" st_low_row, dd "opposite" st_opposite, dd "put_back" st_put_back, dd "squares_or_below_by" st_squares_or_below_by, dd "table_gap" st_table_gap, dd "question_of" st_question_of, dd "compared_by" st_compared_by, dd "is_good_for" st_is_good_for, dd "best_for_all_by" st_best_for_all_by, dd "best_for_all" st_best_for_all, dd "_law_right" st__law_right]
def dn4 : List DefD := [dd "law" st_law]
def dn : List DefD := dn0 ++ dn1 ++ dn2 ++ dn3 ++ dn4
def isn : List InitD := [⟨"InvalidTrial", "given", "InvalidTrial.__init__", inClass (top 3) 0⟩, ⟨"InvalidQuestion", "given", "InvalidQuestion.__init__", inClass (top 4) 0⟩, ⟨"InvalidNumber", "given", "InvalidNumber.__init__", inClass (top 5) 0⟩, ⟨"Unfit", "given", "Unfit.__init__", inClass (top 6) 0⟩, ⟨"InvalidRows", "index", "InvalidRows.__init__", inClass (top 7) 0⟩]
def fd0 : List Fa := [.glo "_law_pool", .glo "_law_below", .glo "_law_one", .glo "_law_said", .glo "is_whole", .glo "is_between", .glo "are_blocks", .glo "is_tuple_of", .glo "is_ratio", .glo "is_row", .glo "are_plots", .glo "is_trial_by", .glo "check_trial", .glo "many_unknowns", .glo "is_question_by", .glo "check_question", .glo "check_asked", .glo "is_plot_more", .glo "wrong_in_candidates", .glo "check_candidates"]
def fd1 : List Fa := [.glo "check_many", .glo "many_plots", .glo "check_room", .glo "ratio", .glo "over", .glo "minus", .glo "times", .glo "without_column", .glo "brought", .glo "some_answer", .glo "turned", .glo "many_levels", .glo "whole_question", .glo "whole_rows", .glo "fair_by", .glo "check_told", .glo "check_further", .glo "plot_lots", .glo "is_less", .glo "plus"]
def fd2 : List Fa := [.glo "total", .glo "dot", .glo "normal_rows", .glo "parted_world", .glo "load_by", .glo "least_by", .glo "grown", .glo "trial_more", .glo "spread_more", .glo "best_lot_by", .glo "best_lot", .glo "step_lot_by", .glo "step_by_step", .glo "spread_further", .glo "best_lot_paper", .glo "certify_best_lot", .glo "_law_told_all", .glo "noughts_table", .glo "blocks_of", .glo "as_table"]
def fd3 : List Fa := [.glo "added", .glo "outer", .glo "lessened", .glo "heft_of", .glo "heavy_row", .glo "heft_sum", .glo "table_by", .glo "sign_of", .glo "letters_taken", .glo "low_row", .glo "opposite", .glo "put_back", .glo "squares_or_below_by", .glo "table_gap", .glo "question_of", .glo "compared_by", .glo "is_good_for", .glo "best_for_all_by", .glo "best_for_all", .glo "_law_right"]
def fd4 : List Fa := [.glo "law"]
def fax : List Fa := [.free "super", .glo "InvalidTrial", .glo "InvalidQuestion", .glo "InvalidNumber", .glo "Unfit", .glo "InvalidRows", .glo "NotTold", .exc "NotTold", .int "MOST_BLOCK" 4, .int "MOST_CANDIDATES" 8, .int "MOST_PLOTS" 10, .int "MOST_UNKNOWNS" 5, .glo "ONE", .glo "ZERO"]
def fas : List Fa := frees.map Fa.free ++ (fax ++ (fd0 ++ fd1 ++ fd2 ++ fd3 ++ fd4))
def distM (K : PySem.W.Frag) : Bool := decide ((cT K ("_law_told_all", none)).2 ≠ (cT K ("_law_right", none)).2) && decide ((cT K ("_law_right", none)).2 ≠ (cT K ("_law_told_all", none)).2)
def exM (K : PySem.W.Frag) : Bool := (eqO (PySem.W.nsIn K mainGlobals "gcd") (some (some (.builtin "math.gcd")))) && ((tupB K "ONE" [.int 1, .int 1]) && ((tupB K "ZERO" [.int 0, .int 1]) && ((supB K "TrialError" sd_nms) && ((tabIn K (.ref (ga K "InvalidNumber")) t_InvalidNumber && (Fa.glo "InvalidNumber").ok K) && ((tabIn K (.ref (ga K "InvalidQuestion")) t_InvalidQuestion && (Fa.glo "InvalidQuestion").ok K) && ((tabIn K (.ref (ga K "InvalidRows")) t_InvalidRows && (Fa.glo "InvalidRows").ok K) && ((tabIn K (.ref (ga K "InvalidTrial")) t_InvalidTrial && (Fa.glo "InvalidTrial").ok K) && ((tabIn K (.type "LookupError") t_LookupError) && ((tabIn K (.ref (ga K "NotTold")) t_NotTold && (Fa.glo "NotTold").ok K) && ((tabIn K (.ref (ga K "Unfit")) t_Unfit && (Fa.glo "Unfit").ok K) && ((tabIn K (.type "ValueError") t_ValueError) && ((givB K "given" g_given) && ((givB K "index" g_index) && (distM K))))))))))))))
def fileM : Str := PySem.Challenge.rw_trialways_k84_further_plots_refused.prog.main.file
def tfM : List Defn := [("_law_told_all", none), ("_law_right", none)]
def nO : Nat := 700
abbrev hk : PySem.W.Hook := hookN nO fas dn isn fileM tfM exM
def ob (s : PySem.W.SharedT) : AlM := obsN nO fas dn isn fileM tfM exM (HandSHeadRun.getT s)
theorem ob_eq (s : PySem.W.SharedT) : ob s = hk.obs s.abs := obsN_eq (HandSHeadRun.getT_eq s)
noncomputable abbrev Wh (w : World) := HandSHeadRun.wholeF (fun p => HandSHeadRun.stepQ (HandSHeadRun.denQ HandSHeadRun.tabQ) p w) HandSHeadRun.fenceQ 60000 R.prog
theorem run1 (w : World) : (Wh w).map (fun x => (HandSHeadRun.looksF R.prog x.1.heap x.2.abs, HandSHeadRun.seenQ (PySem.W.view R.prog [0, 111]) names (importedModules R.prog.main.body) (fun s => PySem.W.xlAt (PySem.W.view R.prog [0, 111]) [] s && PySem.W.recOk R.toRowW.records s) x.2.abs)) = some (true, PySem.W.openGood (PySem.W.view R.prog [0, 111]) names) := by kernel_rfl
theorem run2 (w : World) : (Wh w).map (fun x => obsD fas dn (frN (HandSHeadRun.getT x.2) nO)) = some (valD dn) := by kernel_rfl
theorem run3 (w : World) : (Wh w).map (fun x => ((exM (frN (HandSHeadRun.getT x.2) nO) && (isn.all (fun d => xtB (frN (HandSHeadRun.getT x.2) nO) d.nm d.fld fileM) && ((frN (HandSHeadRun.getT x.2) nO).all (fun q => !isLst q.2) && tabsB (HandSHeadRun.getT x.2) tfM (frN (HandSHeadRun.getT x.2) nO)))), isn.map fun d => initW (frN (HandSHeadRun.getT x.2) nO) d.nm)) = some (true, isn.map InitD.val) := by kernel_rfl
theorem run (w : World) : HandSHeadRun.RunEqI R (PySem.W.view R.prog [0, 111]) hk ob 60000 names w := run_parts (run1 w) (run2 w) (run3 w)
end GL
set_option Elab.async false
set_option linter.all false
set_option maxRecDepth 100000
set_option maxHeartbeats 4000000
/-! HE84: the facts, the end. -/
namespace GL
open PySem PySem.Spec PyProof.Rows L2 He MK MKQ
theorem txt_InvalidTrial : TxtOk "given" (inClass (top 3) 0) := ⟨_, _, _, _, _, _, _, _, _, _, _, rfl, rfl, rfl, _, fun _ => rfl⟩
theorem txt_InvalidQuestion : TxtOk "given" (inClass (top 4) 0) := ⟨_, _, _, _, _, _, _, _, _, _, _, rfl, rfl, rfl, _, fun _ => rfl⟩
theorem txt_InvalidNumber : TxtOk "given" (inClass (top 5) 0) := ⟨_, _, _, _, _, _, _, _, _, _, _, rfl, rfl, rfl, _, fun _ => rfl⟩
theorem txt_Unfit : TxtOk "given" (inClass (top 6) 0) := ⟨_, _, _, _, _, _, _, _, _, _, _, rfl, rfl, rfl, _, fun _ => rfl⟩
theorem txt_InvalidRows : TxtOk "index" (inClass (top 7) 0) := ⟨_, _, _, _, _, _, _, _, _, _, _, rfl, rfl, rfl, _, fun _ => rfl⟩
theorem is_InvalidTrial : (⟨"InvalidTrial", "given", "InvalidTrial.__init__", inClass (top 3) 0⟩ : InitD) ∈ isn := List.mem_of_getElem? (i := 0) rfl
theorem is_InvalidQuestion : (⟨"InvalidQuestion", "given", "InvalidQuestion.__init__", inClass (top 4) 0⟩ : InitD) ∈ isn := List.mem_of_getElem? (i := 1) rfl
theorem is_InvalidNumber : (⟨"InvalidNumber", "given", "InvalidNumber.__init__", inClass (top 5) 0⟩ : InitD) ∈ isn := List.mem_of_getElem? (i := 2) rfl
theorem is_Unfit : (⟨"Unfit", "given", "Unfit.__init__", inClass (top 6) 0⟩ : InitD) ∈ isn := List.mem_of_getElem? (i := 3) rfl
theorem is_InvalidRows : (⟨"InvalidRows", "index", "InvalidRows.__init__", inClass (top 7) 0⟩ : InitD) ∈ isn := List.mem_of_getElem? (i := 4) rfl
theorem dm__law_pool : dd "_law_pool" st__law_pool ∈ dn := List.mem_of_getElem? (i := 0) rfl
theorem dm__law_below : dd "_law_below" st__law_below ∈ dn := List.mem_of_getElem? (i := 1) rfl
theorem dm__law_one : dd "_law_one" st__law_one ∈ dn := List.mem_of_getElem? (i := 2) rfl
theorem dm__law_said : dd "_law_said" st__law_said ∈ dn := List.mem_of_getElem? (i := 3) rfl
theorem dm_is_whole : dd "is_whole" st_is_whole ∈ dn := List.mem_of_getElem? (i := 4) rfl
theorem dm_is_between : dd "is_between" st_is_between ∈ dn := List.mem_of_getElem? (i := 5) rfl
theorem dm_are_blocks : dd "are_blocks" st_are_blocks ∈ dn := List.mem_of_getElem? (i := 6) rfl
theorem dm_is_tuple_of : dd "is_tuple_of" st_is_tuple_of ∈ dn := List.mem_of_getElem? (i := 7) rfl
theorem dm_is_ratio : dd "is_ratio" st_is_ratio ∈ dn := List.mem_of_getElem? (i := 8) rfl
theorem dm_is_row : dd "is_row" st_is_row ∈ dn := List.mem_of_getElem? (i := 9) rfl
theorem dm_are_plots : dd "are_plots" st_are_plots ∈ dn := List.mem_of_getElem? (i := 10) rfl
theorem dm_is_trial_by : dd "is_trial_by" st_is_trial_by ∈ dn := List.mem_of_getElem? (i := 11) rfl
theorem dm_check_trial : dd "check_trial" st_check_trial ∈ dn := List.mem_of_getElem? (i := 12) rfl
theorem dm_many_unknowns : dd "many_unknowns" st_many_unknowns ∈ dn := List.mem_of_getElem? (i := 13) rfl
theorem dm_is_question_by : dd "is_question_by" st_is_question_by ∈ dn := List.mem_of_getElem? (i := 14) rfl
theorem dm_check_question : dd "check_question" st_check_question ∈ dn := List.mem_of_getElem? (i := 15) rfl
theorem dm_check_asked : dd "check_asked" st_check_asked ∈ dn := List.mem_of_getElem? (i := 16) rfl
theorem dm_is_plot_more : dd "is_plot_more" st_is_plot_more ∈ dn := List.mem_of_getElem? (i := 17) rfl
theorem dm_wrong_in_candidates : dd "wrong_in_candidates" st_wrong_in_candidates ∈ dn := List.mem_of_getElem? (i := 18) rfl
theorem dm_check_candidates : dd "check_candidates" st_check_candidates ∈ dn := List.mem_of_getElem? (i := 19) rfl
theorem dm_check_many : dd "check_many" st_check_many ∈ dn := List.mem_of_getElem? (i := 20) rfl
theorem dm_many_plots : dd "many_plots" st_many_plots ∈ dn := List.mem_of_getElem? (i := 21) rfl
theorem dm_check_room : dd "check_room" st_check_room ∈ dn := List.mem_of_getElem? (i := 22) rfl
theorem dm_ratio : dd "ratio" st_ratio ∈ dn := List.mem_of_getElem? (i := 23) rfl
theorem dm_over : dd "over" st_over ∈ dn := List.mem_of_getElem? (i := 24) rfl
theorem dm_minus : dd "minus" st_minus ∈ dn := List.mem_of_getElem? (i := 25) rfl
theorem dm_times : dd "times" st_times ∈ dn := List.mem_of_getElem? (i := 26) rfl
theorem dm_without_column : dd "without_column" st_without_column ∈ dn := List.mem_of_getElem? (i := 27) rfl
theorem dm_brought : dd "brought" st_brought ∈ dn := List.mem_of_getElem? (i := 28) rfl
theorem dm_some_answer : dd "some_answer" st_some_answer ∈ dn := List.mem_of_getElem? (i := 29) rfl
theorem dm_turned : dd "turned" st_turned ∈ dn := List.mem_of_getElem? (i := 30) rfl
theorem dm_many_levels : dd "many_levels" st_many_levels ∈ dn := List.mem_of_getElem? (i := 31) rfl
theorem dm_whole_question : dd "whole_question" st_whole_question ∈ dn := List.mem_of_getElem? (i := 32) rfl
theorem dm_whole_rows : dd "whole_rows" st_whole_rows ∈ dn := List.mem_of_getElem? (i := 33) rfl
theorem dm_fair_by : dd "fair_by" st_fair_by ∈ dn := List.mem_of_getElem? (i := 34) rfl
theorem dm_check_told : dd "check_told" st_check_told ∈ dn := List.mem_of_getElem? (i := 35) rfl
theorem dm_check_further : dd "check_further" st_check_further ∈ dn := List.mem_of_getElem? (i := 36) rfl
theorem dm_plot_lots : dd "plot_lots" st_plot_lots ∈ dn := List.mem_of_getElem? (i := 37) rfl
theorem dm_is_less : dd "is_less" st_is_less ∈ dn := List.mem_of_getElem? (i := 38) rfl
theorem dm_plus : dd "plus" st_plus ∈ dn := List.mem_of_getElem? (i := 39) rfl
theorem dm_total : dd "total" st_total ∈ dn := List.mem_of_getElem? (i := 40) rfl
theorem dm_dot : dd "dot" st_dot ∈ dn := List.mem_of_getElem? (i := 41) rfl
theorem dm_normal_rows : dd "normal_rows" st_normal_rows ∈ dn := List.mem_of_getElem? (i := 42) rfl
theorem dm_parted_world : dd "parted_world" st_parted_world ∈ dn := List.mem_of_getElem? (i := 43) rfl
theorem dm_load_by : dd "load_by" st_load_by ∈ dn := List.mem_of_getElem? (i := 44) rfl
theorem dm_least_by : dd "least_by" st_least_by ∈ dn := List.mem_of_getElem? (i := 45) rfl
theorem dm_grown : dd "grown" st_grown ∈ dn := List.mem_of_getElem? (i := 46) rfl
theorem dm_trial_more : dd "trial_more" st_trial_more ∈ dn := List.mem_of_getElem? (i := 47) rfl
theorem dm_spread_more : dd "spread_more" st_spread_more ∈ dn := List.mem_of_getElem? (i := 48) rfl
theorem dm_best_lot_by : dd "best_lot_by" st_best_lot_by ∈ dn := List.mem_of_getElem? (i := 49) rfl
theorem dm_best_lot : dd "best_lot" st_best_lot ∈ dn := List.mem_of_getElem? (i := 50) rfl
theorem dm_step_lot_by : dd "step_lot_by" st_step_lot_by ∈ dn := List.mem_of_getElem? (i := 51) rfl
theorem dm_step_by_step : dd "step_by_step" st_step_by_step ∈ dn := List.mem_of_getElem? (i := 52) rfl
theorem dm_spread_further : dd "spread_further" st_spread_further ∈ dn := List.mem_of_getElem? (i := 53) rfl
theorem dm_best_lot_paper : dd "best_lot_paper" st_best_lot_paper ∈ dn := List.mem_of_getElem? (i := 54) rfl
theorem dm_certify_best_lot : dd "certify_best_lot" st_certify_best_lot ∈ dn := List.mem_of_getElem? (i := 55) rfl
theorem dm__law_told_all : dd "_law_told_all" st__law_told_all ∈ dn := List.mem_of_getElem? (i := 56) rfl
theorem dm_noughts_table : dd "noughts_table" st_noughts_table ∈ dn := List.mem_of_getElem? (i := 57) rfl
theorem dm_blocks_of : dd "blocks_of" st_blocks_of ∈ dn := List.mem_of_getElem? (i := 58) rfl
theorem dm_as_table : dd "as_table" st_as_table ∈ dn := List.mem_of_getElem? (i := 59) rfl
theorem dm_added : dd "added" st_added ∈ dn := List.mem_of_getElem? (i := 60) rfl
theorem dm_outer : dd "outer" st_outer ∈ dn := List.mem_of_getElem? (i := 61) rfl
theorem dm_lessened : dd "lessened" st_lessened ∈ dn := List.mem_of_getElem? (i := 62) rfl
theorem dm_heft_of : dd "heft_of" st_heft_of ∈ dn := List.mem_of_getElem? (i := 63) rfl
theorem dm_heavy_row : dd "heavy_row" st_heavy_row ∈ dn := List.mem_of_getElem? (i := 64) rfl
theorem dm_heft_sum : dd "heft_sum" st_heft_sum ∈ dn := List.mem_of_getElem? (i := 65) rfl
theorem dm_table_by : dd "table_by" st_table_by ∈ dn := List.mem_of_getElem? (i := 66) rfl
theorem dm_sign_of : dd "sign_of" st_sign_of ∈ dn := List.mem_of_getElem? (i := 67) rfl
theorem dm_letters_taken : dd "letters_taken" st_letters_taken ∈ dn := List.mem_of_getElem? (i := 68) rfl
theorem dm_low_row : dd "low_row" st_low_row ∈ dn := List.mem_of_getElem? (i := 69) rfl
theorem dm_opposite : dd "opposite" st_opposite ∈ dn := List.mem_of_getElem? (i := 70) rfl
theorem dm_put_back : dd "put_back" st_put_back ∈ dn := List.mem_of_getElem? (i := 71) rfl
theorem dm_squares_or_below_by : dd "squares_or_below_by" st_squares_or_below_by ∈ dn := List.mem_of_getElem? (i := 72) rfl
theorem dm_table_gap : dd "table_gap" st_table_gap ∈ dn := List.mem_of_getElem? (i := 73) rfl
theorem dm_question_of : dd "question_of" st_question_of ∈ dn := List.mem_of_getElem? (i := 74) rfl
theorem dm_compared_by : dd "compared_by" st_compared_by ∈ dn := List.mem_of_getElem? (i := 75) rfl
theorem dm_is_good_for : dd "is_good_for" st_is_good_for ∈ dn := List.mem_of_getElem? (i := 76) rfl
theorem dm_best_for_all_by : dd "best_for_all_by" st_best_for_all_by ∈ dn := List.mem_of_getElem? (i := 77) rfl
theorem dm_best_for_all : dd "best_for_all" st_best_for_all ∈ dn := List.mem_of_getElem? (i := 78) rfl
theorem dm__law_right : dd "_law_right" st__law_right ∈ dn := List.mem_of_getElem? (i := 79) rfl
theorem dm_law : dd "law" st_law ∈ dn := List.mem_of_getElem? (i := 80) rfl
theorem fa_mem (i : Nat) {f : Fa} (h : fas[i]? = some f) : f ∈ fas := List.mem_of_getElem? h
theorem fun_at {K : PySem.W.Frag} {h : Heap} {mg : Str → Option Value} (X : K.In h) (G : h.Ns mainGlobals mg) (c : SaysD fas dn K) {x : Str} {st : Stmt} (hd : dd x st ∈ dn) (hf : Fa.glo x ∈ fas) : ∃ f fd, L2.Fun K x x st f fd ∧ mg x = some (.ref f) := by
  obtain ⟨fd, F⟩ := c.defs hd
  haveI : Tb := ⟨[]⟩
  exact ⟨_, fd, MK.FunD.toFun F, glo_ok X G (c.facts hf)⟩
theorem Wd_of {P : Program} {h : Heap} {K : PySem.W.Frag} {mg : Str → Option Value} (hP : (P.main.scope.names.lookup ("super" : Str)).isSome = false) (hF : P.main.file = fileM) (X : K.In h) (G : h.Ns mainGlobals mg) (S : Says fas dn isn fileM tfM exM h K) : Wd P K mg := by
  have c := S.d
  have m := S.more
  unfold exM at m
  simp only [Bool.and_eq_true] at m
  obtain ⟨m_gcd, m_t_ONE, m_t_ZERO, m_sup, ⟨m_i_InvalidNumber, m_g_InvalidNumber⟩, ⟨m_i_InvalidQuestion, m_g_InvalidQuestion⟩, ⟨m_i_InvalidRows, m_g_InvalidRows⟩, ⟨m_i_InvalidTrial, m_g_InvalidTrial⟩, m_i_LookupError, ⟨m_i_NotTold, m_g_NotTold⟩, ⟨m_i_Unfit, m_g_Unfit⟩, m_i_ValueError, m_v_given, m_v_index, m_dist⟩ := m
  have hs : (Fa.free "super").ok K = true := c.facts (fa_mem 19 rfl)
  exact ⟨
    fun x hx => free_ok X G (c.facts (List.mem_append_left _ (List.mem_map.mpr ⟨x, hx, rfl⟩))),
    PySem.W.mg_of X G (eqO_ok m_gcd),
    globI X G (c.facts (fa_mem 27 rfl)),
    globI X G (c.facts (fa_mem 28 rfl)),
    globI X G (c.facts (fa_mem 29 rfl)),
    globI X G (c.facts (fa_mem 30 rfl)),
    globT (is := [1, 1]) X G (c.facts (fa_mem 31 rfl)) m_t_ONE,
    globT (is := [0, 1]) X G (c.facts (fa_mem 32 rfl)) m_t_ZERO,
    ⟨_, _, xt_ok (d := ⟨"InvalidNumber", "given", "InvalidNumber.__init__", inClass (top 5) 0⟩) X G (c.facts (fa_mem 22 rfl)) hs hP (hF ▸ (S.init _ is_InvalidNumber).1) (S.init _ is_InvalidNumber).2 txt_InvalidNumber⟩,
    ⟨_, _, xt_ok (d := ⟨"InvalidQuestion", "given", "InvalidQuestion.__init__", inClass (top 4) 0⟩) X G (c.facts (fa_mem 21 rfl)) hs hP (hF ▸ (S.init _ is_InvalidQuestion).1) (S.init _ is_InvalidQuestion).2 txt_InvalidQuestion⟩,
    ⟨_, _, xt_ok (d := ⟨"InvalidRows", "index", "InvalidRows.__init__", inClass (top 7) 0⟩) X G (c.facts (fa_mem 24 rfl)) hs hP (hF ▸ (S.init _ is_InvalidRows).1) (S.init _ is_InvalidRows).2 txt_InvalidRows⟩,
    ⟨_, _, xt_ok (d := ⟨"InvalidTrial", "given", "InvalidTrial.__init__", inClass (top 3) 0⟩) X G (c.facts (fa_mem 20 rfl)) hs hP (hF ▸ (S.init _ is_InvalidTrial).1) (S.init _ is_InvalidTrial).2 txt_InvalidTrial⟩,
    ⟨_, _, xt_ok (d := ⟨"Unfit", "given", "Unfit.__init__", inClass (top 6) 0⟩) X G (c.facts (fa_mem 23 rfl)) hs hP (hF ▸ (S.init _ is_Unfit).1) (S.init _ is_Unfit).2 txt_Unfit⟩,
    ⟨_, glo_ok X G (c.facts (fa_mem 25 rfl)), exc_ok (c.facts (fa_mem 26 rfl))⟩,
    supB_ok X G m_sup,
    ⟨_, glo_ok X G m_g_InvalidNumber, tabIn_ok X G m_i_InvalidNumber⟩,
    ⟨_, glo_ok X G m_g_InvalidQuestion, tabIn_ok X G m_i_InvalidQuestion⟩,
    ⟨_, glo_ok X G m_g_InvalidRows, tabIn_ok X G m_i_InvalidRows⟩,
    ⟨_, glo_ok X G m_g_InvalidTrial, tabIn_ok X G m_i_InvalidTrial⟩,
    tabIn_ok X G m_i_LookupError,
    ⟨_, glo_ok X G m_g_NotTold, tabIn_ok X G m_i_NotTold⟩,
    ⟨_, glo_ok X G m_g_Unfit, tabIn_ok X G m_i_Unfit⟩,
    tabIn_ok X G m_i_ValueError,
    givB_ok X G m_v_given,
    givB_ok X G m_v_index,
    fun_at X G c dm__law_pool (fa_mem 33 rfl),
    fun_at X G c dm__law_below (fa_mem 34 rfl),
    fun_at X G c dm__law_one (fa_mem 35 rfl),
    fun_at X G c dm__law_said (fa_mem 36 rfl),
    fun_at X G c dm_is_whole (fa_mem 37 rfl),
    fun_at X G c dm_is_between (fa_mem 38 rfl),
    fun_at X G c dm_are_blocks (fa_mem 39 rfl),
    fun_at X G c dm_is_tuple_of (fa_mem 40 rfl),
    fun_at X G c dm_is_ratio (fa_mem 41 rfl),
    fun_at X G c dm_is_row (fa_mem 42 rfl),
    fun_at X G c dm_are_plots (fa_mem 43 rfl),
    fun_at X G c dm_is_trial_by (fa_mem 44 rfl),
    fun_at X G c dm_check_trial (fa_mem 45 rfl),
    fun_at X G c dm_many_unknowns (fa_mem 46 rfl),
    fun_at X G c dm_is_question_by (fa_mem 47 rfl),
    fun_at X G c dm_check_question (fa_mem 48 rfl),
    fun_at X G c dm_check_asked (fa_mem 49 rfl),
    fun_at X G c dm_is_plot_more (fa_mem 50 rfl),
    fun_at X G c dm_wrong_in_candidates (fa_mem 51 rfl),
    fun_at X G c dm_check_candidates (fa_mem 52 rfl),
    fun_at X G c dm_check_many (fa_mem 53 rfl),
    fun_at X G c dm_many_plots (fa_mem 54 rfl),
    fun_at X G c dm_check_room (fa_mem 55 rfl),
    fun_at X G c dm_ratio (fa_mem 56 rfl),
    fun_at X G c dm_over (fa_mem 57 rfl),
    fun_at X G c dm_minus (fa_mem 58 rfl),
    fun_at X G c dm_times (fa_mem 59 rfl),
    fun_at X G c dm_without_column (fa_mem 60 rfl),
    fun_at X G c dm_brought (fa_mem 61 rfl),
    fun_at X G c dm_some_answer (fa_mem 62 rfl),
    fun_at X G c dm_turned (fa_mem 63 rfl),
    fun_at X G c dm_many_levels (fa_mem 64 rfl),
    fun_at X G c dm_whole_question (fa_mem 65 rfl),
    fun_at X G c dm_whole_rows (fa_mem 66 rfl),
    fun_at X G c dm_fair_by (fa_mem 67 rfl),
    fun_at X G c dm_check_told (fa_mem 68 rfl),
    fun_at X G c dm_check_further (fa_mem 69 rfl),
    fun_at X G c dm_plot_lots (fa_mem 70 rfl),
    fun_at X G c dm_is_less (fa_mem 71 rfl),
    fun_at X G c dm_plus (fa_mem 72 rfl),
    fun_at X G c dm_total (fa_mem 73 rfl),
    fun_at X G c dm_dot (fa_mem 74 rfl),
    fun_at X G c dm_normal_rows (fa_mem 75 rfl),
    fun_at X G c dm_parted_world (fa_mem 76 rfl),
    fun_at X G c dm_load_by (fa_mem 77 rfl),
    fun_at X G c dm_least_by (fa_mem 78 rfl),
    fun_at X G c dm_grown (fa_mem 79 rfl),
    fun_at X G c dm_trial_more (fa_mem 80 rfl),
    fun_at X G c dm_spread_more (fa_mem 81 rfl),
    fun_at X G c dm_best_lot_by (fa_mem 82 rfl),
    fun_at X G c dm_best_lot (fa_mem 83 rfl),
    fun_at X G c dm_step_lot_by (fa_mem 84 rfl),
    fun_at X G c dm_step_by_step (fa_mem 85 rfl),
    fun_at X G c dm_spread_further (fa_mem 86 rfl),
    fun_at X G c dm_best_lot_paper (fa_mem 87 rfl),
    fun_at X G c dm_certify_best_lot (fa_mem 88 rfl),
    fun_at X G c dm__law_told_all (fa_mem 89 rfl),
    fun_at X G c dm_noughts_table (fa_mem 90 rfl),
    fun_at X G c dm_blocks_of (fa_mem 91 rfl),
    fun_at X G c dm_as_table (fa_mem 92 rfl),
    fun_at X G c dm_added (fa_mem 93 rfl),
    fun_at X G c dm_outer (fa_mem 94 rfl),
    fun_at X G c dm_lessened (fa_mem 95 rfl),
    fun_at X G c dm_heft_of (fa_mem 96 rfl),
    fun_at X G c dm_heavy_row (fa_mem 97 rfl),
    fun_at X G c dm_heft_sum (fa_mem 98 rfl),
    fun_at X G c dm_table_by (fa_mem 99 rfl),
    fun_at X G c dm_sign_of (fa_mem 100 rfl),
    fun_at X G c dm_letters_taken (fa_mem 101 rfl),
    fun_at X G c dm_low_row (fa_mem 102 rfl),
    fun_at X G c dm_opposite (fa_mem 103 rfl),
    fun_at X G c dm_put_back (fa_mem 104 rfl),
    fun_at X G c dm_squares_or_below_by (fa_mem 105 rfl),
    fun_at X G c dm_table_gap (fa_mem 106 rfl),
    fun_at X G c dm_question_of (fa_mem 107 rfl),
    fun_at X G c dm_compared_by (fa_mem 108 rfl),
    fun_at X G c dm_is_good_for (fa_mem 109 rfl),
    fun_at X G c dm_best_for_all_by (fa_mem 110 rfl),
    fun_at X G c dm_best_for_all (fa_mem 111 rfl),
    fun_at X G c dm__law_right (fa_mem 112 rfl),
    fun_at X G c dm_law (fa_mem 113 rfl)⟩
theorem dist_of {h : Heap} {K : PySem.W.Frag} (S : Says fas dn isn fileM tfM exM h K) : distM K = true := by
  have m := S.more
  unfold exM at m
  simp only [Bool.and_eq_true] at m
  obtain ⟨m_gcd, m_t_ONE, m_t_ZERO, m_sup, ⟨m_i_InvalidNumber, m_g_InvalidNumber⟩, ⟨m_i_InvalidQuestion, m_g_InvalidQuestion⟩, ⟨m_i_InvalidRows, m_g_InvalidRows⟩, ⟨m_i_InvalidTrial, m_g_InvalidTrial⟩, m_i_LookupError, ⟨m_i_NotTold, m_g_NotTold⟩, ⟨m_i_Unfit, m_g_Unfit⟩, m_i_ValueError, m_v_given, m_v_index, m_dist⟩ := m
  exact m_dist
end GL
set_option Elab.async false
set_option linter.all false
set_option maxRecDepth 100000
set_option maxHeartbeats 1000000
/-! MKw: runs of mirrors, statement by statement. -/
namespace MK
open PySem PySem.Spec PyProof.Rows L2
theorem sCons_nx {a b : Sm} {ρ ρ' : Ro} {h h' : Hm} (e : a ρ h = .ok (.nx, ρ') h') : sCons a b ρ h = b ρ' h' := by unfold sCons mB; rw [e]
theorem sCons_rt {a b : Sm} {ρ ρ' : Ro} {d : SV} {h h' : Hm} (e : a ρ h = .ok (.rt d, ρ') h') : sCons a b ρ h = .ok (.rt d, ρ') h' := by unfold sCons mB; rw [e]; rfl
theorem sAsg_var {a : Em} {i : Nat} {ρ : Ro} {h h' : Hm} {d : SV} (e : a ρ h = .ok d h') : sAsg a (gVar i) ρ h = .ok (.nx, ρ.set i (some d)) h' := by unfold sAsg mB; rw [e]; rfl
theorem mB_ok {α β : Type} {m : Mm α} {f : α → Mm β} {h h' : Hm} {a : α} (e : m h = .ok a h') : mB m f h = f a h' := by unfold mB; rw [e]
theorem forM_nx {t : Gm} {b : Sm} {d : PyData} {ds : List PyData} {ρ ρ1 ρ2 : Ro} {h h1 h2 : Hm} (e1 : t (.val d) ρ h = .ok ρ1 h1) (e2 : b ρ1 h1 = .ok (.nx, ρ2) h2) : MK.forM t b (d :: ds) ρ h = MK.forM t b ds ρ2 h2 := by
  show mB (t (.val d) ρ) (fun ρ1 => mB (b ρ1) fun r => match r.1 with
    | .nx => MK.forM t b ds r.2
    | .ct => MK.forM t b ds r.2
    | .bk => mP (.nx, r.2)
    | .rt d => mP (.rt d, r.2)) h = _
  rw [mB_ok e1, mB_ok e2]
theorem aCons_ok {a : Em} {r : Am} {ρ : Ro} {h h1 h2 : Hm} {d : SV} {ds : List SV} (e : a ρ h = .ok d h1) (q : r ρ h1 = .ok ds h2) : aCons a r ρ h = .ok (d :: ds) h2 := by unfold aCons; rw [mB_ok e, mB_ok q]; rfl
theorem sRet_ok {a : Em} {ρ : Ro} {h h' : Hm} {d : SV} (e : a ρ h = .ok d h') : sRet a ρ h = .ok (.rt d, ρ) h' := by unfold sRet; rw [mB_ok e]; rfl
theorem eLst_ok {o : Bool} {a : Am} {ρ : Ro} {h h1 : Hm} {ds : List SV} {r : Res SV} (e : a ρ h = .ok ds h1) (q : mB (few ds) (fun _ => mLst o ds) h1 = r) : eLst o a ρ h = r := by unfold eLst; rw [mB_ok e]; exact q
theorem guard_ok {c : Bool} {h : Hm} (e : c = true) : guard c h = .ok () h := by subst e; rfl
theorem last_get {h : Hm} {c : Option Cell} : (h ++ [c])[h.length]? = some c := by simp
theorem last_set {h : Hm} {c c' : Option Cell} : (h ++ [c]).set h.length c' = h ++ [c'] := by simp
theorem told_one {e : Em} {ρ : Ro} {h : Hm} {d : PyData} {i : Nat} (q : e ρ h = .ok (.val d) h) : sAsg (eLst true (aCons e aNil)) (gVar i) ρ h = .ok (.nx, ρ.set i (some (.ref h.length))) (h ++ [some (.lst [d])]) := by
  refine sAsg_var ?_
  unfold eLst
  refine (mB_ok (h' := h) (a := [SV.val d]) ?_).trans ?_
  · unfold aCons
    exact (mB_ok q).trans rfl
  · rfl
theorem told_more {e : Em} {ρ : Ro} {h : Hm} {d : PyData} {i : Nat} {ds : List PyData} (hs : slot ρ i = some (.ref h.length)) (hl : ds.length ≤ 10000) (q : e ρ (h ++ [some (.lst ds)]) = .ok (.val d) (h ++ [some (.lst ds)])) :
    sExpr (fun ρ => mB ((eVar i) ρ) fun x => mB (isLs x) fun _ => mB (e ρ) fun y => mApp x y) ρ (h ++ [some (.lst ds)]) = .ok (.nx, ρ) (h ++ [some (.lst (ds ++ [d]))]) := by
  unfold sExpr
  refine (mB_ok (h' := h ++ [some (.lst (ds ++ [d]))]) (a := .val .none) ?_).trans rfl
  refine (mB_ok (h' := h ++ [some (.lst ds)]) (a := .ref h.length) ?_).trans ?_
  · unfold eVar; rw [hs]; rfl
  refine (mB_ok (h' := h ++ [some (.lst ds)]) (a := ()) ?_).trans ?_
  · unfold isLs mLs mB; simp only [last_get]; rfl
  refine (mB_ok q).trans ?_
  unfold mApp mD
  refine (mB_ok (h' := h ++ [some (.lst ds)]) (a := d) rfl).trans ?_
  simp only [last_get, last_set, if_pos hl]
theorem fEq_same {h : Hm} {ds : List PyData} (hs : SeqAt.shaped (PyData.list ds) = true) : fEq (.ref h.length) (.val (.list ds)) (h ++ [some (.lst ds)]) = .ok (.val (.bool true)) (h ++ [some (.lst ds)]) := by
  unfold fEq dat2 mDat
  refine (mB_ok (h' := h ++ [some (.lst ds)]) (a := PyData.list ds) (by simp only [last_get])).trans ?_
  refine (mB_ok (h' := h ++ [some (.lst ds)]) (a := PyData.list ds) rfl).trans ?_
  rw [hs]
  refine (mB_ok (guard_ok rfl)).trans ?_
  show vB (PyData.eqv (.list ds) (.list ds)) _ = _
  rw [SeqAt.eqv_refl _ (SeqAt.canLay_of_shaped hs)]
  rfl
theorem bits_small {x : Int} (h0 : 0 ≤ x) (h : x < 4294967296) : Builtin.Int.intBits x ≤ 32 := PySem.intBits_le_iff.mpr (by omega)
/-- a pool of drawn figures -/
def Pool (h : Hm) (n j : Nat) : Prop := ∃ a b c : Int, h[n]? = some (some (.lst [.int a, .int b, .int c])) ∧ 0 ≤ a ∧ 0 ≤ b ∧ b < 2147483629 ∧ 0 ≤ c ∧ c ≤ j
end MK
set_option Elab.async false
set_option linter.all false
set_option maxRecDepth 100000
set_option maxHeartbeats 4000000
/-! P84a: the drawn figures. -/
namespace GL
open MK PySem PySem.Spec PyProof.Rows L2
theorem fmod_rng {x m : Int} (h : 0 < m) : 0 ≤ x.fmod m ∧ x.fmod m < m := ⟨Int.fmod_nonneg_of_pos x h, Int.fmod_lt_of_pos x h⟩
theorem fMul_ok {o : Bool} {h : Hm} {i j : Int} (hi : 0 ≤ i ∧ i < 4294967296) (hj : 0 ≤ j ∧ j < 4294967296) : fMul o (.val (.int i)) (.val (.int j)) h = .ok (.val (.int (i * j))) h := by
  have := bits_small hi.1 hi.2
  have := bits_small hj.1 hj.2
  show mB (guard (decide (Builtin.Int.intBits i + Builtin.Int.intBits j ≤ 134217728))) (fun _ => vI (i * j)) h = _
  rw [mB_ok (guard_ok (decide_eq_true (by omega)))]
  rfl
theorem fAdd_ok {o : Bool} {h : Hm} {i j : Int} : fAdd o (.val (.int i)) (.val (.int j)) h = .ok (.val (.int (i + j))) h := rfl
theorem fMod_ok {h : Hm} {i j : Int} (hj : j ≠ 0) : fMod (.val (.int i)) (.val (.int j)) h = .ok (.val (.int (i.fmod j))) h := by
  show mB (guard (decide (j ≠ 0))) (fun _ => vI (i.fmod j)) h = _
  rw [mB_ok (guard_ok (decide_eq_true hj))]
  rfl
theorem fDiv_ok {h : Hm} {i j : Int} (hj : j ≠ 0) (hk : j.natAbs < 1073741824) : fDiv (.val (.int i)) (.val (.int j)) h = .ok (.val (.int (i.fdiv j))) h := by
  show mB (guard (decide (j ≠ 0) && !Builtin.divisionGoesByPylong i j)) (fun _ => vI (i.fdiv j)) h = _
  rw [mB_ok (guard_ok (by rw [decide_eq_true hj, PyProof.noPylong_small hk]; rfl))]
  rfl
theorem divmod_ok {h : Hm} {i j : Int} (hj : 0 < j) (hk : j.natAbs < 1073741824) : bDivmod (.val (.int i)) (.val (.int j)) h = .ok (.val (.tuple [.int (i / j), .int (i % j)])) h := by
  show mB (guard (decide (0 < j) && !Builtin.divisionGoesByPylong i j)) _ h = _
  rw [mB_ok (guard_ok (by rw [decide_eq_true hj, PyProof.noPylong_small hk]; rfl))]
  rfl
theorem op2_ok {F : SV → SV → Mm SV} {a b : Em} {ρ : Ro} {h h1 h2 : Hm} {x y : SV} {r : Res SV} (ea : a ρ h = .ok x h1) (eb : b ρ h1 = .ok y h2) (e : F x y h2 = r) : eOp2 F a b ρ h = r := by
  unfold eOp2
  rw [mB_ok ea, mB_ok eb]
  exact e
theorem ix_ok {h : Hm} {n : Nat} {xs : List PyData} {i : Int} {d : PyData} (hn : h[n]? = some (some (.lst xs))) (hi : atI xs i = some d) : fIx (.ref n) (.val (.int i)) h = .ok (.val d) h := by
  unfold fIx
  rw [mB_ok (h' := h) (a := xs) (by unfold mSeq; simp only [hn])]
  rw [mB_ok (m := mInt (.val (.int i))) (h' := h) (a := i) rfl, hi]
  rfl
theorem int_ok {a : Em} {ρ : Ro} {h h' : Hm} {i : Int} (e : a ρ h = .ok (.val (.int i)) h') : eArgs (b1 bInt) (aCons a aNil) ρ h = .ok (.val (.int i)) h' := by
  unfold eArgs aCons
  rw [mB_ok (h' := h') (a := [SV.val (.int i)]) (by rw [mB_ok e]; rfl)]
  rfl
theorem set_ok {h : Hm} {n : Nat} {xs : List PyData} {k : Int} {j : Nat} {d : PyData} {a b : Em} {ρ : Ro} (ea : a ρ h = .ok (.ref n) h) (eb : b ρ h = .ok (.val (.int k)) h) (hn : h[n]? = some (some (.lst xs))) (hi : ixN xs.length k = some j) : gIx a b (.val d) ρ h = .ok ρ (h.set n (some (.lst (xs.set j d)))) := by
  unfold gIx
  rw [mB_ok ea, mB_ok eb, mB_ok (h' := h.set n (some (.lst (xs.set j d)))) (a := ())]
  · rfl
  · unfold mSetIx
    rw [mB_ok (m := mInt (.val (.int k))) (h' := h) (a := k) rfl, mB_ok (m := mD (.val d)) (h' := h) (a := d) rfl]
    simp only [hn, hi]
theorem asg_ok {a : Em} {t : Gm} {ρ ρ' : Ro} {h h1 h2 : Hm} {d : SV} (e : a ρ h = .ok d h1) (et : t d ρ h1 = .ok ρ' h2) : sAsg a t ρ h = .ok (.nx, ρ') h2 := by unfold sAsg; rw [mB_ok e, mB_ok et]; rfl
theorem set_get {h : Hm} {n : Nat} {c c' : Option Cell} (hn : h[n]? = some c) : (h.set n c')[n]? = some c' := by
  have : n < h.length := by
    rcases Nat.lt_or_ge n h.length with q | q
    · exact q
    · rw [List.getElem?_eq_none q] at hn; cases hn
  rw [List.getElem?_set_self this]
/-- one drawn figure -/
theorem below_ok {h : Hm} {n j : Nat} {m : Int} (hp : Pool h n j) (hj : j < 1000) (m0 : 0 < m) (m1 : m < 1000) :
    ∃ r h', V__law_below [.ref n, .val (.int m)] h = .ok (.val (.int r)) h' ∧ 0 ≤ r ∧ r < m ∧ Pool h' n (j + 1) ∧ h'.length = h.length := by
  obtain ⟨a, b, c, hn, a0, b0, b1, c0, c1⟩ := hp
  have call : ∀ {ρ' : Ro} {h' : Hm} {r : Int}, B__law_below [some (.ref n), some (.val (.int m)), none, none] h = .ok (.rt (.val (.int r)), ρ') h' → h'.length = h.length → V__law_below [.ref n, .val (.int m)] h = .ok (.val (.int r)) h' := by
    intro ρ' h' r e hl
    show mCall (B__law_below [some (.ref n), some (.val (.int m)), none, none]) h = _
    unfold mCall
    rw [e]
    simp only
    rw [← hl, List.take_length]
  by_cases ha : 0 < a
  · refine ⟨a % m, h.set n (some (.lst [.int (a / m), .int b, .int c])), call (ρ' := [some (.ref n), some (.val (.int m)), some (.val (.int (a % m))), none]) ?_ (by simp), Int.emod_nonneg _ (by omega), Int.emod_lt_of_pos _ m0, ⟨_, b, c, set_get hn, Int.ediv_nonneg a0 (by omega), b0, b1, c0, by omega⟩, by simp⟩
    unfold B__law_below
    refine (sCons_rt ?_)
    unfold sIf
    rw [mB_ok (h' := h) (a := true)]
    · rw [if_pos rfl]
      refine (sCons_nx (asg_ok (d := .val (.tuple [.int (a / m), .int (a % m)])) (h1 := h) ?_ (ρ' := [some (.ref n), some (.val (.int m)), some (.val (.int (a % m))), none]) ?_)).trans rfl
      · unfold eArgs aCons
        rw [mB_ok (h' := h) (a := [SV.val (.int a), SV.val (.int m)])]
        · exact divmod_ok m0 (by omega)
        · rw [mB_ok (h' := h) (a := .val (.int a)) (op2_ok (h1 := h) (h2 := h) rfl rfl (ix_ok hn rfl))]
          rfl
      · show mB (gIx (eVar 0) (eC (.int 0)) (.val (.int (a / m))) _) _ h = _
        rw [mB_ok (set_ok (k := 0) (j := 0) (n := n) rfl rfl hn rfl)]
        rfl
    · unfold tE
      rw [mB_ok (h' := h) (a := .val (.bool true))]
      · rfl
      · refine op2_ok (h1 := h) (h2 := h) (op2_ok (h1 := h) (h2 := h) rfl rfl (ix_ok hn rfl)) rfl ?_
        show Res.ok (SV.val (.bool (decide (0 < a)))) h = _
        rw [decide_eq_true ha]
  · have hs : ∀ {x : Int}, 0 ≤ x → x < 2147483629 → (0 ≤ x ∧ x < 4294967296) := fun a b => ⟨a, by omega⟩
    obtain ⟨s1, hs1⟩ : ∃ s, (b * 48677 + 3413 * (c + 1) + 61).fmod 2147483563 = s := ⟨_, rfl⟩
    have s1r : 0 ≤ s1 ∧ s1 < 2147483563 := hs1 ▸ fmod_rng (by decide)
    obtain ⟨s2, hs2⟩ : ∃ s, (s1 * (s1.fmod 4001 + 17911) + (c + 1)).fmod 2147483563 = s := ⟨_, rfl⟩
    have s2r : 0 ≤ s2 ∧ s2 < 2147483563 := hs2 ▸ fmod_rng (by decide)
    have s3r : 0 ≤ s1.fmod 4001 ∧ s1.fmod 4001 < 4001 := fmod_rng (by decide)
    have hn1 : (h.set n (some (.lst [.int a, .int b, .int (c + 1)])))[n]? = some (some (.lst [.int a, .int b, .int (c + 1)])) := set_get hn
    have hn2 : ((h.set n (some (.lst [.int a, .int b, .int (c + 1)]))).set n (some (.lst [.int a, .int s2, .int (c + 1)])))[n]? = some (some (.lst [.int a, .int s2, .int (c + 1)])) := set_get hn1
    refine ⟨((s2.fdiv 367)).fmod m, (h.set n (some (.lst [.int a, .int b, .int (c + 1)]))).set n (some (.lst [.int a, .int s2, .int (c + 1)])), call (ρ' := [some (.ref n), some (.val (.int m)), none, some (.val (.int s1))]) ?_ (by simp), (fmod_rng m0).1, (fmod_rng m0).2, ⟨a, s2, c + 1, hn2, a0, s2r.1, by omega, by omega, by omega⟩, by simp⟩
    unfold B__law_below
    refine (sCons_nx (ρ' := [some (.ref n), some (.val (.int m)), none, none]) (h' := h) ?_).trans ?_
    · unfold sIf
      rw [mB_ok (h' := h) (a := false)]
      · rfl
      · unfold tE
        rw [mB_ok (h' := h) (a := .val (.bool false))]
        · rfl
        · refine op2_ok (h1 := h) (h2 := h) (op2_ok (h1 := h) (h2 := h) rfl rfl (ix_ok hn rfl)) rfl ?_
          show Res.ok (SV.val (.bool (decide (0 < a)))) h = _
          rw [decide_eq_false ha]
    refine (sCons_nx (asg_ok (op2_ok (op2_ok (h1 := h) (h2 := h) rfl rfl (ix_ok hn rfl)) rfl fAdd_ok) (set_ok (k := 2) (j := 2) (n := n) rfl rfl hn rfl))).trans ?_
    show sCons _ _ _ (h.set n (some (.lst [.int a, .int b, .int (c + 1)]))) = _
    generalize h.set n (some (.lst [.int a, .int b, .int (c + 1)])) = k at hn1 hn2 ⊢
    refine (sCons_nx (asg_ok (op2_ok (h2 := k) (int_ok (op2_ok (op2_ok (op2_ok (op2_ok rfl rfl (ix_ok hn1 rfl)) rfl (fMul_ok (by omega) (by omega))) (op2_ok rfl (op2_ok rfl rfl (ix_ok hn1 rfl)) (fMul_ok (by omega) (by omega))) fAdd_ok) rfl fAdd_ok)) rfl (fMod_ok (by decide))) rfl)).trans ?_
    rw [hs1]
    refine (sCons_nx (asg_ok (op2_ok (h2 := k) (int_ok (op2_ok (op2_ok rfl (op2_ok (op2_ok (int_ok rfl) rfl (fMod_ok (by decide))) rfl fAdd_ok) (fMul_ok (by omega) (by omega))) (op2_ok rfl rfl (ix_ok hn1 rfl)) fAdd_ok)) rfl (fMod_ok (by decide))) (set_ok (k := 1) (j := 1) (n := n) rfl rfl hn1 rfl))).trans ?_
    rw [hs2]
    unfold sRet
    rw [mB_ok (op2_ok (int_ok (op2_ok (op2_ok rfl rfl (ix_ok hn2 rfl)) rfl (fDiv_ok (by decide) (by decide)))) rfl (fMod_ok (by omega)))]
    rfl
end GL
set_option Elab.async false
set_option linter.all false
set_option maxRecDepth 100000
set_option maxHeartbeats 4000000
/-! P84b: one of some; the pool. -/
namespace GL
open MK PySem PySem.Spec PyProof.Rows L2
theorem one_ok {h : Hm} {n j : Nat} {xs : List PyData} (hp : Pool h n j) (hj : j < 1000) (m0 : 0 < xs.length) (m1 : xs.length < 1000) :
    ∃ d h', d ∈ xs ∧ V__law_one [.ref n, .val (.list xs)] h = .ok (.val d) h' ∧ Pool h' n (j + 1) ∧ h'.length = h.length := by
  obtain ⟨r, h', e, r0, r1, p, hl⟩ := below_ok (m := (xs.length : Nat)) hp hj (by omega) (by omega)
  obtain ⟨i, rfl⟩ : ∃ i : Nat, r = (i : Int) := ⟨r.toNat, by omega⟩
  have hi : i < xs.length := by omega
  refine ⟨xs[i], h', List.getElem_mem hi, ?_, p, hl⟩
  show mCall (B__law_one [some (.ref n), some (.val (.list xs))]) h = _
  have : B__law_one [some (.ref n), some (.val (.list xs))] h = .ok (.rt (.val xs[i]), [some (.ref n), some (.val (.list xs))]) h' := by
    unfold B__law_one sRet
    rw [mB_ok (h' := h') (a := SV.val xs[i])]
    · rfl
    · refine op2_ok (h1 := h) (h2 := h') (x := SV.val (.list xs)) (y := SV.val (.int (i : Nat))) rfl ?_ ?_
      · exact e
      · show mB (opt (atI xs (i : Int))) (fun d => mP (SV.val d)) h' = _
        have : atI xs (i : Int) = some xs[i] := by
          unfold atI ixN
          rw [if_pos (by omega), if_pos (by omega)]
          simp
        rw [this]
        rfl
  unfold mCall
  rw [this]
  simp only
  rw [← hl, List.take_length]
def wrp (d : PyData) : Bool := match d with
  | .int _ => true
  | _ => false
theorem stir_ok {o1 o2 o3 : Option SV} : ∀ (ns : List Int) (s : Int) (o4 : Option SV) (h : Hm), 0 ≤ s → s < 2147483629 → ∃ s' o, 0 ≤ s' ∧ s' < 2147483629 ∧
    forM (gVar 4) (sAsg (eOp2 fMod (eArgs (b1 bInt) (aCons (eOp2 (fAdd false) (eOp2 (fAdd false) (eOp2 (fMul false) (eVar 3) (eC (.int 40699))) (eOp2 fMod (eArgs (b1 bInt) (aCons (eVar 4) aNil)) (eC (.int 2147483587)))) (eC (.int 23))) aNil)) (eC (.int 2147483629))) (gVar 3)) (ns.map .int) [o1, o2, o3, some (.val (.int s)), o4] h
      = .ok (.nx, [o1, o2, o3, some (.val (.int s')), o]) h
  | [], s, o4, h, s0, s1 => ⟨s, o4, s0, s1, rfl⟩
  | i :: ns, s, o4, h, s0, s1 => by
    have r := fmod_rng (x := s * 40699 + i.fmod 2147483587 + 23) (m := 2147483629) (by decide)
    obtain ⟨s', o, a, b, e⟩ := stir_ok (o1 := o1) (o2 := o2) (o3 := o3) ns ((s * 40699 + i.fmod 2147483587 + 23).fmod 2147483629) (some (.val (.int i))) h r.1 r.2
    refine ⟨s', o, a, b, ?_⟩
    rw [List.map_cons, forM_nx (ρ1 := [o1, o2, o3, some (.val (.int s)), some (.val (.int i))]) (h1 := h) rfl (asg_ok (op2_ok (h2 := h) (int_ok (op2_ok (op2_ok (op2_ok rfl rfl (fMul_ok (by omega) (by omega))) (op2_ok (int_ok rfl) rfl (fMod_ok (by decide))) fAdd_ok) rfl fAdd_ok)) rfl (fMod_ok (by decide))) rfl)]
    exact e
theorem cut_map (ns : List Int) (lo hi : Option Int) : ∃ ms : List Int, MK.cutD (ns.map .int) lo hi = ms.map .int := by
  unfold MK.cutD
  exact ⟨_, by rw [← List.map_drop, ← List.map_take]⟩
theorem pool_ok (ns : List Int) (lap : Nat) (hl : lap < 3) (h : Hm) : ∃ h', V__law_pool [.val (.list (ns.map .int)), .val (.int lap)] h = .ok (.ref h.length) h' ∧ Pool h' h.length 0 ∧ h'.length = h.length + 1 := by
  have fin : ∀ {ρ' : Ro} {a b : Int}, 0 ≤ a → 0 ≤ b → b < 2147483629 → B__law_pool [some (.val (.list (ns.map .int))), some (.val (.int lap)), none, none, none] h = .ok (.rt (.ref h.length), ρ') (h ++ [some (.lst [.int a, .int b, .int 0])]) → ∃ h', V__law_pool [.val (.list (ns.map .int)), .val (.int lap)] h = .ok (.ref h.length) h' ∧ Pool h' h.length 0 ∧ h'.length = h.length + 1 := by
    intro ρ' a b a0 b0 b1 e
    refine ⟨h ++ [some (.lst [.int a, .int b, .int 0])], ?_, ⟨a, b, 0, last_get, a0, b0, b1, by decide, by decide⟩, by simp⟩
    show mCall (B__law_pool [some (.val (.list (ns.map .int))), some (.val (.int lap)), none, none, none]) h = _
    unfold mCall
    rw [e]
    simp only [Nat.lt_irrefl, if_false, last_get]
    rw [List.take_left']
    rfl
  obtain ⟨c, hc⟩ : ∃ c : Int, eIf (tE (eOp2 fLt (eVar 1) (eArgs (b1 bLen) (aCons (eVar 0) aNil)))) (eArgs (b1 bInt) (aCons (eOp2 fIx (eVar 0) (eVar 1)) aNil)) (eOp2 (fAdd false) (eOp2 (fMul false) (eC (.int 8887)) (eVar 1)) (eC (.int 1237))) [some (.val (.list (ns.map .int))), some (.val (.int lap)), none, none, none] h = .ok (.val (.int c)) h := by
    unfold eIf
    have t0 : tE (eOp2 fLt (eVar 1) (eArgs (b1 bLen) (aCons (eVar 0) aNil))) [some (.val (.list (ns.map .int))), some (.val (.int lap)), none, none, none] h = .ok (decide ((lap : Int) < ((ns.map PyData.int).length : Nat))) h := rfl
    rw [mB_ok t0]
    by_cases q : (lap : Int) < ((ns.map PyData.int).length : Nat)
    · rw [if_pos (decide_eq_true q)]
      have q' : lap < ns.length := by simpa using q
      refine ⟨ns[lap], int_ok (op2_ok (h1 := h) (h2 := h) (x := SV.val (.list (ns.map .int))) (y := SV.val (.int lap)) rfl rfl ?_)⟩
      show mB (opt (atI (ns.map PyData.int) (lap : Int))) (fun d => mP (SV.val d)) h = _
      have : atI (ns.map PyData.int) (lap : Int) = some (.int ns[lap]) := by
        unfold atI ixN
        rw [if_pos (by omega), if_pos q]
        simp [q']
      rw [this]
      rfl
    · rw [if_neg (by rw [decide_eq_false q]; decide)]
      exact ⟨_, op2_ok (op2_ok (h1 := h) (h2 := h) rfl rfl (fMul_ok (by omega) (by omega))) rfl fAdd_ok⟩
  obtain ⟨s1, o, s10, s11, e3⟩ := stir_ok (o1 := some (.val (.list (ns.map .int)))) (o2 := some (.val (.int lap))) (o3 := some (.val (.int c))) (cut_map ns none (some 63)).choose (95261 + 9013 * (lap : Int)) none h (by omega) (by omega)
  have r4 : 0 ≤ c.fmod 2147483587 ∧ c.fmod 2147483587 < 2147483587 := fmod_rng (by decide)
  obtain ⟨s2, hs2⟩ : ∃ s, (s1 * 97 + c.fmod 2147483587 * 31013 + 7).fmod 2147483629 = s := ⟨_, rfl⟩
  have s2r : 0 ≤ s2 ∧ s2 < 2147483629 := hs2 ▸ fmod_rng (by decide)
  obtain ⟨a, ha, e5⟩ : ∃ a : Int, 0 ≤ a ∧ eIf (tOr (tE (eOp2 fLt (eVar 2) (eC (.int 0)))) (tE (eOp2 fGe (eVar 2) (eOp2 fPow (eC (.int 10)) (eC (.int 15)))))) (eArgs (b1 bAbs) (aCons (eVar 2) aNil)) (eC (.int 0)) [some (.val (.list (ns.map .int))), some (.val (.int lap)), some (.val (.int c)), some (.val (.int s2)), o] h = .ok (.val (.int a)) h := by
    have tor : ∃ k, tOr (tE (eOp2 fLt (eVar 2) (eC (.int 0)))) (tE (eOp2 fGe (eVar 2) (eOp2 fPow (eC (.int 10)) (eC (.int 15))))) [some (.val (.list (ns.map .int))), some (.val (.int lap)), some (.val (.int c)), some (.val (.int s2)), o] h = .ok k h := by
      unfold MK.tOr
      have t0 : tE (eOp2 fLt (eVar 2) (eC (.int 0))) [some (.val (.list (ns.map .int))), some (.val (.int lap)), some (.val (.int c)), some (.val (.int s2)), o] h = .ok (decide (c < 0)) h := rfl
      rw [mB_ok t0]
      by_cases q : c < 0
      · exact ⟨true, by rw [if_pos (decide_eq_true q)]; rfl⟩
      · refine ⟨decide ((10 : Int) ^ (15 : Nat) ≤ c), ?_⟩
        rw [if_neg (by rw [decide_eq_false q]; decide)]
        unfold tE
        rw [mB_ok (a := SV.val (.bool (decide ((10 : Int) ^ (15 : Nat) ≤ c)))) (h' := h)]
        · rfl
        · exact op2_ok (h1 := h) (h2 := h) (y := SV.val (.int (10 ^ 15))) rfl (by kernel_rfl) rfl
    obtain ⟨k, tk⟩ := tor
    unfold eIf
    rw [mB_ok tk]
    cases k with
    | true => exact ⟨if c < 0 then -c else c, by split <;> omega, rfl⟩
    | false => exact ⟨0, by decide, rfl⟩
  refine fin (ρ' := [some (.val (.list (ns.map .int))), some (.val (.int lap)), some (.val (.int c)), some (.val (.int s2)), o]) ha s2r.1 s2r.2 ?_
  unfold B__law_pool
  refine (sCons_nx (sAsg_var hc)).trans ?_
  refine (sCons_nx (sAsg_var (op2_ok (h1 := h) rfl (op2_ok rfl rfl (fMul_ok (by omega) (by omega))) fAdd_ok))).trans ?_
  refine (sCons_nx (ρ' := [some (.val (.list (ns.map .int))), some (.val (.int lap)), some (.val (.int c)), some (.val (.int s1)), o]) (h' := h) ?_).trans ?_
  · unfold sFor
    have t0 : iSeq (eSl false (eVar 0) oNone (oSome (eC (.int 63)))) [some (.val (.list (ns.map .int))), some (.val (.int lap)), some (.val (.int c)), some (.val (.int (95261 + 9013 * (lap : Int)))), none] h = .ok (MK.cutD (ns.map .int) none (some 63)) h := rfl
    refine (mB_ok t0).trans ?_
    rw [(cut_map ns none (some 63)).choose_spec]
    exact e3
  refine (sCons_nx (asg_ok (op2_ok (h2 := h) (int_ok (op2_ok (op2_ok (op2_ok rfl rfl (fMul_ok (by omega) (by omega))) (op2_ok (op2_ok (int_ok rfl) rfl (fMod_ok (by decide))) rfl (fMul_ok (by omega) (by omega))) fAdd_ok) rfl fAdd_ok)) rfl (fMod_ok (by decide))) rfl)).trans ?_
  rw [hs2]
  exact sRet_ok (eLst_ok (aCons_ok e5 rfl) rfl)
end GL
set_option Elab.async false
set_option linter.all false
set_option maxRecDepth 100000
set_option maxHeartbeats 4000000
/-! P84c: what each test and each call says. -/
namespace GL
open MK PySem PySem.Spec PyProof.Rows L2
def dTri : PyData := .tuple [.tuple [.tuple [.tuple [.int 1, .int 1], .tuple [.int 0, .int 1]], .tuple [.tuple [.int 2, .int 1], .tuple [.int 0, .int 1]]], .tuple [.tuple [.int 1, .int 1], .tuple [.int 1, .int 2]], .tuple []]
def dQue : PyData := .tuple [.tuple [.int 1, .int 1], .tuple [.int 0, .int 1]]
def dBlo : PyData := .tuple [.tuple [.tuple [.tuple [.int 1, .int 1], .tuple [.int 0, .int 1]], .tuple [.tuple [.int 2, .int 1], .tuple [.int 0, .int 1]]], .tuple [.tuple [.int 1, .int 1], .tuple [.int 1, .int 2]], .tuple [.int 0, .int 0]]
def dMor : PyData := .tuple [.tuple [.tuple [.tuple [.int 1, .int 1], .tuple [.int 1, .int 1]], .tuple [.int 1, .int 1], .none], .tuple [.tuple [.tuple [.int 0, .int 1], .tuple [.int 1, .int 1]], .tuple [.int 2, .int 1], .none]]
def dUnt : PyData := .tuple [.tuple [.int 0, .int 1], .tuple [.int 1, .int 1]]
def dWid : PyData := .tuple [.tuple [.tuple [.tuple [.int 1, .int 1], .tuple [.int 0, .int 1]], .tuple [.tuple [.int 2, .int 1], .tuple [.int 0, .int 1]], .tuple [.tuple [.int 1, .int 1], .tuple [.int 0, .int 1]], .tuple [.tuple [.int 2, .int 1], .tuple [.int 0, .int 1]], .tuple [.tuple [.int 1, .int 1], .tuple [.int 0, .int 1]], .tuple [.tuple [.int 2, .int 1], .tuple [.int 0, .int 1]], .tuple [.tuple [.int 1, .int 1], .tuple [.int 0, .int 1]], .tuple [.tuple [.int 2, .int 1], .tuple [.int 0, .int 1]]], .tuple [.tuple [.int 1, .int 1], .tuple [.int 1, .int 2], .tuple [.int 1, .int 1], .tuple [.int 1, .int 2], .tuple [.int 1, .int 1], .tuple [.int 1, .int 2], .tuple [.int 1, .int 1], .tuple [.int 1, .int 2]], .tuple []]
def badL : List PyData := [.none, .tuple [.tuple [.tuple [.tuple [.int 1, .int 1], .tuple [.int 0, .int 1]], .tuple [.tuple [.int 2, .int 1], .tuple [.int 0, .int 1]]], .tuple [.tuple [.int 1, .int 1], .tuple [.int 1, .int 2]]], .list [.tuple [.tuple [.tuple [.int 1, .int 1], .tuple [.int 0, .int 1]], .tuple [.tuple [.int 2, .int 1], .tuple [.int 0, .int 1]]], .tuple [.tuple [.int 1, .int 1], .tuple [.int 1, .int 2]], .tuple []], .int 0, .tuple [.tuple [.tuple [.tuple [.int 1, .int 1], .tuple [.int 0, .int 1]], .tuple [.tuple [.int 2, .int 1], .tuple [.int 0, .int 1]]], .tuple [.tuple [.int 1, .int 1]], .tuple []]]
def illL : List PyData := [.none, .tuple [.tuple [.int 1, .int 1]], .list [.tuple [.int 1, .int 1], .tuple [.int 0, .int 1]], .tuple [.tuple [.int 2, .int 2], .tuple [.int 0, .int 1]], .int 5]
def oddL : List (PyData × PyData) := [(.none, .none), (.tuple [], .none), (.list [.tuple [.tuple [.tuple [.int 1, .int 1], .tuple [.int 1, .int 1]], .tuple [.int 1, .int 1], .none], .tuple [.tuple [.tuple [.int 0, .int 1], .tuple [.int 1, .int 1]], .tuple [.int 2, .int 1], .none]], .none), (.tuple [.tuple [.tuple [.tuple [.int 1, .int 1], .tuple [.int 1, .int 1]], .tuple [.int 1, .int 1], .none], .tuple [.tuple [.tuple [.int 0, .int 1], .tuple [.int 1, .int 1]], .tuple [.int 2, .int 1], .none], .tuple [.tuple [.tuple [.int 1, .int 1], .tuple [.int 1, .int 1]], .tuple [.int 1, .int 1]]], .int 2), (.tuple [.tuple [.tuple [.tuple [.int 1, .int 1], .tuple [.int 1, .int 1]], .tuple [.int 1, .int 1], .int 0]], .int 0), (.tuple [.tuple [.tuple [.tuple [.int 1, .int 1], .tuple [.int 1, .int 1]], .tuple [.int 1, .int 1], .none], .tuple [.tuple [.tuple [.int 1, .int 1], .tuple [.int 1, .int 1]], .tuple [.int 0, .int 1], .none]], .int 1), (.tuple [.tuple [.tuple [.tuple [.int 1, .int 1], .tuple [.int 1, .int 1]], .tuple [.int 1, .int 1], .none], .none], .int 1), (.tuple [.tuple [.tuple [.tuple [.int 1, .int 1], .tuple [.int 1, .int 1]], .tuple [.int 1, .int 1], .none], .tuple [.tuple [.tuple [.int 0, .int 1], .tuple [.int 1, .int 1]], .tuple [.int 2, .int 1], .none], .tuple [.tuple [.tuple [.int 1, .int 1], .tuple [.int 1, .int 1]], .tuple [.int 1, .int 1], .none], .tuple [.tuple [.tuple [.int 0, .int 1], .tuple [.int 1, .int 1]], .tuple [.int 2, .int 1], .none], .tuple [.tuple [.tuple [.int 1, .int 1], .tuple [.int 1, .int 1]], .tuple [.int 1, .int 1], .none], .tuple [.tuple [.tuple [.int 0, .int 1], .tuple [.int 1, .int 1]], .tuple [.int 2, .int 1], .none], .tuple [.tuple [.tuple [.int 1, .int 1], .tuple [.int 1, .int 1]], .tuple [.int 1, .int 1], .none], .tuple [.tuple [.tuple [.int 0, .int 1], .tuple [.int 1, .int 1]], .tuple [.int 2, .int 1], .none], .tuple [.tuple [.tuple [.int 1, .int 1], .tuple [.int 1, .int 1]], .tuple [.int 1, .int 1], .none]], .none), (.tuple [.tuple [.tuple [.tuple [.int 1, .int 1]], .tuple [.int 1, .int 1], .none]], .int 0), (.tuple [.tuple [.tuple [.int 1, .int 1], .tuple [.int 1, .int 1]], .int 1, .none], .int 0)]
def numL : List PyData := [.int (-1), .int 3, .none, .bool true, .str "1", .tuple [.int 1]]
def pr (p : PyData × PyData) : PyData := .tuple [p.1, p.2]
def dRow : PyData := .list ((oddL.take 7).map pr)
def ro (n : Nat) (ba il o1 o2 nu : PyData) (u w : Option PyData) (t : Option Nat) : Ro := [some (.ref n), some (.val dTri), some (.val dQue), some (.val dBlo), some (.val dMor), some (.val ba), some (.val il), some (.val dRow), some (.val (.tuple [o1, o2])), some (.val nu), u.map SV.val, w.map SV.val, t.map SV.ref]
theorem tk {w s : Str} {e : Em} {ρ : Ro} {h : Hm} (q : e ρ h = .ok (.val (.tuple [.str w, .str s])) (h.take h.length)) : e ρ h = .ok (.val (.tuple [.str w, .str s])) h := by rw [List.take_length] at q; exact q
variable {n N : Nat} {ba il o1 o2 nu : PyData} {h : Hm}
def T1 : MK.Tm := (tOr (tE (eOp2 fNe (eCallI V__law_told_all (aCons (eVar 5) (aCons (eVar 6) (aCons (eOp2 fIx (eVar 8) (eC (.int 0))) (aCons (eVar 9) aNil))))) (eOp2 (fMul false) (eLst false (aCons (eTup (aCons (eC (.str "trial")) (aCons (eOp1 fRepr (eVar 5)) aNil))) aNil)) (eC (.int 4))))) (tE (eOp2 fNe (eCallI V__law_told_all (aCons (eVar 1) (aCons (eVar 6) (aCons (eOp2 fIx (eVar 8) (eC (.int 0))) (aCons (eVar 9) aNil))))) (eOp2 (fMul false) (eLst false (aCons (eTup (aCons (eC (.str "question")) (aCons (eOp1 fRepr (eVar 6)) aNil))) aNil)) (eC (.int 4))))))
def T2 : MK.Tm := (tE (eOp2 fNe (eCallI V__law_told_all (aCons (eVar 1) (aCons (eVar 2) (aCons (eOp2 fIx (eVar 8) (eC (.int 0))) (aCons (eVar 9) aNil))))) (eOp2 (fMul false) (eLst false (aCons (eTup (aCons (eC (.str "rows")) (aCons (eOp1 fRepr (eOp2 fIx (eVar 8) (eC (.int 1)))) aNil))) aNil)) (eC (.int 4)))))
def T3 : MK.Tm := (tE (eOp2 fNe (eCallI V__law_told_all (aCons (eVar 1) (aCons (eVar 2) (aCons (eVar 4) (aCons (eVar 9) aNil))))) (eOp2 (fMul false) (eLst false (aCons (eTup (aCons (eC (.str "number")) (aCons (eOp1 fRepr (eVar 9)) aNil))) aNil)) (eC (.int 4)))))
def T4 : MK.Tm := (tOr (tE (eOp2 fNe (eCallI V__law_told_all (aCons (eVar 1) (aCons (eVar 10) (aCons (eVar 4) (aCons (eC (.int 1)) aNil))))) (eOp2 (fMul false) (eLst false (aCons (eTup (aCons (eC (.str "untold")) (aCons (eC (.str "")) aNil))) aNil)) (eC (.int 4))))) (tE (eOp2 fNe (eCallI V__law_told_all (aCons (eVar 11) (aCons (eVar 10) (aCons (eOp2 (fMul false) (eVar 4) (eC (.int 2))) (aCons (eC (.int 3)) aNil))))) (eOp2 (fMul false) (eLst false (aCons (eTup (aCons (eC (.str "unfit")) (aCons (eC (.str "11")) aNil))) aNil)) (eC (.int 4))))))
def T5 : MK.Tm := (tOr (tE (eOp2 fNe (eCallI V__law_told_all (aCons (eVar 11) (aCons (eVar 2) (aCons (eVar 4) (aCons (eC (.int 2)) aNil))))) (eOp2 (fMul false) (eLst false (aCons (eTup (aCons (eC (.str "right")) (aCons (eC (.str "")) aNil))) aNil)) (eC (.int 4))))) (tE (eOp2 fNe (eCallI V__law_told_all (aCons (eVar 3) (aCons (eVar 2) (aCons (eVar 4) (aCons (eC (.int 1)) aNil))))) (eOp2 (fMul false) (eLst false (aCons (eTup (aCons (eC (.str "rows")) (aCons (eC (.str "0")) aNil))) aNil)) (eC (.int 4))))))
def S1 : Em := (eSaid sd_n sd_i sd_nms sd_h sd_r (eCallI V_best_for_all (aCons (eVar 5) (aCons (eOp2 fIx (eVar 8) (eC (.int 0))) (aCons (eVar 9) aNil)))))
def S2 : Em := (eSaid sd_n sd_i sd_nms sd_h sd_r (eCallI V_best_for_all (aCons (eVar 1) (aCons (eOp2 fIx (eVar 8) (eC (.int 0))) (aCons (eVar 9) aNil)))))
def S3 : Em := (eSaid sd_n sd_i sd_nms sd_h sd_r (eCallKI V_best_for_all [2, 1, 0] (aCons (eVar 9) (aCons (eVar 4) (aCons (eVar 1) aNil)))))
def S4 : Em := (eSaid sd_n sd_i sd_nms sd_h sd_r (eCallI V_best_for_all (aCons (eVar 11) (aCons (eOp2 (fMul false) (eVar 4) (eC (.int 2))) (aCons (eC (.int 4)) aNil)))))
def S5 : Em := (eSaid sd_n sd_i sd_nms sd_h sd_r (eCallI V_best_for_all (aCons (eVar 1) (aCons (eVar 4) (aCons (eC (.int 1)) aNil)))))
theorem t1 (hb : ba ∈ badL) (hi : il ∈ illL) : T1 (ro n ba il o1 o2 nu none none none) h = .ok false h := by
  unfold badL at hb
  simp only [List.mem_cons, List.not_mem_nil, or_false] at hb
  rcases hb with rfl | rfl | rfl | rfl | rfl
  all_goals
    unfold illL at hi
    simp only [List.mem_cons, List.not_mem_nil, or_false] at hi
    rcases hi with rfl | rfl | rfl | rfl | rfl
  all_goals kernel_rfl
theorem t2 (ho : (o1, o2) ∈ oddL) : T2 (ro n ba il o1 o2 nu none none none) h = .ok false h := by
  unfold oddL at ho
  simp only [List.mem_cons, List.not_mem_nil, or_false, Prod.mk.injEq] at ho
  rcases ho with ⟨rfl, rfl⟩ | ⟨rfl, rfl⟩ | ⟨rfl, rfl⟩ | ⟨rfl, rfl⟩ | ⟨rfl, rfl⟩ | ⟨rfl, rfl⟩ | ⟨rfl, rfl⟩ | ⟨rfl, rfl⟩ | ⟨rfl, rfl⟩ | ⟨rfl, rfl⟩
  all_goals kernel_rfl
theorem t3 (hn : nu ∈ numL) : T3 (ro n ba il o1 o2 nu none none none) h = .ok false h := by
  unfold numL at hn
  simp only [List.mem_cons, List.not_mem_nil, or_false] at hn
  rcases hn with rfl | rfl | rfl | rfl | rfl | rfl
  all_goals kernel_rfl
theorem t4 : T4 (ro n ba il o1 o2 nu (some dUnt) (some dWid) none) h = .ok false h := by kernel_rfl
theorem t5 : T5 (ro n ba il o1 o2 nu (some dUnt) (some dWid) none) h = .ok false h := by kernel_rfl
theorem s1 (hb : ba ∈ badL) : S1 (ro n ba il o1 o2 nu (some dUnt) (some dWid) none) h = .ok (.val (.tuple [.str "trial", .str ba.shown])) h := by
  unfold badL at hb
  simp only [List.mem_cons, List.not_mem_nil, or_false] at hb
  rcases hb with rfl | rfl | rfl | rfl | rfl
  all_goals exact tk (by kernel_rfl)
theorem s2 (ho : (o1, o2) ∈ oddL) : S2 (ro n ba il o1 o2 nu (some dUnt) (some dWid) (some N)) h = .ok (.val (.tuple [.str "rows", .str o2.shown])) h := by
  unfold oddL at ho
  simp only [List.mem_cons, List.not_mem_nil, or_false, Prod.mk.injEq] at ho
  rcases ho with ⟨rfl, rfl⟩ | ⟨rfl, rfl⟩ | ⟨rfl, rfl⟩ | ⟨rfl, rfl⟩ | ⟨rfl, rfl⟩ | ⟨rfl, rfl⟩ | ⟨rfl, rfl⟩ | ⟨rfl, rfl⟩ | ⟨rfl, rfl⟩ | ⟨rfl, rfl⟩
  all_goals exact tk (by kernel_rfl)
theorem s3 (hn : nu ∈ numL) : S3 (ro n ba il o1 o2 nu (some dUnt) (some dWid) (some N)) h = .ok (.val (.tuple [.str "number", .str nu.shown])) h := by
  unfold numL at hn
  simp only [List.mem_cons, List.not_mem_nil, or_false] at hn
  rcases hn with rfl | rfl | rfl | rfl | rfl | rfl
  all_goals exact tk (by kernel_rfl)
theorem s4 : S4 (ro n ba il o1 o2 nu (some dUnt) (some dWid) (some N)) h = .ok (.val (.tuple [.str "unfit", .str "12"])) h := by
  exact tk (by kernel_rfl)
theorem s5 : S5 (ro n ba il o1 o2 nu (some dUnt) (some dWid) (some N)) h = .ok (.val (.tuple [.str "right", .str ""])) h := by
  exact tk (by kernel_rfl)
end GL
set_option Elab.async false
set_option linter.all false
set_option maxRecDepth 100000
set_option maxHeartbeats 4000000
/-! P84d: a lap is right; the law. -/
namespace GL
open MK PySem PySem.Spec PyProof.Rows L2
def okR (d : PyData) : Bool := (d.showable && (!d.hasDict && (decide (d.depth ≤ 20) && decide (d.shown.length ≤ 10000)))) && PyData.canLay0 (.str d.shown)
theorem okR_bad : ∀ p ∈ badL, okR p = true := by
  intro p hp
  have : badL.all okR = true := by kernel_rfl
  exact List.all_eq_true.mp this p hp
theorem okR_odd : ∀ p ∈ oddL, okR p.2 = true := by
  intro p hp
  have : oddL.all (fun p => okR p.2) = true := by kernel_rfl
  exact List.all_eq_true.mp this p hp
theorem okR_num : ∀ p ∈ numL, okR p = true := by
  intro p hp
  have : numL.all okR = true := by kernel_rfl
  exact List.all_eq_true.mp this p hp
theorem call_ok {F : Fm} {a : Am} {ρ : Ro} {h h1 h2 : Hm} {ds : List SV} {d : SV} (e : a ρ h = .ok ds h1) (n : ds.all notExc = true) (q : F ds h1 = .ok d h2) : eCall F a ρ h = .ok d h2 := by
  unfold eCall
  rw [mB_ok e, mB_ok (guard_ok n)]
  exact q
theorem repr_ok {e : Em} {ρ : Ro} {h : Hm} {d : PyData} (q : e ρ h = .ok (.val d) h) (o : okR d = true) : eOp1 fRepr e ρ h = .ok (.val (.str d.shown)) h := by
  unfold eOp1
  rw [mB_ok q]
  have o := (Bool.and_eq_true_iff.mp o).1
  unfold fRepr
  exact (mB_ok (guard_ok o)).trans rfl
theorem dueR {e : Em} {ρ : Ro} {h : Hm} {d : PyData} {w : Str} (q : e ρ h = .ok (.val d) h) (o : okR d = true) : eTup (aCons (eC (.str w)) (aCons (eOp1 fRepr e) aNil)) ρ h = .ok (.val (.tuple [.str w, .str d.shown])) h := by
  unfold eTup
  rw [mB_ok (aCons_ok (h1 := h) rfl (aCons_ok (repr_ok q o) rfl))]
  rfl
theorem dueC {e : Em} {ρ : Ro} {h : Hm} {s w : Str} (q : e ρ h = .ok (.val (.str s)) h) : eTup (aCons (eC (.str w)) (aCons e aNil)) ρ h = .ok (.val (.tuple [.str w, .str s])) h := by
  unfold eTup
  rw [mB_ok (aCons_ok (h1 := h) rfl (aCons_ok q rfl))]
  rfl
def due (ba o2 nu : PyData) : List PyData := [.tuple [.str "trial", .str ba.shown], .tuple [.str "rows", .str o2.shown], .tuple [.str "number", .str nu.shown], .tuple [.str "unfit", .str "12"], .tuple [.str "right", .str ""]]
theorem shp {ba o2 nu : PyData} (hb : okR ba = true) (ho : okR o2 = true) (hl : okR nu = true) : SeqAt.shaped (PyData.list (due ba o2 nu)) = true := by
  have hb := (Bool.and_eq_true_iff.mp hb).2
  have ho := (Bool.and_eq_true_iff.mp ho).2
  have hl := (Bool.and_eq_true_iff.mp hl).2
  have h1 : PyData.canLay0 (.str "trial") = true := by kernel_rfl
  have h2 : PyData.canLay0 (.str "rows") = true := by kernel_rfl
  have h4 : PyData.canLay0 (.str "unfit") = true := by kernel_rfl
  have h5 : PyData.canLay0 (.str "right") = true := by kernel_rfl
  have h6 : PyData.canLay0 (.str "") = true := by kernel_rfl
  have h7 : PyData.canLay0 (.str "12") = true := by kernel_rfl
  have h8 : PyData.canLay0 (.str "number") = true := by kernel_rfl
  unfold SeqAt.shaped
  rw [Bool.and_eq_true]
  refine ⟨?_, by kernel_rfl⟩
  unfold due
  simp [PyData.canLay0, PyData.canLayAll0] at hb ho hl h1 h2 h4 h5 h6 h7 h8 ⊢
  simp [hb, ho, hl, h1, h2, h4, h5, h6, h7, h8]
theorem if_skip {t : MK.Tm} {a : Sm} {ρ : Ro} {h h' : Hm} (e : t ρ h = .ok false h') : sIf t a sNil ρ h = .ok (.nx, ρ) h' := by
  unfold sIf
  rw [mB_ok e]
  rfl
theorem right_ok {h : Hm} {n j : Nat} (hp : Pool h n j) (hj : j < 900) : ∃ h', V__law_right [.ref n] h = .ok (.val (.bool true)) h' ∧ Pool h' n (j + 4) ∧ h'.length = h.length := by
  obtain ⟨ba, h1, mb, eb, p1, z1⟩ := one_ok (xs := badL) hp (by omega) (by decide) (by decide)
  obtain ⟨il, h2, mi, ei, p2, z2⟩ := one_ok (xs := illL) p1 (by omega) (by decide) (by decide)
  obtain ⟨dd, h3, mo, eo, p3, z3⟩ := one_ok (xs := oddL.map pr) p2 (by omega) (by decide) (by decide)
  obtain ⟨nu, h4, mn, en, p4, z4⟩ := one_ok (xs := numL) p3 (by omega) (by decide) (by decide)
  obtain ⟨⟨o1, o2⟩, mo', rfl⟩ := List.mem_map.mp mo
  have hb := okR_bad _ mb
  have ho := okR_odd _ mo'
  have hn := okR_num _ mn
  refine ⟨h4, ?_, p4, by omega⟩
  have key : B__law_right [some (.ref n), none, none, none, none, none, none, none, none, none, none, none, none] h = .ok (.rt (.val (.bool true)), ro n ba il o1 o2 nu (some dUnt) (some dWid) (some h4.length)) (h4 ++ [some (.lst (due ba o2 nu))]) := by
    unfold B__law_right
    refine (sCons_nx (ρ' := [some (.ref n), some (.val dTri), some (.val dQue), none, none, none, none, none, none, none, none, none, none]) (h' := h) (by kernel_rfl)).trans ?_
    refine (sCons_nx (ρ' := [some (.ref n), some (.val dTri), some (.val dQue), some (.val dBlo), some (.val dMor), none, none, none, none, none, none, none, none]) (h' := h) (by kernel_rfl)).trans ?_
    refine (sCons_nx (sAsg_var (call_ok (ds := [.ref n, .val (.list badL)]) (h1 := h) (by kernel_rfl) rfl eb))).trans ?_
    refine (sCons_nx (sAsg_var (call_ok (ds := [.ref n, .val (.list illL)]) (h1 := h1) (by kernel_rfl) rfl ei))).trans ?_
    refine (sCons_nx (ρ' := [some (.ref n), some (.val dTri), some (.val dQue), some (.val dBlo), some (.val dMor), some (.val ba), some (.val il), some (.val dRow), none, none, none, none, none]) (h' := h2) (by kernel_rfl)).trans ?_
    refine (sCons_nx (sAsg_var (call_ok (ds := [.ref n, .val (.list (oddL.map pr))]) (h1 := h2) (by kernel_rfl) rfl eo))).trans ?_
    refine (sCons_nx (sAsg_var (call_ok (ds := [.ref n, .val (.list numL)]) (h1 := h3) (by kernel_rfl) rfl en))).trans ?_
    refine (sCons_nx (if_skip (t := T1) (t1 (n := n) (o1 := o1) (o2 := o2) (nu := nu) (h := h4) mb mi))).trans ?_
    refine (sCons_nx (if_skip (t := T2) (t2 (n := n) (ba := ba) (il := il) (nu := nu) (h := h4) mo'))).trans ?_
    refine (sCons_nx (if_skip (t := T3) (t3 (n := n) (ba := ba) (il := il) (o1 := o1) (o2 := o2) (h := h4) mn))).trans ?_
    refine (sCons_nx (ρ' := ro n ba il o1 o2 nu (some dUnt) (some dWid) none) (h' := h4) (by kernel_rfl)).trans ?_
    refine (sCons_nx (if_skip (t := T4) t4)).trans ?_
    refine (sCons_nx (if_skip (t := T5) t5)).trans ?_
    refine (sCons_nx (told_one (e := S1) (i := 12) (s1 (n := n) (h := h4) mb))).trans ?_
    refine (sCons_nx (told_more (e := S2) (i := 12) rfl (Nat.le_of_ble_eq_true rfl) (s2 (n := n) (N := h4.length) mo'))).trans ?_
    refine (sCons_nx (told_more (e := S3) (i := 12) rfl (Nat.le_of_ble_eq_true rfl) (s3 (n := n) (N := h4.length) mn))).trans ?_
    refine (sCons_nx (told_more (e := S4) (i := 12) rfl (Nat.le_of_ble_eq_true rfl) (s4 (n := n) (N := h4.length)))).trans ?_
    refine (sCons_nx (told_more (e := S5) (i := 12) rfl (Nat.le_of_ble_eq_true rfl) (s5 (n := n) (N := h4.length)))).trans ?_
    refine sRet_ok (op2_ok (h1 := h4 ++ [some (.lst (due ba o2 nu))]) (h2 := h4 ++ [some (.lst (due ba o2 nu))]) (x := .ref h4.length) (y := .val (.list (due ba o2 nu))) rfl ?_ (fEq_same (shp hb ho hn)))
    exact eLst_ok (aCons_ok (dueR rfl hb) (aCons_ok (dueR rfl ho) (aCons_ok (dueR rfl hn) (aCons_ok (dueC rfl) (aCons_ok (dueC rfl) rfl))))) rfl
  show mCall (B__law_right [some (.ref n), none, none, none, none, none, none, none, none, none, none, none, none]) h = _
  unfold mCall
  rw [key]
  simp only
  rw [List.take_left' (by omega)]
theorem lc_one {e : Em} {ρ : Ro} {h h1 h2 : Hm} {d y : PyData} {ds r : List PyData} {i : Nat} (q : e (ρ.set i (some (.val d))) h = .ok (.val y) h1) (q2 : lcLoop (gVar i) tYesM e ρ ds h1 = .ok r h2) : lcLoop (gVar i) tYesM e ρ (d :: ds) h = .ok (y :: r) h2 := by
  show mB (gVar i (.val d) ρ) (fun ρ1 => mB (tYesM ρ1) fun b => if b then mB (e ρ1) fun y => mB (mD y) fun yd => mB (lcLoop (gVar i) tYesM e ρ ds) fun r => mP (yd :: r) else lcLoop (gVar i) tYesM e ρ ds) h = _
  refine (mB_ok (a := ρ.set i (some (.val d))) (h' := h) rfl).trans ?_
  refine (mB_ok (a := true) (h' := h) rfl).trans ?_
  rw [if_pos rfl, mB_ok q]
  refine (mB_ok (a := y) (h' := h1) rfl).trans ?_
  rw [mB_ok q2]
  rfl
theorem body_ok (ns : List Int) {lap : Nat} (hl : lap < 3) {o2 : Option SV} {h : Hm} : ∃ h', 
    (sCons (sAsg (eCall V__law_pool (aCons (eVar 0) (aCons (eVar 1) aNil))) (gVar 2))
    (sIf (tNot (tE (eArgs (b1 bAll) (aCons (eLc false (iRng1 (eC (.int 2))) (gVar 3) tYesM (eCall V__law_right (aCons (eVar 2) aNil)) [3]) aNil)))) (sRet (eC (.bool false))) sNil))
    [some (.val (.list (ns.map .int))), some (.val (.int lap)), o2, none] h = .ok (.nx, [some (.val (.list (ns.map .int))), some (.val (.int lap)), some (.ref h.length), none]) h' := by
  obtain ⟨h0, e0, p0, z0⟩ := pool_ok ns lap hl h
  obtain ⟨h1, e1, p1, z1⟩ := right_ok p0 (by omega)
  obtain ⟨h2, e2, p2, z2⟩ := right_ok p1 (by omega)
  refine ⟨h2, ?_⟩
  refine (sCons_nx (sAsg_var (call_ok (ds := [.val (.list (ns.map .int)), .val (.int lap)]) (h1 := h) rfl rfl e0))).trans ?_
  have q : eLc false (iRng1 (eC (.int 2))) (gVar 3) tYesM (eCall V__law_right (aCons (eVar 2) aNil)) [3] [some (.val (.list (ns.map .int))), some (.val (.int lap)), some (.ref h.length), none] h0 = .ok (.val (.list [.bool true, .bool true])) h2 := by
    unfold eLc
    refine (mB_ok (a := [PyData.int 0, PyData.int 1]) (h' := h0) (by kernel_rfl)).trans ?_
    refine (mB_ok (guard_ok rfl)).trans ?_
    have l : lcLoop (gVar 3) tYesM (eCall V__law_right (aCons (eVar 2) aNil)) [some (.val (.list (ns.map .int))), some (.val (.int lap)), some (.ref h.length), none] [PyData.int 0, PyData.int 1] h0 = .ok [.bool true, .bool true] h2 :=
      lc_one (call_ok (ds := [.ref h.length]) (h1 := h0) rfl rfl e1) (lc_one (call_ok (ds := [.ref h.length]) (h1 := h1) rfl rfl e2) rfl)
    refine (mB_ok (a := [PyData.bool true, .bool true]) (h' := h2) ?_).trans rfl
    unfold noX
    have l' : lcLoop (gVar 3) tYesM (eCall V__law_right (aCons (eVar 2) aNil)) (wipeR (noExc [some (.val (.list (ns.map .int))), some (.val (.int lap)), some (.ref h.length), none]) [3]) [PyData.int 0, PyData.int 1] h0 = .ok [.bool true, .bool true] h2 := l
    rw [l']
  unfold sIf
  have c : tNot (tE (eArgs (b1 bAll) (aCons (eLc false (iRng1 (eC (.int 2))) (gVar 3) tYesM (eCall V__law_right (aCons (eVar 2) aNil)) [3]) aNil))) [some (.val (.list (ns.map .int))), some (.val (.int lap)), some (.ref h.length), none] h0 = .ok false h2 := by
    unfold MK.tNot tE eArgs
    rw [mB_ok (a := true) (h' := h2)]
    · rfl
    · rw [mB_ok (a := SV.val (.bool true)) (h' := h2)]
      · rfl
      · rw [mB_ok (aCons_ok q rfl)]
        rfl
  refine (mB_ok c).trans ?_
  rfl
theorem loop_ok (ns : List Int) : ∀ (m lo : Nat) (h : Hm) (o1 o2 : Option SV), lo + m ≤ 3 → ∃ h' o1' o2',
    MK.forM (gVar 1) (sCons (sAsg (eCall V__law_pool (aCons (eVar 0) (aCons (eVar 1) aNil))) (gVar 2))
    (sIf (tNot (tE (eArgs (b1 bAll) (aCons (eLc false (iRng1 (eC (.int 2))) (gVar 3) tYesM (eCall V__law_right (aCons (eVar 2) aNil)) [3]) aNil)))) (sRet (eC (.bool false))) sNil)) (rngD lo m) [some (.val (.list (ns.map .int))), o1, o2, none] h
     = .ok (.nx, [some (.val (.list (ns.map .int))), o1', o2', none]) h'
  | 0, lo, h, o1, o2, _ => ⟨h, o1, o2, rfl⟩
  | m + 1, lo, h, o1, o2, hm => by
    obtain ⟨h1, e1⟩ := body_ok ns (lap := lo) (by omega) (o2 := o2) (h := h)
    obtain ⟨h2, p1, p2, e2⟩ := loop_ok ns m (lo + 1) h1 (some (.val (.int lo))) (some (.ref h.length)) (by omega)
    refine ⟨h2, p1, p2, ?_⟩
    exact (forM_nx (ρ1 := [some (.val (.list (ns.map .int))), some (.val (.int lo)), o2, none]) (h1 := h) rfl e1).trans e2
theorem law_true (ns : List Int) : ∃ h', V_law [.val (.list (ns.map .int))] [] = .ok (.val (.bool true)) h' := by
  obtain ⟨k, k3, ek⟩ : ∃ k : Nat, k ≤ 3 ∧ iRng1 (eArgs (b2 bMax2) (aCons (eC (.int 1)) (aCons (eArgs (b2 bMin2) (aCons (eArgs (b1 bLen) (aCons (eVar 0) aNil)) (aCons (eC (.int 3)) aNil))) aNil))) [some (.val (.list (ns.map .int))), none, none, none] [] = .ok (rngD 0 k) [] := by
    have m0 : eArgs (b2 bMin2) (aCons (eArgs (b1 bLen) (aCons (eVar 0) aNil)) (aCons (eC (.int 3)) aNil)) [some (.val (.list (ns.map .int))), none, none, none] [] = .ok (.val (.int (if (3 : Int) < ((ns.map PyData.int).length : Nat) then 3 else ((ns.map PyData.int).length : Nat)))) [] := rfl
    generalize hm : (if (3 : Int) < ((ns.map PyData.int).length : Nat) then (3 : Int) else ((ns.map PyData.int).length : Nat)) = mn at m0
    have m1 : 0 ≤ mn ∧ mn ≤ 3 := by rw [← hm]; split <;> omega
    have m2 : eArgs (b2 bMax2) (aCons (eC (.int 1)) (aCons (eArgs (b2 bMin2) (aCons (eArgs (b1 bLen) (aCons (eVar 0) aNil)) (aCons (eC (.int 3)) aNil))) aNil)) [some (.val (.list (ns.map .int))), none, none, none] [] = .ok (.val (.int (if mn > 1 then mn else 1))) [] := by
      unfold eArgs
      refine (mB_ok (aCons_ok (h1 := []) rfl (aCons_ok m0 rfl))).trans rfl
    generalize hx : (if mn > 1 then mn else 1) = mx at m2
    have m3 : 0 ≤ mx ∧ mx ≤ 3 := by rw [← hx]; split <;> omega
    refine ⟨mx.toNat, by omega, ?_⟩
    unfold MK.iRng1
    rw [mB_ok m2]
    refine (mB_ok (a := mx) (h' := []) rfl).trans ?_
    refine (mB_ok (guard_ok ?_)).trans rfl
    unfold smallI
    exact decide_eq_true (by omega)
  obtain ⟨h', o1, o2, e⟩ := loop_ok ns k 0 [] none none (by omega)
  have key : B_law [some (.val (.list (ns.map .int))), none, none, none] [] = .ok (.rt (.val (.bool true)), [some (.val (.list (ns.map .int))), o1, o2, none]) h' := by
    unfold B_law
    refine (sCons_nx (ρ' := [some (.val (.list (ns.map .int))), o1, o2, none]) (h' := h') ?_).trans rfl
    unfold sFor
    exact (mB_ok ek).trans e
  refine ⟨h'.take 0, ?_⟩
  show mCall (B_law [some (.val (.list (ns.map .int))), none, none, none]) [] = _
  unfold mCall
  rw [key]
  rfl
end GL
set_option Elab.async false
set_option linter.all false
set_option maxRecDepth 100000
set_option maxHeartbeats 0
namespace GL
open PySem PySem.Spec PyProof.Rows L2 He MK MKQ
theorem toldM (w : World) {mg : Str → Option Value} {fa : Addr} {h : Heap} {K : PySem.W.Frag} (X : K.In h) (G : h.Ns mainGlobals mg) (hfa : mg ("law" : Str) = some (.ref fa)) (S : Says fas dn isn fileM tfM exM h K) (n : Nat) :
    ∃ (K : PySem.W.Frag) (T : Tb) (fd : FuncData) (cs : List (Addr × Addr)) (V : Fm), LawM (PySem.Challenge.rw_trialways_k84_further_plots_refused).prog w 20 n "script" mg fa h K T fd cs V := by
  have W : Wd (PySem.Challenge.rw_trialways_k84_further_plots_refused).prog K mg := Wd_of (by kernel_rfl) rfl X G S
  obtain ⟨fd, F⟩ := S.d.defs dm_law
  have ef : fa = fAd K ("law", none) := by
    obtain ⟨f2, fd2, F2, e2⟩ := fun_at X G S.d dm_law (fa_mem 113 rfl)
    have e3 := glo_ok X G (S.d.facts (fa_mem 113 rfl))
    rw [hfa] at e3
    exact Value.ref.inj (Option.some.inj e3)
  subst ef
  have b := FunD.bindsA (ps := ["script"]) F fun _ _ _ _ _ _ us hl => match us, hl with | [_], _ => rfl
  refine ⟨K, ⟨[((cT K ("_law_told_all", none)).2, lamQ__law_told_all), ((cT K ("_law_right", none)).2, lamQ__law_right)]⟩, fd, tfM.map (cT K), V_law, X, S.nol, fun p hp => ?_, fun p hp => ?_, fun p hp => ?_, fun p hp => ?_, fun s v => b s [v] rfl, fun base KB GB TB => ?_, fun ns _ => law_true ns⟩
  · obtain ⟨d, hd, rfl⟩ := List.mem_map.mp hp
    exact S.empty d hd
  · obtain ⟨d, hd, rfl⟩ := List.mem_map.mp hp
    exact S.out d hd
  · obtain ⟨d, hd, rfl⟩ := List.mem_map.mp hp
    exact S.hd d hd
  · have hp : p ∈ [((cT K ("_law_told_all", none)).2, lamQ__law_told_all), ((cT K ("_law_right", none)).2, lamQ__law_right)] := hp
    simp only [List.mem_cons, List.not_mem_nil, or_false] at hp
    rcases hp with rfl | rfl
    · exact List.mem_map.mpr ⟨_, List.mem_map.mpr ⟨_, List.mem_of_getElem? (i := 0) rfl, rfl⟩, rfl⟩
    · exact List.mem_map.mpr ⟨_, List.mem_map.mpr ⟨_, List.mem_of_getElem? (i := 1) rfl, rfl⟩, rfl⟩
  · have ds := dist_of S
    unfold distM at ds
    simp only [Bool.and_eq_true, decide_eq_true_eq, ne_eq] at ds
    refine @ok_law ⟨[((cT K ("_law_told_all", none)).2, lamQ__law_told_all), ((cT K ("_law_right", none)).2, lamQ__law_right)]⟩ _ w K mg base W ?_ _ fd (@MK.FunD.toFun ⟨[((cT K ("_law_told_all", none)).2, lamQ__law_told_all), ((cT K ("_law_right", none)).2, lamQ__law_right)]⟩ _ _ _ _ _ _ F)
    refine @Tbs.mk ⟨[((cT K ("_law_told_all", none)).2, lamQ__law_told_all), ((cT K ("_law_right", none)).2, lamQ__law_right)]⟩ _ _ _ ?_ ?_
    · intro f fd2 c F2 hm hc
      refine ⟨(cT K ("_law_told_all", none)).2, ?_, List.mem_of_getElem? (i := 0) rfl, fun p hp e => ?_⟩
      · obtain ⟨⟨oc, od, kV, doc, pm, an, cdv, ct, osl, e, lk, hc2⟩, kp⟩ := F2
        have e3 : f = fAd K ("_law_told_all", none) := by
          have e4 := glo_ok X G (S.d.facts (fa_mem 89 rfl))
          rw [hm] at e4
          exact Value.ref.inj (Option.some.inj e4)
        rw [e3] at lk
        have e5 : (cT K ("_law_told_all", none)).1 = c := codeOf_eq lk hc
        rw [← e5]
        exact TB _ (List.mem_map.mpr ⟨_, List.mem_of_getElem? (i := 0) rfl, rfl⟩)
      · have hp : p ∈ [((cT K ("_law_told_all", none)).2, lamQ__law_told_all), ((cT K ("_law_right", none)).2, lamQ__law_right)] := hp
        simp only [List.mem_cons, List.not_mem_nil, or_false] at hp
        rcases hp with rfl | rfl
        · rfl
        · simp_all
    · intro f fd2 c F2 hm hc
      refine ⟨(cT K ("_law_right", none)).2, ?_, List.mem_of_getElem? (i := 1) rfl, fun p hp e => ?_⟩
      · obtain ⟨⟨oc, od, kV, doc, pm, an, cdv, ct, osl, e, lk, hc2⟩, kp⟩ := F2
        have e3 : f = fAd K ("_law_right", none) := by
          have e4 := glo_ok X G (S.d.facts (fa_mem 112 rfl))
          rw [hm] at e4
          exact Value.ref.inj (Option.some.inj e4)
        rw [e3] at lk
        have e5 : (cT K ("_law_right", none)).1 = c := codeOf_eq lk hc
        rw [← e5]
        exact TB _ (List.mem_map.mpr ⟨_, List.mem_of_getElem? (i := 1) rfl, rfl⟩)
      · have hp : p ∈ [((cT K ("_law_told_all", none)).2, lamQ__law_told_all), ((cT K ("_law_right", none)).2, lamQ__law_right)] := hp
        simp only [List.mem_cons, List.not_mem_nil, or_false] at hp
        rcases hp with rfl | rfl
        · simp_all
        · rfl
end GL
open PySem PySem.W PySem.Calls PyProof.Rows
theorem PySem.Challenge.cw_trialways_k84_further_plots_refused_holds : PySem.Challenge.rw_trialways_k84_further_plots_refused.Holds := by
  w_on; o_law
  refine HandSHeadRun.head_imp (r := OpenLaw.row PySem.Challenge.rw_trialways_k84_further_plots_refused) (q := view (OpenLaw.row PySem.Challenge.rw_trialways_k84_further_plots_refused).prog [0, 111]) (H := GL.hk) (ob := GL.ob) (M := 60000) (loose := GL.names) (d := HandSHeadRun.topDef (OpenLaw.row PySem.Challenge.rw_trialways_k84_further_plots_refused).prog 111) (kwd := []) GL.ob_eq
    GL.run (by kernel_rfl) (by kernel_rfl) (by kernel_rfl) (by rfl) (by first | assumption | decide +kernel) (by decide +kernel) ⟨rfl, rfl, rfl, rfl, rfl, by decide +kernel⟩ ?hw ?hc
  case hw => w_witness2
  case hc =>
    refine MKQ.walk_ofG (l := PySem.Challenge.rw_trialways_k84_further_plots_refused) (k := 20) (x := "script") rfl (by decide) (by kernel_rfl) ⟨rfl, by decide, by decide⟩ ?F
    intro w mg fa h Y G hmg0
    obtain ⟨K, KX, c⟩ := Y
    have hmg : mg ("law" : PySem.Str) = some (.ref fa) := by
      have e : (HandSHeadRun.topDef (OpenLaw.row PySem.Challenge.rw_trialways_k84_further_plots_refused).prog 111).name = ("law" : PySem.Str) := by kernel_rfl
      rw [← e]
      exact hmg0
    exact GL.toldM w KX G hmg c _
