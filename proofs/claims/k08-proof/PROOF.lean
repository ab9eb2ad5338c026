import PyProof.Rows.All
import Wide.All
import OpenK.AllK
import Wide.FinOn
import KE.KExcSuper
import KE.RegKSuper
import HandS.ForExc
import HandS.ExcField
import HandS.ExcSuper
import HandS.HeadWalk
import HandS.HeadHook4
import HandS.ExcIs
import HandS.ForMost
import HandS.WordsExc
import HandS.Defaults
import HandS.IsInst
import HandS.Steps
import HandS.TupAny
import KE.KExcIs
import PyProof.StrBlock2
import PyProof.Rows.StrMul
import HandS.Sort
import PyProof.ListStr
import PyProof.ListRange
import PyProof.RangeFor
import HandS.Lambda
import PyProof.InstEq
import PySem.Challenge.RW_enginehall_k08_own_functions
import HandS.DictTup
import HandS.TupLen
import HandS.Iter
import HandS.Walk
import HandS.AnyAll
import KE.KNestM
import HandS.Head0
import HandS.Head1
import HandS.Head2
import HandS.HeadEnd
import HandS.HeadHook1
import HandS.HeadHook2
import HandS.HeadHook3
set_option Elab.async false
set_option linter.all false
set_option maxRecDepth 100000
set_option maxHeartbeats 4000000
namespace PySem
namespace ExS
open PySem.W PySem.Calls PyProof.Rows PySem.HandSPX
/-! an own exception over own classes over ValueError: def __init__(self, f): super().__init__('msg'); self.f = f -/
def iA (f : Str) (p1 p2 : Pos) : Arguments := { posonlyargs := [], args := [{ arg := "self", annotation := none, pos := p1 }, { arg := f, annotation := none, pos := p2 }], vararg := none, kwonlyargs := [], kw_defaults := [], kwarg := none, defaults := [] }
def iB (msg f : Str) (j : Nat) (q : Nat → Pos) : List Stmt :=
  [.Expr (.Call (.Attribute (.Call (.Name "super" (q 1)) [] [] (q 2)) "__init__" (q 3)) [.Constant (.str msg) j (q 4)] [] (q 5)) (q 6),
   .Assign [.Attribute (.Name "self" (q 7)) f (q 8)] (.Name f (q 9)) (q 10)]
def iS (f : Str) : Scope := { kind := .function, names := [(PySem.Str.ofString "self", .local), (f, .local), (PySem.Str.ofString "__class__", .free), (PySem.Str.ofString "super", .globalImplicit)], isGenerator := false, isCoroutine := false, more := [] }
structure NmOk (f : Str) : Prop where
  l1 : (iS f).names.lookup ("super" : Str) = some .globalImplicit
  l2 : (iS f).names.lookup ("__class__" : Str) = some .free
  l3 : (iS f).names.lookup ("self" : Str) = some .local
  l4 : (iS f).names.lookup f = some .local
  nd : (f == ("__debug__" : Str)) = false
  ns : (f == ("self" : Str)) = false
  bnd : ∀ (n ql : Str) (p1 p2 : Pos) (b : List Stmt) (doc pm cd ct : Value) (an : Option Addr) (cc : Addr) (x v : Value), bindArgs (ksFn n ql (iA f p1 p2) b (iS f) .none .none doc pm an cd ct cc) ⟨[x, v], []⟩ = pure [(("self" : Str), x), (f, v)]
/-- what the written part says of the class nm, at C, of its __init__, at fI -/
structure ExTxt (prog : Program) (K : Frag) (mg : Str → Option Value) (nm f msg : Str) (C fI : Addr) : Prop where
  ok : NmOk f
  gC : mg nm = some (.ref C)
  cls : ∃ nm' q N bs bm sn sub ab col dd k0 k1 k2 k3 k5, K.lookup C = some (excClassObj nm' q C N bs bm true sn sub ab col dd k0 k1 k2 k3 k5 "ValueError.__new__") ∧ refsVE bm = true
  sa : findIn K (.ref C) "__setattr__" = some (some (.builtin "object.__setattr__"))
  ga : findIn K (.ref C) "__getattribute__" = some (some (.builtin "BaseException.__getattribute__"))
  gg : findIn K (.ref C) "__getattr__" = some none
  noN : findIn K (.ref C) f = some none
  iC : findIn K (.ref C) "__init__" = some (some (.ref fI))
  tC : typeIn K (.ref fI) = some (.type "function")
  kC : keepIn K (.ref C) = true
  exC : subIn K (.ref C) (.type "BaseException") = some true
  veC : subIn K (.ref C) (.type "ValueError") = some true
  tyC : typeIn K (.ref C) = some (.type "type")
  hdC : hasDictIn K C = true
  sup : nsIn K mainGlobals "super" = some none
  op : nsIn K cStatics "thirdparty.any" = some none
  meC : mroIn K C (.ref C) = some true
  supI : ks_superIn K C C "__init__" = some (some (.builtin "ValueError.__init__"))
  top : (prog.main.scope.names.lookup ("super" : Str)).isSome = false
  fn : ∃ (oc : Value) (od : Option Addr) (doc pm : Value) (an : Option Addr) (cda : Addr) (ct : Value) (osl : Array (Option Value)) (p1 p2 : Pos) (j : Nat) (q : Nat → Pos) (ql : Str) (cc : Addr), ((q 3).endLine == (q 5).line) = true ∧
    K.lookup fI = some ⟨oc, od, .func (ksFn "__init__" ql (iA f p1 p2) (iB msg f j q) (iS f) .none .none doc pm an (.ref cda) ct cc), osl⟩ ∧ codeIn K (.ref cda) ql = true ∧
    (∃ (c1 : Value) (d1 : Option Addr) (s1 : Array (Option Value)), K.lookup cc = some ⟨c1, d1, .cell (some (.ref C)), s1⟩) ∧
    (∃ (c2 : Value) (d2 : Option Addr) (vs : Array Value) (s2 : Array (Option Value)) (tf : Tok), K.lookup cda = some ⟨c2, d2, .fields vs, s2⟩ ∧ vs[2]? = some (.str prog.main.file tf))
theorem one_size (v : Value) : [v].length ≤ sizeLine := by
  rw [sizeLine_eq]
  exact (by decide : 1 ≤ 16777216)
/-- what __init__ leaves of a fresh exception at x -/
structure InitEnd (f : Str) (h h' : Heap) (x C dx : Addr) (v : Value) : Prop where
  keep : ∀ b o, b ≠ x → h.get? b = some o → h'.get? b = some o
  obj : ∃ t1 : Addr, h'.get? x = some { cls := .ref C, dict := some dx, data := .fields #[.ref t1, .none, .none, .none, .bool false, .none] }
  dbig : h.objs.size ≤ dx
  dne : dx ≠ x
  ns : h'.Ns1 dx (fun y => if y = f then some v else none)
/-- a made exception -/
structure OwnMade (f : Str) (h h' : Heap) (e C d : Addr) (v : Value) : Prop where
  keep : ∀ b o, h.get? b = some o → h'.get? b = some o
  new : h.objs.size ≤ e
  obj : ∃ oe vs, h'.get? e = some oe ∧ oe.cls = .ref C ∧ oe.dict = some d ∧ oe.data = .fields vs ∧ vs[1]? = some .none
  dbig : h.objs.size ≤ d
  dne : d ≠ e
  ns : h'.Ns1 d (fun y => if y = f then some v else none)
section
variable {M : Model} {A : Around} {E : Value → Shared → Prop} {s : Shared} {i : String} {u x : Addr}
theorem callWith_1 {pos : Pos} {env : Env} {e : Expr} {Q : Value → Shared → Prop}
    (h : wpAny M A (spliced (backTo pos (starEach [e] env))) (fun vs s₁ => KxsAt i u x s₁.heap ∧ wpAny M A (call (.ref u) vs) Q E s₁) E s)
    (he : starEach [e] env = (false, eval e env) :: starEach [] env := by rfl) (hplain : (backTo pos (starEach [] env)).any (·.1) = false := by rfl) :
    wpAny M A (callWith pos (.ref u) [] (backTo pos (starEach [e] env)) []) Q E s := by
  rw [he] at h ⊢
  refine kxs_callWith (i := i) (x := x) (by show (false || (backTo pos (starEach [] env)).any (·.1)) = false; rw [hplain]; rfl) ?_
  exact evalArgs_plain h
end
section
variable {prog : Program} {w : World} {A : Around} {E : Value → Shared → Prop} {h : Heap} {g : Array GenState} {d : Drawn} {t : Nat} {os : OsState}
variable {nm q : Str} {C N : Addr} {bs bm : List Value} {hdct : Bool} {sn : List Str} {sub : List Value} {ab : Bool} {col : Option Bool} {dd : Option Addr} {k0 k1 k2 k3 k5 : Option Value}
theorem call_mw {u e t0 : Addr} {rest : List Value} {Q : Value → Shared → Prop}
    (hC : h.get? C = some (excClassObj nm q C N bs bm hdct sn sub ab col dd k0 k1 k2 k3 k5 "ValueError.__new__")) (he : h.get? e = some (excO C t0)) (hu : h.get? u = some (kxs_mw "ValueError.__init__" e)) (hrest : rest.length ≤ sizeLine)
    (hq : ∀ h' t1, (∀ b o, b ≠ e → h.get? b = some o → h'.get? b = some o) → h'.get? e = some (excO C t1) → Q .none ⟨h', g, d, t, os⟩) :
    wpAny (model prog w) A (call (.ref u) rest) Q E ⟨h, g, d, t, os⟩ := by
  refine wpAny_call (codeAny_of_tree ?_)
  show wpAny _ A.in1 (callAny (.ref u) ⟨rest, []⟩) _ _ _
  simp only [callAny]
  refine wpAny_bind (wpAny_load hu ?_)
  simp only [kxs_mw, show (Value.type "method-wrapper" == Value.type "method" || Value.type "method-wrapper" == Value.type "builtin_function_or_method" || Value.type "method-wrapper" == Value.type "method-wrapper") = true by decide, if_true]
  refine KFB.if_so (by decide) ?_
  refine wpAny_bind (ESX.check_bound F.excBase_ValueError hC he rfl ?_)
  refine wpAny_bind (wpAny_pure (wpAny_pure ?_))
  refine ⟨Code.quiet_builtin _ (by decide +kernel), codeAny_builtin F.excBase_ValueError.initEntry ?_⟩
  rw [Around.under_plainId F.excBase_ValueError.init.plain _]
  wp_walk
  refine hq _ h.objs.size (fun b o hb ho => ?_) ?_
  · rw [Heap.get?_update_other _ _ (Ne.symm hb)]
    exact Heap.get?_push_of_some _ ho
  · rw [Heap.get?_update_self _ (Heap.get?_push_of_some _ he) rfl]
    rfl
end
section
variable {prog : Program} {w : World} {A : Around} {E : Value → Shared → Prop} {R : Result → Shared → Prop} {s : Shared} {K : Frag} {mg mb : Str → Option Value} {nm f msg : Str} {C fI : Addr}
theorem ev_line {o : Expr} {m : Str} {apos pos : Pos} {env : Env} {e : Expr} (hl : (apos.endLine == pos.line) = true) (he : starEach [e] env = (false, eval e env) :: starEach [] env := by rfl) :
    eval (.Call (.Attribute o m apos) [e] [] pos) env = (do
      let ov ← attributeBase o m env (eval o env)
      standAt apos.atName
      let (f, first) ← holding [ov] (getMethod ov m (L2.plainOf o env))
      callWith pos f first (backTo pos (starEach [e] env)) []) := by
  show (do
      let ov ← attributeBase o m env (eval o env)
      standAt apos.atName
      methodCall o m apos pos env ov 1 (backTo pos (starEach [e] env)) []) = _
  have hf : methodCallForm 1 (backTo pos (starEach [e] env)) [] = true := by rw [he]; rfl
  simp only [L2.mcall_line hf hl]
theorem ex_init (T : ExTxt prog K mg nm f msg C fI) {x t0 : Addr} {v : Value} (X : K.In s.heap) (hG : s.heap.Ns mainGlobals mg) (hB : s.heap.Ns builtinsNs mb) (hb : ∀ y : Str, y ≠ "__name__" → mb y = bootBuiltins y) (hlim : s.heap.NoLimit) (hx : s.heap.get? x = some (excO C t0)) (hKx : K.lookup x = none) (hxC : x ≠ C) (hroom : A.depth < recursionLimit)
    (hq : ∀ h' tk dx, InitEnd f s.heap h' x C dx v → R (.ok (.ret .none)) { s with heap := h', toks := tk }) :
    codeAny (model prog w) A (.call (.ref fI) ⟨[.ref x, v], []⟩) R s := by
  obtain ⟨oc, od, doc, pm, an, cda, ct, osl, p1, p2, j, q, ql, cc, hline, ho, hcd, ⟨c1, d1, s1, hcell⟩, c2, d2, vs, s2, tf, hcode, hvs⟩ := T.fn
  obtain ⟨nm', q', N, bs, bm, sn, sub, ab, col, dd, k0, k1, k2, k3, k5, hC, hbm⟩ := T.cls
  have hcl : clsIn K C = some { name := nm', bases := bs, mro := .ref C :: bm, ns := N, qualname := q', hasDict := true, slotNames := sn, subclasses := sub, abstract := ab, collection := col, hasDel := false } := by unfold clsIn; rw [hC] <;> rfl
  have hm := T.supI
  unfold ks_superIn at hm
  rw [hcl] at hm
  have l1 := T.ok.l1
  have l2 := T.ok.l2
  have l3 := T.ok.l3
  have l4 := T.ok.l4
  have fs : ¬ (f = ("self" : Str)) := by simpa using T.ok.ns
  have sf : ¬ (("self" : Str) = f) := fun e => fs e.symm
  have hbind : bindArgs (ksFn "__init__" ql (iA f p1 p2) (iB msg f j q) (iS f) .none .none doc pm an (.ref cda) ct cc) ⟨[.ref x, v], []⟩ = pure [(("self" : Str), .ref x), (f, v)] := by
    exact T.ok.bnd _ _ _ _ _ _ _ _ _ _ _ _ _
  refine ks_codeAny_call_defAt (fd := ksFn "__init__" ql (iA f p1 p2) (iB msg f j q) (iS f) .none .none doc pm an (.ref cda) ct cc) (body := iB msg f j q) (binds := [(("self" : Str), .ref x), (f, v)]) hroom (X _ _ ho) rfl hlim (codeRec_of X hcd) rfl (BindsTo.of_eq hbind) ?hcell ?hloc (fun h₁ hns k => ?_)
  case hcell =>
    intro y hy
    simp only [iS, List.mem_cons, List.not_mem_nil, or_false] at hy
    rcases hy with rfl | rfl | rfl | rfl <;> exact fun e => nomatch e
  case hloc =>
    intro y hy
    simp only [List.mem_cons, List.not_mem_nil, or_false] at hy
    rcases hy with rfl | rfl
    · exact l3
    · exact l4
  obtain ⟨hp, g, dr, tk, os⟩ := s
  have X₁ : K.In h₁ := X.keeps k
  have hx₁ := k _ _ hx
  have hvx : ∀ z : Addr, (fun y => List.lookup y [((f : Str), v), ("self", (.ref x : Value))]) "self" = some (.ref x) := fun _ => by
    show List.lookup ("self" : Str) [((f : Str), v), ("self", (.ref x : Value))] = some (.ref x)
    simp [List.lookup, beq_eq_false_iff_ne.mpr sf]
  have hvf : (fun y => List.lookup y [((f : Str), v), ("self", (.ref x : Value))]) f = some v := by
    show List.lookup f [((f : Str), v), ("self", (.ref x : Value))] = some v
    simp [List.lookup]
  refine ks_wpAt_execs_cons (ks_wpAt_Expr_any (ks_wpAt_MethodCall ?_ (ev_line hline))) 
  refine ks_wpAt_super_base (f := fI) (cc := cda) l1 l2 rfl rfl (X₁ _ _ ho) rfl rfl rfl (X₁ _ _ hcode) rfl hvs (by simp) T.top ?_
  refine ks_loadName_global rfl l1 (loadGlobal_builtin (hG.keeps k) (mg_none_of X hG T.sup) (hB.keeps k) ((hb "super" (by decide +kernel)).trans (by first | rfl | kernel_rfl)) ⟨rfl, ?_⟩)
  refine wpAny_loadName_free rfl l2 rfl ⟨_, X₁ _ _ hcell, rfl⟩ ?_
  refine wpAny_loadName_local rfl l3 hns (hvx 0) ?_
  refine ks_wpAny_isType_cls (X₁ _ _ hC) rfl ⟨rfl, ?_⟩
  refine ks_wpAny_call_super (X₁ _ _ hC) rfl hx₁ rfl (fun c e => nomatch e) (looks_mroIn X₁ T.meC) (fun h₂ e₂ k₂ => ?_)
  have X₂ : K.In h₂ := X₁.keeps k₂
  have hx₂ := k₂ _ _ hx₁
  have hI : Looks (model prog w) h₂ (isInstance (.ref x) (.type "ValueError")) true :=
    (InstAt.type (M := model prog w) (h := h₂) (x := x) (ox := excO C t0) (C := C) (od := none) ⟨hx₂, rfl, rfl, trivial⟩).andThen (looks_subIn X₂ T.veC)
  refine kxs_getMethod kxs_ValueError e₂ (looks_opaque X₂ T.op) (l₀ := .ref C :: bm) ?_ rfl X₂ hm hI hxC rfl ?_
  · exact fun A Q E s k q => wpAny_bind ((looks_clsIn X₂ hcl) A _ E s k (wpAny_pure q))
  have k₃ : ∀ b o, h₂.get? b = some o → (h₂.push (kxs_mw "ValueError.__init__" x)).get? b = some o := fun b o e => Heap.get?_push_of_some _ e
  have hu : (h₂.push (kxs_mw "ValueError.__init__" x)).get? h₂.objs.size = some (kxs_mw "ValueError.__init__" x) := Heap.get?_push_at rfl rfl
  refine callWith_1 (i := "ValueError.__init__") (x := x) ?_
  refine spliced_more (Calls.Constant_str ?_)
  refine spliced_none ?_
  refine ⟨hu, ?_⟩
  refine call_mw (k₃ _ _ (X₂ _ _ hC)) (k₃ _ _ hx₂) hu (one_size _) (fun h₄ t1 k₄ hx₄ => ?_)
  have ka : ∀ b o, b ≠ x → hp.get? b = some o → h₄.get? b = some o := fun b o hb e => k₄ b o hb (k₃ b o (k₂ b o (k b o e)))
  have X₄ : K.In h₄ := fun a o e => ka a o (fun z => by rw [z, hKx] at e; cases e) (X a o e)
  have hns₄ : h₄.Ns hp.objs.size (fun y => List.lookup y [((f : Str), v), ("self", (.ref x : Value))]) := by
    obtain ⟨o, es, ep, hL, r⟩ := hns
    exact ⟨o, es, ep, k₄ _ _ (Nat.ne_of_gt (Heap.lt_size hx)) (k₃ _ _ (k₂ _ _ hL)), r⟩
  refine wpAt_of_wpAny ?_
  refine wpAny_execs_cons (plainObj_wpAny_Assign_Attribute ?_)
  refine wpAny_Name (wpAny_loadName_local rfl l4 hns₄ hvf ?_) T.ok.nd
  refine wpAny_Name (wpAny_loadName_local rfl l3 hns₄ (hvx 0) ?_) rfl
  refine set_plain X₄ (ox := excO C t1) (od := none) ⟨hx₄, rfl, rfl, trivial⟩ T.sa ?_
  refine exc_osa X₄ hx₄ hcl (show refsVE (.ref C :: bm) = true from hbm) rfl T.noN (fun h₅ tk₅ dx k₅ dn dne hx₅ hn₅ => ?_)
  refine wpAny_execs_nil (hq h₅ tk₅ dx ⟨fun b o hb e => k₅ b o hb (ka b o hb e), ⟨t1, hx₅⟩, Nat.le_of_lt (Nat.lt_of_lt_of_le hns₄.lt dn), dne, hn₅⟩)
theorem ex_made (T : ExTxt prog K mg nm f msg C fI) {v : Value} (X : K.In s.heap) (hG : s.heap.Ns mainGlobals mg) (hB : s.heap.Ns builtinsNs mb) (hb : ∀ y : Str, y ≠ "__name__" → mb y = bootBuiltins y) (hlim : s.heap.NoLimit) (hroom : A.depth + 1 < recursionLimit)
    (hq : ∀ h' tk e d, OwnMade f s.heap h' e C d v → R (.ok (.ret (.ref e))) { s with heap := h', toks := tk }) :
    codeAny (model prog w) A (.call (.ref C) ⟨[v], []⟩) R s := by
  obtain ⟨nm', q, N, bs, bm, sn, sub, ab, col, dd, k0, k1, k2, k3, k5, hC, hbm⟩ := T.cls
  obtain ⟨hp, g, dr, tk, os⟩ := s
  have k : ∀ b o, hp.get? b = some o → ((hp.push (kdv_tup [v])).push (excO C hp.objs.size)).get? b = some o := fun b o e => Heap.get?_push_of_some _ (Heap.get?_push_of_some _ e)
  have hget : ((hp.push (kdv_tup [v])).push (excO C hp.objs.size)).get? (hp.objs.size + 1) = some (excO C hp.objs.size) := by heap_get
  have hnx : K.lookup (hp.objs.size + 1) = none := by
    cases e : K.lookup (hp.objs.size + 1) with
    | none => rfl
    | some o =>
      have z : hp.get? (hp.objs.size + 1) = some o := X _ _ e
      exact absurd (Nat.lt_of_succ_lt (Heap.lt_size z)) (Nat.lt_irrefl _)
  have hxC : hp.objs.size + 1 ≠ C := fun z => by
    rw [← z, hnx] at hC
    cases hC
  refine call_own F.excBase_ValueError (fun X => refsVE_contains X bm hbm) (X _ _ hC) (looks_findIn X T.iC) (fun self => bind_fn X self T.tC) (one_size v) ?_
  refine ex_init (s := ⟨(hp.push (kdv_tup [v])).push (excO C hp.objs.size), g, dr, tk, os⟩) T (X.keeps k) (hG.keeps k) (hB.keeps k) hb (hlim.keeps k) hget hnx hxC ?_ fun h' tk' dx ⟨k', ⟨t1, hx⟩, dn, dne, hns⟩ => ?_
  · show A.depth + 1 < recursionLimit
    exact hroom
  · have old : ∀ b o, hp.get? b = some o → h'.get? b = some o := fun b o e => k' b o (Nat.ne_of_lt (Nat.lt_succ_of_lt (Heap.lt_size e))) (k b o e)
    have z : hp.objs.size + 1 + 1 ≤ dx := by
      first
        | (simpa only [Heap.size_push] using dn)
        | exact dn
        | (have q := dn; rw [Heap.size_push, Heap.size_push] at q; exact q)
    exact ⟨rfl, hq h' tk' (hp.objs.size + 1) dx ⟨old, Nat.le_succ _, ⟨_, _, hx, rfl, rfl, rfl, rfl⟩, Nat.le_trans (Nat.le_trans (Nat.le_succ _) (Nat.le_succ _)) z, dne, hns⟩⟩
end
end ExS
end PySem
namespace L2
open PySem PySem.Spec PyProof.Rows
theorem relO_one {f : Str} {v : V} {v' : Value} (r : RelV v v') (y : Str) : RelO (List.lookup y [(f, v)]) (if y = f then some v' else none) := by
  by_cases hw : y = f
  · subst hw
    rw [if_pos rfl]
    have q : List.lookup y [(y, v)] = some v := by simp [List.lookup]
    rw [q]
    exact r
  · rw [if_neg hw]
    have qw : (y == f) = false := by simpa using hw
    have q2 : List.lookup y [(f, v)] = none := by simp [List.lookup, qw]
    rw [q2]
    trivial
section
variable {X : Cx} {nm f msg : Str} {C fI : Addr}
/-- nm(e) -/
def tMkEx (C : Addr) (f : Str) (ta : TA) : L2.St → Hp → XK → Prop := fun σ H Q => ta σ H fun vs H1 => ∃ v, vs = [v] ∧ ∀ d, H1 d = none → Q (.ref C) (some d) (upd H1 d (.xd [(f, v)]))
theorem pmk_ex {a : Expr} {ta : TA} {p pos : Pos} {k : Nat} (T : PySem.ExS.ExTxt X.prog X.K X.mg nm f msg C fI) (hr : Room k X.A) (ha : PA X [a] ta) (hg : Gl X nm := by rfl) (hnd : (nm == ("__debug__" : Str)) = false := by decide)
    (he : starEach (a :: []) X.env = (false, eval a X.env) :: starEach [] X.env := by rfl) (hpl : (backTo pos (starEach [] X.env)).any (·.1) = false := by rfl) :
    PMk X (.Call (.Name nm p) [a] [] pos) (tMkEx C f ta) := by
  intro pins s σ H Q I h
  refine wpAny_Call_Name_kw (ld_glob I hg T.gC ?_ hnd)
  refine PySem.W.callWith_K (h₀ := X.base) I.ok.mod.kin T.kC (thn (ha.run pos pins s σ H _ I h) fun us s1 hh => ?_) he hpl
  obtain ⟨vs, H1, I1, r1, v, ev, q1⟩ := hh
  subst ev
  refine ⟨I1.kIn, ?_⟩
  cases r1 with
  | cons rv rn =>
    rename_i v' us'
    cases rn
    show wpAny _ _ (call (.ref C) [v']) _ _ _
    have hlim := I1.nolimit
    have hG := I1.mod.glob.keeps I1.bk
    obtain ⟨mb, hB, hb⟩ := I1.mod.blt
    have hB' := hB.keeps I1.bk
    obtain ⟨hp, g, dr, tk, os⟩ := s1
    refine wpAny_call (PySem.ExS.ex_made T I1.kIn hG hB' hb hlim (by have := hr.dp; omega) fun h' tk' e d M => ?_)
    show MkP X pins σ Q (.ref e) ⟨h', g, dr, tk', os⟩
    obtain ⟨oe, fv, hoe, hc, hd, hdat, h1⟩ := M.obj
    have hns := M.ns
    obtain ⟨G', g1, g2⟩ := restrict h' fun b => decide (b ≠ e)
    have gk : ∀ b, b ≠ e → G'.get? b = h'.get? b := fun b hb => g1 b (decide_eq_true hb)
    have ge : G'.get? e = none := g2 e (by simp)
    have old : ∀ b o, hp.get? b = some o → G'.get? b = some o := fun b o q => (gk b (Nat.ne_of_lt (Nat.lt_of_lt_of_le (Heap.lt_size q) M.new))).trans (M.keep b o q)
    have ob : ObjOk X.prog X.w (upd H1 d (.xd [(f, v)])) G' d (.xd [(f, v)]) :=
      ⟨_, hns.at (fun o q => (gk d M.dne).trans q), fun y => relO_one rv y⟩
    have J : Inv X pins σ (upd H1 d (.xd [(f, v)])) ⟨G', g, dr, tk', os⟩ := I1.laid (t' := tk') old M.dbig ob
    refine ⟨e, oe, fv, ⟨G', g, dr, tk', os⟩, _, .ref C, some d, rfl, J, fun b o q => ?_, ge, hoe, ⟨hc, hd⟩, hdat, h1, ?_, rfl, I1.bare, raises_own T.exC T.tyC, q1 d (I1.hok.fresh M.dbig)⟩
    · by_cases hb : b = e
      · have q' : G'.get? b = some o := q
        rw [hb, ge] at q'; cases q'
      · exact (gk b hb).symm.trans q
    · rw [upd_ne (Ne.symm M.dne)]
      exact I1.hok.fresh M.new
end
end L2

set_option Elab.async false
set_option linter.all false
set_option maxRecDepth 100000
set_option maxHeartbeats 4000000
namespace EX
open PySem PySem.Spec PyProof.Rows L2 He PySem.ExS PySem.HandSPX
/-! the head's facts of own exceptions over ValueError, with __init__ of the form of ES -/
/-- one such class: its name, its field, its text, its __init__ -/
structure ExD where
  nm : Str
  f : Str
  msg : Str
  qual : Str
  st : Stmt
def aPos : Arguments → Nat → Pos
  | { args := [a, b], .. }, 0 => a.pos
  | { args := [a, b], .. }, _ => b.pos
  | _, _ => ⟨0, 0, 0, 0⟩
def qPos : List Stmt → Nat → Pos
  | [.Expr (.Call (.Attribute (.Call (.Name _ p1) [] [] p2) _ p3) [.Constant _ _ p4] [] p5) p6, .Assign [.Attribute (.Name _ p7) _ p8] (.Name _ p9) p10], i =>
    match i with
    | 1 => p1 | 2 => p2 | 3 => p3 | 4 => p4 | 5 => p5 | 6 => p6 | 7 => p7 | 8 => p8 | 9 => p9 | _ => p10
  | _, _ => ⟨0, 0, 0, 0⟩
def qConst : List Stmt → Nat
  | .Expr (.Call _ [.Constant _ j _] _ _) _ :: _ => j
  | _ => 0
structure ExD.Shape (d : ExD) : Prop where
  ok : NmOk d.f
  args : defArgs d.st = iA d.f (aPos (defArgs d.st) 0) (aPos (defArgs d.st) 1)
  body : defBody d.st = iB d.msg d.f (qConst (defBody d.st)) (qPos (defBody d.st))
  scope : defScope d.st = iS d.f
  line : ((qPos (defBody d.st) 3).endLine == (qPos (defBody d.st) 5).line) = true
abbrev ExW : Type := Option (Str × Str × Arguments × FuncBody × Scope × Addr × List Str × Addr)
def exW (K : PySem.W.Frag) (d : ExD) : ExW := match K.lookup (ma K (ga K d.nm) "__init__") with
  | some ⟨_, _, .func fd, _⟩ => some (fd.name, fd.qualname, fd.params, fd.body, fd.scope, fd.globals, fd.closure.map (·.1), fd.builtins)
  | _ => none
def ExD.val (d : ExD) : ExW := some ("__init__", d.qual, defArgs d.st, .stmts (defBody d.st), defScope d.st, mainGlobals, ["__class__"], builtinsNs)
def clsB (K : PySem.W.Frag) (C : Addr) : Bool := match K.lookup C with
  | some ⟨.type c, _, .cls cd, sl⟩ => decide (c = "type") && (decide (cd.mro.head? = some (.ref C)) && (refsVE cd.mro.tail && (cd.hasDict && (!cd.hasDel && (decide (sl.size = 6) && decide (sl[4]? = some (some (.builtin "ValueError.__new__"))))))))
  | _ => false
theorem clsB_ok {K : PySem.W.Frag} {C : Addr} (h : clsB K C = true) : ∃ nm' q N bs bm sn sub ab col dd k0 k1 k2 k3 k5, K.lookup C = some (excClassObj nm' q C N bs bm true sn sub ab col dd k0 k1 k2 k3 k5 "ValueError.__new__") ∧ refsVE bm = true := by
  unfold clsB at h
  cases q : K.lookup C with
  | none => rw [q] at h; cases h
  | some o =>
    obtain ⟨oc, od, dt, osl⟩ := o
    rw [q] at h
    cases oc with
    | type c =>
      cases dt with
      | cls cd =>
        obtain ⟨nm, bs, mro, ns, qn, hd, sn, sub, ab, col, del⟩ := cd
        obtain ⟨h1, h⟩ := ba h
        obtain ⟨h2, h⟩ := ba h
        obtain ⟨h3, h⟩ := ba h
        obtain ⟨h4, h⟩ := ba h
        obtain ⟨h5, h⟩ := ba h
        obtain ⟨h6, h7⟩ := ba h
        have g1 := of_decide_eq_true h1
        have g2 : mro.head? = some (.ref C) := of_decide_eq_true h2
        have g6 := of_decide_eq_true h6
        have g7 := of_decide_eq_true h7
        clear h1 h2 h6 h7
        dsimp only at h3 h4 h5
        have h5' : del = false := by cases del <;> simp_all
        subst g1 h4 h5'
        cases mro with
        | nil => cases g2
        | cons x bm =>
          have hx : x = .ref C := Option.some.inj g2
          subst hx
          obtain ⟨l⟩ := osl
          match l, g6, g7 with
          | [k0, k1, k2, k3, k4, k5], _, h7 =>
            have : k4 = some (.builtin "ValueError.__new__") := Option.some.inj h7
            subst this
            exact ⟨nm, qn, ns, bs, bm, sn, sub, ab, col, od, k0, k1, k2, k3, k5, rfl, h3⟩
      | _ => cases h
    | _ => cases dt <;> cases h
def cellB (K : PySem.W.Frag) (cl : List (Str × Addr)) (C : Addr) : Bool := match cl with
  | [(_, cc)] => (match K.lookup cc with
    | some ⟨_, _, .cell (some (.ref D)), _⟩ => decide (D = C)
    | _ => false)
  | _ => false
def codeB (K : PySem.W.Frag) (cd : Value) (file : Str) : Bool := match cd with
  | .ref c => (match K.lookup c with
    | some ⟨_, _, .fields vs, _⟩ => (match vs[2]? with
      | some (Value.str y _) => decide (y = file)
      | _ => false)
    | _ => false)
  | _ => false
def fnB (K : PySem.W.Frag) (file : Str) (d : ExD) : Bool := match K.lookup (ma K (ga K d.nm) "__init__") with
  | some ⟨_, _, .func fd, _⟩ => decide (fd.defaults = .none) && (decide (fd.kwdefaults = .none) && (PySem.W.codeIn K fd.code d.qual && (codeB K fd.code file && cellB K fd.closure (ga K d.nm))))
  | _ => false
def exB (K : PySem.W.Frag) (file : Str) (d : ExD) : Bool :=
  eqO (PySem.W.nsIn K mainGlobals d.nm) (some (some (.ref (ga K d.nm)))) && (clsB K (ga K d.nm) && (eqO (PySem.W.findIn K (.ref (ga K d.nm)) "__setattr__") (some (some (.builtin "object.__setattr__"))) &&
  (eqO (PySem.W.findIn K (.ref (ga K d.nm)) "__getattribute__") (some (some (.builtin "BaseException.__getattribute__"))) && (eqO (PySem.W.findIn K (.ref (ga K d.nm)) "__getattr__") (some none) && (eqO (PySem.W.findIn K (.ref (ga K d.nm)) d.f) (some none) &&
  (eqO (PySem.W.findIn K (.ref (ga K d.nm)) "__init__") (some (some (.ref (ma K (ga K d.nm) "__init__")))) && (decide (PySem.W.typeIn K (.ref (ma K (ga K d.nm) "__init__")) = some (.type "function")) && (PySem.W.keepIn K (.ref (ga K d.nm)) &&
  (decide (PySem.W.subIn K (.ref (ga K d.nm)) (.type "BaseException") = some true) && (decide (PySem.W.subIn K (.ref (ga K d.nm)) (.type "ValueError") = some true) && (decide (PySem.W.typeIn K (.ref (ga K d.nm)) = some (.type "type")) &&
  (PySem.W.hasDictIn K (ga K d.nm) && (eqO (PySem.W.nsIn K mainGlobals "super") (some none) && (eqO (PySem.W.nsIn K cStatics "thirdparty.any") (some none) && (decide (PySem.W.mroIn K (ga K d.nm) (.ref (ga K d.nm)) = some true) &&
  (eqO (PySem.W.ks_superIn K (ga K d.nm) (ga K d.nm) "__init__") (some (some (.builtin "ValueError.__init__"))) && (fnB K file d && (eqO (PySem.W.findIn K (.ref (ga K d.nm)) "__class__") (some (some (.builtin "object.__class__"))) &&
  (eqO (PySem.W.specialIn K (.builtin "object.__class__") "__get__") (some (some (.builtin "getset_descriptor.__get__"))) && (decide (PySem.W.takesIn K (.builtin "object.__class__") = some true) && decide (PySem.W.mroIn K (ga K d.nm) (.type "object") = some true)))))))))))))))))))))
theorem exB_ok {prog : Program} {K : PySem.W.Frag} {h : Heap} {mg : Str → Option Value} (X : K.In h) (G : h.Ns mainGlobals mg) {d : ExD} (hs : d.Shape) (top : (prog.main.scope.names.lookup ("super" : Str)).isSome = false) (hv : exW K d = d.val) (hb : exB K prog.main.file d = true) :
    ExTxt prog K mg d.nm d.f d.msg (ga K d.nm) (ma K (ga K d.nm) "__init__") ∧ XfC K (ga K d.nm) ∧ ExcC K (ga K d.nm) := by
  unfold exB at hb
  obtain ⟨b1, hb⟩ := ba hb
  obtain ⟨b2, hb⟩ := ba hb
  obtain ⟨b3, hb⟩ := ba hb
  obtain ⟨b4, hb⟩ := ba hb
  obtain ⟨b5, hb⟩ := ba hb
  obtain ⟨b6, hb⟩ := ba hb
  obtain ⟨b7, hb⟩ := ba hb
  obtain ⟨b8, hb⟩ := ba hb
  obtain ⟨b9, hb⟩ := ba hb
  obtain ⟨b10, hb⟩ := ba hb
  obtain ⟨b11, hb⟩ := ba hb
  obtain ⟨b12, hb⟩ := ba hb
  obtain ⟨b13, hb⟩ := ba hb
  obtain ⟨b14, hb⟩ := ba hb
  obtain ⟨b15, hb⟩ := ba hb
  obtain ⟨b16, hb⟩ := ba hb
  obtain ⟨b17, hb⟩ := ba hb
  obtain ⟨b18, hb⟩ := ba hb
  obtain ⟨b19, hb⟩ := ba hb
  obtain ⟨b20, hb⟩ := ba hb
  obtain ⟨b21, b22⟩ := ba hb
  refine ⟨{ ok := hs.ok, gC := PySem.W.mg_of X G (eqO_ok b1), cls := clsB_ok b2, sa := eqO_ok b3, ga := eqO_ok b4, gg := eqO_ok b5, noN := eqO_ok b6, iC := eqO_ok b7, tC := of_decide_eq_true b8, kC := b9, exC := of_decide_eq_true b10, veC := of_decide_eq_true b11, tyC := of_decide_eq_true b12, hdC := b13, sup := eqO_ok b14, op := eqO_ok b15, meC := of_decide_eq_true b16, supI := eqO_ok b17, top := top, fn := ?_ }, ⟨eqO_ok b4, eqO_ok b5, of_decide_eq_true b10, b13⟩, ⟨eqO_ok b4, eqO_ok b5, of_decide_eq_true b10, b13, eqO_ok b19, eqO_ok b20, of_decide_eq_true b21, of_decide_eq_true b22⟩⟩
  unfold fnB at b18
  unfold exW at hv
  cases q : K.lookup (ma K (ga K d.nm) "__init__") with
  | none => rw [q] at b18; cases b18
  | some o =>
    obtain ⟨oc, od, dt, osl⟩ := o
    rw [q] at b18 hv
    cases dt with
    | func fd =>
      obtain ⟨n1, n2, n3, n4, n5, n6, n7, n8, n9, n10, n11, n12, n13, n14, n15⟩ := fd
      have e2 : (some (n1, n2, n3, n4, n5, n6, n7.map (·.1), n15) : ExW) = (some ("__init__", d.qual, defArgs d.st, .stmts (defBody d.st), defScope d.st, mainGlobals, ["__class__"], builtinsNs) : ExW) := hv
      simp only [Option.some.injEq, Prod.mk.injEq] at e2
      obtain ⟨h1, h2, h3, h4, h5, h6, h7, h8⟩ := e2
      obtain ⟨c1, b18⟩ := ba b18
      obtain ⟨c2, b18⟩ := ba b18
      obtain ⟨c3, b18⟩ := ba b18
      obtain ⟨c4, c5⟩ := ba b18
      have g1 : n8 = .none := of_decide_eq_true c1
      have g2 : n9 = .none := of_decide_eq_true c2
      have g3 : PySem.W.codeIn K n13 d.qual = true := c3
      have g4 : codeB K n13 prog.main.file = true := c4
      have g5 : cellB K n7 (ga K d.nm) = true := c5
      clear c1 c2 c3 c4 c5
      match n7, h7, g5 with
      | [(y, cc)], h7, c5 =>
        have ey : y = "__class__" := by simpa using h7
        subst ey
        subst h1 h2 h3 h4 h5 h6 h8 g1 g2
        unfold codeB at g4
        cases n13 with
        | ref cda =>
          dsimp only at g4
          cases q2 : K.lookup cda with
          | none => rw [q2] at g4; cases g4
          | some o2 =>
            obtain ⟨oc2, od2, dt2, osl2⟩ := o2
            rw [q2] at g4
            cases dt2 with
            | fields vs =>
              dsimp only at g4
              cases q3 : vs[2]? with
              | none => rw [q3] at g4; cases g4
              | some v =>
                rw [q3] at g4
                cases v with
                | str y tf =>
                  have ey := of_decide_eq_true g4
                  subst ey
                  unfold cellB at c5
                  dsimp only at c5
                  cases q4 : K.lookup cc with
                  | none => rw [q4] at c5; cases c5
                  | some o4 =>
                    obtain ⟨oc4, od4, dt4, osl4⟩ := o4
                    rw [q4] at c5
                    cases dt4 with
                    | cell cv =>
                      cases cv with
                      | none => cases c5
                      | some v4 =>
                        cases v4 with
                        | ref D =>
                          have eD := of_decide_eq_true c5
                          rw [eD] at q4
                          refine ⟨oc, od, n10, n11, n12, cda, n14, osl, aPos (defArgs d.st) 0, aPos (defArgs d.st) 1, qConst (defBody d.st), qPos (defBody d.st), _, cc, hs.line, ?_, g3, ⟨oc4, od4, osl4, q4⟩, oc2, od2, vs, osl2, tf, q2, q3⟩
                          rw [← hs.args, ← hs.body, ← hs.scope]
                        | _ => cases c5
                    | _ => cases c5
                | _ => cases g4
            | _ => cases g4
        | _ => cases g4
    | _ => cases b18
end EX
namespace EX
open PySem PySem.Spec PyProof.Rows L2 He PySem.ExS PySem.HandSPX
/-! the hook: HeadHook3's facts, a Bool, those classes' __init__; the statics' names within -/
abbrev AlE : Type := (AlT × Bool) × List ExW
def frE (n : Nat) (g : Addr → Option Obj) : PySem.W.Frag := frT g (cStatics :: asD g n)
def obsK (fa : List Fa) (fn : List DefD) (ds : List ExD) (ex : PySem.W.Frag → Bool) (K : PySem.W.Frag) : AlE := ((obsT fa fn [] K, ex K), ds.map (exW K))
def obsE (n : Nat) (fa : List Fa) (fn : List DefD) (ds : List ExD) (ex : PySem.W.Frag → Bool) (g : Addr → Option Obj) : AlE := obsK fa fn ds ex (frE n g)
def valE (fn : List DefD) (ds : List ExD) (w : World) : AlE := ((valT fn [] w, true), ds.map ExD.val)
structure SaysE (fa : List Fa) (fn : List DefD) (ds : List ExD) (ex : PySem.W.Frag → Bool) (w : World) (K : PySem.W.Frag) : Prop where
  t : SaysT fa fn [] w K
  more : ex K = true
  own : ds.map (exW K) = ds.map ExD.val
theorem saysE_of {fa : List Fa} {fn : List DefD} {ds : List ExD} {ex : PySem.W.Frag → Bool} {w : World} {K : PySem.W.Frag} (e : obsK fa fn ds ex K = valE fn ds w) : SaysE fa fn ds ex w K :=
  ⟨congrArg (fun z : AlE => z.1.1) e, congrArg (fun z : AlE => z.1.2) e, congrArg (fun z : AlE => z.2) e⟩
def hookE (n : Nat) (fa : List Fa) (fn : List DefD) (ds : List ExD) (ex : PySem.W.Frag → Bool) : PySem.W.Hook where
  α := AlE
  obs := fun s => obsE n fa fn ds ex s.heap.get?
  val := fun w => valE fn ds w
  says := fun w h => ∃ K : PySem.W.Frag, K.In h ∧ SaysE fa fn ds ex w K
  of := fun _ _ e => ⟨_, frT_in, saysE_of e⟩
  keeps := fun _ _ _ ⟨K, hK, c⟩ k => ⟨K, PySem.W.Frag.In.keeps hK k, c⟩
theorem obsE_eq {n : Nat} {fa : List Fa} {fn : List DefD} {ds : List ExD} {ex : PySem.W.Frag → Bool} {g : Addr → Option Obj} {s : Shared} (h : ∀ a, g a = s.heap.get? a) : obsE n fa fn ds ex g = (hookE n fa fn ds ex).obs s := by
  have e : g = s.heap.get? := funext h
  rw [e] <;> rfl
theorem exW_at {ds : List ExD} {K : PySem.W.Frag} (h : ds.map (exW K) = ds.map ExD.val) (i : Nat) {d : ExD} (e : ds[i]? = some d := by rfl) : exW K d = d.val := by
  have e2 : (ds.map (exW K))[i]? = (ds.map ExD.val)[i]? := by rw [h]
  rw [List.getElem?_map, List.getElem?_map, e] at e2
  exact Option.some.inj e2
end EX

set_option Elab.async false
set_option linter.all false
set_option maxRecDepth 100000
set_option maxHeartbeats 4000000
namespace L2
open PySem PySem.Spec PyProof.Rows
/-- isinstance(e, c), e the caught exception, with fields of its own in the dict at dd -/
def rIsEd (K : PySem.W.Frag) (D : Addr) (a : Addr) (cls : Value) (d : Option Addr) : List V → Hp → VK → Prop := fun xs H Q => ∃ (c : V) (cv : Value) (b : Bool) (dd : Addr) (fs : List (Str × V)), xs = [.ref a, c] ∧ (∀ u, RelV c u → u = cv) ∧ cls = .ref D ∧ d = some dd ∧ H dd = some (.xd fs) ∧ PySem.W.kitOne K (.ref D) cv = some b ∧ Q (.bl b) H
theorem call_isEd {X : Cx} {a D : Addr} {oe : Obj} {cls : Value} {d : Option Addr} {pn : List (Addr × Obj)} (C : ExcC X.K D) (hz : Zc cls d oe) (hf : ∃ vs, oe.data = .fields vs) : CallR (X.suite a ((a, oe) :: pn)) (.builtin "isinstance") (rIsEd X.K D a cls d) := by
  intro pins s σ H xs us Q I r h
  obtain ⟨c, cv, b, dd, fs, rfl, hcv, rfl, rfl, hdd, e, q⟩ := h
  obtain ⟨u1, u2, rfl, r1, r2⟩ := vals2 r
  obtain rfl : u1 = Value.ref a := r1
  obtain rfl := hcv _ r2
  obtain ⟨hget, _⟩ := I.pin (a, oe) (List.mem_append.mpr (.inl List.mem_cons_self))
  obtain ⟨vs, hv⟩ := hf
  have hx : ObjOk X.prog X.w H s.heap dd (.xd fs) := I.hok dd _ hdd
  obtain ⟨mA, hns, hr⟩ := hx
  obtain ⟨od, ho, hl⟩ := lookIn_ns hns
  have J : PySem.W.InstAt s.heap a oe D (some od) := ⟨hget, hz.1, by unfold PySem.W.notCls; rw [hv] <;> rfl, by rw [hz.2]; exact ho⟩
  have hcl : (PySem.W.clsIn X.K D).isSome = true := by
    obtain ⟨cd, hc, _⟩ := PySem.W.any_some C.hd
    rw [hc]
    rfl
  exact PySem.W.kia_one (PySem.W.kitx_exc hcl C.hg C.hk C.hs C.ha C.hn C.ht C.hm) I.kIn J e (fun z => nomatch z) fun tk => ⟨.bl b, H, I.kept (t' := tk) fun _ _ z => z, rfl, q⟩
end L2
namespace EH
open PySem PySem.Spec PyProof.Rows L2
abbrev FnP (K : PySem.W.Frag) (x : Str) (st : Stmt) (f : Addr) (fd : FuncData) : Prop := FunD K x x (defArgs st) (defBody st) (defScope st) [] [] f fd
/-! ### dice -/
def IsDice (H : Hp) (d : Addr) : Prop := ∃ a b m : Int, H d = some (.lst [.int a, .int b, .int m])
def spDice : Sp := fun vs H Q _ => ∃ c : Int, vs = [.int c] ∧ ∀ p H', H p = none → Same H H' → IsDice H' p → Q (.ref p) H'
def spRoll : Sp := fun vs H Q _ => ∃ (d : Addr) (n : Int), vs = [.ref d, .int n] ∧ IsDice H d ∧ 0 < n ∧ n < 1000000 ∧
  ∀ r H', 0 ≤ r → r < n → (∀ c o, c ≠ d → H c = some o → H' c = some o) → IsDice H' d → Q (.int r) H'
def spRounds (K : PySem.W.Frag) : Sp := fun vs H Q _ => ∃ (a : Addr) (ns : List Int) (n : Int), vs = [.ref a, .int n] ∧ SqL K H a (ns.map V.int) ∧ ns.length ≤ 63 ∧ 1 ≤ n ∧ n < 1000 ∧
  ∀ p H' (ds : List Addr), H p = none → Same H H' → H' p = some (.lst (ds.map V.ref)) → (∀ d ∈ ds, d ≠ p ∧ H d = none ∧ IsDice H' d) → ds.length ≤ 63 → Q (.ref p) H'
theorem same_new {H : Hp} {p : Addr} {o : HO} (hp : H p = none) : Same H (upd H p o) := fun b u e => by
  rw [upd_ne (ne_of_none e hp)]
  exact e
theorem szS {n : Nat} (h : n ≤ 100000) : n ≤ sizeLine := Nat.le_trans h (by decide)
theorem anyb {K : Bool → Hp → Prop} {H : Hp} (h1 : K true H) (h2 : K false H) (b : Bool) : K b H := by
  cases b
  · exact h2
  · exact h1
theorem if_any {c : TT} {t u : TS} {D : Ends} {σ : L2.St} {H : Hp} (h : ∀ Q : Bool → Hp → Prop, Q true H → Q false H → c σ H Q) (ht : t D σ H) (hu : u D σ H) : tIfS c t u D σ H :=
  h _ (by show (if true = true then t D σ H else u D σ H); rw [if_pos rfl]; exact ht) (by show (if false = true then t D σ H else u D σ H); rw [if_neg Bool.false_ne_true]; exact hu)
theorem dec_int {a b : Int} : decide (V.int a = V.int b) = decide (a = b) := by
  by_cases h : a = b
  · subst h; simp
  · have h' : ¬ V.int a = V.int b := fun e => h (V.int.inj e)
    rw [decide_eq_false h, decide_eq_false h']
section
variable {K : PySem.W.Frag}
theorem dpAll_ints {H : Hp} : ∀ {ns : List Int}, DpAll K H (ns.map V.int) (ns.map PyData.int)
  | [] => .nil
  | n :: r => .cons (.int n) (dpAll_ints (ns := r))
theorem canLay_map {α : Type} (f : α → PyData) (hf : ∀ a, PyData.canLay0 (f a) = true) : ∀ l : List α, PyData.canLayAll0 (l.map f) = true
  | [] => by rw [List.map_nil, PyData.canLayAll0]
  | a :: r => by rw [List.map_cons, PyData.canLayAll0, hf a, canLay_map f hf r]; rfl
theorem depth_map {α : Type} (f : α → PyData) (n : Nat) (hf : ∀ a, PyData.depth (f a) ≤ n) : ∀ l : List α, PyData.depthAll (l.map f) ≤ n
  | [] => by rw [List.map_nil, PyData.depthAll]; exact Nat.zero_le _
  | a :: r => by rw [List.map_cons, PyData.depthAll]; exact Nat.max_le.mpr ⟨hf a, depth_map f n hf r⟩
theorem shaped_list {α : Type} (f : α → PyData) (n : Nat) (hn : n ≤ 63) (h1 : ∀ a, PyData.canLay0 (f a) = true) (h2 : ∀ a, PyData.depth (f a) ≤ n) (l : List α) : SeqAt.shaped (.list (l.map f)) = true := by
  unfold SeqAt.shaped
  rw [PyData.canLay0, canLay_map f h1 l, PyData.depth]
  have := depth_map f n h2 l
  simp only [Bool.true_and, decide_eq_true_eq]
  omega
theorem shaped_ints (ns : List Int) : SeqAt.shaped (.list (ns.map PyData.int)) = true :=
  shaped_list PyData.int 0 (by decide) (fun a => by rw [PyData.canLay0]) (fun a => by rw [PyData.depth]; exact Nat.le_refl _) ns
theorem cut_ints (ns : List Int) (lo hi : Option Int) : ∃ ms : List Int, cutV (ns.map V.int) lo hi = ms.map V.int ∧ ms.length ≤ ns.length := by
  unfold cutV
  refine ⟨(ns.drop (HT.sIx (ns.map V.int).length 0 lo)).take (HT.sIx (ns.map V.int).length (ns.map V.int).length hi - HT.sIx (ns.map V.int).length 0 lo), ?_, ?_⟩
  · rw [List.map_take, List.map_drop]
  · rw [List.length_take, List.length_drop]
    omega
end
/-! ### texts by their codes -/
def S (l : List Nat) : Str := ⟨l.toArray⟩
theorem S_len (l : List Nat) : (S l).length = l.length := by show l.toArray.size = _; simp
theorem S_tl (l : List Nat) : (S l).cps.toList = l := by show l.toArray.toList = l; simp
theorem S_app (a b : List Nat) : S a ++ S b = S (a ++ b) := by
  show (⟨a.toArray ++ b.toArray⟩ : Str) = ⟨(a ++ b).toArray⟩
  rw [List.append_toArray]
theorem S_inj {a b : List Nat} (h : S a = S b) : a = b := by
  have := congrArg (fun z : Str => z.cps.toList) h
  simpa [S_tl] using this
theorem S_one (c : Nat) : S [c] = ⟨#[c]⟩ := rfl
theorem ip_addS {X : Cx} : PIp X .Add (fun x y H Q => ∃ i j, x = .str i ∧ y = .str j ∧ i.length + j.length ≤ sizeLine ∧ Q (.str (i ++ j)) H) := fun pins s σ H x y v u Q I r1 r2 h => iop_add_str pins s σ H x y v u Q I r1 r2 h
theorem dec_strS {a b : List Nat} : decide (V.str (S a) = V.str (S b)) = decide (a = b) := by
  by_cases h : a = b
  · subst h; simp
  · have h' : ¬ V.str (S a) = V.str (S b) := fun e => h (S_inj (V.str.inj e))
    rw [decide_eq_false h, decide_eq_false h']
theorem take_succ {l : List Nat} {i c : Nat} (h : l[i]? = some c) : l.take (i + 1) = l.take i ++ [c] := by
  rw [List.take_add_one, h]
  rfl
/-! ### small helpers -/
theorem ite_nelit {c d : Nat} {z : Str} {A B : Prop} (e : z = S [d]) (h1 : c ≠ d → A) (h2 : c = d → B) : if (!decide (V.str ⟨#[c]⟩ = V.str z)) = true then A else B := by
  subst e
  rw [← S_one, dec_strS]
  by_cases h : c = d
  · subst h; simpa using h2 rfl
  · simpa [h] using h1 h
theorem ite_eqlit {c d : Nat} {z : Str} {A B : Prop} (e : z = S [d]) (h1 : c = d → A) (h2 : c ≠ d → B) : if decide (V.str ⟨#[c]⟩ = V.str z) = true then A else B := by
  subst e
  rw [← S_one, dec_strS]
  by_cases h : c = d
  · subst h; simpa using h1 rfl
  · simpa [h] using h2 h
theorem ite_inlit {c : Nat} {l : List Nat} {z : Str} {A B : Prop} (e : z = S l) (h1 : c ∈ l → A) (h2 : c ∉ l → B) : if decide (c ∈ z.cps.toList) = true then A else B := by
  subst e
  rw [S_tl]
  by_cases h : c ∈ l
  · simpa [h] using h1 h
  · simpa [h] using h2 h
theorem ite_ninlit {c : Nat} {l : List Nat} {z : Str} {A B : Prop} (e : z = S l) (h1 : c ∉ l → A) (h2 : c ∈ l → B) : if (!decide (c ∈ z.cps.toList)) = true then A else B := by
  subst e
  rw [S_tl]
  by_cases h : c ∈ l
  · simpa [h] using h2 h
  · simpa [h] using h1 h
theorem atS {t : List Nat} {k c : Nat} (h : t[k]? = some c) : atI (S t).cps.toList (k : Int) = some c := by
  rw [S_tl]
  exact atI_nat h
theorem lenS {t : List Nat} (h : t.length ≤ 100000) : (S t).length ≤ sizeLine := by rw [S_len]; exact szS h
theorem drop_cons {t : List Nat} {k c : Nat} (h : t[k]? = some c) : t.drop k = c :: t.drop (k + 1) := by
  obtain ⟨hk, e⟩ := List.getElem?_eq_some_iff.mp h
  rw [List.drop_eq_getElem_cons hk, e]
theorem drop_nil {t : List Nat} {k : Nat} (h : t.length ≤ k) : t.drop k = [] := List.drop_eq_nil_of_le h
theorem same_upd {H H2 : Hp} {p : Addr} {o : HO} (hp : H p = none) (s : Same H H2) : Same H (upd H2 p o) := fun b u e => by
  rw [upd_ne (ne_of_none e hp)]
  exact s b u e
theorem inV_S {l : List Nat} : ∀ {L : List (List Nat)}, inV (.str (S l)) (L.map fun m => V.str (S m)) = decide (l ∈ L)
  | [] => by simp [inV]
  | m :: L => by
    have ih := inV_S (l := l) (L := L)
    unfold inV at ih ⊢
    rw [List.map_cons, List.any_cons, ih]
    have e : eqV (V.str (S m)) (V.str (S l)) = decide (m = l) := by
      show (S m == S l) = _
      by_cases h : m = l
      · subst h; simp
      · have : S m ≠ S l := fun q => h (S_inj q)
        simp [h, this]
    rw [e]
    by_cases h : m = l
    · subst h; simp
    · have h' : ¬ l = m := fun q => h q.symm
      simp [h, h']
theorem flat_S : ∀ {L : List (List Nat)}, (L.map fun m => V.str (S m)).all flatV = true
  | [] => rfl
  | m :: L => by rw [List.map_cons, List.all_cons, flat_S]; rfl
theorem while_count {c : TT} {tb : TS} {D : Ends} (mk : Nat → L2.St) (H : Hp) (j0 e : Nat) (hle : j0 ≤ e) (hy : ∀ j, j0 ≤ j → j < e → ∀ Q : Bool → Hp → Prop, Q true H → c (mk j) H Q) (hn : ∀ Q : Bool → Hp → Prop, Q false H → c (mk e) H Q)
    (hb : ∀ j, ∀ D' : Ends, D'.nx (mk (j + 1)) H → tb D' (mk j) H) (fin : D.nx (mk e) H) : tWhile c tb D (mk j0) H := by
  refine ⟨fun m σ H2 => ∃ j, m = e - j ∧ j0 ≤ j ∧ j ≤ e ∧ σ = mk j ∧ H2 = H, ⟨_, j0, rfl, Nat.le_refl _, hle, rfl, rfl⟩, ?_⟩
  rintro m σ H2 ⟨j, rfl, h0, h1, rfl, rfl⟩
  by_cases h : j < e
  · refine hy j h0 h _ (iteT ⟨fun σ' H' => σ' = mk (j + 1) ∧ H' = H2, ?_, hb j _ ⟨rfl, rfl⟩⟩)
    rintro σ' H' ⟨rfl, rfl⟩
    exact ⟨_, by omega, j + 1, rfl, by omega, h, rfl, rfl⟩
  · obtain rfl : j = e := by omega
    exact hn _ (iteF fin)
theorem ite_is {b c : Bool} {A B : Prop} (e : b = c) (h : if c = true then A else B) : if b = true then A else B := e ▸ h
/-- an exception of the class at C whose field f is an int -/
def Thrown (C : Addr) (f : Str) (j : Nat) (H : Hp) (E : XK) : Prop := ∀ d H', Same H H' → H' d = some (.xd [(f, .int (j : Int))]) → E (.ref C) (some d) H'
theorem op_mulSS {X : Cx} : OpR X (binaryOp .Mult) (fun x y H Q => ∃ z n, x = .str z ∧ y = .int n ∧ MulOk z n ∧ Q (.str (Txt.mul z n)) H) := by
  intro pins s σ H x y v u Q I rx ry h
  obtain ⟨z, n, rfl, rfl, hok, q⟩ := h
  obtain ⟨t, rfl⟩ := rx
  obtain ⟨k, rfl⟩ := ry
  exact SB.mul hok fun t' k' => ⟨.str _, H, I.tok k', ⟨t', rfl⟩, q⟩
theorem S_of (z : Str) : z = S z.cps.toList := by
  cases z with
  | mk c => show (⟨c⟩ : Str) = ⟨c.toList.toArray⟩; simp
def AllD (H : Hp) (ds : List Addr) : Prop := ∀ d ∈ ds, IsDice H d
def Fr (ds : List Addr) (H H' : Hp) : Prop := ∀ c o, c ∉ ds → H c = some o → H' c = some o
theorem Fr.of_same {ds : List Addr} {H H' : Hp} (s : Same H H') : Fr ds H H' := fun c o _ e => s c o e
theorem Fr.trans {ds : List Addr} {H H' H2 : Hp} (s : Fr ds H H') (t : Fr ds H' H2) : Fr ds H H2 := fun c o n e => t c o n (s c o n e)
theorem AllD.same {ds : List Addr} {H H' : Hp} (h : AllD H ds) (s : Same H H') : AllD H' ds := fun d hd => by
  obtain ⟨a, b, m, e⟩ := h d hd
  exact ⟨a, b, m, s _ _ e⟩
theorem nd_new {ds : List Addr} {H : Hp} {c : Addr} (h : AllD H ds) (e : H c = none) : c ∉ ds := fun hd => by
  obtain ⟨a, b, m, q⟩ := h c hd
  rw [e] at q
  cases q
theorem nd_tup {ds : List Addr} {H : Hp} {c : Addr} {xs : List V} (h : AllD H ds) (e : H c = some (.tup xs)) : c ∉ ds := fun hd => by
  obtain ⟨a, b, m, q⟩ := h c hd
  rw [e] at q
  cases q
theorem nd_refs {ds ps : List Addr} {H : Hp} {c : Addr} (h : AllD H ds) (e : H c = some (.lst (ps.map V.ref))) : c ∉ ds := fun hd => by
  obtain ⟨a, b, m, q⟩ := h c hd
  rw [e] at q
  cases ps with
  | nil => cases q
  | cons x r => cases q
theorem nd_strs {ds : List Addr} {L : List (List Nat)} {H : Hp} {c : Addr} (h : AllD H ds) (e : H c = some (.lst (L.map fun l => V.str (S l)))) : c ∉ ds := fun hd => by
  obtain ⟨a, b, m, q⟩ := h c hd
  rw [e] at q
  cases L with
  | nil => cases q
  | cons x r => cases q
theorem rollK {d : Addr} {ds : List Addr} {n : Int} {H : Hp} {P : Int → Hp → Prop} (hd : d ∈ ds) (hA : AllD H ds) (k : ∀ r H', 0 ≤ r → r < n → Fr ds H H' → AllD H' ds → P r H') :
    ∀ r H', 0 ≤ r → r < n → (∀ c o, c ≠ d → H c = some o → H' c = some o) → IsDice H' d → P r H' :=
  fun r H' r0 r1 hf hi => k r H' r0 r1 (fun c o hc e => hf c o (fun q => hc (by rw [q]; exact hd)) e) (fun x hx => by
    by_cases q : x = d
    · rw [q]; exact hi
    · obtain ⟨a, b, m, e⟩ := hA x hx
      exact ⟨a, b, m, hf x _ q e⟩)
theorem pick {L : List (List Nat)} {r : Int} (h0 : 0 ≤ r) (h1 : r < L.length) : ∃ l ∈ L, atI (L.map fun l => V.str (S l)) r = some (.str (S l)) := by
  obtain ⟨k, rfl⟩ : ∃ k : Nat, r = (k : Int) := ⟨r.toNat, by omega⟩
  have hk : k < L.length := by omega
  refine ⟨L[k], List.getElem_mem hk, atI_nat ?_⟩
  rw [List.getElem?_map, List.getElem?_eq_getElem hk]
  rfl
theorem ite_same {a b : Int} {A B : Prop} (e : a = b) (h : B) : if (!decide (V.int a = V.int b)) = true then A else B := by
  rw [decide_eq_true (by rw [e])]
  exact iteF h
theorem ite_kind {a b : Int} {A B : Prop} (h1 : a = b → A) (h2 : a ≠ b → B) : if decide (V.int a = V.int b) = true then A else B := by
  rw [dec_int]
  by_cases h : a = b
  · rw [decide_eq_true h]; exact iteT (h1 h)
  · rw [decide_eq_false h]; exact iteF (h2 h)
end EH

set_option Elab.async false
set_option linter.all false
set_option maxRecDepth 100000
set_option maxHeartbeats 4000000
namespace L2
open PySem PySem.Spec PyProof.Rows
theorem vals_at {Pv : Nat → V → Prop} : ∀ {ys : List V} {its : List Value}, ys.length = its.length → (∀ (i : Nat) (v : Value), its[i]? = some v → ∃ x : V, ys[i]? = some x ∧ RelV x v) → Vals ys its
  | [], [], _, _ => .nil
  | x :: ys, v :: its, hl, h => by
    obtain ⟨x', e, r⟩ := h 0 v rfl
    have ex : x = x' := Option.some.inj e
    subst ex
    exact .cons r (vals_at (Pv := Pv) (by simpa using hl) fun i v' hv => h (i + 1) v' hv)
  | [], _ :: _, hl, _ => by simp at hl
  | _ :: _, [], hl, _ => by simp at hl
theorem cr_range1 {X : Cx} : CallR X (.type "range") (fun vs H Q => ∃ i, vs = [V.int i] ∧ ∀ p, H p = none → Q (.ref p) (upd H p (.rng 0 i))) := by
  intro pins s σ H vs us Q I r h
  obtain ⟨i, rfl, q⟩ := h
  obtain ⟨u1, rfl, ri⟩ := vals1 r
  obtain ⟨t, rfl⟩ := ri
  refine call_range_1 ⟨.ref s.heap.objs.size, upd H s.heap.objs.size (.rng 0 i), I.laid (t' := s.toks + 1 + 1) (fun b o e => Heap.get?_push_of_some _ e) (Nat.le_refl _) ?_, rfl, q _ (I.hok.fresh (Nat.le_refl _))⟩
  exact ⟨s.toks, t, s.toks + 1, Heap.get?_push_size _ rfl⟩
/-- list(r), r a small range from 0 -/
theorem call_list_rng {X : Cx} (hc : X.calm = true) : CallR X (.type "list") (fun xs H Q => ∃ (p : Addr) (n : Nat), xs = [.ref p] ∧ H p = some (.rng 0 (n : Int)) ∧ n ≤ 1000 ∧ ∀ l, H l = none → Q (.ref l) (upd H l (.lst ((List.range n).map fun i : Nat => V.int (i : Int))))) := by
  intro pins s σ H xs us Q I r h
  obtain ⟨p, n, rfl, hp, hn, q⟩ := h
  obtain ⟨u, rfl, rx⟩ := vals1 r
  cases rx
  obtain ⟨t, u, v, e⟩ := (show ObjOk X.prog X.w H s.heap p (.rng 0 (n : Int)) from I.hok p _ hp)
  have hsz : Builtin.Range.rangeSize 0 (n : Int) 1 = (n : Int) := by rw [rangeSize_one]; split <;> omega
  refine call_list_range (n := n) (I.ok.hd hc) e (small_one (by omega) (by omega) (by omega) (by omega)) hsz (by omega) fun h' tk acc' c' hk e' hacc => ?_
  refine ⟨.ref s.heap.objs.size, _, I.laid (t' := tk) hk (Nat.le_refl _) (show ObjOk X.prog X.w _ h' _ (.lst ((List.range n).map fun i : Nat => V.int (i : Int))) from ⟨?_, acc'.toList, c', ?_, by simpa using e'⟩), rfl, q _ (I.hok.fresh (Nat.le_refl _))⟩
  · rw [List.length_map, List.length_range]
    exact Nat.le_trans hn (by decide)
  · refine vals_at (Pv := fun _ _ => True) (by rw [List.length_map, List.length_range]; simp [hacc.1]) fun i v hv => ?_
    obtain ⟨t, rfl⟩ := hacc.2 i v (by simpa using hv)
    have hi : i < n := by
      have := (List.getElem?_eq_some_iff.mp hv).1
      simpa [hacc.1] using this
    refine ⟨.int (i : Int), ?_, t, by simp⟩
    rw [List.getElem?_map, List.getElem?_range hi]
    rfl
/-- list(z), z a text -/
theorem call_list_txt {X : Cx} (hc : X.calm = true) : CallR X (.type "list") (fun xs H Q => ∃ l : List Nat, xs = [.str (EH.S l)] ∧ l.length ≤ 1000 ∧ ∀ p, H p = none → Q (.ref p) (upd H p (.lst (l.map fun c => V.str (EH.S [c]))))) := by
  intro pins s σ H xs us Q I r h
  obtain ⟨l, rfl, hn, q⟩ := h
  obtain ⟨u, rfl, rx⟩ := vals1 r
  obtain ⟨t, rfl⟩ := rx
  have hs : (EH.S l).cps.size = l.length := by show l.toArray.size = _; simp
  refine call_list_str (hn := by rw [hs]; exact Nat.le_trans hn (by decide)) (I.ok.hd hc) (EH.S l) t fun h' tk acc' c' hk e' hacc => ?_
  refine ⟨.ref s.heap.objs.size, _, I.laid (t' := tk) hk (Nat.le_refl _) (show ObjOk X.prog X.w _ h' _ (.lst (l.map fun c => V.str (EH.S [c]))) from ⟨?_, acc'.toList, c', ?_, by simpa using e'⟩), rfl, q _ (I.hok.fresh (Nat.le_refl _))⟩
  · rw [List.length_map]
    exact Nat.le_trans hn (by decide)
  · refine vals_at (Pv := fun _ _ => True) (by rw [List.length_map]; simp [hacc.1, hs]) fun i v hv => ?_
    obtain ⟨c, u, hc, rfl⟩ := hacc.2 i v (by simpa using hv)
    have hc' : l[i]? = some c := by simpa [EH.S] using hc
    refine ⟨.str (EH.S [c]), ?_, u, rfl⟩
    rw [List.getElem?_map, hc']
    rfl
end L2

set_option Elab.async false
set_option linter.all false
set_option maxRecDepth 100000
set_option maxHeartbeats 4000000
namespace EH
open PySem PySem.Spec PyProof.Rows L2 LamX
/-! a lambda handed to a def: all but the running def's own table of code objects stays -/
def ButP (P : Addr) (H H' : Hp) : Prop := ∀ b o, b ≠ P → H b = some o → H' b = some o
section
variable {X : Cx} {pins : List (Addr × Obj)} {σ : L2.St} {H : Hp} {s : Shared}
theorem not_frame {f : Addr} (I : Inv X pins σ H s) (hf : s.heap.objs.size ≤ f) : f ∉ frs X.stack := by
  intro z
  rcases List.mem_cons.mp (I.stkSub _ z) with e | e
  · have q := I.lt
    rw [← e] at q
    exact Nat.lt_irrefl f (Nat.lt_of_lt_of_le q hf)
  · exact I.nofs hf e
theorem lam_make3 {T : List (Addr × Str)} {c P : Addr} {params : Arguments} {body : Expr} {scope : Scope} {pos : Pos} {E Q : Value → Shared → Prop} (I : Inv X pins σ H s) (TB : LamX.TabB X.base X.mg c P) (hcode : X.env.code = .ref c)
    (hm : (P, X.env.qual ++ "<lambda>") ∈ T) (hu : ∀ p ∈ T, p.1 = P → p.2 = X.env.qual ++ "<lambda>") (hT : Tabs T H) (hdef : defaultsOf params X.env = ([], [])) (hfree : ∀ y ∈ scope.names, y.2 = .free → ∃ c, X.env.cells.lookup y.1 = some c)
    (h : ∀ (f c' : Addr) (pm ctv : Value) (H1 : Hp) (s' : Shared), Inv X pins σ H1 s' → ButP P H H1 → Tabs T H1 →
      s'.heap.get? f = some (PySem.W.kla_obj "<lambda>" (X.env.qual ++ "<lambda>") params body scope (cloFrom X.env.cells scope.names []) pm c' ctv) → H1 f = none → f ∉ frs X.stack → H1 c' = some (CodeO c' (X.env.qual ++ "<lambda>")) → Q (.ref f) s') :
    wpAny (model X.prog X.w) X.A (eval (.Lambda params body scope pos) X.env) Q E s := by
  have tab := hT _ hm
  obtain ⟨ps, hP, htr, hco⟩ := tab
  have stands := I.hok P _ hP
  have sP : s.heap.get? P = some { cls := .none, data := .fields ps } := stands
  refine PySem.W.kla_eval hdef ?_
  rcases hc : codeAmong pos ps.toList with _ | cv
  · refine PySem.W.kla_makeFunction (mg := X.mg) (c := c) (P := P) (ps := ps) (closure_ok hfree) I.ok.glob (I.mod.glob.keeps I.bk) hcode (TB.code.keeps I.bk) sP htr hc TB.gP (TB.bm.keeps I.bk) ?_
    intro c' ctv h' tk hx hge hlt hrec htb
    obtain ⟨c2, oc, vs, t, e2, hoc, hd, hv⟩ := hrec
    cases e2
    have nC : H c' = none := I.hok.fresh hge
    have big : s.heap.objs.size ≤ h'.objs.size := by omega
    have J := inv_table (t' := tk) (more := #[rawInt pos.line, rawInt pos.col, .ref c']) (h' := h'.push (PySem.W.kla_obj "<lambda>" (X.env.qual ++ "<lambda>") params body scope (cloFrom X.env.cells scope.names []) ((X.mg "__name__").getD .none) c' ctv)) I hP (fun b o hb e => Heap.get?_push_of_some _ (hx b o hb e)) (Heap.get?_push_of_some _ htb) hge ⟨oc, vs, t, Heap.get?_push_of_some _ hoc, hd, hv⟩
    have keep : ButP P H (upd (upd H P (.tbl (ps ++ #[rawInt pos.line, rawInt pos.col, .ref c']))) c' (CodeO c' (X.env.qual ++ "<lambda>"))) := fun b o n e => by
      rw [upd_ne (ne_of_none e nC), upd_ne n]
      exact e
    have notP : ∀ {d : Addr} {q : Str}, H d = some (CodeO d q) → d ≠ P := fun e z => by
      rw [z, hP] at e
      exact codeO_ne ps (Option.some.inj e).symm
    have atEnd : (ps ++ #[rawInt pos.line, rawInt pos.col, .ref c']).toList = ps.toList ++ [rawInt pos.line, rawInt pos.col, .ref c'] := by simp
    refine h h'.objs.size c' _ ctv _ _ J keep ?_ (Heap.get?_push_size _ rfl) ?_ (not_frame I big) upd_same
    · rintro ⟨p1, p2⟩ hp
      by_cases hb : p1 = P
      · have e2 : p2 = X.env.qual ++ "<lambda>" := hu _ hp hb
        subst hb e2
        refine ⟨ps ++ #[rawInt pos.line, rawInt pos.col, .ref c'], (upd_ne (ne_of_none hP nC)).trans upd_same, by rw [atEnd]; exact PySem.TriplesOk_snoc _ _ _ _ htr, ?_⟩
        intro p' w hw
        rw [atEnd] at hw
        rcases among_app _ htr hw with z | z
        · obtain ⟨c0, e1, e2⟩ := hco p' w z
          exact ⟨c0, e1, keep _ _ (notP e2) e2⟩
        · exact ⟨c', z, upd_same⟩
      · obtain ⟨qs, a1, a2, a3⟩ := hT _ hp
        refine ⟨qs, keep _ _ hb a1, a2, fun p' w hw => ?_⟩
        obtain ⟨c0, e1, e2⟩ := a3 p' w hw
        exact ⟨c0, e1, keep _ _ (notP e2) e2⟩
    · have n1 : h'.objs.size ≠ c' := by omega
      have n2 : h'.objs.size ≠ P := Nat.ne_of_gt (Nat.lt_of_lt_of_le (Heap.lt_size sP) big)
      rw [upd_ne n1, upd_ne n2]
      exact I.hok.fresh big
  · obtain ⟨c', rfl, known⟩ := hco pos cv hc
    refine PySem.W.kla_makeFunctionHit (mg := X.mg) (c := c) (P := P) (ps := ps) (closure_ok hfree) I.ok.glob (I.mod.glob.keeps I.bk) hcode (TB.code.keeps I.bk) sP htr hc (TB.bm.keeps I.bk) ?_
    intro ctv h' tk hx hsz
    exact h h'.objs.size c' _ ctv H _ (I.kept fun b o e => Heap.get?_push_of_some _ (hx b o e)) (fun _ _ _ e => e) hT (Heap.get?_push_size _ rfl) (I.hok.fresh hsz) (not_frame I hsz) known
end
/-- x(lambda: body) -/
def tLam3 (P : Addr) (T : List (Addr × Str)) (TT : (XK → Hp → VK → Prop) → Hp → VK → Prop) (t : XK → TE) : TE := fun σ H Q => Tabs T H ∧ ∀ H1, ButP P H H1 → Tabs T H1 → TT (fun E H' Q' => t E σ H' Q') H1 Q
theorem pe_lamcall3 {X : Cx} {T : List (Addr × Str)} {TT : (XK → Hp → VK → Prop) → Hp → VK → Prop} {x a : Str} {g c P : Addr} {k : Nat} {pg : Arguments} {bg : List Stmt} {sg : Scope} {dV kV doc pm cdv ct oc : Value} {an od : Option Addr} {osl : Array (Option Value)} {Ng : List Str}
    {params : Arguments} {body : Expr} {scope : Scope} {t : XK → TE} {p lpos pos : Pos} (hg : Gl X x) (hm : X.mg x = some (.ref g)) (hk : PySem.W.keepIn X.K (.ref g) = true)
    (lk : X.K.lookup g = some ⟨oc, od, .func (PySem.W.fnOf x x pg bg sg dV kV doc pm an cdv ct), osl⟩) (hcg : PySem.W.codeIn X.K cdv x = true) (hb : L2.Binds X.K (PySem.W.fnOf x x pg bg sg dV kV doc pm an cdv ct) [a] []) (Sg : FnScope Ng [a] sg) (hNg : Ng[0]? = some a) (hva : Vis sg a)
    (hG : GivesTo X Ng x sg g cdv bg a (X.env.qual ++ "<lambda>") TT) (TB : LamX.TabB X.base X.mg c P) (hcode : X.env.code = .ref c) (hmT : (P, X.env.qual ++ "<lambda>") ∈ T) (hu : ∀ p ∈ T, p.1 = P → p.2 = X.env.qual ++ "<lambda>") (hr : Room (k + 2) X.A)
    (L : LamS X.env.scope scope) (hdef : defaultsOf params X.env = ([], [])) (hbind : ∀ (q : Str) (cl : List (Str × Addr)) (pm cv ctv : Value), bindArgs (PySem.W.kla_fn "<lambda>" q params body scope cl pm cv ctv) ⟨[], []⟩ = pure [])
    (hbody : ∀ (A : Around) (outer : List Env) (s : Shared) (H : Hp) (E : XK) (f c' : Addr), Room k (A.deeper (lamEnv X scope s.heap.objs.size f c')) → PE (lamCx X A outer s H E scope f c') body (t E))
    (hdb : (x == ("__debug__" : Str)) = false := by decide) (hd : (a == ("__debug__" : Str)) = false := by decide) (hcd : (a == ("__classdict__" : Str)) = false := by decide) :
    PE X (.Call (.Name x p) [.Lambda params body scope lpos] [] pos) (tLam3 P T TT t) := by
  constructor
  rintro pins s σ H Q I ⟨hT, h⟩
  refine wpAny_Call_Name_kw (ld_glob I hg hm ?_ hdb)
  refine PySem.W.callWith_K (h₀ := X.base) I.ok.mod.kin hk ?_ (by rfl) (by rfl)
  refine Calls.spliced_cons (lam_make3 I TB hcode hmT hu hT hdef (L.has I.ok) ?_)
  intro f c' pm' ctv H1 s' J keep T1 hf hfn hfr hco
  refine Calls.spliced_nil ⟨J.kIn, ?_⟩
  have told : codeAny (model X.prog X.w) X.A (.call (.ref g) ⟨[.ref f], []⟩) (CR C8.CX0 X.stack X.prog X.w H1 s' Q C8.E0) s' := by
    refine run_ofS (N := Ng) (ps := [a]) (us := [.ref f]) (vs := [.ref f]) lk hcg Sg hr J.env0 (hb s' [.ref f] J.kIn rfl) (.cons rfl .nil) rfl ?_
    intro hr'
    obtain ⟨t', ht', hq'⟩ := hG f c' s' H1 Q (fun E H' Q' => t E σ H' Q') (fun W pn xe E p1 p2 tk hW => pe_act (i := 0) J L hf hfn hfr (hbind _ _ _ _ _) tk hW hr' (fun A outer s H hr2 => hbody A outer s H E f c' hr2) hNg hva hd hcd) hco (h H1 keep T1)
    exact ⟨t', ht'.nox, hq'⟩
  refine wpAny_call (codeAny_mono told ?_)
  rintro (e | fl) s2 hq
  · exact (show False from hq).elim
  · cases fl with
    | ret u => exact J.after hq
    | next => exact hq.elim
    | brk => exact hq.elim
    | cont => exact hq.elim
end EH

set_option Elab.async false
set_option linter.all false
set_option maxRecDepth 100000
set_option maxHeartbeats 4000000
namespace EH
open PySem PySem.Spec PyProof.Rows L2
/-! an instance is itself: == and != of one instance of a class over object -/
def CmpK (K : PySem.W.Frag) (C : Addr) : Prop := ∃ (nm q : Str) (N : Addr) (bs : List Value) (hd : Bool) (sn : List Str) (sub : List Value) (ab : Bool) (col : Option Bool) (dd : Option Addr) (k0 k1 k2 k3 k5 : Option Value) (nid : String),
  K.lookup C = some (excClassObj nm q C N bs [.type "object"] hd sn sub ab col dd k0 k1 k2 k3 k5 nid) ∧ PySem.W.nsOkIn K N = true ∧ PySem.W.nsIn K N "__eq__" = some none ∧ PySem.W.nsIn K N "__ne__" = some none
theorem cmp_inst {X : Cx} {pins : List (Addr × Obj)} {σ : L2.St} {H : Hp} {s : Shared} {a C dx : Addr} {fs : List (Str × V)} (I : Inv X pins σ H s) (ha : H a = some (.ins C dx fs)) (c : CmpK X.K C) : s.heap.CmpInst a C [.type "object"] := by
  obtain ⟨nm, q, N, bs, hd, sn, sub, ab, col, dd, k0, k1, k2, k3, k5, nid, lk, ok, e1, e2⟩ := c
  obtain ⟨mA, O, _⟩ := ins_get I.hok ha
  have h1 := O.obj
  exact ⟨_, nm, q, N, bs, hd, sn, sub, ab, col, dd, k0, k1, k2, k3, k5, nid, s.heap.nsMap N, h1, rfl, I.kIn _ _ lk, .of_isNs (PySem.W.isNs_of_in I.kIn ok), PySem.W.nsMap_none_of_in I.kIn ok e1, PySem.W.nsMap_none_of_in I.kIn ok e2⟩
theorem op_eqI {X : Cx} (hu : X.A.units < cLine) : OpR X (compareOp .Eq) (fun x y H Q => ∃ a C dx fs, x = .ref a ∧ y = .ref a ∧ H a = some (.ins C dx fs) ∧ CmpK X.K C ∧ Q (.bl true) H) := by
  intro pins s σ H x y v u Q I rx ry h
  obtain ⟨a, C, dx, fs, rfl, rfl, ha, c, q⟩ := h
  cases rx
  cases ry
  obtain ⟨hp, g, d, t, os⟩ := s
  exact compareOp_eq_same F.cmp_object (cmp_inst I ha c) hu ⟨.bl true, H, I, rfl, q⟩
theorem op_neI {X : Cx} (hu : X.A.units + 1 < cLine) : OpR X (compareOp .NotEq) (fun x y H Q => ∃ a C dx fs, x = .ref a ∧ y = .ref a ∧ H a = some (.ins C dx fs) ∧ CmpK X.K C ∧ Q (.bl false) H) := by
  intro pins s σ H x y v u Q I rx ry h
  obtain ⟨a, C, dx, fs, rfl, rfl, ha, c, q⟩ := h
  cases rx
  cases ry
  obtain ⟨hp, g, d, t, os⟩ := s
  exact compareOp_ne_same F.cmp_object (cmp_inst I ha c) hu ⟨.bl false, H, I, rfl, q⟩
def cmpB (K : PySem.W.Frag) (C : Addr) : Bool := match K.lookup C with
  | some ⟨.type ty, _, .cls cd, sl⟩ => decide (ty = "type") && (decide (cd.mro = [.ref C, .type "object"]) && (!cd.hasDel && ((match sl.toList with
    | [_, _, _, _, some (.builtin _), _] => true
    | _ => false) && (PySem.W.nsOkIn K cd.ns && (decide (PySem.W.nsIn K cd.ns "__eq__" = some none) && decide (PySem.W.nsIn K cd.ns "__ne__" = some none))))))
  | _ => false
theorem cmpB_ok {K : PySem.W.Frag} {C : Addr} (h : cmpB K C = true) : CmpK K C := by
  unfold cmpB at h
  cases q : K.lookup C with
  | none => rw [q] at h; cases h
  | some o =>
    obtain ⟨oc, od, dt, osl⟩ := o
    rw [q] at h
    cases oc with
    | type ty =>
      cases dt with
      | cls cd =>
        obtain ⟨nm, bs, mro, ns, qn, hd, sn, sub, ab, col, del⟩ := cd
        obtain ⟨h1, h⟩ := Bool.and_eq_true_iff.mp h
        obtain ⟨h2, h⟩ := Bool.and_eq_true_iff.mp h
        obtain ⟨h3, h⟩ := Bool.and_eq_true_iff.mp h
        obtain ⟨h4, h⟩ := Bool.and_eq_true_iff.mp h
        obtain ⟨h5, h⟩ := Bool.and_eq_true_iff.mp h
        obtain ⟨h6, h7⟩ := Bool.and_eq_true_iff.mp h
        have g1 : ty = "type" := of_decide_eq_true h1
        have g2 : mro = [.ref C, .type "object"] := of_decide_eq_true h2
        have g3 : del = false := by cases del <;> simp_all
        have g6 := of_decide_eq_true h6
        have g7 := of_decide_eq_true h7
        clear h1 h2 h3 h6 h7
        subst g1 g2 g3
        obtain ⟨l⟩ := osl
        match l, h4 with
        | [k0, k1, k2, k3, some (.builtin n), k5], _ => exact ⟨nm, qn, ns, bs, hd, sn, sub, ab, col, od, k0, k1, k2, k3, k5, n, q, h5, g6, g7⟩
      | _ => cases h
    | _ => cases dt <;> cases h
end EH

set_option Elab.async false
set_option linter.all false
set_option maxRecDepth 100000
set_option maxHeartbeats 4000000
namespace EH
open PySem PySem.Spec PyProof.Rows L2
def top (i : Nat) : Stmt := PySem.Challenge.pw_enginehall_k08_own_functions.main.body.getD i (.Pass ⟨0, 0, 0, 0⟩)
abbrev sDice : Stmt := top 28
abbrev sRoll : Stmt := top 29
abbrev sRounds : Stmt := top 30
section
variable {P : Program} {w : World} {K : PySem.W.Frag} {mg : Str → Option Value} {base : Heap} {f fD : Addr} {fd fdD : FuncData}
theorem scDice : FnScope ["cell"] ["cell"] (defScope sDice) := ⟨rfl, rfl, rfl, by decide +kernel, rfl, by decide +kernel, by decide +kernel⟩
theorem ok_dice (F : FnP K "_law_dice" sDice f fd) (zAbs : mg "abs" = none) (zInt : mg "int" = none) : FnOk P w K mg base CX0 1 f fd ["cell"] spDice := by
  refine F.ok scDice (fun vs H Q E h => ?_) (fun cdv A outer s H vs Q E hr h => ?_)
  · obtain ⟨c, rfl, _⟩ := h
    rfl
  · obtain ⟨c, rfl, k⟩ := h
    refine ⟨_, pss_cons (ps_if (pt_chain op_lt op_lt (pe_op op_sub pe_int pe_int) (pv 0) pe_int)
      (pss_one (ps_ret (pe_lst (pa_cons (pe_callB call_abs (by rfl) zAbs (by decide +kernel) (pa_cons (pv 0) pa_nil)) (pa_cons pe_int (pa_cons pe_int pa_nil))))))
      pss_nil)
    (pss_one (ps_ret (pe_lst (pa_cons (pv 0) (pa_cons (pe_op op_add pe_int (pe_op op_mod (pe_callTy call_int1 (by rfl) zInt (by decide +kernel) (pa_cons (pv 0) pa_nil)) pe_int)) (pa_cons (pe_callTy call_int1 (by rfl) zInt (by decide +kernel) (pa_cons (pe_cmpR op_ge (pv 0) (pe_op op_pow pe_int pe_int) (nomark _)) pa_nil)) pa_nil)))))), ?_⟩
    have fin : ∀ (a b m : Int), ∀ p, H p = none → Q (.ref p) (upd H p (.lst [.int a, .int b, .int m])) := fun a b m p hp => k p _ hp (same_new hp) ⟨a, b, m, upd_same⟩
    refine ⟨0, 10, rfl, rfl, _, rfl, _, _, rfl, rfl, _, rfl, ?_⟩
    refine ite2 (fun _ => ?_) (fun _ => ?_)
    · refine ⟨_, _, rfl, rfl, _, rfl, ?_⟩
      refine ite2 (fun _ => ?_) (fun _ => ?_)
      · refine ⟨_, rfl, c, rfl, ?_⟩
        exact ⟨szS (by show 3 ≤ 100000; decide), fin _ _ _⟩
      · refine ⟨_, rfl, _, rfl, Or.inl ⟨c, rfl, c, 1009, rfl, rfl, (by show (0 : Int) < 1009; decide), _, _, rfl, rfl, ?_⟩⟩
        refine ⟨_, rfl, 10, 18, rfl, rfl, ⟨by decide, by decide, by decide⟩, _, _, rfl, rfl, Or.inr ⟨_, rfl, ?_⟩⟩
        exact ⟨szS (by show 3 ≤ 100000; decide), fin _ _ _⟩
    · refine ⟨_, rfl, ?_⟩
      refine iteF ?_
      refine ⟨_, rfl, _, rfl, Or.inl ⟨c, rfl, c, 1009, rfl, rfl, (by show (0 : Int) < 1009; decide), _, _, rfl, rfl, ?_⟩⟩
      refine ⟨_, rfl, 10, 18, rfl, rfl, ⟨by decide, by decide, by decide⟩, _, _, rfl, rfl, Or.inr ⟨_, rfl, ?_⟩⟩
      exact ⟨szS (by show 3 ≤ 100000; decide), fin _ _ _⟩
theorem scRoll : FnScope ["dice", "many", "found"] ["dice", "many"] (defScope sRoll) := ⟨rfl, rfl, rfl, by decide +kernel, rfl, by decide +kernel, by decide +kernel⟩
theorem ok_roll (F : FnP K "_law_roll" sRoll f fd) (zInt : mg "int" = none) : FnOk P w K mg base CX0 1 f fd ["dice", "many"] spRoll := by
  refine F.ok scRoll (fun vs H Q E h => ?_) (fun cdv A outer s H vs Q E hr h => ?_)
  · obtain ⟨c, n, rfl, _⟩ := h
    rfl
  · obtain ⟨d, n, rfl, ⟨a, b, m, hd⟩, hn, hn2, k⟩ := h
    refine ⟨_, pss_cons (ps_if (pw_or (pt_cmpR op_eq (pe_ix ix_list (pv 0) pe_int (fun _ _ => rfl)) pe_int (nomark _)) (pw_or1 (pw_and (pt_cmpR op_eq (pe_ix ix_list (pv 0) pe_int (fun _ _ => rfl)) pe_int (nomark _)) (pw_and1 (pt_cmpR op_gt (pe_ix ix_list (pv 0) pe_int (fun _ _ => rfl)) pe_int (nomark _)))).pt)).pt
      (pss_cons (ps_set (i := 2) scRoll.nd rfl (Or.inl rfl) (pe_op op_mod (pe_callTy call_int1 (by rfl) zInt (by decide +kernel) (pa_cons (pe_ix ix_list (pv 0) pe_int (fun _ _ => rfl)) pa_nil)) (pv 1)))
      (pss_cons (ps_asg (pe_op op_fdiv (pe_ix ix_list (pv 0) pe_int (fun _ _ => rfl)) (pv 1)) (pg_sub (pv 0) pe_int set_list))
      (pss_one (ps_ret (pv 2)))))
      pss_nil)
    (pss_cons (ps_asg pe_int (pg_sub (pv 0) pe_int set_list))
    (pss_cons (ps_asg (pe_op op_mod (pe_callTy call_int1 (by rfl) zInt (by decide +kernel) (pa_cons (pe_op op_add (pe_op op_add (pe_op op_mul (pe_ix ix_list (pv 0) pe_int (fun _ _ => rfl)) pe_int) (pe_op op_mul (pe_ix ix_list (pv 0) pe_int (fun _ _ => rfl)) pe_int)) pe_int) pa_nil)) pe_int) (pg_sub (pv 0) pe_int set_list))
    (pss_cons (ps_asg (pe_op op_add (pe_ix ix_list (pv 0) pe_int (fun _ _ => rfl)) pe_int) (pg_sub (pv 0) pe_int set_list))
    (pss_one (ps_ret (pe_op op_mod (pe_callTy call_int1 (by rfl) zInt (by decide +kernel) (pa_cons (pe_op op_add (pe_op op_fdiv (pe_ix ix_list (pv 0) pe_int (fun _ _ => rfl)) pe_int) (pe_ix ix_list (pv 0) pe_int (fun _ _ => rfl))) pa_nil)) (pv 1))))))), ?_⟩
    have hu := hu_of hr
    have fin : ∀ (a b m x : Int), Q (.int (x % n)) (upd H d (.lst [.int a, .int b, .int m])) := fun a b m x =>
      k _ _ (Int.emod_nonneg _ (by omega)) (Int.emod_lt_of_pos _ hn) (fun c o hc e => by rw [upd_ne hc]; exact e) ⟨a, b, m, upd_same⟩
    have at0 : ∀ (H' : Hp) (a b m : Int), H' d = some (.lst [.int a, .int b, .int m]) → SqL K H' d [.int a, .int b, .int m] := fun H' a b m e => Or.inl (Or.inl e)
    have ix : ∀ (H' : Hp) (a b m : Int) (i : Int) (Q' : VK) (x : V), H' d = some (.lst [.int a, .int b, .int m]) → atI [V.int a, .int b, .int m] i = some x → Q' x H' → rIxL K (.ref d) (.int i) H' Q' := fun H' a b m i Q' x e ea q =>
      ⟨d, _, i, x, rfl, rfl, Or.inl (Or.inl e), ea, q⟩
    refine if_any (fun Q' q1 q2 => ?_) ?_ ?_
    · refine ⟨_, rfl, d, _, _, _, rfl, rfl, at0 _ _ _ _ hd, rfl, rfl, _, rfl, ?_⟩
      refine ite2 (fun _ => q1) (fun _ => ?_)
      refine ⟨_, rfl, d, _, _, _, rfl, rfl, at0 _ _ _ _ hd, rfl, rfl, _, rfl, ?_⟩
      refine ite2 (fun _ => ?_) (fun _ => q2)
      refine ⟨_, rfl, d, _, _, _, rfl, rfl, at0 _ _ _ _ hd, rfl, _, _, rfl, rfl, _, rfl, ?_⟩
      exact anyb q1 q2 _
    · refine ⟨_, rfl, d, _, _, _, rfl, rfl, at0 _ _ _ _ hd, rfl, Or.inl ⟨_, rfl, _, rfl, _, _, rfl, rfl, hn, ?_⟩⟩
      refine ⟨_, rfl, d, _, _, _, rfl, rfl, at0 _ _ _ _ hd, rfl, _, rfl, _, _, rfl, rfl, ⟨hn, by omega⟩, ?_⟩
      refine ⟨_, rfl, d, _, 0, 0, rfl, rfl, hd, rfl, _, rfl, ?_⟩
      exact fin _ _ _ _
    · refine ⟨_, rfl, d, _, 2, 2, rfl, rfl, hd, rfl, ?_⟩
      have e1 : (upd H d (.lst [V.int a, .int b, .int 0])) d = some (.lst [V.int a, .int b, .int 0]) := upd_same
      refine ⟨_, rfl, d, _, _, _, rfl, rfl, at0 _ _ _ _ e1, rfl, _, _, rfl, rfl, Or.inr ⟨by decide, by decide⟩, ?_⟩
      refine ⟨_, rfl, d, _, _, _, rfl, rfl, at0 _ _ _ _ e1, rfl, _, _, rfl, rfl, Or.inr ⟨by decide, by decide⟩, ?_⟩
      refine ⟨_, _, rfl, rfl, _, _, rfl, rfl, Or.inl ⟨_, rfl, _, _, rfl, rfl, (by show (0 : Int) < 2147483647; decide), ?_⟩⟩
      refine ⟨_, rfl, d, _, 0, 0, rfl, rfl, e1, rfl, ?_⟩
      rw [upd_upd]
      have e2 : ∀ a b m : Int, (upd H d (.lst [V.int a, .int b, .int m])) d = some (.lst [V.int a, .int b, .int m]) := fun _ _ _ => upd_same
      refine ⟨_, rfl, d, _, _, _, rfl, rfl, at0 _ _ _ _ (e2 _ _ _), rfl, _, _, rfl, rfl, ?_⟩
      refine ⟨_, rfl, d, _, 1, 1, rfl, rfl, e2 _ _ _, rfl, ?_⟩
      rw [upd_upd]
      refine ⟨_, rfl, d, _, _, _, rfl, rfl, at0 _ _ _ _ (e2 _ _ _), rfl, _, _, rfl, rfl, ⟨by decide, by decide⟩, ?_⟩
      refine ⟨_, rfl, d, _, _, _, rfl, rfl, at0 _ _ _ _ (e2 _ _ _), rfl, _, _, rfl, rfl, Or.inl ⟨_, rfl, _, rfl, _, _, rfl, rfl, hn, ?_⟩⟩
      exact fin _ _ _ _
theorem scRounds : FnScope ["script", "most", "cells", "cell"] ["script", "most"] (defScope sRounds) := ⟨rfl, rfl, rfl, by decide +kernel, rfl, by decide +kernel, by decide +kernel⟩
theorem ok_rounds (F : FnP K "_law_rounds" sRounds f fd) (FD : FnP K "_law_dice" sDice fD fdD) (mD : mg "_law_dice" = some (.ref fD)) (bD : Binds K fdD ["cell"] []) (GD : FnOk P w K mg base CX0 1 fD fdD ["cell"] spDice) :
    FnOk P w K mg base CX0 2 f fd ["script", "most"] (spRounds K) := by
  refine F.ok scRounds (fun vs H Q E h => ?_) (fun cdv A outer s H vs Q E hr h => ?_)
  · obtain ⟨a, ns, n, rfl, _⟩ := h
    rfl
  · obtain ⟨a, ns, n, rfl, hS, hl, hn1, hn2, k⟩ := h
    have hu := hu_of hr
    have hu64 : (A.deeper (envOfC "_law_rounds" (defScope sRounds) s.heap.objs.size f cdv)).units + 64 < cLine := hr.units
    refine ⟨_, pss_cons (ps_set (i := 2) scRounds.nd rfl (Or.inl rfl) (pe_slice sl_list (pv 0) po_none (po_some (pv 1))))
    (pss_cons (ps_if (pt_cmpR (op_eqD hu64) (pv 2) (pe_lst pa_nil) (nomark _))
      (pss_one (ps_set (i := 2) scRounds.nd rfl (Or.inl rfl) (pe_lst (pa_cons pe_int pa_nil))))
      pss_nil)
    (pss_one (ps_ret (pe_lc (own := [("cell", 3)]) (g := gName 3) (tt := tYes) rfl scRounds.nd (pi_list (pv 2)) (blkOk_by (N := ["script", "most", "cells", "cell"]) (sc := defScope sRounds) (by decide +kernel)) (fun _ _ _ _ _ => pg_name (i := 3) scRounds.nd rfl (Or.inl rfl)) (fun _ _ _ _ _ => pts_nil) (fun _ _ _ _ _ => pe_call GD hr rfl mD FD.kp bD .nil pass0 (pa_cons (pv 3) pa_nil)))))), ?_⟩
    refine ⟨_, rfl, _, rfl, _, rfl, a, _, rfl, hS, fun c hc => ?_⟩
    obtain ⟨ms, ec, hms⟩ := cut_ints ns none (some n)
    rw [ec]
    have after : ∀ (cs : List Int) (b : Addr) (H1 : Hp), cs.length ≤ 63 → Same H H1 → H1 b = some (.lst (cs.map V.int)) →
        tRet (tLc (iList K (tVar 2)) (gName 3) tYes (tCall spDice [] E0 (tCons (tVar 3) tNil)) [3]) { nx := fun _ H' => Q .non H', rt := Q } [some (.ref a), some (.int n), some (.ref b), none] H1 := fun cs b H1 hcs s1 hb => by
      refine ⟨_, rfl, b, rfl, ⟨_, Or.inl (Or.inl hb)⟩, fun D hD => ?_⟩
      refine lc_list (K := K) (a := b) (xs := cs.map V.int) (fun i H2 => ∃ ds : List Addr, ds.length = i ∧ Same H1 H2 ∧ H2 D = some (.lst (ds.map V.ref)) ∧ ∀ d ∈ ds, d ≠ D ∧ H1 d = none ∧ IsDice H2 d) ?_ ?_ ?_ ?_
      · exact ⟨[], rfl, same_new hD, upd_same, fun d hd => absurd hd (List.not_mem_nil)⟩
      · rintro i H2 _ ⟨ds, _, s2, _⟩
        exact Or.inl (Or.inl (s2 _ _ hb))
      · rintro i x H2 hx ⟨ds, rfl, s2, h2, hds⟩
        obtain ⟨z, rfl⟩ : ∃ z, x = V.int z := by
          rw [List.getElem?_map] at hx
          cases e : cs[ds.length]? with
          | none => rw [e] at hx; cases hx
          | some z => rw [e] at hx; exact ⟨z, (Option.some.inj hx).symm⟩
        have hlt : ds.length < cs.length := by
          have := (List.getElem?_eq_some_iff.mp hx).1
          rwa [List.length_map] at this
        refine ⟨rfl, ?_⟩
        refine ⟨_, rfl, z, rfl, fun p H3 hp s3 hdi => ?_⟩
        have npD : p ≠ D := fun e => by rw [e, h2] at hp; cases hp
        refine ⟨_, s3 _ _ h2, ?_, ds ++ [p], by simp, fun b' o e => ?_, ?_, fun d hd => ?_⟩
        · rw [List.length_map]
          exact small1000 (by omega)
        · rw [upd_ne (ne_of_none e hD)]
          exact s3 _ _ (s2 _ _ e)
        · rw [upd_same, List.map_append]
          rfl
        · rcases List.mem_append.mp hd with hd | hd
          · obtain ⟨n1, n2, a', b', m', n3⟩ := hds d hd
            exact ⟨n1, n2, a', b', m', by rw [upd_ne n1]; exact s3 _ _ n3⟩
          · obtain rfl := List.mem_singleton.mp hd
            obtain ⟨a', b', m', n3⟩ := hdi
            exact ⟨npD, s2.free hp, a', b', m', by rw [upd_ne npD]; exact n3⟩
      · rintro H2 ⟨ds, hl2, s2, h2, hds⟩
        rw [List.length_map] at hl2
        exact k D H2 ds (s1.free hD) (s1.trans s2) h2 (fun d hd => ⟨(hds d hd).1, s1.free (hds d hd).2.1, (hds d hd).2.2⟩) (by omega)
    refine ⟨_, rfl, szS (by decide), fun e he => ?_⟩
    have s1 : Same H (upd H c (.lst (ms.map V.int))) := same_new hc
    have nce : c ≠ e := fun q => by rw [← q, upd_same] at he; cases he
    have s2 : Same H (upd (upd H c (.lst (ms.map V.int))) e (.lst [])) := s1.trans (same_new he)
    have hc2 : (upd (upd H c (.lst (ms.map V.int))) e (.lst [])) c = some (.lst (ms.map V.int)) := by rw [upd_ne nce, upd_same]
    refine ⟨.list (ms.map PyData.int), .list [], .lst (Or.inl (Or.inl hc2)) dpAll_ints, .lst (Or.inl (Or.inl upd_same)) .nil, shaped_ints ms, by decide +kernel, _, rfl, ?_⟩
    cases ms with
    | nil =>
      refine iteT ?_
      refine ⟨szS (by show 1 ≤ 100000; decide), fun q hq => ?_⟩
      exact after [0] q _ (by decide) (s2.trans (same_new hq)) upd_same
    | cons y r =>
      refine iteF ?_
      exact after (y :: r) c _ (by omega) s2 hc2
end
end EH

set_option Elab.async false
set_option linter.all false
set_option maxRecDepth 100000
set_option maxHeartbeats 4000000
namespace EH
open PySem PySem.Spec PyProof.Rows L2
/-! ### the classes -/
structure CC where
  I : Addr
  T : Addr
  B : Addr
  K : Addr
  G : Addr
def tyL (c : CC) : List Value := [.type "NoneType", .type "bool", .type "int", .type "str", .ref c.I, .ref c.T, .ref c.K, .ref c.G, .ref c.B]
def tyU (c : CC) : List Value := [.type "bool", .type "int", .type "str", .ref c.I, .ref c.T, .ref c.K, .ref c.G, .ref c.B]
structure InsK (K : PySem.W.Frag) (C : Addr) : Prop where
  cl : Cls K C
  ha : PySem.W.findIn K (.ref C) "__class__" = some (some (.builtin "object.__class__"))
  hn : PySem.W.specialIn K (.builtin "object.__class__") "__get__" = some (some (.builtin "getset_descriptor.__get__"))
  htk : PySem.W.takesIn K (.builtin "object.__class__") = some true
  hm : PySem.W.mroIn K C (.type "object") = some true
theorem InsK.ty {K : PySem.W.Frag} {C : Addr} (k : InsK K C) {H : Hp} {a dx : Addr} {fs : List (Str × V)} (e : H a = some (.ins C dx fs)) : TyOf K H (.ref a) (.ref C) := .ins e k.cl k.ha k.hn k.htk k.hm
structure TG (K : PySem.W.Frag) (mg : Str → Option Value) (c : CC) (tM tL tN : Tok) (fK : Addr) (dK : FuncData) : Prop where
  iI : InsK K c.I
  iT : InsK K c.T
  iB : InsK K c.B
  iK : InsK K c.K
  iG : InsK K c.G
  aI : NoAttr K c.I "row"
  aT : NoAttr K c.T "row"
  aB1 : NoAttr K c.B "method"
  aB2 : NoAttr K c.B "owner"
  aK1 : NoAttr K c.K "label"
  aK2 : NoAttr K c.K "base"
  aK3 : NoAttr K c.K "methods"
  aG1 : NoAttr K c.G "kind"
  aG2 : NoAttr K c.G "fields"
  nd : [c.I, c.T, c.B, c.K, c.G].Nodup
  kt : ∀ t ∈ tyL c, ∀ u ∈ tyU c, ¬ (t = .type "bool" ∧ u = .type "int") → PySem.W.kitOne K t u = some (decide (t = u))
  zIsi : mg "isinstance" = none
  zLen : mg "len" = none
  zBool : mg "bool" = none
  zInt : mg "int" = none
  zStr : mg "str" = none
  mItems : mg "Items" = some (.ref c.I)
  mTable : mg "Table" = some (.ref c.T)
  mBound : mg "Bound" = some (.ref c.B)
  mKind : mg "Kind" = some (.ref c.K)
  mThing : mg "Thing" = some (.ref c.G)
  mMOST : mg "MOST" = some (.int 1000000000000 tM)
  mLONG : mg "LONG" = some (.int 2000 tL)
  mMANY : mg "MANY" = some (.int 500 tN)
theorem TG.kit {K : PySem.W.Frag} {mg : Str → Option Value} {c : CC} {tM tL tN : Tok} {fK : Addr} {dK : FuncData} (G : TG K mg c tM tL tN fK dK) {t u : Value} {b : Bool} (h1 : t ∈ tyL c) (h2 : u ∈ tyU c) (h3 : ¬ (t = .type "bool" ∧ u = .type "int")) (e : decide (t = u) = b) : PySem.W.kitOne K t u = some b := by
  rw [← e]
  exact G.kt t h1 u h2 h3
theorem TG.ne {K : PySem.W.Frag} {mg : Str → Option Value} {c : CC} {tM tL tN : Tok} {fK : Addr} {dK : FuncData} (G : TG K mg c tM tL tN fK dK) : c.I ≠ c.T ∧ c.I ≠ c.B ∧ c.I ≠ c.K ∧ c.I ≠ c.G ∧ c.T ≠ c.B ∧ c.T ≠ c.K ∧ c.T ≠ c.G ∧ c.B ≠ c.K ∧ c.B ≠ c.G ∧ c.K ≠ c.G ∧ c.T ≠ c.I ∧ c.B ≠ c.I ∧ c.K ≠ c.I ∧ c.G ≠ c.I ∧ c.B ≠ c.T ∧ c.K ≠ c.T ∧ c.G ≠ c.T ∧ c.K ≠ c.B ∧ c.G ≠ c.B ∧ c.G ≠ c.K := by
  have h := G.nd
  simp only [List.nodup_cons, List.mem_cons, List.not_mem_nil, or_false, not_or] at h
  obtain ⟨⟨h1, h2, h3, h4⟩, ⟨h5, h6, h7⟩, ⟨h8, h9⟩, h10, _⟩ := h
  exact ⟨h1, h2, h3, h4, h5, h6, h7, h8, h9, h10, fun e => h1 e.symm, fun e => h2 e.symm, fun e => h3 e.symm, fun e => h4 e.symm, fun e => h5 e.symm, fun e => h6 e.symm, fun e => h7 e.symm, fun e => h8 e.symm, fun e => h9 e.symm, fun e => h10 e.symm⟩
theorem TG.tI {K : PySem.W.Frag} {mg : Str → Option Value} {c : CC} {tM tL tN : Tok} {fK : Addr} {dK : FuncData} (G : TG K mg c tM tL tN fK dK) {H : Hp} {a dx : Addr} {fs : List (Str × V)} (e : H a = some (.ins c.I dx fs)) : TyOf K H (.ref a) (.ref c.I) := G.iI.ty e
theorem TG.tT {K : PySem.W.Frag} {mg : Str → Option Value} {c : CC} {tM tL tN : Tok} {fK : Addr} {dK : FuncData} (G : TG K mg c tM tL tN fK dK) {H : Hp} {a dx : Addr} {fs : List (Str × V)} (e : H a = some (.ins c.T dx fs)) : TyOf K H (.ref a) (.ref c.T) := G.iT.ty e
theorem TG.tB {K : PySem.W.Frag} {mg : Str → Option Value} {c : CC} {tM tL tN : Tok} {fK : Addr} {dK : FuncData} (G : TG K mg c tM tL tN fK dK) {H : Hp} {a dx : Addr} {fs : List (Str × V)} (e : H a = some (.ins c.B dx fs)) : TyOf K H (.ref a) (.ref c.B) := G.iB.ty e
theorem TG.tK {K : PySem.W.Frag} {mg : Str → Option Value} {c : CC} {tM tL tN : Tok} {fK : Addr} {dK : FuncData} (G : TG K mg c tM tL tN fK dK) {H : Hp} {a dx : Addr} {fs : List (Str × V)} (e : H a = some (.ins c.K dx fs)) : TyOf K H (.ref a) (.ref c.K) := G.iK.ty e
theorem TG.tG {K : PySem.W.Frag} {mg : Str → Option Value} {c : CC} {tM tL tN : Tok} {fK : Addr} {dK : FuncData} (G : TG K mg c tM tL tN fK dK) {H : Hp} {a dx : Addr} {fs : List (Str × V)} (e : H a = some (.ins c.G dx fs)) : TyOf K H (.ref a) (.ref c.G) := G.iG.ty e
/-- the kind of a value -/
inductive KindOf (c : CC) (H : Hp) : V → Str → Prop
  | non : KindOf c H .non "none"
  | bl (b : Bool) : KindOf c H (.bl b) "bit"
  | int (i : Int) : KindOf c H (.int i) "int"
  | str (s : Str) : KindOf c H (.str s) "text"
  | i {a dx : Addr} {fs : List (Str × V)} (e : H a = some (.ins c.I dx fs)) : KindOf c H (.ref a) "list"
  | t {a dx : Addr} {fs : List (Str × V)} (e : H a = some (.ins c.T dx fs)) : KindOf c H (.ref a) "map"
  | k {a dx : Addr} {fs : List (Str × V)} (e : H a = some (.ins c.K dx fs)) : KindOf c H (.ref a) "class"
  | g {a dx : Addr} {fs : List (Str × V)} (e : H a = some (.ins c.G dx fs)) : KindOf c H (.ref a) "thing"
  | b {a dx : Addr} {fs : List (Str × V)} (e : H a = some (.ins c.B dx fs)) : KindOf c H (.ref a) "function"
def spKind (c : CC) : Sp := fun vs H Q _ => ∃ x k, vs = [x] ∧ KindOf c H x k ∧ Q (.str k) H
abbrev sKind : Stmt := top 13
section
variable {P : Program} {w : World} {K : PySem.W.Frag} {mg : Str → Option Value} {base : Heap} {f : Addr} {fd : FuncData} {c : CC} {tM tL tN : Tok} {fK : Addr} {dK : FuncData}
theorem sc_kind_of : FnScope ["value"] ["value"] (defScope sKind) := ⟨rfl, rfl, rfl, by decide +kernel, rfl, by decide +kernel, by decide +kernel⟩
theorem ok_kind (F : FnP K "kind_of" sKind f fd) (G : TG K mg c tM tL tN fK dK) : FnOk P w K mg base CX0 1 f fd ["value"] (spKind c) := by
  refine F.ok sc_kind_of (fun vs H Q E h => ?_) (fun cdv A outer s H vs Q E hr h => ?_)
  · obtain ⟨x, k, rfl, _⟩ := h
    rfl
  · obtain ⟨x, k, rfl, hk, fin⟩ := h
    refine ⟨_, PSs.nox (pss_cons (ps_if (pt_cmpR op_isN (pv 0) pe_non (nomark _))
      (pss_one (ps_ret pe_str))
      pss_nil)
    (pss_cons (ps_if (pt_val (pe_callB call_isi (by rfl) G.zIsi (by decide +kernel) (pa_cons (pv 0) (pa_cons (pe_bltn (x := "bool") (v := .ty "bool") (u := .type "bool") (by rfl) G.zBool (by decide +kernel) rfl) pa_nil))))
      (pss_one (ps_ret pe_str))
      pss_nil)
    (pss_cons (ps_if (pt_val (pe_callB call_isi (by rfl) G.zIsi (by decide +kernel) (pa_cons (pv 0) (pa_cons (pe_bltn (x := "int") (v := .ty "int") (u := .type "int") (by rfl) G.zInt (by decide +kernel) rfl) pa_nil))))
      (pss_one (ps_ret pe_str))
      pss_nil)
    (pss_cons (ps_if (pt_val (pe_callB call_isi (by rfl) G.zIsi (by decide +kernel) (pa_cons (pv 0) (pa_cons (pe_bltn (x := "str") (v := .ty "str") (u := .type "str") (by rfl) G.zStr (by decide +kernel) rfl) pa_nil))))
      (pss_one (ps_ret pe_str))
      pss_nil)
    (pss_cons (ps_if (pt_val (pe_callB call_isi (by rfl) G.zIsi (by decide +kernel) (pa_cons (pv 0) (pa_cons (pe_glob (x := "Items") (v := .ref c.I) (u := .ref c.I) (by rfl) G.mItems rfl) pa_nil))))
      (pss_one (ps_ret pe_str))
      pss_nil)
    (pss_cons (ps_if (pt_val (pe_callB call_isi (by rfl) G.zIsi (by decide +kernel) (pa_cons (pv 0) (pa_cons (pe_glob (x := "Table") (v := .ref c.T) (u := .ref c.T) (by rfl) G.mTable rfl) pa_nil))))
      (pss_one (ps_ret pe_str))
      pss_nil)
    (pss_cons (ps_if (pt_val (pe_callB call_isi (by rfl) G.zIsi (by decide +kernel) (pa_cons (pv 0) (pa_cons (pe_glob (x := "Kind") (v := .ref c.K) (u := .ref c.K) (by rfl) G.mKind rfl) pa_nil))))
      (pss_one (ps_ret pe_str))
      pss_nil)
    (pss_one (ps_ret (pe_ifExp (pt_val (pe_callB call_isi (by rfl) G.zIsi (by decide +kernel) (pa_cons (pv 0) (pa_cons (pe_glob (x := "Thing") (v := .ref c.G) (u := .ref c.G) (by rfl) G.mThing rfl) pa_nil)))) pe_str pe_str)))))))))), ?_⟩
    cases hk with
    | non =>
      exact ⟨_, rfl, rfl, true, rfl, iteT fin⟩
    | bl b =>
      refine ⟨_, rfl, rfl, false, rfl, iteF ?_⟩
      exact ⟨_, rfl, _, _, _, _, true, rfl, .ty _, .base (.bl _), (G.kit (t := .type "bool") (u := .type "bool") (b := true) (by simp [tyL]) (by simp [tyU]) (by simp) (by first | rfl | simp [G.ne])), _, rfl, iteT fin⟩
    | int i =>
      refine ⟨_, rfl, rfl, false, rfl, iteF ?_⟩
      refine ⟨_, rfl, _, _, _, _, false, rfl, .ty _, .base (.int _), (G.kit (t := .type "int") (u := .type "bool") (b := false) (by simp [tyL]) (by simp [tyU]) (by simp) (by first | rfl | simp [G.ne])), _, rfl, iteF ?_⟩
      exact ⟨_, rfl, _, _, _, _, true, rfl, .ty _, .base (.int _), (G.kit (t := .type "int") (u := .type "int") (b := true) (by simp [tyL]) (by simp [tyU]) (by simp) (by first | rfl | simp [G.ne])), _, rfl, iteT fin⟩
    | str s =>
      refine ⟨_, rfl, rfl, false, rfl, iteF ?_⟩
      refine ⟨_, rfl, _, _, _, _, false, rfl, .ty _, .base (.str _), (G.kit (t := .type "str") (u := .type "bool") (b := false) (by simp [tyL]) (by simp [tyU]) (by simp) (by first | rfl | simp [G.ne])), _, rfl, iteF ?_⟩
      refine ⟨_, rfl, _, _, _, _, false, rfl, .ty _, .base (.str _), (G.kit (t := .type "str") (u := .type "int") (b := false) (by simp [tyL]) (by simp [tyU]) (by simp) (by first | rfl | simp [G.ne])), _, rfl, iteF ?_⟩
      exact ⟨_, rfl, _, _, _, _, true, rfl, .ty _, .base (.str _), (G.kit (t := .type "str") (u := .type "str") (b := true) (by simp [tyL]) (by simp [tyU]) (by simp) (by first | rfl | simp [G.ne])), _, rfl, iteT fin⟩
    | i e =>
      refine ⟨_, rfl, rfl, false, rfl, iteF ?_⟩
      refine ⟨_, rfl, _, _, _, _, false, rfl, .ty _, .base (G.tI e), (G.kit (t := .ref c.I) (u := .type "bool") (b := false) (by simp [tyL]) (by simp [tyU]) (by simp) (by first | rfl | simp [G.ne])), _, rfl, iteF ?_⟩
      refine ⟨_, rfl, _, _, _, _, false, rfl, .ty _, .base (G.tI e), (G.kit (t := .ref c.I) (u := .type "int") (b := false) (by simp [tyL]) (by simp [tyU]) (by simp) (by first | rfl | simp [G.ne])), _, rfl, iteF ?_⟩
      refine ⟨_, rfl, _, _, _, _, false, rfl, .ty _, .base (G.tI e), (G.kit (t := .ref c.I) (u := .type "str") (b := false) (by simp [tyL]) (by simp [tyU]) (by simp) (by first | rfl | simp [G.ne])), _, rfl, iteF ?_⟩
      exact ⟨_, rfl, _, _, _, _, true, rfl, .own _, .base (G.tI e), (G.kit (t := .ref c.I) (u := .ref c.I) (b := true) (by simp [tyL]) (by simp [tyU]) (by simp) (by first | rfl | simp [G.ne])), _, rfl, iteT fin⟩
    | t e =>
      refine ⟨_, rfl, rfl, false, rfl, iteF ?_⟩
      refine ⟨_, rfl, _, _, _, _, false, rfl, .ty _, .base (G.tT e), (G.kit (t := .ref c.T) (u := .type "bool") (b := false) (by simp [tyL]) (by simp [tyU]) (by simp) (by first | rfl | simp [G.ne])), _, rfl, iteF ?_⟩
      refine ⟨_, rfl, _, _, _, _, false, rfl, .ty _, .base (G.tT e), (G.kit (t := .ref c.T) (u := .type "int") (b := false) (by simp [tyL]) (by simp [tyU]) (by simp) (by first | rfl | simp [G.ne])), _, rfl, iteF ?_⟩
      refine ⟨_, rfl, _, _, _, _, false, rfl, .ty _, .base (G.tT e), (G.kit (t := .ref c.T) (u := .type "str") (b := false) (by simp [tyL]) (by simp [tyU]) (by simp) (by first | rfl | simp [G.ne])), _, rfl, iteF ?_⟩
      refine ⟨_, rfl, _, _, _, _, false, rfl, .own _, .base (G.tT e), (G.kit (t := .ref c.T) (u := .ref c.I) (b := false) (by simp [tyL]) (by simp [tyU]) (by simp) (by first | rfl | simp [G.ne])), _, rfl, iteF ?_⟩
      exact ⟨_, rfl, _, _, _, _, true, rfl, .own _, .base (G.tT e), (G.kit (t := .ref c.T) (u := .ref c.T) (b := true) (by simp [tyL]) (by simp [tyU]) (by simp) (by first | rfl | simp [G.ne])), _, rfl, iteT fin⟩
    | k e =>
      refine ⟨_, rfl, rfl, false, rfl, iteF ?_⟩
      refine ⟨_, rfl, _, _, _, _, false, rfl, .ty _, .base (G.tK e), (G.kit (t := .ref c.K) (u := .type "bool") (b := false) (by simp [tyL]) (by simp [tyU]) (by simp) (by first | rfl | simp [G.ne])), _, rfl, iteF ?_⟩
      refine ⟨_, rfl, _, _, _, _, false, rfl, .ty _, .base (G.tK e), (G.kit (t := .ref c.K) (u := .type "int") (b := false) (by simp [tyL]) (by simp [tyU]) (by simp) (by first | rfl | simp [G.ne])), _, rfl, iteF ?_⟩
      refine ⟨_, rfl, _, _, _, _, false, rfl, .ty _, .base (G.tK e), (G.kit (t := .ref c.K) (u := .type "str") (b := false) (by simp [tyL]) (by simp [tyU]) (by simp) (by first | rfl | simp [G.ne])), _, rfl, iteF ?_⟩
      refine ⟨_, rfl, _, _, _, _, false, rfl, .own _, .base (G.tK e), (G.kit (t := .ref c.K) (u := .ref c.I) (b := false) (by simp [tyL]) (by simp [tyU]) (by simp) (by first | rfl | simp [G.ne])), _, rfl, iteF ?_⟩
      refine ⟨_, rfl, _, _, _, _, false, rfl, .own _, .base (G.tK e), (G.kit (t := .ref c.K) (u := .ref c.T) (b := false) (by simp [tyL]) (by simp [tyU]) (by simp) (by first | rfl | simp [G.ne])), _, rfl, iteF ?_⟩
      exact ⟨_, rfl, _, _, _, _, true, rfl, .own _, .base (G.tK e), (G.kit (t := .ref c.K) (u := .ref c.K) (b := true) (by simp [tyL]) (by simp [tyU]) (by simp) (by first | rfl | simp [G.ne])), _, rfl, iteT fin⟩
    | g e =>
      refine ⟨_, rfl, rfl, false, rfl, iteF ?_⟩
      refine ⟨_, rfl, _, _, _, _, false, rfl, .ty _, .base (G.tG e), (G.kit (t := .ref c.G) (u := .type "bool") (b := false) (by simp [tyL]) (by simp [tyU]) (by simp) (by first | rfl | simp [G.ne])), _, rfl, iteF ?_⟩
      refine ⟨_, rfl, _, _, _, _, false, rfl, .ty _, .base (G.tG e), (G.kit (t := .ref c.G) (u := .type "int") (b := false) (by simp [tyL]) (by simp [tyU]) (by simp) (by first | rfl | simp [G.ne])), _, rfl, iteF ?_⟩
      refine ⟨_, rfl, _, _, _, _, false, rfl, .ty _, .base (G.tG e), (G.kit (t := .ref c.G) (u := .type "str") (b := false) (by simp [tyL]) (by simp [tyU]) (by simp) (by first | rfl | simp [G.ne])), _, rfl, iteF ?_⟩
      refine ⟨_, rfl, _, _, _, _, false, rfl, .own _, .base (G.tG e), (G.kit (t := .ref c.G) (u := .ref c.I) (b := false) (by simp [tyL]) (by simp [tyU]) (by simp) (by first | rfl | simp [G.ne])), _, rfl, iteF ?_⟩
      refine ⟨_, rfl, _, _, _, _, false, rfl, .own _, .base (G.tG e), (G.kit (t := .ref c.G) (u := .ref c.T) (b := false) (by simp [tyL]) (by simp [tyU]) (by simp) (by first | rfl | simp [G.ne])), _, rfl, iteF ?_⟩
      refine ⟨_, rfl, _, _, _, _, false, rfl, .own _, .base (G.tG e), (G.kit (t := .ref c.G) (u := .ref c.K) (b := false) (by simp [tyL]) (by simp [tyU]) (by simp) (by first | rfl | simp [G.ne])), _, rfl, iteF ?_⟩
      exact ⟨_, rfl, _, _, _, _, true, rfl, .own _, .base (G.tG e), (G.kit (t := .ref c.G) (u := .ref c.G) (b := true) (by simp [tyL]) (by simp [tyU]) (by simp) (by first | rfl | simp [G.ne])), _, rfl, iteT fin⟩
    | b e =>
      refine ⟨_, rfl, rfl, false, rfl, iteF ?_⟩
      refine ⟨_, rfl, _, _, _, _, false, rfl, .ty _, .base (G.tB e), (G.kit (t := .ref c.B) (u := .type "bool") (b := false) (by simp [tyL]) (by simp [tyU]) (by simp) (by first | rfl | simp [G.ne])), _, rfl, iteF ?_⟩
      refine ⟨_, rfl, _, _, _, _, false, rfl, .ty _, .base (G.tB e), (G.kit (t := .ref c.B) (u := .type "int") (b := false) (by simp [tyL]) (by simp [tyU]) (by simp) (by first | rfl | simp [G.ne])), _, rfl, iteF ?_⟩
      refine ⟨_, rfl, _, _, _, _, false, rfl, .ty _, .base (G.tB e), (G.kit (t := .ref c.B) (u := .type "str") (b := false) (by simp [tyL]) (by simp [tyU]) (by simp) (by first | rfl | simp [G.ne])), _, rfl, iteF ?_⟩
      refine ⟨_, rfl, _, _, _, _, false, rfl, .own _, .base (G.tB e), (G.kit (t := .ref c.B) (u := .ref c.I) (b := false) (by simp [tyL]) (by simp [tyU]) (by simp) (by first | rfl | simp [G.ne])), _, rfl, iteF ?_⟩
      refine ⟨_, rfl, _, _, _, _, false, rfl, .own _, .base (G.tB e), (G.kit (t := .ref c.B) (u := .ref c.T) (b := false) (by simp [tyL]) (by simp [tyU]) (by simp) (by first | rfl | simp [G.ne])), _, rfl, iteF ?_⟩
      refine ⟨_, rfl, _, _, _, _, false, rfl, .own _, .base (G.tB e), (G.kit (t := .ref c.B) (u := .ref c.K) (b := false) (by simp [tyL]) (by simp [tyU]) (by simp) (by first | rfl | simp [G.ne])), _, rfl, iteF ?_⟩
      exact ⟨_, rfl, _, _, _, _, false, rfl, .own _, .base (G.tB e), (G.kit (t := .ref c.B) (u := .ref c.G) (b := false) (by simp [tyL]) (by simp [tyU]) (by simp) (by first | rfl | simp [G.ne])), _, rfl, iteF fin⟩
end
end EH

set_option Elab.async false
set_option linter.all false
set_option maxRecDepth 100000
set_option maxHeartbeats 4000000
namespace EH
open PySem PySem.Spec PyProof.Rows L2
theorem ite_st {a b : Str} {A B : Prop} (e : a = b) (h : A) : if decide (V.str a = V.str b) = true then A else B := by
  rw [decide_eq_true (by rw [e])]
  exact iteT h
theorem ite_sf {a b : Str} {A B : Prop} (e : (a == b) = false) (h : B) : if decide (V.str a = V.str b) = true then A else B := by
  rw [decide_eq_false (fun z => by rw [V.str.inj z] at e; simp at e)]
  exact iteF h
abbrev sTextOf : Stmt := top 14
abbrev sTextAt8 : Stmt := top 15
abbrev sFit : Stmt := top 18
abbrev sKey : Stmt := top 19
abbrev sStore : Stmt := top 20
/-- a small number told -/
def spTInt3 : Sp := fun vs H Q _ => ∃ n : Nat, vs = [.int (n : Int), .int 3, .bl false] ∧ n < 100000 ∧ Q (.str (S (TL.numL n))) H
def spTInt : Sp := fun vs H Q _ => ∃ n : Nat, vs = [.int (n : Int)] ∧ n < 100000 ∧ Q (.str (S (TL.numL n))) H
/-- texts and lists that are not too long -/
def Fits (c : CC) (H : Hp) (x : V) : Prop := (∃ s, x = .str s ∧ s.length ≤ 2000) ∨ ∃ a dx r xs, x = .ref a ∧ H a = some (.ins c.I dx [("row", .ref r)]) ∧ H r = some (.lst xs) ∧ xs.length ≤ 500
def spFit (c : CC) : Sp := fun vs H Q _ => ∃ x, vs = [x] ∧ Fits c H x ∧ Q x H
def spKey : Sp := fun vs H Q _ => ∃ n : Int, vs = [.int n] ∧ ∀ p H', Same H H' → H p = none → H' p = some (.tup [.str "int", .int n]) → Q (.ref p) H'
def tkey (n : Int) : List Key := [.inr "int", .inl n]
def spStore (c : CC) : Sp := fun vs H Q _ => ∃ (a dx r : Addr) (kvs : List (List Key × V)) (n : Int) (v : V), vs = [.ref a, .int n, v] ∧ H a = some (.ins c.T dx [("row", .ref r)]) ∧ H r = some (.dT kvs) ∧ kvs.length ≤ 400 ∧
  ∀ H', Same (upd H r (.dT (putK kvs (tkey n) v))) H' → Q .non H'
section
variable {P : Program} {w : World} {K : PySem.W.Frag} {mg : Str → Option Value} {base : Heap} {f : Addr} {fd : FuncData} {c : CC} {tM tL tN : Tok} {fK : Addr} {dK : FuncData}
structure KG (K : PySem.W.Frag) (mg : Str → Option Value) (fKi fKe fTa : Addr) (dKi dKe dTa : FuncData) : Prop where
  mKind : mg "kind_of" = some (.ref fKi)
  kKind : PySem.W.keepIn K (.ref fKi) = true
  bKind : Binds K dKi ["value"] []
  mKey : mg "key_of" = some (.ref fKe)
  kKey : PySem.W.keepIn K (.ref fKe) = true
  bKey : Binds K dKe ["value"] []
  mTa : mg "text_at" = some (.ref fTa)
  kTa : PySem.W.keepIn K (.ref fTa) = true
  bTa : Binds K dTa ["value", "deep", "inside"] []
variable {fKi fKe fTa : Addr} {dKi dKe dTa : FuncData}
theorem sc_ta : FnScope ["value", "deep", "inside", "kind"] ["value", "deep", "inside"] (defScope sTextAt8) := ⟨rfl, rfl, rfl, by decide +kernel, rfl, by decide +kernel, by decide +kernel⟩
theorem ok_ta (F : FnP K "text_at" sTextAt8 f fd) (G : TG K mg c tM tL tN fK dK) (k : KG K mg fKi fKe fTa dKi dKe dTa) (GKind : FnOk P w K mg base CX0 1 fKi dKi ["value"] (spKind c)) : FnOk P w K mg base CX0 2 f fd ["value", "deep", "inside"] spTInt3 := by
  refine F.ok sc_ta (fun vs H Q E h => ?_) (fun cdv A outer s H vs Q E hr h => ?_)
  · obtain ⟨n, rfl, _⟩ := h
    rfl
  · obtain ⟨n, rfl, hn, fin⟩ := h
    refine ⟨_, PSs.nox (pss_cons (ps_set (i := 3) sc_ta.nd rfl (Or.inl rfl) (pe_call GKind hr (by rfl) k.mKind k.kKind k.bKind .nil pass0 (pa_cons (pv 0) pa_nil)))
      (pss_cons (ps_if (pt_cmpR op_eq (pv 3) pe_str (nomark _)) (pss_one ps_never) pss_nil)
      (pss_cons (ps_if (pt_cmpR op_eq (pv 3) pe_str (nomark _)) (pss_one (ps_ret (pe_callTy call_str_int (by rfl) G.zStr (by decide +kernel) (pa_cons (pv 0) pa_nil)))) pss_nil)
      pss_never))), ?_⟩
    refine ⟨_, rfl, _, "int", rfl, .int _, ?_⟩
    refine ⟨_, rfl, rfl, _, rfl, ite_sf (by decide +kernel) ?_⟩
    refine ⟨_, rfl, rfl, _, rfl, ite_st rfl ?_⟩
    have hlog : ((n : Int)).natAbs.log2 < 1920 := by
      rw [Int.natAbs_natCast]
      by_cases z : n = 0
      · subst z; decide
      · exact Nat.lt_of_lt_of_le ((Nat.log2_lt z).mpr (show n < 2 ^ 17 by omega)) (by decide)
    refine ⟨_, rfl, _, rfl, hlog, ?_⟩
    rw [SX.num_S n]
    exact fin
theorem sc_to : FnScope ["value"] ["value"] (defScope sTextOf) := ⟨rfl, rfl, rfl, by decide +kernel, rfl, by decide +kernel, by decide +kernel⟩
theorem ok_to (F : FnP K "text_of" sTextOf f fd) (k : KG K mg fKi fKe fTa dKi dKe dTa) (GTa : FnOk P w K mg base CX0 2 fTa dTa ["value", "deep", "inside"] spTInt3) : FnOk P w K mg base CX0 3 f fd ["value"] spTInt := by
  refine F.ok sc_to (fun vs H Q E h => ?_) (fun cdv A outer s H vs Q E hr h => ?_)
  · obtain ⟨n, rfl, _⟩ := h
    rfl
  · obtain ⟨n, rfl, hn, fin⟩ := h
    refine ⟨_, PSs.nox (pss_one (ps_ret (pe_call GTa hr (by rfl) k.mTa k.kTa k.bTa .nil pass0 (pa_cons (pv 0) (pa_cons pe_int (pa_cons pe_bl pa_nil)))))), ?_⟩
    exact ⟨_, rfl, n, rfl, hn, fin⟩
theorem sc_fitting : FnScope ["value"] ["value"] (defScope sFit) := ⟨rfl, rfl, rfl, by decide +kernel, rfl, by decide +kernel, by decide +kernel⟩
theorem ok_fit (F : FnP K "fitting" sFit f fd) (G : TG K mg c tM tL tN fK dK) : FnOk P w K mg base CX0 1 f fd ["value"] (spFit c) := by
  refine F.ok sc_fitting (fun vs H Q E h => ?_) (fun cdv A outer s H vs Q E hr h => ?_)
  · obtain ⟨n, rfl, _⟩ := h
    rfl
  · obtain ⟨x, rfl, hx, fin⟩ := h
    refine ⟨_, PSs.nox (pss_cons (ps_if (pw_and (pt_val (pe_callB call_isi (by rfl) G.zIsi (by decide +kernel) (pa_cons (pv 0) (pa_cons (pe_bltn (x := "str") (v := .ty "str") (u := .type "str") (by rfl) G.zStr (by decide +kernel) rfl) pa_nil)))) (pw_and1 (pt_cmpR op_gt (pe_callB call_len_str (by rfl) G.zLen PySem.boot_len (pa_cons (pv 0) pa_nil)) (pe_glob (x := "LONG") (v := .int 2000) (by rfl) G.mLONG ⟨_, rfl⟩) (nomark _)))).pt
      (pss_one ps_never)
      pss_nil)
    (pss_cons (ps_if (pw_and (pt_val (pe_callB call_isi (by rfl) G.zIsi (by decide +kernel) (pa_cons (pv 0) (pa_cons (pe_bltn (x := "int") (v := .ty "int") (u := .type "int") (by rfl) G.zInt (by decide +kernel) rfl) pa_nil)))) (pw_and1 (pt_not (pt_chain op_le op_le (pe_un un_neg (pe_glob (x := "MOST") (v := .int 1000000000000) (by rfl) G.mMOST ⟨_, rfl⟩)) (pv 0) (pe_glob (x := "MOST") (v := .int 1000000000000) (by rfl) G.mMOST ⟨_, rfl⟩))))).pt
      (pss_one ps_never)
      pss_nil)
    (pss_cons (ps_if (pw_and (pt_val (pe_callB call_isi (by rfl) G.zIsi (by decide +kernel) (pa_cons (pv 0) (pa_cons (pe_glob (x := "Items") (v := .ref c.I) (u := .ref c.I) (by rfl) G.mItems rfl) pa_nil)))) (pw_and1 (pt_cmpR op_gt (pe_callB call_len_seq (by rfl) G.zLen PySem.boot_len (pa_cons (pe_fld (pv 0) rfl) pa_nil)) (pe_glob (x := "MANY") (v := .int 500) (by rfl) G.mMANY ⟨_, rfl⟩) (nomark _)))).pt
      (pss_one ps_never)
      pss_nil)
    (pss_one (ps_ret (pv 0)))))), ?_⟩
    rcases hx with ⟨z, rfl, hz⟩ | ⟨a, dx, r, xs, rfl, ha, hr0, hl⟩
    · refine ⟨_, rfl, _, _, _, _, true, rfl, .ty _, .base (.str _), (G.kit (t := .type "str") (u := .type "str") (b := true) (by simp [tyL]) (by simp [tyU]) (by simp) rfl), _, rfl, iteT ?_⟩
      refine ⟨_, rfl, z, rfl, Nat.le_trans hz (by decide), _, _, rfl, rfl, _, rfl, ?_⟩
      rw [decide_eq_false (by omega : ¬ ((2000 : Int) < (z.length : Int)))]
      refine iteF ?_
      refine ⟨_, rfl, _, _, _, _, false, rfl, .ty _, .base (.str _), (G.kit (t := .type "str") (u := .type "int") (b := false) (by simp [tyL]) (by simp [tyU]) (by simp) rfl), _, rfl, iteF (iteF ?_)⟩
      refine ⟨_, rfl, _, _, _, _, false, rfl, .own _, .base (.str _), (G.kit (t := .type "str") (u := .ref c.I) (b := false) (by simp [tyL]) (by simp [tyU]) (by simp) (by simp)), _, rfl, iteF (iteF ?_)⟩
      exact ⟨_, rfl, fin⟩
    · refine ⟨_, rfl, _, _, _, _, false, rfl, .ty _, .base (G.tI ha), (G.kit (t := .ref c.I) (u := .type "str") (b := false) (by simp [tyL]) (by simp [tyU]) (by simp) (by simp)), _, rfl, iteF (iteF ?_)⟩
      refine ⟨_, rfl, _, _, _, _, false, rfl, .ty _, .base (G.tI ha), (G.kit (t := .ref c.I) (u := .type "int") (b := false) (by simp [tyL]) (by simp [tyU]) (by simp) (by simp)), _, rfl, iteF (iteF ?_)⟩
      refine ⟨_, rfl, _, _, _, _, true, rfl, .own _, .base (G.tI ha), (G.kit (t := .ref c.I) (u := .ref c.I) (b := true) (by simp [tyL]) (by simp [tyU]) (by simp) (by simp)), _, rfl, iteT ?_⟩
      refine ⟨_, rfl, _, _, dx, _, _, rfl, ha, G.iI.cl, G.aI, rfl, r, _, rfl, .inl (SqL.of hr0), _, _, rfl, rfl, _, rfl, ?_⟩
      rw [decide_eq_false (by omega : ¬ ((500 : Int) < (xs.length : Int)))]
      exact iteF (⟨_, rfl, fin⟩)
theorem sc_key_of : FnScope ["value"] ["value"] (defScope sKey) := ⟨rfl, rfl, rfl, by decide +kernel, rfl, by decide +kernel, by decide +kernel⟩
theorem ok_key (F : FnP K "key_of" sKey f fd) (G : KG K mg fKi fKe fTa dKi dKe dTa) (GKind : FnOk P w K mg base CX0 1 fKi dKi ["value"] (spKind c)) : FnOk P w K mg base CX0 2 f fd ["value"] spKey := by
  refine F.ok sc_key_of (fun vs H Q E h => ?_) (fun cdv A outer s H vs Q E hr h => ?_)
  · obtain ⟨n, rfl, _⟩ := h
    rfl
  · obtain ⟨n, rfl, fin⟩ := h
    have hr1 := hr
    refine ⟨_, PSs.nox (pss_cons (ps_if (pt_cmpR op_notIn_seq (pe_call GKind hr1 (by rfl) G.mKind G.kKind G.bKind .nil pass0 (pa_cons (pv 0) pa_nil)) (pe_tup (pa_cons pe_str (pa_cons pe_str (pa_cons pe_str (pa_cons pe_str pa_nil))))) (by rfl))
      (pss_one ps_never)
      pss_nil)
    (pss_one (ps_ret (pe_tup (pa_cons (pe_call GKind hr1 (by rfl) G.mKind G.kKind G.bKind .nil pass0 (pa_cons (pv 0) pa_nil)) (pa_cons (pv 0) pa_nil)))))), ?_⟩
    refine ⟨_, rfl, _, "int", rfl, .int _, szS (by show 4 ≤ 100000; decide), fun e he => ?_⟩
    refine ⟨e, _, rfl, Or.inr (Or.inl (Or.inl upd_same)), rfl, rfl, _, rfl, ?_⟩
    refine ite_is (c := false) (by decide +kernel) (iteF ?_)
    refine ⟨_, rfl, _, "int", rfl, .int _, _, rfl, szS (by show 2 ≤ 100000; decide), fun p hp => ?_⟩
    have s1 : Same H (upd H e (.tup [.str "int", .str "bit", .str "text", .str "none"])) := same_new he
    exact fin p _ (s1.trans (same_new hp)) (s1.free hp) upd_same
theorem sc_store : FnScope ["what", "place", "value", "kind"] ["what", "place", "value"] (defScope sStore) := ⟨rfl, rfl, rfl, by decide +kernel, rfl, by decide +kernel, by decide +kernel⟩
theorem ok_store (F : FnP K "store" sStore f fd) (G : TG K mg c tM tL tN fK dK) (k : KG K mg fKi fKe fTa dKi dKe dTa) (GKind : FnOk P w K mg base CX0 1 fKi dKi ["value"] (spKind c)) (GKey : FnOk P w K mg base CX0 2 fKe dKe ["value"] spKey) :
    FnOk P w K mg base CX0 3 f fd ["what", "place", "value"] (spStore c) := by
  refine F.ok sc_store (fun vs H Q E h => ?_) (fun cdv A outer s H vs Q E hr h => ?_)
  · obtain ⟨a, dx, r, kvs, n, v, rfl, _⟩ := h
    rfl
  · obtain ⟨a, dx, r, kvs, n, v, rfl, ha, hrr, hl, fin⟩ := h
    have hu := hu_of hr
    have hr1 : Room 1 (A.deeper (envOfC "store" (defScope sStore) s.heap.objs.size f cdv)) := hr.mono (by decide)
    refine ⟨_, PSs.nox (pss_cons (ps_set (i := 3) sc_store.nd rfl (Or.inl rfl) (pe_call GKind hr1 (by rfl) k.mKind k.kKind k.bKind .nil pass0 (pa_cons (pv 0) pa_nil)))
      (pss_one (ps_if (pt_cmpR op_eq (pv 3) pe_str (nomark _))
        (pss_cons (ps_dput hu (pe_fld (pv 0) rfl) (pe_call GKey hr (by rfl) k.mKey k.kKey k.bKey .nil pass0 (pa_cons (pv 1) pa_nil)) (pv 2) rfl)
          (pss_one (ps_if (pt_cmpR op_gt (pe_callB call_len_dT (by rfl) G.zLen PySem.boot_len (pa_cons (pe_fld (pv 0) rfl) pa_nil)) (pe_glob (x := "MANY") (v := .int 500) (by rfl) G.mMANY ⟨_, rfl⟩) (nomark _)) (pss_one ps_never) pss_nil)))
        pss_never))), ?_⟩
    refine ⟨_, rfl, _, "map", rfl, .t ha, ?_⟩
    refine ⟨_, rfl, rfl, _, rfl, ite_st rfl ?_⟩
    refine ⟨_, rfl, _, rfl, _, _, dx, _, _, rfl, ha, G.iT.cl, G.aT, rfl, ?_⟩
    refine ⟨_, rfl, n, rfl, fun p H1 s1 hp h1 => ?_⟩
    refine ⟨r, _, rfl, DPut.t (k := tkey n) (s1 _ _ hrr) h1 (Nat.lt_of_le_of_lt hl (by decide)), ?_⟩
    have nar : a ≠ r := fun e => by rw [e, hrr] at ha; cases ha
    refine ⟨_, rfl, _, _, dx, _, _, rfl, (upd_ne nar).trans (s1 _ _ ha), G.iT.cl, G.aT, rfl, r, _, rfl, upd_same, _, _, rfl, rfl, _, rfl, ?_⟩
    have h2 := length_putK kvs (tkey n) v
    rw [decide_eq_false (by omega : ¬ ((500 : Int) < ((putK kvs (tkey n) v).length : Int)))]
    refine iteF (fin _ fun b o e => ?_)
    by_cases q : b = r
    · subst q
      rw [upd_same] at e ⊢
      exact e
    · rw [upd_ne q] at e ⊢
      exact s1 _ _ e
end
end EH

set_option Elab.async false
set_option linter.all false
set_option maxRecDepth 100000
set_option maxHeartbeats 4000000
namespace EH
open PySem PySem.Spec PyProof.Rows L2
abbrev sIniI : Stmt := inClass (top 8) 0
abbrev sIniT : Stmt := inClass (top 9) 0
abbrev sIniB : Stmt := inClass (top 10) 0
abbrev sIniK : Stmt := inClass (top 11) 0
abbrev sIniG : Stmt := inClass (top 12) 0
abbrev sMethOf : Stmt := top 21
abbrev sPart : Stmt := top 22
abbrev sPut : Stmt := top 23
abbrev sRow : Stmt := top 24
abbrev FnC (K : PySem.W.Frag) (q : Str) (st : Stmt) (f : Addr) (fd : FuncData) : Prop := FunD K "__init__" q (defArgs st) (defBody st) (defScope st) [] [] f fd
def spIniI (c : CC) : Sp := fun vs H Q _ => ∃ (x dx : Addr) (v : V), vs = [.ref x, v] ∧ H x = some (.ins c.I dx []) ∧ Q .non (upd H x (.ins c.I dx [("row", v)]))
def spIniT (c : CC) : Sp := fun vs H Q _ => ∃ (x dx : Addr), vs = [.ref x] ∧ H x = some (.ins c.T dx []) ∧ ∀ r, H r = none → Q .non (upd (upd H r (.dT [])) x (.ins c.T dx [("row", .ref r)]))
def spIniB (c : CC) : Sp := fun vs H Q _ => ∃ (x dx : Addr) (m o : V), vs = [.ref x, m, o] ∧ H x = some (.ins c.B dx []) ∧ Q .non (upd H x (.ins c.B dx [("method", m), ("owner", o)]))
def spIniK (c : CC) : Sp := fun vs H Q _ => ∃ (x dx : Addr) (l b m : V), vs = [.ref x, l, b, m] ∧ H x = some (.ins c.K dx []) ∧ Q .non (upd H x (.ins c.K dx [("label", l), ("base", b), ("methods", m)]))
def spIniG (c : CC) : Sp := fun vs H Q _ => ∃ (x dx : Addr) (k : V), vs = [.ref x, k] ∧ H x = some (.ins c.G dx []) ∧ ∀ r, H r = none → Q .non (upd (upd H r (.dK [])) x (.ins c.G dx [("kind", k), ("fields", .ref r)]))
theorem upd_comm {H : Hp} {a b : Addr} {x y : HO} (h : a ≠ b) : upd (upd H a x) b y = upd (upd H b y) a x := funext fun z => by
  by_cases h1 : z = a
  · subst h1; rw [upd_ne h, upd_same, upd_same]
  · by_cases h2 : z = b
    · subst h2; rw [upd_same, upd_ne h1, upd_same]
    · rw [upd_ne h2, upd_ne h1, upd_ne h1, upd_ne h2]
theorem put_new {f g : Str} {v u : V} (h : (g == f) = false) : putF f v [(g, u)] = [(g, u), (f, v)] := by
  have : ¬ g = f := fun e => by rw [e] at h; simp at h
  show (if g = f then _ else (g, u) :: putF f v []) = _
  rw [if_neg this]
  rfl
theorem put_new2 {f g1 g2 : Str} {v u1 u2 : V} (h1 : (g1 == f) = false) (h2 : (g2 == f) = false) : putF f v [(g1, u1), (g2, u2)] = [(g1, u1), (g2, u2), (f, v)] := by
  have : ¬ g1 = f := fun e => by rw [e] at h1; simp at h1
  show (if g1 = f then _ else (g1, u1) :: putF f v [(g2, u2)]) = _
  rw [if_neg this, put_new h2]
def ThrS (C : Addr) (w : Str) (H : Hp) (E : XK) : Prop := ∀ d H', Same H H' → H' d = some (.xd [("value", .str w)]) → E (.ref C) (some d) H'
theorem ThrS.same {C : Addr} {w : Str} {H H2 : Hp} {E : XK} (t : ThrS C w H E) (s : Same H H2) : ThrS C w H2 E := fun d H' s' e => t d H' (s.trans s') e
theorem ThrS.go {C : Addr} {w : Str} {H H2 : Hp} {E : XK} (t : ThrS C w H E) (s : Same H H2) {d : Addr} (hd : H2 d = none) : E (.ref C) (some d) (upd H2 d (.xd [("value", .str w)])) := t d _ (s.trans (same_new hd)) upd_same
/-- method_of by its steps -/
inductive MethR (c : CC) (H : Hp) (name : Str) : Nat → V → V → Prop
  | none : MethR c H name 0 .non .non
  | here {a dx m : Addr} {l b v : V} {kvs : List (Key × V)} (e : H a = some (.ins c.K dx [("label", l), ("base", b), ("methods", .ref m)])) (em : H m = some (.dK kvs)) (hv : valV kvs (.inr name) = some v) : MethR c H name 0 (.ref a) v
  | up {a dx m : Addr} {l b v : V} {kvs : List (Key × V)} {n : Nat} (e : H a = some (.ins c.K dx [("label", l), ("base", b), ("methods", .ref m)])) (em : H m = some (.dK kvs)) (hv : valV kvs (.inr name) = Option.none) (r : MethR c H name n b v) : MethR c H name (n + 1) (.ref a) v
theorem MethR.same {c : CC} {H H' : Hp} {name : Str} (s : Same H H') : ∀ {n : Nat} {k v : V}, MethR c H name n k v → MethR c H' name n k v
  | _, _, _, .none => .none
  | _, _, _, .here e em hv => .here (s _ _ e) (s _ _ em) hv
  | _, _, _, .up e em hv r => .up (s _ _ e) (s _ _ em) hv (r.same s)
def spMeth (c : CC) : Sp := fun vs H Q _ => ∃ (k v : V) (name : Str) (n : Nat), vs = [k, .str name] ∧ MethR c H name n k v ∧ Q v H
def spPart (c : CC) (C : Addr) : Sp := fun vs H Q E => ∃ (x : V) (name : Str), vs = [x, .str name] ∧
  ((∃ a dx fs n v, x = .ref a ∧ H a = some (.ins c.K dx fs) ∧ MethR c H name n x v ∧ (v ≠ .non → Q v H) ∧ (v = .non → ThrS C "part" H E)) ∨
   (∃ k, KindOf c H x k ∧ (k == "class") = false ∧ (k == "thing") = false ∧ ThrS C "kind" H E) ∨
   ∃ a dx k m kvs n v, x = .ref a ∧ H a = some (.ins c.G dx [("kind", k), ("fields", .ref m)]) ∧ H m = some (.dK kvs) ∧ (∀ u, valV kvs (.inr name) = some u → Q u H) ∧
     (valV kvs (.inr name) = none → MethR c H name n k v ∧ (v = .non → ThrS C "part" H E) ∧
       (v ≠ .non → ∀ p dp H', Same H H' → H p = none → H' p = some (.ins c.B dp [("method", v), ("owner", x)]) → Q (.ref p) H')))
def spPut (c : CC) (C : Addr) : Sp := fun vs H Q E => ∃ (x v : V) (name : Str), vs = [x, .str name, v] ∧
  ((∃ k, KindOf c H x k ∧ (k == "thing") = false ∧ ThrS C "kind" H E) ∨
   ∃ a dx k m kvs, x = .ref a ∧ H a = some (.ins c.G dx [("kind", k), ("fields", .ref m)]) ∧ H m = some (.dK kvs) ∧ kvs.length ≤ 100 ∧ Q .non (upd H m (.dK (putK kvs (.inr name) v))))
def spRow (c : CC) (C : Addr) : Sp := fun vs H Q E => ∃ x : V, vs = [x] ∧
  ((∃ k, KindOf c H x k ∧ (k == "list") = false ∧ (k == "map") = false ∧ (k == "text") = false ∧ ThrS C "kind" H E) ∨
   (∃ a dx r xs, x = .ref a ∧ H a = some (.ins c.I dx [("row", .ref r)]) ∧ H r = some (.lst xs) ∧ ∀ p H', Same H H' → H p = none → H' p = some (.lst xs) → Q (.ref p) H') ∨
   (∃ a dx r kvs, ∃ ns : List Int, x = .ref a ∧ H a = some (.ins c.T dx [("row", .ref r)]) ∧ H r = some (.dT kvs) ∧ kvs.map (·.1) = ns.map tkey ∧ ns.length ≤ 500 ∧ ∀ p H', Same H H' → H p = none → H' p = some (.lst (ns.map V.int)) → Q (.ref p) H') ∨
   ∃ l : List Nat, x = .str (S l) ∧ l.length ≤ 100 ∧ ∀ p H', Same H H' → H p = none → H' p = some (.lst (l.map fun z => V.str (S [z]))) → Q (.ref p) H')
section
variable {P : Program} {w : World} {K : PySem.W.Frag} {mg : Str → Option Value} {base : Heap} {f : Addr} {fd : FuncData} {c : CC} {tM tL tN : Tok} {fK : Addr} {dK : FuncData}
variable {fKi fKe fTa : Addr} {dKi dKe dTa : FuncData}
theorem sc_ii : FnScope ["self", "row"] ["self", "row"] (defScope sIniI) := ⟨rfl, rfl, rfl, by decide +kernel, rfl, by decide +kernel, by decide +kernel⟩
theorem ok_ini_i (F : FnC K "Items.__init__" sIniI f fd) (G : TG K mg c tM tL tN fK dK) : FnOk P w K mg base CX0 1 f fd ["self", "row"] (spIniI c) := by
  refine F.ok sc_ii (fun vs H Q E h => ?_) (fun cdv A outer s H vs Q E hr h => ?_)
  · obtain ⟨x, dx, v, rfl, _⟩ := h
    rfl
  · obtain ⟨x, dx, v, rfl, hx, fin⟩ := h
    exact ⟨_, pss_one (ps_fld (pv 0) (pv 1) rfl), _, rfl, _, rfl, x, _, dx, [], rfl, hx, G.iI.cl, G.aI, (by show 0 < 1000; decide), fin⟩
theorem sc_it : FnScope ["self"] ["self"] (defScope sIniT) := ⟨rfl, rfl, rfl, by decide +kernel, rfl, by decide +kernel, by decide +kernel⟩
theorem ok_ini_t (F : FnC K "Table.__init__" sIniT f fd) (G : TG K mg c tM tL tN fK dK) : FnOk P w K mg base CX0 1 f fd ["self"] (spIniT c) := by
  refine F.ok sc_it (fun vs H Q E h => ?_) (fun cdv A outer s H vs Q E hr h => ?_)
  · obtain ⟨x, dx, rfl, _⟩ := h
    rfl
  · obtain ⟨x, dx, rfl, hx, fin⟩ := h
    exact ⟨_, pss_one (ps_fld (pv 0) pe_dnewT rfl), fun r hr0 => ⟨_, rfl, x, _, dx, [], rfl, (upd_ne (ne_of_none hx hr0)).trans hx, G.iT.cl, G.aT, (by show 0 < 1000; decide), fin r hr0⟩⟩
theorem sc_ib : FnScope ["self", "method", "owner"] ["self", "method", "owner"] (defScope sIniB) := ⟨rfl, rfl, rfl, by decide +kernel, rfl, by decide +kernel, by decide +kernel⟩
theorem ok_ini_b (F : FnC K "Bound.__init__" sIniB f fd) (G : TG K mg c tM tL tN fK dK) : FnOk P w K mg base CX0 1 f fd ["self", "method", "owner"] (spIniB c) := by
  refine F.ok sc_ib (fun vs H Q E h => ?_) (fun cdv A outer s H vs Q E hr h => ?_)
  · obtain ⟨x, dx, m, o, rfl, _⟩ := h
    rfl
  · obtain ⟨x, dx, m, o, rfl, hx, fin⟩ := h
    refine ⟨_, pss_cons (ps_fld (pv 0) (pv 1) rfl) (pss_one (ps_fld (pv 0) (pv 2) rfl)), _, rfl, _, rfl, x, _, dx, [], rfl, hx, G.iB.cl, G.aB1, (by show 0 < 1000; decide), _, rfl, _, rfl, x, _, dx, _, rfl, upd_same, G.iB.cl, G.aB2, (by show 1 < 1000; decide), ?_⟩
    rw [upd_upd]
    have e2 : putF "owner" o (putF "method" m []) = ([("method", m), ("owner", o)] : List (Str × V)) := put_new (by decide +kernel)
    rw [e2]
    exact fin
theorem sc_ik : FnScope ["self", "label", "base", "methods"] ["self", "label", "base", "methods"] (defScope sIniK) := ⟨rfl, rfl, rfl, by decide +kernel, rfl, by decide +kernel, by decide +kernel⟩
theorem ok_ini_k (F : FnC K "Kind.__init__" sIniK f fd) (G : TG K mg c tM tL tN fK dK) : FnOk P w K mg base CX0 1 f fd ["self", "label", "base", "methods"] (spIniK c) := by
  refine F.ok sc_ik (fun vs H Q E h => ?_) (fun cdv A outer s H vs Q E hr h => ?_)
  · obtain ⟨x, dx, l, b, m, rfl, _⟩ := h
    rfl
  · obtain ⟨x, dx, l, b, m, rfl, hx, fin⟩ := h
    refine ⟨_, pss_cons (ps_fld (pv 0) (pv 1) rfl) (pss_cons (ps_fld (pv 0) (pv 2) rfl) (pss_one (ps_fld (pv 0) (pv 3) rfl))), _, rfl, _, rfl, x, _, dx, [], rfl, hx, G.iK.cl, G.aK1, (by show 0 < 1000; decide), _, rfl, _, rfl, x, _, dx, _, rfl, upd_same, G.iK.cl, G.aK2, (by show 1 < 1000; decide), ?_⟩
    have e2 : putF "base" b (putF "label" l []) = ([("label", l), ("base", b)] : List (Str × V)) := put_new (by decide +kernel)
    rw [upd_upd, e2]
    refine ⟨_, rfl, _, rfl, x, _, dx, _, rfl, upd_same, G.iK.cl, G.aK3, (by show 2 < 1000; decide), ?_⟩
    rw [upd_upd, put_new2 (by decide +kernel) (by decide +kernel)]
    exact fin
theorem sc_ig : FnScope ["self", "kind"] ["self", "kind"] (defScope sIniG) := ⟨rfl, rfl, rfl, by decide +kernel, rfl, by decide +kernel, by decide +kernel⟩
theorem ok_ini_g (F : FnC K "Thing.__init__" sIniG f fd) (G : TG K mg c tM tL tN fK dK) : FnOk P w K mg base CX0 1 f fd ["self", "kind"] (spIniG c) := by
  refine F.ok sc_ig (fun vs H Q E h => ?_) (fun cdv A outer s H vs Q E hr h => ?_)
  · obtain ⟨x, dx, k, rfl, _⟩ := h
    rfl
  · obtain ⟨x, dx, k, rfl, hx, fin⟩ := h
    refine ⟨_, pss_cons (ps_fld (pv 0) (pv 1) rfl) (pss_one (ps_fld (pv 0) pe_dnewK rfl)), _, rfl, _, rfl, x, _, dx, [], rfl, hx, G.iG.cl, G.aG1, (by show 0 < 1000; decide), fun r hr0 => ?_⟩
    have nxr : x ≠ r := fun e => by rw [e, upd_same] at hr0; cases hr0
    have hr1 : H r = none := by rw [upd_ne nxr.symm] at hr0; exact hr0
    refine ⟨_, rfl, x, _, dx, _, rfl, (upd_ne nxr).trans upd_same, G.iG.cl, G.aG2, (by show 1 < 1000; decide), ?_⟩
    have e2 : putF "fields" (.ref r) (putF "kind" k []) = ([("kind", k), ("fields", .ref r)] : List (Str × V)) := put_new (by decide +kernel)
    rw [e2, upd_comm nxr.symm, upd_upd, upd_comm nxr]
    exact fin r hr1
theorem sc_meth : FnScope ["kind", "name"] ["kind", "name"] (defScope sMethOf) := ⟨rfl, rfl, rfl, by decide +kernel, rfl, by decide +kernel, by decide +kernel⟩
theorem ok_meth (F : FnP K "method_of" sMethOf f fd) (G : TG K mg c tM tL tN fK dK) : FnOk P w K mg base CX0 1 f fd ["kind", "name"] (spMeth c) := by
  refine F.ok sc_meth (fun vs H Q E h => ?_) (fun cdv A outer s H vs Q E hr h => ?_)
  · obtain ⟨k, v, name, n, rfl, _⟩ := h
    rfl
  · obtain ⟨k, v, name, n, rfl, hm, fin⟩ := h
    have hu := hu_of hr
    refine ⟨_, PSs.nox (pss_cons (ps_while PassesOwn.never (pt_cmpR op_notN (pv 0) pe_non (nomark _))
        (pss_cons (ps_if (pt_cmp (pc_din hu (pv 1) (pe_fld (pv 0) rfl))) (pss_one (ps_ret (pe_dget hu (pe_fld (pv 0) rfl) (pv 1) (fun _ _ => rfl)))) pss_nil)
        (pss_one (ps_set (i := 0) sc_meth.nd rfl (Or.inl rfl) (pe_fld (pv 0) rfl)))))
      (pss_one (ps_ret pe_non))), ?_⟩
    refine ⟨fun m σ H' => H' = H ∧ ∃ k, MethR c H name m k v ∧ σ = [some k, some (.str name)], ⟨n, rfl, k, hm, rfl⟩, ?_⟩
    rintro m σ H' ⟨rfl, k, hm, rfl⟩
    cases hm with
    | none => exact ⟨_, rfl, rfl, _, rfl, iteF fin⟩
    | @here a dx mm l b v kvs e em hv =>
      refine ⟨_, rfl, rfl, _, rfl, iteT ⟨fun _ _ => False, fun _ _ h => h.elim, ?_⟩⟩
      refine ⟨_, rfl, _, rfl, a, _, dx, _, _, rfl, e, G.iK.cl, G.aK3, rfl, mm, _, rfl, DGet.k (k := .inr name) em, _, rfl, ?_⟩
      rw [hv]
      refine iteT ⟨_, rfl, a, _, dx, _, _, rfl, e, G.iK.cl, G.aK3, rfl, _, rfl, mm, v, rfl, ?_, fin⟩
      rw [← hv]
      exact DGet.k (k := .inr name) em
    | @up a dx mm l b v kvs n e em hv r =>
      refine ⟨_, rfl, rfl, _, rfl, iteT ⟨fun σ' H2 => H2 = H' ∧ ∃ k, MethR c H' name n k v ∧ σ' = [some k, some (.str name)], fun σ' H2 ⟨e1, k, e2, e3⟩ => ⟨n, Nat.lt_succ_self n, e1, k, e2, e3⟩, ?_⟩⟩
      refine ⟨_, rfl, _, rfl, a, _, dx, _, _, rfl, e, G.iK.cl, G.aK3, rfl, mm, _, rfl, DGet.k (k := .inr name) em, _, rfl, ?_⟩
      rw [hv]
      exact iteF ⟨_, rfl, a, _, dx, _, _, rfl, e, G.iK.cl, G.aK2, rfl, rfl, b, r, rfl⟩
end
end EH

set_option Elab.async false
set_option linter.all false
set_option maxRecDepth 100000
set_option maxHeartbeats 4000000
namespace EH
open PySem PySem.Spec PyProof.Rows L2
theorem ite_snf {a b : Str} {A B : Prop} (e : a = b) (h : B) : if (!decide (V.str a = V.str b)) = true then A else B := by
  rw [decide_eq_true (by rw [e])]
  exact iteF h
theorem ite_snt {a b : Str} {A B : Prop} (e : (a == b) = false) (h : A) : if (!decide (V.str a = V.str b)) = true then A else B := by
  rw [decide_eq_false (fun z => by rw [V.str.inj z] at e; simp at e)]
  exact iteT h
theorem ite_non {v : V} {A B : Prop} (h1 : v = .non → A) (h2 : v ≠ .non → B) : if decide (v = V.non) = true then A else B := by
  by_cases h : v = .non
  · rw [decide_eq_true h]; exact iteT (h1 h)
  · rw [decide_eq_false h]; exact iteF (h2 h)
section
variable {P : Program} {w : World} {K : PySem.W.Frag} {mg : Str → Option Value} {base : Heap} {f : Addr} {fd : FuncData} {c : CC} {tM tL tN : Tok} {fK : Addr} {dK : FuncData}
variable {fKi fKe fTa : Addr} {dKi dKe dTa : FuncData} {C fI : Addr}
structure MG (K : PySem.W.Frag) (mg : Str → Option Value) (c : CC) (fM fB : Addr) (dM dB : FuncData) : Prop where
  mMeth : mg "method_of" = some (.ref fM)
  kMeth : PySem.W.keepIn K (.ref fM) = true
  bMeth : Binds K dM ["kind", "name"] []
  mkB : Mk K c.B fB
  bB : Binds K dB ["self", "method", "owner"] []
  zList : mg "list" = none
variable {fM fB : Addr} {dM dB : FuncData}
theorem sc_part : FnScope ["what", "name", "found"] ["what", "name"] (defScope sPart) := ⟨rfl, rfl, rfl, by decide +kernel, rfl, by decide +kernel, by decide +kernel⟩
theorem ok_part (F : FnP K "part_of" sPart f fd) (G : TG K mg c tM tL tN fK dK) (k : KG K mg fKi fKe fTa dKi dKe dTa) (m : MG K mg c fM fB dM dB) (TE : PySem.ExS.ExTxt P K mg "Threw" "value" "threw" C fI) (GKind : FnOk P w K mg base CX0 1 fKi dKi ["value"] (spKind c))
    (GMeth : FnOk P w K mg base CX0 1 fM dM ["kind", "name"] (spMeth c)) (GB : FnOk P w K mg base CX0 1 fB dB ["self", "method", "owner"] (spIniB c)) : FnOk P w K mg base (L2.CX P w) 3 f fd ["what", "name"] (spPart c C) := by
  refine F.ok sc_part (fun vs H Q E h => ?_) (fun cdv A outer s H vs Q E hr h => ?_)
  · obtain ⟨x, name, rfl, _⟩ := h
    rfl
  · obtain ⟨x, name, rfl, h⟩ := h
    have hu := hu_of hr
    have hr1 : Room 1 (A.deeper (envOfC "part_of" (defScope sPart) s.heap.objs.size f cdv)) := hr.mono (by decide)
    refine ⟨_, pss_cons (ps_if (pt_cmpR op_eq (pe_call GKind hr1 (by rfl) k.mKind k.kKind k.bKind .nil pass0 (pa_cons (pv 0) pa_nil)) pe_str (nomark _))
        (pss_cons (ps_set (i := 2) sc_part.nd rfl (Or.inl rfl) (pe_call GMeth hr1 (by rfl) m.mMeth m.kMeth m.bMeth .nil pass0 (pa_cons (pv 0) (pa_cons (pv 1) pa_nil))))
        (pss_cons (ps_if (pt_cmpR op_isN (pv 2) pe_non (nomark _)) (pss_one (ps_raise rfl (takes_of rfl rfl rfl rfl) (pmk_ex TE hr (pa_cons pe_str pa_nil)))) pss_nil)
        (pss_one (ps_ret (pv 2))))) pss_nil)
      (pss_cons (ps_if (pt_cmpR op_ne (pe_call GKind hr1 (by rfl) k.mKind k.kKind k.bKind .nil pass0 (pa_cons (pv 0) pa_nil)) pe_str (nomark _)) (pss_one (ps_raise rfl (takes_of rfl rfl rfl rfl) (pmk_ex TE hr (pa_cons pe_str pa_nil)))) pss_nil)
      (pss_cons (ps_if (pt_cmp (pc_din hu (pv 1) (pe_fld (pv 0) rfl))) (pss_one (ps_ret (pe_dget hu (pe_fld (pv 0) rfl) (pv 1) (fun _ _ => rfl)))) pss_nil)
      (pss_cons (ps_set (i := 2) sc_part.nd rfl (Or.inl rfl) (pe_call GMeth hr1 (by rfl) m.mMeth m.kMeth m.bMeth .nil pass0 (pa_cons (pe_fld (pv 0) rfl) (pa_cons (pv 1) pa_nil))))
      (pss_cons (ps_if (pt_cmpR op_isN (pv 2) pe_non (nomark _)) (pss_one (ps_raise rfl (takes_of rfl rfl rfl rfl) (pmk_ex TE hr (pa_cons pe_str pa_nil)))) pss_nil)
      (pss_one (ps_ret (pe_make m.mkB GB hr (by rfl) G.mBound m.bB .nil pass0 (pa_cons (pv 2) (pa_cons (pv 0) pa_nil))))))))), ?_⟩
    rcases h with ⟨a, dx, fs, n, v, rfl, ha, hm, q1, q2⟩ | ⟨kd, hk, n1, n2, thr⟩ | ⟨a, dx, kk, mm, kvs, n, v, rfl, ha, hmm, q1, q2⟩
    · refine ⟨_, rfl, _, "class", rfl, .k ha, rfl, _, rfl, ite_st rfl ?_⟩
      refine ⟨_, rfl, _, rfl, _, v, name, n, rfl, hm, ?_⟩
      refine ⟨_, rfl, rfl, _, rfl, ite_non (fun e => ?_) (fun e => ?_)⟩
      · exact ⟨_, rfl, fun d hd => (q2 e).go (Same.refl H) hd⟩
      · exact ⟨_, rfl, q1 e⟩
    · refine ⟨_, rfl, _, kd, rfl, hk, rfl, _, rfl, ite_sf n1 ?_⟩
      refine ⟨_, rfl, _, kd, rfl, hk, rfl, _, rfl, ite_snt n2 ?_⟩
      exact ⟨_, rfl, fun d hd => thr.go (Same.refl H) hd⟩
    · refine ⟨_, rfl, _, "thing", rfl, .g ha, rfl, _, rfl, ite_sf (by decide +kernel) ?_⟩
      refine ⟨_, rfl, _, "thing", rfl, .g ha, rfl, _, rfl, ite_snf rfl ?_⟩
      refine ⟨_, rfl, _, rfl, a, _, dx, _, _, rfl, ha, G.iG.cl, G.aG2, rfl, mm, _, rfl, DGet.k (k := .inr name) hmm, _, rfl, ?_⟩
      cases hv : valV kvs (.inr name) with
      | some u =>
        refine iteT ⟨_, rfl, a, _, dx, _, _, rfl, ha, G.iG.cl, G.aG2, rfl, _, rfl, mm, u, rfl, ?_, q1 u hv⟩
        rw [← hv]
        exact DGet.k (k := .inr name) hmm
      | none =>
        obtain ⟨hm, q3, q4⟩ := q2 hv
        refine iteF ?_
        refine ⟨_, rfl, a, _, dx, _, _, rfl, ha, G.iG.cl, G.aG1, rfl, _, rfl, kk, v, name, n, rfl, hm, ?_⟩
        refine ⟨_, rfl, rfl, _, rfl, ite_non (fun e => ?_) (fun e => ?_)⟩
        · exact ⟨_, rfl, fun d hd => (q3 e).go (Same.refl H) hd⟩
        · refine ⟨_, rfl, _, rfl, fun p dp hp hdp ne => ?_⟩
          refine ⟨p, dp, v, .ref a, rfl, upd_same, rfl, ?_⟩
          rw [upd_upd]
          have s1 : Same H (upd H dp (.own p)) := same_new hdp
          have hp1 : (upd H dp (.own p)) p = none := by rw [upd_ne ne.symm]; exact hp
          exact q4 e p dp _ (s1.trans (same_new hp1)) hp upd_same
theorem sc_put : FnScope ["what", "name", "value"] ["what", "name", "value"] (defScope sPut) := ⟨rfl, rfl, rfl, by decide +kernel, rfl, by decide +kernel, by decide +kernel⟩
theorem ok_put (F : FnP K "put" sPut f fd) (G : TG K mg c tM tL tN fK dK) (k : KG K mg fKi fKe fTa dKi dKe dTa) (TE : PySem.ExS.ExTxt P K mg "Threw" "value" "threw" C fI) (GKind : FnOk P w K mg base CX0 1 fKi dKi ["value"] (spKind c)) :
    FnOk P w K mg base (L2.CX P w) 2 f fd ["what", "name", "value"] (spPut c C) := by
  refine F.ok sc_put (fun vs H Q E h => ?_) (fun cdv A outer s H vs Q E hr h => ?_)
  · obtain ⟨x, v, name, rfl, _⟩ := h
    rfl
  · obtain ⟨x, v, name, rfl, h⟩ := h
    have hu := hu_of hr
    have hr1 := hr
    refine ⟨_, pss_cons (ps_if (pt_cmpR op_ne (pe_call GKind hr1 (by rfl) k.mKind k.kKind k.bKind .nil pass0 (pa_cons (pv 0) pa_nil)) pe_str (nomark _)) (pss_one (ps_raise rfl (takes_of rfl rfl rfl rfl) (pmk_ex TE hr (pa_cons pe_str pa_nil)))) pss_nil)
      (pss_one (ps_dput hu (pe_fld (pv 0) rfl) (pv 1) (pv 2) rfl)), ?_⟩
    rcases h with ⟨kd, hk, n1, thr⟩ | ⟨a, dx, kk, mm, kvs, rfl, ha, hmm, hl, q⟩
    · refine ⟨_, rfl, _, kd, rfl, hk, rfl, _, rfl, ite_snt n1 ?_⟩
      exact ⟨_, rfl, fun d hd => thr.go (Same.refl H) hd⟩
    · refine ⟨_, rfl, _, "thing", rfl, .g ha, rfl, _, rfl, ite_snf rfl ?_⟩
      exact ⟨_, rfl, _, rfl, a, _, dx, _, _, rfl, ha, G.iG.cl, G.aG2, rfl, _, rfl, mm, _, rfl, DPut.k (k := .inr name) hmm (Nat.lt_of_le_of_lt hl (by decide)), q⟩
theorem sc_row : FnScope ["what", "kind", "key"] ["what"] (defScope sRow) := ⟨rfl, rfl, rfl, by decide +kernel, rfl, by decide +kernel, by decide +kernel⟩
theorem ok_row (F : FnP K "row_to_walk" sRow f fd) (G : TG K mg c tM tL tN fK dK) (k : KG K mg fKi fKe fTa dKi dKe dTa) (m : MG K mg c fM fB dM dB) (TE : PySem.ExS.ExTxt P K mg "Threw" "value" "threw" C fI) (GKind : FnOk P w K mg base CX0 1 fKi dKi ["value"] (spKind c)) :
    FnOk P w K mg base (L2.CX P w) 2 f fd ["what"] (spRow c C) := by
  refine F.ok sc_row (fun vs H Q E h => ?_) (fun cdv A outer s H vs Q E hr h => ?_)
  · obtain ⟨x, rfl, _⟩ := h
    rfl
  · obtain ⟨x, rfl, h⟩ := h
    have hu := hu_of hr
    have hr1 := hr
    refine ⟨_, pss_cons (ps_set (i := 1) sc_row.nd rfl (Or.inl rfl) (pe_call GKind hr1 (by rfl) k.mKind k.kKind k.bKind .nil pass0 (pa_cons (pv 0) pa_nil)))
      (pss_cons (ps_if (pt_cmpR op_eq (pv 1) pe_str (nomark _)) (pss_one (ps_ret (pe_callTy call_list_of (by rfl) m.zList (by decide +kernel) (pa_cons (pe_fld (pv 0) rfl) pa_nil)))) pss_nil)
      (pss_cons (ps_if (pt_cmpR op_eq (pv 1) pe_str (nomark _)) (pss_one (ps_ret (pe_lock (pe_lc (own := [("key", 2)]) (g := gName 2) (tt := tYes) rfl sc_row.nd (pi_keys (pe_fld (pv 0) rfl)) (blkOk_by (N := ["what", "kind", "key"]) (sc := defScope sRow) (by decide +kernel)) (fun _ _ _ _ _ => pg_name (i := 2) sc_row.nd rfl (Or.inl rfl)) (fun _ _ _ _ _ => pts_nil) (fun _ _ _ _ _ => pe_ix (r := rIxT K) (by exact ix_tup) (pv 2) pe_int (fun _ _ => rfl)))))) pss_nil)
      (pss_cons (ps_if (pt_cmpR op_eq (pv 1) pe_str (nomark _)) (pss_one (ps_ret (pe_callTy (call_list_txt rfl) (by rfl) m.zList (by decide +kernel) (pa_cons (pv 0) pa_nil)))) pss_nil)
      (pss_one (ps_raise rfl (takes_of rfl rfl rfl rfl) (pmk_ex TE hr (pa_cons pe_str pa_nil))))))), ?_⟩
    rcases h with ⟨kd, hk, n1, n2, n3, thr⟩ | ⟨a, dx, r, xs, rfl, ha, hrr, fin⟩ | ⟨a, dx, r, kvs, ns, rfl, ha, hrr, hks, hns, fin⟩ | ⟨l, rfl, hl, fin⟩
    · refine ⟨_, rfl, _, kd, rfl, hk, ?_⟩
      refine ⟨_, rfl, rfl, _, rfl, ite_sf n1 ?_⟩
      refine ⟨_, rfl, rfl, _, rfl, ite_sf n2 ?_⟩
      refine ⟨_, rfl, rfl, _, rfl, ite_sf n3 ?_⟩
      exact ⟨_, rfl, fun d hd => thr.go (Same.refl H) hd⟩
    · refine ⟨_, rfl, _, "list", rfl, .i ha, ?_⟩
      refine ⟨_, rfl, rfl, _, rfl, ite_st rfl ?_⟩
      exact ⟨_, rfl, a, _, dx, _, _, rfl, ha, G.iI.cl, G.aI, rfl, r, xs, rfl, Or.inl (Or.inl (Or.inl hrr)), fun p hp => fin p _ (same_new hp) hp upd_same⟩
    · refine ⟨_, rfl, _, "map", rfl, .t ha, ?_⟩
      refine ⟨_, rfl, rfl, _, rfl, ite_sf (by decide +kernel) ?_⟩
      refine ⟨_, rfl, rfl, _, rfl, ite_st rfl ?_⟩
      have nar : a ≠ r := fun e => by rw [e, hrr] at ha; cases ha
      refine ⟨r, _, hrr, True.intro, fun od => ?_⟩
      refine ⟨_, rfl, a, _, dx, _, _, rfl, (upd_ne nar).trans ha, G.iT.cl, G.aT, rfl, r, od, rfl, Or.inr ⟨kvs, upd_same, fun D hD => ?_⟩⟩
      have nDr : D ≠ r := fun e => by rw [e, upd_same] at hD; cases hD
      have hD0 : H D = none := by rw [upd_ne nDr] at hD; exact hD
      have hl : kvs.length = ns.length := by have := congrArg List.length hks; rwa [List.length_map, List.length_map] at this
      refine lc_it walk_keysT (fun i H' => i ≤ ns.length ∧ H' D = some (.lst ((ns.take i).map V.int)) ∧ H' r = some (.frz od (.dT kvs)) ∧ ∀ b o, b ≠ r → b ≠ D → H b = some o → H' b = some o) ?_ ?_ ?_ ?_
      · exact ⟨Nat.zero_le _, upd_same, (upd_ne nDr.symm).trans upd_same, fun b o n1 n2 e => by rw [upd_ne n2, upd_ne n1]; exact e⟩
      · rintro i H' _ ⟨_, _, h3, _⟩
        exact h3
      · rintro i y H' H'' hi ⟨h1, h2, h3, h4⟩ ⟨rfl, kk, vv, q, e1, rfl, e3⟩
        refine ⟨rfl, ?_⟩
        have hin : i < ns.length := by omega
        have ek : kk = tkey ns[i] := by
          have z : (kvs.map (·.1))[i]? = some kk := by rw [List.getElem?_map, e1]; rfl
          rw [hks, List.getElem?_map, List.getElem?_eq_getElem hin] at z
          exact (Option.some.inj z).symm
        subst ek
        refine ⟨_, rfl, q, _, 1, .int ns[i], rfl, rfl, Or.inl (Or.inl e3), rfl, _, h2, ?_, by omega, ?_, ?_, ?_⟩
        · rw [List.length_map, List.length_take]
          exact Nat.lt_of_le_of_lt (Nat.le_trans (Nat.min_le_right _ _) hns) (by decide)
        · rw [upd_same, List.take_add_one, List.getElem?_eq_getElem hin, List.map_append]
          rfl
        · rw [upd_ne nDr.symm]; exact h3
        · intro b o n1 n2 e
          rw [upd_ne n2]
          exact h4 b o n1 n2 e
      · rintro H' ⟨_, h2, h3, h4⟩
        rw [hl, List.take_length] at h2
        refine ⟨h3, fin D _ (fun b o e => ?_) hD0 ((upd_ne nDr).trans h2)⟩
        by_cases n1 : b = r
        · subst n1
          rw [upd_same, ← e, hrr]
        · rw [upd_ne n1]
          exact h4 b o n1 (fun z => by rw [z, hD0] at e; cases e) e
    · refine ⟨_, rfl, _, "text", rfl, .str _, ?_⟩
      refine ⟨_, rfl, rfl, _, rfl, ite_sf (by decide +kernel) ?_⟩
      refine ⟨_, rfl, rfl, _, rfl, ite_sf (by decide +kernel) ?_⟩
      refine ⟨_, rfl, rfl, _, rfl, ite_st rfl ?_⟩
      exact ⟨_, rfl, l, rfl, by omega, fun p hp => fin p _ (same_new hp) hp upd_same⟩
end
end EH

set_option Elab.async false
set_option linter.all false
set_option maxRecDepth 100000
set_option maxHeartbeats 4000000
namespace EH
open PySem PySem.Spec PyProof.Rows L2
/-- a def whose code object stands at cd -/
theorem okC {P : Program} {w : World} {K : PySem.W.Frag} {mg : Str → Option Value} {base : Heap} {x qual : Str} {params : Arguments} {body : List Stmt} {scope : Scope} {dvs : List V} {kws : List (Str × V)} {f cd : Addr} {fd : FuncData} {CX : CXT} {N ps : List Str} {k : Nat} {sp : Sp}
    (F : FunD K x qual params body scope dvs kws f fd) (hc : fd.code = .ref cd) (S : FnScope N ps scope) (len : ∀ vs H Q E, sp vs H Q E → vs.length = ps.length)
    (hbody : ∀ (A : Around) (outer : List Env) (s : Shared) (H : Hp) (vs : List V) (Q : VK) (E : XK), Room k (A.deeper (envOfC qual scope s.heap.objs.size f (.ref cd))) → sp vs H Q E →
      ∃ t, PSs (cxOf CX P w K mg base N qual scope f (.ref cd) A outer s H E) body t ∧ t { nx := fun _ H' => Q .non H', rt := Q } (start N vs) H) : FnOk P w K mg base CX (k + 1) f fd ps sp := by
  obtain ⟨oc, od, dV, kV, doc, pm, an, cdv, ct, osl, rfl, lk, hcd, _, _⟩ := F.ex
  have e : cdv = .ref cd := hc
  subst e
  exact fn_of lk hcd S len fun A outer s H vs Q E hr hsp => hbody A outer s H vs Q E hr hsp
/-- x not in 'signs', of one sign -/
theorem elt_notIn {prog : Program} {w : World} {scope : Scope} {x k : Str} {j : Nat} {p1 p2 p3 : Pos} (hk : scope.kind = .function) (hl : scope.names.lookup x = some .local) (hd : (x == ("__debug__" : Str)) = false := by decide) (hm : behindInMarks .NotIn (.Constant (.str k) j p2) = false := by rfl) :
    GxR.EltP prog w scope x (.Compare (.Name x p1) [.NotIn] [.Constant (.str k) j p2] p3) (fun c => !decide (c ∈ k.cps.toList)) := by
  intro cenv A' E' c t s₂ m₂ hs hn hm2
  refine wpAny_Compare1 ?_
  refine wpAny_Name (wpAny_loadName_local (by rw [hs]; exact hk) (show cenv.scope.names.lookup x = some .local by rw [hs]; exact hl) hn hm2 ?_) hd
  refine Calls.Constant_str ?_
  refine PyProof.Rows.notIn_str ?_
  exact ⟨congrArg (fun b => Value.bool (!b)) (PySem.StrLaws.found_one k c), GxR.keeps_tok _ _⟩
theorem no_free {env : Env} {names : List (Str × NameKind)} (h : (names.all fun y => decide (y.2 ≠ .free)) = true) : ∀ y ∈ names, y.2 = .free → ∃ c, env.cells.lookup y.1 = some c := fun y hy e => absurd e (of_decide_eq_true (List.all_eq_true.mp h y hy))
theorem fig_dig : ∀ d ∈ [48, 49, 50, 51, 52, 53, 54, 55, 56, 57], (decide (48 ≤ d) && decide (d ≤ 57)) = true := by decide
abbrev sRest : Stmt := top 26
def figL : List Nat := [48, 49, 50, 51, 52, 53, 54, 55, 56, 57]
def spRest (K : PySem.W.Frag) (c : CC) (C Pt : Addr) : Sp := fun vs H Q E => ∃ (lab kd : Str) (one : V) (rw : Addr), vs = [.str lab, one, .str kd, .ref rw] ∧ GxR.TabG H Pt ∧
  ((∃ l : List Nat, lab = "int" ∧ kd = "text" ∧ one = .str (S l) ∧ l ≠ [] ∧ l.length ≤ 12 ∧ (∀ d ∈ l, d ∈ figL) ∧ ∀ H', GxR.Tabbed Pt H H' → Q (.int (NumText.digitsVal l : Nat)) H') ∨
   (∃ l : List Nat, lab = "int" ∧ kd = "text" ∧ one = .str (S l) ∧ l.length ≤ 12 ∧ (l = [] ∨ ∃ d ∈ l, d ∉ figL) ∧ ThrS C "number" H E ∧ ∀ H', GxR.Tabbed Pt H H' → ThrS C "number" H' E) ∨
   (∃ (a dx : Addr) (k : V) (mm : Addr) (kvs : List (Key × V)) (name : Str) (n : Nat) (v : V), lab = "has" ∧ kd = "thing" ∧ one = .ref a ∧ H a = some (.ins c.G dx [("kind", k), ("fields", .ref mm)]) ∧ H mm = some (.dK kvs) ∧ SqL K H rw [one, .str name] ∧
     ((valV kvs (.inr name)).isSome = true → Q (.bl true) H) ∧ (valV kvs (.inr name) = none → MethR c H name n k v ∧ Q (.bl (!decide (v = .non))) H)) ∨
   ((lab == "int" && kd == "text") = false ∧ (lab == "has" && kd == "thing") = false ∧ ThrS C "kind" H E))
section
variable {P : Program} {w : World} {K : PySem.W.Frag} {mg : Str → Option Value} {base : Heap} {f cd Pt : Addr} {fd : FuncData} {c : CC} {tM tL tN : Tok} {fK : Addr} {dK : FuncData}
variable {fKi fKe fTa : Addr} {dKi dKe dTa : FuncData} {C fI : Addr} {fM fB : Addr} {dM dB : FuncData}
structure RG (base : Heap) (mg : Str → Option Value) (cd Pt : Addr) : Prop where
  zAny : mg "any" = none
  tb : GxR.TabB base mg cd Pt
theorem sc_rest : FnScope ["label", "one", "kind", "row"] ["label", "one", "kind", "row"] (defScope sRest) := ⟨rfl, rfl, rfl, by decide +kernel, rfl, by decide +kernel, by decide +kernel⟩
theorem ok_rest (F : FnP K "own_rest" sRest f fd) (hcd : fd.code = .ref cd) (G : TG K mg c tM tL tN fK dK) (k : KG K mg fKi fKe fTa dKi dKe dTa) (m : MG K mg c fM fB dM dB) (n : RG base mg cd Pt) (TE : PySem.ExS.ExTxt P K mg "Threw" "value" "threw" C fI)
    (GKind : FnOk P w K mg base CX0 1 fKi dKi ["value"] (spKind c)) (GMeth : FnOk P w K mg base CX0 1 fM dM ["kind", "name"] (spMeth c)) : FnOk P w K mg base (L2.CX P w) 2 f fd ["label", "one", "kind", "row"] (spRest K c C Pt) := by
  refine okC F hcd sc_rest (fun vs H Q E h => ?_) (fun A outer s H vs Q E hr h => ?_)
  · obtain ⟨lab, kd, one, rw, rfl, _⟩ := h
    rfl
  · obtain ⟨lab, kd, one, rw, rfl, hT, h⟩ := h
    have hu := hu_of hr
    have hr1 := hr
    refine ⟨_, pss_cons (ps_if (pw_and (pt_cmpR op_eq (pv 0) pe_str (nomark _)) (pw_and1 (pt_cmpR op_eq (pv 2) pe_str (nomark _)))).pt
        (pss_cons (ps_if (pw_or (pt_cmpR op_eq (pv 1) pe_str (nomark _)) (pw_or (pt_cmpR op_gt (pe_callB call_len_str (by rfl) G.zLen PySem.boot_len (pa_cons (pv 1) pa_nil)) pe_int (nomark _)) (pw_or1 (pt_val (GxR.pe_anyS hr (by rfl) n.zAny n.tb rfl ⟨rfl, rfl, by decide, rfl, rfl, no_free (by rfl)⟩ (pv 1) (elt_notIn rfl rfl) (fun _ => rfl)))))).pt (pss_one (ps_raise rfl (takes_of rfl rfl rfl rfl) (pmk_ex TE hr (pa_cons pe_str pa_nil)))) pss_nil)
        (pss_one (ps_ret (pe_callTy call_int_str (by rfl) G.zInt (by decide +kernel) (pa_cons (pv 1) pa_nil)))))
        pss_nil)
      (pss_cons (ps_if (pw_and (pt_cmpR op_eq (pv 0) pe_str (nomark _)) (pw_and (pt_cmpR op_eq (pv 2) pe_str (nomark _)) (pw_and1 (pt_cmpR op_eq (pe_call GKind hr1 (by rfl) k.mKind k.kKind k.bKind .nil pass0 (pa_cons (pe_ix ix_list (pv 3) pe_int (fun _ _ => rfl)) pa_nil)) pe_str (nomark _))))).pt
        (pss_one (ps_ret (pe_or (pe_cmp (pc_din hu (pe_ix ix_list (pv 3) pe_int (fun _ _ => rfl)) (pe_fld (pv 1) rfl))) (pe_one (pe_cmpR op_notN (pe_call GMeth hr1 (by rfl) m.mMeth m.kMeth m.bMeth .nil pass0 (pa_cons (pe_fld (pv 1) rfl) (pa_cons (pe_ix ix_list (pv 3) pe_int (fun _ _ => rfl)) pa_nil))) pe_non (nomark _))))))
        pss_nil)
      (pss_one (ps_raise rfl (takes_of rfl rfl rfl rfl) (pmk_ex TE hr (pa_cons pe_str pa_nil))))), ?_⟩
    have e0 : (("" : Str)) = S [] := by kernel_rfl
    have eF : (("0123456789" : Str)) = S figL := by kernel_rfl
    rcases h with ⟨l, rfl, rfl, rfl, hne, hl, hd, fin⟩ | ⟨l, rfl, rfl, rfl, hl, hbad, thr0, thr⟩ | ⟨a, dx, kk, mm, kvs, name, n, v, rfl, rfl, rfl, ha, hmm, hS, q1, q2⟩ | ⟨n1, n2, thr⟩
    · refine ⟨_, rfl, rfl, _, rfl, ite_st rfl ⟨_, rfl, rfl, _, rfl, ite_st rfl ?_⟩⟩
      refine ⟨_, rfl, rfl, _, rfl, ?_⟩
      rw [e0, dec_strS, decide_eq_false hne]
      refine iteF ⟨_, rfl, _, rfl, lenS (by omega), _, _, rfl, rfl, _, rfl, ?_⟩
      rw [S_len, decide_eq_false (by omega : ¬ ((12 : Int) < (l.length : Int)))]
      refine iteF ⟨_, rfl, S l, rfl, hT, fun H2 tb => ⟨_, rfl, ?_⟩⟩
      refine ite_is (c := false) ?_ (iteF ?_)
      · rw [S_tl, eF, S_tl]
        exact List.any_eq_false.mpr fun d hd' => by simp [hd d hd']
      · refine ⟨_, rfl, S l, _, rfl, SX.int_S (List.all_eq_true.mpr fun d q => fig_dig d (hd d q)) hne (by omega), by rw [S_len]; omega, fin H2 tb⟩
    · refine ⟨_, rfl, rfl, _, rfl, ite_st rfl ⟨_, rfl, rfl, _, rfl, ite_st rfl ?_⟩⟩
      refine ⟨_, rfl, rfl, _, rfl, ?_⟩
      rw [e0, dec_strS]
      by_cases hne : l = []
      · rw [decide_eq_true hne]
        exact iteT (iteT ⟨_, rfl, fun d hd => thr0.go (Same.refl H) hd⟩)
      · rw [decide_eq_false hne]
        refine iteF ⟨_, rfl, _, rfl, lenS (by omega), _, _, rfl, rfl, _, rfl, ?_⟩
        rw [S_len, decide_eq_false (by omega : ¬ ((12 : Int) < (l.length : Int)))]
        refine iteF ⟨_, rfl, S l, rfl, hT, fun H2 tb => ⟨_, rfl, ?_⟩⟩
        refine ite_is (c := true) ?_ (iteT ⟨_, rfl, fun d hd => (thr H2 tb).go (Same.refl H2) hd⟩)
        rw [S_tl, eF, S_tl]
        rcases hbad with h | ⟨d, h1, h2⟩
        · exact absurd h hne
        · exact List.any_eq_true.mpr ⟨d, h1, by simp [h2]⟩
    · refine ⟨_, rfl, rfl, _, rfl, ite_sf (by decide +kernel) (iteF ?_)⟩
      refine ⟨_, rfl, rfl, _, rfl, ite_st rfl ⟨_, rfl, rfl, _, rfl, ite_st rfl ?_⟩⟩
      refine ⟨_, rfl, rw, _, 1, .str name, rfl, rfl, hS, rfl, _, "text", rfl, .str _, rfl, _, rfl, ite_st rfl ?_⟩
      refine ⟨_, rfl, rw, _, 1, .str name, rfl, rfl, hS, rfl, _, rfl, a, _, dx, _, _, rfl, ha, G.iG.cl, G.aG2, rfl, mm, _, rfl, DGet.k (k := .inr name) hmm, _, rfl, ?_⟩
      cases hv : valV kvs (.inr name) with
      | some u => exact iteT (q1 (by rw [hv]; rfl))
      | none =>
        obtain ⟨hm, q3⟩ := q2 hv
        exact iteF ⟨_, rfl, a, _, dx, _, _, rfl, ha, G.iG.cl, G.aG1, rfl, _, rfl, rw, _, 1, .str name, rfl, rfl, hS, rfl, kk, v, name, n, rfl, hm, rfl, q3⟩
    · have fin : ∀ d, H d = none → E (.ref C) (some d) (upd H d (.xd [("value", .str "kind")])) := fun d hd => thr.go (Same.refl H) hd
      have bs : ∀ {a b : Str}, ¬ a = b → (a == b) = false := fun h => by simpa using h
      by_cases e1 : lab = "int"
      · have n1' : (kd == "text") = false := by rw [e1] at n1; simpa using n1
        refine ⟨_, rfl, rfl, _, rfl, ite_st e1 ⟨_, rfl, rfl, _, rfl, ite_sf n1' ?_⟩⟩
        refine ⟨_, rfl, rfl, _, rfl, ite_sf (by rw [e1]; decide +kernel) (iteF ⟨_, rfl, fin⟩)⟩
      · refine ⟨_, rfl, rfl, _, rfl, ite_sf (bs e1) (iteF ?_)⟩
        by_cases e2 : lab = "has"
        · have n2' : (kd == "thing") = false := by rw [e2] at n2; simpa using n2
          exact ⟨_, rfl, rfl, _, rfl, ite_st e2 ⟨_, rfl, rfl, _, rfl, ite_sf n2' (iteF ⟨_, rfl, fin⟩)⟩⟩
        · exact ⟨_, rfl, rfl, _, rfl, ite_sf (bs e2) (iteF ⟨_, rfl, fin⟩)⟩
end
end EH

set_option Elab.async false
set_option linter.all false
set_option maxRecDepth 100000
set_option maxHeartbeats 4000000
namespace EH
open PySem PySem.Spec PyProof.Rows L2
/-- len of a list, of a dict with tuples as keys -/
theorem call_len_any {X : Cx} : CallR X (.builtin "len") (fun xs H Q => (∃ p ys, xs = [.ref p] ∧ (SqL X.K H p ys ∨ SqT X.K H p ys) ∧ Q (.int ys.length) H) ∨ rLenT xs H Q) := by
  intro pins s σ H xs us Q I r h
  rcases h with h | h
  · exact call_len_seq pins s σ H xs us Q I r h
  · exact call_len_dT pins s σ H xs us Q I r h
def kvW : List (Key × V) := [(.inr "push", .int 2), (.inr "has", .int 2)]
theorem w_len : ((valV (mergeK ([] : List (Key × V)) kvW) (.inr "len")).getD (.int 1)) = .int 1 := by kernel_rfl
theorem w_kind : ((valV (mergeK ([] : List (Key × V)) kvW) (.inr "kind")).getD (.int 1)) = .int 1 := by kernel_rfl
theorem w_text : ((valV (mergeK ([] : List (Key × V)) kvW) (.inr "text")).getD (.int 1)) = .int 1 := by kernel_rfl
theorem w_range : ((valV (mergeK ([] : List (Key × V)) kvW) (.inr "range")).getD (.int 1)) = .int 1 := by kernel_rfl
theorem w_pop : ((valV (mergeK ([] : List (Key × V)) kvW) (.inr "pop")).getD (.int 1)) = .int 1 := by kernel_rfl
theorem w_keys : ((valV (mergeK ([] : List (Key × V)) kvW) (.inr "keys")).getD (.int 1)) = .int 1 := by kernel_rfl
theorem w_int : ((valV (mergeK ([] : List (Key × V)) kvW) (.inr "int")).getD (.int 1)) = .int 1 := by kernel_rfl
theorem w_push : ((valV (mergeK ([] : List (Key × V)) kvW) (.inr "push")).getD (.int 1)) = .int 2 := by kernel_rfl
theorem w_has : ((valV (mergeK ([] : List (Key × V)) kvW) (.inr "has")).getD (.int 1)) = .int 2 := by kernel_rfl
theorem KindOf.same {c : CC} {H H' : Hp} {x : V} {k : Str} (h : KindOf c H x k) (s : Same H H') : KindOf c H' x k := by
  cases h with
  | non => exact .non
  | bl b => exact .bl b
  | int i => exact .int i
  | str z => exact .str z
  | i e => exact .i (s _ _ e)
  | t e => exact .t (s _ _ e)
  | k e => exact .k (s _ _ e)
  | g e => exact .g (s _ _ e)
  | b e => exact .b (s _ _ e)
theorem same_upd2 {H H' : Hp} {r : Addr} {o : HO} (s : Same H H') : Same (upd H r o) (upd H' r o) := fun b u e => by
  by_cases q : b = r
  · subst q; rw [upd_same] at e ⊢; exact e
  · rw [upd_ne q] at e ⊢; exact s _ _ e
theorem ite_nsame {a b : Int} {A B : Prop} (e : a ≠ b) (h : A) : if (!decide (V.int a = V.int b)) = true then A else B := by
  rw [decide_eq_false (fun z => e (V.int.inj z))]
  exact iteT h
/-- what own answers -/
inductive OwnC (K : PySem.W.Frag) (c : CC) (C Pt : Addr) (H : Hp) (rw : Addr) (Q : VK) (E : XK) : Str → List V → Prop
  | count0 (thr : ThrS C "count" H E) : OwnC K c C Pt H rw Q E "len" []
  | count1 {x : V} (thr : ThrS C "count" H E) : OwnC K c C Pt H rw Q E "push" [x]
  | kind {x : V} {k : Str} (hk : KindOf c H x k) (q : ∀ H', Same H H' → Q (.str k) H') : OwnC K c C Pt H rw Q E "kind" [x]
  | text {n : Nat} (hn : n < 100000) (q : ∀ H', Same H H' → Q (.str (S (TL.numL n))) H') : OwnC K c C Pt H rw Q E "text" [.int (n : Int)]
  | lenL {a dx r : Addr} {ys : List V} (ha : H a = some (.ins c.I dx [("row", .ref r)])) (hr : H r = some (.lst ys)) (q : ∀ H', Same H H' → Q (.int (ys.length : Nat)) H') : OwnC K c C Pt H rw Q E "len" [.ref a]
  | lenT {a dx r : Addr} {kvs : List (List Key × V)} (ha : H a = some (.ins c.T dx [("row", .ref r)])) (hr : H r = some (.dT kvs)) (q : ∀ H', Same H H' → Q (.int (kvs.length : Nat)) H') : OwnC K c C Pt H rw Q E "len" [.ref a]
  | lenS {l : List Nat} (hl : l.length ≤ 1000) (q : ∀ H', Same H H' → Q (.int (l.length : Nat)) H') : OwnC K c C Pt H rw Q E "len" [.str (S l)]
  | rng {i : Int} (hi : i ≤ 500) (q : ∀ a dx r H', Same H H' → H a = none → H' a = some (.ins c.I dx [("row", .ref r)]) → H' r = some (.lst ((List.range i.toNat).map fun j : Nat => V.int (j : Int))) → Q (.ref a) H') : OwnC K c C Pt H rw Q E "range" [.int i]
  | rngBad {i : Int} (hi : 500 < i) (thr : ThrS C "large" H E) : OwnC K c C Pt H rw Q E "range" [.int i]
  | push {a dx r : Addr} {ys : List V} {v : V} (ha : H a = some (.ins c.I dx [("row", .ref r)])) (hr : H r = some (.lst ys)) (hl : ys.length ≤ 400) (q : ∀ H', Same (upd H r (.lst (ys ++ [v]))) H' → Q .non H') : OwnC K c C Pt H rw Q E "push" [.ref a, v]
  | popE {a dx r : Addr} (ha : H a = some (.ins c.I dx [("row", .ref r)])) (hr : H r = some (.lst [])) (thr : ThrS C "empty" H E) : OwnC K c C Pt H rw Q E "pop" [.ref a]
  | pop {a dx r : Addr} {ns : List Int} {n : Int} (ha : H a = some (.ins c.I dx [("row", .ref r)])) (hr : H r = some (.lst ((ns ++ [n]).map V.int))) (q : ∀ H', Same (upd H r (.lst (ns.map V.int))) H' → Q (.int n) H') : OwnC K c C Pt H rw Q E "pop" [.ref a]
  | keys {a dx r : Addr} {kvs : List (List Key × V)} {ns : List Int} (ha : H a = some (.ins c.T dx [("row", .ref r)])) (hr : H r = some (.dT kvs)) (hks : kvs.map (·.1) = ns.map tkey) (hns : ns.length ≤ 500)
      (q : ∀ b dx r H', Same H H' → H b = none → H' b = some (.ins c.I dx [("row", .ref r)]) → H' r = some (.lst (ns.map V.int)) → Q (.ref b) H') : OwnC K c C Pt H rw Q E "keys" [.ref a]
  | r_int_text {x : V} (hk : KindOf c H x "text") (q : ∀ H', Same H H' → spRest K c C Pt [.str "int", x, .str "text", .ref rw] H' Q E) : OwnC K c C Pt H rw Q E "int" [x]
  | r_has_thing {x y : V} (hk : KindOf c H x "thing") (q : ∀ H', Same H H' → spRest K c C Pt [.str "has", x, .str "thing", .ref rw] H' Q E) : OwnC K c C Pt H rw Q E "has" [x, y]
  | r_has_list {x y : V} (hk : KindOf c H x "list") (q : ∀ H', Same H H' → spRest K c C Pt [.str "has", x, .str "list", .ref rw] H' Q E) : OwnC K c C Pt H rw Q E "has" [x, y]
  | r_keys_list {x : V} (hk : KindOf c H x "list") (q : ∀ H', Same H H' → spRest K c C Pt [.str "keys", x, .str "list", .ref rw] H' Q E) : OwnC K c C Pt H rw Q E "keys" [x]
  | r_pop_text {x : V} (hk : KindOf c H x "text") (q : ∀ H', Same H H' → spRest K c C Pt [.str "pop", x, .str "text", .ref rw] H' Q E) : OwnC K c C Pt H rw Q E "pop" [x]
  | r_len_int {x : V} (hk : KindOf c H x "int") (q : ∀ H', Same H H' → spRest K c C Pt [.str "len", x, .str "int", .ref rw] H' Q E) : OwnC K c C Pt H rw Q E "len" [x]
def spOwn (K : PySem.W.Frag) (c : CC) (C Pt : Addr) : Sp := fun vs H Q E => ∃ (lab : Str) (rw : Addr) (xs : List V), vs = [.str lab, .ref rw] ∧ H rw = some (.lst xs) ∧ OwnC K c C Pt H rw Q E lab xs
abbrev sOwn : Stmt := top 25
section
variable {P : Program} {w : World} {K : PySem.W.Frag} {mg : Str → Option Value} {base : Heap} {f cd Pt : Addr} {fd : FuncData} {c : CC} {tM tL tN : Tok} {fK : Addr} {dK : FuncData}
variable {fKi fKe fTa : Addr} {dKi dKe dTa : FuncData} {C fI : Addr} {fM fB : Addr} {dM dB : FuncData}
structure OG (K : PySem.W.Frag) (mg : Str → Option Value) (c : CC) (fFi fTo fRe fIi : Addr) (dFi dTo dRe dIi : FuncData) : Prop where
  mFit : mg "fitting" = some (.ref fFi)
  kFit : PySem.W.keepIn K (.ref fFi) = true
  bFit : Binds K dFi ["value"] []
  mTo : mg "text_of" = some (.ref fTo)
  kTo : PySem.W.keepIn K (.ref fTo) = true
  bTo : Binds K dTo ["value"] []
  mRest : mg "own_rest" = some (.ref fRe)
  kRest : PySem.W.keepIn K (.ref fRe) = true
  bRest : Binds K dRe ["label", "one", "kind", "row"] []
  mkI : Mk K c.I fIi
  bI : Binds K dIi ["self", "row"] []
  zRange : mg "range" = none
  zMax : mg "max" = none
variable {fFi fTo fRe fIi : Addr} {dFi dTo dRe dIi : FuncData}
theorem sc_own : FnScope ["label", "row", "wants", "one", "kind", "key"] ["label", "row"] (defScope sOwn) := ⟨rfl, rfl, rfl, by decide +kernel, rfl, by decide +kernel, by decide +kernel⟩
theorem ok_own (F : FnP K "own" sOwn f fd) (G : TG K mg c tM tL tN fK dK) (k : KG K mg fKi fKe fTa dKi dKe dTa) (m : MG K mg c fM fB dM dB) (o : OG K mg c fFi fTo fRe fIi dFi dTo dRe dIi) (TE : PySem.ExS.ExTxt P K mg "Threw" "value" "threw" C fI)
    (GKind : FnOk P w K mg base CX0 1 fKi dKi ["value"] (spKind c)) (GFit : FnOk P w K mg base CX0 1 fFi dFi ["value"] (spFit c)) (GTo : FnOk P w K mg base CX0 3 fTo dTo ["value"] spTInt) (GI : FnOk P w K mg base CX0 1 fIi dIi ["self", "row"] (spIniI c))
    (GRest : FnOk P w K mg base (L2.CX P w) 2 fRe dRe ["label", "one", "kind", "row"] (spRest K c C Pt)) : FnOk P w K mg base (L2.CX P w) 4 f fd ["label", "row"] (spOwn K c C Pt) := by
  refine F.ok sc_own (fun vs H Q E h => ?_) (fun cdv A outer s H vs Q E hr h => ?_)
  · obtain ⟨lab, rw, xs, rfl, _⟩ := h
    rfl
  · have hu := hu_of hr
    have hu64 : (A.deeper (envOfC "own" (defScope sOwn) s.heap.objs.size f cdv)).units + 64 < cLine := hr.units
    have hr1 : Room 1 (A.deeper (envOfC "own" (defScope sOwn) s.heap.objs.size f cdv)) := hr.mono (by decide)
    have hr2 : Room 2 (A.deeper (envOfC "own" (defScope sOwn) s.heap.objs.size f cdv)) := hr.mono (by decide)
    have hr3 : Room 3 (A.deeper (envOfC "own" (defScope sOwn) s.heap.objs.size f cdv)) := hr
    refine ⟨_, pss_cons (ps_set (i := 2) sc_own.nd rfl (Or.inl rfl) (pe_dget2 hu (pe_disp (pps_cons pe_str pe_int (pps_cons pe_str pe_int pps_nil)) rfl rfl (by simp) (by simp)) (pv 0) pe_int ⟨rfl, rfl, rfl, rfl⟩))
      (pss_cons (ps_if (pt_cmpR op_ne (pe_callB call_len_seq (by rfl) G.zLen PySem.boot_len (pa_cons (pv 1) pa_nil)) (pv 2) (nomark _)) (pss_one (ps_raise rfl (takes_of rfl rfl rfl rfl) (pmk_ex TE hr (pa_cons pe_str pa_nil)))) pss_nil)
      (pss_cons (ps_set (i := 3) sc_own.nd rfl (Or.inl rfl) (pe_ix ix_list (pv 1) pe_int (fun _ _ => rfl)))
      (pss_cons (ps_set (i := 4) sc_own.nd rfl (Or.inl rfl) (pe_call GKind hr1 (by rfl) k.mKind k.kKind k.bKind .nil pass0 (pa_cons (pv 3) pa_nil)))
      (pss_cons (ps_if (pt_cmpR op_eq (pv 0) pe_str (nomark _)) (pss_one (ps_ret (pv 4))) pss_nil)
      (pss_cons (ps_if (pt_cmpR op_eq (pv 0) pe_str (nomark _)) (pss_one (ps_ret (pe_call GFit hr1 (by rfl) o.mFit o.kFit o.bFit .nil pass0 (pa_cons (pe_call GTo hr3 (by rfl) o.mTo o.kTo o.bTo .nil pass0 (pa_cons (pv 3) pa_nil)) pa_nil)))) pss_nil)
      (pss_cons (ps_if (pw_and (pt_cmpR op_eq (pv 0) pe_str (nomark _)) (pw_and1 (pt_cmpR op_in_seq (pv 4) (pe_tup (pa_cons pe_str (pa_cons pe_str pa_nil))) (by rfl)))).pt (pss_one (ps_ret (pe_callB call_len_any (by rfl) G.zLen PySem.boot_len (pa_cons (pe_fld (pv 3) rfl) pa_nil)))) pss_nil)
      (pss_cons (ps_if (pw_and (pt_cmpR op_eq (pv 0) pe_str (nomark _)) (pw_and1 (pt_cmpR op_eq (pv 4) pe_str (nomark _)))).pt (pss_one (ps_ret (pe_callB call_len_str (by rfl) G.zLen PySem.boot_len (pa_cons (pv 3) pa_nil)))) pss_nil)
      (pss_cons (ps_if (pw_and (pt_cmpR op_eq (pv 0) pe_str (nomark _)) (pw_and1 (pt_cmpR op_eq (pv 4) pe_str (nomark _)))).pt
        (pss_cons (ps_if (pt_cmpR op_gt (pv 3) (pe_glob (x := "MANY") (v := .int 500) (by rfl) G.mMANY ⟨_, rfl⟩) (nomark _)) (pss_one (ps_raise rfl (takes_of rfl rfl rfl rfl) (pmk_ex TE hr (pa_cons pe_str pa_nil)))) pss_nil)
        (pss_one (ps_ret (pe_make o.mkI GI hr2 (by rfl) G.mItems o.bI .nil pass0 (pa_cons (pe_callTy (call_list_rng rfl) (by rfl) m.zList (by decide +kernel) (pa_cons (pe_callTy cr_range1 (by rfl) o.zRange (by decide +kernel) (pa_cons (pe_callB (call_max2 rfl) (by rfl) o.zMax (by decide +kernel) (pa_cons pe_int (pa_cons (pv 3) pa_nil))) pa_nil)) pa_nil)) pa_nil)))))
        pss_nil)
      (pss_cons (ps_if (pw_and (pt_cmpR op_eq (pv 0) pe_str (nomark _)) (pw_and1 (pt_cmpR op_eq (pv 4) pe_str (nomark _)))).pt
        (pss_cons (ps_expr (pe_bm PySem.F.plainAttrs_list PySem.F.slot_list_append PySem.F.type_list_append mt_append (pe_fld (pv 3) rfl) (pa_cons (pe_ix ix_list (pv 1) pe_int (fun _ _ => rfl)) pa_nil)))
        (pss_cons (ps_expr (pe_call GFit hr1 (by rfl) o.mFit o.kFit o.bFit .nil pass0 (pa_cons (pv 3) pa_nil)))
        (pss_one (ps_ret pe_non))))
        pss_nil)
      (pss_cons (ps_if (pw_and (pt_cmpR op_eq (pv 0) pe_str (nomark _)) (pw_and1 (pt_cmpR op_eq (pv 4) pe_str (nomark _)))).pt
        (pss_cons (ps_if (pt_cmpR (op_eqD hu64) (pe_fld (pv 3) rfl) (pe_lst pa_nil) (nomark _)) (pss_one (ps_raise rfl (takes_of rfl rfl rfl rfl) (pmk_ex TE hr (pa_cons pe_str pa_nil)))) pss_nil)
        (pss_one (ps_ret (pe_bm0 PySem.F.plainAttrs_list PySem.F.slot_list_pop PySem.F.type_list_pop mt_pop (pe_fld (pv 3) rfl)))))
        pss_nil)
      (pss_cons (ps_if (pw_and (pt_cmpR op_eq (pv 0) pe_str (nomark _)) (pw_and1 (pt_cmpR op_eq (pv 4) pe_str (nomark _)))).pt
        (pss_one (ps_ret (pe_make o.mkI GI hr2 (by rfl) G.mItems o.bI .nil pass0 (pa_cons (pe_lock (pe_lc (own := [("key", 5)]) (g := gName 5) (tt := tYes) rfl sc_own.nd (pi_keys (pe_fld (pv 3) rfl)) (blkOk_by (N := ["label", "row", "wants", "one", "kind", "key"]) (sc := defScope sOwn) (by decide +kernel)) (fun _ _ _ _ _ => pg_name (i := 5) sc_own.nd rfl (Or.inl rfl)) (fun _ _ _ _ _ => pts_nil) (fun _ _ _ _ _ => pe_ix (r := rIxT K) (by exact ix_tup) (pv 5) pe_int (fun _ _ => rfl)))) pa_nil))))
        pss_nil)
      (pss_one (ps_ret (pe_callS GRest hr2 (by rfl) o.mRest o.kRest o.bRest (fun σ => passAt (takes_of rfl rfl rfl rfl) σ) (pa_cons (pv 0) (pa_cons (pv 3) (pa_cons (pv 4) (pa_cons (pv 1) pa_nil)))))))))))))))))), ?_⟩
    obtain ⟨lab, rw, xs, rfl, hrw, h⟩ := h
    cases h with
    | count0 thr =>
      refine fun p hp => ?_
      refine ⟨upd_same, kvW, rfl, by decide, ?_⟩
      rw [upd_upd]
      have sD : Same H (upd H p (.dK (mergeK [] kvW))) := same_new hp
      refine ⟨p, rfl, Or.inl ⟨_, Rd.of upd_same⟩, _, rfl, _, DGet.k (k := .inr "len") upd_same, ?_⟩
      rw [w_len]
      generalize upd H p (.dK (mergeK [] kvW)) = Hd at sD ⊢
      have hrw' := sD _ _ hrw
      exact ⟨_, rfl, rw, _, rfl, Or.inl (Or.inl (Or.inl hrw')), _, rfl, rfl, _, rfl, ite_nsame (by show (0 : Int) ≠ 1; decide) ⟨_, rfl, fun d hd => thr.go sD hd⟩⟩
    | @count1 x thr =>
      refine fun p hp => ?_
      refine ⟨upd_same, kvW, rfl, by decide, ?_⟩
      rw [upd_upd]
      have sD : Same H (upd H p (.dK (mergeK [] kvW))) := same_new hp
      refine ⟨p, rfl, Or.inl ⟨_, Rd.of upd_same⟩, _, rfl, _, DGet.k (k := .inr "push") upd_same, ?_⟩
      rw [w_push]
      generalize upd H p (.dK (mergeK [] kvW)) = Hd at sD ⊢
      have hrw' := sD _ _ hrw
      exact ⟨_, rfl, rw, _, rfl, Or.inl (Or.inl (Or.inl hrw')), _, rfl, rfl, _, rfl, ite_nsame (by show (1 : Int) ≠ 2; decide) ⟨_, rfl, fun d hd => thr.go sD hd⟩⟩
    | @kind x k hk q =>
      refine fun p hp => ?_
      refine ⟨upd_same, kvW, rfl, by decide, ?_⟩
      rw [upd_upd]
      have sD : Same H (upd H p (.dK (mergeK [] kvW))) := same_new hp
      refine ⟨p, rfl, Or.inl ⟨_, Rd.of upd_same⟩, _, rfl, _, DGet.k (k := .inr "kind") upd_same, ?_⟩
      rw [w_kind]
      generalize upd H p (.dK (mergeK [] kvW)) = Hd at sD ⊢
      have hrw' := sD _ _ hrw
      refine ⟨_, rfl, rw, _, rfl, Or.inl (Or.inl (Or.inl hrw')), _, rfl, rfl, _, rfl, ite_same rfl ?_⟩
      refine ⟨_, rfl, rw, _, 0, x, rfl, rfl, Or.inl (Or.inl hrw'), rfl, ?_⟩
      refine ⟨_, rfl, _, k, rfl, hk.same sD, ?_⟩
      refine ⟨_, rfl, rfl, _, rfl, ite_st rfl ?_⟩
      exact ⟨_, rfl, q _ sD⟩
    | @text n hn q =>
      refine fun p hp => ?_
      refine ⟨upd_same, kvW, rfl, by decide, ?_⟩
      rw [upd_upd]
      have sD : Same H (upd H p (.dK (mergeK [] kvW))) := same_new hp
      refine ⟨p, rfl, Or.inl ⟨_, Rd.of upd_same⟩, _, rfl, _, DGet.k (k := .inr "text") upd_same, ?_⟩
      rw [w_text]
      generalize upd H p (.dK (mergeK [] kvW)) = Hd at sD ⊢
      have hrw' := sD _ _ hrw
      refine ⟨_, rfl, rw, _, rfl, Or.inl (Or.inl (Or.inl hrw')), _, rfl, rfl, _, rfl, ite_same rfl ?_⟩
      refine ⟨_, rfl, rw, _, 0, .int (n : Int), rfl, rfl, Or.inl (Or.inl hrw'), rfl, ?_⟩
      refine ⟨_, rfl, _, "int", rfl, .int _, ?_⟩
      refine ⟨_, rfl, rfl, _, rfl, ite_sf (by decide +kernel) ?_⟩
      refine ⟨_, rfl, rfl, _, rfl, ite_st rfl ?_⟩
      exact ⟨_, rfl, n, rfl, hn, _, rfl, Or.inl ⟨_, rfl, by rw [S_len]; exact Nat.le_trans (TL.numL_len (k := 5) (by decide) hn) (by decide)⟩, q _ sD⟩
    | @lenL a dx r ys ha hr0 q =>
      refine fun p hp => ?_
      refine ⟨upd_same, kvW, rfl, by decide, ?_⟩
      rw [upd_upd]
      have sD : Same H (upd H p (.dK (mergeK [] kvW))) := same_new hp
      refine ⟨p, rfl, Or.inl ⟨_, Rd.of upd_same⟩, _, rfl, _, DGet.k (k := .inr "len") upd_same, ?_⟩
      rw [w_len]
      generalize upd H p (.dK (mergeK [] kvW)) = Hd at sD ⊢
      have hrw' := sD _ _ hrw
      refine ⟨_, rfl, rw, _, rfl, Or.inl (Or.inl (Or.inl hrw')), _, rfl, rfl, _, rfl, ite_same rfl ?_⟩
      refine ⟨_, rfl, rw, _, 0, .ref a, rfl, rfl, Or.inl (Or.inl hrw'), rfl, ?_⟩
      refine ⟨_, rfl, _, "list", rfl, .i (sD _ _ ha), ?_⟩
      refine ⟨_, rfl, rfl, _, rfl, ite_sf (by decide +kernel) ?_⟩
      refine ⟨_, rfl, rfl, _, rfl, ite_sf (by decide +kernel) ?_⟩
      refine ⟨_, rfl, rfl, _, rfl, ite_st rfl ⟨_, rfl, szS (by show 2 ≤ 100000; decide), fun e he => ⟨e, _, rfl, Or.inr (Or.inl (Or.inl upd_same)), rfl, rfl, _, rfl, ite_is (c := true) (by decide +kernel) (iteT ?_)⟩⟩⟩
      have sD := sD.trans (same_new (o := .tup [.str "list", .str "map"]) he)
      have hrw' := sD _ _ hrw
      exact ⟨_, rfl, a, _, dx, _, _, rfl, sD _ _ ha, G.iI.cl, G.aI, rfl, Or.inl ⟨r, ys, rfl, Or.inl (Or.inl (Or.inl (sD _ _ hr0))), q _ sD⟩⟩
    | @lenT a dx r kvs ha hr0 q =>
      refine fun p hp => ?_
      refine ⟨upd_same, kvW, rfl, by decide, ?_⟩
      rw [upd_upd]
      have sD : Same H (upd H p (.dK (mergeK [] kvW))) := same_new hp
      refine ⟨p, rfl, Or.inl ⟨_, Rd.of upd_same⟩, _, rfl, _, DGet.k (k := .inr "len") upd_same, ?_⟩
      rw [w_len]
      generalize upd H p (.dK (mergeK [] kvW)) = Hd at sD ⊢
      have hrw' := sD _ _ hrw
      refine ⟨_, rfl, rw, _, rfl, Or.inl (Or.inl (Or.inl hrw')), _, rfl, rfl, _, rfl, ite_same rfl ?_⟩
      refine ⟨_, rfl, rw, _, 0, .ref a, rfl, rfl, Or.inl (Or.inl hrw'), rfl, ?_⟩
      refine ⟨_, rfl, _, "map", rfl, .t (sD _ _ ha), ?_⟩
      refine ⟨_, rfl, rfl, _, rfl, ite_sf (by decide +kernel) ?_⟩
      refine ⟨_, rfl, rfl, _, rfl, ite_sf (by decide +kernel) ?_⟩
      refine ⟨_, rfl, rfl, _, rfl, ite_st rfl ⟨_, rfl, szS (by show 2 ≤ 100000; decide), fun e he => ⟨e, _, rfl, Or.inr (Or.inl (Or.inl upd_same)), rfl, rfl, _, rfl, ite_is (c := true) (by decide +kernel) (iteT ?_)⟩⟩⟩
      have sD := sD.trans (same_new (o := .tup [.str "list", .str "map"]) he)
      have hrw' := sD _ _ hrw
      exact ⟨_, rfl, a, _, dx, _, _, rfl, sD _ _ ha, G.iT.cl, G.aT, rfl, Or.inr ⟨r, kvs, rfl, sD _ _ hr0, q _ sD⟩⟩
    | @lenS l hl q =>
      refine fun p hp => ?_
      refine ⟨upd_same, kvW, rfl, by decide, ?_⟩
      rw [upd_upd]
      have sD : Same H (upd H p (.dK (mergeK [] kvW))) := same_new hp
      refine ⟨p, rfl, Or.inl ⟨_, Rd.of upd_same⟩, _, rfl, _, DGet.k (k := .inr "len") upd_same, ?_⟩
      rw [w_len]
      generalize upd H p (.dK (mergeK [] kvW)) = Hd at sD ⊢
      have hrw' := sD _ _ hrw
      refine ⟨_, rfl, rw, _, rfl, Or.inl (Or.inl (Or.inl hrw')), _, rfl, rfl, _, rfl, ite_same rfl ?_⟩
      refine ⟨_, rfl, rw, _, 0, .str (S l), rfl, rfl, Or.inl (Or.inl hrw'), rfl, ?_⟩
      refine ⟨_, rfl, _, "text", rfl, .str _, ?_⟩
      refine ⟨_, rfl, rfl, _, rfl, ite_sf (by decide +kernel) ?_⟩
      refine ⟨_, rfl, rfl, _, rfl, ite_sf (by decide +kernel) ?_⟩
      refine ⟨_, rfl, rfl, _, rfl, ite_st rfl ⟨_, rfl, szS (by show 2 ≤ 100000; decide), fun e he => ⟨e, _, rfl, Or.inr (Or.inl (Or.inl upd_same)), rfl, rfl, _, rfl, ite_is (c := false) (by decide +kernel) (iteF ?_)⟩⟩⟩
      have sD := sD.trans (same_new (o := .tup [.str "list", .str "map"]) he)
      have hrw' := sD _ _ hrw
      refine ⟨_, rfl, rfl, _, rfl, ite_st rfl ⟨_, rfl, rfl, _, rfl, ite_st rfl ?_⟩⟩
      exact ⟨_, rfl, S l, rfl, lenS (by omega), by rw [S_len]; exact q _ sD⟩
    | @rng i hi q =>
      refine fun p hp => ?_
      refine ⟨upd_same, kvW, rfl, by decide, ?_⟩
      rw [upd_upd]
      have sD : Same H (upd H p (.dK (mergeK [] kvW))) := same_new hp
      refine ⟨p, rfl, Or.inl ⟨_, Rd.of upd_same⟩, _, rfl, _, DGet.k (k := .inr "range") upd_same, ?_⟩
      rw [w_range]
      generalize upd H p (.dK (mergeK [] kvW)) = Hd at sD ⊢
      have hrw' := sD _ _ hrw
      refine ⟨_, rfl, rw, _, rfl, Or.inl (Or.inl (Or.inl hrw')), _, rfl, rfl, _, rfl, ite_same rfl ?_⟩
      refine ⟨_, rfl, rw, _, 0, .int i, rfl, rfl, Or.inl (Or.inl hrw'), rfl, ?_⟩
      refine ⟨_, rfl, _, "int", rfl, .int _, ?_⟩
      refine ⟨_, rfl, rfl, _, rfl, ite_sf (by decide +kernel) ?_⟩
      refine ⟨_, rfl, rfl, _, rfl, ite_sf (by decide +kernel) ?_⟩
      refine ⟨_, rfl, rfl, _, rfl, ite_sf (by decide +kernel) (iteF ?_)⟩
      refine ⟨_, rfl, rfl, _, rfl, ite_sf (by decide +kernel) (iteF ?_)⟩
      refine ⟨_, rfl, rfl, _, rfl, ite_st rfl ⟨_, rfl, rfl, _, rfl, ite_st rfl ?_⟩⟩
      refine ⟨_, rfl, _, _, rfl, rfl, _, rfl, ?_⟩
      rw [decide_eq_false (by omega : ¬ ((500 : Int) < i))]
      have em : (if i > 0 then i else 0) = ((i.toNat : Nat) : Int) := by split <;> omega
      refine iteF ⟨_, rfl, 0, i, rfl, _, rfl, fun p1 hp1 => ?_⟩
      rw [em]
      refine ⟨p1, i.toNat, rfl, upd_same, by omega, fun l hl => ?_⟩
      have s1 := (sD.trans (same_new (o := .rng 0 (i.toNat : Int)) hp1)).trans (same_new (o := .lst ((List.range i.toNat).map fun j : Nat => V.int (j : Int))) hl)
      refine fun a dx ha hdx ne => ⟨a, dx, _, rfl, upd_same, rfl, ?_⟩
      rw [upd_upd]
      have s2 := s1.trans (same_new (o := .own a) hdx)
      have ha2 : (upd _ dx (.own a)) a = none := (upd_ne ne.symm).trans ha
      have nl : l ≠ a := fun e => by rw [← e, upd_same] at ha; cases ha
      have nl2 : l ≠ dx := fun e => by rw [← e, upd_same] at hdx; cases hdx
      exact q a dx l _ (s2.trans (same_new ha2)) (s1.free ha) upd_same ((upd_ne nl).trans ((upd_ne nl2).trans upd_same))
    | @rngBad i hi thr =>
      refine fun p hp => ?_
      refine ⟨upd_same, kvW, rfl, by decide, ?_⟩
      rw [upd_upd]
      have sD : Same H (upd H p (.dK (mergeK [] kvW))) := same_new hp
      refine ⟨p, rfl, Or.inl ⟨_, Rd.of upd_same⟩, _, rfl, _, DGet.k (k := .inr "range") upd_same, ?_⟩
      rw [w_range]
      generalize upd H p (.dK (mergeK [] kvW)) = Hd at sD ⊢
      have hrw' := sD _ _ hrw
      refine ⟨_, rfl, rw, _, rfl, Or.inl (Or.inl (Or.inl hrw')), _, rfl, rfl, _, rfl, ite_same rfl ?_⟩
      refine ⟨_, rfl, rw, _, 0, .int i, rfl, rfl, Or.inl (Or.inl hrw'), rfl, ?_⟩
      refine ⟨_, rfl, _, "int", rfl, .int _, ?_⟩
      refine ⟨_, rfl, rfl, _, rfl, ite_sf (by decide +kernel) ?_⟩
      refine ⟨_, rfl, rfl, _, rfl, ite_sf (by decide +kernel) ?_⟩
      refine ⟨_, rfl, rfl, _, rfl, ite_sf (by decide +kernel) (iteF ?_)⟩
      refine ⟨_, rfl, rfl, _, rfl, ite_sf (by decide +kernel) (iteF ?_)⟩
      refine ⟨_, rfl, rfl, _, rfl, ite_st rfl ⟨_, rfl, rfl, _, rfl, ite_st rfl ?_⟩⟩
      refine ⟨_, rfl, _, _, rfl, rfl, _, rfl, ?_⟩
      rw [decide_eq_true (by omega : ((500 : Int) < i))]
      exact iteT ⟨_, rfl, fun d hd => thr.go sD hd⟩
    | @push a dx r ys v ha hr0 hl q =>
      refine fun p hp => ?_
      refine ⟨upd_same, kvW, rfl, by decide, ?_⟩
      rw [upd_upd]
      have sD : Same H (upd H p (.dK (mergeK [] kvW))) := same_new hp
      refine ⟨p, rfl, Or.inl ⟨_, Rd.of upd_same⟩, _, rfl, _, DGet.k (k := .inr "push") upd_same, ?_⟩
      rw [w_push]
      generalize upd H p (.dK (mergeK [] kvW)) = Hd at sD ⊢
      have hrw' := sD _ _ hrw
      refine ⟨_, rfl, rw, _, rfl, Or.inl (Or.inl (Or.inl hrw')), _, rfl, rfl, _, rfl, ite_same rfl ?_⟩
      refine ⟨_, rfl, rw, _, 0, .ref a, rfl, rfl, Or.inl (Or.inl hrw'), rfl, ?_⟩
      refine ⟨_, rfl, _, "list", rfl, .i (sD _ _ ha), ?_⟩
      refine ⟨_, rfl, rfl, _, rfl, ite_sf (by decide +kernel) ?_⟩
      refine ⟨_, rfl, rfl, _, rfl, ite_sf (by decide +kernel) ?_⟩
      refine ⟨_, rfl, rfl, _, rfl, ite_sf (by decide +kernel) (iteF ?_)⟩
      refine ⟨_, rfl, rfl, _, rfl, ite_sf (by decide +kernel) (iteF ?_)⟩
      refine ⟨_, rfl, rfl, _, rfl, ite_sf (by decide +kernel) (iteF ?_)⟩
      refine ⟨_, rfl, rfl, _, rfl, ite_st rfl ⟨_, rfl, rfl, _, rfl, ite_st rfl ?_⟩⟩
      have nar : a ≠ r := fun e => by rw [e, hr0] at ha; cases ha
      refine ⟨_, rfl, a, _, dx, _, _, rfl, sD _ _ ha, G.iI.cl, G.aI, rfl, Or.inl ⟨rfl, _, Or.inl (Or.inl (sD _ _ hr0))⟩, _, rfl, rw, _, 1, v, rfl, rfl, Or.inl (Or.inl hrw'), rfl, r, ys, v, rfl, rfl, sD _ _ hr0, Nat.lt_of_le_of_lt hl (by decide), ?_⟩
      refine ⟨_, rfl, _, rfl, Or.inr ⟨a, dx, r, _, rfl, (upd_ne nar).trans (sD _ _ ha), upd_same, by rw [List.length_append]; simp only [List.length_cons, List.length_nil]; omega⟩, ?_⟩
      exact q _ (same_upd2 sD)
    | @popE a dx r ha hr0 thr =>
      refine fun p hp => ?_
      refine ⟨upd_same, kvW, rfl, by decide, ?_⟩
      rw [upd_upd]
      have sD : Same H (upd H p (.dK (mergeK [] kvW))) := same_new hp
      refine ⟨p, rfl, Or.inl ⟨_, Rd.of upd_same⟩, _, rfl, _, DGet.k (k := .inr "pop") upd_same, ?_⟩
      rw [w_pop]
      generalize upd H p (.dK (mergeK [] kvW)) = Hd at sD ⊢
      have hrw' := sD _ _ hrw
      refine ⟨_, rfl, rw, _, rfl, Or.inl (Or.inl (Or.inl hrw')), _, rfl, rfl, _, rfl, ite_same rfl ?_⟩
      refine ⟨_, rfl, rw, _, 0, .ref a, rfl, rfl, Or.inl (Or.inl hrw'), rfl, ?_⟩
      refine ⟨_, rfl, _, "list", rfl, .i (sD _ _ ha), ?_⟩
      refine ⟨_, rfl, rfl, _, rfl, ite_sf (by decide +kernel) ?_⟩
      refine ⟨_, rfl, rfl, _, rfl, ite_sf (by decide +kernel) ?_⟩
      refine ⟨_, rfl, rfl, _, rfl, ite_sf (by decide +kernel) (iteF ?_)⟩
      refine ⟨_, rfl, rfl, _, rfl, ite_sf (by decide +kernel) (iteF ?_)⟩
      refine ⟨_, rfl, rfl, _, rfl, ite_sf (by decide +kernel) (iteF ?_)⟩
      refine ⟨_, rfl, rfl, _, rfl, ite_sf (by decide +kernel) (iteF ?_)⟩
      refine ⟨_, rfl, rfl, _, rfl, ite_st rfl ⟨_, rfl, rfl, _, rfl, ite_st rfl ?_⟩⟩
      refine ⟨_, rfl, a, _, dx, _, _, rfl, sD _ _ ha, G.iI.cl, G.aI, rfl, szS (by show 0 ≤ 100000; decide), fun e he => ?_⟩
      have sE := sD.trans (same_new (o := .lst []) he)
      exact ⟨.list [], .list [], .lst (Or.inl (Or.inl (sE _ _ hr0))) .nil, .lst (Or.inl (Or.inl upd_same)) .nil, by decide +kernel, by decide +kernel, _, rfl, ite_is (c := true) (by decide +kernel) (iteT ⟨_, rfl, fun d hd => thr.go sE hd⟩)⟩
    | @pop a dx r ns n ha hr0 q =>
      refine fun p hp => ?_
      refine ⟨upd_same, kvW, rfl, by decide, ?_⟩
      rw [upd_upd]
      have sD : Same H (upd H p (.dK (mergeK [] kvW))) := same_new hp
      refine ⟨p, rfl, Or.inl ⟨_, Rd.of upd_same⟩, _, rfl, _, DGet.k (k := .inr "pop") upd_same, ?_⟩
      rw [w_pop]
      generalize upd H p (.dK (mergeK [] kvW)) = Hd at sD ⊢
      have hrw' := sD _ _ hrw
      refine ⟨_, rfl, rw, _, rfl, Or.inl (Or.inl (Or.inl hrw')), _, rfl, rfl, _, rfl, ite_same rfl ?_⟩
      refine ⟨_, rfl, rw, _, 0, .ref a, rfl, rfl, Or.inl (Or.inl hrw'), rfl, ?_⟩
      refine ⟨_, rfl, _, "list", rfl, .i (sD _ _ ha), ?_⟩
      refine ⟨_, rfl, rfl, _, rfl, ite_sf (by decide +kernel) ?_⟩
      refine ⟨_, rfl, rfl, _, rfl, ite_sf (by decide +kernel) ?_⟩
      refine ⟨_, rfl, rfl, _, rfl, ite_sf (by decide +kernel) (iteF ?_)⟩
      refine ⟨_, rfl, rfl, _, rfl, ite_sf (by decide +kernel) (iteF ?_)⟩
      refine ⟨_, rfl, rfl, _, rfl, ite_sf (by decide +kernel) (iteF ?_)⟩
      refine ⟨_, rfl, rfl, _, rfl, ite_sf (by decide +kernel) (iteF ?_)⟩
      refine ⟨_, rfl, rfl, _, rfl, ite_st rfl ⟨_, rfl, rfl, _, rfl, ite_st rfl ?_⟩⟩
      refine ⟨_, rfl, a, _, dx, _, _, rfl, sD _ _ ha, G.iI.cl, G.aI, rfl, szS (by show 0 ≤ 100000; decide), fun e he => ?_⟩
      have sE := sD.trans (same_new (o := .lst []) he)
      refine ⟨.list ((ns ++ [n]).map PyData.int), .list [], .lst (Or.inl (Or.inl (sE _ _ hr0))) dpAll_ints, .lst (Or.inl (Or.inl upd_same)) .nil, shaped_ints _, by decide +kernel, _, rfl, ite_is (c := false) ?_ (iteF ?_)⟩
      · cases ns <;> rfl
      · refine ⟨_, rfl, a, _, dx, _, _, rfl, sE _ _ ha, G.iI.cl, G.aI, rfl, Or.inl ⟨rfl, _, Or.inl (Or.inl (sE _ _ hr0))⟩, r, _, .int n, rfl, rfl, sE _ _ hr0, by simp, ?_⟩
        have ed : ((ns ++ [n]).map V.int).dropLast = ns.map V.int := by simp
        rw [ed]
        exact q _ (same_upd2 sE)
    | @keys a dx r kvs ns ha hr0 hks hns q =>
      refine fun p hp => ?_
      refine ⟨upd_same, kvW, rfl, by decide, ?_⟩
      rw [upd_upd]
      have sD : Same H (upd H p (.dK (mergeK [] kvW))) := same_new hp
      refine ⟨p, rfl, Or.inl ⟨_, Rd.of upd_same⟩, _, rfl, _, DGet.k (k := .inr "keys") upd_same, ?_⟩
      rw [w_keys]
      generalize upd H p (.dK (mergeK [] kvW)) = Hd at sD ⊢
      have hrw' := sD _ _ hrw
      refine ⟨_, rfl, rw, _, rfl, Or.inl (Or.inl (Or.inl hrw')), _, rfl, rfl, _, rfl, ite_same rfl ?_⟩
      refine ⟨_, rfl, rw, _, 0, .ref a, rfl, rfl, Or.inl (Or.inl hrw'), rfl, ?_⟩
      refine ⟨_, rfl, _, "map", rfl, .t (sD _ _ ha), ?_⟩
      refine ⟨_, rfl, rfl, _, rfl, ite_sf (by decide +kernel) ?_⟩
      refine ⟨_, rfl, rfl, _, rfl, ite_sf (by decide +kernel) ?_⟩
      refine ⟨_, rfl, rfl, _, rfl, ite_sf (by decide +kernel) (iteF ?_)⟩
      refine ⟨_, rfl, rfl, _, rfl, ite_sf (by decide +kernel) (iteF ?_)⟩
      refine ⟨_, rfl, rfl, _, rfl, ite_sf (by decide +kernel) (iteF ?_)⟩
      refine ⟨_, rfl, rfl, _, rfl, ite_sf (by decide +kernel) (iteF ?_)⟩
      refine ⟨_, rfl, rfl, _, rfl, ite_sf (by decide +kernel) (iteF ?_)⟩
      refine ⟨_, rfl, rfl, _, rfl, ite_st rfl ⟨_, rfl, rfl, _, rfl, ite_st rfl ?_⟩⟩
      have nar : a ≠ r := fun e => by rw [e, hr0] at ha; cases ha
      refine ⟨r, _, sD _ _ hr0, True.intro, fun od => ?_⟩
      refine ⟨_, rfl, a, _, dx, _, _, rfl, (upd_ne nar).trans (sD _ _ ha), G.iT.cl, G.aT, rfl, r, od, rfl, Or.inr ⟨kvs, upd_same, fun D hD => ?_⟩⟩
      have nDr : D ≠ r := fun e => by rw [e, upd_same] at hD; cases hD
      have hD0 : Hd D = none := by rw [upd_ne nDr] at hD; exact hD
      have hl : kvs.length = ns.length := by have := congrArg List.length hks; rwa [List.length_map, List.length_map] at this
      refine lc_it walk_keysT (fun i H' => i ≤ ns.length ∧ H' D = some (.lst ((ns.take i).map V.int)) ∧ H' r = some (.frz od (.dT kvs)) ∧ ∀ b o, b ≠ r → b ≠ D → Hd b = some o → H' b = some o) ?_ ?_ ?_ ?_
      · exact ⟨Nat.zero_le _, upd_same, (upd_ne nDr.symm).trans upd_same, fun b o n1 n2 e => by rw [upd_ne n2, upd_ne n1]; exact e⟩
      · rintro i H' _ ⟨_, _, h3, _⟩
        exact h3
      · rintro i y H' H'' hi ⟨h1, h2, h3, h4⟩ ⟨rfl, kk, vv, z, e1, rfl, e3⟩
        refine ⟨rfl, ?_⟩
        have hin : i < ns.length := by omega
        have ek : kk = tkey ns[i] := by
          have z : (kvs.map (·.1))[i]? = some kk := by rw [List.getElem?_map, e1]; rfl
          rw [hks, List.getElem?_map, List.getElem?_eq_getElem hin] at z
          exact (Option.some.inj z).symm
        subst ek
        refine ⟨_, rfl, z, _, 1, .int ns[i], rfl, rfl, Or.inl (Or.inl e3), rfl, _, h2, ?_, by omega, ?_, ?_, ?_⟩
        · rw [List.length_map, List.length_take]
          exact Nat.lt_of_le_of_lt (Nat.le_trans (Nat.min_le_right _ _) hns) (by decide)
        · rw [upd_same, List.take_add_one, List.getElem?_eq_getElem hin, List.map_append]
          rfl
        · rw [upd_ne nDr.symm]; exact h3
        · intro b o n1 n2 e
          rw [upd_ne n2]
          exact h4 b o n1 n2 e
      · rintro H' ⟨_, h2, h3, h4⟩
        rw [hl, List.take_length] at h2
        refine ⟨h3, fun b dxb hb hdxb ne => ⟨b, dxb, _, rfl, upd_same, rfl, ?_⟩⟩
        rw [upd_upd]
        have s1 : Same Hd (upd H' r (.dT kvs)) := fun b o e => by
          by_cases n1 : b = r
          · subst n1
            rw [upd_same, ← e, sD _ _ hr0]
          · rw [upd_ne n1]
            exact h4 b o n1 (fun z => by rw [z, hD0] at e; cases e) e
        have hDl : (upd H' r (.dT kvs)) D = some (.lst (ns.map V.int)) := (upd_ne nDr).trans h2
        have s2 := s1.trans (same_new (o := .own b) hdxb)
        have hb2 : (upd (upd H' r (.dT kvs)) dxb (.own b)) b = none := (upd_ne ne.symm).trans hb
        have nl : D ≠ b := fun e => by rw [← e, hDl] at hb; cases hb
        have nl2 : D ≠ dxb := fun e => by rw [← e, hDl] at hdxb; cases hdxb
        exact q b dxb D _ ((sD.trans s2).trans (same_new hb2)) ((sD.trans s1).free hb) upd_same ((upd_ne nl).trans ((upd_ne nl2).trans hDl))
    | @r_int_text x hk q =>
      refine fun p hp => ?_
      refine ⟨upd_same, kvW, rfl, by decide, ?_⟩
      rw [upd_upd]
      have sD : Same H (upd H p (.dK (mergeK [] kvW))) := same_new hp
      refine ⟨p, rfl, Or.inl ⟨_, Rd.of upd_same⟩, _, rfl, _, DGet.k (k := .inr "int") upd_same, ?_⟩
      rw [w_int]
      generalize upd H p (.dK (mergeK [] kvW)) = Hd at sD ⊢
      have hrw' := sD _ _ hrw
      refine ⟨_, rfl, rw, _, rfl, Or.inl (Or.inl (Or.inl hrw')), _, rfl, rfl, _, rfl, ite_same rfl ?_⟩
      refine ⟨_, rfl, rw, _, 0, x, rfl, rfl, Or.inl (Or.inl hrw'), rfl, ?_⟩
      refine ⟨_, rfl, _, "text", rfl, hk.same sD, ?_⟩
      refine ⟨_, rfl, rfl, _, rfl, ite_sf (by decide +kernel) ?_⟩
      refine ⟨_, rfl, rfl, _, rfl, ite_sf (by decide +kernel) ?_⟩
      refine ⟨_, rfl, rfl, _, rfl, ite_sf (by decide +kernel) (iteF ?_)⟩
      refine ⟨_, rfl, rfl, _, rfl, ite_sf (by decide +kernel) (iteF ?_)⟩
      refine ⟨_, rfl, rfl, _, rfl, ite_sf (by decide +kernel) (iteF ?_)⟩
      refine ⟨_, rfl, rfl, _, rfl, ite_sf (by decide +kernel) (iteF ?_)⟩
      refine ⟨_, rfl, rfl, _, rfl, ite_sf (by decide +kernel) (iteF ?_)⟩
      refine ⟨_, rfl, rfl, _, rfl, ite_sf (by decide +kernel) (iteF ?_)⟩
      exact ⟨_, rfl, _, rfl, _, rfl, _, rfl, q _ sD⟩
    | @r_has_thing x y hk q =>
      refine fun p hp => ?_
      refine ⟨upd_same, kvW, rfl, by decide, ?_⟩
      rw [upd_upd]
      have sD : Same H (upd H p (.dK (mergeK [] kvW))) := same_new hp
      refine ⟨p, rfl, Or.inl ⟨_, Rd.of upd_same⟩, _, rfl, _, DGet.k (k := .inr "has") upd_same, ?_⟩
      rw [w_has]
      generalize upd H p (.dK (mergeK [] kvW)) = Hd at sD ⊢
      have hrw' := sD _ _ hrw
      refine ⟨_, rfl, rw, _, rfl, Or.inl (Or.inl (Or.inl hrw')), _, rfl, rfl, _, rfl, ite_same rfl ?_⟩
      refine ⟨_, rfl, rw, _, 0, x, rfl, rfl, Or.inl (Or.inl hrw'), rfl, ?_⟩
      refine ⟨_, rfl, _, "thing", rfl, hk.same sD, ?_⟩
      refine ⟨_, rfl, rfl, _, rfl, ite_sf (by decide +kernel) ?_⟩
      refine ⟨_, rfl, rfl, _, rfl, ite_sf (by decide +kernel) ?_⟩
      refine ⟨_, rfl, rfl, _, rfl, ite_sf (by decide +kernel) (iteF ?_)⟩
      refine ⟨_, rfl, rfl, _, rfl, ite_sf (by decide +kernel) (iteF ?_)⟩
      refine ⟨_, rfl, rfl, _, rfl, ite_sf (by decide +kernel) (iteF ?_)⟩
      refine ⟨_, rfl, rfl, _, rfl, ite_sf (by decide +kernel) (iteF ?_)⟩
      refine ⟨_, rfl, rfl, _, rfl, ite_sf (by decide +kernel) (iteF ?_)⟩
      refine ⟨_, rfl, rfl, _, rfl, ite_sf (by decide +kernel) (iteF ?_)⟩
      exact ⟨_, rfl, _, rfl, _, rfl, _, rfl, q _ sD⟩
    | @r_has_list x y hk q =>
      refine fun p hp => ?_
      refine ⟨upd_same, kvW, rfl, by decide, ?_⟩
      rw [upd_upd]
      have sD : Same H (upd H p (.dK (mergeK [] kvW))) := same_new hp
      refine ⟨p, rfl, Or.inl ⟨_, Rd.of upd_same⟩, _, rfl, _, DGet.k (k := .inr "has") upd_same, ?_⟩
      rw [w_has]
      generalize upd H p (.dK (mergeK [] kvW)) = Hd at sD ⊢
      have hrw' := sD _ _ hrw
      refine ⟨_, rfl, rw, _, rfl, Or.inl (Or.inl (Or.inl hrw')), _, rfl, rfl, _, rfl, ite_same rfl ?_⟩
      refine ⟨_, rfl, rw, _, 0, x, rfl, rfl, Or.inl (Or.inl hrw'), rfl, ?_⟩
      refine ⟨_, rfl, _, "list", rfl, hk.same sD, ?_⟩
      refine ⟨_, rfl, rfl, _, rfl, ite_sf (by decide +kernel) ?_⟩
      refine ⟨_, rfl, rfl, _, rfl, ite_sf (by decide +kernel) ?_⟩
      refine ⟨_, rfl, rfl, _, rfl, ite_sf (by decide +kernel) (iteF ?_)⟩
      refine ⟨_, rfl, rfl, _, rfl, ite_sf (by decide +kernel) (iteF ?_)⟩
      refine ⟨_, rfl, rfl, _, rfl, ite_sf (by decide +kernel) (iteF ?_)⟩
      refine ⟨_, rfl, rfl, _, rfl, ite_sf (by decide +kernel) (iteF ?_)⟩
      refine ⟨_, rfl, rfl, _, rfl, ite_sf (by decide +kernel) (iteF ?_)⟩
      refine ⟨_, rfl, rfl, _, rfl, ite_sf (by decide +kernel) (iteF ?_)⟩
      exact ⟨_, rfl, _, rfl, _, rfl, _, rfl, q _ sD⟩
    | @r_keys_list x hk q =>
      refine fun p hp => ?_
      refine ⟨upd_same, kvW, rfl, by decide, ?_⟩
      rw [upd_upd]
      have sD : Same H (upd H p (.dK (mergeK [] kvW))) := same_new hp
      refine ⟨p, rfl, Or.inl ⟨_, Rd.of upd_same⟩, _, rfl, _, DGet.k (k := .inr "keys") upd_same, ?_⟩
      rw [w_keys]
      generalize upd H p (.dK (mergeK [] kvW)) = Hd at sD ⊢
      have hrw' := sD _ _ hrw
      refine ⟨_, rfl, rw, _, rfl, Or.inl (Or.inl (Or.inl hrw')), _, rfl, rfl, _, rfl, ite_same rfl ?_⟩
      refine ⟨_, rfl, rw, _, 0, x, rfl, rfl, Or.inl (Or.inl hrw'), rfl, ?_⟩
      refine ⟨_, rfl, _, "list", rfl, hk.same sD, ?_⟩
      refine ⟨_, rfl, rfl, _, rfl, ite_sf (by decide +kernel) ?_⟩
      refine ⟨_, rfl, rfl, _, rfl, ite_sf (by decide +kernel) ?_⟩
      refine ⟨_, rfl, rfl, _, rfl, ite_sf (by decide +kernel) (iteF ?_)⟩
      refine ⟨_, rfl, rfl, _, rfl, ite_sf (by decide +kernel) (iteF ?_)⟩
      refine ⟨_, rfl, rfl, _, rfl, ite_sf (by decide +kernel) (iteF ?_)⟩
      refine ⟨_, rfl, rfl, _, rfl, ite_sf (by decide +kernel) (iteF ?_)⟩
      refine ⟨_, rfl, rfl, _, rfl, ite_sf (by decide +kernel) (iteF ?_)⟩
      refine ⟨_, rfl, rfl, _, rfl, ite_st rfl ⟨_, rfl, rfl, _, rfl, ite_sf (by decide +kernel) ?_⟩⟩
      exact ⟨_, rfl, _, rfl, _, rfl, _, rfl, q _ sD⟩
    | @r_pop_text x hk q =>
      refine fun p hp => ?_
      refine ⟨upd_same, kvW, rfl, by decide, ?_⟩
      rw [upd_upd]
      have sD : Same H (upd H p (.dK (mergeK [] kvW))) := same_new hp
      refine ⟨p, rfl, Or.inl ⟨_, Rd.of upd_same⟩, _, rfl, _, DGet.k (k := .inr "pop") upd_same, ?_⟩
      rw [w_pop]
      generalize upd H p (.dK (mergeK [] kvW)) = Hd at sD ⊢
      have hrw' := sD _ _ hrw
      refine ⟨_, rfl, rw, _, rfl, Or.inl (Or.inl (Or.inl hrw')), _, rfl, rfl, _, rfl, ite_same rfl ?_⟩
      refine ⟨_, rfl, rw, _, 0, x, rfl, rfl, Or.inl (Or.inl hrw'), rfl, ?_⟩
      refine ⟨_, rfl, _, "text", rfl, hk.same sD, ?_⟩
      refine ⟨_, rfl, rfl, _, rfl, ite_sf (by decide +kernel) ?_⟩
      refine ⟨_, rfl, rfl, _, rfl, ite_sf (by decide +kernel) ?_⟩
      refine ⟨_, rfl, rfl, _, rfl, ite_sf (by decide +kernel) (iteF ?_)⟩
      refine ⟨_, rfl, rfl, _, rfl, ite_sf (by decide +kernel) (iteF ?_)⟩
      refine ⟨_, rfl, rfl, _, rfl, ite_sf (by decide +kernel) (iteF ?_)⟩
      refine ⟨_, rfl, rfl, _, rfl, ite_sf (by decide +kernel) (iteF ?_)⟩
      refine ⟨_, rfl, rfl, _, rfl, ite_st rfl ⟨_, rfl, rfl, _, rfl, ite_sf (by decide +kernel) ?_⟩⟩
      refine ⟨_, rfl, rfl, _, rfl, ite_sf (by decide +kernel) (iteF ?_)⟩
      exact ⟨_, rfl, _, rfl, _, rfl, _, rfl, q _ sD⟩
    | @r_len_int x hk q =>
      refine fun p hp => ?_
      refine ⟨upd_same, kvW, rfl, by decide, ?_⟩
      rw [upd_upd]
      have sD : Same H (upd H p (.dK (mergeK [] kvW))) := same_new hp
      refine ⟨p, rfl, Or.inl ⟨_, Rd.of upd_same⟩, _, rfl, _, DGet.k (k := .inr "len") upd_same, ?_⟩
      rw [w_len]
      generalize upd H p (.dK (mergeK [] kvW)) = Hd at sD ⊢
      have hrw' := sD _ _ hrw
      refine ⟨_, rfl, rw, _, rfl, Or.inl (Or.inl (Or.inl hrw')), _, rfl, rfl, _, rfl, ite_same rfl ?_⟩
      refine ⟨_, rfl, rw, _, 0, x, rfl, rfl, Or.inl (Or.inl hrw'), rfl, ?_⟩
      refine ⟨_, rfl, _, "int", rfl, hk.same sD, ?_⟩
      refine ⟨_, rfl, rfl, _, rfl, ite_sf (by decide +kernel) ?_⟩
      refine ⟨_, rfl, rfl, _, rfl, ite_sf (by decide +kernel) ?_⟩
      refine ⟨_, rfl, rfl, _, rfl, ite_st rfl ⟨_, rfl, szS (by show 2 ≤ 100000; decide), fun e he => ⟨e, _, rfl, Or.inr (Or.inl (Or.inl upd_same)), rfl, rfl, _, rfl, ite_is (c := false) (by decide +kernel) (iteF ?_)⟩⟩⟩
      have sD := sD.trans (same_new (o := .tup [.str "list", .str "map"]) he)
      have hrw' := sD _ _ hrw
      refine ⟨_, rfl, rfl, _, rfl, ite_st rfl ⟨_, rfl, rfl, _, rfl, ite_sf (by decide +kernel) ?_⟩⟩
      refine ⟨_, rfl, rfl, _, rfl, ite_sf (by decide +kernel) (iteF ?_)⟩
      refine ⟨_, rfl, rfl, _, rfl, ite_sf (by decide +kernel) (iteF ?_)⟩
      refine ⟨_, rfl, rfl, _, rfl, ite_sf (by decide +kernel) (iteF ?_)⟩
      refine ⟨_, rfl, rfl, _, rfl, ite_sf (by decide +kernel) (iteF ?_)⟩
      exact ⟨_, rfl, _, rfl, _, rfl, _, rfl, q _ sD⟩
end
end EH

set_option Elab.async false
set_option linter.all false
set_option maxRecDepth 100000
set_option maxHeartbeats 4000000
namespace EH
open PySem PySem.Spec PyProof.Rows L2
abbrev sTold : Stmt := top 31
theorem takes_len {X : Cx} {W : WX} (t : Takes X W) : Takes X (fun cls d σ H => σ.length = X.N.length → W cls d σ H) := fun u s' ⟨a, B, sI, pins, σ, H, cls, d, e, I, nb, up, sky, na, os, ag, w⟩ =>
  t u s' ⟨a, B, sI, pins, σ, H, cls, d, e, I, nb, up, sky, na, os, ag, w I.len⟩
/-- told: try: return a() / except x as e: return pre + e.f -/
def TToldE (K : PySem.W.Frag) (CS : Addr) : (XK → Hp → VK → Prop) → Hp → VK → Prop := fun tl H Q =>
  tl (fun cls d H' => ∃ b, PySem.W.exmOne K cls (.ref CS) = some b ∧ (b = true → ∃ (dd : Addr) (z : Str), cls = .ref CS ∧ d = some dd ∧ H' dd = some (.xd [("value", .str z)]) ∧ z.length ≤ 100 ∧ Q (.str (("threw " : Str) ++ z)) H') ∧ (b = false → False)) H Q
theorem told_givesE {X : Cx} {q : Str} {g CS : Addr} {cdg : Value} (hme : X.mg "Threw" = some (.ref CS)) (xf : XfC X.K CS) (nf : PySem.W.findIn X.K (.ref CS) "value" = some none) :
    LamX.GivesTo X ["what", "e"] "_law_told" (defScope sTold) g cdg (defBody sTold) "what" q (TToldE X.K CS) := by
  intro f c' s H Q tl act hc h
  refine ⟨_, pss_one (ps_try_as (X := (cxOf C8.CX0 X.prog X.w X.K X.mg X.base ["what", "e"] "_law_told" (defScope sTold) g cdg X.A X.stack s H C8.E0).nox) (i := 1) (c := .ref CS)
      (tb := fun W D σ H => ∃ Ech : XK, (∀ cls d σ' H', Ech cls d H' → σ'.length = 2 → W cls d σ' H') ∧ σ[0]? = some (some (.ref f)) ∧ H c' = some (LamX.CodeO c' q) ∧ tl Ech H D.rt)
      (ts := fun a cls d => tRet (tOp (fun x y H Q => ∃ i j, x = .str i ∧ y = .str j ∧ i.length + j.length ≤ sizeLine ∧ Q (.str (i ++ j)) H) (tC (.str "threw ")) (tXf a cls d CS "value" (tVar 1))))
      (Wout := fun _ _ _ _ => False) rfl rfl (show (["what", "e"] : List Str).Nodup by decide +kernel) rfl rfl ⟨rfl, by decide, Or.inl hme⟩ takes0 (fun W pn xe tk _ => ?_) (fun a oe cls d pn hz hf => pss_one (ps_ret (by exact (pe_op op_add_str pe_str (pe_xf xf nf hz hf (pv 1))))))), ?_⟩
  · refine ⟨fun pins s' σ H' D I h' => ?_⟩
    obtain ⟨Ech, hW, h1, h2, h3⟩ := h'
    exact (pss_one (ps_ret (act _ pn xe Ech _ _ (takes_len tk) hW))).run pins s' σ H' D I ⟨h1, h2, h3⟩
  · refine ⟨fun cls d H' => ∃ b, PySem.W.exmOne X.K cls (.ref CS) = some b ∧ (b = true → ∃ (dd : Addr) (z : Str), cls = .ref CS ∧ d = some dd ∧ H' dd = some (.xd [("value", .str z)]) ∧ z.length ≤ 100 ∧ Q (.str (("threw " : Str) ++ z)) H') ∧ (b = false → False), fun cls d σ' H' ⟨b, e1, e2, e3⟩ hl => ⟨b, e1, fun hb a ha => ?_, fun hb => e3 hb⟩, rfl, hc, h⟩
    obtain ⟨dd, z, rfl, rfl, h1, h2, h3⟩ := e2 hb
    have e9 : (("threw " : Str)).length ≤ 6 := by decide +kernel
    have e1 : (σ'.set 1 (some (V.ref a)))[1]? = some (some (V.ref a)) := by rw [List.getElem?_set_self (by omega)]
    exact ⟨_, e1, rfl, rfl, dd, _, .str z, rfl, h1, rfl, _, _, rfl, rfl, szS (by omega), h3⟩
end EH

set_option Elab.async false
set_option linter.all false
set_option maxRecDepth 100000
set_option maxHeartbeats 4000000
namespace EH
open PySem PySem.Spec PyProof.Rows L2
abbrev sSame : Stmt := top 17
abbrev sClasses : Stmt := top 32
def spSame (c : CC) : Sp := fun vs H Q _ => ∃ (a dx : Addr) (fs : List (Str × V)), vs = [.ref a, .ref a] ∧ H a = some (.ins c.G dx fs) ∧ Q (.bl true) H
section
variable {P : Program} {w : World} {K : PySem.W.Frag} {mg : Str → Option Value} {base : Heap} {f : Addr} {fd : FuncData} {c : CC} {tM tL tN : Tok} {fK : Addr} {dK : FuncData}
variable {fKi fKe fTa : Addr} {dKi dKe dTa : FuncData} {C fI : Addr}
theorem sc_same : FnScope ["one", "other"] ["one", "other"] (defScope sSame) := ⟨rfl, rfl, rfl, by decide +kernel, rfl, by decide +kernel, by decide +kernel⟩
theorem ok_same (F : FnP K "is_same" sSame f fd) (k : KG K mg fKi fKe fTa dKi dKe dTa) (cg : CmpK K c.G) (GKind : FnOk P w K mg base CX0 1 fKi dKi ["value"] (spKind c)) : FnOk P w K mg base CX0 2 f fd ["one", "other"] (spSame c) := by
  refine F.ok sc_same (fun vs H Q E h => ?_) (fun cdv A outer s H vs Q E hr h => ?_)
  · obtain ⟨a, dx, fs, rfl, _⟩ := h
    rfl
  · obtain ⟨a, dx, fs, rfl, ha, q⟩ := h
    have hu : (A.deeper (envOfC "is_same" (defScope sSame) s.heap.objs.size f cdv)).units < cLine := by have := hu_of hr; omega
    refine ⟨_, PSs.nox (pss_one (ps_ret (pe_and (pe_cmpR op_eq (pe_call GKind hr (by rfl) k.mKind k.kKind k.bKind .nil pass0 (pa_cons (pv 0) pa_nil)) (pe_call GKind hr (by rfl) k.mKind k.kKind k.bKind .nil pass0 (pa_cons (pv 1) pa_nil)) (nomark _)) (pe_one (pe_cmpR (op_eqI hu) (pv 0) (pv 1) (nomark _)))))), ?_⟩
    refine ⟨_, rfl, _, "thing", rfl, .g ha, _, rfl, _, "thing", rfl, .g ha, rfl, _, rfl, ?_⟩
    rw [decide_eq_true rfl]
    exact iteT ⟨_, rfl, _, rfl, a, _, dx, fs, rfl, rfl, ha, cg, q⟩
end
end EH

set_option Elab.async false
set_option linter.all false
set_option maxRecDepth 100000
set_option maxHeartbeats 4000000
namespace EH
open PySem PySem.Spec PyProof.Rows L2
section
variable {P : Program} {w : World} {K : PySem.W.Frag} {mg : Str → Option Value} {base : Heap} {f cd Pt Pc : Addr} {fd : FuncData} {c : CC} {tM tL tN : Tok} {fK : Addr} {dK : FuncData}
variable {fKi fKe fTa : Addr} {dKi dKe dTa : FuncData} {C fI : Addr}
structure LG (K : PySem.W.Frag) (mg : Str → Option Value) (c : CC) (C fM fS fPa fPu fOw fKI fGI fTd : Addr) (dM dS dPa dPu dOw dKI dGI : FuncData) : Prop where
  mMeth : mg "method_of" = some (.ref fM)
  kMeth : PySem.W.keepIn K (.ref fM) = true
  bMeth : Binds K dM ["kind", "name"] []
  mSame : mg "is_same" = some (.ref fS)
  kSame : PySem.W.keepIn K (.ref fS) = true
  bSame : Binds K dS ["one", "other"] []
  mPart : mg "part_of" = some (.ref fPa)
  kPart : PySem.W.keepIn K (.ref fPa) = true
  bPart : Binds K dPa ["what", "name"] []
  mPut : mg "put" = some (.ref fPu)
  kPut : PySem.W.keepIn K (.ref fPu) = true
  bPut : Binds K dPu ["what", "name", "value"] []
  mOwn : mg "own" = some (.ref fOw)
  kOwn : PySem.W.keepIn K (.ref fOw) = true
  bOwn : Binds K dOw ["label", "row"] []
  mkK : Mk K c.K fKI
  bK : Binds K dKI ["self", "label", "base", "methods"] []
  mkG : Mk K c.G fGI
  bG : Binds K dGI ["self", "kind"] []
  mTold : mg "_law_told" = some (.ref fTd)
  kTold : PySem.W.keepIn K (.ref fTd) = true
  mThrew : mg "Threw" = some (.ref C)
  xf : XfC K C
  nf : PySem.W.findIn K (.ref C) "value" = some none
  te : PySem.W.exmOne K (.ref C) (.ref C) = some true
  cg : CmpK K c.G
variable {fM fS fPa fPu fOw fKI fGI fTd : Addr} {dM dS dPa dPu dOw dKI dGI dTd : FuncData}
/-- what _law_classes promises: True, and all that stood stands but its own table -/
def spCl (c : CC) (Pt Pc : Addr) (Tt : List (Addr × Str)) : Sp := fun vs H Q _ => ∃ (n : Int) (a dx r : Addr), vs = [.int n, .ref a] ∧ H a = some (.ins c.I dx [("row", .ref r)]) ∧ LamX.Tabs Tt H ∧ GxR.TabG H Pt ∧ ∀ H', ButP Pc H H' → LamX.Tabs Tt H' → Q (.bl true) H'
theorem le2 {a b : V} : [a, b].length ≤ sizeLine := (by decide : 2 ≤ sizeLine)
theorem tabs_but {T : List (Addr × Str)} {H H' : Hp} {r : Addr} {kv : List (Key × V)} (t : LamX.Tabs T H) (hr : H r = some (.dK kv)) (e : ∀ b o, b ≠ r → H b = some o → H' b = some o) : LamX.Tabs T H' := fun p hp => by
  obtain ⟨ps, a1, a2, a3⟩ := t p hp
  refine ⟨ps, e _ _ (ne_of a1 hr (by simp)) a1, a2, fun pos cv h => ?_⟩
  obtain ⟨c, h1, h2⟩ := a3 pos cv h
  exact ⟨c, h1, e _ _ (ne_of h2 hr (fun z => nomatch z)) h2⟩
theorem tabG_same {H H' : Hp} {Pt : Addr} (h : GxR.TabG H Pt) (s : Same H H') : GxR.TabG H' Pt := by
  obtain ⟨ps, e, t⟩ := h
  exact ⟨ps, s _ _ e, t⟩
theorem own_has {K : PySem.W.Frag} {c : CC} {C Pt : Addr} {H : Hp} {g dg rf pl : Addr} {kk v : V} {kvs : List (Key × V)} {name : Str} {n : Nat} {Q : VK} {E : XK} (hp : H pl = none) (hg : H g = some (.ins c.G dg [("kind", kk), ("fields", .ref rf)])) (hm : H rf = some (.dK kvs)) (hT : GxR.TabG H Pt)
    (q1 : ∀ H', Same H H' → (valV kvs (.inr name)).isSome = true → Q (.bl true) H') (q2 : valV kvs (.inr name) = none → ∀ H', Same H H' → MethR c H' name n kk v ∧ Q (.bl (!decide (v = .non))) H') :
    spOwn K c C Pt [.str "has", .ref pl] (upd H pl (.lst [.ref g, .str name])) Q E := by
  have s0 : Same H (upd H pl (.lst [.ref g, .str name])) := same_new hp
  refine ⟨"has", pl, _, rfl, upd_same, .r_has_thing (.g (s0 _ _ hg)) fun H' s => ?_⟩
  have s1 := s0.trans s
  exact ⟨"has", "thing", .ref g, pl, rfl, tabG_same hT s1, Or.inr (Or.inr (Or.inl ⟨g, dg, kk, rf, kvs, name, n, v, rfl, rfl, rfl, s1 _ _ hg, s1 _ _ hm, Or.inl (Or.inl (s _ _ upd_same)), fun h => q1 H' s1 h, fun h => q2 h H' s1⟩))⟩
theorem w_2 : mergeK ([] : List (Key × V)) [(.inr "m", .int 1), (.inr "n", .int 2)] = [(.inr "m", .int 1), (.inr "n", .int 2)] := by kernel_rfl
theorem w_1 : mergeK ([] : List (Key × V)) [(.inr "m", .int 3)] = [(.inr "m", .int 3)] := by kernel_rfl
theorem scTold : FnScope ["what", "e"] ["what"] (defScope sTold) := ⟨rfl, rfl, rfl, by decide +kernel, rfl, by decide +kernel, by decide +kernel⟩
theorem sc_cl : FnScope ["number", "some", "first", "second", "thing", "bound_there"] ["number", "some"] (defScope sClasses) := ⟨rfl, rfl, rfl, by decide +kernel, rfl, by decide +kernel, by decide +kernel⟩
theorem ok_cl (F : FnP K "_law_classes" sClasses f fd) (hcd : fd.code = .ref cd) (G : TG K mg c tM tL tN fK dK) (l : LG K mg c C fM fS fPa fPu fOw fKI fGI fTd dM dS dPa dPu dOw dKI dGI) (FTd : FnP K "_law_told" sTold fTd dTd) (bTd : Binds K dTd ["what"] []) (tb : LamX.TabB base mg cd Pc)
    (Tt : List (Addr × Str)) (hPP : Pt ≠ Pc) (hmT : (Pc, ("_law_classes.<locals>.<lambda>" : Str)) ∈ Tt) (hut : ∀ p ∈ Tt, p.1 = Pc → p.2 = ("_law_classes.<locals>.<lambda>" : Str))
    (GMeth : FnOk P w K mg base CX0 1 fM dM ["kind", "name"] (spMeth c)) (GSame : FnOk P w K mg base CX0 2 fS dS ["one", "other"] (spSame c)) (GPart : FnOk P w K mg base (L2.CX P w) 3 fPa dPa ["what", "name"] (spPart c C)) (GPut : FnOk P w K mg base (L2.CX P w) 2 fPu dPu ["what", "name", "value"] (spPut c C))
    (GOwn : FnOk P w K mg base (L2.CX P w) 4 fOw dOw ["label", "row"] (spOwn K c C Pt)) (GK : FnOk P w K mg base CX0 1 fKI dKI ["self", "label", "base", "methods"] (spIniK c)) (GG : FnOk P w K mg base CX0 1 fGI dGI ["self", "kind"] (spIniG c)) :
    FnOk P w K mg base CX0 6 f fd ["number", "some"] (spCl c Pt Pc Tt) := by
  obtain ⟨oc, od, dV, kV, doc, pm, an, cdvT, ct, osl, rfl, lkT, hcT, _, _⟩ := FTd.ex
  have bT := bTd
  refine okC F hcd sc_cl (fun vs H Q E h => by obtain ⟨n, a, dx, r, rfl, _⟩ := h; rfl) (fun A outer s H vs Q E hr h => ?_)
  obtain ⟨n, a, dx, r, rfl, ha, hT, hG, fin⟩ := h
  have hu : (A.deeper (envOfC "_law_classes" (defScope sClasses) s.heap.objs.size f (.ref cd))).units + 1 < cLine := hu_of hr
  have hr1 : Room 1 (A.deeper (envOfC "_law_classes" (defScope sClasses) s.heap.objs.size f (.ref cd))) := hr.mono (by decide)
  have hr2 : Room 2 (A.deeper (envOfC "_law_classes" (defScope sClasses) s.heap.objs.size f (.ref cd))) := hr.mono (by decide)
  have hr3 : Room 3 (A.deeper (envOfC "_law_classes" (defScope sClasses) s.heap.objs.size f (.ref cd))) := hr.mono (by decide)
  have hr4 : Room 4 (A.deeper (envOfC "_law_classes" (defScope sClasses) s.heap.objs.size f (.ref cd))) := hr.mono (by decide)
  have hr5 : Room 5 (A.deeper (envOfC "_law_classes" (defScope sClasses) s.heap.objs.size f (.ref cd))) := hr
  refine ⟨_, PSs.nox (pss_cons (ps_par rfl sc_cl.nd (i := 2) (j := 3) rfl rfl (by decide) rfl rfl (pa_cons (pe_make l.mkK GK hr2 (by rfl) G.mKind l.bK .nil pass0 (pa_cons pe_str (pa_cons pe_non (pa_cons (pe_disp (pps_cons pe_str pe_int (pps_cons pe_str pe_int pps_nil)) rfl rfl (by simp) (by simp)) pa_nil)))) (pa_cons pe_non pa_nil)) (by rfl))
      (pss_cons (ps_set (i := 3) sc_cl.nd rfl (Or.inl rfl) (pe_make l.mkK GK hr2 (by rfl) G.mKind l.bK .nil pass0 (pa_cons pe_str (pa_cons (pv 2) (pa_cons (pe_disp (pps_cons pe_str pe_int pps_nil) rfl rfl (by simp) (by simp)) pa_nil)))))
      (pss_cons (ps_set (i := 4) sc_cl.nd rfl (Or.inr rfl) (pe_make l.mkG GG hr2 (by rfl) G.mThing l.bG .nil pass0 (pa_cons (pv 3) pa_nil)))
      (pss_cons (ps_if (pw_or (pt_cmpR op_ne (pe_call GMeth hr1 (by rfl) l.mMeth l.kMeth l.bMeth .nil pass0 (pa_cons (pv 3) (pa_cons pe_str pa_nil))) pe_int (nomark _)) (pw_or (pt_cmpR op_ne (pe_call GMeth hr1 (by rfl) l.mMeth l.kMeth l.bMeth .nil pass0 (pa_cons (pv 3) (pa_cons pe_str pa_nil))) pe_int (nomark _)) (pw_or1 (pt_cmpR op_ne (pe_call GMeth hr1 (by rfl) l.mMeth l.kMeth l.bMeth .nil pass0 (pa_cons (pv 2) (pa_cons pe_str pa_nil))) pe_int (nomark _))))).pt (pss_one (ps_ret pe_bl)) pss_nil)
      (pss_cons (ps_if (pt_cmpR op_notN (pe_call GMeth hr1 (by rfl) l.mMeth l.kMeth l.bMeth .nil pass0 (pa_cons (pv 3) (pa_cons pe_str pa_nil))) pe_non (nomark _)) (pss_one (ps_ret pe_bl)) pss_nil)
      (pss_cons (ps_set (i := 5) sc_cl.nd rfl (Or.inl rfl) (pe_callS GPart hr3 (by rfl) l.mPart l.kPart l.bPart (fun σ => passAt takes0 σ) (pa_cons (pv 4) (pa_cons pe_str pa_nil))))
      (pss_cons (ps_if (pw_or (pt_not (pt_val (pe_callB call_isi (by rfl) G.zIsi (by decide +kernel) (pa_cons (pv 5) (pa_cons (pe_glob (x := "Bound") (v := .ref c.B) (u := .ref c.B) (by rfl) G.mBound rfl) pa_nil))))) (pw_or (pt_cmpR op_ne (pe_fld (pv 5) rfl) pe_int (nomark _)) (pw_or1 (pt_cmpR (op_neI hu) (pe_fld (pv 5) rfl) (pv 4) (nomark _))))).pt (pss_one (ps_ret pe_bl)) pss_nil)
      (pss_cons (ps_if (pt_cmpR op_ne (pe_lamcall3 (T := Tt) (k := 3) (t := fun E => tCallS (spPart c C) (fun _ => E) (tCons (tVar 4) (tCons (tC (.str "q")) tNil))) (by rfl) l.mTold l.kTold lkT hcT bT scTold rfl (Or.inl rfl) (told_givesE l.mThrew l.xf l.nf) tb rfl hmT hut hr5 (LamX.lamS_by (by rfl)) rfl (fun _ _ _ _ _ => rfl) (fun A o s H E f c2 hq => by exact (pe_callS GPart hq (by rfl) l.mPart l.kPart l.bPart (fun σ => passAt (takes_of rfl rfl rfl rfl) σ) (pa_cons (pv 4) (pa_cons pe_str pa_nil))))) pe_str (nomark _)) (pss_one (ps_ret pe_bl)) pss_nil)
      (pss_cons (ps_expr (pe_callS GPut hr2 (by rfl) l.mPut l.kPut l.bPut (fun σ => passAt takes0 σ) (pa_cons (pv 4) (pa_cons pe_str (pa_cons (pv 0) pa_nil)))))
      (pss_cons (ps_if (pw_or (pt_cmpR op_ne (pe_callS GPart hr3 (by rfl) l.mPart l.kPart l.bPart (fun σ => passAt takes0 σ) (pa_cons (pv 4) (pa_cons pe_str pa_nil))) (pv 0) (nomark _)) (pw_or (pt_not (pt_val (pe_callS GOwn hr4 (by rfl) l.mOwn l.kOwn l.bOwn (fun σ => passAt takes0 σ) (pa_cons pe_str (pa_cons (pe_lst (pa_cons (pv 4) (pa_cons pe_str pa_nil))) pa_nil))))) (pw_or1 (pt_val (pe_callS GOwn hr4 (by rfl) l.mOwn l.kOwn l.bOwn (fun σ => passAt takes0 σ) (pa_cons pe_str (pa_cons (pe_lst (pa_cons (pv 4) (pa_cons pe_str pa_nil))) pa_nil))))))).pt (pss_one (ps_ret pe_bl)) pss_nil)
      (pss_cons (ps_if (pw_or (pt_not (pt_val (pe_callS GOwn hr4 (by rfl) l.mOwn l.kOwn l.bOwn (fun σ => passAt takes0 σ) (pa_cons pe_str (pa_cons (pe_lst (pa_cons (pv 4) (pa_cons pe_str pa_nil))) pa_nil))))) (pw_or1 (pt_cmpR op_ne (pe_callS GPart hr3 (by rfl) l.mPart l.kPart l.bPart (fun σ => passAt takes0 σ) (pa_cons (pv 3) (pa_cons pe_str pa_nil))) pe_int (nomark _)))).pt (pss_one (ps_ret pe_bl)) pss_nil)
      (pss_cons (ps_if (pt_cmpR op_ne (pe_lamcall3 (T := Tt) (k := 2) (t := fun E => tCallS (spPut c C) (fun _ => E) (tCons (tVar 1) (tCons (tC (.str "n")) (tCons (tC (.int 1)) tNil)))) (by rfl) l.mTold l.kTold lkT hcT bT scTold rfl (Or.inl rfl) (told_givesE l.mThrew l.xf l.nf) tb rfl hmT hut hr4 (LamX.lamS_by (by rfl)) rfl (fun _ _ _ _ _ => rfl) (fun A o s H E f c2 hq => by exact (pe_callS GPut hq (by rfl) l.mPut l.kPut l.bPut (fun σ => passAt (takes_of rfl rfl rfl rfl) σ) (pa_cons (pv 1) (pa_cons pe_str (pa_cons pe_int pa_nil)))))) pe_str (nomark _)) (pss_one (ps_ret pe_bl)) pss_nil)
      (pss_cons (ps_if (pw_or (pt_cmpR op_ne (pe_lamcall3 (T := Tt) (k := 3) (t := fun E => tCallS (spPart c C) (fun _ => E) (tCons (tC (.int 3)) (tCons (tC (.str "n")) tNil))) (by rfl) l.mTold l.kTold lkT hcT bT scTold rfl (Or.inl rfl) (told_givesE l.mThrew l.xf l.nf) tb rfl hmT hut hr5 (LamX.lamS_by (by rfl)) rfl (fun _ _ _ _ _ => rfl) (fun A o s H E f c2 hq => by exact (pe_callS GPart hq (by rfl) l.mPart l.kPart l.bPart (fun σ => passAt (takes_of rfl rfl rfl rfl) σ) (pa_cons pe_int (pa_cons pe_str pa_nil))))) pe_str (nomark _)) (pw_or1 (pt_not (pt_val (pe_call GSame hr2 (by rfl) l.mSame l.kSame l.bSame .nil pass0 (pa_cons (pv 4) (pa_cons (pv 4) pa_nil))))))).pt (pss_one (ps_ret pe_bl)) pss_nil)
      (pss_one (ps_ret pe_bl))))))))))))))), ?_⟩
  -- first, second = Kind('b', None, {..}), None
  refine fun p1 hp1 => ⟨upd_same, [(.inr "m", .int 1), (.inr "n", .int 2)], rfl, by decide, ?_⟩
  rw [upd_upd, w_2]
  intro f1 d1 hf1 hd1 ne1
  refine ⟨f1, d1, _, _, _, rfl, upd_same, rfl, ?_⟩
  rw [upd_upd]
  have a1 : Same (upd H p1 (.dK [(.inr "m", .int 1), (.inr "n", .int 2)])) _ := (same_new (o := .own f1) hd1).trans (same_new (o := .ins c.K d1 [("label", .str "b"), ("base", .non), ("methods", .ref p1)]) ((upd_ne ne1.symm).trans hf1))
  have m1 := a1 _ _ (upd_same (H := H) (a := p1))
  have s1 : Same H _ := (same_new hp1).trans a1
  have k1 : (upd (upd (upd H p1 (.dK [(.inr "m", .int 1), (.inr "n", .int 2)])) d1 (.own f1)) f1 (.ins c.K d1 [("label", .str "b"), ("base", .non), ("methods", .ref p1)])) f1 = _ := upd_same
  refine ⟨_, _, rfl, ?_⟩
  generalize upd (upd (upd H p1 (.dK [(.inr "m", .int 1), (.inr "n", .int 2)])) d1 (.own f1)) f1 (.ins c.K d1 [("label", .str "b"), ("base", .non), ("methods", .ref p1)]) = H1 at s1 m1 k1 ⊢
  clear a1 hp1 hf1 hd1 ne1
  -- second = Kind('k', first, {..})
  refine ⟨_, rfl, fun p2 hp2 => ⟨upd_same, [(.inr "m", .int 3)], rfl, by decide, ?_⟩⟩
  rw [upd_upd, w_1]
  intro f2 d2 hf2 hd2 ne2
  refine ⟨f2, d2, _, _, _, rfl, upd_same, rfl, ?_⟩
  rw [upd_upd]
  have a2 : Same (upd H1 p2 (.dK [(.inr "m", .int 3)])) _ := (same_new (o := .own f2) hd2).trans (same_new (o := .ins c.K d2 [("label", .str "k"), ("base", .ref f1), ("methods", .ref p2)]) ((upd_ne ne2.symm).trans hf2))
  have m2 := a2 _ _ (upd_same (H := H1) (a := p2))
  have s2 : Same H1 _ := (same_new hp2).trans a2
  have k2 : (upd (upd (upd H1 p2 (.dK [(.inr "m", .int 3)])) d2 (.own f2)) f2 (.ins c.K d2 [("label", .str "k"), ("base", .ref f1), ("methods", .ref p2)])) f2 = _ := upd_same
  generalize upd (upd (upd H1 p2 (.dK [(.inr "m", .int 3)])) d2 (.own f2)) f2 (.ins c.K d2 [("label", .str "k"), ("base", .ref f1), ("methods", .ref p2)]) = H2 at s2 m2 k2 ⊢
  clear a2 hp2 hf2 hd2 ne2
  replace m1 := s2 _ _ m1
  replace k1 := s2 _ _ k1
  replace s2 := s1.trans s2
  clear s1
  -- thing = Thing(second)
  refine ⟨_, rfl, fun g dg hg hdg neg => ⟨g, dg, _, rfl, upd_same, fun rf hrf => ⟨rfl, ?_⟩⟩⟩
  have hdg2 : (upd (upd H2 dg (.own g)) g (.ins c.G dg [])) rf = none := hrf
  have nrg : rf ≠ g := fun e => by rw [e, upd_same] at hrf; cases hrf
  have nrd : rf ≠ dg := fun e => by rw [e, upd_ne neg, upd_same] at hrf; cases hrf
  have hrf0 : H2 rf = none := by rw [upd_ne nrg, upd_ne nrd] at hrf; exact hrf
  have s3 : Same H2 (upd (upd (upd (upd H2 dg (.own g)) g (.ins c.G dg [])) rf (.dK [])) g (.ins c.G dg [("kind", .ref f2), ("fields", .ref rf)])) := fun b o e => by
    have n1 := ne_of_none e hg
    have n2 := ne_of_none e hdg
    have n3 := ne_of_none e hrf0
    rw [upd_ne n1, upd_ne n3, upd_ne n1, upd_ne n2]
    exact e
  have k3 : (upd (upd (upd (upd H2 dg (.own g)) g (.ins c.G dg [])) rf (.dK [])) g (.ins c.G dg [("kind", .ref f2), ("fields", .ref rf)])) g = _ := upd_same
  have m3 : (upd (upd (upd (upd H2 dg (.own g)) g (.ins c.G dg [])) rf (.dK [])) g (.ins c.G dg [("kind", .ref f2), ("fields", .ref rf)])) rf = some (.dK []) := (upd_ne nrg).trans upd_same
  have nG : H2 g = none := hg
  generalize upd (upd (upd (upd H2 dg (.own g)) g (.ins c.G dg [])) rf (.dK [])) g (.ins c.G dg [("kind", .ref f2), ("fields", .ref rf)]) = H3 at s3 k3 m3 ⊢
  replace m1 := s3 _ _ m1
  replace k1 := s3 _ _ k1
  replace m2 := s3 _ _ m2
  replace k2 := s3 _ _ k2
  have nrf : H rf = none := s2.free hrf0
  replace s3 := s2.trans s3
  clear s2 hrf hdg2 hdg neg nrd hg
  have ha3 := s3 _ _ ha
  obtain ⟨psP, hPt, _⟩ := hT _ hmT
  have hPt3 := s3 _ _ hPt
  have nPc : ∀ {b : Addr} {o : HO}, H3 b = some o → (∀ q, o ≠ .tbl q) → b ≠ Pc := fun e q z => by rw [z, hPt3] at e; exact q _ (Option.some.inj e).symm
  have nRf : ∀ {b : Addr} {o : HO}, H3 b = some o → (∀ q, o ≠ .dK q) → b ≠ rf := fun e q z => by rw [z, m3] at e; exact q _ (Option.some.inj e).symm
  have nm1 : p1 ≠ rf := ne_of m1 m3 (by simp)
  have nm2 : p2 ≠ rf := ne_of m2 m3 (by simp)
  have R2 : ∀ H', (∀ b o, b ≠ Pc → b ≠ rf → H3 b = some o → H' b = some o) → MethR c H' "m" 0 (.ref f2) (.int 3) := fun H' s => .here (s _ _ (nPc k2 (fun _ z => nomatch z)) (nRf k2 (fun _ z => nomatch z)) k2) (s _ _ (nPc m2 (fun _ z => nomatch z)) nm2 m2) (by kernel_rfl)
  have R3 : ∀ H', (∀ b o, b ≠ Pc → b ≠ rf → H3 b = some o → H' b = some o) → MethR c H' "n" 1 (.ref f2) (.int 2) := fun H' s => .up (s _ _ (nPc k2 (fun _ z => nomatch z)) (nRf k2 (fun _ z => nomatch z)) k2) (s _ _ (nPc m2 (fun _ z => nomatch z)) nm2 m2) (by kernel_rfl) (.here (s _ _ (nPc k1 (fun _ z => nomatch z)) (nRf k1 (fun _ z => nomatch z)) k1) (s _ _ (nPc m1 (fun _ z => nomatch z)) nm1 m1) (by kernel_rfl))
  have R1 : ∀ H', (∀ b o, b ≠ Pc → b ≠ rf → H3 b = some o → H' b = some o) → MethR c H' "m" 0 (.ref f1) (.int 1) := fun H' s => .here (s _ _ (nPc k1 (fun _ z => nomatch z)) (nRf k1 (fun _ z => nomatch z)) k1) (s _ _ (nPc m1 (fun _ z => nomatch z)) nm1 m1) (by kernel_rfl)
  have Rq : ∀ H', (∀ b o, b ≠ Pc → b ≠ rf → H3 b = some o → H' b = some o) → MethR c H' "q" 2 (.ref f2) .non := fun H' s => .up (s _ _ (nPc k2 (fun _ z => nomatch z)) (nRf k2 (fun _ z => nomatch z)) k2) (s _ _ (nPc m2 (fun _ z => nomatch z)) nm2 m2) (by kernel_rfl) (.up (s _ _ (nPc k1 (fun _ z => nomatch z)) (nRf k1 (fun _ z => nomatch z)) k1) (s _ _ (nPc m1 (fun _ z => nomatch z)) nm1 m1) (by kernel_rfl) .none)
  -- method_of ..
  refine ⟨_, rfl, _, .int 3, _, 0, rfl, R2 H3 (fun _ _ _ _ e => e), rfl, _, rfl, ite_same rfl ?_⟩
  refine ⟨_, rfl, _, .int 2, _, 1, rfl, R3 H3 (fun _ _ _ _ e => e), rfl, _, rfl, ite_same rfl ?_⟩
  refine ⟨_, rfl, _, .int 1, _, 0, rfl, R1 H3 (fun _ _ _ _ e => e), rfl, _, rfl, ite_same rfl ?_⟩
  refine ⟨_, rfl, _, .non, _, 2, rfl, Rq H3 (fun _ _ _ _ e => e), rfl, _, rfl, iteF ?_⟩
  -- bound_there = part_of(thing, 'n')
  refine ⟨_, rfl, .ref g, "n", rfl, Or.inr (Or.inr ⟨g, dg, .ref f2, rf, [], 1, .int 2, rfl, k3, m3, (fun u h => nomatch h), fun _ => ⟨R3 H3 (fun _ _ _ _ e => e), (fun h => nomatch h), fun _ pb db H4 s4 hpb hb => ?_⟩⟩)⟩
  refine ⟨_, rfl, _, _, _, _, true, rfl, .own _, .base (G.tB hb), (G.kit (t := .ref c.B) (u := .ref c.B) (b := true) (by simp [tyL]) (by simp [tyU]) (by simp) (by simp)), _, rfl, iteF ?_⟩
  refine ⟨_, rfl, pb, _, db, _, _, rfl, hb, G.iB.cl, G.aB1, rfl, rfl, _, rfl, ite_same rfl ?_⟩
  refine ⟨_, rfl, pb, _, db, _, _, rfl, hb, G.iB.cl, G.aB2, rfl, _, rfl, g, _, dg, _, rfl, rfl, s4 _ _ k3, l.cg, _, rfl, iteF ?_⟩
  have sH4 : Same H H4 := s3.trans s4
  -- told(lambda: part_of(thing, 'q'))
  refine ⟨hT.ext fun b o e => sH4 b o e, fun H5 b5 T5 => ?_⟩
  have B5 : ∀ b o, b ≠ Pc → b ≠ rf → H3 b = some o → H5 b = some o := fun b o n1 _ e => b5 b o n1 (s4 b o e)
  have m5 := b5 _ _ (nPc m3 (fun _ z => nomatch z)) (s4 _ _ m3)
  have g5 := B5 _ _ (nPc k3 (fun _ z => nomatch z)) (nRf k3 (fun _ z => nomatch z)) k3
  have sP5 : ButP Pc H H5 := fun b o n e => b5 b o n (sH4 b o e)
  refine ⟨_, rfl, .ref g, "q", rfl, Or.inr (Or.inr ⟨g, dg, .ref f2, rf, [], 2, .non, rfl, g5, m5, (fun u h => nomatch h), fun _ => ⟨Rq H5 B5, (fun _ d H6 s6 hd => ⟨true, l.te, (fun _ => ⟨d, "part", rfl, rfl, hd, by decide, ?_⟩), fun h => nomatch h⟩), fun h => absurd rfl h⟩⟩)⟩
  refine ⟨rfl, _, rfl, ite_snf (by kernel_rfl) ?_⟩
  -- put(thing, 'n', number)
  refine ⟨_, rfl, _, rfl, .ref g, .int n, "n", rfl, Or.inr ⟨g, dg, .ref f2, rf, [], rfl, s6 _ _ g5, s6 _ _ m5, by decide, ?_⟩⟩
  have w_p : putK ([] : List (Key × V)) (.inr "n") (.int n) = [(.inr "n", .int n)] := rfl
  rw [w_p]
  have vn : valV [((.inr "n" : Key), V.int n)] (.inr "n") = some (.int n) := by rfl
  have B7 : ∀ b o, b ≠ Pc → b ≠ rf → H3 b = some o → (upd H6 rf (.dK [(.inr "n", .int n)])) b = some o := fun b o n1 n2 e => by rw [upd_ne n2]; exact s6 _ _ (B5 b o n1 n2 e)
  have m7 : (upd H6 rf (.dK [(.inr "n", .int n)])) rf = some (.dK [(.inr "n", .int n)]) := upd_same
  have P7 : ButP Pc H (upd H6 rf (.dK [(.inr "n", .int n)])) := fun b o n1 e => by rw [upd_ne (ne_of_none e nrf)]; exact s6 _ _ (sP5 b o n1 e)
  have T7 : LamX.Tabs Tt (upd H6 rf (.dK [(.inr "n", .int n)])) := tabs_but (T5.ext s6) (s6 _ _ m5) (fun b o n1 e => by rw [upd_ne n1]; exact e)
  generalize upd H6 rf (.dK [(.inr "n", .int n)]) = H7 at B7 m7 P7 T7 ⊢
  have g7 := B7 _ _ (nPc k3 (fun _ z => nomatch z)) (nRf k3 (fun _ z => nomatch z)) k3
  have hG7 : GxR.TabG H7 Pt := by obtain ⟨ps, e, t⟩ := hG; exact ⟨ps, P7 _ _ hPP e, t⟩
  have fN : (valV [((.inr "n" : Key), V.int n)] (.inr "q")) = none := by rfl
  have fM : (valV [((.inr "n" : Key), V.int n)] (.inr "m")) = none := by rfl
  -- part_of(thing, 'n') != number or not own('has', ..) or own('has', ..)
  refine ⟨_, rfl, .ref g, "n", rfl, Or.inr (Or.inr ⟨g, dg, .ref f2, rf, _, 1, .int 2, rfl, g7, m7, (fun u hu => ?_), (fun hn => by rw [vn] at hn; cases hn)⟩)⟩
  obtain rfl := Option.some.inj (vn.symm.trans hu)
  refine ⟨_, rfl, rfl, _, rfl, ite_same rfl ?_⟩
  refine ⟨_, rfl, le2, fun q1 hq1 => own_has (n := 1) (v := .int 2) hq1 g7 m7 hG7 (fun H8 s8 _ => ?_) (fun hn => by rw [vn] at hn; cases hn)⟩
  refine ⟨_, rfl, iteF ?_⟩
  refine ⟨_, rfl, le2, fun q2 hq2 => own_has (n := 2) (v := .non) hq2 (s8 _ _ g7) (s8 _ _ m7) (tabG_same hG7 s8) (fun H9 s9 hs => by rw [fN] at hs; cases hs) (fun _ H9 s9 => ⟨Rq _ (fun b o n1 n2 e => s9 _ _ (s8 _ _ (B7 b o n1 n2 e))), ?_⟩)⟩
  refine ⟨_, rfl, iteF ?_⟩
  have s79 : Same H7 H9 := s8.trans s9
  -- not own('has', [thing, 'm']) or part_of(second, 'm') != 3
  refine ⟨_, rfl, le2, fun q3 hq3 => own_has (n := 0) (v := .int 3) hq3 (s79 _ _ g7) (s79 _ _ m7) (tabG_same hG7 s79) (fun H10 s10 hs => by rw [fM] at hs; cases hs) (fun _ H10 s10 => ⟨R2 _ (fun b o n1 n2 e => s10 _ _ (s79 _ _ (B7 b o n1 n2 e))), ?_⟩)⟩
  refine ⟨_, rfl, iteF ?_⟩
  have s710 : Same H7 H10 := s79.trans s10
  have B10 : ∀ b o, b ≠ Pc → b ≠ rf → H3 b = some o → H10 b = some o := fun b o n1 n2 e => s710 _ _ (B7 b o n1 n2 e)
  refine ⟨_, rfl, .ref f2, "m", rfl, Or.inl ⟨f2, d2, _, 0, .int 3, rfl, B10 _ _ (nPc k2 (fun _ z => nomatch z)) (nRf k2 (fun _ z => nomatch z)) k2, R2 _ B10, (fun _ => ?_), (fun h => nomatch h)⟩⟩
  refine ⟨rfl, _, rfl, ite_same rfl ?_⟩
  -- told(lambda: put(some, 'n', 1))
  refine ⟨T7.ext fun b o e => s710 b o e, fun H11 b11 T11 => ?_⟩
  have P11 : ButP Pc H H11 := fun b o n1 e => b11 b o n1 (s710 _ _ (P7 b o n1 e))
  have na : a ≠ Pc := ne_of ha hPt (by simp)
  refine ⟨_, rfl, .ref a, .int 1, "n", rfl, Or.inl ⟨"list", .i (P11 _ _ na ha), by decide +kernel, fun d H12 s12 hd => ⟨true, l.te, (fun _ => ⟨d, "kind", rfl, rfl, hd, by decide, ?_⟩), fun h => nomatch h⟩⟩⟩
  refine ⟨rfl, _, rfl, ite_snf (by kernel_rfl) ?_⟩
  -- told(lambda: part_of(3, 'n')) != 'threw kind' or not is_same(thing, thing)
  refine ⟨T11.ext fun b o e => s12 b o e, fun H13 b13 T13 => ?_⟩
  have P13 : ButP Pc H H13 := fun b o n1 e => b13 b o n1 (s12 _ _ (P11 b o n1 e))
  refine ⟨.int 3, "n", rfl, Or.inr (Or.inl ⟨"int", .int 3, by decide +kernel, by decide +kernel, fun d H14 s14 hd => ⟨true, l.te, (fun _ => ⟨d, "kind", rfl, rfl, hd, by decide, ?_⟩), fun h => nomatch h⟩⟩)⟩
  refine ⟨rfl, _, rfl, ite_snf (by kernel_rfl) ?_⟩
  have g14 : H14 g = some _ := s14 _ _ (b13 _ _ (nPc k3 (fun _ z => nomatch z)) (s12 _ _ (b11 _ _ (nPc k3 (fun _ z => nomatch z)) (s710 _ _ g7))))
  refine ⟨_, rfl, _, rfl, g, dg, _, rfl, g14, _, rfl, iteF ?_⟩
  exact fin H14 (fun b o n1 e => s14 _ _ (P13 b o n1 e)) (T13.ext fun b o e => s14 b o e)
end
end EH

set_option Elab.async false
set_option linter.all false
set_option maxRecDepth 100000
set_option maxHeartbeats 4000000
namespace EH
open PySem PySem.Spec PyProof.Rows L2
/-- what holds all through the law: the dice, the tables -/
structure Jw (ds : List Addr) (Pt : Addr) (Tt : List (Addr × Str)) (H : Hp) : Prop where
  ad : AllD H ds
  tT : LamX.Tabs Tt H
  tG : GxR.TabG H Pt
/-- all but dice and tables stays -/
def Kp (ds : List Addr) (H H' : Hp) : Prop := ∀ b o, b ∉ ds → (∀ q, o ≠ .tbl q) → H b = some o → H' b = some o
theorem Kp.of {ds : List Addr} {H H' : Hp} (s : Same H H') : Kp ds H H' := fun b o _ _ e => s b o e
theorem Kp.trans {ds : List Addr} {H H1 H2 : Hp} (s : Kp ds H H1) (t : Kp ds H1 H2) : Kp ds H H2 := fun b o n q e => t b o n q (s b o n q e)
theorem dice_tbl {ds : List Addr} {H : Hp} {b : Addr} {q : Array Value} (h : AllD H ds) (e : H b = some (.tbl q)) : b ∉ ds := fun z => by
  obtain ⟨x, y, m, w⟩ := h b z
  rw [w] at e; cases e
theorem dice_ins {ds : List Addr} {H : Hp} {b C dx : Addr} {fs : List (Str × V)} (h : AllD H ds) (e : H b = some (.ins C dx fs)) : b ∉ ds := fun z => by
  obtain ⟨x, y, m, w⟩ := h b z
  rw [w] at e; cases e
theorem dice_dT {ds : List Addr} {H : Hp} {b : Addr} {kvs : List (List Key × V)} (h : AllD H ds) (e : H b = some (.dT kvs)) : b ∉ ds := fun z => by
  obtain ⟨x, y, m, w⟩ := h b z
  rw [w] at e; cases e
theorem dice_ext {ds : List Addr} {H : Hp} {b : Addr} {φ : Heap → Prop} (h : AllD H ds) (e : H b = some (.ext φ)) : b ∉ ds := fun z => by
  obtain ⟨x, y, m, w⟩ := h b z
  rw [w] at e; cases e
section
variable {ds : List Addr} {Pt Pl : Addr} {Tt : List (Addr × Str)} {H H' : Hp}
theorem tabs_keep {T : List (Addr × Str)} (t : LamX.Tabs T H) (e : ∀ b o, (∃ q, o = HO.tbl q) ∧ b ∈ T.map (·.1) ∨ (∃ φ, o = HO.ext φ) → H b = some o → H' b = some o) : LamX.Tabs T H' := fun p hp => by
  obtain ⟨ps, a1, a2, a3⟩ := t p hp
  refine ⟨ps, e _ _ (.inl ⟨⟨_, rfl⟩, List.mem_map_of_mem hp⟩) a1, a2, fun pos cv h => ?_⟩
  obtain ⟨c, h1, h2⟩ := a3 pos cv h
  exact ⟨c, h1, e _ _ (.inr ⟨_, rfl⟩) h2⟩
theorem Jw.same (j : Jw ds Pt Tt H) (s : Same H H') : Jw ds Pt Tt H' := ⟨j.ad.same s, j.tT.ext s, tabG_same j.tG s⟩
theorem Jw.roll (j : Jw ds Pt Tt H) (f : Fr ds H H') (a : AllD H' ds) : Jw ds Pt Tt H' := by
  refine ⟨a, tabs_keep j.tT fun b o h e => f b o ?_ e, ?_⟩
  · rcases h with ⟨⟨q, rfl⟩, _⟩ | ⟨φ, rfl⟩
    · exact dice_tbl j.ad e
    · exact dice_ext j.ad e
  · obtain ⟨ps, e, t⟩ := j.tG
    exact ⟨ps, f _ _ (dice_tbl j.ad e) e, t⟩
theorem Kp.roll (f : Fr ds H H') : Kp ds H H' := fun b o n _ e => f b o n e
theorem Jw.but (j : Jw ds Pt Tt H) (hP : ∃ q, H Pl = some (.tbl q)) (hn : Pt ≠ Pl) (f : ButP Pl H H') (t : LamX.Tabs Tt H') : Jw ds Pt Tt H' := by
  refine ⟨fun d hd => ?_, t, ?_⟩
  · obtain ⟨a, b, m, e⟩ := j.ad d hd
    refine ⟨a, b, m, f _ _ (fun z => ?_) e⟩
    obtain ⟨q, w⟩ := hP
    rw [z, w] at e; cases e
  · obtain ⟨ps, e, t⟩ := j.tG
    exact ⟨ps, f _ _ hn e, t⟩
theorem Kp.but (hP : ∃ q, H Pl = some (.tbl q)) (f : ButP Pl H H') : Kp ds H H' := fun b o _ q e => f b o (fun z => by obtain ⟨w, h⟩ := hP; rw [z, h] at e; exact q w (Option.some.inj e).symm) e
theorem Jw.tabbed (j : Jw ds Pt Tt H) (hT : ∀ p ∈ Tt, p.1 ≠ Pt) (f : GxR.Tabbed Pt H H') : Jw ds Pt Tt H' := by
  obtain ⟨f1, f2⟩ := f
  obtain ⟨ps, eP, tP⟩ := j.tG
  refine ⟨fun d hd => ?_, tabs_keep j.tT fun b o h e => ?_, f1⟩
  · obtain ⟨a, b, m, e⟩ := j.ad d hd
    refine ⟨a, b, m, (f2 d (fun z => ?_)).trans e⟩
    rw [z, eP] at e; cases e
  · refine (f2 b (fun z => ?_)).trans e
    rcases h with ⟨_, h⟩ | ⟨φ, rfl⟩
    · obtain ⟨p, hp, e2⟩ := List.mem_map.mp h
      exact hT p hp (e2.trans z)
    · rw [z, eP] at e; cases e
theorem Kp.tabbed (hP : GxR.TabG H Pt) (f : GxR.Tabbed Pt H H') : Kp ds H H' := fun b o _ q e => (f.2 b (fun z => by obtain ⟨w, h, _⟩ := hP; rw [z, h] at e; exact q w (Option.some.inj e).symm)).trans e
theorem Jw.upl {r : Addr} {xs ys : List V} (j : Jw ds Pt Tt H) (hr : r ∉ ds) (e : H r = some (.lst xs)) : Jw ds Pt Tt (upd H r (.lst ys)) := by
  refine ⟨fun d hd => ?_, tabs_keep j.tT fun b o h e2 => ?_, ?_⟩
  · obtain ⟨a, b, m, q⟩ := j.ad d hd
    exact ⟨a, b, m, (upd_ne fun z => hr (by rw [← z]; exact hd)).trans q⟩
  · refine (upd_ne fun z => ?_).trans e2
    rw [z, e] at e2
    rcases h with ⟨⟨q, rfl⟩, _⟩ | ⟨φ, rfl⟩ <;> cases e2
  · obtain ⟨ps, eP, tP⟩ := j.tG
    exact ⟨ps, (upd_ne fun z => by rw [z, e] at eP; cases eP).trans eP, tP⟩
theorem Jw.upd_dT {r : Addr} {xs ys : List (List Key × V)} (j : Jw ds Pt Tt H) (e : H r = some (.dT xs)) : Jw ds Pt Tt (upd H r (.dT ys)) := by
  refine ⟨fun d hd => ?_, tabs_keep j.tT fun b o h e2 => ?_, ?_⟩
  · obtain ⟨a, b, m, q⟩ := j.ad d hd
    exact ⟨a, b, m, (upd_ne fun z => by rw [z, e] at q; cases q).trans q⟩
  · refine (upd_ne fun z => ?_).trans e2
    rw [z, e] at e2
    rcases h with ⟨⟨q, rfl⟩, _⟩ | ⟨φ, rfl⟩ <;> cases e2
  · obtain ⟨ps, eP, tP⟩ := j.tG
    exact ⟨ps, (upd_ne fun z => by rw [z, e] at eP; cases eP).trans eP, tP⟩
theorem Jw.tab (j : Jw ds Pt Tt H) {q : Str} (h : (Pl, q) ∈ Tt) : ∃ ps, H Pl = some (.tbl ps) := by
  obtain ⟨ps, e, _⟩ := j.tT _ h
  exact ⟨ps, e⟩
end
section
variable {K : PySem.W.Frag} {c : CC} {C Pt : Addr} {H : Hp} {Q : VK} {E : XK}
theorem ne_ints {a b : Addr} {ns : List Int} (ha : SqL K H a (ns.map V.int)) (hb : SqL K H b (ns.map V.int)) (q : Q (.bl false) H) : rNeD K (.ref a) (.ref b) H Q :=
  ⟨_, _, .lst ha dpAll_ints, .lst hb dpAll_ints, shaped_ints ns, shaped_ints ns, by rw [SeqAt.eqv_refl _ (by rw [PyData.canLay0]; exact canLay_map PyData.int (fun a => by rw [PyData.canLay0]) ns)]; exact q⟩
theorem dpAll_signs {l : List Nat} : DpAll K H (l.map fun z => V.str (S [z])) (l.map fun z => PyData.str (S [z])) := by
  induction l with
  | nil => exact .nil
  | cons a r ih => exact .cons (.str _) ih
theorem lay_signs : ∀ {l : List Nat}, (∀ z ∈ l, z < 1114112) → PyData.canLayAll0 (l.map fun z => PyData.str (S [z])) = true
  | [], _ => by rw [List.map_nil, PyData.canLayAll0]
  | a :: r, h => by
    have e : PyData.strOk (S [a]) = true := by
      have := h a List.mem_cons_self
      unfold PyData.strOk S
      simpa using this
    rw [List.map_cons, PyData.canLayAll0, PyData.canLay0, e, lay_signs (l := r) fun z hz => h z (List.mem_cons_of_mem _ hz)]
    rfl
theorem ne_signs {a b : Addr} {l : List Nat} (hl : ∀ z ∈ l, z < 1114112) (ha : SqL K H a (l.map fun z => V.str (S [z]))) (hb : SqL K H b (l.map fun z => V.str (S [z]))) (q : Q (.bl false) H) : rNeD K (.ref a) (.ref b) H Q := by
  have sh : SeqAt.shaped (.list (l.map fun z => PyData.str (S [z]))) = true := by
    unfold SeqAt.shaped
    rw [PyData.canLay0, lay_signs hl, PyData.depth]
    have := depth_map (fun z => PyData.str (S [z])) 0 (fun a => by rw [PyData.depth]; exact Nat.le_refl _) l
    simp only [Bool.true_and, decide_eq_true_eq]
    omega
  exact ⟨_, _, .lst ha dpAll_signs, .lst hb dpAll_signs, sh, sh, by rw [SeqAt.eqv_refl _ (by rw [PyData.canLay0]; exact lay_signs hl)]; exact q⟩
theorem table_made {x dx r : Addr} (hx : H x = none) (hdx : H dx = none) (ne : dx ≠ x) (hr : (upd (upd H dx (.own x)) x (.ins c.T dx [])) r = none) :
    Same H (upd (upd (upd (upd H dx (.own x)) x (.ins c.T dx [])) r (.dT [])) x (.ins c.T dx [("row", .ref r)])) ∧ (upd (upd (upd (upd H dx (.own x)) x (.ins c.T dx [])) r (.dT [])) x (.ins c.T dx [("row", .ref r)])) x = some (.ins c.T dx [("row", .ref r)]) ∧ H r = none ∧ (upd (upd (upd (upd H dx (.own x)) x (.ins c.T dx [])) r (.dT [])) x (.ins c.T dx [("row", .ref r)])) r = some (.dT []) := by
  have n1 : r ≠ x := fun e => by rw [e, upd_same] at hr; cases hr
  have n2 : r ≠ dx := fun e => by rw [e, upd_ne ne, upd_same] at hr; cases hr
  have hr0 : H r = none := by rw [upd_ne n1, upd_ne n2] at hr; exact hr
  refine ⟨fun b o e => ?_, upd_same, hr0, (upd_ne n1).trans upd_same⟩
  rw [upd_ne (ne_of_none e hx), upd_ne (ne_of_none e hr0), upd_ne (ne_of_none e hx), upd_ne (ne_of_none e hdx)]
  exact e
end
/-- keys of a map that is put to -/
theorem keys_put (kvs : List (List Key × V)) (ks : List Int) (n : Int) (v : V) (h : kvs.map (·.1) = ks.map tkey) : (putK kvs (tkey n) v).map (·.1) = (if n ∈ ks then ks else ks ++ [n]).map tkey := by
  have inj : ∀ a b : Int, tkey a = tkey b → a = b := fun a b e => by
    have := congrArg (fun l : List Key => l[1]?) e
    simpa [tkey] using this
  have e : (kvs.any fun kv => decide (kv.1 = tkey n)) = decide (n ∈ ks) := by
    have : (kvs.any fun kv => decide (kv.1 = tkey n)) = ((kvs.map (·.1)).any fun k => decide (k = tkey n)) := by rw [List.any_map]; rfl
    rw [this, h, List.any_map]
    by_cases hn : n ∈ ks
    · rw [decide_eq_true hn, List.any_eq_true]
      exact ⟨n, hn, by simp⟩
    · rw [decide_eq_false hn, List.any_eq_false]
      intro x hx z
      have z' : decide (tkey x = tkey n) = true := z
      exact hn ((inj _ _ (of_decide_eq_true z')) ▸ hx)
  unfold putK
  rw [e]
  by_cases hn : n ∈ ks
  · rw [decide_eq_true hn, if_pos rfl, if_pos hn, ← h, List.map_map]
    refine List.map_congr_left fun kv _ => ?_
    show (if kv.1 = tkey n then (kv.1, v) else kv).1 = kv.1
    split <;> rfl
  · rw [decide_eq_false hn, if_neg Bool.false_ne_true, if_neg hn, List.map_append, List.map_append, h]
    rfl
theorem inV_ints {n : Int} : ∀ {ks : List Int}, inV (.int n) (ks.map V.int) = decide (n ∈ ks)
  | [] => by simp [inV]
  | m :: L => by
    have ih := inV_ints (n := n) (ks := L)
    unfold inV at ih ⊢
    rw [List.map_cons, List.any_cons, ih]
    have e : eqV (V.int m) (V.int n) = decide (m = n) := by
      show (m == n) = _
      by_cases h : m = n <;> simp [h]
    rw [e]
    by_cases h : m = n
    · subst h; simp
    · have h' : ¬ n = m := fun q => h q.symm
      simp [h, h']
theorem flat_ints : ∀ {L : List Int}, (L.map V.int).all flatV = true
  | [] => rfl
  | m :: L => by rw [List.map_cons, List.all_cons, flat_ints]; rfl
theorem log_small {n : Nat} (h : n < 100000) : ((n : Int)).natAbs.log2 < 1920 := by
  rw [Int.natAbs_natCast]
  by_cases z : n = 0
  · subst z; decide
  · exact Nat.lt_of_lt_of_le ((Nat.log2_lt z).mpr (show n < 2 ^ 17 by omega)) (by decide)
theorem rng_ints (n : Nat) : ((List.range n).map fun j : Nat => V.int (j : Int)) = (((List.range n).map fun j : Nat => (j : Int))).map V.int := by
  rw [List.map_map]
  rfl
/-- what does not go, by its word -/
inductive Case8 (aS : Addr) (l : List Nat) : Str → List V → Str → Prop
  | a : Case8 aS l "len" [.int 3] "kind"
  | b : Case8 aS l "len" [] "count"
  | c : Case8 aS l "push" [.ref aS] "count"
  | d : Case8 aS l "int" [.str "1a"] "number"
  | e : Case8 aS l "int" [.str ""] "number"
  | f : Case8 aS l "has" [.ref aS, .str "m"] "kind"
  | g : Case8 aS l "keys" [.ref aS] "kind"
  | h : Case8 aS l "pop" [.str (S l)] "kind"
def It8 (aS : Addr) (l : List Nat) (ds : List Addr) (H : Hp) (x : V) : Prop := ∃ (t b : Addr) (lab wd : Str) (es : List V), x = .ref t ∧ H t = some (.tup [.str lab, .ref b, .str wd]) ∧ H b = some (.lst es) ∧ b ∉ ds ∧ t ∉ ds ∧ Case8 aS l lab es wd
theorem It8.keep {aS : Addr} {l : List Nat} {ds : List Addr} {H H' : Hp} {x : V} (i : It8 aS l ds H x) (k : Kp ds H H') : It8 aS l ds H' x := by
  obtain ⟨t, b, lab, wd, es, rfl, h1, h2, n1, n2, c⟩ := i
  exact ⟨t, b, lab, wd, es, rfl, k _ _ n2 (fun _ z => nomatch z) h1, k _ _ n1 (fun _ z => nomatch z) h2, n1, n2, c⟩
theorem mk_it {aS : Addr} {l : List Nat} {ds : List Addr} {H : Hp} {b t : Addr} {lab wd : Str} {es : List V} (a : AllD H ds) (hb : H b = none) (ht : (upd H b (.lst es)) t = none) (c : Case8 aS l lab es wd) :
    Same H (upd (upd H b (.lst es)) t (.tup [.str lab, .ref b, .str wd])) ∧ It8 aS l ds (upd (upd H b (.lst es)) t (.tup [.str lab, .ref b, .str wd])) (.ref t) := by
  have s1 := same_new (o := .lst es) hb
  have s2 := same_new (o := .tup [.str lab, .ref b, .str wd]) ht
  exact ⟨s1.trans s2, t, b, lab, wd, es, rfl, upd_same, s2 _ _ upd_same, nd_new a hb, nd_new (a.same s1) ht, c⟩
theorem Case8.len {aS : Addr} {l : List Nat} {lab wd : Str} {es : List V} (c : Case8 aS l lab es wd) : wd.length ≤ 10 := by
  cases c <;> decide +kernel
theorem case_own {K : PySem.W.Frag} {c : CC} {C Pt aS dS b : Addr} {r : V} {l : List Nat} {lab wd : Str} {es : List V} {H : Hp} {Q : VK} {E : XK} (ca : Case8 aS l lab es wd) (hS : H aS = some (.ins c.I dS [("row", r)])) (hG : GxR.TabG H Pt)
    (thr : ∀ H', (Same H H' ∨ ∃ H1, Same H H1 ∧ GxR.Tabbed Pt H1 H') → ThrS C wd H' E) : OwnC K c C Pt H b Q E lab es := by
  cases ca with
  | a => exact .r_len_int (.int 3) fun H' s => ⟨_, _, _, _, rfl, tabG_same hG s, Or.inr (Or.inr (Or.inr ⟨by decide +kernel, by decide +kernel, thr _ (.inl s)⟩))⟩
  | b => exact .count0 (thr _ (.inl (Same.refl H)))
  | c => exact .count1 (thr _ (.inl (Same.refl H)))
  | d =>
    refine .r_int_text (.str _) fun H' s => ⟨_, _, _, _, rfl, tabG_same hG s, Or.inr (Or.inl ⟨[49, 97], rfl, rfl, congrArg V.str (by kernel_rfl), by decide, Or.inr ⟨97, by decide, by decide⟩, thr _ (.inl s), fun H2 t => thr _ (.inr ⟨H', s, t⟩)⟩)⟩
  | e =>
    refine .r_int_text (.str _) fun H' s => ⟨_, _, _, _, rfl, tabG_same hG s, Or.inr (Or.inl ⟨[], rfl, rfl, congrArg V.str (by kernel_rfl), by decide, Or.inl rfl, thr _ (.inl s), fun H2 t => thr _ (.inr ⟨H', s, t⟩)⟩)⟩
  | f => exact .r_has_list (.i hS) fun H' s => ⟨_, _, _, _, rfl, tabG_same hG s, Or.inr (Or.inr (Or.inr ⟨by decide +kernel, by decide +kernel, thr _ (.inl s)⟩))⟩
  | g => exact .r_keys_list (.i hS) fun H' s => ⟨_, _, _, _, rfl, tabG_same hG s, Or.inr (Or.inr (Or.inr ⟨by decide +kernel, by decide +kernel, thr _ (.inl s)⟩))⟩
  | h => exact .r_pop_text (.str _) fun H' s => ⟨_, _, _, _, rfl, tabG_same hG s, Or.inr (Or.inr (Or.inr ⟨by decide +kernel, by decide +kernel, thr _ (.inl s)⟩))⟩
end EH

set_option Elab.async false
set_option linter.all false
set_option maxRecDepth 100000
set_option maxHeartbeats 4000000
namespace EH
open PySem PySem.Spec PyProof.Rows L2
abbrev sLaw8 : Stmt := top 33
section
variable {P : Program} {w : World} {K : PySem.W.Frag} {mg : Str → Option Value} {base : Heap} {f cd Pt Pl Pc : Addr} {fd : FuncData} {c : CC} {tM tL tN : Tok} {fK : Addr} {dK : FuncData}
variable {fKi fKe fTa : Addr} {dKi dKe dTa : FuncData} {C fI fM fB : Addr} {dM dB : FuncData} {fS fPa fPu fOw fKI fGI fTd : Addr} {dS dPa dPu dOw dKI dGI dTd : FuncData}
structure VG (K : PySem.W.Frag) (mg : Str → Option Value) (c : CC) (fRo fRn fSt fRw fOw fCl fIi fTi : Addr) (dRo dRn dSt dRw dOw dCl dIi dTi : FuncData) : Prop where
  mRounds : mg "_law_rounds" = some (.ref fRn)
  kRounds : PySem.W.keepIn K (.ref fRn) = true
  bRounds : Binds K dRn ["script", "most"] []
  mRoll : mg "_law_roll" = some (.ref fRo)
  kRoll : PySem.W.keepIn K (.ref fRo) = true
  bRoll : Binds K dRo ["dice", "many"] []
  mStore : mg "store" = some (.ref fSt)
  kStore : PySem.W.keepIn K (.ref fSt) = true
  bStore : Binds K dSt ["what", "place", "value"] []
  mRow : mg "row_to_walk" = some (.ref fRw)
  kRow : PySem.W.keepIn K (.ref fRw) = true
  bRow : Binds K dRw ["what"] []
  mOwn : mg "own" = some (.ref fOw)
  kOwn : PySem.W.keepIn K (.ref fOw) = true
  bOwn : Binds K dOw ["label", "row"] []
  mClasses : mg "_law_classes" = some (.ref fCl)
  kClasses : PySem.W.keepIn K (.ref fCl) = true
  bClasses : Binds K dCl ["number", "some"] []
  mkI : Mk K c.I fIi
  bI : Binds K dIi ["self", "row"] []
  mkT : Mk K c.T fTi
  bT : Binds K dTi ["self"] []
  zRange : mg "range" = none
variable {fRo fRn fSt fRw fCl fIi fTi : Addr} {dRo dRn dSt dRw dCl dIi dTi : FuncData}
/-- what the law promises -/
def spLaw8 (K : PySem.W.Frag) (Pt : Addr) (Tt : List (Addr × Str)) : Sp := fun vs H Q _ => ∃ (a : Addr) (ns : List Int), vs = [.ref a] ∧ SqL K H a (ns.map V.int) ∧ ns.length ≤ 63 ∧ LamX.Tabs Tt H ∧ GxR.TabG H Pt ∧ ∀ H', Q (.bl true) H'
structure M8 (c : CC) (ds : List Addr) (p Pt : Addr) (Tt : List (Addr × Str)) (rw aS rS aT rT pk : Addr) (ns ms ls ks : List Int) (H : Hp) : Prop where
  j : Jw ds Pt Tt H
  hp : H p = some (.lst (ds.map V.ref))
  np : p ∉ ds
  hw : H rw = some (.lst (ns.map V.int))
  nw : rw ∉ ds
  hS : ∃ dx, H aS = some (.ins c.I dx [("row", .ref rS)])
  hr : H rS = some (.lst (ms.map V.int))
  nr : rS ∉ ds
  hT : ∃ dx, H aT = some (.ins c.T dx [("row", .ref rT)])
  hk : ∃ kvs, H rT = some (.dT kvs) ∧ kvs.map (·.1) = ls.map tkey
  hq : H pk = some (.lst (ks.map V.int))
  nq : pk ∉ ds
theorem M8.keep {ds : List Addr} {p Pt : Addr} {Tt : List (Addr × Str)} {rw aS rS aT rT pk : Addr} {ns ms ls ks : List Int} {H H' : Hp} (m : M8 c ds p Pt Tt rw aS rS aT rT pk ns ms ls ks H) (k : Kp ds H H') (j : Jw ds Pt Tt H') : M8 c ds p Pt Tt rw aS rS aT rT pk ns ms ls ks H' := by
  obtain ⟨dS, hS⟩ := m.hS
  obtain ⟨dT, hT⟩ := m.hT
  obtain ⟨kvs, hk, hkk⟩ := m.hk
  exact ⟨j, k _ _ m.np (fun _ z => nomatch z) m.hp, m.np, k _ _ m.nw (fun _ z => nomatch z) m.hw, m.nw, ⟨dS, k _ _ (dice_ins m.j.ad hS) (fun _ z => nomatch z) hS⟩, k _ _ m.nr (fun _ z => nomatch z) m.hr, m.nr,
    ⟨dT, k _ _ (dice_ins m.j.ad hT) (fun _ z => nomatch z) hT⟩, ⟨kvs, k _ _ (dice_dT m.j.ad hk) (fun _ z => nomatch z) hk, hkk⟩, k _ _ m.nq (fun _ z => nomatch z) m.hq, m.nq⟩
theorem M8.same {ds : List Addr} {p Pt : Addr} {Tt : List (Addr × Str)} {rw aS rS aT rT pk : Addr} {ns ms ls ks : List Int} {H H' : Hp} (m : M8 c ds p Pt Tt rw aS rS aT rT pk ns ms ls ks H) (s : Same H H') : M8 c ds p Pt Tt rw aS rS aT rT pk ns ms ls ks H' := m.keep (.of s) (m.j.same s)
theorem M8.put {ds : List Addr} {p Pt : Addr} {Tt : List (Addr × Str)} {rw aS rS aT rT pk : Addr} {ns ms ls ks ms' : List Int} {xs : List V} {H : Hp} (m : M8 c ds p Pt Tt rw aS rS aT rT pk ns ms ls ks H) (e : xs = ms'.map V.int) (h : rw ≠ rS ∧ p ≠ rS ∧ pk ≠ rS) : M8 c ds p Pt Tt rw aS rS aT rT pk ns ms' ls ks (upd H rS (.lst xs)) := by
  subst e
  obtain ⟨dS, hS⟩ := m.hS
  obtain ⟨dT, hT⟩ := m.hT
  obtain ⟨kvs, hk, hkk⟩ := m.hk
  have ne : ∀ {b : Addr} {o : HO}, H b = some o → (∀ q, o ≠ .lst q) → (upd H rS (.lst (ms'.map V.int))) b = some o := fun e q => (upd_ne fun z => by rw [z, m.hr] at e; exact q _ (Option.some.inj e).symm).trans e
  exact ⟨m.j.upl m.nr m.hr, (upd_ne h.2.1).trans m.hp, m.np, (upd_ne h.1).trans m.hw, m.nw, ⟨_, ne hS (fun _ z => nomatch z)⟩, upd_same, m.nr, ⟨_, ne hT (fun _ z => nomatch z)⟩, ⟨_, ne hk (fun _ z => nomatch z), hkk⟩, (upd_ne h.2.2).trans m.hq, m.nq⟩
theorem at_last {ms : List Int} {n : Int} : atI ((ms ++ [n]).map V.int) (-1) = some (.int n) := by
  have e : ixN ((ms ++ [n]).map V.int).length (-1) = some ms.length := by
    rw [List.length_map, List.length_append]
    unfold ixN
    rw [if_neg (by omega)]
    simp
    omega
  unfold atI
  rw [e]
  simp
theorem ne_nil {a b : Addr} {ns : List Int} {n : Int} {H : Hp} {Q : VK} (ha : SqL K H a ((ns ++ [n]).map V.int)) (hb : SqL K H b []) (q : Q (.bl true) H) : rNeD K (.ref a) (.ref b) H Q :=
  ⟨_, _, .lst ha dpAll_ints, .lst hb .nil, shaped_ints _, shaped_ints [], by
    have e : PyData.eqv (.list ((ns ++ [n]).map PyData.int)) (.list []) = false := by
      cases ns <;> simp [PyData.eqv, PyData.eqvAll]
    rw [e]; exact q⟩
theorem le1 {a : V} : [a].length ≤ sizeLine := (by decide : 1 ≤ sizeLine)
theorem le3 {a b d : V} : [a, b, d].length ≤ sizeLine := (by decide : 3 ≤ sizeLine)
theorem le0 : ([] : List V).length ≤ sizeLine := (by decide : 0 ≤ sizeLine)
theorem sc_law : FnScope ["script", "dice", "row", "k", "some", "text", "table", "keys", "key", "last", "number", "label", "bad", "word"] ["script"] (defScope sLaw8) := ⟨rfl, rfl, rfl, by decide +kernel, rfl, by decide +kernel, by decide +kernel⟩
theorem ok_law (F : FnP K "law" sLaw8 f fd) (hcd : fd.code = .ref cd) (G : TG K mg c tM tL tN fK dK) (m : MG K mg c fM fB dM dB) (l8 : LG K mg c C fM fS fPa fPu fOw fKI fGI fTd dM dS dPa dPu dOw dKI dGI) (v : VG K mg c fRo fRn fSt fRw fOw fCl fIi fTi dRo dRn dSt dRw dOw dCl dIi dTi)
    (FTd : FnP K "_law_told" sTold fTd dTd) (bTd : Binds K dTd ["what"] []) (tb : LamX.TabB base mg cd Pl)
    (Tt : List (Addr × Str)) (hPl : Pt ≠ Pl) (hPc : Pt ≠ Pc) (hTt : ∀ p ∈ Tt, p.1 ≠ Pt) (hmT : (Pl, ("law.<locals>.<lambda>" : Str)) ∈ Tt) (hut : ∀ p ∈ Tt, p.1 = Pl → p.2 = ("law.<locals>.<lambda>" : Str)) (hmc : (Pc, ("_law_classes.<locals>.<lambda>" : Str)) ∈ Tt)
    (GRoll : FnOk P w K mg base CX0 1 fRo dRo ["dice", "many"] spRoll) (GRounds : FnOk P w K mg base CX0 2 fRn dRn ["script", "most"] (spRounds K)) (GStore : FnOk P w K mg base CX0 3 fSt dSt ["what", "place", "value"] (spStore c))
    (GRow : FnOk P w K mg base (L2.CX P w) 2 fRw dRw ["what"] (spRow c C)) (GOwn : FnOk P w K mg base (L2.CX P w) 4 fOw dOw ["label", "row"] (spOwn K c C Pt)) (GClasses : FnOk P w K mg base CX0 6 fCl dCl ["number", "some"] (spCl c Pt Pc Tt))
    (GI : FnOk P w K mg base CX0 1 fIi dIi ["self", "row"] (spIniI c)) (GT : FnOk P w K mg base CX0 1 fTi dTi ["self"] (spIniT c)) :
    FnOk P w K mg base CX0 7 f fd ["script"] (spLaw8 K Pt Tt) := by
  obtain ⟨oc, od, dV, kV, doc, pm, an, cdvT, ct, osl, rfl, lkT, hcT, _, _⟩ := FTd.ex
  have bT := bTd
  refine okC F hcd sc_law (fun vs H Q E h => by obtain ⟨a, ns, rfl, _⟩ := h; rfl) (fun A outer s H vs Q E hr h => ?_)
  obtain ⟨a, ns, rfl, hS, hns, hT, hG, fin⟩ := h
  have hu : (A.deeper (envOfC "law" (defScope sLaw8) s.heap.objs.size f (.ref cd))).units + 1 < cLine := hu_of hr
  have hu64 : (A.deeper (envOfC "law" (defScope sLaw8) s.heap.objs.size f (.ref cd))).units + 64 < cLine := hr.units
  have hr1 : Room 1 (A.deeper (envOfC "law" (defScope sLaw8) s.heap.objs.size f (.ref cd))) := hr.mono (by decide)
  have hrb := hr1
  have hr2 : Room 2 (A.deeper (envOfC "law" (defScope sLaw8) s.heap.objs.size f (.ref cd))) := hr.mono (by decide)
  have hr3 : Room 3 (A.deeper (envOfC "law" (defScope sLaw8) s.heap.objs.size f (.ref cd))) := hr.mono (by decide)
  have hr4 : Room 4 (A.deeper (envOfC "law" (defScope sLaw8) s.heap.objs.size f (.ref cd))) := hr.mono (by decide)
  have hr6 : Room 6 (A.deeper (envOfC "law" (defScope sLaw8) s.heap.objs.size f (.ref cd))) := hr
  refine ⟨_, PSs.nox (pss_cons (ps_for PassesOwn.never rfl (pi_list (pe_call GRounds hr2 (by rfl) v.mRounds v.kRounds v.bRounds .nil pass0 (pa_cons (pv 0) (pa_cons pe_int pa_nil)))) (pg_name (i := 1) sc_law.nd rfl (Or.inr rfl))
      (pss_cons (ps_setLc (own := [("k", 3)]) (g := gName 3) (tt := tYes) (i := 2) rfl sc_law.nd rfl rfl (sw_true rfl rfl rfl (by decide +kernel)) (pi_range1 (by rfl) v.zRange (pa_cons (pe_call GRoll hr1 (by rfl) v.mRoll v.kRoll v.bRoll .nil pass0 (pa_cons (pv 1) (pa_cons pe_int pa_nil))) pa_nil)) (blkOk_by (N := ["script", "dice", "row", "k", "some", "text", "table", "keys", "key", "last", "number", "label", "bad", "word"]) (sc := defScope sLaw8) (by decide +kernel)) (fun _ _ _ _ _ => pg_name (i := 3) sc_law.nd rfl (Or.inl rfl)) (fun _ _ _ _ _ => pts_nil) (fun _ _ _ _ _ => (pe_call GRoll hrb (by rfl) v.mRoll v.kRoll v.bRoll .nil pass0 (pa_cons (pv 1) (pa_cons pe_int pa_nil)))))
      (pss_cons (ps_asg (pe_tup (pa_cons (pe_make v.mkI GI hr2 (by rfl) G.mItems v.bI .nil pass0 (pa_cons (pe_callTy call_list_of (by rfl) m.zList (by decide +kernel) (pa_cons (pv 2) pa_nil)) pa_nil)) (pa_cons (pe_slice sl_str pe_str po_none (po_some (pe_call GRoll hr1 (by rfl) v.mRoll v.kRoll v.bRoll .nil pass0 (pa_cons (pv 1) (pa_cons pe_int pa_nil))))) (pa_cons (pe_make0 v.mkT GT hr2 (by rfl) G.mTable v.bT .nil pass0) pa_nil)))) (pg_tup rfl (pgs_cons (pg_name (i := 4) sc_law.nd rfl (Or.inr rfl)) (pgs_cons (pg_name (i := 5) sc_law.nd rfl (Or.inl rfl)) (pgs_cons (pg_name (i := 6) sc_law.nd rfl (Or.inl rfl)) pgs_nil)))))
      (pss_cons (ps_set (i := 7) sc_law.nd rfl (Or.inl rfl) (pe_lst pa_nil))
      (pss_cons (ps_for PassesOwn.never rfl (pi_range1 (by rfl) v.zRange (pa_cons (pe_call GRoll hr1 (by rfl) v.mRoll v.kRoll v.bRoll .nil pass0 (pa_cons (pv 1) (pa_cons pe_int pa_nil))) pa_nil)) (pg_name (i := 3) sc_law.nd rfl (Or.inl rfl))
        (pss_cons (ps_set (i := 8) sc_law.nd rfl (Or.inl rfl) (pe_call GRoll hr1 (by rfl) v.mRoll v.kRoll v.bRoll .nil pass0 (pa_cons (pv 1) (pa_cons pe_int pa_nil))))
        (pss_cons (ps_expr (pe_call GStore hr3 (by rfl) v.mStore v.kStore v.bStore .nil pass0 (pa_cons (pv 6) (pa_cons (pv 8) (pa_cons (pv 3) pa_nil)))))
        (pss_one (ps_set (i := 7) sc_law.nd rfl (Or.inl rfl) (pe_op op_cat (pv 7) (pe_op op_rep (pe_lst (pa_cons (pv 8) pa_nil)) (pe_callTy call_int1 (by rfl) G.zInt (by decide +kernel) (pa_cons (pe_cmpR op_notIn_seq (pv 8) (pv 7) (by rfl)) pa_nil)))))))))
      (pss_cons (ps_if (pw_or (pt_cmpR op_ne (pe_callS GOwn hr4 (by rfl) v.mOwn v.kOwn v.bOwn (fun σ => passAt takes0 σ) (pa_cons pe_str (pa_cons (pe_lst (pa_cons (pv 4) pa_nil)) pa_nil))) (pe_callB call_len_seq (by rfl) G.zLen PySem.boot_len (pa_cons (pv 2) pa_nil)) (nomark _)) (pw_or1 (pt_cmpR op_ne (pe_callS GOwn hr4 (by rfl) v.mOwn v.kOwn v.bOwn (fun σ => passAt takes0 σ) (pa_cons pe_str (pa_cons (pe_lst (pa_cons (pv 5) pa_nil)) pa_nil))) (pe_callB call_len_str (by rfl) G.zLen PySem.boot_len (pa_cons (pv 5) pa_nil)) (nomark _)))).pt (pss_one (ps_ret pe_bl)) pss_nil)
      (pss_cons (ps_if (pw_or (pt_cmpR op_ne (pe_callS GOwn hr4 (by rfl) v.mOwn v.kOwn v.bOwn (fun σ => passAt takes0 σ) (pa_cons pe_str (pa_cons (pe_lst (pa_cons (pv 6) pa_nil)) pa_nil))) (pe_callB call_len_seq (by rfl) G.zLen PySem.boot_len (pa_cons (pv 7) pa_nil)) (nomark _)) (pw_or1 (pt_cmpR (op_neD hu64) (pe_fld (pe_callS GOwn hr4 (by rfl) v.mOwn v.kOwn v.bOwn (fun σ => passAt takes0 σ) (pa_cons pe_str (pa_cons (pe_lst (pa_cons (pv 6) pa_nil)) pa_nil))) rfl) (pv 7) (nomark _)))).pt (pss_one (ps_ret pe_bl)) pss_nil)
      (pss_cons (ps_if (pw_or (pt_cmpR (op_neD hu64) (pe_callS GRow hr2 (by rfl) v.mRow v.kRow v.bRow (fun σ => passAt takes0 σ) (pa_cons (pv 4) pa_nil)) (pv 2) (nomark _)) (pw_or (pt_cmpR (op_neD hu64) (pe_callS GRow hr2 (by rfl) v.mRow v.kRow v.bRow (fun σ => passAt takes0 σ) (pa_cons (pv 5) pa_nil)) (pe_callTy (call_list_txt rfl) (by rfl) m.zList (by decide +kernel) (pa_cons (pv 5) pa_nil)) (nomark _)) (pw_or1 (pt_cmpR (op_neD hu64) (pe_callS GRow hr2 (by rfl) v.mRow v.kRow v.bRow (fun σ => passAt takes0 σ) (pa_cons (pv 6) pa_nil)) (pv 7) (nomark _))))).pt (pss_one (ps_ret pe_bl)) pss_nil)
      (pss_cons (ps_if (pt_cmpR op_ne (pe_lamcall3 (T := Tt) (k := 2) (t := fun E => tCallS (spRow c C) (fun _ => E) (tCons (tC (.int 3)) tNil)) (by rfl) l8.mTold l8.kTold lkT hcT bT scTold rfl (Or.inl rfl) (told_givesE l8.mThrew l8.xf l8.nf) tb rfl hmT hut hr4 (LamX.lamS_by (by rfl)) rfl (fun _ _ _ _ _ => rfl) (fun A o s H E f c2 hq => by exact (pe_callS GRow hq (by rfl) v.mRow v.kRow v.bRow (fun σ => passAt (takes_of rfl rfl rfl rfl) σ) (pa_cons pe_int pa_nil)))) pe_str (nomark _)) (pss_one (ps_ret pe_bl)) pss_nil)
      (pss_cons (ps_if (pw_or (pt_cmpR (op_neD hu64) (pe_fld (pe_callS GOwn hr4 (by rfl) v.mOwn v.kOwn v.bOwn (fun σ => passAt takes0 σ) (pa_cons pe_str (pa_cons (pe_lst (pa_cons (pe_callB call_len_seq (by rfl) G.zLen PySem.boot_len (pa_cons (pv 2) pa_nil)) pa_nil)) pa_nil))) rfl) (pe_callTy (call_list_rng rfl) (by rfl) m.zList (by decide +kernel) (pa_cons (pe_callTy cr_range1 (by rfl) v.zRange (by decide +kernel) (pa_cons (pe_callB call_len_seq (by rfl) G.zLen PySem.boot_len (pa_cons (pv 2) pa_nil)) pa_nil)) pa_nil)) (nomark _)) (pw_or1 (pt_cmpR (op_neD hu64) (pe_fld (pe_callS GOwn hr4 (by rfl) v.mOwn v.kOwn v.bOwn (fun σ => passAt takes0 σ) (pa_cons pe_str (pa_cons (pe_lst (pa_cons (pe_op op_sub pe_int pe_int) pa_nil)) pa_nil))) rfl) (pe_lst pa_nil) (nomark _)))).pt (pss_one (ps_ret pe_bl)) pss_nil)
      (pss_cons (ps_if (pt_cmpR op_ne (pe_lamcall3 (T := Tt) (k := 4) (t := fun E => tCallS (spOwn K c C Pt) (fun _ => E) (tCons (tC (.str "range")) (tCons (tLst (tCons (tC (.int 501)) tNil)) tNil))) (by rfl) l8.mTold l8.kTold lkT hcT bT scTold rfl (Or.inl rfl) (told_givesE l8.mThrew l8.xf l8.nf) tb rfl hmT hut hr6 (LamX.lamS_by (by rfl)) rfl (fun _ _ _ _ _ => rfl) (fun A o s H E f c2 hq => by exact (pe_callS GOwn hq (by rfl) v.mOwn v.kOwn v.bOwn (fun σ => passAt (takes_of rfl rfl rfl rfl) σ) (pa_cons pe_str (pa_cons (pe_lst (pa_cons pe_int pa_nil)) pa_nil))))) pe_str (nomark _)) (pss_one (ps_ret pe_bl)) pss_nil)
      (pss_cons (ps_if (pw_or (pt_cmpR op_notN (pe_callS GOwn hr4 (by rfl) v.mOwn v.kOwn v.bOwn (fun σ => passAt takes0 σ) (pa_cons pe_str (pa_cons (pe_lst (pa_cons (pv 4) (pa_cons pe_int pa_nil))) pa_nil))) pe_non (nomark _)) (pw_or (pt_cmpR (op_neD hu64) (pe_fld (pv 4) rfl) (pe_op op_cat (pv 2) (pe_lst (pa_cons pe_int pa_nil))) (nomark _)) (pw_or (pt_cmpR op_ne (pe_callS GOwn hr4 (by rfl) v.mOwn v.kOwn v.bOwn (fun σ => passAt takes0 σ) (pa_cons pe_str (pa_cons (pe_lst (pa_cons (pv 4) pa_nil)) pa_nil))) pe_int (nomark _)) (pw_or1 (pt_cmpR (op_neD hu64) (pe_fld (pv 4) rfl) (pv 2) (nomark _)))))).pt (pss_one (ps_ret pe_bl)) pss_nil)
      (C8.pss_cut (ps_set (i := 9) sc_law.nd rfl (Or.inl rfl) (pe_lamcall3 (T := Tt) (k := 4) (t := fun E => tCallS (spOwn K c C Pt) (fun _ => E) (tCons (tC (.str "pop")) (tCons (tLst (tCons (tVar 4) tNil)) tNil))) (by rfl) l8.mTold l8.kTold lkT hcT bT scTold rfl (Or.inl rfl) (told_givesE l8.mThrew l8.xf l8.nf) tb rfl hmT hut hr6 (LamX.lamS_by (by rfl)) rfl (fun _ _ _ _ _ => rfl) (fun A o s H E f c2 hq => by exact (pe_callS GOwn hq (by rfl) v.mOwn v.kOwn v.bOwn (fun σ => passAt (takes_of rfl rfl rfl rfl) σ) (pa_cons pe_str (pa_cons (pe_lst (pa_cons (pv 4) pa_nil)) pa_nil))))))
      (C8.pss_cut (ps_if (pt_cmpR op_ne (pv 9) (pe_ifExp (pt_cmpR (op_neD hu64) (pv 2) (pe_lst pa_nil) (nomark _)) (pe_ix ix_list (pv 2) (pe_un un_neg pe_int) (fun _ _ => rfl)) pe_str) (nomark _)) (pss_one (ps_ret pe_bl)) pss_nil)
      (pss_cons (ps_set (i := 10) sc_law.nd rfl (Or.inl rfl) (pe_call GRoll hr1 (by rfl) v.mRoll v.kRoll v.bRoll .nil pass0 (pa_cons (pv 1) (pa_cons pe_int pa_nil))))
      (pss_cons (ps_if (pw_or (pt_cmpR op_ne (pe_callS GOwn hr4 (by rfl) v.mOwn v.kOwn v.bOwn (fun σ => passAt takes0 σ) (pa_cons pe_str (pa_cons (pe_lst (pa_cons (pe_callTy call_str_int (by rfl) G.zStr (by decide +kernel) (pa_cons (pv 10) pa_nil)) pa_nil)) pa_nil))) (pv 10) (nomark _)) (pw_or1 (pt_cmpR op_ne (pe_callS GOwn hr4 (by rfl) v.mOwn v.kOwn v.bOwn (fun σ => passAt takes0 σ) (pa_cons pe_str (pa_cons (pe_lst (pa_cons (pv 10) pa_nil)) pa_nil))) (pe_callTy call_str_int (by rfl) G.zStr (by decide +kernel) (pa_cons (pv 10) pa_nil)) (nomark _)))).pt (pss_one (ps_ret pe_bl)) pss_nil)
      (pss_cons (ps_if (pt_cmpR op_ne (pe_callS GOwn hr4 (by rfl) v.mOwn v.kOwn v.bOwn (fun σ => passAt takes0 σ) (pa_cons pe_str (pa_cons (pe_lst (pa_cons (pv 6) pa_nil)) pa_nil))) pe_str (nomark _)) (pss_one (ps_ret pe_bl)) pss_nil)
      (pss_cons (ps_for PassesOwn.never rfl (pi_list (pe_lst (pa_cons (pe_tup (pa_cons pe_str (pa_cons (pe_lst (pa_cons pe_int pa_nil)) (pa_cons pe_str pa_nil)))) (pa_cons (pe_tup (pa_cons pe_str (pa_cons (pe_lst pa_nil) (pa_cons pe_str pa_nil)))) (pa_cons (pe_tup (pa_cons pe_str (pa_cons (pe_lst (pa_cons (pv 4) pa_nil)) (pa_cons pe_str pa_nil)))) (pa_cons (pe_tup (pa_cons pe_str (pa_cons (pe_lst (pa_cons pe_str pa_nil)) (pa_cons pe_str pa_nil)))) (pa_cons (pe_tup (pa_cons pe_str (pa_cons (pe_lst (pa_cons pe_str pa_nil)) (pa_cons pe_str pa_nil)))) (pa_cons (pe_tup (pa_cons pe_str (pa_cons (pe_lst (pa_cons (pv 4) (pa_cons pe_str pa_nil))) (pa_cons pe_str pa_nil)))) (pa_cons (pe_tup (pa_cons pe_str (pa_cons (pe_lst (pa_cons (pv 4) pa_nil)) (pa_cons pe_str pa_nil)))) (pa_cons (pe_tup (pa_cons pe_str (pa_cons (pe_lst (pa_cons (pv 5) pa_nil)) (pa_cons pe_str pa_nil)))) pa_nil)))))))))) (pg_tup rfl (pgs_cons (pg_name (i := 11) sc_law.nd rfl (Or.inr rfl)) (pgs_cons (pg_name (i := 12) sc_law.nd rfl (Or.inr rfl)) (pgs_cons (pg_name (i := 13) sc_law.nd rfl (Or.inl rfl)) pgs_nil))))
        (pss_one (ps_if (pt_cmpR op_ne (pe_lamcall3 (T := Tt) (k := 4) (t := fun E => tCallS (spOwn K c C Pt) (fun _ => E) (tCons (tVar 11) (tCons (tVar 12) tNil))) (by rfl) l8.mTold l8.kTold lkT hcT bT scTold rfl (Or.inl rfl) (told_givesE l8.mThrew l8.xf l8.nf) tb rfl hmT hut hr6 (LamX.lamS_by (by rfl)) rfl (fun _ _ _ _ _ => rfl) (fun A o s H E f c2 hq => by exact (pe_callS GOwn hq (by rfl) v.mOwn v.kOwn v.bOwn (fun σ => passAt (takes_of rfl rfl rfl rfl) σ) (pa_cons (pv 11) (pa_cons (pv 12) pa_nil))))) (pe_op op_add_str pe_str (pv 13)) (nomark _)) (pss_one (ps_ret pe_bl)) pss_nil)))
      (pss_cons (ps_if (pt_not (pt_val (pe_call GClasses hr6 (by rfl) v.mClasses v.kClasses v.bClasses .nil pass0 (pa_cons (pv 10) (pa_cons (pv 4) pa_nil))))) (pss_one (ps_ret pe_bl)) pss_nil)
      pss_nil)))))))))))))))))))
    (pss_one (ps_ret pe_bl))), ?_⟩
  refine ⟨_, rfl, a, ns, 4, rfl, hS, hns, by decide, by decide, fun p H1 ds hp s1 h1 hds hdl => ?_⟩
  have j1 : Jw ds Pt Tt H1 := ⟨fun d hd => (hds d hd).2.2, hT.ext s1, tabG_same hG s1⟩
  have np : p ∉ ds := fun z => (hds p z).1 rfl
  refine ⟨p, rfl, ⟨_, Or.inl (Or.inl h1)⟩, for_list (K := K) (a := p) (xs := ds.map V.ref) (fun i σ H2 => ∃ v1 v2 v3 v4 v5 v6 v7 v8 v9 v10 v11 v12 v13 : Option V, σ = [some (.ref a), v1, v2, v3, v4, v5, v6, v7, v8, v9, v10, v11, v12, v13] ∧ H2 p = some (.lst (ds.map V.ref)) ∧ Jw ds Pt Tt H2)
      ⟨_, _, _, _, _, _, _, _, _, _, _, _, _, rfl, h1, j1⟩ (fun i σ H2 _ ⟨_, _, _, _, _, _, _, _, _, _, _, _, _, _, e, _⟩ => Or.inl (Or.inl e)) ?_ (fun σ H2 _ => fin H2)⟩
  rintro i y σ H2 hi ⟨v1, v2, v3, v4, v5, v6, v7, v8, v9, v10, v11, v12, v13, rfl, p2, j2⟩
  obtain ⟨d, hd, rfl⟩ : ∃ d ∈ ds, y = V.ref d := by
    rw [List.getElem?_map] at hi
    cases e : ds[i]? with
    | none => rw [e] at hi; cases hi
    | some z => rw [e] at hi; exact ⟨z, List.mem_of_getElem? e, (Option.some.inj hi).symm⟩
  clear h1 j1 s1 hds hp hS hT hG
  -- row = [..]
  refine ⟨_, rfl, d, 9, rfl, j2.ad d hd, by decide, by decide, rollK hd j2.ad fun r3 H3 r30 r31 f3 a3 => ?_⟩
  have j3 := j2.roll f3 a3
  have p3 := f3 _ _ np p2
  clear f3 a3 j2 p2
  refine ⟨r3, rfl, by omega, by omega, fun D hD => ?_⟩
  have nD : D ∉ ds := nd_new j3.ad hD
  have nDp : D ≠ p := fun e => by rw [e, p3] at hD; cases hD
  refine lc_range (fun i H => ∃ acc : List Int, acc.length = i ∧ H D = some (.lst (acc.map V.int)) ∧ H p = some (.lst (ds.map V.ref)) ∧ Jw ds Pt Tt H) ?_ ?_ ?_
  · exact ⟨[], rfl, upd_same, (upd_ne nDp.symm).trans p3, j3.same (same_new hD)⟩
  · rintro i4 H4 hi4 ⟨acc, hacc, h41, h42, j4⟩
    refine ⟨rfl, ?_⟩
    refine ⟨_, rfl, d, 50, rfl, j4.ad d hd, by decide, by decide, rollK hd j4.ad fun r5 H5 r50 r51 f5 a5 => ?_⟩
    have j5 := j4.roll f5 a5
    refine ⟨acc.map V.int, f5 _ _ nD h41, ?_, acc ++ [r5], by rw [List.length_append, hacc]; rfl, ?_, (upd_ne nDp.symm).trans (f5 _ _ np h42), j5.upl nD (f5 _ _ nD h41)⟩
    · rw [List.length_map]
      exact Nat.lt_of_le_of_lt (show acc.length ≤ 9 by omega) (by decide)
    · rw [upd_same, List.map_append]
      rfl
  rintro H4 ⟨nr, hl4, h41, h42, j4⟩
  -- some, text, table = ..
  refine ⟨_, rfl, D, _, rfl, Or.inl (Or.inl (Or.inl h41)), fun rS hrS aS dS haS hdS neS => ⟨aS, dS, _, rfl, upd_same, rfl, ?_⟩⟩
  rw [upd_upd]
  have haS2 : (upd (upd H4 rS (.lst (nr.map V.int))) dS (.own aS)) aS = none := (upd_ne neS.symm).trans haS
  have s5 : Same (upd H4 rS (.lst (nr.map V.int))) (upd (upd (upd H4 rS (.lst (nr.map V.int))) dS (.own aS)) aS (.ins c.I dS [("row", .ref rS)])) := (same_new hdS).trans (same_new haS2)
  have h5 : (upd (upd (upd H4 rS (.lst (nr.map V.int))) dS (.own aS)) aS (.ins c.I dS [("row", .ref rS)])) aS = some (.ins c.I dS [("row", .ref rS)]) := upd_same
  generalize upd (upd (upd H4 rS (.lst (nr.map V.int))) dS (.own aS)) aS (.ins c.I dS [("row", .ref rS)]) = H5 at s5 h5 ⊢
  clear haS2 haS hdS neS
  have nS : rS ∉ ds := nd_new j4.ad hrS
  have hDS0 : D ≠ rS ∧ p ≠ rS := ⟨(fun e => by rw [← e, h41] at hrS; cases hrS), (fun e => by rw [← e, h42] at hrS; cases hrS)⟩
  have s45 : Same H4 H5 := (same_new hrS).trans s5
  have r5 := s5 _ _ (upd_same (H := H4) (a := rS))
  have j5 := j4.same s45
  refine ⟨_, rfl, d, 7, rfl, j5.ad d hd, by decide, by decide, rollK hd j5.ad fun r6 H6 r60 r61 f6 a6 => ⟨r6, rfl, _, rfl, by decide +kernel, ?_⟩⟩
  have j6 := j5.roll f6 a6
  refine fun aT dT hx hdx ne => ⟨aT, dT, rfl, upd_same, fun rT hr => ⟨rfl, ?_⟩⟩
  obtain ⟨s7, haT, hrT0, hrT⟩ := table_made (c := c) hx hdx ne hr
  generalize upd (upd (upd (upd H6 dT (.own aT)) aT (.ins c.T dT [])) rT (.dT [])) aT (.ins c.T dT [("row", .ref rT)]) = H7 at s7 haT hrT ⊢
  refine ⟨le3, fun qt hqt => ⟨qt, _, rfl, Or.inl (Or.inl upd_same), rfl, _, _, rfl, _, _, rfl, _, _, rfl, rfl, ?_⟩⟩
  have j7 := j6.same s7
  have s8 := same_new (o := .tup [.ref aS, .str (cutS "abcdef" none (some r6)), .ref aT]) hqt
  generalize htx : cutS "abcdef" none (some r6) = tx at s8 ⊢
  have fr46 : ∀ b o, b ∉ ds → H4 b = some o → (upd H7 qt (.tup [.ref aS, .str tx, .ref aT])) b = some o := fun b o n e => s8 _ _ (s7 _ _ (f6 _ _ n (s45 _ _ e)))
  have hT8 := s8 _ _ haT
  have hk8 := s8 _ _ hrT
  have hS8 := s8 _ _ (s7 _ _ (f6 _ _ (dice_ins j5.ad h5) h5))
  have hr8 := s8 _ _ (s7 _ _ (f6 _ _ nS r5))
  have j8 := j7.same s8
  have w8 := fr46 _ _ nD h41
  have p8 := fr46 _ _ np h42
  generalize upd H7 qt (.tup [.ref aS, .str tx, .ref aT]) = H8 at hT8 hk8 hS8 hr8 j8 w8 p8 ⊢
  clear s8 fr46 hqt haT hrT hrT0 hx hdx ne hr s7 j7 f6 a6 j6 h5 r5 s45 s5 hrS j5 h41 h42 j4
  -- keys = []
  refine ⟨le0, fun pk hpk => ?_⟩
  have nk := nd_new j8.ad hpk
  have s9 := same_new (o := .lst []) hpk
  have m9 : M8 c ds p Pt Tt D aS rS aT rT pk nr nr [] [] (upd H8 pk (.lst [])) := ⟨j8.same s9, s9 _ _ p8, np, s9 _ _ w8, nD, ⟨_, s9 _ _ hS8⟩, s9 _ _ hr8, nS, ⟨_, s9 _ _ hT8⟩, ⟨[], s9 _ _ hk8, rfl⟩, upd_same, nk⟩
  generalize upd H8 pk (.lst []) = H9 at m9 ⊢
  have hDS0 : D ≠ rS ∧ p ≠ rS := hDS0
  have hkS : pk ≠ rS := fun e => by rw [e] at hpk; rw [hr8] at hpk; cases hpk
  clear s9 hpk nk hT8 hk8 hS8 hr8 j8 w8 p8
  -- for k in range(..)
  refine ⟨_, rfl, d, 6, rfl, m9.j.ad d hd, by decide, by decide, rollK hd m9.j.ad fun r10 H10 r100 r101 f10 a10 => ⟨r10, rfl, by omega, by omega, for_range (fun i σ H => ∃ v3 v8 pk ks, ks.length ≤ i ∧ pk ≠ rS ∧ σ = [some (.ref a), some (.ref d), some (.ref D), v3, some (.ref aS), some (.str tx), some (.ref aT), some (.ref pk), v8, v9, v10, v11, v12, v13] ∧ M8 c ds p Pt Tt D aS rS aT rT pk nr nr ks ks H) ?_ ?_ ?_⟩⟩
  · exact ⟨_, _, pk, [], Nat.le_refl _, hkS, rfl, m9.keep (.roll f10) (m9.j.roll f10 a10)⟩
  · rintro i11 σ H11 hi11 ⟨v3, v8, pk, ks, hks, hkS, rfl, m11⟩
    refine ⟨_, rfl, d, 4, rfl, m11.j.ad d hd, by decide, by decide, rollK hd m11.j.ad fun r12 H12 r120 r121 f12 a12 => ?_⟩
    have m12 := m11.keep (.roll f12) (m11.j.roll f12 a12)
    obtain ⟨dx, hT⟩ := m12.hT
    obtain ⟨kvs, hkv, hkk⟩ := m12.hk
    have hl12 : kvs.length = ks.length := by have := congrArg List.length hkk; rwa [List.length_map, List.length_map] at this
    refine ⟨_, rfl, _, rfl, _, rfl, aT, dx, rT, kvs, r12, .int (0 + (i11 : Int)), rfl, hT, hkv, by omega, fun H13 s13 => ?_⟩
    have m13 : M8 c ds p Pt Tt D aS rS aT rT pk nr nr (if r12 ∈ ks then ks else ks ++ [r12]) ks (upd H12 rT (.dT (putK kvs (tkey r12) (.int (0 + (i11 : Int)))))) := by
      obtain ⟨dS, hS⟩ := m12.hS
      have ne : ∀ {b : Addr} {o : HO}, H12 b = some o → (∀ q, o ≠ .dT q) → (upd H12 rT (.dT (putK kvs (tkey r12) (.int (0 + (i11 : Int)))))) b = some o := fun e q => (upd_ne fun z => by rw [z, hkv] at e; exact q _ (Option.some.inj e).symm).trans e
      exact ⟨m12.j.upd_dT hkv, ne m12.hp (fun _ z => nomatch z), m12.np, ne m12.hw (fun _ z => nomatch z), m12.nw, ⟨_, ne hS (fun _ z => nomatch z)⟩, ne m12.hr (fun _ z => nomatch z), m12.nr, ⟨_, ne hT (fun _ z => nomatch z)⟩, ⟨_, upd_same, keys_put _ _ _ _ hkk⟩, ne m12.hq (fun _ z => nomatch z), m12.nq⟩
    replace m13 := m13.same s13
    clear s13
    -- keys = keys + [key] * int(key not in keys)
    refine ⟨_, rfl, _, rfl, le1, fun ql hql => ⟨_, rfl, _, rfl, pk, _, rfl, Or.inl (Or.inl (Or.inl ((same_new hql) _ _ m13.hq))), rfl, flat_ints, Or.inr ⟨_, rfl, ?_⟩⟩⟩
    have m14 := m13.same (same_new (o := .lst [.int r12]) hql)
    rw [show inV (V.int r12) (ks.map V.int) = decide (r12 ∈ ks) from inV_ints]
    by_cases hk : r12 ∈ ks
    · rw [decide_eq_true hk]
      rw [if_pos hk] at m14
      refine ⟨ql, _, _, rfl, rfl, upd_same, by decide, by decide, (by decide : 1 * 0 ≤ sizeLine), fun qm hqm => ?_⟩
      have m15 := m14.same (same_new (o := .lst ((List.replicate 0 [V.int r12]).flatten)) hqm)
      refine ⟨pk, qm, _, _, rfl, rfl, m15.hq, upd_same, ?_, fun pn hpn => ?_⟩
      · rw [List.length_map]
        exact Nat.le_trans (show ks.length + 0 ≤ 100 by omega) (by decide)
      have m16 := m15.same (same_new (o := .lst (ks.map V.int ++ (List.replicate 0 [V.int r12]).flatten)) hpn)
      exact ⟨_, _, pn, ks, by omega, (fun e => by rw [e] at hpn; exact nomatch (hpn.symm.trans ((same_new hqm) _ _ m14.hr))), rfl, { m16 with hq := by rw [show ((if (if true = true then !true else true) = true then (1 : Int) else 0)).toNat = 0 from rfl, upd_same]; simp, nq := nd_new m15.j.ad hpn }⟩
    · rw [decide_eq_false hk]
      rw [if_neg hk] at m14
      refine ⟨ql, _, _, rfl, rfl, upd_same, by decide, by decide, (by decide : 1 * 1 ≤ sizeLine), fun qm hqm => ?_⟩
      have m15 := m14.same (same_new (o := .lst ((List.replicate 1 [V.int r12]).flatten)) hqm)
      refine ⟨pk, qm, _, _, rfl, rfl, m15.hq, upd_same, ?_, fun pn hpn => ?_⟩
      · rw [List.length_map]
        exact Nat.le_trans (show ks.length + 1 ≤ 100 by omega) (by decide)
      have m16 := m15.same (same_new (o := .lst (ks.map V.int ++ (List.replicate 1 [V.int r12]).flatten)) hpn)
      exact ⟨_, _, pn, ks ++ [r12], by rw [List.length_append]; exact Nat.succ_le_succ hks, (fun e => by rw [e] at hpn; exact nomatch (hpn.symm.trans ((same_new hqm) _ _ m14.hr))), rfl, { m16 with hq := by rw [show ((if (if true = true then !false else false) = true then (1 : Int) else 0)).toNat = 1 from rfl, upd_same]; simp, nq := nd_new m15.j.ad hpn }⟩
  rintro σ H11 ⟨v3, v8, pk, ks, hks, hkS, rfl, m11⟩
  clear m9 f10 a10
  have hDS : D ≠ rS ∧ p ≠ rS ∧ pk ≠ rS := ⟨hDS0.1, hDS0.2, hkS⟩
  have hkl : ks.length ≤ 5 := by omega
  have hnl : nr.length ≤ 8 := by omega
  have htl : tx.length ≤ 6 := by rw [← htx]; exact cutS_length _ _ _
  have htx2 : ∀ z ∈ tx.cps.toList, z < 1114112 := by
    rw [← htx]
    intro z hz
    have : z ∈ ("abcdef" : Str).cps.toList := by
      unfold cutS at hz
      simp only [List.toList_toArray] at hz
      exact List.mem_of_mem_drop (List.mem_of_mem_take hz)
    exact (by decide +kernel : ∀ z ∈ ("abcdef" : Str).cps.toList, z < 1114112) z this
  rw [S_of tx]
  have hll : tx.cps.toList.length ≤ 6 := htl
  generalize tx.cps.toList = l at htx2 hll ⊢
  clear htl htx
  -- own('len', [some]) != len(row) or own('len', [text]) != len(text)
  obtain ⟨dS, hS⟩ := m11.hS
  refine ⟨_, rfl, le1, fun q1 hq1 => ⟨_, q1, _, rfl, upd_same, .lenL ((same_new hq1) _ _ hS) ((same_new hq1) _ _ m11.hr) fun H12 s12 => ?_⟩⟩
  replace s12 := (same_new hq1).trans s12
  replace m11 := m11.same s12
  refine ⟨_, rfl, D, _, rfl, Or.inl (Or.inl (Or.inl m11.hw)), rfl, _, rfl, ite_same rfl ?_⟩
  refine ⟨_, rfl, le1, fun q2 hq2 => ⟨_, q2, _, rfl, upd_same, .lenS (by omega) fun H13 s13 => ?_⟩⟩
  replace m11 := m11.same ((same_new hq2).trans s13)
  clear s12 hS hq1 hq2 s13
  refine ⟨_, rfl, _, rfl, lenS (by omega), rfl, _, rfl, ite_same (by rw [S_len]) ?_⟩
  -- own('len', [table]) != len(keys) or own('keys', [table]).row != keys
  obtain ⟨dT, hT⟩ := m11.hT
  obtain ⟨kvs, hkv, hkk⟩ := m11.hk
  have hl12 : kvs.length = ks.length := by have := congrArg List.length hkk; rwa [List.length_map, List.length_map] at this
  refine ⟨_, rfl, le1, fun q1 hq1 => ⟨_, q1, _, rfl, upd_same, .lenT ((same_new hq1) _ _ hT) ((same_new hq1) _ _ hkv) fun H12 s12 => ?_⟩⟩
  replace m11 := m11.same ((same_new hq1).trans s12)
  clear s12 hT hkv hq1
  refine ⟨_, rfl, pk, _, rfl, Or.inl (Or.inl (Or.inl m11.hq)), rfl, _, rfl, ite_same (by rw [hl12, List.length_map]) ?_⟩
  obtain ⟨dT, hT⟩ := m11.hT
  obtain ⟨kvs, hkv, hkk⟩ := m11.hk
  refine ⟨_, rfl, le1, fun q1 hq1 => ⟨_, q1, _, rfl, upd_same, .keys ((same_new hq1) _ _ hT) ((same_new hq1) _ _ hkv) hkk (by omega) fun b dx r H12 s12 hb hrow hrl => ?_⟩⟩
  replace m11 := m11.same ((same_new hq1).trans s12)
  refine ⟨b, _, dx, _, _, rfl, hrow, G.iI.cl, G.aI, rfl, _, rfl, ne_ints (Or.inl (Or.inl hrl)) (Or.inl (Or.inl m11.hq)) ⟨_, rfl, iteF ?_⟩⟩
  clear s12 hT hkv hq1 hb hrow hrl hkk hl12
  -- row_to_walk ..
  obtain ⟨dS, hS⟩ := m11.hS
  refine ⟨_, rfl, .ref aS, rfl, Or.inr (Or.inl ⟨aS, dS, rS, _, rfl, hS, m11.hr, fun q1 H12 s12 hq1 h12 => ?_⟩)⟩
  replace m11 := m11.same s12
  refine ⟨_, rfl, ne_ints (Or.inl (Or.inl h12)) (Or.inl (Or.inl m11.hw)) ⟨_, rfl, iteF ?_⟩⟩
  clear s12 hS hq1 h12
  refine ⟨_, rfl, .str (S l), rfl, Or.inr (Or.inr (Or.inr ⟨l, rfl, by omega, fun q1 H12 s12 hq1 h12 => ?_⟩))⟩
  replace m11 := m11.same s12
  refine ⟨_, rfl, l, rfl, by omega, fun q2 hq2 => ?_⟩
  have s13 := same_new (o := .lst (l.map fun c => V.str (S [c]))) hq2
  replace m11 := m11.same s13
  refine ne_signs htx2 (Or.inl (Or.inl (s13 _ _ h12))) (Or.inl (Or.inl upd_same)) ⟨_, rfl, iteF ?_⟩
  generalize upd H12 q2 _ = H13 at m11 ⊢
  clear s13 s12 hq1 h12 hq2
  obtain ⟨dT, hT⟩ := m11.hT
  obtain ⟨kvs, hkv, hkk⟩ := m11.hk
  refine ⟨_, rfl, .ref aT, rfl, Or.inr (Or.inr (Or.inl ⟨aT, dT, rT, kvs, ks, rfl, hT, hkv, hkk, by omega, fun q1 H14 s14 hq1 h14 => ?_⟩))⟩
  replace m11 := m11.same s14
  refine ⟨_, rfl, ne_ints (Or.inl (Or.inl h14)) (Or.inl (Or.inl m11.hq)) ⟨_, rfl, iteF ?_⟩⟩
  clear s14 hq1 h14 hT hkv hkk
  -- told(lambda: row_to_walk(3))
  refine ⟨m11.j.tT, fun H15 b15 t15 => ?_⟩
  replace m11 := m11.keep (.but (m11.j.tab hmT) b15) (m11.j.but (m11.j.tab hmT) hPl b15 t15)
  clear b15 t15
  refine ⟨.int 3, rfl, Or.inl ⟨"int", .int 3, by decide +kernel, by decide +kernel, by decide +kernel, fun dd H16 s16 hdd => ⟨true, l8.te, (fun _ => ⟨dd, "kind", rfl, rfl, hdd, by decide, ?_⟩), fun h => nomatch h⟩⟩⟩
  replace m11 := m11.same s16
  refine ⟨rfl, _, rfl, ite_snf (by kernel_rfl) ?_⟩
  clear s16 hdd
  -- own('range', [len(row)]).row != list(range(len(row))) or ..
  refine ⟨_, rfl, D, _, rfl, Or.inl (Or.inl (Or.inl m11.hw)), le1, fun q1 hq1 => ⟨_, q1, _, rfl, upd_same, .rng (by rw [List.length_map]; omega) fun b dx r H17 s17 hb hrow hrl => ?_⟩⟩
  replace m11 := m11.same ((same_new hq1).trans s17)
  refine ⟨b, _, dx, _, _, rfl, hrow, G.iI.cl, G.aI, rfl, ?_⟩
  refine ⟨_, rfl, D, _, rfl, Or.inl (Or.inl (Or.inl m11.hw)), _, rfl, fun q2 hq2 => ⟨q2, (nr.map V.int).length, rfl, upd_same, by rw [List.length_map]; omega, fun q3 hq3 => ?_⟩⟩
  have s18 := (same_new (o := .rng 0 ((nr.map V.int).length : Nat)) hq2).trans (same_new (o := .lst ((List.range (nr.map V.int).length).map fun i : Nat => V.int (i : Int))) hq3)
  replace m11 := m11.same s18
  have h18 := s18 _ _ hrl
  rw [rng_ints] at h18
  have h19 := upd_same (H := upd H17 q2 (.rng 0 ((nr.map V.int).length : Nat))) (a := q3) (o := .lst ((List.range (nr.map V.int).length).map fun i : Nat => V.int (i : Int)))
  rw [rng_ints] at m11 h18 h19 ⊢
  refine ne_ints (Or.inl (Or.inl h18)) (Or.inl (Or.inl h19)) ⟨_, rfl, iteF ?_⟩
  generalize upd (upd H17 q2 _) q3 _ = H19 at m11 ⊢
  clear h18 h19 s18 hq2 hq3 hrow hrl hb s17 hq1
  refine ⟨_, _, rfl, rfl, le1, fun q1 hq1 => ⟨_, q1, _, rfl, upd_same, .rng (by decide) fun b dx r H20 s20 hb hrow hrl => ?_⟩⟩
  replace m11 := m11.same ((same_new hq1).trans s20)
  refine ⟨b, _, dx, _, _, rfl, hrow, G.iI.cl, G.aI, rfl, le0, fun q2 hq2 => ?_⟩
  have s21 := same_new (o := .lst []) hq2
  replace m11 := m11.same s21
  refine ne_ints (ns := []) (Or.inl (Or.inl (s21 _ _ hrl))) (Or.inl (Or.inl upd_same)) ⟨_, rfl, iteF ?_⟩
  generalize upd H20 q2 _ = H21 at m11 ⊢
  clear s21 hq2 hrow hrl hb s20 hq1
  -- told(lambda: own('range', [501]))
  refine ⟨m11.j.tT, fun H22 b22 t22 => ?_⟩
  replace m11 := m11.keep (.but (m11.j.tab hmT) b22) (m11.j.but (m11.j.tab hmT) hPl b22 t22)
  clear b22 t22
  refine ⟨le1, fun q1 hq1 => ⟨_, q1, _, rfl, upd_same, .rngBad (by decide) fun dd H23 s23 hdd => ⟨true, l8.te, (fun _ => ⟨dd, "large", rfl, rfl, hdd, by decide, ?_⟩), fun h => nomatch h⟩⟩⟩
  replace m11 := m11.same ((same_new hq1).trans s23)
  refine ⟨rfl, _, rfl, ite_snf (by kernel_rfl) ?_⟩
  clear s23 hdd hq1
  -- own('push', [some, 7]) is not None or ..
  obtain ⟨dS, hS⟩ := m11.hS
  refine ⟨_, rfl, le2, fun q1 hq1 => ⟨_, q1, _, rfl, upd_same, .push ((same_new hq1) _ _ hS) ((same_new hq1) _ _ m11.hr) (by rw [List.length_map]; omega) fun H24 s24 => ?_⟩⟩
  have mP := m11.same (same_new (o := .lst [.ref aS, .int 7]) hq1)
  have m24 : M8 c ds p Pt Tt D aS rS aT rT pk nr (nr ++ [7]) ks ks (upd (upd H23 q1 (.lst [.ref aS, .int 7])) rS (.lst (nr.map V.int ++ [.int 7]))) := M8.put mP (by rw [List.map_append]; rfl) hDS
  replace m24 := m24.same s24
  clear s24 hq1 hS m11 mP
  refine ⟨rfl, _, rfl, iteF ?_⟩
  obtain ⟨dS, hS⟩ := m24.hS
  refine ⟨_, rfl, aS, _, dS, _, _, rfl, hS, G.iI.cl, G.aI, rfl, ?_⟩
  refine ⟨_, rfl, le1, fun q1 hq1 => ?_⟩
  replace m24 := m24.same (same_new (o := .lst [.int 7]) hq1)
  refine ⟨D, q1, _, _, rfl, rfl, m24.hw, upd_same, ?_, fun q2 hq2 => ?_⟩
  · rw [List.length_map]
    exact Nat.le_trans (show nr.length + 1 ≤ 100 by omega) (by decide)
  replace m24 := m24.same (same_new (o := .lst (nr.map V.int ++ [.int 7])) hq2)
  refine ne_ints (ns := nr ++ [7]) (Or.inl (Or.inl m24.hr)) (Or.inl (Or.inl (by rw [upd_same, List.map_append]; rfl))) ⟨_, rfl, iteF ?_⟩
  generalize upd (upd H24 q1 _) q2 _ = H25 at m24 ⊢
  clear hq1 hq2 hS
  obtain ⟨dS, hS⟩ := m24.hS
  refine ⟨_, rfl, le1, fun q1 hq1 => ⟨_, q1, _, rfl, upd_same, .pop (ns := nr) (n := 7) ((same_new hq1) _ _ hS) ((same_new hq1) _ _ m24.hr) fun H26 s26 => ?_⟩⟩
  have m26 : M8 c ds p Pt Tt D aS rS aT rT pk nr nr ks ks (upd (upd H25 q1 (.lst [.ref aS])) rS (.lst (nr.map V.int))) := M8.put (m24.same (same_new (o := .lst [.ref aS]) hq1)) rfl hDS
  replace m26 := m26.same s26
  clear s26 hq1 hS m24
  refine ⟨rfl, _, rfl, ite_same rfl ?_⟩
  obtain ⟨dS, hS⟩ := m26.hS
  refine ⟨_, rfl, aS, _, dS, _, _, rfl, hS, G.iI.cl, G.aI, rfl, _, rfl, ne_ints (Or.inl (Or.inl m26.hr)) (Or.inl (Or.inl m26.hw)) ⟨_, rfl, iteF ?_⟩⟩
  clear hS
  -- last = told(lambda: own('pop', [some]))
  refine ⟨fun σ H => ∃ v ms, σ = [some (.ref a), some (.ref d), some (.ref D), v3, some (.ref aS), some (.str (S l)), some (.ref aT), some (.ref pk), v8, some v, v10, v11, v12, v13] ∧ M8 c ds p Pt Tt D aS rS aT rT pk nr ms ks ks H ∧ ((nr = [] ∧ v = .str "threw empty") ∨ ∃ n, nr = ms ++ [n] ∧ v = .int n), ?_, ?_⟩
  · refine ⟨m26.j.tT, fun H27 b27 t27 => ?_⟩
    replace m26 := m26.keep (.but (m26.j.tab hmT) b27) (m26.j.but (m26.j.tab hmT) hPl b27 t27)
    obtain ⟨dS, hS⟩ := m26.hS
    refine ⟨_, rfl, le1, fun q1 hq1 => ⟨_, q1, _, rfl, upd_same, ?_⟩⟩
    have m27 := m26.same (same_new (o := .lst [.ref aS]) hq1)
    rcases List.eq_nil_or_concat nr with e | ⟨ms, n, e⟩
    · subst e
      exact .popE ((same_new hq1) _ _ hS) m27.hr fun dd H28 s28 hdd => ⟨true, l8.te, (fun _ => ⟨dd, "empty", rfl, rfl, hdd, by decide, _, _, rfl, m27.same s28, Or.inl ⟨rfl, by kernel_rfl⟩⟩), fun h => nomatch h⟩
    · rw [List.concat_eq_append] at e
      subst e
      exact .pop (ns := ms) (n := n) ((same_new hq1) _ _ hS) m27.hr fun H28 s28 => ⟨_, ms, rfl, (M8.put m27 rfl hDS).same s28, Or.inr ⟨n, rfl, rfl⟩⟩
  rintro σ H27 ⟨v, ms, rfl, m27, hv⟩
  clear m26
  refine ⟨fun σ H => σ = [some (.ref a), some (.ref d), some (.ref D), v3, some (.ref aS), some (.str (S l)), some (.ref aT), some (.ref pk), v8, some v, v10, v11, v12, v13] ∧ M8 c ds p Pt Tt D aS rS aT rT pk nr ms ks ks H, ?_, ?_⟩
  · refine ⟨_, rfl, _, rfl, le0, fun q1 hq1 => ?_⟩
    have m28 := m27.same (same_new (o := .lst []) hq1)
    rcases hv with ⟨rfl, rfl⟩ | ⟨n, rfl, rfl⟩
    · exact ne_ints (ns := []) (Or.inl (Or.inl m28.hw)) (Or.inl (Or.inl upd_same)) ⟨_, rfl, iteF ⟨rfl, _, rfl, ite_snf rfl ⟨rfl, m28⟩⟩⟩
    · refine ne_nil (ns := ms) (n := n) (Or.inl (Or.inl m28.hw)) (Or.inl (Or.inl upd_same)) ⟨_, rfl, iteT ?_⟩
      exact ⟨_, rfl, _, rfl, D, _, -1, .int n, rfl, rfl, Or.inl (Or.inl m28.hw), at_last, rfl, _, rfl, ite_same rfl ⟨rfl, m28⟩⟩
  rintro σ H28 ⟨rfl, m28⟩
  clear m27 hv
  -- number = roll
  refine ⟨_, rfl, d, 1000, rfl, m28.j.ad d hd, by decide, by decide, rollK hd m28.j.ad fun r29 H29 r290 r291 f29 a29 => ?_⟩
  replace m28 := m28.keep (.roll f29) (m28.j.roll f29 a29)
  clear f29 a29
  obtain ⟨nn, rfl⟩ : ∃ nn : Nat, r29 = (nn : Int) := ⟨r29.toNat, by omega⟩
  have hnn : nn < 1000 := by omega
  clear r290 r291
  -- own('int', [str(number)]) != number or own('text', [number]) != str(number)
  refine ⟨_, rfl, _, rfl, log_small (by omega), ?_⟩
  rw [SX.num_S nn]
  have hdl : (TL.numL nn).length ≤ 5 := TL.numL_len (by decide) (by omega)
  refine ⟨le1, fun q1 hq1 => ⟨_, q1, _, rfl, upd_same, .r_int_text (.str _) fun H30 s30 => ?_⟩⟩
  replace m28 := m28.same ((same_new hq1).trans s30)
  refine ⟨_, _, _, _, rfl, m28.j.tG, Or.inl ⟨TL.numL nn, rfl, rfl, rfl, TL.numL_ne nn, by omega, (fun x hx => ?_), fun H31 t31 => ?_⟩⟩
  · have := TL.numL_digits nn x hx
    have z : ∀ d, d < 58 → 48 ≤ d → d ∈ figL := by decide
    exact z x (by omega) (by omega)
  replace m28 := m28.keep (.tabbed m28.j.tG t31) (m28.j.tabbed hTt t31)
  clear t31 s30 hq1
  rw [TL.numL_val]
  refine ⟨_, rfl, rfl, _, rfl, ite_same rfl ?_⟩
  refine ⟨_, rfl, le1, fun q1 hq1 => ⟨_, q1, _, rfl, upd_same, .text (by omega) fun H32 s32 => ?_⟩⟩
  replace m28 := m28.same ((same_new hq1).trans s32)
  refine ⟨_, rfl, _, rfl, log_small (by omega), ?_⟩
  rw [SX.num_S nn]
  refine ⟨rfl, _, rfl, ite_snf rfl ?_⟩
  clear s32 hq1
  -- own('kind', [table]) != 'map'
  obtain ⟨dT, hT⟩ := m28.hT
  refine ⟨_, rfl, le1, fun q1 hq1 => ⟨_, q1, _, rfl, upd_same, .kind (.t ((same_new hq1) _ _ hT)) fun H33 s33 => ?_⟩⟩
  replace m28 := m28.same ((same_new hq1).trans s33)
  refine ⟨rfl, _, rfl, ite_snf rfl ?_⟩
  clear s33 hq1 hT
  -- for label, bad, word in [..]
  refine ⟨le1, fun b1 hb1 => ⟨le3, fun t1 ht1 => ?_⟩⟩
  obtain ⟨s1, i1⟩ := mk_it (aS := aS) (l := l) m28.j.ad hb1 ht1 .a
  replace m28 := m28.same s1
  generalize upd (upd H33 b1 _) t1 _ = H34 at m28 i1 ⊢
  clear s1 hb1 ht1
  refine ⟨le0, fun b2 hb2 => ⟨le3, fun t2 ht2 => ?_⟩⟩
  obtain ⟨s1, i2⟩ := mk_it (aS := aS) (l := l) m28.j.ad hb2 ht2 .b
  replace m28 := m28.same s1
  replace i1 := i1.keep (.of s1)
  generalize upd (upd H34 b2 _) t2 _ = H35 at m28 i1 i2 ⊢
  clear s1 hb2 ht2
  refine ⟨_, rfl, le1, fun b3 hb3 => ⟨le3, fun t3 ht3 => ?_⟩⟩
  obtain ⟨s1, i3⟩ := mk_it (aS := aS) (l := l) m28.j.ad hb3 ht3 .c
  replace m28 := m28.same s1
  replace i1 := i1.keep (.of s1)
  replace i2 := i2.keep (.of s1)
  generalize upd (upd H35 b3 _) t3 _ = H36 at m28 i1 i2 i3 ⊢
  clear s1 hb3 ht3
  refine ⟨le1, fun b4 hb4 => ⟨le3, fun t4 ht4 => ?_⟩⟩
  obtain ⟨s1, i4⟩ := mk_it (aS := aS) (l := l) m28.j.ad hb4 ht4 .d
  replace m28 := m28.same s1
  replace i1 := i1.keep (.of s1)
  replace i2 := i2.keep (.of s1)
  replace i3 := i3.keep (.of s1)
  generalize upd (upd H36 b4 _) t4 _ = H37 at m28 i1 i2 i3 i4 ⊢
  clear s1 hb4 ht4
  refine ⟨le1, fun b5 hb5 => ⟨le3, fun t5 ht5 => ?_⟩⟩
  obtain ⟨s1, i5⟩ := mk_it (aS := aS) (l := l) m28.j.ad hb5 ht5 .e
  replace m28 := m28.same s1
  replace i1 := i1.keep (.of s1)
  replace i2 := i2.keep (.of s1)
  replace i3 := i3.keep (.of s1)
  replace i4 := i4.keep (.of s1)
  generalize upd (upd H37 b5 _) t5 _ = H38 at m28 i1 i2 i3 i4 i5 ⊢
  clear s1 hb5 ht5
  refine ⟨_, rfl, le2, fun b6 hb6 => ⟨le3, fun t6 ht6 => ?_⟩⟩
  obtain ⟨s1, i6⟩ := mk_it (aS := aS) (l := l) m28.j.ad hb6 ht6 .f
  replace m28 := m28.same s1
  replace i1 := i1.keep (.of s1)
  replace i2 := i2.keep (.of s1)
  replace i3 := i3.keep (.of s1)
  replace i4 := i4.keep (.of s1)
  replace i5 := i5.keep (.of s1)
  generalize upd (upd H38 b6 _) t6 _ = H39 at m28 i1 i2 i3 i4 i5 i6 ⊢
  clear s1 hb6 ht6
  refine ⟨_, rfl, le1, fun b7 hb7 => ⟨le3, fun t7 ht7 => ?_⟩⟩
  obtain ⟨s1, i7⟩ := mk_it (aS := aS) (l := l) m28.j.ad hb7 ht7 .g
  replace m28 := m28.same s1
  replace i1 := i1.keep (.of s1)
  replace i2 := i2.keep (.of s1)
  replace i3 := i3.keep (.of s1)
  replace i4 := i4.keep (.of s1)
  replace i5 := i5.keep (.of s1)
  replace i6 := i6.keep (.of s1)
  generalize upd (upd H39 b7 _) t7 _ = H40 at m28 i1 i2 i3 i4 i5 i6 i7 ⊢
  clear s1 hb7 ht7
  refine ⟨_, rfl, le1, fun b8 hb8 => ⟨le3, fun t8 ht8 => ?_⟩⟩
  obtain ⟨s1, i8⟩ := mk_it (aS := aS) (l := l) m28.j.ad hb8 ht8 .h
  replace m28 := m28.same s1
  have it : ∀ x ∈ [V.ref t1, .ref t2, .ref t3, .ref t4, .ref t5, .ref t6, .ref t7, .ref t8], It8 aS l ds (upd (upd H40 b8 (.lst [.str (S l)])) t8 (.tup [.str "pop", .ref b8, .str "kind"])) x := fun x hx => by
    rcases List.mem_cons.mp hx with rfl | hx
    · exact i1.keep (.of s1)
    rcases List.mem_cons.mp hx with rfl | hx
    · exact i2.keep (.of s1)
    rcases List.mem_cons.mp hx with rfl | hx
    · exact i3.keep (.of s1)
    rcases List.mem_cons.mp hx with rfl | hx
    · exact i4.keep (.of s1)
    rcases List.mem_cons.mp hx with rfl | hx
    · exact i5.keep (.of s1)
    rcases List.mem_cons.mp hx with rfl | hx
    · exact i6.keep (.of s1)
    rcases List.mem_cons.mp hx with rfl | hx
    · exact i7.keep (.of s1)
    rcases List.mem_cons.mp hx with rfl | hx
    · exact i8
    cases hx
  clear i1 i2 i3 i4 i5 i6 i7 i8 s1
  generalize upd (upd H40 b8 _) t8 _ = H41 at m28 it ⊢
  clear hb8 ht8
  have le8 : [V.ref t1, .ref t2, .ref t3, .ref t4, .ref t5, .ref t6, .ref t7, .ref t8].length ≤ sizeLine := (by decide : 8 ≤ sizeLine)
  refine ⟨le8, fun pL hpL => ?_⟩
  generalize [V.ref t1, .ref t2, .ref t3, .ref t4, .ref t5, .ref t6, .ref t7, .ref t8] = xs at it ⊢
  have sL := same_new (o := .lst xs) hpL
  have nL := nd_new m28.j.ad hpL
  refine ⟨pL, rfl, ⟨_, Or.inl (Or.inl upd_same)⟩, for_list (K := K) (a := pL) (xs := xs) (fun j σ H => ∃ v11 v12 v13, σ = [some (.ref a), some (.ref d), some (.ref D), v3, some (.ref aS), some (.str (S l)), some (.ref aT), some (.ref pk), v8, some v, some (.int (nn : Int)), v11, v12, v13] ∧ M8 c ds p Pt Tt D aS rS aT rT pk nr ms ks ks H ∧ H pL = some (.lst xs) ∧ ∀ x ∈ xs, It8 aS l ds H x) ?_ ?_ ?_ ?_⟩
  · exact ⟨_, _, _, rfl, m28.same sL, upd_same, fun x hx => (it x hx).keep (.of sL)⟩
  · rintro j σ H _ ⟨_, _, _, _, _, e, _⟩
    exact Or.inl (Or.inl e)
  · rintro j x σ H42 hx ⟨u11, u12, u13, rfl, m42, hL, it2⟩
    obtain ⟨t, b, lab, wd, es, rfl, ht, hb, nb, nt, ca⟩ := it2 x (List.mem_of_getElem? hx)
    refine ⟨t, _, rfl, Or.inl (Or.inl ht), rfl, _, _, rfl, _, _, rfl, _, _, rfl, rfl, ?_⟩
    refine ⟨m42.j.tT, fun H43 b43 t43 => ?_⟩
    have k43 : Kp ds H42 H43 := .but (m42.j.tab hmT) b43
    have m43 := m42.keep k43 (m42.j.but (m42.j.tab hmT) hPl b43 t43)
    have e43 := k43 _ _ nb (fun _ z => HO.noConfusion z) hb
    obtain ⟨dS, hS⟩ := m43.hS
    have hwd := ca.len
    refine ⟨_, rfl, _, rfl, lab, b, es, rfl, e43, case_own ca hS m43.j.tG fun H44 h44 dd H45 s45 hdd => ⟨true, l8.te, (fun _ => ⟨dd, wd, rfl, rfl, hdd, by omega, ?_⟩), fun h => nomatch h⟩⟩
    have mk44 : M8 c ds p Pt Tt D aS rS aT rT pk nr ms ks ks H44 ∧ Kp ds H43 H44 := by
      rcases h44 with s | ⟨H1, s, t⟩
      · exact ⟨m43.same s, .of s⟩
      · have m1 := m43.same s
        exact ⟨m1.keep (.tabbed m1.j.tG t) (m1.j.tabbed hTt t), (Kp.of s).trans (.tabbed m1.j.tG t)⟩
    have m45 := mk44.1.same s45
    have k45 : Kp ds H42 H45 := k43.trans (mk44.2.trans (.of s45))
    refine ⟨_, rfl, _, _, rfl, rfl, szS (by have : ("threw " : Str).length ≤ 6 := by decide +kernel
                                            omega), rfl, _, rfl, ite_snf rfl ?_⟩
    exact ⟨_, _, _, rfl, m45, k45 _ _ nL (fun _ z => nomatch z) hL, fun x hx => (it2 x hx).keep k45⟩
  rintro σ H42 ⟨u11, u12, u13, rfl, m42, _, _⟩
  -- not _law_classes(number, some)
  obtain ⟨dS, hS⟩ := m42.hS
  refine ⟨_, rfl, _, rfl, _, aS, dS, rS, rfl, hS, m42.j.tT, m42.j.tG, fun H43 b43 t43 => ⟨_, rfl, iteF ?_⟩⟩
  have m43 := m42.keep (.but (m42.j.tab hmc) b43) (m42.j.but (m42.j.tab hmc) hPc b43 t43)
  exact ⟨_, _, _, _, _, _, _, _, _, _, _, _, _, rfl, m43.hp, m43.j⟩
end
end EH

set_option Elab.async false
set_option linter.all false
set_option maxRecDepth 100000
set_option maxHeartbeats 4000000
namespace EX
open PySem PySem.Spec PyProof.Rows L2 He PySem.ExS PySem.HandSPX
/-! hookE, and the tables of some defs' code objects: empty, out of K -/
structure SaysZ (fa : List Fa) (fn : List DefD) (ds : List ExD) (tf : List Defn) (ex : PySem.W.Frag → Bool) (w : World) (h : Heap) (K : PySem.W.Frag) : Prop where
  e : SaysE fa fn ds ex w K
  hd : ∀ p ∈ tf, PySem.W.codeHdIn K (cT K p).1 (cT K p).2 = true
  out : ∀ p ∈ tf, K.lookup (cT K p).2 = none
  empty : ∀ p ∈ tf, h.get? (cT K p).2 = some { cls := .none, data := .fields #[] }
abbrev AlZ : Type := AlE × Bool
def obsZ (n : Nat) (fa : List Fa) (fn : List DefD) (ds : List ExD) (tf : List Defn) (ex : PySem.W.Frag → Bool) (g : Addr → Option Obj) : AlZ := (obsE n fa fn ds ex g, tabsB g tf (frE n g))
def valZ (fn : List DefD) (ds : List ExD) (w : World) : AlZ := (valE fn ds w, true)
theorem saysZ_of {n : Nat} {fa : List Fa} {fn : List DefD} {ds : List ExD} {tf : List Defn} {ex : PySem.W.Frag → Bool} {w : World} {h : Heap} (e : obsZ n fa fn ds tf ex h.get? = valZ fn ds w) : SaysZ fa fn ds tf ex w h (frE n h.get?) := by
  have e1 : obsE n fa fn ds ex h.get? = valE fn ds w := congrArg (fun z : AlZ => z.1) e
  have h2 : tabsB h.get? tf (frE n h.get?) = true := congrArg (fun z : AlZ => z.2) e
  have key : ∀ p ∈ tf, PySem.W.codeHdIn (frE n h.get?) (cT (frE n h.get?) p).1 (cT (frE n h.get?) p).2 = true ∧ ∃ o, h.get? (cT (frE n h.get?) p).2 = some o ∧ emptyTab o = true := fun p hp => by
    obtain ⟨h3, h4⟩ := ba (List.all_eq_true.mp h2 p hp)
    refine ⟨h3, ?_⟩
    cases q : h.get? (cT (frE n h.get?) p).2 with
    | none =>
      rw [q] at h4
      cases h4
    | some o =>
      rw [q] at h4
      exact ⟨o, rfl, h4⟩
  exact ⟨saysE_of e1, fun p hp => (key p hp).1, fun p hp => by
    obtain ⟨_, o, q, z⟩ := key p hp
    exact frT_none q z, fun p hp => by
    obtain ⟨_, o, q, z⟩ := key p hp
    rw [q, emptyTab_eq z]⟩
def hookZ (n : Nat) (fa : List Fa) (fn : List DefD) (ds : List ExD) (tf : List Defn) (ex : PySem.W.Frag → Bool) : PySem.W.Hook where
  α := AlZ
  obs := fun s => obsZ n fa fn ds tf ex s.heap.get?
  val := fun w => valZ fn ds w
  says := fun w h => ∃ K : PySem.W.Frag, K.In h ∧ SaysZ fa fn ds tf ex w h K
  of := fun _ _ e => ⟨_, frT_in, saysZ_of e⟩
  keeps := fun _ _ _ ⟨K, hK, c⟩ k => ⟨K, PySem.W.Frag.In.keeps hK k, ⟨c.e, c.hd, c.out, fun p hp => k _ _ (c.empty p hp)⟩⟩
theorem obsZ_eq {n : Nat} {fa : List Fa} {fn : List DefD} {ds : List ExD} {tf : List Defn} {ex : PySem.W.Frag → Bool} {g : Addr → Option Obj} {s : Shared} (h : ∀ a, g a = s.heap.get? a) : obsZ n fa fn ds tf ex g = (hookZ n fa fn ds tf ex).obs s := by
  have e : g = s.heap.get? := funext h
  rw [e] <;> rfl
end EX

set_option Elab.async false
set_option linter.all false
set_option maxRecDepth 100000
set_option maxHeartbeats 0
namespace EH
open PySem PySem.Spec PyProof.Rows L2
def dfn (x : Str) (i : Nat) : He.DefD := ⟨(x, none), x, x, defArgs (top i), defBody (top i), defScope (top i), [], []⟩
def dfc (x q : Str) (i : Nat) : He.DefD := ⟨(x, some "__init__"), "__init__", q, defArgs (inClass (top i) 0), defBody (inClass (top i) 0), defScope (inClass (top i) 0), [], []⟩
def fn : List He.DefD := [dfn "kind_of" 13, dfn "text_of" 14, dfn "text_at" 15, dfn "is_same" 17, dfn "fitting" 18, dfn "key_of" 19, dfn "store" 20, dfn "method_of" 21, dfn "part_of" 22, dfn "put" 23, dfn "row_to_walk" 24, dfn "own" 25, dfn "own_rest" 26, dfn "_law_dice" 28, dfn "_law_roll" 29, dfn "_law_rounds" 30, dfn "_law_told" 31, dfn "_law_classes" 32, dfn "law" 33, dfc "Items" "Items.__init__" 8, dfc "Table" "Table.__init__" 9, dfc "Bound" "Bound.__init__" 10, dfc "Kind" "Kind.__init__" 11, dfc "Thing" "Thing.__init__" 12]
def loose : List PySem.Str := ["EngineFault", "Threw", "MOST", "LONG", "MANY", "SHOWN", "Items", "Table", "Bound", "Kind", "Thing", "kind_of", "text_of", "text_at", "short", "is_same", "fitting", "key_of", "store", "method_of", "part_of", "put", "row_to_walk", "own", "own_rest", "_law_dice", "_law_roll", "_law_rounds", "_law_told", "_law_classes"]
def fa : List He.Fa := [.glo "kind_of", .glo "text_of", .glo "text_at", .glo "is_same", .glo "fitting", .glo "key_of", .glo "store", .glo "method_of", .glo "part_of", .glo "put", .glo "row_to_walk", .glo "own", .glo "own_rest", .glo "_law_dice", .glo "_law_roll", .glo "_law_rounds", .glo "_law_told", .glo "_law_classes", .glo "law", .glo "Items", .glo "Table", .glo "Bound", .glo "Kind", .glo "Thing", .free "isinstance", .free "len", .free "bool", .free "int", .free "str", .free "range", .free "max", .free "list", .free "any", .free "abs", .int "MOST" 1000000000000, .int "LONG" 2000, .int "MANY" 500, .cls "Items", .cls "Table", .cls "Bound", .cls "Kind", .cls "Thing", .mkr "Items", .mkr "Table", .mkr "Bound", .mkr "Kind", .mkr "Thing", .noat "Items" "row", .noat "Table" "row", .noat "Bound" "method", .noat "Bound" "owner", .noat "Kind" "label", .noat "Kind" "base", .noat "Kind" "methods", .noat "Thing" "kind", .noat "Thing" "fields"]
def dThr : EX.ExD := ⟨"Threw", "value", "threw", "Threw.__init__", (match top 2 with | .ClassDef _ _ _ (st :: _) _ .. => st | s => s)⟩
def ccK (K : PySem.W.Frag) : CC := ⟨He.ga K "Items", He.ga K "Table", He.ga K "Bound", He.ga K "Kind", He.ga K "Thing"⟩
def insB (K : PySem.W.Frag) (C : Addr) : Bool := He.eqO (PySem.W.findIn K (.ref C) "__class__") (some (some (.builtin "object.__class__"))) && (He.eqO (PySem.W.specialIn K (.builtin "object.__class__") "__get__") (some (some (.builtin "getset_descriptor.__get__"))) &&
  (decide (PySem.W.takesIn K (.builtin "object.__class__") = some true) && decide (PySem.W.mroIn K C (.type "object") = some true)))
theorem insB_ok {K : PySem.W.Frag} {C : Addr} (cl : Cls K C) (h : insB K C = true) : InsK K C := by
  obtain ⟨h1, h⟩ := He.ba h
  obtain ⟨h2, h⟩ := He.ba h
  obtain ⟨h3, h4⟩ := He.ba h
  exact ⟨cl, He.eqO_ok h1, He.eqO_ok h2, of_decide_eq_true h3, of_decide_eq_true h4⟩
def tf : List He.Defn := [("law", none), ("_law_classes", none), ("own_rest", none)]
def tb (K : PySem.W.Frag) (i : Nat) : Addr := (He.cT K (tf.getD i ("", none))).2
def ktB (K : PySem.W.Frag) : Bool := (tyL (ccK K)).all fun t => (tyU (ccK K)).all fun u => decide (t = .type "bool" ∧ u = .type "int") || decide (PySem.W.kitOne K t u = some (decide (t = u)))
def ex (K : PySem.W.Frag) : Bool := EX.exB K (PySem.W.OpenLaw.row PySem.Challenge.rw_enginehall_k08_own_functions).prog.main.file dThr && (insB K (ccK K).I && (insB K (ccK K).T && (insB K (ccK K).B && (insB K (ccK K).K && (insB K (ccK K).G &&
  (decide ([(ccK K).I, (ccK K).T, (ccK K).B, (ccK K).K, (ccK K).G].Nodup) && (ktB K && (cmpB K (ccK K).G && (decide (PySem.W.exmOne K (.ref (He.ga K "Threw")) (.ref (He.ga K "Threw")) = some true) && (He.eqO (PySem.W.findIn K (.ref (He.ga K "Threw")) "value") (some none) &&
  (decide (tb K 0 ≠ tb K 1) && (decide (tb K 2 ≠ tb K 0) && (decide (tb K 2 ≠ tb K 1))))))))))))))
abbrev R : PySem.W.OpenRow := PySem.W.OpenLaw.row PySem.Challenge.rw_enginehall_k08_own_functions
abbrev hk : PySem.W.Hook := EX.hookZ 5 fa fn [dThr] tf ex
def ob (s : PySem.W.SharedT) : EX.AlZ := EX.obsZ 5 fa fn [dThr] tf ex (HandSHeadRun.getT s)
theorem ob_eq (s : PySem.W.SharedT) : ob s = hk.obs s.abs := EX.obsZ_eq (HandSHeadRun.getT_eq s)
theorem run (w : World) : HandSHeadRun.RunEq R (PySem.W.view R.prog [33]) hk ob 3000 loose w := by
  intro os
  kernel_rfl
theorem nm_ok : PySem.ExS.NmOk "value" := ⟨by rfl, by rfl, by rfl, by rfl, by decide, by decide, fun _ _ _ _ _ _ _ _ _ _ _ _ _ => rfl⟩
theorem shape : dThr.Shape := ⟨nm_ok, by kernel_rfl, by kernel_rfl, by kernel_rfl, by kernel_rfl⟩
theorem facts {w : World} {K : PySem.W.Frag} {h : Heap} {mg : Str → Option Value} {f : Addr} (X : K.In h) (G : h.Ns mainGlobals mg) (hfa : mg ("law" : Str) = some (.ref f)) (z : EX.SaysZ fa fn [dThr] tf ex w h K) : LamX.LawAtS PySem.Challenge.rw_enginehall_k08_own_functions w K C8.CX0 7 63 "script" mg f h := by
  have c := z.e
  have cd : He.SaysD fa fn K := c.t.d
  obtain ⟨d0, F0⟩ := cd.def_ 0 (d := dfn "kind_of" 13) rfl
  obtain ⟨d1, F1⟩ := cd.def_ 1 (d := dfn "text_of" 14) rfl
  obtain ⟨d2, F2⟩ := cd.def_ 2 (d := dfn "text_at" 15) rfl
  obtain ⟨d3, F3⟩ := cd.def_ 3 (d := dfn "is_same" 17) rfl
  obtain ⟨d4, F4⟩ := cd.def_ 4 (d := dfn "fitting" 18) rfl
  obtain ⟨d5, F5⟩ := cd.def_ 5 (d := dfn "key_of" 19) rfl
  obtain ⟨d6, F6⟩ := cd.def_ 6 (d := dfn "store" 20) rfl
  obtain ⟨d7, F7⟩ := cd.def_ 7 (d := dfn "method_of" 21) rfl
  obtain ⟨d8, F8⟩ := cd.def_ 8 (d := dfn "part_of" 22) rfl
  obtain ⟨d9, F9⟩ := cd.def_ 9 (d := dfn "put" 23) rfl
  obtain ⟨d10, F10⟩ := cd.def_ 10 (d := dfn "row_to_walk" 24) rfl
  obtain ⟨d11, F11⟩ := cd.def_ 11 (d := dfn "own" 25) rfl
  obtain ⟨d12, F12⟩ := cd.def_ 12 (d := dfn "own_rest" 26) rfl
  obtain ⟨d13, F13⟩ := cd.def_ 13 (d := dfn "_law_dice" 28) rfl
  obtain ⟨d14, F14⟩ := cd.def_ 14 (d := dfn "_law_roll" 29) rfl
  obtain ⟨d15, F15⟩ := cd.def_ 15 (d := dfn "_law_rounds" 30) rfl
  obtain ⟨d16, F16⟩ := cd.def_ 16 (d := dfn "_law_told" 31) rfl
  obtain ⟨d17, F17⟩ := cd.def_ 17 (d := dfn "_law_classes" 32) rfl
  obtain ⟨d18, F18⟩ := cd.def_ 18 (d := dfn "law" 33) rfl
  obtain ⟨e0, E0⟩ := cd.def_ 19 (d := dfc "Items" "Items.__init__" 8) rfl
  obtain ⟨e1, E1⟩ := cd.def_ 20 (d := dfc "Table" "Table.__init__" 9) rfl
  obtain ⟨e2, E2⟩ := cd.def_ 21 (d := dfc "Bound" "Bound.__init__" 10) rfl
  obtain ⟨e3, E3⟩ := cd.def_ 22 (d := dfc "Kind" "Kind.__init__" 11) rfl
  obtain ⟨e4, E4⟩ := cd.def_ 23 (d := dfc "Thing" "Thing.__init__" 12) rfl
  have e := hfa.symm.trans (He.glo_ok X G (cd.fact 18 (f := .glo "law") rfl))
  cases e
  obtain ⟨m1, hm⟩ := He.ba c.more
  obtain ⟨mI, hm⟩ := He.ba hm
  obtain ⟨mT, hm⟩ := He.ba hm
  obtain ⟨mB, hm⟩ := He.ba hm
  obtain ⟨mK, hm⟩ := He.ba hm
  obtain ⟨mG, hm⟩ := He.ba hm
  obtain ⟨mN, hm⟩ := He.ba hm
  obtain ⟨mkt, hm⟩ := He.ba hm
  obtain ⟨mcmp, hm⟩ := He.ba hm
  obtain ⟨mex, hm⟩ := He.ba hm
  obtain ⟨mnf, hm⟩ := He.ba hm
  obtain ⟨t01, hm⟩ := He.ba hm
  obtain ⟨t20, t21⟩ := He.ba hm
  obtain ⟨TE, xf, ec⟩ := EX.exB_ok (prog := R.prog) X G shape (by kernel_rfl) (EX.exW_at c.own 0) m1
  have g_kind_of := He.glo_ok X G (cd.fact 0 (f := .glo "kind_of") rfl)
  have g_text_of := He.glo_ok X G (cd.fact 1 (f := .glo "text_of") rfl)
  have g_text_at := He.glo_ok X G (cd.fact 2 (f := .glo "text_at") rfl)
  have g_is_same := He.glo_ok X G (cd.fact 3 (f := .glo "is_same") rfl)
  have g_fitting := He.glo_ok X G (cd.fact 4 (f := .glo "fitting") rfl)
  have g_key_of := He.glo_ok X G (cd.fact 5 (f := .glo "key_of") rfl)
  have g_store := He.glo_ok X G (cd.fact 6 (f := .glo "store") rfl)
  have g_method_of := He.glo_ok X G (cd.fact 7 (f := .glo "method_of") rfl)
  have g_part_of := He.glo_ok X G (cd.fact 8 (f := .glo "part_of") rfl)
  have g_put := He.glo_ok X G (cd.fact 9 (f := .glo "put") rfl)
  have g_row_to_walk := He.glo_ok X G (cd.fact 10 (f := .glo "row_to_walk") rfl)
  have g_own := He.glo_ok X G (cd.fact 11 (f := .glo "own") rfl)
  have g_own_rest := He.glo_ok X G (cd.fact 12 (f := .glo "own_rest") rfl)
  have g_law_dice := He.glo_ok X G (cd.fact 13 (f := .glo "_law_dice") rfl)
  have g_law_roll := He.glo_ok X G (cd.fact 14 (f := .glo "_law_roll") rfl)
  have g_law_rounds := He.glo_ok X G (cd.fact 15 (f := .glo "_law_rounds") rfl)
  have g_law_told := He.glo_ok X G (cd.fact 16 (f := .glo "_law_told") rfl)
  have g_law_classes := He.glo_ok X G (cd.fact 17 (f := .glo "_law_classes") rfl)
  have g_law := He.glo_ok X G (cd.fact 18 (f := .glo "law") rfl)
  have g_Items := He.glo_ok X G (cd.fact 19 (f := .glo "Items") rfl)
  have g_Table := He.glo_ok X G (cd.fact 20 (f := .glo "Table") rfl)
  have g_Bound := He.glo_ok X G (cd.fact 21 (f := .glo "Bound") rfl)
  have g_Kind := He.glo_ok X G (cd.fact 22 (f := .glo "Kind") rfl)
  have g_Thing := He.glo_ok X G (cd.fact 23 (f := .glo "Thing") rfl)
  have z_isinstance := He.free_ok X G (cd.fact 24 (f := .free "isinstance") rfl)
  have z_len := He.free_ok X G (cd.fact 25 (f := .free "len") rfl)
  have z_bool := He.free_ok X G (cd.fact 26 (f := .free "bool") rfl)
  have z_int := He.free_ok X G (cd.fact 27 (f := .free "int") rfl)
  have z_str := He.free_ok X G (cd.fact 28 (f := .free "str") rfl)
  have z_range := He.free_ok X G (cd.fact 29 (f := .free "range") rfl)
  have z_max := He.free_ok X G (cd.fact 30 (f := .free "max") rfl)
  have z_list := He.free_ok X G (cd.fact 31 (f := .free "list") rfl)
  have z_any := He.free_ok X G (cd.fact 32 (f := .free "any") rfl)
  have z_abs := He.free_ok X G (cd.fact 33 (f := .free "abs") rfl)
  obtain ⟨tMOST, iMOST⟩ := He.int_ok X G (cd.fact 34 (f := .int "MOST" 1000000000000) rfl)
  obtain ⟨tLONG, iLONG⟩ := He.int_ok X G (cd.fact 35 (f := .int "LONG" 2000) rfl)
  obtain ⟨tMANY, iMANY⟩ := He.int_ok X G (cd.fact 36 (f := .int "MANY" 500) rfl)
  have c_Items := He.cls_ok (cd.fact 37 (f := .cls "Items") rfl)
  have c_Table := He.cls_ok (cd.fact 38 (f := .cls "Table") rfl)
  have c_Bound := He.cls_ok (cd.fact 39 (f := .cls "Bound") rfl)
  have c_Kind := He.cls_ok (cd.fact 40 (f := .cls "Kind") rfl)
  have c_Thing := He.cls_ok (cd.fact 41 (f := .cls "Thing") rfl)
  have k_Items := He.mkr_ok (cd.fact 42 (f := .mkr "Items") rfl)
  have k_Table := He.mkr_ok (cd.fact 43 (f := .mkr "Table") rfl)
  have k_Bound := He.mkr_ok (cd.fact 44 (f := .mkr "Bound") rfl)
  have k_Kind := He.mkr_ok (cd.fact 45 (f := .mkr "Kind") rfl)
  have k_Thing := He.mkr_ok (cd.fact 46 (f := .mkr "Thing") rfl)
  have a_Items_row := He.noat_ok (cd.fact 47 (f := .noat "Items" "row") rfl)
  have a_Table_row := He.noat_ok (cd.fact 48 (f := .noat "Table" "row") rfl)
  have a_Bound_method := He.noat_ok (cd.fact 49 (f := .noat "Bound" "method") rfl)
  have a_Bound_owner := He.noat_ok (cd.fact 50 (f := .noat "Bound" "owner") rfl)
  have a_Kind_label := He.noat_ok (cd.fact 51 (f := .noat "Kind" "label") rfl)
  have a_Kind_base := He.noat_ok (cd.fact 52 (f := .noat "Kind" "base") rfl)
  have a_Kind_methods := He.noat_ok (cd.fact 53 (f := .noat "Kind" "methods") rfl)
  have a_Thing_kind := He.noat_ok (cd.fact 54 (f := .noat "Thing" "kind") rfl)
  have a_Thing_fields := He.noat_ok (cd.fact 55 (f := .noat "Thing" "fields") rfl)
  have b0 : Binds K d0 ["value"] [] := FunD.bindsN F0 fun _ _ _ _ _ _ us hl => match us, hl with | [_], _ => rfl
  have b1 : Binds K d1 ["value"] [] := FunD.bindsN F1 fun _ _ _ _ _ _ us hl => match us, hl with | [_], _ => rfl
  have b2 : Binds K d2 ["value", "deep", "inside"] [] := FunD.bindsN F2 fun _ _ _ _ _ _ us hl => match us, hl with | [_, _, _], _ => rfl
  have b3 : Binds K d3 ["one", "other"] [] := FunD.bindsN F3 fun _ _ _ _ _ _ us hl => match us, hl with | [_, _], _ => rfl
  have b4 : Binds K d4 ["value"] [] := FunD.bindsN F4 fun _ _ _ _ _ _ us hl => match us, hl with | [_], _ => rfl
  have b5 : Binds K d5 ["value"] [] := FunD.bindsN F5 fun _ _ _ _ _ _ us hl => match us, hl with | [_], _ => rfl
  have b6 : Binds K d6 ["what", "place", "value"] [] := FunD.bindsN F6 fun _ _ _ _ _ _ us hl => match us, hl with | [_, _, _], _ => rfl
  have b7 : Binds K d7 ["kind", "name"] [] := FunD.bindsN F7 fun _ _ _ _ _ _ us hl => match us, hl with | [_, _], _ => rfl
  have b8 : Binds K d8 ["what", "name"] [] := FunD.bindsN F8 fun _ _ _ _ _ _ us hl => match us, hl with | [_, _], _ => rfl
  have b9 : Binds K d9 ["what", "name", "value"] [] := FunD.bindsN F9 fun _ _ _ _ _ _ us hl => match us, hl with | [_, _, _], _ => rfl
  have b10 : Binds K d10 ["what"] [] := FunD.bindsN F10 fun _ _ _ _ _ _ us hl => match us, hl with | [_], _ => rfl
  have b11 : Binds K d11 ["label", "row"] [] := FunD.bindsN F11 fun _ _ _ _ _ _ us hl => match us, hl with | [_, _], _ => rfl
  have b12 : Binds K d12 ["label", "one", "kind", "row"] [] := FunD.bindsN F12 fun _ _ _ _ _ _ us hl => match us, hl with | [_, _, _, _], _ => rfl
  have b13 : Binds K d13 ["cell"] [] := FunD.bindsN F13 fun _ _ _ _ _ _ us hl => match us, hl with | [_], _ => rfl
  have b14 : Binds K d14 ["dice", "many"] [] := FunD.bindsN F14 fun _ _ _ _ _ _ us hl => match us, hl with | [_, _], _ => rfl
  have b15 : Binds K d15 ["script", "most"] [] := FunD.bindsN F15 fun _ _ _ _ _ _ us hl => match us, hl with | [_, _], _ => rfl
  have b16 : Binds K d16 ["what"] [] := FunD.bindsN F16 fun _ _ _ _ _ _ us hl => match us, hl with | [_], _ => rfl
  have b17 : Binds K d17 ["number", "some"] [] := FunD.bindsN F17 fun _ _ _ _ _ _ us hl => match us, hl with | [_, _], _ => rfl
  have b18 : Binds K d18 ["script"] [] := FunD.bindsN F18 fun _ _ _ _ _ _ us hl => match us, hl with | [_], _ => rfl
  have be0 : Binds K e0 ["self", "row"] [] := FunD.bindsN E0 fun _ _ _ _ _ _ us hl => match us, hl with | [_, _], _ => rfl
  have be1 : Binds K e1 ["self"] [] := FunD.bindsN E1 fun _ _ _ _ _ _ us hl => match us, hl with | [_], _ => rfl
  have be2 : Binds K e2 ["self", "method", "owner"] [] := FunD.bindsN E2 fun _ _ _ _ _ _ us hl => match us, hl with | [_, _, _], _ => rfl
  have be3 : Binds K e3 ["self", "label", "base", "methods"] [] := FunD.bindsN E3 fun _ _ _ _ _ _ us hl => match us, hl with | [_, _, _, _], _ => rfl
  have be4 : Binds K e4 ["self", "kind"] [] := FunD.bindsN E4 fun _ _ _ _ _ _ us hl => match us, hl with | [_, _], _ => rfl
  have TGk : TG K mg (ccK K) tMOST tLONG tMANY (He.ga K "kind_of") d0 := ⟨insB_ok c_Items mI, insB_ok c_Table mT, insB_ok c_Bound mB, insB_ok c_Kind mK, insB_ok c_Thing mG, a_Items_row, a_Table_row, a_Bound_method, a_Bound_owner, a_Kind_label, a_Kind_base, a_Kind_methods, a_Thing_kind, a_Thing_fields, of_decide_eq_true mN, fun t ht u hu n => by
    have h1 := List.all_eq_true.mp (List.all_eq_true.mp mkt t ht) u hu
    rcases Bool.or_eq_true_iff.mp h1 with h2 | h2
    · exact absurd (of_decide_eq_true h2) n
    · exact of_decide_eq_true h2, z_isinstance, z_len, z_bool, z_int, z_str, g_Items, g_Table, g_Bound, g_Kind, g_Thing, iMOST, iLONG, iMANY⟩
  have kg : KG K mg _ _ _ _ _ _ := ⟨g_kind_of, F0.kp, b0, g_key_of, F5.kp, b5, g_text_at, F2.kp, b2⟩
  have mgd : MG K mg (ccK K) _ _ _ _ := ⟨g_method_of, F7.kp, b7, k_Bound, be2, z_list⟩
  have og : OG K mg (ccK K) _ _ _ _ _ _ _ _ := ⟨g_fitting, F4.kp, b4, g_text_of, F1.kp, b1, g_own_rest, F12.kp, b12, k_Items, be0, z_range, z_max⟩
  have lg : LG K mg (ccK K) (He.ga K "Threw") _ _ _ _ _ _ _ _ _ _ _ _ _ _ _ := ⟨g_method_of, F7.kp, b7, g_is_same, F3.kp, b3, g_part_of, F8.kp, b8, g_put, F9.kp, b9, g_own, F11.kp, b11, k_Kind, be3, k_Thing, be4, g_law_told, F16.kp, TE.gC, xf, He.eqO_ok mnf, of_decide_eq_true mex, cmpB_ok mcmp⟩
  have vg : VG K mg (ccK K) _ _ _ _ _ _ _ _ _ _ _ _ _ _ _ _ := ⟨g_law_rounds, F15.kp, b15, g_law_roll, F14.kp, b14, g_store, F6.kp, b6, g_row_to_walk, F10.kp, b10, g_own, F11.kp, b11, g_law_classes, F17.kp, b17, k_Items, be0, k_Table, be1, z_range⟩
  have ref : ∀ p ∈ tf, K.lookup (He.cT K p).2 = none := z.out
  obtain ⟨ocL, odL, dVL, kVL, docL, pmL, anL, cdvL, ctL, oslL, rfl, lkL, hcdL, _, _⟩ := F18.ex
  obtain ⟨qL, rfl⟩ := He.codeIn_ref hcdL
  have coL : (He.cT K ("law", none)).1 = qL := He.codeOf_eq lkL rfl
  obtain ⟨ocC, odC, dVC, kVC, docC, pmC, anC, cdvC, ctC, oslC, rfl, lkC, hcdC, _, _⟩ := F17.ex
  obtain ⟨qC, rfl⟩ := He.codeIn_ref hcdC
  have coC : (He.cT K ("_law_classes", none)).1 = qC := He.codeOf_eq lkC rfl
  obtain ⟨ocR, odR, dVR, kVR, docR, pmR, anR, cdvR, ctR, oslR, rfl, lkR, hcdR, _, _⟩ := F12.ex
  obtain ⟨qR, rfl⟩ := He.codeIn_ref hcdR
  have coR : (He.cT K ("own_rest", none)).1 = qR := He.codeOf_eq lkR rfl
  refine ⟨_, tf.map (He.cT K), spLaw8 K (tb K 2) [(tb K 0, "law.<locals>.<lambda>"), (tb K 1, "_law_classes.<locals>.<lambda>")], fun p hp => ?_, fun p hp => ?_, fun p hp => ?_, fun s u => (FunD.bindsA (ps := ["script"]) F18 fun _ _ _ _ _ _ us hl => match us, hl with | [_], _ => rfl) s [u] rfl, fun H a ns hl _ hH hS => ?_, fun base _ _ hTb => ?_⟩
  · obtain ⟨q, hq, rfl⟩ := List.mem_map.mp hp
    exact z.empty q hq
  · obtain ⟨q, hq, rfl⟩ := List.mem_map.mp hp
    exact z.out q hq
  · obtain ⟨q, hq, rfl⟩ := List.mem_map.mp hp
    exact PySem.W.codeHd_of_K X (z.hd q hq)
  · have h0 := hH _ (List.mem_map_of_mem (show (("law", none) : He.Defn) ∈ tf from List.mem_cons_self))
    have h1 := hH _ (List.mem_map_of_mem (show (("_law_classes", none) : He.Defn) ∈ tf from List.mem_cons_of_mem _ List.mem_cons_self))
    have h2 := hH _ (List.mem_map_of_mem (show (("own_rest", none) : He.Defn) ∈ tf from List.mem_cons_of_mem _ (List.mem_cons_of_mem _ List.mem_cons_self)))
    refine ⟨a, ns, rfl, hS, hl, fun p hp => ?_, ⟨#[], h2, True.intro⟩, fun _ => rfl⟩
    rcases List.mem_cons.mp hp with rfl | hp
    · exact .nil h0
    rcases List.mem_cons.mp hp with rfl | hp
    · exact .nil h1
    cases hp
  · have tL := hTb _ (List.mem_map_of_mem (show (("law", none) : He.Defn) ∈ tf from List.mem_cons_self))
    have tC := hTb _ (List.mem_map_of_mem (show (("_law_classes", none) : He.Defn) ∈ tf from List.mem_cons_of_mem _ List.mem_cons_self))
    have tR := hTb _ (List.mem_map_of_mem (show (("own_rest", none) : He.Defn) ∈ tf from List.mem_cons_of_mem _ (List.mem_cons_of_mem _ List.mem_cons_self)))
    rw [coL] at tL
    rw [coC] at tC
    rw [coR] at tR
    have n01 : tb K 0 ≠ tb K 1 := of_decide_eq_true t01
    have n20 : tb K 2 ≠ tb K 0 := of_decide_eq_true t20
    have n21 : tb K 2 ≠ tb K 1 := of_decide_eq_true t21
    have GKind := ok_kind (P := R.prog) (w := w) (base := base) F0 TGk
    have GMeth := ok_meth (P := R.prog) (w := w) (base := base) F7 TGk
    have GIi := ok_ini_i (P := R.prog) (w := w) (base := base) E0 TGk
    have GIt := ok_ini_t (P := R.prog) (w := w) (base := base) E1 TGk
    have GIb := ok_ini_b (P := R.prog) (w := w) (base := base) E2 TGk
    have GIk := ok_ini_k (P := R.prog) (w := w) (base := base) E3 TGk
    have GIg := ok_ini_g (P := R.prog) (w := w) (base := base) E4 TGk
    have GDice := ok_dice (P := R.prog) (w := w) (base := base) F13 z_abs z_int
    have GRoll := ok_roll (P := R.prog) (w := w) (base := base) F14 z_int
    have GRounds := ok_rounds (P := R.prog) (w := w) (base := base) F15 F13 g_law_dice b13 GDice
    have GTa := ok_ta (P := R.prog) (w := w) (base := base) F2 TGk kg GKind
    have GTo := ok_to (P := R.prog) (w := w) (base := base) F1 kg GTa
    have GFit := ok_fit (P := R.prog) (w := w) (base := base) F4 TGk
    have GKey := ok_key (P := R.prog) (w := w) (base := base) F5 kg GKind
    have GStore := ok_store (P := R.prog) (w := w) (base := base) F6 TGk kg GKind GKey
    have GSame := ok_same (P := R.prog) (w := w) (base := base) F3 kg (cmpB_ok mcmp) GKind
    have GPart := ok_part (P := R.prog) (w := w) (base := base) F8 TGk kg mgd TE GKind GMeth GIb
    have GPut := ok_put (P := R.prog) (w := w) (base := base) F9 TGk kg TE GKind
    have GRow := ok_row (P := R.prog) (w := w) (base := base) F10 TGk kg mgd TE GKind
    have GRest := ok_rest (P := R.prog) (w := w) (base := base) F12 rfl TGk kg mgd ⟨z_any, ⟨tR.code, tR.bm, tR.gP⟩⟩ TE GKind GMeth
    have GOwn := ok_own (P := R.prog) (w := w) (base := base) F11 TGk kg mgd og TE GKind GFit GTo GIi GRest
    have GCl := ok_cl (P := R.prog) (w := w) (base := base) F17 rfl TGk lg F16 b16 tC [(tb K 0, "law.<locals>.<lambda>"), (tb K 1, "_law_classes.<locals>.<lambda>")] n21 (List.mem_cons_of_mem _ List.mem_cons_self) (fun p hp e => by
      rcases List.mem_cons.mp hp with rfl | hp
      · exact absurd e n01
      rcases List.mem_cons.mp hp with rfl | hp
      · rfl
      cases hp) GMeth GSame GPart GPut GOwn GIk GIg
    exact ok_law (P := R.prog) (w := w) (base := base) F18 rfl TGk mgd lg vg F16 b16 tL [(tb K 0, "law.<locals>.<lambda>"), (tb K 1, "_law_classes.<locals>.<lambda>")] n20 n21 (fun p hp => by
      rcases List.mem_cons.mp hp with rfl | hp
      · exact n20.symm
      rcases List.mem_cons.mp hp with rfl | hp
      · exact n21.symm
      cases hp) List.mem_cons_self (fun p hp e => by
      rcases List.mem_cons.mp hp with rfl | hp
      · rfl
      rcases List.mem_cons.mp hp with rfl | hp
      · exact absurd e.symm n01
      cases hp) (List.mem_cons_of_mem _ List.mem_cons_self) GRoll GRounds GStore GRow GOwn GCl GIi GIt
end EH
open PySem PySem.W PySem.Calls PyProof.Rows
theorem PySem.Challenge.cw_enginehall_k08_own_functions_holds : PySem.Challenge.rw_enginehall_k08_own_functions.Holds := by
  w_on; o_law
  refine HandSHeadRun.head_any (r := OpenLaw.row PySem.Challenge.rw_enginehall_k08_own_functions) (q := view (OpenLaw.row PySem.Challenge.rw_enginehall_k08_own_functions).prog [33]) (H := EH.hk) (ob := EH.ob) (M := 3000) (loose := EH.loose) (d := HandSHeadRun.topDef (OpenLaw.row PySem.Challenge.rw_enginehall_k08_own_functions).prog 33) (kwd := []) EH.ob_eq
    (by kernel_rfl) (fun s => by kernel_rfl) EH.run (by kernel_rfl) (by kernel_rfl) (by kernel_rfl) (by rfl) (by first | assumption | decide +kernel) (by decide +kernel) ⟨rfl, rfl, rfl, rfl, rfl, by decide +kernel⟩ ?hw ?hc
  case hw => w_witness2
  case hc =>
    refine LamX.walk_ofTsE (l := PySem.Challenge.rw_enginehall_k08_own_functions) (n := 63) (k := 7) (x := "script") (CX := fun _ => C8.CX0) rfl (by decide) (by kernel_rfl) ⟨rfl, by decide, by decide⟩ ?F (fun _ _ _ _ _ z => z)
    intro w mg fa h Y G hmg0
    obtain ⟨K, KX, c⟩ := Y
    have hmg : mg ("law" : PySem.Str) = some (.ref fa) := by
      have e : (HandSHeadRun.topDef (OpenLaw.row PySem.Challenge.rw_enginehall_k08_own_functions).prog 33).name = ("law" : PySem.Str) := by kernel_rfl
      rw [← e]
      exact hmg0
    exact ⟨K, KX, EH.facts (w := w) KX G hmg c⟩
#print axioms PySem.Challenge.cw_enginehall_k08_own_functions_holds
