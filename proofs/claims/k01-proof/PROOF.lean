import PyProof.Rows.All
import Wide.All
import OpenK.AllK
import Wide.FinOn
import HandS.ForMost
import HandS.WordsExc
import HandS.Defaults
import PySem.Challenge.RW_enginehall_k01_parts_of_texts
import KE.KExcSuper
import KE.RegKSuper
import HandS.ForExc
import HandS.ExcField
import HandS.ExcSuper
import HandS.HeadWalk
import HandS.IsInst
import HandS.Steps
import HandS.TupAny
import HandS.ExcIs
import KE.KExcIs
import PyProof.StrBlock2
import PyProof.Rows.StrMul
import HandS.HeadHook4
import HandS.Head0
import HandS.Head1
import HandS.Head2
import HandS.HeadEnd
import HandS.HeadHook1
import HandS.HeadHook2
import HandS.HeadHook3
set_option Elab.async false
set_option linter.all false
set_option maxRecDepth 100000
set_option maxHeartbeats 4000000
namespace EH
open PySem PySem.Spec PyProof.Rows L2
def top (i : Nat) : Stmt := PySem.Challenge.pw_enginehall_k01_parts_of_texts.main.body.getD i (.Pass ⟨0, 0, 0, 0⟩)
abbrev sDice : Stmt := top 14
abbrev sRoll : Stmt := top 15
abbrev sRounds : Stmt := top 16
abbrev FnP (K : PySem.W.Frag) (x : Str) (st : Stmt) (f : Addr) (fd : FuncData) : Prop := FunD K x x (defArgs st) (defBody st) (defScope st) [] [] f fd
/-! ### dice -/
def IsDice (H : Hp) (d : Addr) : Prop := ∃ a b m : Int, H d = some (.lst [.int a, .int b, .int m])
def spDice : Sp := fun vs H Q _ => ∃ c : Int, vs = [.int c] ∧ ∀ p H', H p = none → Same H H' → IsDice H' p → Q (.ref p) H'
def spRoll : Sp := fun vs H Q _ => ∃ (d : Addr) (n : Int), vs = [.ref d, .int n] ∧ IsDice H d ∧ 0 < n ∧ n < 1000000 ∧
  ∀ r H', 0 ≤ r → r < n → (∀ c o, c ≠ d → H c = some o → H' c = some o) → IsDice H' d → Q (.int r) H'
def spRounds (K : PySem.W.Frag) : Sp := fun vs H Q _ => ∃ (a : Addr) (ns : List Int) (n : Int), vs = [.ref a, .int n] ∧ SqL K H a (ns.map V.int) ∧ ns.length ≤ 63 ∧ 1 ≤ n ∧ n < 1000 ∧
  ∀ p H' (ds : List Addr), H p = none → Same H H' → H' p = some (.lst (ds.map V.ref)) → (∀ d ∈ ds, d ≠ p ∧ H d = none ∧ IsDice H' d) → ds.length ≤ 63 → Q (.ref p) H'
theorem same_new {H : Hp} {p : Addr} {o : HO} (hp : H p = none) : Same H (upd H p o) := fun b u e => by
  rw [upd_ne (ne_of_none e hp)]
  exact e
theorem szS {n : Nat} (h : n ≤ 100000) : n ≤ sizeLine := Nat.le_trans h (by decide)
theorem anyb {K : Bool → Hp → Prop} {H : Hp} (h1 : K true H) (h2 : K false H) (b : Bool) : K b H := by
  cases b
  · exact h2
  · exact h1
theorem if_any {c : TT} {t u : TS} {D : Ends} {σ : L2.St} {H : Hp} (h : ∀ Q : Bool → Hp → Prop, Q true H → Q false H → c σ H Q) (ht : t D σ H) (hu : u D σ H) : tIfS c t u D σ H :=
  h _ (by show (if true = true then t D σ H else u D σ H); rw [if_pos rfl]; exact ht) (by show (if false = true then t D σ H else u D σ H); rw [if_neg Bool.false_ne_true]; exact hu)
theorem dec_int {a b : Int} : decide (V.int a = V.int b) = decide (a = b) := by
  by_cases h : a = b
  · subst h; simp
  · have h' : ¬ V.int a = V.int b := fun e => h (V.int.inj e)
    rw [decide_eq_false h, decide_eq_false h']
section
variable {P : Program} {w : World} {K : PySem.W.Frag} {mg : Str → Option Value} {base : Heap} {f fD : Addr} {fd fdD : FuncData}
theorem scDice : FnScope ["cell"] ["cell"] (defScope sDice) := ⟨rfl, rfl, rfl, by decide +kernel, rfl, by decide +kernel, by decide +kernel⟩
theorem ok_dice (F : FnP K "_law_dice" sDice f fd) (zAbs : mg "abs" = none) (zInt : mg "int" = none) : FnOk P w K mg base CX0 1 f fd ["cell"] spDice := by
  refine F.ok scDice (fun vs H Q E h => ?_) (fun cdv A outer s H vs Q E hr h => ?_)
  · obtain ⟨c, rfl, _⟩ := h
    rfl
  · obtain ⟨c, rfl, k⟩ := h
    refine ⟨_, pss_cons (ps_if (pt_chain op_lt op_lt (pe_op op_sub pe_int pe_int) (pv 0) pe_int)
      (pss_one (ps_ret (pe_lst (pa_cons (pe_callB call_abs (by rfl) zAbs (by decide +kernel) (pa_cons (pv 0) pa_nil)) (pa_cons pe_int (pa_cons pe_int pa_nil))))))
      pss_nil)
    (pss_one (ps_ret (pe_lst (pa_cons (pv 0) (pa_cons (pe_op op_add pe_int (pe_op op_mod (pe_callTy call_int1 (by rfl) zInt (by decide +kernel) (pa_cons (pv 0) pa_nil)) pe_int)) (pa_cons (pe_callTy call_int1 (by rfl) zInt (by decide +kernel) (pa_cons (pe_cmpR op_ge (pv 0) (pe_op op_pow pe_int pe_int) (nomark _)) pa_nil)) pa_nil)))))), ?_⟩
    have fin : ∀ (a b m : Int), ∀ p, H p = none → Q (.ref p) (upd H p (.lst [.int a, .int b, .int m])) := fun a b m p hp => k p _ hp (same_new hp) ⟨a, b, m, upd_same⟩
    refine ⟨0, 10, rfl, rfl, _, rfl, _, _, rfl, rfl, _, rfl, ?_⟩
    refine ite2 (fun _ => ?_) (fun _ => ?_)
    · refine ⟨_, _, rfl, rfl, _, rfl, ?_⟩
      refine ite2 (fun _ => ?_) (fun _ => ?_)
      · refine ⟨_, rfl, c, rfl, ?_⟩
        exact ⟨szS (by show 3 ≤ 100000; decide), fin _ _ _⟩
      · refine ⟨_, rfl, _, rfl, Or.inl ⟨c, rfl, c, 1009, rfl, rfl, (by show (0 : Int) < 1009; decide), _, _, rfl, rfl, ?_⟩⟩
        refine ⟨_, rfl, 10, 18, rfl, rfl, ⟨by decide, by decide, by decide⟩, _, _, rfl, rfl, Or.inr ⟨_, rfl, ?_⟩⟩
        exact ⟨szS (by show 3 ≤ 100000; decide), fin _ _ _⟩
    · refine ⟨_, rfl, ?_⟩
      refine iteF ?_
      refine ⟨_, rfl, _, rfl, Or.inl ⟨c, rfl, c, 1009, rfl, rfl, (by show (0 : Int) < 1009; decide), _, _, rfl, rfl, ?_⟩⟩
      refine ⟨_, rfl, 10, 18, rfl, rfl, ⟨by decide, by decide, by decide⟩, _, _, rfl, rfl, Or.inr ⟨_, rfl, ?_⟩⟩
      exact ⟨szS (by show 3 ≤ 100000; decide), fin _ _ _⟩
theorem scRoll : FnScope ["dice", "many", "found"] ["dice", "many"] (defScope sRoll) := ⟨rfl, rfl, rfl, by decide +kernel, rfl, by decide +kernel, by decide +kernel⟩
theorem ok_roll (F : FnP K "_law_roll" sRoll f fd) (zInt : mg "int" = none) : FnOk P w K mg base CX0 1 f fd ["dice", "many"] spRoll := by
  refine F.ok scRoll (fun vs H Q E h => ?_) (fun cdv A outer s H vs Q E hr h => ?_)
  · obtain ⟨c, n, rfl, _⟩ := h
    rfl
  · obtain ⟨d, n, rfl, ⟨a, b, m, hd⟩, hn, hn2, k⟩ := h
    refine ⟨_, pss_cons (ps_if (pw_or (pt_cmpR op_eq (pe_ix ix_list (pv 0) pe_int (fun _ _ => rfl)) pe_int (nomark _)) (pw_or1 (pw_and (pt_cmpR op_eq (pe_ix ix_list (pv 0) pe_int (fun _ _ => rfl)) pe_int (nomark _)) (pw_and1 (pt_cmpR op_gt (pe_ix ix_list (pv 0) pe_int (fun _ _ => rfl)) pe_int (nomark _)))).pt)).pt
      (pss_cons (ps_set (i := 2) scRoll.nd rfl (Or.inl rfl) (pe_op op_mod (pe_callTy call_int1 (by rfl) zInt (by decide +kernel) (pa_cons (pe_ix ix_list (pv 0) pe_int (fun _ _ => rfl)) pa_nil)) (pv 1)))
      (pss_cons (ps_asg (pe_op op_fdiv (pe_ix ix_list (pv 0) pe_int (fun _ _ => rfl)) (pv 1)) (pg_sub (pv 0) pe_int set_list))
      (pss_one (ps_ret (pv 2)))))
      pss_nil)
    (pss_cons (ps_asg pe_int (pg_sub (pv 0) pe_int set_list))
    (pss_cons (ps_asg (pe_op op_mod (pe_callTy call_int1 (by rfl) zInt (by decide +kernel) (pa_cons (pe_op op_add (pe_op op_add (pe_op op_mul (pe_ix ix_list (pv 0) pe_int (fun _ _ => rfl)) pe_int) (pe_op op_mul (pe_ix ix_list (pv 0) pe_int (fun _ _ => rfl)) pe_int)) pe_int) pa_nil)) pe_int) (pg_sub (pv 0) pe_int set_list))
    (pss_cons (ps_asg (pe_op op_add (pe_ix ix_list (pv 0) pe_int (fun _ _ => rfl)) pe_int) (pg_sub (pv 0) pe_int set_list))
    (pss_one (ps_ret (pe_op op_mod (pe_callTy call_int1 (by rfl) zInt (by decide +kernel) (pa_cons (pe_op op_add (pe_op op_fdiv (pe_ix ix_list (pv 0) pe_int (fun _ _ => rfl)) pe_int) (pe_ix ix_list (pv 0) pe_int (fun _ _ => rfl))) pa_nil)) (pv 1))))))), ?_⟩
    have hu := hu_of hr
    have fin : ∀ (a b m x : Int), Q (.int (x % n)) (upd H d (.lst [.int a, .int b, .int m])) := fun a b m x =>
      k _ _ (Int.emod_nonneg _ (by omega)) (Int.emod_lt_of_pos _ hn) (fun c o hc e => by rw [upd_ne hc]; exact e) ⟨a, b, m, upd_same⟩
    have at0 : ∀ (H' : Hp) (a b m : Int), H' d = some (.lst [.int a, .int b, .int m]) → SqL K H' d [.int a, .int b, .int m] := fun H' a b m e => Or.inl (Or.inl e)
    have ix : ∀ (H' : Hp) (a b m : Int) (i : Int) (Q' : VK) (x : V), H' d = some (.lst [.int a, .int b, .int m]) → atI [V.int a, .int b, .int m] i = some x → Q' x H' → rIxL K (.ref d) (.int i) H' Q' := fun H' a b m i Q' x e ea q =>
      ⟨d, _, i, x, rfl, rfl, Or.inl (Or.inl e), ea, q⟩
    refine if_any (fun Q' q1 q2 => ?_) ?_ ?_
    · refine ⟨_, rfl, d, _, _, _, rfl, rfl, at0 _ _ _ _ hd, rfl, rfl, _, rfl, ?_⟩
      refine ite2 (fun _ => q1) (fun _ => ?_)
      refine ⟨_, rfl, d, _, _, _, rfl, rfl, at0 _ _ _ _ hd, rfl, rfl, _, rfl, ?_⟩
      refine ite2 (fun _ => ?_) (fun _ => q2)
      refine ⟨_, rfl, d, _, _, _, rfl, rfl, at0 _ _ _ _ hd, rfl, _, _, rfl, rfl, _, rfl, ?_⟩
      exact anyb q1 q2 _
    · refine ⟨_, rfl, d, _, _, _, rfl, rfl, at0 _ _ _ _ hd, rfl, Or.inl ⟨_, rfl, _, rfl, _, _, rfl, rfl, hn, ?_⟩⟩
      refine ⟨_, rfl, d, _, _, _, rfl, rfl, at0 _ _ _ _ hd, rfl, _, rfl, _, _, rfl, rfl, ⟨hn, by omega⟩, ?_⟩
      refine ⟨_, rfl, d, _, 0, 0, rfl, rfl, hd, rfl, _, rfl, ?_⟩
      exact fin _ _ _ _
    · refine ⟨_, rfl, d, _, 2, 2, rfl, rfl, hd, rfl, ?_⟩
      have e1 : (upd H d (.lst [V.int a, .int b, .int 0])) d = some (.lst [V.int a, .int b, .int 0]) := upd_same
      refine ⟨_, rfl, d, _, _, _, rfl, rfl, at0 _ _ _ _ e1, rfl, _, _, rfl, rfl, Or.inr ⟨by decide, by decide⟩, ?_⟩
      refine ⟨_, rfl, d, _, _, _, rfl, rfl, at0 _ _ _ _ e1, rfl, _, _, rfl, rfl, Or.inr ⟨by decide, by decide⟩, ?_⟩
      refine ⟨_, _, rfl, rfl, _, _, rfl, rfl, Or.inl ⟨_, rfl, _, _, rfl, rfl, (by show (0 : Int) < 2147483647; decide), ?_⟩⟩
      refine ⟨_, rfl, d, _, 0, 0, rfl, rfl, e1, rfl, ?_⟩
      rw [upd_upd]
      have e2 : ∀ a b m : Int, (upd H d (.lst [V.int a, .int b, .int m])) d = some (.lst [V.int a, .int b, .int m]) := fun _ _ _ => upd_same
      refine ⟨_, rfl, d, _, _, _, rfl, rfl, at0 _ _ _ _ (e2 _ _ _), rfl, _, _, rfl, rfl, ?_⟩
      refine ⟨_, rfl, d, _, 1, 1, rfl, rfl, e2 _ _ _, rfl, ?_⟩
      rw [upd_upd]
      refine ⟨_, rfl, d, _, _, _, rfl, rfl, at0 _ _ _ _ (e2 _ _ _), rfl, _, _, rfl, rfl, ⟨by decide, by decide⟩, ?_⟩
      refine ⟨_, rfl, d, _, _, _, rfl, rfl, at0 _ _ _ _ (e2 _ _ _), rfl, _, _, rfl, rfl, Or.inl ⟨_, rfl, _, rfl, _, _, rfl, rfl, hn, ?_⟩⟩
      exact fin _ _ _ _
theorem scRounds : FnScope ["script", "most", "cells", "cell"] ["script", "most"] (defScope sRounds) := ⟨rfl, rfl, rfl, by decide +kernel, rfl, by decide +kernel, by decide +kernel⟩
theorem dpAll_ints {H : Hp} : ∀ {ns : List Int}, DpAll K H (ns.map V.int) (ns.map PyData.int)
  | [] => .nil
  | n :: r => .cons (.int n) (dpAll_ints (ns := r))
theorem canLay_map {α : Type} (f : α → PyData) (hf : ∀ a, PyData.canLay0 (f a) = true) : ∀ l : List α, PyData.canLayAll0 (l.map f) = true
  | [] => by rw [List.map_nil, PyData.canLayAll0]
  | a :: r => by rw [List.map_cons, PyData.canLayAll0, hf a, canLay_map f hf r]; rfl
theorem depth_map {α : Type} (f : α → PyData) (n : Nat) (hf : ∀ a, PyData.depth (f a) ≤ n) : ∀ l : List α, PyData.depthAll (l.map f) ≤ n
  | [] => by rw [List.map_nil, PyData.depthAll]; exact Nat.zero_le _
  | a :: r => by rw [List.map_cons, PyData.depthAll]; exact Nat.max_le.mpr ⟨hf a, depth_map f n hf r⟩
theorem shaped_list {α : Type} (f : α → PyData) (n : Nat) (hn : n ≤ 63) (h1 : ∀ a, PyData.canLay0 (f a) = true) (h2 : ∀ a, PyData.depth (f a) ≤ n) (l : List α) : SeqAt.shaped (.list (l.map f)) = true := by
  unfold SeqAt.shaped
  rw [PyData.canLay0, canLay_map f h1 l, PyData.depth]
  have := depth_map f n h2 l
  simp only [Bool.true_and, decide_eq_true_eq]
  omega
theorem shaped_ints (ns : List Int) : SeqAt.shaped (.list (ns.map PyData.int)) = true :=
  shaped_list PyData.int 0 (by decide) (fun a => by rw [PyData.canLay0]) (fun a => by rw [PyData.depth]; exact Nat.le_refl _) ns
theorem cut_ints (ns : List Int) (lo hi : Option Int) : ∃ ms : List Int, cutV (ns.map V.int) lo hi = ms.map V.int ∧ ms.length ≤ ns.length := by
  unfold cutV
  refine ⟨(ns.drop (HT.sIx (ns.map V.int).length 0 lo)).take (HT.sIx (ns.map V.int).length (ns.map V.int).length hi - HT.sIx (ns.map V.int).length 0 lo), ?_, ?_⟩
  · rw [List.map_take, List.map_drop]
  · rw [List.length_take, List.length_drop]
    omega
theorem ok_rounds (F : FnP K "_law_rounds" sRounds f fd) (FD : FnP K "_law_dice" sDice fD fdD) (mD : mg "_law_dice" = some (.ref fD)) (bD : Binds K fdD ["cell"] []) (GD : FnOk P w K mg base CX0 1 fD fdD ["cell"] spDice) :
    FnOk P w K mg base CX0 2 f fd ["script", "most"] (spRounds K) := by
  refine F.ok scRounds (fun vs H Q E h => ?_) (fun cdv A outer s H vs Q E hr h => ?_)
  · obtain ⟨a, ns, n, rfl, _⟩ := h
    rfl
  · obtain ⟨a, ns, n, rfl, hS, hl, hn1, hn2, k⟩ := h
    have hu := hu_of hr
    have hu64 : (A.deeper (envOfC "_law_rounds" (defScope sRounds) s.heap.objs.size f cdv)).units + 64 < cLine := hr.units
    refine ⟨_, pss_cons (ps_set (i := 2) scRounds.nd rfl (Or.inl rfl) (pe_slice sl_list (pv 0) po_none (po_some (pv 1))))
    (pss_cons (ps_if (pt_cmpR (op_eqD hu64) (pv 2) (pe_lst pa_nil) (nomark _))
      (pss_one (ps_set (i := 2) scRounds.nd rfl (Or.inl rfl) (pe_lst (pa_cons pe_int pa_nil))))
      pss_nil)
    (pss_one (ps_ret (pe_lc (own := [("cell", 3)]) (g := gName 3) (tt := tYes) rfl scRounds.nd (pi_list (pv 2)) (blkOk_by (N := ["script", "most", "cells", "cell"]) (sc := defScope sRounds) (by decide +kernel)) (fun _ _ _ _ _ => pg_name (i := 3) scRounds.nd rfl (Or.inl rfl)) (fun _ _ _ _ _ => pts_nil) (fun _ _ _ _ _ => pe_call GD hr rfl mD FD.kp bD .nil pass0 (pa_cons (pv 3) pa_nil)))))), ?_⟩
    refine ⟨_, rfl, _, rfl, _, rfl, a, _, rfl, hS, fun c hc => ?_⟩
    obtain ⟨ms, ec, hms⟩ := cut_ints ns none (some n)
    rw [ec]
    have after : ∀ (cs : List Int) (b : Addr) (H1 : Hp), cs.length ≤ 63 → Same H H1 → H1 b = some (.lst (cs.map V.int)) →
        tRet (tLc (iList K (tVar 2)) (gName 3) tYes (tCall spDice [] E0 (tCons (tVar 3) tNil)) [3]) { nx := fun _ H' => Q .non H', rt := Q } [some (.ref a), some (.int n), some (.ref b), none] H1 := fun cs b H1 hcs s1 hb => by
      refine ⟨_, rfl, b, rfl, ⟨_, Or.inl (Or.inl hb)⟩, fun D hD => ?_⟩
      refine lc_list (K := K) (a := b) (xs := cs.map V.int) (fun i H2 => ∃ ds : List Addr, ds.length = i ∧ Same H1 H2 ∧ H2 D = some (.lst (ds.map V.ref)) ∧ ∀ d ∈ ds, d ≠ D ∧ H1 d = none ∧ IsDice H2 d) ?_ ?_ ?_ ?_
      · exact ⟨[], rfl, same_new hD, upd_same, fun d hd => absurd hd (List.not_mem_nil)⟩
      · rintro i H2 _ ⟨ds, _, s2, _⟩
        exact Or.inl (Or.inl (s2 _ _ hb))
      · rintro i x H2 hx ⟨ds, rfl, s2, h2, hds⟩
        obtain ⟨z, rfl⟩ : ∃ z, x = V.int z := by
          rw [List.getElem?_map] at hx
          cases e : cs[ds.length]? with
          | none => rw [e] at hx; cases hx
          | some z => rw [e] at hx; exact ⟨z, (Option.some.inj hx).symm⟩
        have hlt : ds.length < cs.length := by
          have := (List.getElem?_eq_some_iff.mp hx).1
          rwa [List.length_map] at this
        refine ⟨rfl, ?_⟩
        refine ⟨_, rfl, z, rfl, fun p H3 hp s3 hdi => ?_⟩
        have npD : p ≠ D := fun e => by rw [e, h2] at hp; cases hp
        refine ⟨_, s3 _ _ h2, ?_, ds ++ [p], by simp, fun b' o e => ?_, ?_, fun d hd => ?_⟩
        · rw [List.length_map]
          exact small1000 (by omega)
        · rw [upd_ne (ne_of_none e hD)]
          exact s3 _ _ (s2 _ _ e)
        · rw [upd_same, List.map_append]
          rfl
        · rcases List.mem_append.mp hd with hd | hd
          · obtain ⟨n1, n2, a', b', m', n3⟩ := hds d hd
            exact ⟨n1, n2, a', b', m', by rw [upd_ne n1]; exact s3 _ _ n3⟩
          · obtain rfl := List.mem_singleton.mp hd
            obtain ⟨a', b', m', n3⟩ := hdi
            exact ⟨npD, s2.free hp, a', b', m', by rw [upd_ne npD]; exact n3⟩
      · rintro H2 ⟨ds, hl2, s2, h2, hds⟩
        rw [List.length_map] at hl2
        exact k D H2 ds (s1.free hD) (s1.trans s2) h2 (fun d hd => ⟨(hds d hd).1, s1.free (hds d hd).2.1, (hds d hd).2.2⟩) (by omega)
    refine ⟨_, rfl, szS (by decide), fun e he => ?_⟩
    have s1 : Same H (upd H c (.lst (ms.map V.int))) := same_new hc
    have nce : c ≠ e := fun q => by rw [← q, upd_same] at he; cases he
    have s2 : Same H (upd (upd H c (.lst (ms.map V.int))) e (.lst [])) := s1.trans (same_new he)
    have hc2 : (upd (upd H c (.lst (ms.map V.int))) e (.lst [])) c = some (.lst (ms.map V.int)) := by rw [upd_ne nce, upd_same]
    refine ⟨.list (ms.map PyData.int), .list [], .lst (Or.inl (Or.inl hc2)) dpAll_ints, .lst (Or.inl (Or.inl upd_same)) .nil, shaped_ints ms, by decide +kernel, _, rfl, ?_⟩
    cases ms with
    | nil =>
      refine iteT ?_
      refine ⟨szS (by show 1 ≤ 100000; decide), fun q hq => ?_⟩
      exact after [0] q _ (by decide) (s2.trans (same_new hq)) upd_same
    | cons y r =>
      refine iteF ?_
      exact after (y :: r) c _ (by omega) s2 hc2
end
end EH

set_option Elab.async false
set_option linter.all false
set_option maxRecDepth 100000
set_option maxHeartbeats 4000000
namespace PySem
namespace ExS
open PySem.W PySem.Calls PyProof.Rows PySem.HandSPX
/-! an own exception over own classes over ValueError: def __init__(self, f): super().__init__('msg'); self.f = f -/
def iA (f : Str) (p1 p2 : Pos) : Arguments := { posonlyargs := [], args := [{ arg := "self", annotation := none, pos := p1 }, { arg := f, annotation := none, pos := p2 }], vararg := none, kwonlyargs := [], kw_defaults := [], kwarg := none, defaults := [] }
def iB (msg f : Str) (j : Nat) (q : Nat → Pos) : List Stmt :=
  [.Expr (.Call (.Attribute (.Call (.Name "super" (q 1)) [] [] (q 2)) "__init__" (q 3)) [.Constant (.str msg) j (q 4)] [] (q 5)) (q 6),
   .Assign [.Attribute (.Name "self" (q 7)) f (q 8)] (.Name f (q 9)) (q 10)]
def iS (f : Str) : Scope := { kind := .function, names := [(PySem.Str.ofString "self", .local), (f, .local), (PySem.Str.ofString "__class__", .free), (PySem.Str.ofString "super", .globalImplicit)], isGenerator := false, isCoroutine := false, more := [] }
structure NmOk (f : Str) : Prop where
  l1 : (iS f).names.lookup ("super" : Str) = some .globalImplicit
  l2 : (iS f).names.lookup ("__class__" : Str) = some .free
  l3 : (iS f).names.lookup ("self" : Str) = some .local
  l4 : (iS f).names.lookup f = some .local
  nd : (f == ("__debug__" : Str)) = false
  ns : (f == ("self" : Str)) = false
  bnd : ∀ (n ql : Str) (p1 p2 : Pos) (b : List Stmt) (doc pm cd ct : Value) (an : Option Addr) (cc : Addr) (x v : Value), bindArgs (ksFn n ql (iA f p1 p2) b (iS f) .none .none doc pm an cd ct cc) ⟨[x, v], []⟩ = pure [(("self" : Str), x), (f, v)]
/-- what the written part says of the class nm, at C, of its __init__, at fI -/
structure ExTxt (prog : Program) (K : Frag) (mg : Str → Option Value) (nm f msg : Str) (C fI : Addr) : Prop where
  ok : NmOk f
  gC : mg nm = some (.ref C)
  cls : ∃ nm' q N bs bm sn sub ab col dd k0 k1 k2 k3 k5, K.lookup C = some (excClassObj nm' q C N bs bm true sn sub ab col dd k0 k1 k2 k3 k5 "ValueError.__new__") ∧ refsVE bm = true
  sa : findIn K (.ref C) "__setattr__" = some (some (.builtin "object.__setattr__"))
  ga : findIn K (.ref C) "__getattribute__" = some (some (.builtin "BaseException.__getattribute__"))
  gg : findIn K (.ref C) "__getattr__" = some none
  noN : findIn K (.ref C) f = some none
  iC : findIn K (.ref C) "__init__" = some (some (.ref fI))
  tC : typeIn K (.ref fI) = some (.type "function")
  kC : keepIn K (.ref C) = true
  exC : subIn K (.ref C) (.type "BaseException") = some true
  veC : subIn K (.ref C) (.type "ValueError") = some true
  tyC : typeIn K (.ref C) = some (.type "type")
  hdC : hasDictIn K C = true
  sup : nsIn K mainGlobals "super" = some none
  op : nsIn K cStatics "thirdparty.any" = some none
  meC : mroIn K C (.ref C) = some true
  supI : ks_superIn K C C "__init__" = some (some (.builtin "ValueError.__init__"))
  top : (prog.main.scope.names.lookup ("super" : Str)).isSome = false
  fn : ∃ (oc : Value) (od : Option Addr) (doc pm : Value) (an : Option Addr) (cda : Addr) (ct : Value) (osl : Array (Option Value)) (p1 p2 : Pos) (j : Nat) (q : Nat → Pos) (ql : Str) (cc : Addr), ((q 3).endLine == (q 5).line) = true ∧
    K.lookup fI = some ⟨oc, od, .func (ksFn "__init__" ql (iA f p1 p2) (iB msg f j q) (iS f) .none .none doc pm an (.ref cda) ct cc), osl⟩ ∧ codeIn K (.ref cda) ql = true ∧
    (∃ (c1 : Value) (d1 : Option Addr) (s1 : Array (Option Value)), K.lookup cc = some ⟨c1, d1, .cell (some (.ref C)), s1⟩) ∧
    (∃ (c2 : Value) (d2 : Option Addr) (vs : Array Value) (s2 : Array (Option Value)) (tf : Tok), K.lookup cda = some ⟨c2, d2, .fields vs, s2⟩ ∧ vs[2]? = some (.str prog.main.file tf))
theorem one_size (v : Value) : [v].length ≤ sizeLine := by
  rw [sizeLine_eq]
  exact (by decide : 1 ≤ 16777216)
/-- what __init__ leaves of a fresh exception at x -/
structure InitEnd (f : Str) (h h' : Heap) (x C dx : Addr) (v : Value) : Prop where
  keep : ∀ b o, b ≠ x → h.get? b = some o → h'.get? b = some o
  obj : ∃ t1 : Addr, h'.get? x = some { cls := .ref C, dict := some dx, data := .fields #[.ref t1, .none, .none, .none, .bool false, .none] }
  dbig : h.objs.size ≤ dx
  dne : dx ≠ x
  ns : h'.Ns1 dx (fun y => if y = f then some v else none)
/-- a made exception -/
structure OwnMade (f : Str) (h h' : Heap) (e C d : Addr) (v : Value) : Prop where
  keep : ∀ b o, h.get? b = some o → h'.get? b = some o
  new : h.objs.size ≤ e
  obj : ∃ oe vs, h'.get? e = some oe ∧ oe.cls = .ref C ∧ oe.dict = some d ∧ oe.data = .fields vs ∧ vs[1]? = some .none
  dbig : h.objs.size ≤ d
  dne : d ≠ e
  ns : h'.Ns1 d (fun y => if y = f then some v else none)
section
variable {M : Model} {A : Around} {E : Value → Shared → Prop} {s : Shared} {i : String} {u x : Addr}
theorem callWith_1 {pos : Pos} {env : Env} {e : Expr} {Q : Value → Shared → Prop}
    (h : wpAny M A (spliced (backTo pos (starEach [e] env))) (fun vs s₁ => KxsAt i u x s₁.heap ∧ wpAny M A (call (.ref u) vs) Q E s₁) E s)
    (he : starEach [e] env = (false, eval e env) :: starEach [] env := by rfl) (hplain : (backTo pos (starEach [] env)).any (·.1) = false := by rfl) :
    wpAny M A (callWith pos (.ref u) [] (backTo pos (starEach [e] env)) []) Q E s := by
  rw [he] at h ⊢
  refine kxs_callWith (i := i) (x := x) (by show (false || (backTo pos (starEach [] env)).any (·.1)) = false; rw [hplain]; rfl) ?_
  exact evalArgs_plain h
end
section
variable {prog : Program} {w : World} {A : Around} {E : Value → Shared → Prop} {h : Heap} {g : Array GenState} {d : Drawn} {t : Nat} {os : OsState}
variable {nm q : Str} {C N : Addr} {bs bm : List Value} {hdct : Bool} {sn : List Str} {sub : List Value} {ab : Bool} {col : Option Bool} {dd : Option Addr} {k0 k1 k2 k3 k5 : Option Value}
theorem call_mw {u e t0 : Addr} {rest : List Value} {Q : Value → Shared → Prop}
    (hC : h.get? C = some (excClassObj nm q C N bs bm hdct sn sub ab col dd k0 k1 k2 k3 k5 "ValueError.__new__")) (he : h.get? e = some (excO C t0)) (hu : h.get? u = some (kxs_mw "ValueError.__init__" e)) (hrest : rest.length ≤ sizeLine)
    (hq : ∀ h' t1, (∀ b o, b ≠ e → h.get? b = some o → h'.get? b = some o) → h'.get? e = some (excO C t1) → Q .none ⟨h', g, d, t, os⟩) :
    wpAny (model prog w) A (call (.ref u) rest) Q E ⟨h, g, d, t, os⟩ := by
  refine wpAny_call (codeAny_of_tree ?_)
  show wpAny _ A.in1 (callAny (.ref u) ⟨rest, []⟩) _ _ _
  simp only [callAny]
  refine wpAny_bind (wpAny_load hu ?_)
  simp only [kxs_mw, show (Value.type "method-wrapper" == Value.type "method" || Value.type "method-wrapper" == Value.type "builtin_function_or_method" || Value.type "method-wrapper" == Value.type "method-wrapper") = true by decide, if_true]
  refine KFB.if_so (by decide) ?_
  refine wpAny_bind (ESX.check_bound F.excBase_ValueError hC he rfl ?_)
  refine wpAny_bind (wpAny_pure (wpAny_pure ?_))
  refine ⟨Code.quiet_builtin _ (by decide +kernel), codeAny_builtin F.excBase_ValueError.initEntry ?_⟩
  rw [Around.under_plainId F.excBase_ValueError.init.plain _]
  wp_walk
  refine hq _ h.objs.size (fun b o hb ho => ?_) ?_
  · rw [Heap.get?_update_other _ _ (Ne.symm hb)]
    exact Heap.get?_push_of_some _ ho
  · rw [Heap.get?_update_self _ (Heap.get?_push_of_some _ he) rfl]
    rfl
end
section
variable {prog : Program} {w : World} {A : Around} {E : Value → Shared → Prop} {R : Result → Shared → Prop} {s : Shared} {K : Frag} {mg mb : Str → Option Value} {nm f msg : Str} {C fI : Addr}
theorem ev_line {o : Expr} {m : Str} {apos pos : Pos} {env : Env} {e : Expr} (hl : (apos.endLine == pos.line) = true) (he : starEach [e] env = (false, eval e env) :: starEach [] env := by rfl) :
    eval (.Call (.Attribute o m apos) [e] [] pos) env = (do
      let ov ← attributeBase o m env (eval o env)
      standAt apos.atName
      let (f, first) ← holding [ov] (getMethod ov m (L2.plainOf o env))
      callWith pos f first (backTo pos (starEach [e] env)) []) := by
  show (do
      let ov ← attributeBase o m env (eval o env)
      standAt apos.atName
      methodCall o m apos pos env ov 1 (backTo pos (starEach [e] env)) []) = _
  have hf : methodCallForm 1 (backTo pos (starEach [e] env)) [] = true := by rw [he]; rfl
  simp only [L2.mcall_line hf hl]
theorem ex_init (T : ExTxt prog K mg nm f msg C fI) {x t0 : Addr} {v : Value} (X : K.In s.heap) (hG : s.heap.Ns mainGlobals mg) (hB : s.heap.Ns builtinsNs mb) (hb : ∀ y : Str, y ≠ "__name__" → mb y = bootBuiltins y) (hlim : s.heap.NoLimit) (hx : s.heap.get? x = some (excO C t0)) (hKx : K.lookup x = none) (hxC : x ≠ C) (hroom : A.depth < recursionLimit)
    (hq : ∀ h' tk dx, InitEnd f s.heap h' x C dx v → R (.ok (.ret .none)) { s with heap := h', toks := tk }) :
    codeAny (model prog w) A (.call (.ref fI) ⟨[.ref x, v], []⟩) R s := by
  obtain ⟨oc, od, doc, pm, an, cda, ct, osl, p1, p2, j, q, ql, cc, hline, ho, hcd, ⟨c1, d1, s1, hcell⟩, c2, d2, vs, s2, tf, hcode, hvs⟩ := T.fn
  obtain ⟨nm', q', N, bs, bm, sn, sub, ab, col, dd, k0, k1, k2, k3, k5, hC, hbm⟩ := T.cls
  have hcl : clsIn K C = some { name := nm', bases := bs, mro := .ref C :: bm, ns := N, qualname := q', hasDict := true, slotNames := sn, subclasses := sub, abstract := ab, collection := col, hasDel := false } := by unfold clsIn; rw [hC] <;> rfl
  have hm := T.supI
  unfold ks_superIn at hm
  rw [hcl] at hm
  have l1 := T.ok.l1
  have l2 := T.ok.l2
  have l3 := T.ok.l3
  have l4 := T.ok.l4
  have fs : ¬ (f = ("self" : Str)) := by simpa using T.ok.ns
  have sf : ¬ (("self" : Str) = f) := fun e => fs e.symm
  have hbind : bindArgs (ksFn "__init__" ql (iA f p1 p2) (iB msg f j q) (iS f) .none .none doc pm an (.ref cda) ct cc) ⟨[.ref x, v], []⟩ = pure [(("self" : Str), .ref x), (f, v)] := by
    exact T.ok.bnd _ _ _ _ _ _ _ _ _ _ _ _ _
  refine ks_codeAny_call_defAt (fd := ksFn "__init__" ql (iA f p1 p2) (iB msg f j q) (iS f) .none .none doc pm an (.ref cda) ct cc) (body := iB msg f j q) (binds := [(("self" : Str), .ref x), (f, v)]) hroom (X _ _ ho) rfl hlim (codeRec_of X hcd) rfl (BindsTo.of_eq hbind) ?hcell ?hloc (fun h₁ hns k => ?_)
  case hcell =>
    intro y hy
    simp only [iS, List.mem_cons, List.not_mem_nil, or_false] at hy
    rcases hy with rfl | rfl | rfl | rfl <;> exact fun e => nomatch e
  case hloc =>
    intro y hy
    simp only [List.mem_cons, List.not_mem_nil, or_false] at hy
    rcases hy with rfl | rfl
    · exact l3
    · exact l4
  obtain ⟨hp, g, dr, tk, os⟩ := s
  have X₁ : K.In h₁ := X.keeps k
  have hx₁ := k _ _ hx
  have hvx : ∀ z : Addr, (fun y => List.lookup y [((f : Str), v), ("self", (.ref x : Value))]) "self" = some (.ref x) := fun _ => by
    show List.lookup ("self" : Str) [((f : Str), v), ("self", (.ref x : Value))] = some (.ref x)
    simp [List.lookup, beq_eq_false_iff_ne.mpr sf]
  have hvf : (fun y => List.lookup y [((f : Str), v), ("self", (.ref x : Value))]) f = some v := by
    show List.lookup f [((f : Str), v), ("self", (.ref x : Value))] = some v
    simp [List.lookup]
  refine ks_wpAt_execs_cons (ks_wpAt_Expr_any (ks_wpAt_MethodCall ?_ (ev_line hline))) 
  refine ks_wpAt_super_base (f := fI) (cc := cda) l1 l2 rfl rfl (X₁ _ _ ho) rfl rfl rfl (X₁ _ _ hcode) rfl hvs (by simp) T.top ?_
  refine ks_loadName_global rfl l1 (loadGlobal_builtin (hG.keeps k) (mg_none_of X hG T.sup) (hB.keeps k) ((hb "super" (by decide +kernel)).trans (by first | rfl | kernel_rfl)) ⟨rfl, ?_⟩)
  refine wpAny_loadName_free rfl l2 rfl ⟨_, X₁ _ _ hcell, rfl⟩ ?_
  refine wpAny_loadName_local rfl l3 hns (hvx 0) ?_
  refine ks_wpAny_isType_cls (X₁ _ _ hC) rfl ⟨rfl, ?_⟩
  refine ks_wpAny_call_super (X₁ _ _ hC) rfl hx₁ rfl (fun c e => nomatch e) (looks_mroIn X₁ T.meC) (fun h₂ e₂ k₂ => ?_)
  have X₂ : K.In h₂ := X₁.keeps k₂
  have hx₂ := k₂ _ _ hx₁
  have hI : Looks (model prog w) h₂ (isInstance (.ref x) (.type "ValueError")) true :=
    (InstAt.type (M := model prog w) (h := h₂) (x := x) (ox := excO C t0) (C := C) (od := none) ⟨hx₂, rfl, rfl, trivial⟩).andThen (looks_subIn X₂ T.veC)
  refine kxs_getMethod kxs_ValueError e₂ (looks_opaque X₂ T.op) (l₀ := .ref C :: bm) ?_ rfl X₂ hm hI hxC rfl ?_
  · exact fun A Q E s k q => wpAny_bind ((looks_clsIn X₂ hcl) A _ E s k (wpAny_pure q))
  have k₃ : ∀ b o, h₂.get? b = some o → (h₂.push (kxs_mw "ValueError.__init__" x)).get? b = some o := fun b o e => Heap.get?_push_of_some _ e
  have hu : (h₂.push (kxs_mw "ValueError.__init__" x)).get? h₂.objs.size = some (kxs_mw "ValueError.__init__" x) := Heap.get?_push_at rfl rfl
  refine callWith_1 (i := "ValueError.__init__") (x := x) ?_
  refine spliced_more (Calls.Constant_str ?_)
  refine spliced_none ?_
  refine ⟨hu, ?_⟩
  refine call_mw (k₃ _ _ (X₂ _ _ hC)) (k₃ _ _ hx₂) hu (one_size _) (fun h₄ t1 k₄ hx₄ => ?_)
  have ka : ∀ b o, b ≠ x → hp.get? b = some o → h₄.get? b = some o := fun b o hb e => k₄ b o hb (k₃ b o (k₂ b o (k b o e)))
  have X₄ : K.In h₄ := fun a o e => ka a o (fun z => by rw [z, hKx] at e; cases e) (X a o e)
  have hns₄ : h₄.Ns hp.objs.size (fun y => List.lookup y [((f : Str), v), ("self", (.ref x : Value))]) := by
    obtain ⟨o, es, ep, hL, r⟩ := hns
    exact ⟨o, es, ep, k₄ _ _ (Nat.ne_of_gt (Heap.lt_size hx)) (k₃ _ _ (k₂ _ _ hL)), r⟩
  refine wpAt_of_wpAny ?_
  refine wpAny_execs_cons (plainObj_wpAny_Assign_Attribute ?_)
  refine wpAny_Name (wpAny_loadName_local rfl l4 hns₄ hvf ?_) T.ok.nd
  refine wpAny_Name (wpAny_loadName_local rfl l3 hns₄ (hvx 0) ?_) rfl
  refine set_plain X₄ (ox := excO C t1) (od := none) ⟨hx₄, rfl, rfl, trivial⟩ T.sa ?_
  refine exc_osa X₄ hx₄ hcl (show refsVE (.ref C :: bm) = true from hbm) rfl T.noN (fun h₅ tk₅ dx k₅ dn dne hx₅ hn₅ => ?_)
  refine wpAny_execs_nil (hq h₅ tk₅ dx ⟨fun b o hb e => k₅ b o hb (ka b o hb e), ⟨t1, hx₅⟩, Nat.le_of_lt (Nat.lt_of_lt_of_le hns₄.lt dn), dne, hn₅⟩)
theorem ex_made (T : ExTxt prog K mg nm f msg C fI) {v : Value} (X : K.In s.heap) (hG : s.heap.Ns mainGlobals mg) (hB : s.heap.Ns builtinsNs mb) (hb : ∀ y : Str, y ≠ "__name__" → mb y = bootBuiltins y) (hlim : s.heap.NoLimit) (hroom : A.depth + 1 < recursionLimit)
    (hq : ∀ h' tk e d, OwnMade f s.heap h' e C d v → R (.ok (.ret (.ref e))) { s with heap := h', toks := tk }) :
    codeAny (model prog w) A (.call (.ref C) ⟨[v], []⟩) R s := by
  obtain ⟨nm', q, N, bs, bm, sn, sub, ab, col, dd, k0, k1, k2, k3, k5, hC, hbm⟩ := T.cls
  obtain ⟨hp, g, dr, tk, os⟩ := s
  have k : ∀ b o, hp.get? b = some o → ((hp.push (kdv_tup [v])).push (excO C hp.objs.size)).get? b = some o := fun b o e => Heap.get?_push_of_some _ (Heap.get?_push_of_some _ e)
  have hget : ((hp.push (kdv_tup [v])).push (excO C hp.objs.size)).get? (hp.objs.size + 1) = some (excO C hp.objs.size) := by heap_get
  have hnx : K.lookup (hp.objs.size + 1) = none := by
    cases e : K.lookup (hp.objs.size + 1) with
    | none => rfl
    | some o =>
      have z : hp.get? (hp.objs.size + 1) = some o := X _ _ e
      exact absurd (Nat.lt_of_succ_lt (Heap.lt_size z)) (Nat.lt_irrefl _)
  have hxC : hp.objs.size + 1 ≠ C := fun z => by
    rw [← z, hnx] at hC
    cases hC
  refine call_own F.excBase_ValueError (fun X => refsVE_contains X bm hbm) (X _ _ hC) (looks_findIn X T.iC) (fun self => bind_fn X self T.tC) (one_size v) ?_
  refine ex_init (s := ⟨(hp.push (kdv_tup [v])).push (excO C hp.objs.size), g, dr, tk, os⟩) T (X.keeps k) (hG.keeps k) (hB.keeps k) hb (hlim.keeps k) hget hnx hxC ?_ fun h' tk' dx ⟨k', ⟨t1, hx⟩, dn, dne, hns⟩ => ?_
  · show A.depth + 1 < recursionLimit
    exact hroom
  · have old : ∀ b o, hp.get? b = some o → h'.get? b = some o := fun b o e => k' b o (Nat.ne_of_lt (Nat.lt_succ_of_lt (Heap.lt_size e))) (k b o e)
    have z : hp.objs.size + 1 + 1 ≤ dx := by
      first
        | (simpa only [Heap.size_push] using dn)
        | exact dn
        | (have q := dn; rw [Heap.size_push, Heap.size_push] at q; exact q)
    exact ⟨rfl, hq h' tk' (hp.objs.size + 1) dx ⟨old, Nat.le_succ _, ⟨_, _, hx, rfl, rfl, rfl, rfl⟩, Nat.le_trans (Nat.le_trans (Nat.le_succ _) (Nat.le_succ _)) z, dne, hns⟩⟩
end
end ExS
end PySem
namespace L2
open PySem PySem.Spec PyProof.Rows
theorem relO_one {f : Str} {v : V} {v' : Value} (r : RelV v v') (y : Str) : RelO (List.lookup y [(f, v)]) (if y = f then some v' else none) := by
  by_cases hw : y = f
  · subst hw
    rw [if_pos rfl]
    have q : List.lookup y [(y, v)] = some v := by simp [List.lookup]
    rw [q]
    exact r
  · rw [if_neg hw]
    have qw : (y == f) = false := by simpa using hw
    have q2 : List.lookup y [(f, v)] = none := by simp [List.lookup, qw]
    rw [q2]
    trivial
section
variable {X : Cx} {nm f msg : Str} {C fI : Addr}
/-- nm(e) -/
def tMkEx (C : Addr) (f : Str) (ta : TA) : L2.St → Hp → XK → Prop := fun σ H Q => ta σ H fun vs H1 => ∃ v, vs = [v] ∧ ∀ d, H1 d = none → Q (.ref C) (some d) (upd H1 d (.xd [(f, v)]))
theorem pmk_ex {a : Expr} {ta : TA} {p pos : Pos} {k : Nat} (T : PySem.ExS.ExTxt X.prog X.K X.mg nm f msg C fI) (hr : Room k X.A) (ha : PA X [a] ta) (hg : Gl X nm := by rfl) (hnd : (nm == ("__debug__" : Str)) = false := by decide)
    (he : starEach (a :: []) X.env = (false, eval a X.env) :: starEach [] X.env := by rfl) (hpl : (backTo pos (starEach [] X.env)).any (·.1) = false := by rfl) :
    PMk X (.Call (.Name nm p) [a] [] pos) (tMkEx C f ta) := by
  intro pins s σ H Q I h
  refine wpAny_Call_Name_kw (ld_glob I hg T.gC ?_ hnd)
  refine PySem.W.callWith_K (h₀ := X.base) I.ok.mod.kin T.kC (thn (ha.run pos pins s σ H _ I h) fun us s1 hh => ?_) he hpl
  obtain ⟨vs, H1, I1, r1, v, ev, q1⟩ := hh
  subst ev
  refine ⟨I1.kIn, ?_⟩
  cases r1 with
  | cons rv rn =>
    rename_i v' us'
    cases rn
    show wpAny _ _ (call (.ref C) [v']) _ _ _
    have hlim := I1.nolimit
    have hG := I1.mod.glob.keeps I1.bk
    obtain ⟨mb, hB, hb⟩ := I1.mod.blt
    have hB' := hB.keeps I1.bk
    obtain ⟨hp, g, dr, tk, os⟩ := s1
    refine wpAny_call (PySem.ExS.ex_made T I1.kIn hG hB' hb hlim (by have := hr.dp; omega) fun h' tk' e d M => ?_)
    show MkP X pins σ Q (.ref e) ⟨h', g, dr, tk', os⟩
    obtain ⟨oe, fv, hoe, hc, hd, hdat, h1⟩ := M.obj
    have hns := M.ns
    obtain ⟨G', g1, g2⟩ := restrict h' fun b => decide (b ≠ e)
    have gk : ∀ b, b ≠ e → G'.get? b = h'.get? b := fun b hb => g1 b (decide_eq_true hb)
    have ge : G'.get? e = none := g2 e (by simp)
    have old : ∀ b o, hp.get? b = some o → G'.get? b = some o := fun b o q => (gk b (Nat.ne_of_lt (Nat.lt_of_lt_of_le (Heap.lt_size q) M.new))).trans (M.keep b o q)
    have ob : ObjOk X.prog X.w (upd H1 d (.xd [(f, v)])) G' d (.xd [(f, v)]) :=
      ⟨_, hns.at (fun o q => (gk d M.dne).trans q), fun y => relO_one rv y⟩
    have J : Inv X pins σ (upd H1 d (.xd [(f, v)])) ⟨G', g, dr, tk', os⟩ := I1.laid (t' := tk') old M.dbig ob
    refine ⟨e, oe, fv, ⟨G', g, dr, tk', os⟩, _, .ref C, some d, rfl, J, fun b o q => ?_, ge, hoe, ⟨hc, hd⟩, hdat, h1, ?_, rfl, I1.bare, raises_own T.exC T.tyC, q1 d (I1.hok.fresh M.dbig)⟩
    · by_cases hb : b = e
      · have q' : G'.get? b = some o := q
        rw [hb, ge] at q'; cases q'
      · exact (gk b hb).symm.trans q
    · rw [upd_ne (Ne.symm M.dne)]
      exact I1.hok.fresh M.new
end
end L2

set_option Elab.async false
set_option linter.all false
set_option maxRecDepth 100000
set_option maxHeartbeats 4000000
namespace EH
open PySem PySem.Spec PyProof.Rows L2
abbrev sCut : Stmt := top 10
abbrev sTextAt : Stmt := top 11
abbrev sQuoted : Stmt := top 12
abbrev sPlace : Stmt := top 17
abbrev sLaw : Stmt := top 18
/-! ### texts by their codes -/
def S (l : List Nat) : Str := ⟨l.toArray⟩
theorem S_len (l : List Nat) : (S l).length = l.length := by show l.toArray.size = _; simp
theorem S_tl (l : List Nat) : (S l).cps.toList = l := by show l.toArray.toList = l; simp
theorem S_app (a b : List Nat) : S a ++ S b = S (a ++ b) := by
  show (⟨a.toArray ++ b.toArray⟩ : Str) = ⟨(a ++ b).toArray⟩
  rw [List.append_toArray]
theorem S_inj {a b : List Nat} (h : S a = S b) : a = b := by
  have := congrArg (fun z : Str => z.cps.toList) h
  simpa [S_tl] using this
theorem S_one (c : Nat) : S [c] = ⟨#[c]⟩ := rfl
theorem ip_addS {X : Cx} : PIp X .Add (fun x y H Q => ∃ i j, x = .str i ∧ y = .str j ∧ i.length + j.length ≤ sizeLine ∧ Q (.str (i ++ j)) H) := fun pins s σ H x y v u Q I r1 r2 h => iop_add_str pins s σ H x y v u Q I r1 r2 h
theorem dec_strS {a b : List Nat} : decide (V.str (S a) = V.str (S b)) = decide (a = b) := by
  by_cases h : a = b
  · subst h; simp
  · have h' : ¬ V.str (S a) = V.str (S b) := fun e => h (S_inj (V.str.inj e))
    rw [decide_eq_false h, decide_eq_false h']
/-! ### quoted -/
def esc (c : Nat) : List Nat := if c = 10 then [92, 110] else if c = 34 then [92, 34] else if c = 92 then [92, 92] else [c]
def escTab : List (Key × V) := [(.inr (S [10]), .str (S [92, 110])), (.inr (S [34]), .str (S [92, 34])), (.inr (S [92]), .str (S [92, 92]))]
theorem S_eq (a b : List Nat) : (S a = S b) ↔ (a = b) := ⟨S_inj, fun e => by rw [e]⟩
theorem esc_get (c : Nat) : (valV escTab (.inr (S [c]) : Key)).getD (.str (S [c])) = .str (S (esc c)) := by
  unfold escTab esc valV
  by_cases h1 : c = 10
  · subst h1; simp [S_eq, List.find?]
  · by_cases h2 : c = 34
    · subst h2; simp [S_eq, List.find?]
    · by_cases h3 : c = 92
      · subst h3; simp [S_eq, List.find?]
      · have e1 : ¬ 10 = c := fun e => h1 e.symm
        have e2 : ¬ 34 = c := fun e => h2 e.symm
        have e3 : ¬ 92 = c := fun e => h3 e.symm
        simp [S_eq, List.find?, h1, h2, h3, e1, e2, e3]
theorem take_succ {l : List Nat} {i c : Nat} (h : l[i]? = some c) : l.take (i + 1) = l.take i ++ [c] := by
  rw [List.take_add_one, h]
  rfl
def spQuoted : Sp := fun vs H Q _ => ∃ l : List Nat, vs = [.str (S l)] ∧ l.length ≤ 100 ∧ ∀ H', Same H H' → Q (.str (S ([34] ++ l.flatMap esc ++ [34]))) H'
section
variable {P : Program} {w : World} {K : PySem.W.Frag} {mg : Str → Option Value} {base : Heap} {f : Addr} {fd : FuncData}
theorem scQuoted : FnScope ["what", "found", "sign"] ["what"] (defScope sQuoted) := ⟨rfl, rfl, rfl, by decide +kernel, rfl, by decide +kernel, by decide +kernel⟩
theorem esc_len (c : Nat) : (esc c).length ≤ 2 := by
  unfold esc
  split
  · decide
  · split
    · decide
    · split <;> simp
theorem fm_len : ∀ l : List Nat, (l.flatMap esc).length ≤ 2 * l.length
  | [] => by simp
  | c :: r => by
    have := esc_len c
    have := fm_len r
    rw [List.flatMap_cons, List.length_append, List.length_cons]
    omega
theorem ok_quoted (F : FnP K "quoted" sQuoted f fd) : FnOk P w K mg base CX0 1 f fd ["what"] spQuoted := by
  refine F.ok scQuoted (fun vs H Q E h => ?_) (fun cdv A outer s H vs Q E hr h => ?_)
  · obtain ⟨l, rfl, _⟩ := h
    rfl
  · obtain ⟨l, rfl, hl, k⟩ := h
    have hu := hu_of hr
    refine ⟨_, PSs.nox (pss_cons (ps_set (i := 1) scQuoted.nd rfl (Or.inl rfl) pe_str)
    (pss_cons (ps_for PassesOwn.never rfl (pi_str (pv 0)) (pg_name (i := 2) scQuoted.nd rfl (Or.inl rfl))
      (pss_one (ps_aug (i := 1) scQuoted.nd rfl (Or.inl rfl) (pe_dget2 hu (pe_disp (pps_cons pe_str pe_str (pps_cons pe_str pe_str (pps_cons pe_str pe_str pps_nil))) rfl rfl (by simp) (by simp)) (pv 2) (pv 2) ⟨rfl, rfl, rfl, rfl⟩) ip_addS)))
    (pss_one (ps_ret (pe_op op_add_str (pv 1) pe_str))))), ?_⟩
    refine ⟨_, rfl, S l, rfl, ?_⟩
    refine ⟨fun i m σ H2 => m = l.length - i ∧ i ≤ l.length ∧ ∃ v : Option V, σ = [some (.str (S l)), some (.str (S ([34] ++ (l.take i).flatMap esc))), v] ∧ Same H H2, ⟨_, rfl, Nat.zero_le _, none, rfl, Same.refl H⟩, ?_⟩
    rintro i m σ H2 ⟨rfl, hi, v, rfl, s2⟩
    by_cases hlt : i < l.length
    · refine Or.inr ⟨by show i < (S l).cps.size; show i < l.toArray.size; simpa using hlt, fun σ' H' => ∃ v : Option V, σ' = [some (.str (S l)), some (.str (S ([34] ++ (l.take (i + 1)).flatMap esc))), v] ∧ Same H H', fun σ' H' ⟨v', e', s'⟩ => ⟨l.length - (i + 1), by omega, rfl, hlt, v', e', s'⟩, ?_⟩
      rintro x H' ⟨rfl, c, hc, rfl⟩
      have hc' : l[i]? = some c := by simpa [S] using hc
      refine ⟨_, rfl, fun p hp => ?_⟩
      refine ⟨upd_same, [(.inr (S [10]), .str (S [92, 110])), (.inr (S [34]), .str (S [92, 34])), (.inr (S [92]), .str (S [92, 92]))], ?_, by decide, ?_⟩
      · kernel_rfl
      · rw [upd_upd]
        refine ⟨p, rfl, Or.inl ⟨_, Rd.of upd_same⟩, _, rfl, _, rfl, _, DGet.k (k := Sum.inr (S [c])) upd_same, ?_⟩
        have em : mergeK ([] : List (Key × V)) [(.inr (S [10]), .str (S [92, 110])), (.inr (S [34]), .str (S [92, 34])), (.inr (S [92]), .str (S [92, 92]))] = escTab := by kernel_rfl
        rw [em]
        show ∃ i_1 j, _
        refine ⟨_, _, rfl, esc_get c, ?_, ?_⟩
        · have h1 := fm_len (l.take i)
          have h2 : (l.take i).length ≤ l.length := by rw [List.length_take]; omega
          have h3 := esc_len c
          rw [S_len, S_len, List.length_append]
          exact szS (by simp only [List.length_cons, List.length_nil]; omega)
        · rw [S_app]
          refine ⟨some (.str (S [c])), ?_, s2.trans (same_new hp)⟩
          rw [take_succ hc', List.flatMap_append, ← List.append_assoc]
          simp [List.set, S_one]
    · refine Or.inl ⟨by show (S l).cps.size ≤ i; show l.toArray.size ≤ i; simp; omega, ?_⟩
      refine ⟨_, rfl, _, _, rfl, rfl, ?_, ?_⟩
      · have h1 := fm_len (l.take i)
        have h2 : (l.take i).length ≤ l.length := by rw [List.length_take]; omega
        have e34 : (("\"" : Str)) = S [34] := by kernel_rfl
        rw [e34, S_len, S_len, List.length_append]
        exact szS (by simp only [List.length_cons, List.length_nil]; omega)
      · have e : l.take i = l := List.take_of_length_le (by omega)
        have e34 : (("\"" : Str)) = S [34] := by kernel_rfl
        rw [e, e34, S_app]
        exact k H2 s2
end
end EH

set_option Elab.async false
set_option linter.all false
set_option maxRecDepth 100000
set_option maxHeartbeats 4000000
namespace EH
open PySem PySem.Spec PyProof.Rows L2
/-! ### small helpers -/
theorem ite_nelit {c d : Nat} {z : Str} {A B : Prop} (e : z = S [d]) (h1 : c ≠ d → A) (h2 : c = d → B) : if (!decide (V.str ⟨#[c]⟩ = V.str z)) = true then A else B := by
  subst e
  rw [← S_one, dec_strS]
  by_cases h : c = d
  · subst h; simpa using h2 rfl
  · simpa [h] using h1 h
theorem ite_eqlit {c d : Nat} {z : Str} {A B : Prop} (e : z = S [d]) (h1 : c = d → A) (h2 : c ≠ d → B) : if decide (V.str ⟨#[c]⟩ = V.str z) = true then A else B := by
  subst e
  rw [← S_one, dec_strS]
  by_cases h : c = d
  · subst h; simpa using h1 rfl
  · simpa [h] using h2 h
theorem ite_inlit {c : Nat} {l : List Nat} {z : Str} {A B : Prop} (e : z = S l) (h1 : c ∈ l → A) (h2 : c ∉ l → B) : if decide (c ∈ z.cps.toList) = true then A else B := by
  subst e
  rw [S_tl]
  by_cases h : c ∈ l
  · simpa [h] using h1 h
  · simpa [h] using h2 h
theorem ite_ninlit {c : Nat} {l : List Nat} {z : Str} {A B : Prop} (e : z = S l) (h1 : c ∉ l → A) (h2 : c ∈ l → B) : if (!decide (c ∈ z.cps.toList)) = true then A else B := by
  subst e
  rw [S_tl]
  by_cases h : c ∈ l
  · simpa [h] using h2 h
  · simpa [h] using h1 h
theorem atS {t : List Nat} {k c : Nat} (h : t[k]? = some c) : atI (S t).cps.toList (k : Int) = some c := by
  rw [S_tl]
  exact atI_nat h
theorem lenS {t : List Nat} (h : t.length ≤ 100000) : (S t).length ≤ sizeLine := by rw [S_len]; exact szS h
theorem drop_cons {t : List Nat} {k c : Nat} (h : t[k]? = some c) : t.drop k = c :: t.drop (k + 1) := by
  obtain ⟨hk, e⟩ := List.getElem?_eq_some_iff.mp h
  rw [List.drop_eq_getElem_cons hk, e]
theorem drop_nil {t : List Nat} {k : Nat} (h : t.length ≤ k) : t.drop k = [] := List.drop_eq_nil_of_le h
/-- the tables of signs -/
def prL : List Nat := [10, 32, 33, 34, 35, 36, 38, 39, 40, 41, 42, 43, 44, 45, 46, 47, 48, 49, 50, 51, 52, 53, 54, 55, 56, 57, 58, 59, 60, 61, 62, 63, 64, 65, 66, 67, 68, 69, 70, 71, 72, 73, 74, 75, 76, 77, 78, 79, 80, 81, 82, 83, 84, 85, 86, 87, 88, 89, 90, 91, 92, 93, 94, 95, 96, 97, 98, 99, 100, 101, 102, 103, 104, 105, 106, 107, 108, 109, 110, 111, 112, 113, 114, 115, 116, 117, 118, 119, 120, 121, 122, 123, 124, 125, 126]
/-! ### text_at -/
def txtGo : List Nat → Nat → List Nat → Except Nat (List Nat × Nat)
  | [], k, _ => .error k
  | c :: r, k, acc =>
    if c = 34 then .ok (acc, k + 1)
    else if c = 10 ∨ c ∉ prL then .error k
    else if c = 92 then
      match r with
      | [] => .error (k + 1)
      | d :: r' => if d ∉ [110, 34, 92] then .error (k + 1) else txtGo r' (k + 2) (acc ++ [if d = 110 then 10 else d])
    else txtGo r (k + 1) (acc ++ [c])
theorem txtGo_end {k : Nat} {acc : List Nat} : txtGo [] k acc = .error k := by unfold txtGo; rfl
theorem txtGo_quote {r : List Nat} {k : Nat} {acc : List Nat} : txtGo (34 :: r) k acc = .ok (acc, k + 1) := by unfold txtGo; rfl
theorem txtGo_bad {c : Nat} {r : List Nat} {k : Nat} {acc : List Nat} (h1 : c ≠ 34) (h2 : c = 10 ∨ c ∉ prL) : txtGo (c :: r) k acc = .error k := by
  rw [txtGo.eq_def]
  simp only [h1, if_false, h2, if_true]
theorem txtGo_plain {c : Nat} {r : List Nat} {k : Nat} {acc : List Nat} (h1 : c ≠ 34) (h2 : ¬ (c = 10 ∨ c ∉ prL)) (h3 : c ≠ 92) : txtGo (c :: r) k acc = txtGo r (k + 1) (acc ++ [c]) := by
  rw [txtGo.eq_def]
  simp only [h1, if_false, h2, h3]
theorem txtGo_escEnd {k : Nat} {acc : List Nat} : txtGo [92] k acc = .error (k + 1) := by
  rw [txtGo.eq_def]
  simp [prL]
theorem txtGo_escBad {d : Nat} {r : List Nat} {k : Nat} {acc : List Nat} (h : d ∉ [110, 34, 92]) : txtGo (92 :: d :: r) k acc = .error (k + 1) := by
  rw [txtGo.eq_def]
  have : ¬ (92 = 34) := by decide
  simp only [h, not_false_eq_true, if_true, this, if_false]
  simp [prL]
theorem txtGo_esc {d : Nat} {r : List Nat} {k : Nat} {acc : List Nat} (h : d ∈ [110, 34, 92]) : txtGo (92 :: d :: r) k acc = txtGo r (k + 2) (acc ++ [if d = 110 then 10 else d]) := by
  rw [txtGo.eq_def]
  have h' : ¬ (d ∉ [110, 34, 92]) := fun q => q h
  have : ¬ (92 = 34) := by decide
  simp only [h', this, if_false]
  simp [prL]
/-- an exception of the class at C whose field f is an int -/
def Thrown (C : Addr) (f : Str) (j : Nat) (H : Hp) (E : XK) : Prop := ∀ d H', Same H H' → H' d = some (.xd [(f, .int (j : Int))]) → E (.ref C) (some d) H'
def spTextAt (C : Addr) : Sp := fun vs H Q E => ∃ (t : List Nat) (k : Nat), vs = [.str (S t), .int (k : Int)] ∧ t.length ≤ 5000 ∧ k < t.length ∧
  match txtGo (t.drop (k + 1)) (k + 1) [] with
  | .ok (r, k') => ∀ p H', Same H H' → H p = none → H' p = some (.tup [.str (S r), .int (k' : Int)]) → Q (.ref p) H'
  | .error j => Thrown C "place" j H E
section
variable {P : Program} {w : World} {K : PySem.W.Frag} {mg : Str → Option Value} {base : Heap} {f C fI : Addr} {fd : FuncData}
theorem scText_at : FnScope ["text", "k", "found"] ["text", "k"] (defScope sTextAt) := ⟨rfl, rfl, rfl, by decide +kernel, rfl, by decide +kernel, by decide +kernel⟩
theorem ok_text_at (F : FnP K "text_at" sTextAt f fd) (TE : PySem.ExS.ExTxt P K mg "BadText" "place" "bad text" C fI) (zLen : mg "len" = none) {tkP : Tok} (mPRINTED : mg "PRINTED" = some (.str (S prL) tkP)) :
    FnOk P w K mg base (L2.CX P w) 2 f fd ["text", "k"] (spTextAt C) := by
  refine F.ok scText_at (fun vs H Q E h => ?_) (fun cdv A outer s H vs Q E hr h => ?_)
  · obtain ⟨t, k, rfl, _⟩ := h
    rfl
  · obtain ⟨t, k, rfl, ht, hk, fin⟩ := h
    have hu := hu_of hr
    have ht' : t.length ≤ 100000 := by omega
    refine ⟨_, (pss_cons (ps_par rfl scText_at.nd (i := 2) (j := 1) rfl rfl (by decide) rfl rfl (pa_cons pe_str (pa_cons (pe_op op_add (pv 1) pe_int) pa_nil)) (by rfl))
    (pss_cons (ps_while (passes_of rfl) (pw_and (pt_cmpR op_lt (pv 1) (pe_callB call_len_str (by rfl) zLen PySem.boot_len (pa_cons (pv 0) pa_nil)) (nomark _)) (pw_and1 (pt_cmpR op_ne (pe_ix ix_str (pv 0) (pv 1) (fun _ _ => rfl)) pe_str (nomark _)))).pt
      (pss_cons (ps_if (pw_or (pt_cmpR op_eq (pe_ix ix_str (pv 0) (pv 1) (fun _ _ => rfl)) pe_str (nomark _)) (pw_or1 (pt_cmpR op_notIn_sign (pe_ix ix_str (pv 0) (pv 1) (fun _ _ => rfl)) (pe_glob (x := "PRINTED") (v := .str (S prL)) (by rfl) mPRINTED ⟨_, rfl⟩) (by rfl)))).pt
        (pss_one (ps_raise rfl (takes_of rfl rfl rfl rfl) (pmk_ex TE hr (pa_cons (pv 1) pa_nil))))
        pss_nil)
      (pss_cons (ps_if (pt_cmpR op_eq (pe_ix ix_str (pv 0) (pv 1) (fun _ _ => rfl)) pe_str (nomark _))
        (pss_cons (ps_aug (i := 1) scText_at.nd rfl (Or.inl rfl) pe_int ip_add)
        (pss_cons (ps_if (pw_or (pt_cmpR op_ge (pv 1) (pe_callB call_len_str (by rfl) zLen PySem.boot_len (pa_cons (pv 0) pa_nil)) (nomark _)) (pw_or1 (pt_cmpR op_notIn_sign (pe_ix ix_str (pv 0) (pv 1) (fun _ _ => rfl)) pe_str (by rfl)))).pt
          (pss_one (ps_raise rfl (takes_of rfl rfl rfl rfl) (pmk_ex TE hr (pa_cons (pv 1) pa_nil))))
          pss_nil)
        (pss_one (ps_aug (i := 2) scText_at.nd rfl (Or.inl rfl) (pe_ifExp (pt_cmpR op_eq (pe_ix ix_str (pv 0) (pv 1) (fun _ _ => rfl)) pe_str (nomark _)) pe_str (pe_ix ix_str (pv 0) (pv 1) (fun _ _ => rfl))) ip_addS))))
        (pss_one (ps_aug (i := 2) scText_at.nd rfl (Or.inl rfl) (pe_ix ix_str (pv 0) (pv 1) (fun _ _ => rfl)) ip_addS)))
      (pss_one (ps_aug (i := 1) scText_at.nd rfl (Or.inl rfl) pe_int ip_add)))))
    (pss_cons (ps_if (pt_cmpR op_ge (pv 1) (pe_callB call_len_str (by rfl) zLen PySem.boot_len (pa_cons (pv 0) pa_nil)) (nomark _))
      (pss_one (ps_raise rfl (takes_of rfl rfl rfl rfl) (pmk_ex TE hr (pa_cons (pv 1) pa_nil))))
      pss_nil)
    (pss_one (ps_ret (pe_tup (pa_cons (pv 2) (pa_cons (pe_op op_add (pv 1) pe_int) pa_nil)))))))), ?_⟩
    have okF : ∀ r k', txtGo (t.drop (k + 1)) (k + 1) [] = .ok (r, k') → ∀ p H', Same H H' → H p = none → H' p = some (.tup [.str (S r), .int (k' : Int)]) → Q (.ref p) H' := fun r k' e => by rw [e] at fin; exact fin
    have erF : ∀ j, txtGo (t.drop (k + 1)) (k + 1) [] = .error j → ∀ H2 d, Same H H2 → H2 d = none → E (.ref C) (some d) (upd H2 d (.xd [("place", .int (j : Int))])) := fun j e H2 d s2 hd => by
      rw [e] at fin
      exact fin d _ (s2.trans (same_new hd)) upd_same
    clear fin
    refine ⟨_, rfl, _, _, rfl, rfl, _, _, rfl, ?_⟩
    refine ⟨fun m σ H2 => ∃ (j : Nat) (acc : List Nat), m = t.length - j ∧ j ≤ t.length ∧ acc.length ≤ j ∧ σ = [some (.str (S t)), some (.int (j : Int)), some (.str (S acc))] ∧ Same H H2 ∧ txtGo (t.drop j) j acc = txtGo (t.drop (k + 1)) (k + 1) [], ⟨_, k + 1, [], rfl, by omega, Nat.zero_le _, rfl, Same.refl H, rfl⟩, ?_⟩
    rintro m σ H2 ⟨j, acc, rfl, hj, ha, rfl, s2, eG⟩
    have e34 : (("\"" : Str)) = S [34] := by kernel_rfl
    have e10 : (("\n" : Str)) = S [10] := by kernel_rfl
    have e92 : (("\\" : Str)) = S [92] := by kernel_rfl
    have e110 : (("n" : Str)) = S [110] := by kernel_rfl
    have e3 : (("n\"\\" : Str)) = S [110, 34, 92] := by kernel_rfl
    refine ⟨_, rfl, _, rfl, _, rfl, lenS ht', _, _, rfl, rfl, _, rfl, ?_⟩
    rw [S_len]
    by_cases hlt : j < t.length
    · obtain ⟨c, hc⟩ : ∃ c, t[j]? = some c := ⟨_, List.getElem?_eq_getElem hlt⟩
      have dj : t.drop j = c :: t.drop (j + 1) := drop_cons hc
      rw [decide_eq_true (by omega : (j : Int) < (t.length : Int))]
      refine iteT ⟨_, rfl, _, rfl, _, _, _, rfl, rfl, lenS ht', atS hc, rfl, _, rfl, ?_⟩
      refine ite_nelit e34 (fun h34 => ?_) (fun h34 => ?_)
      · refine ⟨fun σ' H' => ∃ (j' : Nat) (acc' : List Nat), j < j' ∧ j' ≤ t.length ∧ acc'.length ≤ j' ∧ σ' = [some (.str (S t)), some (.int (j' : Int)), some (.str (S acc'))] ∧ Same H H' ∧ txtGo (t.drop j') j' acc' = txtGo (t.drop (k + 1)) (k + 1) [], ?_, ?_⟩
        · rintro σ' H' ⟨j', acc', h1, h2, h3, rfl, h4, h5⟩
          exact ⟨_, by omega, j', acc', rfl, h2, h3, rfl, h4, h5⟩
        refine ⟨_, rfl, _, rfl, _, _, _, rfl, rfl, lenS ht', atS hc, rfl, _, rfl, ?_⟩
        refine ite_eqlit e10 (fun h10 => iteT ⟨_, rfl, _, rfl, fun d hd => erF j (by rw [← eG, dj, txtGo_bad h34 (Or.inl h10)]) H2 d s2 hd⟩) (fun h10 => ?_)
        refine ⟨_, rfl, _, rfl, _, _, _, rfl, rfl, lenS ht', atS hc, _, _, rfl, rfl, _, rfl, ?_⟩
        refine ite_ninlit rfl (fun hp => ⟨_, rfl, _, rfl, fun d hd => erF j (by rw [← eG, dj, txtGo_bad h34 (Or.inr hp)]) H2 d s2 hd⟩) (fun hp => ?_)
        refine ⟨_, rfl, _, rfl, _, _, _, rfl, rfl, lenS ht', atS hc, rfl, _, rfl, ?_⟩
        refine ite_eqlit e92 (fun h92 => ?_) (fun h92 => ?_)
        · subst h92
          refine ⟨_, rfl, _, _, rfl, rfl, ?_⟩
          refine ⟨_, rfl, _, rfl, _, rfl, lenS ht', _, _, rfl, rfl, _, rfl, ?_⟩
          rw [S_len]
          by_cases hl2 : j + 1 < t.length
          · rw [decide_eq_false (by omega : ¬ ((t.length : Int) ≤ (j : Int) + 1))]
            obtain ⟨d, hd⟩ : ∃ d, t[j + 1]? = some d := ⟨_, List.getElem?_eq_getElem hl2⟩
            have dj2 : t.drop (j + 1) = d :: t.drop (j + 2) := drop_cons hd
            have at1 : atI (S t).cps.toList ((j : Int) + 1) = some d := atS hd
            refine iteF ⟨_, rfl, _, rfl, _, _, _, rfl, rfl, lenS ht', at1, _, _, rfl, rfl, _, rfl, ?_⟩
            refine ite_ninlit e3 (fun hp3 => ⟨_, rfl, _, rfl, fun d' hd' => erF (j + 1) (by rw [← eG, dj, dj2, txtGo_escBad hp3]) H2 d' s2 hd'⟩) (fun hp3 => ?_)
            have go : ∀ z : Str, z = S [if d = 110 then 10 else d] → ∃ i_1 j_1, V.str (S acc) = V.str i_1 ∧ V.str z = V.str j_1 ∧ i_1.length + j_1.length ≤ sizeLine ∧
                (∃ x, [some (V.str (S t)), some (V.int ((j : Int) + 1)), some (V.str (i_1 ++ j_1))][1]? = some (some x) ∧ ∃ i j', x = .int i ∧ V.int 1 = .int j' ∧ ∃ (j'_1 : Nat) (acc' : List Nat), j < j'_1 ∧ j'_1 ≤ t.length ∧ acc'.length ≤ j'_1 ∧ [some (V.str (S t)), some (V.int (i + j')), some (V.str (i_1 ++ j_1))] = [some (.str (S t)), some (.int (j'_1 : Int)), some (.str (S acc'))] ∧ Same H H2 ∧ txtGo (t.drop j'_1) j'_1 acc' = txtGo (t.drop (k + 1)) (k + 1) []) := by
              rintro z rfl
              refine ⟨_, _, rfl, rfl, by rw [S_len, S_len]; exact szS (by simp only [List.length_cons, List.length_nil]; omega), _, rfl, _, _, rfl, rfl, j + 2, acc ++ [if d = 110 then 10 else d], by omega, by omega, by rw [List.length_append]; simp only [List.length_cons, List.length_nil]; omega, by rw [S_app]; rfl, s2, ?_⟩
              rw [← eG, dj, dj2, txtGo_esc hp3]
            refine ⟨_, rfl, ?_⟩
            refine ⟨_, rfl, _, rfl, _, _, _, rfl, rfl, lenS ht', at1, rfl, _, rfl, ?_⟩
            refine ite_eqlit e110 (fun hn => ?_) (fun hn => ?_)
            · exact go _ (by rw [if_pos hn]; exact e10)
            · exact ⟨_, rfl, _, rfl, _, _, _, rfl, rfl, lenS ht', at1, go _ (by rw [if_neg hn, S_one])⟩
          · rw [decide_eq_true (by omega : ((t.length : Int) ≤ (j : Int) + 1))]
            refine iteT (iteT ⟨_, rfl, _, rfl, fun d hd => erF (j + 1) (by rw [← eG, dj, drop_nil (by omega), txtGo_escEnd]) H2 d s2 hd⟩)
        · refine ⟨_, rfl, _, rfl, _, rfl, _, _, _, rfl, rfl, lenS ht', atS hc, _, _, rfl, rfl, by rw [S_len]; exact szS (by show acc.length + 1 ≤ 100000; omega), ?_⟩
          refine ⟨_, rfl, _, _, rfl, rfl, j + 1, acc ++ [c], by omega, by omega, by rw [List.length_append]; simp only [List.length_cons, List.length_nil]; omega, by rw [← S_one, S_app]; rfl, s2, ?_⟩
          rw [← eG, dj, txtGo_plain h34 (fun q => q.elim h10 (fun q => q hp)) h92]
      · subst h34
        refine ⟨_, rfl, _, rfl, _, rfl, lenS ht', _, _, rfl, rfl, _, rfl, ?_⟩
        rw [S_len, decide_eq_false (by omega : ¬ ((t.length : Int) ≤ (j : Int)))]
        refine iteF ⟨_, rfl, _, rfl, _, _, rfl, rfl, szS (by show 2 ≤ 100000; decide), fun p hp => ?_⟩
        exact okF acc (j + 1) (by rw [← eG, dj, txtGo_quote]) p _ (s2.trans (same_new hp)) (s2.free hp) upd_same
    · rw [decide_eq_false (by omega : ¬ ((j : Int) < (t.length : Int)))]
      refine iteF ⟨_, rfl, _, rfl, _, rfl, lenS ht', _, _, rfl, rfl, _, rfl, ?_⟩
      rw [S_len, decide_eq_true (by omega : ((t.length : Int) ≤ (j : Int)))]
      exact iteT ⟨_, rfl, _, rfl, fun d hd => erF j (by rw [← eG, drop_nil (by omega), txtGo_end]) H2 d s2 hd⟩
end
end EH

set_option Elab.async false
set_option linter.all false
set_option maxRecDepth 100000
set_option maxHeartbeats 4000000
namespace EH
open PySem PySem.Spec PyProof.Rows L2
/-! ### what cut finds -/
structure Tk where
  kind : Str
  val : V
  pos : Nat
def smL : List Nat := [97, 98, 99, 100, 101, 102, 103, 104, 105, 106, 107, 108, 109, 110, 111, 112, 113, 114, 115, 116, 117, 118, 119, 120, 121, 122, 95]
def fiL : List Nat := [48, 49, 50, 51, 52, 53, 54, 55, 56, 57]
def oneL : List Nat := [43, 45, 42, 47, 126, 60, 62, 61, 40, 41, 91, 93, 123, 125, 44, 58, 59, 46]
def twoL : List (List Nat) := [[61, 61], [33, 61], [60, 61], [62, 61]]
def wordsL : List (List Nat) := [[108, 101, 116], [105, 102], [101, 108, 115, 101], [119, 104, 105, 108, 101], [102, 111, 114], [105, 110], [98, 114, 101, 97, 107], [99, 111, 110, 116, 105, 110, 117, 101], [114, 101, 116, 117, 114, 110], [100, 101, 102], [102, 117, 110], [99, 108, 97, 115, 115], [116, 114, 121], [99, 97, 116, 99, 104], [116, 104, 114, 111, 119], [112, 114, 105, 110, 116], [116, 114, 117, 101], [102, 97, 108, 115, 101], [110, 111, 110, 101], [97, 110, 100], [111, 114], [110, 111, 116]]
inductive Lx : List Nat → Nat → List Tk → Option Nat → Prop
  | fin {k} : Lx [] k [] none
  | blank {c r k ts o} (h : c ∈ [32, 10]) (n : Lx r (k + 1) ts o) : Lx (c :: r) k ts o
  | remark {w r k ts o} (h : ∀ c ∈ w, c ≠ 10) (hr : ∀ d r', r = d :: r' → d = 10) (n : Lx r (k + (35 :: w).length) ts o) : Lx (35 :: w ++ r) k ts o
  | word {c w r k ts o} (hc : c ∈ smL) (h : ∀ d ∈ w, d ∈ smL ++ fiL) (hr : ∀ d r', r = d :: r' → d ∉ smL ++ fiL) (n : Lx r (k + (c :: w).length) ts o) :
      Lx (c :: w ++ r) k (⟨if c :: w ∈ wordsL then "word" else "name", .str (S (c :: w)), k⟩ :: ts) o
  | num {c w r k ts o} (hc : c ∈ fiL) (h : ∀ d ∈ w, d ∈ fiL) (hr : ∀ d r', r = d :: r' → d ∉ fiL) (hl : w.length ≤ 11) (n : Lx r (k + (c :: w).length) ts o) :
      Lx (c :: w ++ r) k (⟨"number", .int (NumText.digitsVal (c :: w) : Nat), k⟩ :: ts) o
  | numBad {c w r k} (hc : c ∈ fiL) (h : ∀ d ∈ w, d ∈ fiL) (hr : ∀ d r', r = d :: r' → d ∉ fiL) (hl : 11 < w.length) : Lx (c :: w ++ r) k [] (some k)
  | txt {r k s m ts o} (h : txtGo r (k + 1) [] = .ok (s, k + 1 + m)) (hs : m ≤ r.length) (n : Lx (r.drop m) (k + 1 + m) ts o) : Lx (34 :: r) k (⟨"text", .str (S s), k⟩ :: ts) o
  | txtBad {r k j} (h : txtGo r (k + 1) [] = .error j) : Lx (34 :: r) k [] (some j)
  | two {c d r k ts o} (h : [c, d] ∈ twoL) (n : Lx r (k + 2) ts o) : Lx (c :: d :: r) k (⟨"sign", .str (S [c, d]), k⟩ :: ts) o
  | one {c r k ts o} (h : c ∈ oneL) (hr : ∀ d r', r = d :: r' → [c, d] ∉ twoL) (n : Lx r (k + 1) ts o) : Lx (c :: r) k (⟨"sign", .str (S [c]), k⟩ :: ts) o
  | bad {c k} (h : c ∈ [33, 36]) : Lx [c] k [] (some k)
inductive Toks (H : Hp) : List Addr → List Tk → Prop
  | nil : Toks H [] []
  | cons {a ps tk ts} (h : H a = some (.tup [.str tk.kind, tk.val, .int (tk.pos : Int)])) (t : Toks H ps ts) : Toks H (a :: ps) (tk :: ts)
theorem Toks.mono {H H' : Hp} (hs : ∀ a o, H a = some (.tup o) → H' a = some (.tup o)) : ∀ {ps ts}, Toks H ps ts → Toks H' ps ts
  | _, _, .nil => .nil
  | _, _, .cons h t => .cons (hs _ _ h) (t.mono hs)
theorem Toks.snoc {H : Hp} {a : Addr} {tk : Tk} (h : H a = some (.tup [.str tk.kind, tk.val, .int (tk.pos : Int)])) : ∀ {ps ts}, Toks H ps ts → Toks H (ps ++ [a]) (ts ++ [tk])
  | _, _, .nil => .cons h .nil
  | _, _, .cons g t => .cons g (t.snoc h)
theorem same_upd {H H2 : Hp} {p : Addr} {o : HO} (hp : H p = none) (s : Same H H2) : Same H (upd H2 p o) := fun b u e => by
  rw [upd_ne (ne_of_none e hp)]
  exact s b u e
/-! ### parts of a list behind a place -/
theorem at_drop {t a r : List Nat} {j i : Nat} (h : t.drop j = a ++ r) (hi : i < a.length) : t[j + i]? = a[i]? := by
  have e : (t.drop j)[i]? = t[j + i]? := List.getElem?_drop
  rw [← e, h, List.getElem?_append_left hi]
theorem drop_drop2 {t a r : List Nat} {j : Nat} (h : t.drop j = a ++ r) : t.drop (j + a.length) = r := by
  rw [← List.drop_drop, h, List.drop_left]
theorem len_drop {t a r : List Nat} {j : Nat} (h : t.drop j = a ++ r) (hj : j ≤ t.length) : j + a.length ≤ t.length := by
  have := congrArg List.length h
  rw [List.length_drop, List.length_append] at this
  omega
theorem cutSS {t : List Nat} {i j : Nat} (hj : j ≤ t.length) (hi : i ≤ t.length) : cutS (S t) (some (i : Int)) (some (j : Int)) = S ((t.drop i).take (j - i)) := by
  unfold cutS
  rw [S_tl, S_len, HT.sIx_nat, HT.sIx_nat, Nat.min_eq_left hi, Nat.min_eq_left hj]
  rfl
theorem cutSS' {t a r : List Nat} {i : Nat} (h : t.drop i = a ++ r) (hi : i ≤ t.length) : cutS (S t) (some (i : Int)) (some ((i + a.length : Nat) : Int)) = S a := by
  rw [cutSS (len_drop h hi) hi, h, Nat.add_sub_cancel_left, List.take_left]
theorem inV_S {l : List Nat} : ∀ {L : List (List Nat)}, inV (.str (S l)) (L.map fun m => V.str (S m)) = decide (l ∈ L)
  | [] => by simp [inV]
  | m :: L => by
    have ih := inV_S (l := l) (L := L)
    unfold inV at ih ⊢
    rw [List.map_cons, List.any_cons, ih]
    have e : eqV (V.str (S m)) (V.str (S l)) = decide (m = l) := by
      show (S m == S l) = _
      by_cases h : m = l
      · subst h; simp
      · have : S m ≠ S l := fun q => h (S_inj q)
        simp [h, this]
    rw [e]
    by_cases h : m = l
    · subst h; simp
    · have h' : ¬ l = m := fun q => h q.symm
      simp [h, h']
theorem flat_S : ∀ {L : List (List Nat)}, (L.map fun m => V.str (S m)).all flatV = true
  | [] => rfl
  | m :: L => by rw [List.map_cons, List.all_cons, flat_S]; rfl
theorem while_count {c : TT} {tb : TS} {D : Ends} (mk : Nat → L2.St) (H : Hp) (j0 e : Nat) (hle : j0 ≤ e) (hy : ∀ j, j0 ≤ j → j < e → ∀ Q : Bool → Hp → Prop, Q true H → c (mk j) H Q) (hn : ∀ Q : Bool → Hp → Prop, Q false H → c (mk e) H Q)
    (hb : ∀ j, ∀ D' : Ends, D'.nx (mk (j + 1)) H → tb D' (mk j) H) (fin : D.nx (mk e) H) : tWhile c tb D (mk j0) H := by
  refine ⟨fun m σ H2 => ∃ j, m = e - j ∧ j0 ≤ j ∧ j ≤ e ∧ σ = mk j ∧ H2 = H, ⟨_, j0, rfl, Nat.le_refl _, hle, rfl, rfl⟩, ?_⟩
  rintro m σ H2 ⟨j, rfl, h0, h1, rfl, rfl⟩
  by_cases h : j < e
  · refine hy j h0 h _ (iteT ⟨fun σ' H' => σ' = mk (j + 1) ∧ H' = H2, ?_, hb j _ ⟨rfl, rfl⟩⟩)
    rintro σ' H' ⟨rfl, rfl⟩
    exact ⟨_, by omega, j + 1, rfl, by omega, h, rfl, rfl⟩
  · obtain rfl : j = e := by omega
    exact hn _ (iteF fin)
theorem ite_is {b c : Bool} {A B : Prop} (e : b = c) (h : if c = true then A else B) : if b = true then A else B := e ▸ h
theorem fi_dig : ∀ d ∈ fiL, (decide (48 ≤ d) && decide (d ≤ 57)) = true := by decide
theorem two_len : ∀ m ∈ twoL, m.length = 2 := by decide
theorem cut2 {t : List Nat} {j : Nat} (hj : j ≤ t.length) : cutS (S t) (some (j : Int)) (some ((j : Int) + 2)) = S ((t.drop j).take 2) := by
  unfold cutS
  rw [S_tl, S_len, HT.sIx_nat, show ((j : Int) + 2) = ((j + 2 : Nat) : Int) from rfl, HT.sIx_nat, Nat.min_eq_left hj]
  show (⟨_⟩ : Str) = ⟨_⟩
  congr 2
  by_cases h : j + 2 ≤ t.length
  · rw [Nat.min_eq_left h, Nat.add_sub_cancel_left]
  · rw [List.take_of_length_le (by rw [List.length_drop]; omega), List.take_of_length_le (by rw [List.length_drop]; omega)]
theorem two_no {c : Nat} {r : List Nat} (h : ∀ d r', r = d :: r' → [c, d] ∉ twoL) : inV (.str (S ((c :: r).take 2))) (twoL.map fun m => V.str (S m)) = false := by
  rw [inV_S]
  cases r with
  | nil => exact decide_eq_false fun q => by have := two_len _ q; simp at this
  | cons d r' => exact decide_eq_false (h d r' rfl)
theorem stop_at {t a r : List Nat} {j d : Nat} (h : t.drop j = a ++ r) (hd : t[j + a.length]? = some d) : ∃ r', r = d :: r' := by
  have e := drop_drop2 h
  have e2 : (t.drop (j + a.length))[0]? = t[j + a.length]? := by rw [List.getElem?_drop]; rfl
  rw [e, hd] at e2
  cases r with
  | nil => cases e2
  | cons x r' => exact ⟨r', by rw [Option.some.inj e2]⟩
theorem scan_at {t a r : List Nat} {j m : Nat} (h : t.drop j = a ++ r) (h0 : j ≤ m) (h1 : m < j + a.length) : ∃ d, t[m]? = some d ∧ d ∈ a := by
  have e := at_drop (i := m - j) h (by omega)
  rw [show j + (m - j) = m by omega] at e
  have hlt : m - j < a.length := by omega
  rw [List.getElem?_eq_getElem hlt] at e
  exact ⟨_, e, List.getElem_mem hlt⟩
theorem push_tok {H H2 : Hp} {p a : Addr} {ps : List Addr} {dn : List Tk} (tk : Tk) (hp0 : H p = none) (s2 : Same H H2) (hp : H2 p = some (.lst (ps.map V.ref))) (hT : Toks H2 ps dn) (ha : H2 a = none) :
    Same H (upd (upd H2 a (.tup [.str tk.kind, tk.val, .int (tk.pos : Int)])) p (.lst (ps.map V.ref ++ [.ref a]))) ∧
    (upd (upd H2 a (.tup [.str tk.kind, tk.val, .int (tk.pos : Int)])) p (.lst (ps.map V.ref ++ [.ref a]))) p = some (.lst ((ps ++ [a]).map V.ref)) ∧
    Toks (upd (upd H2 a (.tup [.str tk.kind, tk.val, .int (tk.pos : Int)])) p (.lst (ps.map V.ref ++ [.ref a]))) (ps ++ [a]) (dn ++ [tk]) := by
  have npa : a ≠ p := fun e => by rw [e, hp] at ha; cases ha
  refine ⟨same_upd hp0 (s2.trans (same_new ha)), by rw [upd_same, List.map_append]; rfl, Toks.snoc (by rw [upd_ne npa, upd_same]) (hT.mono fun b o e => ?_)⟩
  have n1 : b ≠ p := fun q => by rw [q, hp] at e; cases e
  rw [upd_ne n1, upd_ne (ne_of_none e ha)]
  exact e
theorem dis_sm : ∀ c ∈ smL, c ∉ [32, 10] ∧ c ≠ 35 := by decide
theorem dis_fi : ∀ c ∈ fiL, c ∉ [32, 10] ∧ c ≠ 35 ∧ c ∉ smL := by decide
theorem dis_one : ∀ c ∈ oneL, c ∉ [32, 10] ∧ c ≠ 35 ∧ c ∉ smL ∧ c ∉ fiL ∧ c ≠ 34 := by decide
theorem dis_bad : ∀ c ∈ [33, 36], c ∉ [32, 10] ∧ c ≠ 35 ∧ c ∉ smL ∧ c ∉ fiL ∧ c ≠ 34 ∧ c ∉ oneL := by decide
theorem dis_two : ∀ m ∈ twoL, ∀ c d, m = [c, d] → c ∉ [32, 10] ∧ c ≠ 35 ∧ c ∉ smL ∧ c ∉ fiL ∧ c ≠ 34 := by
  intro m hm c d e
  subst e
  have : c ∈ [61, 33, 60, 62] := by
    simp only [twoL, List.mem_cons, List.not_mem_nil, or_false] at hm
    rcases hm with h | h | h | h <;> · injection h with h1 h2; subst h1; decide
  revert c
  intro c hm h
  have z : ∀ c ∈ [61, 33, 60, 62], c ∉ [32, 10] ∧ c ≠ 35 ∧ c ∉ smL ∧ c ∉ fiL ∧ c ≠ 34 := by decide
  exact z c h
def spCut (C : Addr) : Sp := fun vs H Q E => ∃ x, vs = [x] ∧
  ((∃ t ts o, x = .str (S t) ∧ t.length ≤ 3000 ∧ Lx t 0 ts o ∧
      match o with
      | none => ∀ p ps H', Same H H' → H p = none → H' p = some (.lst (ps.map V.ref)) → Toks H' ps (ts ++ [⟨"end", .str (S []), t.length⟩]) → Q (.ref p) H'
      | some j => Thrown C "place" j H E) ∨
    ((x = .non ∨ ∃ t : List Nat, x = .str (S t) ∧ 3000 < t.length ∧ t.length ≤ 100000) ∧ Thrown C "place" 0 H E))
structure CutG (K : PySem.W.Frag) (mg : Str → Option Value) (fT aW aT : Addr) (tS tF tO : Tok) : Prop where
  zLen : mg "len" = none
  zInt : mg "int" = none
  zIsi : mg "isinstance" = none
  zStr : mg "str" = none
  mSMALL : mg "SMALL" = some (.str (S smL) tS)
  mFIGURES : mg "FIGURES" = some (.str (S fiL) tF)
  mONE : mg "ONE" = some (.str (S oneL) tO)
  mWORDS : mg "WORDS" = some (.ref aW)
  mTWO : mg "TWO" = some (.ref aT)
  mT : mg "text_at" = some (.ref fT)
  kW : ∀ H, SqT K H aW (wordsL.map fun m => V.str (S m))
  kT : ∀ H, SqT K H aT (twoL.map fun m => V.str (S m))
section
variable {P : Program} {w : World} {K : PySem.W.Frag} {mg : Str → Option Value} {base : Heap} {f C fI fT aW aT : Addr} {fd fdT : FuncData}
theorem scCut : FnScope ["text", "found", "k", "start", "kind", "what"] ["text"] (defScope sCut) := ⟨rfl, rfl, rfl, by decide +kernel, rfl, by decide +kernel, by decide +kernel⟩
theorem ok_cut (F : FnP K "cut" sCut f fd) {tS tF tO : Tok} (G : CutG K mg fT aW aT tS tF tO) (TE : PySem.ExS.ExTxt P K mg "BadText" "place" "bad text" C fI) (FT : FnP K "text_at" sTextAt fT fdT) (bT : Binds K fdT ["text", "k"] []) (GT : FnOk P w K mg base (L2.CX P w) 2 fT fdT ["text", "k"] (spTextAt C)) :
    FnOk P w K mg base (L2.CX P w) 3 f fd ["text"] (spCut C) := by
  refine F.ok scCut (fun vs H Q E h => ?_) (fun cdv A outer s H vs Q E hr h => ?_)
  · obtain ⟨x, rfl, _⟩ := h
    rfl
  · obtain ⟨x, rfl, h⟩ := h
    have hu := hu_of hr
    refine ⟨_, (pss_cons (ps_if (pw_or (pt_not (pt_val (pe_callB call_isi (by rfl) G.zIsi (by decide +kernel) (pa_cons (pv 0) (pa_cons (pe_bltn (x := "str") (v := .ty "str") (u := .type "str") (by rfl) G.zStr (by decide +kernel) rfl) pa_nil))))) (pw_or1 (pt_cmpR op_gt (pe_callB call_len_str (by rfl) G.zLen PySem.boot_len (pa_cons (pv 0) pa_nil)) pe_int (nomark _)))).pt
      (pss_one (ps_raise rfl (takes_of rfl rfl rfl rfl) (pmk_ex TE hr (pa_cons pe_int pa_nil))))
      pss_nil)
    (pss_cons (ps_par rfl scCut.nd (i := 1) (j := 2) rfl rfl (by decide) rfl rfl (pa_cons (pe_lst pa_nil) (pa_cons pe_int pa_nil)) (by rfl))
    (pss_cons (ps_while (passes_of rfl) (pt_cmpR op_lt (pv 2) (pe_callB call_len_str (by rfl) G.zLen PySem.boot_len (pa_cons (pv 0) pa_nil)) (nomark _))
      (pss_cons (ps_set (i := 3) scCut.nd rfl (Or.inl rfl) (pv 2))
      (pss_one (ps_if (pt_cmpR op_in_sign (pe_ix ix_str (pv 0) (pv 2) (fun _ _ => rfl)) pe_str (by rfl))
        (pss_one (ps_aug (i := 2) scCut.nd rfl (Or.inl rfl) pe_int ip_add))
        (pss_one (ps_if (pt_cmpR op_eq (pe_ix ix_str (pv 0) (pv 2) (fun _ _ => rfl)) pe_str (nomark _))
          (pss_one (ps_while (passes_of rfl) (pw_and (pt_cmpR op_lt (pv 2) (pe_callB call_len_str (by rfl) G.zLen PySem.boot_len (pa_cons (pv 0) pa_nil)) (nomark _)) (pw_and1 (pt_cmpR op_ne (pe_ix ix_str (pv 0) (pv 2) (fun _ _ => rfl)) pe_str (nomark _)))).pt
            (pss_one (ps_aug (i := 2) scCut.nd rfl (Or.inl rfl) pe_int ip_add))))
          (pss_one (ps_if (pt_cmpR op_in_sign (pe_ix ix_str (pv 0) (pv 2) (fun _ _ => rfl)) (pe_glob (x := "SMALL") (v := .str (S smL)) (by rfl) G.mSMALL ⟨_, rfl⟩) (by rfl))
            (pss_cons (ps_while (passes_of rfl) (pw_and (pt_cmpR op_lt (pv 2) (pe_callB call_len_str (by rfl) G.zLen PySem.boot_len (pa_cons (pv 0) pa_nil)) (nomark _)) (pw_and1 (pt_cmpR op_in_sign (pe_ix ix_str (pv 0) (pv 2) (fun _ _ => rfl)) (pe_op op_add_str (pe_glob (x := "SMALL") (v := .str (S smL)) (by rfl) G.mSMALL ⟨_, rfl⟩) (pe_glob (x := "FIGURES") (v := .str (S fiL)) (by rfl) G.mFIGURES ⟨_, rfl⟩)) (by rfl)))).pt
              (pss_one (ps_aug (i := 2) scCut.nd rfl (Or.inl rfl) pe_int ip_add)))
            (pss_cons (ps_set (i := 4) scCut.nd rfl (Or.inl rfl) (pe_ifExp (pt_cmpR op_in_seq (pe_slice sl_str (pv 0) (po_some (pv 3)) (po_some (pv 2))) (pe_glob (x := "WORDS") (v := .ref aW) (by rfl) G.mWORDS rfl) (by rfl)) pe_str pe_str))
            (pss_one (ps_expr (pe_bm PySem.F.plainAttrs_list PySem.F.slot_list_append PySem.F.type_list_append mt_append (pv 1) (pa_cons (pe_tup (pa_cons (pv 4) (pa_cons (pe_slice sl_str (pv 0) (po_some (pv 3)) (po_some (pv 2))) (pa_cons (pv 3) pa_nil)))) pa_nil))))))
            (pss_one (ps_if (pt_cmpR op_in_sign (pe_ix ix_str (pv 0) (pv 2) (fun _ _ => rfl)) (pe_glob (x := "FIGURES") (v := .str (S fiL)) (by rfl) G.mFIGURES ⟨_, rfl⟩) (by rfl))
              (pss_cons (ps_while (passes_of rfl) (pw_and (pt_cmpR op_lt (pv 2) (pe_callB call_len_str (by rfl) G.zLen PySem.boot_len (pa_cons (pv 0) pa_nil)) (nomark _)) (pw_and1 (pt_cmpR op_in_sign (pe_ix ix_str (pv 0) (pv 2) (fun _ _ => rfl)) (pe_glob (x := "FIGURES") (v := .str (S fiL)) (by rfl) G.mFIGURES ⟨_, rfl⟩) (by rfl)))).pt
                (pss_one (ps_aug (i := 2) scCut.nd rfl (Or.inl rfl) pe_int ip_add)))
              (pss_cons (ps_if (pt_cmpR op_gt (pe_op op_sub (pv 2) (pv 3)) pe_int (nomark _))
                (pss_one (ps_raise rfl (takes_of rfl rfl rfl rfl) (pmk_ex TE hr (pa_cons (pv 3) pa_nil))))
                pss_nil)
              (pss_one (ps_expr (pe_bm PySem.F.plainAttrs_list PySem.F.slot_list_append PySem.F.type_list_append mt_append (pv 1) (pa_cons (pe_tup (pa_cons pe_str (pa_cons (pe_callTy call_int_str (by rfl) G.zInt (by decide +kernel) (pa_cons (pe_slice sl_str (pv 0) (po_some (pv 3)) (po_some (pv 2))) pa_nil)) (pa_cons (pv 3) pa_nil)))) pa_nil))))))
              (pss_one (ps_if (pt_cmpR op_eq (pe_ix ix_str (pv 0) (pv 2) (fun _ _ => rfl)) pe_str (nomark _))
                (pss_cons (ps_asg (pe_callS GT hr (by rfl) G.mT FT.kp bT (fun σ => passAt (takes_of rfl rfl rfl rfl) σ) (pa_cons (pv 0) (pa_cons (pv 2) pa_nil))) (pg_tup rfl (pgs_cons (pg_name (i := 5) scCut.nd rfl (Or.inl rfl)) (pgs_cons (pg_name (i := 2) scCut.nd rfl (Or.inl rfl)) pgs_nil))))
                (pss_one (ps_expr (pe_bm PySem.F.plainAttrs_list PySem.F.slot_list_append PySem.F.type_list_append mt_append (pv 1) (pa_cons (pe_tup (pa_cons pe_str (pa_cons (pv 5) (pa_cons (pv 3) pa_nil)))) pa_nil)))))
                (pss_one (ps_if (pt_cmpR op_in_seq (pe_slice sl_str (pv 0) (po_some (pv 2)) (po_some (pe_op op_add (pv 2) pe_int))) (pe_glob (x := "TWO") (v := .ref aT) (by rfl) G.mTWO rfl) (by rfl))
                  (pss_cons (ps_aug (i := 2) scCut.nd rfl (Or.inl rfl) pe_int ip_add)
                  (pss_one (ps_expr (pe_bm PySem.F.plainAttrs_list PySem.F.slot_list_append PySem.F.type_list_append mt_append (pv 1) (pa_cons (pe_tup (pa_cons pe_str (pa_cons (pe_slice sl_str (pv 0) (po_some (pv 3)) (po_some (pv 2))) (pa_cons (pv 3) pa_nil)))) pa_nil)))))
                  (pss_one (ps_if (pt_cmpR op_in_sign (pe_ix ix_str (pv 0) (pv 2) (fun _ _ => rfl)) (pe_glob (x := "ONE") (v := .str (S oneL)) (by rfl) G.mONE ⟨_, rfl⟩) (by rfl))
                    (pss_cons (ps_aug (i := 2) scCut.nd rfl (Or.inl rfl) pe_int ip_add)
                    (pss_one (ps_expr (pe_bm PySem.F.plainAttrs_list PySem.F.slot_list_append PySem.F.type_list_append mt_append (pv 1) (pa_cons (pe_tup (pa_cons pe_str (pa_cons (pe_slice sl_str (pv 0) (po_some (pv 3)) (po_some (pv 2))) (pa_cons (pv 3) pa_nil)))) pa_nil)))))
                    (pss_one (ps_raise rfl (takes_of rfl rfl rfl rfl) (pmk_ex TE hr (pa_cons (pv 2) pa_nil))))))))))))))))))))
    (pss_cons (ps_expr (pe_bm PySem.F.plainAttrs_list PySem.F.slot_list_append PySem.F.type_list_append mt_append (pv 1) (pa_cons (pe_tup (pa_cons pe_str (pa_cons pe_str (pa_cons (pe_callB call_len_str (by rfl) G.zLen PySem.boot_len (pa_cons (pv 0) pa_nil)) pa_nil)))) pa_nil)))
    (pss_one (ps_ret (pv 1))))))), ?_⟩
    rcases h with ⟨t, ts0, o, rfl, ht, hx, fin⟩ | ⟨h, fin⟩
    · have ht' : t.length ≤ 100000 := by omega
      have e32 : ((" \n" : Str)) = S [32, 10] := by kernel_rfl
      have e10 : (("\n" : Str)) = S [10] := by kernel_rfl
      have e35 : (("#" : Str)) = S [35] := by kernel_rfl
      have e0 : (("" : Str)) = S [] := by kernel_rfl
      have e34 : (("\"" : Str)) = S [34] := by kernel_rfl
      have erF : ∀ k, o = some k → ∀ H2 d, Same H H2 → H2 d = none → E (.ref C) (some d) (upd H2 d (.xd [("place", .int (k : Int))])) := fun k e H2 d s2 hd => by
        subst e
        exact fin d _ (s2.trans (same_new hd)) upd_same
      have thr : ∀ k, o = some k → ∀ H2, Same H H2 → Thrown C "place" k H2 E := fun k e H2 s2 d H' s' hd => by
        subst e
        exact fin d H' (s2.trans s') hd
      have okF : o = none → ∀ p ps H', Same H H' → H p = none → H' p = some (.lst (ps.map V.ref)) → Toks H' ps (ts0 ++ [⟨"end", .str (S []), t.length⟩]) → Q (.ref p) H' := fun e => by
        subst e
        exact fin
      clear fin
      refine ⟨_, rfl, _, _, _, _, true, rfl, .ty _, .base (.str _), rfl, _, rfl, ?_⟩
      refine iteF ⟨_, rfl, _, rfl, lenS ht', _, _, rfl, rfl, _, rfl, ?_⟩
      rw [S_len, decide_eq_false (by omega : ¬ ((3000 : Int) < (t.length : Int)))]
      refine iteF ?_
      refine ⟨szS (by show 0 ≤ 100000; decide), fun p hp0 => ?_⟩
      refine ⟨_, _, rfl, ?_⟩
      refine ⟨fun m σ H2 => ∃ (j : Nat) (ps : List Addr) (dn ts : List Tk) (v3 v4 v5 : Option V), m = t.length - j ∧ j ≤ t.length ∧ ps.length ≤ j ∧ σ = [some (.str (S t)), some (.ref p), some (.int (j : Int)), v3, v4, v5] ∧ Same H H2 ∧ H2 p = some (.lst (ps.map V.ref)) ∧ Toks H2 ps dn ∧ Lx (t.drop j) j ts o ∧ ts0 = dn ++ ts,
        ⟨_, 0, [], [], ts0, none, none, none, rfl, Nat.zero_le _, Nat.le_refl _, rfl, same_new hp0, upd_same, .nil, by rw [List.drop_zero]; exact hx, rfl⟩, ?_⟩
      clear hx
      rintro m σ H2 ⟨j, ps, dn, ts, v3, v4, v5, rfl, hj, hps, rfl, s2, hp, hT, hx, eF⟩
      refine ⟨_, rfl, _, rfl, _, rfl, lenS ht', _, _, rfl, rfl, _, rfl, ?_⟩
      rw [S_len]
      by_cases hlt : j < t.length
      rotate_left
      · rw [decide_eq_false (by omega : ¬ ((j : Int) < (t.length : Int)))]
        refine iteF ?_
        rw [drop_nil (by omega)] at hx
        cases hx
        obtain rfl : j = t.length := by omega
        refine ⟨_, rfl, Or.inl ⟨rfl, _, Or.inl (Or.inl hp)⟩, _, rfl, _, rfl, lenS ht', szS (by show 3 ≤ 100000; decide), fun a ha => ⟨p, ps.map V.ref, _, rfl, rfl, ?_, ?_, ?_⟩⟩
        · rw [upd_ne (fun e => by rw [e, ha] at hp; cases hp)]; exact hp
        · rw [List.length_map]; exact Nat.lt_of_le_of_lt (show ps.length ≤ 5000 by omega) (by decide)
        · obtain ⟨q1, q2, q3⟩ := push_tok ⟨"end", .str (S []), t.length⟩ hp0 s2 hp hT ha
          rw [S_len, e0]
          refine ⟨_, rfl, okF rfl p _ _ q1 hp0 q2 ?_⟩
          rw [eF, List.append_nil]
          exact q3
      rw [decide_eq_true (by omega : ((j : Int) < (t.length : Int)))]
      refine iteT ⟨fun σ' H' => ∃ (j' : Nat) (ps' : List Addr) (dn' ts' : List Tk) (v3 v4 v5 : Option V), j < j' ∧ j' ≤ t.length ∧ ps'.length ≤ j' ∧ σ' = [some (.str (S t)), some (.ref p), some (.int (j' : Int)), v3, v4, v5] ∧ Same H H' ∧ H' p = some (.lst (ps'.map V.ref)) ∧ Toks H' ps' dn' ∧ Lx (t.drop j') j' ts' o ∧ ts0 = dn' ++ ts', ?_, ?_⟩
      · rintro σ' H' ⟨j', ps', dn', ts', v3, v4, v5, h0, h1, h2, rfl, h3, h4, h5, h6, h7⟩
        exact ⟨_, by omega, j', ps', dn', ts', v3, v4, v5, rfl, h1, h2, rfl, h3, h4, h5, h6, h7⟩
      refine ⟨_, rfl, ?_⟩
      obtain ⟨l, hl⟩ : ∃ l, t.drop j = l := ⟨_, rfl⟩
      rw [hl] at hx
      have hfst : ∀ c r, t.drop j = c :: r → t[j]? = some c := fun c r e => by
        have e2 : (t.drop j)[0]? = t[j]? := by rw [List.getElem?_drop]; rfl
        rw [← e2, e]
        rfl
      cases hx with
      | fin => exact absurd (congrArg List.length hl) (by rw [List.length_drop, List.length_nil]; omega)
      | @blank c r _ ts _ h n =>
        have hc := hfst _ _ hl
        refine ⟨_, rfl, _, rfl, _, _, _, rfl, rfl, lenS ht', atS hc, _, _, rfl, rfl, _, rfl, ite_inlit e32 (fun _ => ?_) (fun q => absurd h q)⟩
        exact ⟨_, rfl, _, _, rfl, rfl, j + 1, ps, dn, ts, _, v4, v5, by omega, by omega, by omega, rfl, s2, hp, hT, by rw [show t.drop (j + 1) = r from drop_drop2 (a := [c]) hl]; exact n, eF⟩
      | @remark w r _ ts _ h hr n =>
        have hc := hfst _ _ hl
        have hle := len_drop hl hj
        refine ⟨_, rfl, _, rfl, _, _, _, rfl, rfl, lenS ht', atS hc, _, _, rfl, rfl, _, rfl, ite_inlit e32 (fun q => absurd q (by decide)) (fun _ => ?_)⟩
        refine ⟨_, rfl, _, rfl, _, _, _, rfl, rfl, lenS ht', atS hc, rfl, _, rfl, ite_eqlit e35 (fun _ => ?_) (fun q => absurd rfl q)⟩
        refine while_count (fun m => [some (.str (S t)), some (.ref p), some (.int ((m : Nat) : Int)), some (.int (j : Int)), v4, v5]) _ j (j + (35 :: w).length) (by omega) (fun m h0 h1 Q' q => ?_) (fun Q' q => ?_) (fun m D' hD => ⟨_, rfl, _, _, rfl, rfl, hD⟩) ?_
        · obtain ⟨d, hd, hm⟩ := scan_at hl h0 h1
          refine ⟨_, rfl, _, rfl, _, rfl, lenS ht', _, _, rfl, rfl, _, rfl, ?_⟩
          rw [S_len, decide_eq_true (by omega : (m : Int) < (t.length : Int))]
          exact iteT ⟨_, rfl, _, rfl, _, _, _, rfl, rfl, lenS ht', atS hd, rfl, _, rfl, by rw [e10, ← S_one, dec_strS, decide_eq_false (fun z => (List.mem_cons.mp hm).elim (fun y => absurd (List.cons.inj z).1 (by rw [y]; decide)) (fun y => h d y (List.cons.inj z).1))]; exact q⟩
        · refine ⟨_, rfl, _, rfl, _, rfl, lenS ht', _, _, rfl, rfl, _, rfl, ?_⟩
          rw [S_len]
          by_cases hz : j + (35 :: w).length < t.length
          · rw [decide_eq_true (by omega : ((j + (35 :: w).length : Nat) : Int) < (t.length : Int))]
            obtain ⟨d, hd⟩ : ∃ d, t[j + (35 :: w).length]? = some d := ⟨_, List.getElem?_eq_getElem hz⟩
            obtain ⟨r', er⟩ := stop_at hl hd
            obtain rfl := hr d r' er
            exact iteT ⟨_, rfl, _, rfl, _, _, _, rfl, rfl, lenS ht', atS hd, rfl, _, rfl, by rw [e10, ← S_one, dec_strS, decide_eq_true rfl]; exact q⟩
          · rw [decide_eq_false (by omega : ¬ ((j + (35 :: w).length : Nat) : Int) < (t.length : Int))]
            exact iteF q
        · exact ⟨_, ps, dn, ts, _, v4, v5, by simp only [List.length_cons]; omega, hle, by omega, rfl, s2, hp, hT, by rw [drop_drop2 hl]; exact n, eF⟩
      | @word c w r _ ts _ hcs h hr n =>
        have hc := hfst _ _ hl
        have hle := len_drop hl hj
        have hall : ∀ d ∈ c :: w, d ∈ smL ++ fiL := fun d hd => (List.mem_cons.mp hd).elim (fun e => by rw [e]; exact List.mem_append_left _ hcs) (h d)
        refine ⟨_, rfl, _, rfl, _, _, _, rfl, rfl, lenS ht', atS hc, _, _, rfl, rfl, _, rfl, ite_inlit e32 (fun q => absurd q (dis_sm c hcs).1) (fun _ => ?_)⟩
        refine ⟨_, rfl, _, rfl, _, _, _, rfl, rfl, lenS ht', atS hc, rfl, _, rfl, ite_eqlit e35 (fun q => absurd q (dis_sm c hcs).2) (fun _ => ?_)⟩
        refine ⟨_, rfl, _, rfl, _, _, _, rfl, rfl, lenS ht', atS hc, _, _, rfl, rfl, _, rfl, ite_inlit rfl (fun _ => ?_) (fun q => absurd hcs q)⟩
        refine while_count (fun m => [some (.str (S t)), some (.ref p), some (.int ((m : Nat) : Int)), some (.int (j : Int)), v4, v5]) _ j (j + (c :: w).length) (by omega) (fun m h0 h1 Q' q => ?_) (fun Q' q => ?_) (fun m D' hD => ⟨_, rfl, _, _, rfl, rfl, hD⟩) ?_
        · obtain ⟨d, hd, hm⟩ := scan_at hl h0 h1
          refine ⟨_, rfl, _, rfl, _, rfl, lenS ht', _, _, rfl, rfl, _, rfl, ?_⟩
          rw [S_len, decide_eq_true (by omega : (m : Int) < (t.length : Int))]
          exact iteT ⟨_, rfl, _, rfl, _, _, _, rfl, rfl, lenS ht', atS hd, _, _, rfl, rfl, by decide, _, _, rfl, rfl, _, rfl, by rw [S_app, S_tl, decide_eq_true (hall d hm)]; exact q⟩
        · refine ⟨_, rfl, _, rfl, _, rfl, lenS ht', _, _, rfl, rfl, _, rfl, ?_⟩
          rw [S_len]
          by_cases hz : j + (c :: w).length < t.length
          · rw [decide_eq_true (by omega : ((j + (c :: w).length : Nat) : Int) < (t.length : Int))]
            obtain ⟨d, hd⟩ : ∃ d, t[j + (c :: w).length]? = some d := ⟨_, List.getElem?_eq_getElem hz⟩
            obtain ⟨r', er⟩ := stop_at hl hd
            exact iteT ⟨_, rfl, _, rfl, _, _, _, rfl, rfl, lenS ht', atS hd, _, _, rfl, rfl, by decide, _, _, rfl, rfl, _, rfl, by rw [S_app, S_tl, decide_eq_false (hr d r' er)]; exact q⟩
          · rw [decide_eq_false (by omega : ¬ ((j + (c :: w).length : Nat) : Int) < (t.length : Int))]
            exact iteF q
        · by_cases hw : c :: w ∈ wordsL
          · rw [if_pos hw] at eF
            refine ⟨_, rfl, _, rfl, _, rfl, _, rfl, _, rfl, _, rfl, lenS ht', _, _, rfl, Or.inr (G.kW _), rfl, flat_S, _, rfl, ?_⟩
            refine ite_is (c := true) (by rw [if_neg Bool.false_ne_true, cutSS' hl hj, inV_S, decide_eq_true hw]) (iteT ?_)
            refine ⟨_, rfl, Or.inl ⟨rfl, _, Or.inl (Or.inl hp)⟩, _, rfl, _, rfl, _, rfl, _, rfl, _, rfl, _, rfl, _, rfl, lenS ht', _, rfl, szS (by show 3 ≤ 100000; decide), fun a ha => ⟨p, ps.map V.ref, _, rfl, rfl, ?_, ?_, ?_⟩⟩
            · rw [upd_ne (fun e => by rw [e, ha] at hp; cases hp)]; exact hp
            · rw [List.length_map]; exact Nat.lt_of_le_of_lt (show ps.length ≤ 5000 by omega) (by decide)
            · obtain ⟨q1, q2, q3⟩ := push_tok ⟨"word", .str (S (c :: w)), j⟩ hp0 s2 hp hT ha
              rw [cutSS' hl hj]
              exact ⟨j + (c :: w).length, ps ++ [a], dn ++ [⟨"word", .str (S (c :: w)), j⟩], ts, _, _, _, by simp only [List.length_cons]; omega, hle, by rw [List.length_append]; simp only [List.length_cons, List.length_nil]; omega, rfl, q1, q2, q3, by rw [drop_drop2 hl]; exact n, by rw [eF, List.append_assoc]; rfl⟩
          · rw [if_neg hw] at eF
            refine ⟨_, rfl, _, rfl, _, rfl, _, rfl, _, rfl, _, rfl, lenS ht', _, _, rfl, Or.inr (G.kW _), rfl, flat_S, _, rfl, ?_⟩
            refine ite_is (c := false) (by rw [if_neg Bool.false_ne_true, cutSS' hl hj, inV_S, decide_eq_false hw]) (iteF ?_)
            refine ⟨_, rfl, Or.inl ⟨rfl, _, Or.inl (Or.inl hp)⟩, _, rfl, _, rfl, _, rfl, _, rfl, _, rfl, _, rfl, _, rfl, lenS ht', _, rfl, szS (by show 3 ≤ 100000; decide), fun a ha => ⟨p, ps.map V.ref, _, rfl, rfl, ?_, ?_, ?_⟩⟩
            · rw [upd_ne (fun e => by rw [e, ha] at hp; cases hp)]; exact hp
            · rw [List.length_map]; exact Nat.lt_of_le_of_lt (show ps.length ≤ 5000 by omega) (by decide)
            · obtain ⟨q1, q2, q3⟩ := push_tok ⟨"name", .str (S (c :: w)), j⟩ hp0 s2 hp hT ha
              rw [cutSS' hl hj]
              exact ⟨j + (c :: w).length, ps ++ [a], dn ++ [⟨"name", .str (S (c :: w)), j⟩], ts, _, _, _, by simp only [List.length_cons]; omega, hle, by rw [List.length_append]; simp only [List.length_cons, List.length_nil]; omega, rfl, q1, q2, q3, by rw [drop_drop2 hl]; exact n, by rw [eF, List.append_assoc]; rfl⟩
      | @num c w r _ ts _ hcs h hr hl11 n =>
        have hc := hfst _ _ hl
        have hle := len_drop hl hj
        have hall : ∀ d ∈ c :: w, d ∈ fiL := fun d hd => (List.mem_cons.mp hd).elim (fun e => by rw [e]; exact hcs) (h d)
        refine ⟨_, rfl, _, rfl, _, _, _, rfl, rfl, lenS ht', atS hc, _, _, rfl, rfl, _, rfl, ite_inlit e32 (fun q => absurd q (dis_fi c hcs).1) (fun _ => ?_)⟩
        refine ⟨_, rfl, _, rfl, _, _, _, rfl, rfl, lenS ht', atS hc, rfl, _, rfl, ite_eqlit e35 (fun q => absurd q (dis_fi c hcs).2.1) (fun _ => ?_)⟩
        refine ⟨_, rfl, _, rfl, _, _, _, rfl, rfl, lenS ht', atS hc, _, _, rfl, rfl, _, rfl, ite_inlit rfl (fun q => absurd q (dis_fi c hcs).2.2) (fun _ => ?_)⟩
        refine ⟨_, rfl, _, rfl, _, _, _, rfl, rfl, lenS ht', atS hc, _, _, rfl, rfl, _, rfl, ite_inlit rfl (fun _ => ?_) (fun q => absurd hcs q)⟩
        refine while_count (fun m => [some (.str (S t)), some (.ref p), some (.int ((m : Nat) : Int)), some (.int (j : Int)), v4, v5]) _ j (j + (c :: w).length) (by omega) (fun m h0 h1 Q' q => ?_) (fun Q' q => ?_) (fun m D' hD => ⟨_, rfl, _, _, rfl, rfl, hD⟩) ?_
        · obtain ⟨d, hd, hm⟩ := scan_at hl h0 h1
          refine ⟨_, rfl, _, rfl, _, rfl, lenS ht', _, _, rfl, rfl, _, rfl, ?_⟩
          rw [S_len, decide_eq_true (by omega : (m : Int) < (t.length : Int))]
          exact iteT ⟨_, rfl, _, rfl, _, _, _, rfl, rfl, lenS ht', atS hd, _, _, rfl, rfl, _, rfl, by rw [S_tl, decide_eq_true (hall d hm)]; exact q⟩
        · refine ⟨_, rfl, _, rfl, _, rfl, lenS ht', _, _, rfl, rfl, _, rfl, ?_⟩
          rw [S_len]
          by_cases hz : j + (c :: w).length < t.length
          · rw [decide_eq_true (by omega : ((j + (c :: w).length : Nat) : Int) < (t.length : Int))]
            obtain ⟨d, hd⟩ : ∃ d, t[j + (c :: w).length]? = some d := ⟨_, List.getElem?_eq_getElem hz⟩
            obtain ⟨r', er⟩ := stop_at hl hd
            exact iteT ⟨_, rfl, _, rfl, _, _, _, rfl, rfl, lenS ht', atS hd, _, _, rfl, rfl, _, rfl, by rw [S_tl, decide_eq_false (hr d r' er)]; exact q⟩
          · rw [decide_eq_false (by omega : ¬ ((j + (c :: w).length : Nat) : Int) < (t.length : Int))]
            exact iteF q
        · refine ⟨_, rfl, _, rfl, _, _, rfl, rfl, _, _, rfl, rfl, _, rfl, ?_⟩
          rw [decide_eq_false (by simp only [List.length_cons]; omega : ¬ ((12 : Int) < ((j + (c :: w).length : Nat) : Int) - (j : Int)))]
          refine iteF ?_
          have hdig : (c :: w).all (fun c => decide (48 ≤ c) && decide (c ≤ 57)) = true := List.all_eq_true.mpr fun d hd => fi_dig d (hall d hd)
          refine ⟨_, rfl, Or.inl ⟨rfl, _, Or.inl (Or.inl hp)⟩, _, rfl, _, rfl, _, rfl, _, rfl, _, rfl, _, rfl, lenS ht', _, ((NumText.digitsVal (c :: w) : Nat) : Int), rfl, ?_, ?_, _, rfl, szS (by show 3 ≤ 100000; decide), fun a ha => ⟨p, ps.map V.ref, _, rfl, rfl, ?_, ?_, ?_⟩⟩
          · rw [cutSS' hl hj]; exact SX.int_S hdig (List.cons_ne_nil _ _) (by simp only [List.length_cons]; omega)
          · rw [cutSS' hl hj, S_len]; simp only [List.length_cons]; omega
          · rw [upd_ne (fun e => by rw [e, ha] at hp; cases hp)]; exact hp
          · rw [List.length_map]; exact Nat.lt_of_le_of_lt (show ps.length ≤ 5000 by omega) (by decide)
          · obtain ⟨q1, q2, q3⟩ := push_tok ⟨"number", .int (NumText.digitsVal (c :: w) : Nat), j⟩ hp0 s2 hp hT ha
            exact ⟨j + (c :: w).length, ps ++ [a], dn ++ [⟨"number", .int (NumText.digitsVal (c :: w) : Nat), j⟩], ts, _, _, _, by simp only [List.length_cons]; omega, hle, by rw [List.length_append]; simp only [List.length_cons, List.length_nil]; omega, rfl, q1, q2, q3, by rw [drop_drop2 hl]; exact n, by rw [eF, List.append_assoc]; rfl⟩
      | @numBad c w r _ hcs h hr hl11 =>
        have hc := hfst _ _ hl
        have hle := len_drop hl hj
        have hall : ∀ d ∈ c :: w, d ∈ fiL := fun d hd => (List.mem_cons.mp hd).elim (fun e => by rw [e]; exact hcs) (h d)
        refine ⟨_, rfl, _, rfl, _, _, _, rfl, rfl, lenS ht', atS hc, _, _, rfl, rfl, _, rfl, ite_inlit e32 (fun q => absurd q (dis_fi c hcs).1) (fun _ => ?_)⟩
        refine ⟨_, rfl, _, rfl, _, _, _, rfl, rfl, lenS ht', atS hc, rfl, _, rfl, ite_eqlit e35 (fun q => absurd q (dis_fi c hcs).2.1) (fun _ => ?_)⟩
        refine ⟨_, rfl, _, rfl, _, _, _, rfl, rfl, lenS ht', atS hc, _, _, rfl, rfl, _, rfl, ite_inlit rfl (fun q => absurd q (dis_fi c hcs).2.2) (fun _ => ?_)⟩
        refine ⟨_, rfl, _, rfl, _, _, _, rfl, rfl, lenS ht', atS hc, _, _, rfl, rfl, _, rfl, ite_inlit rfl (fun _ => ?_) (fun q => absurd hcs q)⟩
        refine while_count (fun m => [some (.str (S t)), some (.ref p), some (.int ((m : Nat) : Int)), some (.int (j : Int)), v4, v5]) _ j (j + (c :: w).length) (by omega) (fun m h0 h1 Q' q => ?_) (fun Q' q => ?_) (fun m D' hD => ⟨_, rfl, _, _, rfl, rfl, hD⟩) ?_
        · obtain ⟨d, hd, hm⟩ := scan_at hl h0 h1
          refine ⟨_, rfl, _, rfl, _, rfl, lenS ht', _, _, rfl, rfl, _, rfl, ?_⟩
          rw [S_len, decide_eq_true (by omega : (m : Int) < (t.length : Int))]
          exact iteT ⟨_, rfl, _, rfl, _, _, _, rfl, rfl, lenS ht', atS hd, _, _, rfl, rfl, _, rfl, by rw [S_tl, decide_eq_true (hall d hm)]; exact q⟩
        · refine ⟨_, rfl, _, rfl, _, rfl, lenS ht', _, _, rfl, rfl, _, rfl, ?_⟩
          rw [S_len]
          by_cases hz : j + (c :: w).length < t.length
          · rw [decide_eq_true (by omega : ((j + (c :: w).length : Nat) : Int) < (t.length : Int))]
            obtain ⟨d, hd⟩ : ∃ d, t[j + (c :: w).length]? = some d := ⟨_, List.getElem?_eq_getElem hz⟩
            obtain ⟨r', er⟩ := stop_at hl hd
            exact iteT ⟨_, rfl, _, rfl, _, _, _, rfl, rfl, lenS ht', atS hd, _, _, rfl, rfl, _, rfl, by rw [S_tl, decide_eq_false (hr d r' er)]; exact q⟩
          · rw [decide_eq_false (by omega : ¬ ((j + (c :: w).length : Nat) : Int) < (t.length : Int))]
            exact iteF q
        · refine ⟨_, rfl, _, rfl, _, _, rfl, rfl, _, _, rfl, rfl, _, rfl, ?_⟩
          rw [decide_eq_true (by simp only [List.length_cons]; omega : ((12 : Int) < ((j + (c :: w).length : Nat) : Int) - (j : Int)))]
          exact iteT ⟨_, rfl, _, rfl, fun d hd => erF j rfl H2 d s2 hd⟩
      | @txt r _ s5 m5 ts _ h hs n =>
        have hc := hfst _ _ hl
        refine ⟨_, rfl, _, rfl, _, _, _, rfl, rfl, lenS ht', atS hc, _, _, rfl, rfl, _, rfl, ite_inlit e32 (fun q => absurd q (by decide)) (fun _ => ?_)⟩
        refine ⟨_, rfl, _, rfl, _, _, _, rfl, rfl, lenS ht', atS hc, rfl, _, rfl, ite_eqlit e35 (fun q => absurd q (by decide)) (fun _ => ?_)⟩
        refine ⟨_, rfl, _, rfl, _, _, _, rfl, rfl, lenS ht', atS hc, _, _, rfl, rfl, _, rfl, ite_inlit rfl (fun q => absurd q (by decide)) (fun _ => ?_)⟩
        refine ⟨_, rfl, _, rfl, _, _, _, rfl, rfl, lenS ht', atS hc, _, _, rfl, rfl, _, rfl, ite_inlit rfl (fun q => absurd q (by decide)) (fun _ => ?_)⟩
        refine ⟨_, rfl, _, rfl, _, _, _, rfl, rfl, lenS ht', atS hc, rfl, _, rfl, ite_eqlit e34 (fun _ => ?_) (fun q => absurd rfl q)⟩
        have hd1 : t.drop (j + 1) = r := drop_drop2 (a := [34]) hl
        have hl1 : (t.drop (j + 1)).length = r.length := by rw [hd1]
        rw [List.length_drop] at hl1
        refine ⟨_, rfl, _, rfl, t, j, rfl, by omega, hlt, ?_⟩
        rw [hd1, h]
        intro b H3 s3 hb hH3
        refine ⟨b, _, rfl, Or.inl (Or.inl hH3), rfl, _, _, rfl, _, _, rfl, rfl, ?_⟩
        have hp3 : H3 p = some (.lst (ps.map V.ref)) := s3 _ _ hp
        refine ⟨_, rfl, Or.inl ⟨rfl, _, Or.inl (Or.inl hp3)⟩, _, rfl, _, rfl, szS (by show 3 ≤ 100000; decide), fun a ha => ⟨p, ps.map V.ref, _, rfl, rfl, ?_, ?_, ?_⟩⟩
        · rw [upd_ne (fun e => by rw [e, ha] at hp3; cases hp3)]; exact hp3
        · rw [List.length_map]; exact Nat.lt_of_le_of_lt (show ps.length ≤ 5000 by omega) (by decide)
        · obtain ⟨q1, q2, q3⟩ := push_tok ⟨"text", .str (S s5), j⟩ hp0 (s2.trans s3) hp3 (hT.mono fun c o e => s3 _ _ e) ha
          exact ⟨j + 1 + m5, ps ++ [a], dn ++ [⟨"text", .str (S s5), j⟩], ts, _, _, _, by omega, by omega, by rw [List.length_append]; simp only [List.length_cons, List.length_nil]; omega, rfl, q1, q2, q3, by rw [← List.drop_drop, hd1]; exact n, by rw [eF, List.append_assoc]; rfl⟩
      | @txtBad r _ k5 h =>
        have hc := hfst _ _ hl
        refine ⟨_, rfl, _, rfl, _, _, _, rfl, rfl, lenS ht', atS hc, _, _, rfl, rfl, _, rfl, ite_inlit e32 (fun q => absurd q (by decide)) (fun _ => ?_)⟩
        refine ⟨_, rfl, _, rfl, _, _, _, rfl, rfl, lenS ht', atS hc, rfl, _, rfl, ite_eqlit e35 (fun q => absurd q (by decide)) (fun _ => ?_)⟩
        refine ⟨_, rfl, _, rfl, _, _, _, rfl, rfl, lenS ht', atS hc, _, _, rfl, rfl, _, rfl, ite_inlit rfl (fun q => absurd q (by decide)) (fun _ => ?_)⟩
        refine ⟨_, rfl, _, rfl, _, _, _, rfl, rfl, lenS ht', atS hc, _, _, rfl, rfl, _, rfl, ite_inlit rfl (fun q => absurd q (by decide)) (fun _ => ?_)⟩
        refine ⟨_, rfl, _, rfl, _, _, _, rfl, rfl, lenS ht', atS hc, rfl, _, rfl, ite_eqlit e34 (fun _ => ?_) (fun q => absurd rfl q)⟩
        have hd1 : t.drop (j + 1) = r := drop_drop2 (a := [34]) hl
        refine ⟨_, rfl, _, rfl, t, j, rfl, by omega, hlt, ?_⟩
        rw [hd1, h]
        exact thr k5 rfl H2 s2
      | @two c d r _ ts _ h n =>
        have hc := hfst _ _ hl
        have hle : j + 2 ≤ t.length := len_drop (a := [c, d]) hl hj
        refine ⟨_, rfl, _, rfl, _, _, _, rfl, rfl, lenS ht', atS hc, _, _, rfl, rfl, _, rfl, ite_inlit e32 (fun q => absurd q (dis_two _ h c d rfl).1) (fun _ => ?_)⟩
        refine ⟨_, rfl, _, rfl, _, _, _, rfl, rfl, lenS ht', atS hc, rfl, _, rfl, ite_eqlit e35 (fun q => absurd q (dis_two _ h c d rfl).2.1) (fun _ => ?_)⟩
        refine ⟨_, rfl, _, rfl, _, _, _, rfl, rfl, lenS ht', atS hc, _, _, rfl, rfl, _, rfl, ite_inlit rfl (fun q => absurd q (dis_two _ h c d rfl).2.2.1) (fun _ => ?_)⟩
        refine ⟨_, rfl, _, rfl, _, _, _, rfl, rfl, lenS ht', atS hc, _, _, rfl, rfl, _, rfl, ite_inlit rfl (fun q => absurd q (dis_two _ h c d rfl).2.2.2.1) (fun _ => ?_)⟩
        refine ⟨_, rfl, _, rfl, _, _, _, rfl, rfl, lenS ht', atS hc, rfl, _, rfl, ite_eqlit e34 (fun q => absurd q (dis_two _ h c d rfl).2.2.2.2) (fun _ => ?_)⟩
        refine ⟨_, rfl, _, rfl, _, rfl, _, rfl, _, _, rfl, rfl, _, rfl, _, rfl, lenS ht', _, _, rfl, Or.inr (G.kT _), rfl, flat_S, _, rfl, ?_⟩
        refine ite_is (c := true) (by rw [if_neg Bool.false_ne_true, show cutS (S t) (some (j : Int)) (some ((j : Int) + 2)) = S [c, d] from cutSS' (a := [c, d]) hl hj, inV_S, decide_eq_true h]) (iteT ?_)
        refine ⟨_, rfl, _, _, rfl, rfl, ?_⟩
        refine ⟨_, rfl, Or.inl ⟨rfl, _, Or.inl (Or.inl hp)⟩, _, rfl, _, rfl, _, rfl, _, rfl, _, rfl, _, rfl, lenS ht', _, rfl, szS (by show 3 ≤ 100000; decide), fun a ha => ⟨p, ps.map V.ref, _, rfl, rfl, ?_, ?_, ?_⟩⟩
        · rw [upd_ne (fun e => by rw [e, ha] at hp; cases hp)]; exact hp
        · rw [List.length_map]; exact Nat.lt_of_le_of_lt (show ps.length ≤ 5000 by omega) (by decide)
        · obtain ⟨q1, q2, q3⟩ := push_tok ⟨"sign", .str (S [c, d]), j⟩ hp0 s2 hp hT ha
          rw [show cutS (S t) (some (j : Int)) (some ((j : Int) + 2)) = S [c, d] from cutSS' (a := [c, d]) hl hj]
          exact ⟨j + 2, ps ++ [a], dn ++ [⟨"sign", .str (S [c, d]), j⟩], ts, _, _, _, by omega, hle, by rw [List.length_append]; simp only [List.length_cons, List.length_nil]; omega, rfl, q1, q2, q3, by rw [show t.drop (j + 2) = r from drop_drop2 (a := [c, d]) hl]; exact n, by rw [eF, List.append_assoc]; rfl⟩
      | @one c r _ ts _ h hr n =>
        have hc := hfst _ _ hl
        have hle : j + 1 ≤ t.length := hlt
        refine ⟨_, rfl, _, rfl, _, _, _, rfl, rfl, lenS ht', atS hc, _, _, rfl, rfl, _, rfl, ite_inlit e32 (fun q => absurd q (dis_one c h).1) (fun _ => ?_)⟩
        refine ⟨_, rfl, _, rfl, _, _, _, rfl, rfl, lenS ht', atS hc, rfl, _, rfl, ite_eqlit e35 (fun q => absurd q (dis_one c h).2.1) (fun _ => ?_)⟩
        refine ⟨_, rfl, _, rfl, _, _, _, rfl, rfl, lenS ht', atS hc, _, _, rfl, rfl, _, rfl, ite_inlit rfl (fun q => absurd q (dis_one c h).2.2.1) (fun _ => ?_)⟩
        refine ⟨_, rfl, _, rfl, _, _, _, rfl, rfl, lenS ht', atS hc, _, _, rfl, rfl, _, rfl, ite_inlit rfl (fun q => absurd q (dis_one c h).2.2.2.1) (fun _ => ?_)⟩
        refine ⟨_, rfl, _, rfl, _, _, _, rfl, rfl, lenS ht', atS hc, rfl, _, rfl, ite_eqlit e34 (fun q => absurd q (dis_one c h).2.2.2.2) (fun _ => ?_)⟩
        refine ⟨_, rfl, _, rfl, _, rfl, _, rfl, _, _, rfl, rfl, _, rfl, _, rfl, lenS ht', _, _, rfl, Or.inr (G.kT _), rfl, flat_S, _, rfl, ?_⟩
        refine ite_is (c := false) (by rw [if_neg Bool.false_ne_true, cut2 hj, hl]; exact two_no hr) (iteF ?_)
        refine ⟨_, rfl, _, rfl, _, _, _, rfl, rfl, lenS ht', atS hc, _, _, rfl, rfl, _, rfl, ite_inlit rfl (fun _ => ?_) (fun q => absurd h q)⟩
        refine ⟨_, rfl, _, _, rfl, rfl, ?_⟩
        refine ⟨_, rfl, Or.inl ⟨rfl, _, Or.inl (Or.inl hp)⟩, _, rfl, _, rfl, _, rfl, _, rfl, _, rfl, _, rfl, lenS ht', _, rfl, szS (by show 3 ≤ 100000; decide), fun a ha => ⟨p, ps.map V.ref, _, rfl, rfl, ?_, ?_, ?_⟩⟩
        · rw [upd_ne (fun e => by rw [e, ha] at hp; cases hp)]; exact hp
        · rw [List.length_map]; exact Nat.lt_of_le_of_lt (show ps.length ≤ 5000 by omega) (by decide)
        · obtain ⟨q1, q2, q3⟩ := push_tok ⟨"sign", .str (S [c]), j⟩ hp0 s2 hp hT ha
          rw [show cutS (S t) (some (j : Int)) (some ((j : Int) + 1)) = S [c] from cutSS' (a := [c]) hl hj]
          exact ⟨j + 1, ps ++ [a], dn ++ [⟨"sign", .str (S [c]), j⟩], ts, _, _, _, by omega, hle, by rw [List.length_append]; simp only [List.length_cons, List.length_nil]; omega, rfl, q1, q2, q3, by rw [show t.drop (j + 1) = r from drop_drop2 (a := [c]) hl]; exact n, by rw [eF, List.append_assoc]; rfl⟩
      | @bad c _ h =>
        have hc := hfst _ _ hl
        refine ⟨_, rfl, _, rfl, _, _, _, rfl, rfl, lenS ht', atS hc, _, _, rfl, rfl, _, rfl, ite_inlit e32 (fun q => absurd q (dis_bad c h).1) (fun _ => ?_)⟩
        refine ⟨_, rfl, _, rfl, _, _, _, rfl, rfl, lenS ht', atS hc, rfl, _, rfl, ite_eqlit e35 (fun q => absurd q (dis_bad c h).2.1) (fun _ => ?_)⟩
        refine ⟨_, rfl, _, rfl, _, _, _, rfl, rfl, lenS ht', atS hc, _, _, rfl, rfl, _, rfl, ite_inlit rfl (fun q => absurd q (dis_bad c h).2.2.1) (fun _ => ?_)⟩
        refine ⟨_, rfl, _, rfl, _, _, _, rfl, rfl, lenS ht', atS hc, _, _, rfl, rfl, _, rfl, ite_inlit rfl (fun q => absurd q (dis_bad c h).2.2.2.1) (fun _ => ?_)⟩
        refine ⟨_, rfl, _, rfl, _, _, _, rfl, rfl, lenS ht', atS hc, rfl, _, rfl, ite_eqlit e34 (fun q => absurd q (dis_bad c h).2.2.2.2.1) (fun _ => ?_)⟩
        refine ⟨_, rfl, _, rfl, _, rfl, _, rfl, _, _, rfl, rfl, _, rfl, _, rfl, lenS ht', _, _, rfl, Or.inr (G.kT _), rfl, flat_S, _, rfl, ?_⟩
        refine ite_is (c := false) (by rw [if_neg Bool.false_ne_true, cut2 hj, hl]; exact two_no (fun d r' e => nomatch e)) (iteF ?_)
        refine ⟨_, rfl, _, rfl, _, _, _, rfl, rfl, lenS ht', atS hc, _, _, rfl, rfl, _, rfl, ite_inlit rfl (fun q => absurd q (dis_bad c h).2.2.2.2.2) (fun _ => ?_)⟩
        exact ⟨_, rfl, _, rfl, fun d hd => erF j rfl H2 d s2 hd⟩
    · rcases h with rfl | ⟨t, rfl, h1, h2⟩
      · refine ⟨_, rfl, _, _, _, _, false, rfl, .ty _, .base .non, rfl, _, rfl, ?_⟩
        exact iteT (iteT ⟨_, rfl, fun d hd => fin d _ (same_new hd) upd_same⟩)
      · refine ⟨_, rfl, _, _, _, _, true, rfl, .ty _, .base (.str _), rfl, _, rfl, ?_⟩
        refine iteF ⟨_, rfl, _, rfl, lenS h2, _, _, rfl, rfl, _, rfl, ?_⟩
        rw [S_len, decide_eq_true (by omega : ((3000 : Int) < (t.length : Int)))]
        exact iteT ⟨_, rfl, fun d hd => fin d _ (same_new hd) upd_same⟩
end
end EH

set_option Elab.async false
set_option linter.all false
set_option maxRecDepth 100000
set_option maxHeartbeats 4000000
namespace L2
open PySem PySem.Spec PyProof.Rows
/-- isinstance(e, c), e the caught exception, with fields of its own in the dict at dd -/
def rIsEd (K : PySem.W.Frag) (D : Addr) (a : Addr) (cls : Value) (d : Option Addr) : List V → Hp → VK → Prop := fun xs H Q => ∃ (c : V) (cv : Value) (b : Bool) (dd : Addr) (fs : List (Str × V)), xs = [.ref a, c] ∧ (∀ u, RelV c u → u = cv) ∧ cls = .ref D ∧ d = some dd ∧ H dd = some (.xd fs) ∧ PySem.W.kitOne K (.ref D) cv = some b ∧ Q (.bl b) H
theorem call_isEd {X : Cx} {a D : Addr} {oe : Obj} {cls : Value} {d : Option Addr} {pn : List (Addr × Obj)} (C : ExcC X.K D) (hz : Zc cls d oe) (hf : ∃ vs, oe.data = .fields vs) : CallR (X.suite a ((a, oe) :: pn)) (.builtin "isinstance") (rIsEd X.K D a cls d) := by
  intro pins s σ H xs us Q I r h
  obtain ⟨c, cv, b, dd, fs, rfl, hcv, rfl, rfl, hdd, e, q⟩ := h
  obtain ⟨u1, u2, rfl, r1, r2⟩ := vals2 r
  obtain rfl : u1 = Value.ref a := r1
  obtain rfl := hcv _ r2
  obtain ⟨hget, _⟩ := I.pin (a, oe) (List.mem_append.mpr (.inl List.mem_cons_self))
  obtain ⟨vs, hv⟩ := hf
  have hx : ObjOk X.prog X.w H s.heap dd (.xd fs) := I.hok dd _ hdd
  obtain ⟨mA, hns, hr⟩ := hx
  obtain ⟨od, ho, hl⟩ := lookIn_ns hns
  have J : PySem.W.InstAt s.heap a oe D (some od) := ⟨hget, hz.1, by unfold PySem.W.notCls; rw [hv] <;> rfl, by rw [hz.2]; exact ho⟩
  have hcl : (PySem.W.clsIn X.K D).isSome = true := by
    obtain ⟨cd, hc, _⟩ := PySem.W.any_some C.hd
    rw [hc]
    rfl
  exact PySem.W.kia_one (PySem.W.kitx_exc hcl C.hg C.hk C.hs C.ha C.hn C.ht C.hm) I.kIn J e (fun z => nomatch z) fun tk => ⟨.bl b, H, I.kept (t' := tk) fun _ _ z => z, rfl, q⟩
end L2
namespace EH
open PySem PySem.Spec PyProof.Rows L2
def spPlace : Sp := fun vs H Q _ => ∃ x j, vs = [x] ∧ ((∃ t ts, x = .str (S t) ∧ t.length ≤ 3000 ∧ Lx t 0 ts (some j)) ∨ ((x = .non ∨ ∃ t : List Nat, x = .str (S t) ∧ 3000 < t.length ∧ t.length ≤ 100000) ∧ j = 0)) ∧
  ∀ H', Same H H' → Q (.int (j : Int)) H'
structure PlaceG (K : PySem.W.Frag) (mg : Str → Option Value) (C CF fC : Addr) : Prop where
  mC : mg "cut" = some (.ref fC)
  mB : mg "BadText" = some (.ref C)
  mF : mg "EngineFault" = some (.ref CF)
  zIsi : mg "isinstance" = none
  zVE : mg "ValueError" = none
  ex : ExcC K C
  xf : XfC K C
  noN : PySem.W.findIn K (.ref C) "place" = some none
  te : PySem.W.exmOne K (.ref C) (.ref C) = some true
  k1 : PySem.W.kitOne K (.ref C) (.ref CF) = some true
  k2 : PySem.W.kitOne K (.ref C) (.type "ValueError") = some true
section
variable {P : Program} {w : World} {K : PySem.W.Frag} {mg : Str → Option Value} {base : Heap} {f C CF fC : Addr} {fd fdC : FuncData}
theorem scPlace : FnScope ["text", "e"] ["text"] (defScope sPlace) := ⟨rfl, rfl, rfl, by decide +kernel, rfl, by decide +kernel, by decide +kernel⟩
theorem ok_place (F : FnP K "_law_place" sPlace f fd) (G : PlaceG K mg C CF fC) (FC : FnP K "cut" sCut fC fdC) (bC : Binds K fdC ["text"] []) (GC : FnOk P w K mg base (L2.CX P w) 3 fC fdC ["text"] (spCut C)) :
    FnOk P w K mg base CX0 4 f fd ["text"] spPlace := by
  refine F.ok scPlace (fun vs H Q E h => ?_) (fun cdv A outer s H vs Q E hr h => ?_)
  · obtain ⟨x, j, rfl, _⟩ := h
    rfl
  · obtain ⟨x, j, rfl, hx, fin⟩ := h
    refine ⟨_, PSs.nox (pss_cons (ps_try_as (i := 1) (tb := fun W => tDrop (tCallS (spCut C) (WE W) (tCons (tVar 0) tNil)))
        (ts := fun a cls d => tRet (tIf (tAnd (tB (tCB (rIsEd K C a cls d) (tCons (tVar 1) (tCons (tC (.ref CF)) tNil)))) (tB (tCB (rIsEd K C a cls d) (tCons (tVar 1) (tCons (tC (.ty "ValueError")) tNil))))) (tXf a cls d C "place" (tVar 1)) (tC .non)))
        (Wout := fun _ _ _ _ => False) rfl rfl scPlace.nd rfl rfl ⟨rfl, by decide, Or.inl G.mB⟩ takes0
        (fun W pn xe tk _ => pss_one (ps_expr (by exact (pe_callS GC hr rfl G.mC FC.kp bC (fun σ => passAt tk σ) (by exact (pa_cons (pv 0) pa_nil))))))
        (fun a oe cls d pn hz hf => pss_one (ps_ret (by exact (pe_ifExp (pw_and (pt_val (pe_callB (call_isEd G.ex hz hf) (by rfl) G.zIsi (by decide +kernel) (pa_cons (pv 1) (pa_cons (pe_glob (x := "EngineFault") (v := .ref CF) (u := .ref CF) (by rfl) G.mF rfl) pa_nil)))) (pw_and1 (pt_val (pe_callB (call_isEd G.ex hz hf) (by rfl) G.zIsi (by decide +kernel) (pa_cons (pv 1) (pa_cons (pe_bltn (x := "ValueError") (v := .ty "ValueError") (u := .type "ValueError") (by rfl) G.zVE (by decide +kernel) rfl) pa_nil)))))).pt
          (pe_xf G.xf G.noN hz hf (pv 1)) pe_non)))))
      (pss_one (ps_ret pe_str))), ?_⟩
    have thr : Thrown C "place" j H (WE (wAs K (.ref C) 1 (fun a cls d => tRet (tIf (tAnd (tB (tCB (rIsEd K C a cls d) (tCons (tVar 1) (tCons (tC (.ref CF)) tNil)))) (tB (tCB (rIsEd K C a cls d) (tCons (tVar 1) (tCons (tC (.ty "ValueError")) tNil))))) (tXf a cls d C "place" (tVar 1)) (tC .non))) (fun _ _ _ _ => False)
        { nx := fun σ' H' => tRet (tC (.str "cut")) { nx := fun _ H' => Q .non H', rt := Q } σ' H', rt := Q }) (L2.start ["text", "e"] [x])) := by
      intro dd H1 s1 hd
      refine ⟨true, G.te, fun _ a ha => ?_, fun q => Bool.noConfusion q⟩
      refine ⟨_, rfl, _, (.ref CF), true, dd, _, rfl, fun u r => r, rfl, rfl, hd, G.k1, _, rfl, iteT ?_⟩
      refine ⟨_, rfl, _, (.type "ValueError"), true, dd, _, rfl, fun u r => r, rfl, rfl, hd, G.k2, _, rfl, iteT ?_⟩
      exact ⟨_, rfl, rfl, rfl, dd, _, _, rfl, hd, by simp [List.lookup], fin H1 s1⟩
    refine ⟨_, rfl, x, rfl, ?_⟩
    rcases hx with ⟨t, ts, rfl, ht, hL⟩ | ⟨hx, rfl⟩
    · exact Or.inl ⟨t, ts, some j, rfl, ht, hL, thr⟩
    · exact Or.inr ⟨hx, thr⟩
end
end EH

set_option Elab.async false
set_option linter.all false
set_option maxRecDepth 100000
set_option maxHeartbeats 4000000
namespace EH
open PySem PySem.Spec PyProof.Rows L2
/-! ### the plain law: parts laid one behind the other -/
def TailOk (r : List Nat) : Prop := ∀ d r', r = d :: r' → d ∈ [32, 10, 35]
def PreLx (l : List Nat) (ts : List Tk) : Prop := ∀ tail ts' o, TailOk tail → Lx tail l.length ts' o → Lx (l ++ tail) 0 (ts ++ ts') o
def SepOk (sep : List Nat) : Prop := (∃ c s, sep = c :: s ∧ c ∈ [32, 10, 35]) ∧ ∀ r k ts o, Lx r (k + sep.length) ts o → Lx (sep ++ r) k ts o
def PartOk (what : List Nat) (kind : Str) (val : V) : Prop := ∀ r k ts o, TailOk r → Lx r (k + what.length) ts o → Lx (what ++ r) k (⟨kind, val, k⟩ :: ts) o
theorem pre_nil : PreLx [] [] := fun tail ts' o _ h => h
theorem pre_step {l sep what : List Nat} {ts : List Tk} {kind : Str} {val : V} (h : PreLx l ts) (hs : SepOk sep) (hp : PartOk what kind val) : PreLx (l ++ sep ++ what) (ts ++ [⟨kind, val, (l ++ sep).length⟩]) := by
  intro tail ts' o ht hx
  obtain ⟨⟨c, s, rfl, hc⟩, hs⟩ := hs
  have e : l ++ c :: s ++ what ++ tail = l ++ (c :: s ++ (what ++ tail)) := by simp
  rw [e, List.append_assoc ts]
  refine h _ _ _ (fun d r' q => by rw [← (List.cons.inj q).1]; exact hc) (hs _ _ _ _ ?_)
  rw [List.length_append]
  refine hp _ _ _ _ ht ?_
  rw [List.length_append, List.length_append] at hx
  exact hx
theorem pre_end {l : List Nat} {ts : List Tk} (h : PreLx l ts) : Lx l 0 ts none := by
  have := h [] [] none (fun d r' q => by cases q) .fin
  rwa [List.append_nil, List.append_nil] at this
theorem pre_bad {l tail : List Nat} {ts : List Tk} {j : Nat} (h : PreLx l ts) (ht : TailOk tail) (hx : Lx tail l.length [] (some j)) : Lx (l ++ tail) 0 ts (some j) := by
  have := h tail [] (some j) ht hx
  rwa [List.append_nil] at this
/-! separators -/
theorem lx_blank1 {r : List Nat} {k : Nat} {ts : List Tk} {o : Option Nat} (c : Nat) (hc : c ∈ [32, 10]) (h : Lx r (k + 1) ts o) : Lx (c :: r) k ts o := .blank hc h
theorem sep_1 (c : Nat) (hc : c ∈ [32, 10]) : SepOk [c] := ⟨⟨c, [], rfl, by revert c; decide⟩, fun r k ts o h => .blank hc h⟩
theorem sep_2 : SepOk [32, 32] := ⟨⟨32, [32], rfl, by decide⟩, fun r k ts o h => .blank (by decide) (.blank (by decide) h)⟩
theorem sep_3 : SepOk [35, 32, 97, 32, 114, 101, 109, 97, 114, 107, 10] := ⟨⟨35, _, rfl, by decide⟩, fun r k ts o h =>
  .remark (w := [32, 97, 32, 114, 101, 109, 97, 114, 107]) (r := 10 :: r) (by decide) (fun d r' q => (List.cons.inj q).1.symm) (.blank (by decide) h)⟩
/-! parts -/
theorem tail_smfi {r : List Nat} (h : TailOk r) : ∀ d r', r = d :: r' → d ∉ smL ++ fiL := fun d r' e => by
  have := h d r' e
  have z : ∀ d ∈ [32, 10, 35], d ∉ smL ++ fiL := by decide
  exact z d this
theorem tail_fi {r : List Nat} (h : TailOk r) : ∀ d r', r = d :: r' → d ∉ fiL := fun d r' e q => tail_smfi h d r' e (List.mem_append_right _ q)
theorem part_word {c : Nat} {w : List Nat} (hc : c ∈ smL) (h : ∀ d ∈ w, d ∈ smL ++ fiL) : PartOk (c :: w) (if c :: w ∈ wordsL then "word" else "name") (.str (S (c :: w))) :=
  fun r k ts o ht hx => .word hc h (tail_smfi ht) hx
theorem part_num {n : Nat} (hn : n < 100000) : PartOk (TL.numL n) "number" (.int (n : Int)) := by
  intro r k ts o ht hx
  have hd : ∀ d ∈ TL.numL n, d ∈ fiL := fun d hd => by
    have := TL.numL_digits n d hd
    have z : ∀ d, d < 58 → 48 ≤ d → d ∈ fiL := by decide
    exact z d (by omega) (by omega)
  have hl : (TL.numL n).length ≤ 5 := TL.numL_len (by decide) hn
  have hv := TL.numL_val n
  cases e : TL.numL n with
  | nil => exact absurd e (TL.numL_ne n)
  | cons c w =>
    rw [e] at hd hl hv hx
    have := Lx.num (k := k) (hd c List.mem_cons_self) (fun d q => hd d (List.mem_cons_of_mem _ q)) (tail_fi ht) (by simp only [List.length_cons] at hl; omega) hx
    rw [hv] at this
    exact this
theorem txt_esc {inner : List Nat} : ∀ (k : Nat) (acc r : List Nat), (∀ c ∈ inner, c ∈ prL) → txtGo (inner.flatMap esc ++ 34 :: r) k acc = .ok (acc ++ inner, k + (inner.flatMap esc).length + 1) := by
  induction inner with
  | nil =>
    intro k acc r _
    show txtGo (34 :: r) k acc = _
    rw [txtGo_quote, List.append_nil]
    rfl
  | cons c l ih =>
    intro k acc r hp
    have hl : ∀ d ∈ l, d ∈ prL := fun d hd => hp d (List.mem_cons_of_mem _ hd)
    have hc : c ∈ prL := hp c List.mem_cons_self
    rw [List.flatMap_cons, List.append_assoc]
    by_cases h10 : c = 10
    · subst h10
      show txtGo (92 :: 110 :: (l.flatMap esc ++ 34 :: r)) k acc = _
      rw [txtGo_esc (by decide), ih _ _ _ hl, if_pos rfl]
      show _ = Except.ok (acc ++ 10 :: l, k + ([92, 110] ++ l.flatMap esc).length + 1)
      simp
      omega
    · by_cases h34 : c = 34
      · subst h34
        show txtGo (92 :: 34 :: (l.flatMap esc ++ 34 :: r)) k acc = _
        rw [txtGo_esc (by decide), ih _ _ _ hl, if_neg (by decide)]
        show _ = Except.ok (acc ++ 34 :: l, k + ([92, 34] ++ l.flatMap esc).length + 1)
        simp
        omega
      · by_cases h92 : c = 92
        · subst h92
          show txtGo (92 :: 92 :: (l.flatMap esc ++ 34 :: r)) k acc = _
          rw [txtGo_esc (by decide), ih _ _ _ hl, if_neg (by decide)]
          show _ = Except.ok (acc ++ 92 :: l, k + ([92, 92] ++ l.flatMap esc).length + 1)
          simp
          omega
        · have ee : esc c = [c] := by unfold esc; simp [h10, h34, h92]
          rw [ee]
          show txtGo (c :: (l.flatMap esc ++ 34 :: r)) k acc = _
          rw [txtGo_plain h34 (fun q => q.elim h10 fun q => q hc) h92, ih _ _ _ hl]
          simp
          omega
theorem part_txt {inner : List Nat} (h : ∀ c ∈ inner, c ∈ prL) : PartOk ([34] ++ inner.flatMap esc ++ [34]) "text" (.str (S inner)) := by
  intro r k ts o ht hx
  have e : [34] ++ inner.flatMap esc ++ [34] ++ r = 34 :: (inner.flatMap esc ++ 34 :: r) := by simp
  have hl : ([34] ++ inner.flatMap esc ++ [34]).length = 1 + ((inner.flatMap esc).length + 1) := by simp; omega
  rw [e]
  rw [hl, ← Nat.add_assoc] at hx
  refine .txt (m := (inner.flatMap esc).length + 1) ?_ (by simp) ?_
  · rw [txt_esc _ _ _ h, List.nil_append]
    rfl
  · have : (inner.flatMap esc ++ 34 :: r).drop ((inner.flatMap esc).length + 1) = r := by
      rw [← List.drop_drop, List.drop_left]
      rfl
    rw [this]
    exact hx
theorem part_two {c d : Nat} (h : [c, d] ∈ twoL) : PartOk [c, d] "sign" (.str (S [c, d])) := fun r k ts o _ hx => .two h hx
theorem part_one {c : Nat} (h : c ∈ oneL) : PartOk [c] "sign" (.str (S [c])) := fun r k ts o ht hx => .one h (fun d r' e q => by
  have := ht d r' e
  have z : ∀ m ∈ twoL, m.getLast? = some 61 := by decide
  have z2 := z _ q
  have z3 : d = 61 := by simpa using z2
  subst z3
  revert this
  decide) hx
/-! what the law puts behind -/
theorem tl32 (x : List Nat) : TailOk (32 :: x) := fun d r' e => by rw [← (List.cons.inj e).1]; decide
theorem bad_one (k c : Nat) (h : c ∈ [33, 36]) : Lx [32, c] k [] (some (k + 1)) := .blank (by decide) (.bad h)
theorem bad_num (k : Nat) : Lx [32, 49, 50, 51, 52, 53, 54, 55, 56, 57, 48, 49, 50, 51] k [] (some (k + 1)) :=
  .blank (by decide) (.numBad (c := 49) (w := [50, 51, 52, 53, 54, 55, 56, 57, 48, 49, 50, 51]) (r := []) (by decide) (by decide) (fun d r' e => by cases e) (by decide))
theorem bad_ab (k : Nat) : Lx [32, 34, 97, 98] k [] (some (k + 4)) := by
  refine .blank (by decide) (.txtBad ?_)
  rw [txtGo_plain (by decide) (by decide) (by decide), txtGo_plain (by decide) (by decide) (by decide), txtGo_end]
theorem bad_q (k : Nat) : Lx [32, 34, 97, 92, 113, 34] k [] (some (k + 4)) := by
  refine .blank (by decide) (.txtBad ?_)
  rw [txtGo_plain (by decide) (by decide) (by decide), txtGo_escBad (by decide)]
theorem bad_nl (k : Nat) : Lx [32, 34, 97, 10] k [] (some (k + 3)) := by
  refine .blank (by decide) (.txtBad ?_)
  rw [txtGo_plain (by decide) (by decide) (by decide), txtGo_bad (by decide) (Or.inl rfl)]
end EH

set_option Elab.async false
set_option linter.all false
set_option maxRecDepth 100000
set_option maxHeartbeats 4000000
namespace EH
open PySem PySem.Spec PyProof.Rows L2
theorem op_mulSS {X : Cx} : OpR X (binaryOp .Mult) (fun x y H Q => ∃ z n, x = .str z ∧ y = .int n ∧ MulOk z n ∧ Q (.str (Txt.mul z n)) H) := by
  intro pins s σ H x y v u Q I rx ry h
  obtain ⟨z, n, rfl, rfl, hok, q⟩ := h
  obtain ⟨t, rfl⟩ := rx
  obtain ⟨k, rfl⟩ := ry
  exact SB.mul hok fun t' k' => ⟨.str _, H, I.tok k', ⟨t', rfl⟩, q⟩
theorem S_of (z : Str) : z = S z.cps.toList := by
  cases z with
  | mk c => show (⟨c⟩ : Str) = ⟨c.toList.toArray⟩; simp
def AllD (H : Hp) (ds : List Addr) : Prop := ∀ d ∈ ds, IsDice H d
def Fr (ds : List Addr) (H H' : Hp) : Prop := ∀ c o, c ∉ ds → H c = some o → H' c = some o
theorem Fr.of_same {ds : List Addr} {H H' : Hp} (s : Same H H') : Fr ds H H' := fun c o _ e => s c o e
theorem Fr.trans {ds : List Addr} {H H' H2 : Hp} (s : Fr ds H H') (t : Fr ds H' H2) : Fr ds H H2 := fun c o n e => t c o n (s c o n e)
theorem AllD.same {ds : List Addr} {H H' : Hp} (h : AllD H ds) (s : Same H H') : AllD H' ds := fun d hd => by
  obtain ⟨a, b, m, e⟩ := h d hd
  exact ⟨a, b, m, s _ _ e⟩
theorem nd_new {ds : List Addr} {H : Hp} {c : Addr} (h : AllD H ds) (e : H c = none) : c ∉ ds := fun hd => by
  obtain ⟨a, b, m, q⟩ := h c hd
  rw [e] at q
  cases q
theorem nd_tup {ds : List Addr} {H : Hp} {c : Addr} {xs : List V} (h : AllD H ds) (e : H c = some (.tup xs)) : c ∉ ds := fun hd => by
  obtain ⟨a, b, m, q⟩ := h c hd
  rw [e] at q
  cases q
theorem nd_refs {ds ps : List Addr} {H : Hp} {c : Addr} (h : AllD H ds) (e : H c = some (.lst (ps.map V.ref))) : c ∉ ds := fun hd => by
  obtain ⟨a, b, m, q⟩ := h c hd
  rw [e] at q
  cases ps with
  | nil => cases q
  | cons x r => cases q
theorem nd_strs {ds : List Addr} {L : List (List Nat)} {H : Hp} {c : Addr} (h : AllD H ds) (e : H c = some (.lst (L.map fun l => V.str (S l)))) : c ∉ ds := fun hd => by
  obtain ⟨a, b, m, q⟩ := h c hd
  rw [e] at q
  cases L with
  | nil => cases q
  | cons x r => cases q
theorem Toks.fr {ds : List Addr} {H H' : Hp} {ps : List Addr} {ts : List Tk} (t : Toks H ps ts) (hA : AllD H ds) (f : Fr ds H H') : Toks H' ps ts := t.mono fun a o e => f a _ (nd_tup hA e) e
theorem rollK {d : Addr} {ds : List Addr} {n : Int} {H : Hp} {P : Int → Hp → Prop} (hd : d ∈ ds) (hA : AllD H ds) (k : ∀ r H', 0 ≤ r → r < n → Fr ds H H' → AllD H' ds → P r H') :
    ∀ r H', 0 ≤ r → r < n → (∀ c o, c ≠ d → H c = some o → H' c = some o) → IsDice H' d → P r H' :=
  fun r H' r0 r1 hf hi => k r H' r0 r1 (fun c o hc e => hf c o (fun q => hc (by rw [q]; exact hd)) e) (fun x hx => by
    by_cases q : x = d
    · rw [q]; exact hi
    · obtain ⟨a, b, m, e⟩ := hA x hx
      exact ⟨a, b, m, hf x _ q e⟩)
theorem pick {L : List (List Nat)} {r : Int} (h0 : 0 ≤ r) (h1 : r < L.length) : ∃ l ∈ L, atI (L.map fun l => V.str (S l)) r = some (.str (S l)) := by
  obtain ⟨k, rfl⟩ : ∃ k : Nat, r = (k : Int) := ⟨r.toNat, by omega⟩
  have hk : k < L.length := by omega
  refine ⟨L[k], List.getElem_mem hk, atI_nat ?_⟩
  rw [List.getElem?_map, List.getElem?_eq_getElem hk]
  rfl
theorem ite_same {a b : Int} {A B : Prop} (e : a = b) (h : B) : if (!decide (V.int a = V.int b)) = true then A else B := by
  rw [decide_eq_true (by rw [e])]
  exact iteF h
theorem ite_kind {a b : Int} {A B : Prop} (h1 : a = b → A) (h2 : a ≠ b → B) : if decide (V.int a = V.int b) = true then A else B := by
  rw [dec_int]
  by_cases h : a = b
  · rw [decide_eq_true h]; exact iteT (h1 h)
  · rw [decide_eq_false h]; exact iteF (h2 h)
def FlatKV (kd : Str) (v : V) : Prop := PyData.strOk kd = true ∧ ((∃ s, v = .str s ∧ PyData.strOk s = true) ∨ ∃ i, v = .int i)
def FlatTk (tk : Tk) : Prop := FlatKV tk.kind tk.val
theorem strOk_S {l : List Nat} (h : ∀ c ∈ l, c < 1114112) : PyData.strOk (S l) = true := by
  unfold PyData.strOk
  show (l.toArray).all _ = true
  rw [List.all_toArray, List.all_eq_true]
  intro c hc
  exact decide_eq_true (h c hc)
def valD : V → PyData
  | .str s => .str s
  | .int i => .int i
  | _ => .none
def tkD (tk : Tk) : PyData := .tuple [.str tk.kind, valD tk.val, .int (tk.pos : Int)]
theorem dp_val {K : PySem.W.Frag} {H : Hp} {tk : Tk} (h : FlatTk tk) : Dp K H tk.val (valD tk.val) := by
  rcases h.2 with ⟨s, e, _⟩ | ⟨i, e⟩
  · rw [e]; exact .str s
  · rw [e]; exact .int i
theorem dp_toks {K : PySem.W.Frag} {H : Hp} : ∀ {ps : List Addr} {ts : List Tk}, Toks H ps ts → (∀ tk ∈ ts, FlatTk tk) → DpAll K H (ps.map V.ref) (ts.map tkD)
  | _, _, .nil, _ => .nil
  | _, _, .cons h t, hf => .cons (.tup (Or.inl (Or.inl h)) (.cons (.str _) (.cons (dp_val (hf _ List.mem_cons_self)) (.cons (.int _) .nil)))) (dp_toks t fun tk q => hf tk (List.mem_cons_of_mem _ q))
theorem lay_val {k : Str} {v : V} (h : FlatKV k v) : PyData.canLay0 (valD v) = true := by
  rcases h.2 with ⟨s, e, q⟩ | ⟨i, e⟩
  · rw [e]; unfold valD; rw [PyData.canLay0]; exact q
  · rw [e]; unfold valD; rw [PyData.canLay0]
theorem dep_val (v : V) : PyData.depth (valD v) = 0 := by
  cases v <;> (unfold valD; rw [PyData.depth])
theorem lay_tk {tk : Tk} (h : FlatTk tk) : PyData.canLay0 (tkD tk) = true := by
  unfold tkD
  simp only [PyData.canLay0, PyData.canLayAll0, lay_val h, h.1, Bool.and_true]
theorem dep_tk (tk : Tk) : PyData.depth (tkD tk) ≤ 2 := by
  unfold tkD
  simp only [PyData.depth, PyData.depthAll, dep_val]
  decide
theorem lay_toks : ∀ {ts : List Tk}, (∀ tk ∈ ts, FlatTk tk) → PyData.canLayAll0 (ts.map tkD) = true
  | [], _ => by rw [List.map_nil, PyData.canLayAll0]
  | a :: r, h => by rw [List.map_cons, PyData.canLayAll0, lay_tk (h a List.mem_cons_self), lay_toks fun tk q => h tk (List.mem_cons_of_mem _ q)]; rfl
theorem shaped_toks {ts : List Tk} (h : ∀ tk ∈ ts, FlatTk tk) : SeqAt.shaped (.list (ts.map tkD)) = true := by
  unfold SeqAt.shaped
  rw [PyData.canLay0, lay_toks h, PyData.depth]
  have := depth_map tkD 2 dep_tk ts
  simp only [Bool.true_and, decide_eq_true_eq]
  omega
theorem eqv_toks {ts : List Tk} (h : ∀ tk ∈ ts, FlatTk tk) : PyData.eqv (.list (ts.map tkD)) (.list (ts.map tkD)) = true := SeqAt.eqv_refl _ (by rw [PyData.canLay0]; exact lay_toks h)
def sepL : List (List Nat) := [[32], [10], [32, 32], [35, 32, 97, 32, 114, 101, 109, 97, 114, 107, 10]]
def nameL : List (List Nat) := [[97], [98, 50], [120, 95, 121], [108, 101, 116, 115], [105, 102, 95]]
def kwL : List (List Nat) := [[108, 101, 116], [105, 102], [102, 117, 110], [116, 114, 117, 101], [110, 111, 116]]
def signL : List (List Nat) := [[61, 61], [33, 61], [60, 61], [62, 61], [43], [40], [125], [58], [46], [60], [61]]
def sgL : List Nat := [10, 32, 33, 34, 35, 36, 38, 39, 40, 41, 42, 43, 44, 45, 46, 47, 48, 49, 50, 51, 52, 53, 54, 55, 56, 57, 58, 59, 60, 61, 62, 63, 64, 65, 66, 67, 88, 89, 90, 91, 92, 93, 94, 95, 96, 97, 98, 99, 120, 121, 122, 123, 124, 125, 126]
theorem sep_ok : ∀ l ∈ sepL, SepOk l ∧ l.length ≤ 11 := by
  intro l h
  simp only [sepL, List.mem_cons, List.not_mem_nil, or_false] at h
  rcases h with rfl | rfl | rfl | rfl
  · exact ⟨sep_1 32 (by decide), by decide⟩
  · exact ⟨sep_1 10 (by decide), by decide⟩
  · exact ⟨sep_2, by decide⟩
  · exact ⟨sep_3, by decide⟩
theorem name_ok : ∀ l ∈ nameL, PartOk l "name" (.str (S l)) ∧ l.length ≤ 14 ∧ FlatKV "name" (.str (S l)) := by
  intro l h
  simp only [nameL, List.mem_cons, List.not_mem_nil, or_false] at h
  rcases h with rfl | rfl | rfl | rfl | rfl <;> refine ⟨?_, by decide, by decide +kernel, Or.inl ⟨_, rfl, by decide +kernel⟩⟩
  · have h := part_word (c := 97) (w := []) (by decide) (by decide)
    rw [if_neg (by decide)] at h
    exact h
  · have h := part_word (c := 98) (w := [50]) (by decide) (by decide)
    rw [if_neg (by decide)] at h
    exact h
  · have h := part_word (c := 120) (w := [95, 121]) (by decide) (by decide)
    rw [if_neg (by decide)] at h
    exact h
  · have h := part_word (c := 108) (w := [101, 116, 115]) (by decide) (by decide)
    rw [if_neg (by decide)] at h
    exact h
  · have h := part_word (c := 105) (w := [102, 95]) (by decide) (by decide)
    rw [if_neg (by decide)] at h
    exact h
theorem kw_ok : ∀ l ∈ kwL, PartOk l "word" (.str (S l)) ∧ l.length ≤ 14 ∧ FlatKV "word" (.str (S l)) := by
  intro l h
  simp only [kwL, List.mem_cons, List.not_mem_nil, or_false] at h
  rcases h with rfl | rfl | rfl | rfl | rfl <;> refine ⟨?_, by decide, by decide +kernel, Or.inl ⟨_, rfl, by decide +kernel⟩⟩
  · have h := part_word (c := 108) (w := [101, 116]) (by decide) (by decide)
    rw [if_pos (by decide)] at h
    exact h
  · have h := part_word (c := 105) (w := [102]) (by decide) (by decide)
    rw [if_pos (by decide)] at h
    exact h
  · have h := part_word (c := 102) (w := [117, 110]) (by decide) (by decide)
    rw [if_pos (by decide)] at h
    exact h
  · have h := part_word (c := 116) (w := [114, 117, 101]) (by decide) (by decide)
    rw [if_pos (by decide)] at h
    exact h
  · have h := part_word (c := 110) (w := [111, 116]) (by decide) (by decide)
    rw [if_pos (by decide)] at h
    exact h
theorem sign_ok : ∀ l ∈ signL, PartOk l "sign" (.str (S l)) ∧ l.length ≤ 14 ∧ FlatKV "sign" (.str (S l)) := by
  intro l h
  simp only [signL, List.mem_cons, List.not_mem_nil, or_false] at h
  rcases h with rfl | rfl | rfl | rfl | rfl | rfl | rfl | rfl | rfl | rfl | rfl <;> refine ⟨?_, by decide, by decide +kernel, Or.inl ⟨_, rfl, by decide +kernel⟩⟩
  · exact part_two (by decide)
  · exact part_two (by decide)
  · exact part_two (by decide)
  · exact part_two (by decide)
  · exact part_one (by decide)
  · exact part_one (by decide)
  · exact part_one (by decide)
  · exact part_one (by decide)
  · exact part_one (by decide)
  · exact part_one (by decide)
  · exact part_one (by decide)
theorem len_a : (Txt.mul ("a" : Str) 3001).cps.toList.length = 3001 := by
  have h := len_mul ("a" : Str) 3001
  have e : (Txt.mul ("a" : Str) 3001).cps.toList.length = (Txt.mul ("a" : Str) 3001).length := by
    rw [Array.length_toList]
    rfl
  rw [e]
  have e1 : (("a" : Str).length : Int) = 1 := by rw [show ("a" : Str) = S [97] from by kernel_rfl, S_len]; rfl
  rw [e1] at h
  have : ((Txt.mul ("a" : Str) 3001).length : Int) = 3001 := h.trans (by decide)
  omega
theorem sg_pr : ∀ c ∈ sgL, c ∈ prL := by decide
theorem sg_small : ∀ c ∈ sgL, c < 1114112 := by decide
theorem pickS {r : Int} (h0 : 0 ≤ r) (h1 : r < sgL.length) : ∃ c ∈ sgL, atI (S sgL).cps.toList r = some c := by
  obtain ⟨k, rfl⟩ : ∃ k : Nat, r = (k : Int) := ⟨r.toNat, by omega⟩
  have hk : k < sgL.length := by omega
  exact ⟨sgL[k], List.getElem_mem hk, atS (List.getElem?_eq_getElem hk)⟩
theorem sum_ones : ∀ l : List Nat, ((l.map fun c => S [c]).map fun x => x.length).sum = l.length
  | [] => rfl
  | c :: r => by rw [List.map_cons, List.map_cons, List.sum_cons, sum_ones r, S_len]; simp only [List.length_cons, List.length_nil]; omega
theorem joinL_ones : ∀ l : List Nat, TL.joinL [] (l.map fun c => [c]) = l
  | [] => rfl
  | [c] => rfl
  | c :: d :: r => by
    have ih := joinL_ones (d :: r)
    show [c] ++ ([] ++ TL.joinL [] ((d :: r).map fun c => [c])) = _
    rw [ih]
    rfl
theorem join_ones (l : List Nat) : Txt.join (S []) (l.map fun c => S [c]) = S l := by
  have e := SX.join_S [] (l.map fun c => [c])
  rw [List.map_map] at e
  exact e.trans (by rw [joinL_ones]; rfl)
structure LawG (K : PySem.W.Frag) (mg : Str → Option Value) (fN fR fQ fC fP : Addr) (dN dR dQ dC dP : FuncData) : Prop where
  zLen : mg "len" = none
  zInt : mg "int" = none
  zStr : mg "str" = none
  zRange : mg "range" = none
  mN : mg "_law_rounds" = some (.ref fN)
  mR : mg "_law_roll" = some (.ref fR)
  mQ : mg "quoted" = some (.ref fQ)
  mC : mg "cut" = some (.ref fC)
  mP : mg "_law_place" = some (.ref fP)
  kN : PySem.W.keepIn K (.ref fN) = true
  kR : PySem.W.keepIn K (.ref fR) = true
  kQ : PySem.W.keepIn K (.ref fQ) = true
  kC : PySem.W.keepIn K (.ref fC) = true
  kP : PySem.W.keepIn K (.ref fP) = true
  bN : Binds K dN ["script", "most"] []
  bR : Binds K dR ["dice", "many"] []
  bQ : Binds K dQ ["what"] []
  bC : Binds K dC ["text"] []
  bP : Binds K dP ["text"] []
def spLaw (K : PySem.W.Frag) : Sp := fun vs H Q _ => ∃ (a : Addr) (ns : List Int), vs = [.ref a] ∧ SqL K H a (ns.map V.int) ∧ ns.length ≤ 63 ∧ ∀ H', Q (.bl true) H'
section
variable {P : Program} {w : World} {K : PySem.W.Frag} {mg : Str → Option Value} {base : Heap} {f fN fR fQ fC fP C : Addr} {fd dN dR dQ dC dP : FuncData}
theorem scLaw : FnScope ["script", "signs", "dice", "text", "due", "k", "kind", "what", "part", "inner", "j"] ["script"] (defScope sLaw) := ⟨rfl, rfl, rfl, by decide +kernel, rfl, by decide +kernel, by decide +kernel⟩
theorem ok_law (F : FnP K "law" sLaw f fd) (G : LawG K mg fN fR fQ fC fP dN dR dQ dC dP) (GN : FnOk P w K mg base CX0 2 fN dN ["script", "most"] (spRounds K)) (GR : FnOk P w K mg base CX0 1 fR dR ["dice", "many"] spRoll)
    (GQ : FnOk P w K mg base CX0 1 fQ dQ ["what"] spQuoted) (GC : FnOk P w K mg base (L2.CX P w) 3 fC dC ["text"] (spCut C)) (GP : FnOk P w K mg base CX0 4 fP dP ["text"] spPlace) :
    FnOk P w K mg base CX0 5 f fd ["script"] (spLaw K) := by
  refine F.ok scLaw (fun vs H Q E h => ?_) (fun cdv A outer s H vs Q E hr h => ?_)
  · obtain ⟨a, ns, rfl, _⟩ := h
    rfl
  · obtain ⟨a, ns, rfl, hS, hns, fin⟩ := h
    have hu := hu_of hr
    have hu64 : (A.deeper (envOfC "law" (defScope sLaw) s.heap.objs.size f cdv)).units + 64 < cLine := hr.units
    have hr1 : Room 1 (A.deeper (envOfC "law" (defScope sLaw) s.heap.objs.size f cdv)) := hr.mono (by decide)
    have hr2 : Room 2 (A.deeper (envOfC "law" (defScope sLaw) s.heap.objs.size f cdv)) := hr.mono (by decide)
    have hr3 : Room 3 (A.deeper (envOfC "law" (defScope sLaw) s.heap.objs.size f cdv)) := hr.mono (by decide)
    refine ⟨_, PSs.nox (pss_cons (ps_set (i := 1) scLaw.nd rfl (Or.inr rfl) pe_str)
    (pss_cons (ps_for PassesOwn.never rfl (pi_list (pe_call GN hr2 (by rfl) G.mN G.kN G.bN .nil pass0 (pa_cons (pv 0) (pa_cons pe_int pa_nil)))) (pg_name (i := 2) scLaw.nd rfl (Or.inr rfl))
      (pss_cons (ps_par rfl scLaw.nd (i := 3) (j := 4) rfl rfl (by decide) rfl rfl (pa_cons pe_str (pa_cons (pe_lst pa_nil) pa_nil)) (by rfl))
      (C8.pss_cut (ps_for PassesOwn.never rfl (pi_range1 (by rfl) G.zRange (pa_cons (pe_call GR hr1 (by rfl) G.mR G.kR G.bR .nil pass0 (pa_cons (pv 2) (pa_cons pe_int pa_nil))) pa_nil)) (pg_name (i := 5) scLaw.nd rfl (Or.inl rfl))
        (pss_cons (ps_set (i := 3) scLaw.nd rfl (Or.inl rfl) (pe_op op_add_str (pv 3) (pe_ix ix_list (pe_lst (pa_cons pe_str (pa_cons pe_str (pa_cons pe_str (pa_cons pe_str pa_nil))))) (pe_call GR hr1 (by rfl) G.mR G.kR G.bR .nil pass0 (pa_cons (pv 2) (pa_cons pe_int pa_nil))) (fun _ _ => rfl))))
        (pss_cons (ps_set (i := 6) scLaw.nd rfl (Or.inl rfl) (pe_call GR hr1 (by rfl) G.mR G.kR G.bR .nil pass0 (pa_cons (pv 2) (pa_cons pe_int pa_nil))))
        (C8.pss_cut (ps_if (pt_cmpR op_eq (pv 6) pe_int (nomark _))
          (pss_cons (ps_set (i := 7) scLaw.nd rfl (Or.inl rfl) (pe_ix ix_list (pe_lst (pa_cons pe_str (pa_cons pe_str (pa_cons pe_str (pa_cons pe_str (pa_cons pe_str pa_nil)))))) (pe_call GR hr1 (by rfl) G.mR G.kR G.bR .nil pass0 (pa_cons (pv 2) (pa_cons pe_int pa_nil))) (fun _ _ => rfl)))
          (pss_one (ps_set (i := 8) scLaw.nd rfl (Or.inl rfl) (pe_tup (pa_cons pe_str (pa_cons (pv 7) pa_nil))))))
          (pss_one (ps_if (pt_cmpR op_eq (pv 6) pe_int (nomark _))
            (pss_cons (ps_set (i := 7) scLaw.nd rfl (Or.inl rfl) (pe_ix ix_list (pe_lst (pa_cons pe_str (pa_cons pe_str (pa_cons pe_str (pa_cons pe_str (pa_cons pe_str pa_nil)))))) (pe_call GR hr1 (by rfl) G.mR G.kR G.bR .nil pass0 (pa_cons (pv 2) (pa_cons pe_int pa_nil))) (fun _ _ => rfl)))
            (pss_one (ps_set (i := 8) scLaw.nd rfl (Or.inl rfl) (pe_tup (pa_cons pe_str (pa_cons (pv 7) pa_nil))))))
            (pss_one (ps_if (pt_cmpR op_eq (pv 6) pe_int (nomark _))
              (pss_cons (ps_set (i := 7) scLaw.nd rfl (Or.inl rfl) (pe_callTy call_str_int (by rfl) G.zStr (by decide +kernel) (pa_cons (pe_call GR hr1 (by rfl) G.mR G.kR G.bR .nil pass0 (pa_cons (pv 2) (pa_cons pe_int pa_nil))) pa_nil)))
              (pss_one (ps_set (i := 8) scLaw.nd rfl (Or.inl rfl) (pe_tup (pa_cons pe_str (pa_cons (pe_callTy call_int_str (by rfl) G.zInt (by decide +kernel) (pa_cons (pv 7) pa_nil)) pa_nil))))))
              (pss_one (ps_if (pt_cmpR op_eq (pv 6) pe_int (nomark _))
                (pss_cons (ps_set (i := 9) scLaw.nd rfl (Or.inl rfl) (pe_bm PySem.F.plainAttrs_str PySem.F.slot_str_join PySem.F.type_str_join mt_join pe_str (pa_cons (pe_lc (own := [("j", 10)]) (g := gName 10) (tt := tYes) rfl scLaw.nd (pi_range1 (by rfl) G.zRange (pa_cons (pe_call GR hr1 (by rfl) G.mR G.kR G.bR .nil pass0 (pa_cons (pv 2) (pa_cons pe_int pa_nil))) pa_nil)) (blkOk_by (N := ["script", "signs", "dice", "text", "due", "k", "kind", "what", "part", "inner", "j"]) (sc := defScope sLaw) (by decide +kernel)) (fun _ _ _ _ _ => pg_name (i := 10) scLaw.nd rfl (Or.inl rfl)) (fun _ _ _ _ _ => pts_nil) (fun _ _ _ _ _ => pe_ix ix_str (pv 1) (pe_call GR hr1 (by rfl) G.mR G.kR G.bR .nil pass0 (pa_cons (pv 2) (pa_cons (pe_callB call_len_str (by rfl) G.zLen PySem.boot_len (pa_cons (pv 1) pa_nil)) pa_nil))) (fun _ _ => rfl))) pa_nil)))
                (pss_one (ps_par rfl scLaw.nd (i := 7) (j := 8) rfl rfl (by decide) rfl rfl (pa_cons (pe_call GQ hr1 (by rfl) G.mQ G.kQ G.bQ .nil pass0 (pa_cons (pv 9) pa_nil)) (pa_cons (pe_tup (pa_cons pe_str (pa_cons (pv 9) pa_nil))) pa_nil)) (by rfl))))
                (pss_cons (ps_set (i := 7) scLaw.nd rfl (Or.inl rfl) (pe_ix ix_list (pe_lst (pa_cons pe_str (pa_cons pe_str (pa_cons pe_str (pa_cons pe_str (pa_cons pe_str (pa_cons pe_str (pa_cons pe_str (pa_cons pe_str (pa_cons pe_str (pa_cons pe_str (pa_cons pe_str pa_nil)))))))))))) (pe_call GR hr1 (by rfl) G.mR G.kR G.bR .nil pass0 (pa_cons (pv 2) (pa_cons pe_int pa_nil))) (fun _ _ => rfl)))
                (pss_one (ps_set (i := 8) scLaw.nd rfl (Or.inl rfl) (pe_tup (pa_cons pe_str (pa_cons (pv 7) pa_nil)))))))))))))
        (pss_cons (ps_expr (pe_bm PySem.F.plainAttrs_list PySem.F.slot_list_append PySem.F.type_list_append mt_append (pv 4) (pa_cons (pe_op op_catA (pv 8) (pe_tup (pa_cons (pe_callB call_len_str (by rfl) G.zLen PySem.boot_len (pa_cons (pv 3) pa_nil)) pa_nil))) pa_nil)))
        (pss_one (ps_set (i := 3) scLaw.nd rfl (Or.inl rfl) (pe_op op_add_str (pv 3) (pv 7)))))))))
      (pss_cons (ps_if (pt_cmpR (op_neD hu64) (pe_callS GC hr3 (by rfl) G.mC G.kC G.bC (fun σ => passAt takes0 σ) (pa_cons (pv 3) pa_nil)) (pe_op op_cat (pv 4) (pe_lst (pa_cons (pe_tup (pa_cons pe_str (pa_cons pe_str (pa_cons (pe_callB call_len_str (by rfl) G.zLen PySem.boot_len (pa_cons (pv 3) pa_nil)) pa_nil)))) pa_nil))) (nomark _))
        (pss_one (ps_ret pe_bl))
        pss_nil)
      (pss_cons (ps_if (pw_or (pt_cmpR op_ne (pe_call GP hr (by rfl) G.mP G.kP G.bP .nil pass0 (pa_cons (pe_op op_add_str (pv 3) pe_str) pa_nil)) (pe_op op_add (pe_callB call_len_str (by rfl) G.zLen PySem.boot_len (pa_cons (pv 3) pa_nil)) pe_int) (nomark _)) (pw_or1 (pt_cmpR op_ne (pe_call GP hr (by rfl) G.mP G.kP G.bP .nil pass0 (pa_cons (pe_op op_add_str (pv 3) pe_str) pa_nil)) (pe_op op_add (pe_callB call_len_str (by rfl) G.zLen PySem.boot_len (pa_cons (pv 3) pa_nil)) pe_int) (nomark _)))).pt
        (pss_one (ps_ret pe_bl))
        pss_nil)
      (pss_cons (ps_if (pt_cmpR op_ne (pe_call GP hr (by rfl) G.mP G.kP G.bP .nil pass0 (pa_cons (pe_op op_add_str (pv 3) pe_str) pa_nil)) (pe_op op_add (pe_callB call_len_str (by rfl) G.zLen PySem.boot_len (pa_cons (pv 3) pa_nil)) pe_int) (nomark _))
        (pss_one (ps_ret pe_bl))
        pss_nil)
      (pss_cons (ps_if (pw_or (pt_cmpR op_ne (pe_call GP hr (by rfl) G.mP G.kP G.bP .nil pass0 (pa_cons (pe_op op_add_str (pv 3) pe_str) pa_nil)) (pe_op op_add (pe_callB call_len_str (by rfl) G.zLen PySem.boot_len (pa_cons (pv 3) pa_nil)) pe_int) (nomark _)) (pw_or1 (pt_cmpR op_ne (pe_call GP hr (by rfl) G.mP G.kP G.bP .nil pass0 (pa_cons (pe_op op_add_str (pv 3) pe_str) pa_nil)) (pe_op op_add (pe_callB call_len_str (by rfl) G.zLen PySem.boot_len (pa_cons (pv 3) pa_nil)) pe_int) (nomark _)))).pt
        (pss_one (ps_ret pe_bl))
        pss_nil)
      (pss_cons (ps_if (pt_cmpR op_ne (pe_call GP hr (by rfl) G.mP G.kP G.bP .nil pass0 (pa_cons (pe_op op_add_str (pv 3) pe_str) pa_nil)) (pe_op op_add (pe_callB call_len_str (by rfl) G.zLen PySem.boot_len (pa_cons (pv 3) pa_nil)) pe_int) (nomark _))
        (pss_one (ps_ret pe_bl))
        pss_nil)
      (pss_one (ps_if (pw_or (pt_cmpR op_ne (pe_call GP hr (by rfl) G.mP G.kP G.bP .nil pass0 (pa_cons pe_non pa_nil)) pe_int (nomark _)) (pw_or1 (pt_cmpR op_ne (pe_call GP hr (by rfl) G.mP G.kP G.bP .nil pass0 (pa_cons (pe_op op_mulSS pe_str pe_int) pa_nil)) pe_int (nomark _)))).pt
        (pss_one (ps_ret pe_bl))
        pss_nil))))))))))
    (pss_one (ps_ret pe_bl)))), ?_⟩
    have eSG : ("\n !\"#$&'()*+,-./0123456789:;<=>?@ABCXYZ[\\]^_`abcxyz{|}~" : Str) = S sgL := by kernel_rfl
    have eSep : [V.str " ", V.str "\n", V.str "  ", V.str "# a remark\n"] = sepL.map (fun l => V.str (S l)) := by kernel_rfl
    have eName : [V.str "a", V.str "b2", V.str "x_y", V.str "lets", V.str "if_"] = nameL.map (fun l => V.str (S l)) := by kernel_rfl
    have eKw : [V.str "let", V.str "if", V.str "fun", V.str "true", V.str "not"] = kwL.map (fun l => V.str (S l)) := by kernel_rfl
    have eSign : [V.str "==", V.str "!=", V.str "<=", V.str ">=", V.str "+", V.str "(", V.str "}", V.str ":", V.str ".", V.str "<", V.str "="] = signL.map (fun l => V.str (S l)) := by kernel_rfl
    refine ⟨_, rfl, a, ns, 4, rfl, hS, hns, by decide, by decide, fun p H1 ds hp s1 h1 hds hdl => ?_⟩
    rw [eSG]
    refine ⟨p, rfl, ⟨_, Or.inl (Or.inl h1)⟩, for_list (K := K) (a := p) (xs := ds.map V.ref) (fun i σ H2 => ∃ v2 v3 v4 v5 v6 v7 v8 v9 v10 : Option V, σ = [some (.ref a), some (.str (S sgL)), v2, v3, v4, v5, v6, v7, v8, v9, v10] ∧ H2 p = some (.lst (ds.map V.ref)) ∧ AllD H2 ds)
      ⟨_, _, _, _, _, _, _, _, _, rfl, h1, fun d hd => (hds d hd).2.2⟩ (fun i σ H2 _ ⟨_, _, _, _, _, _, _, _, _, _, e, _⟩ => Or.inl (Or.inl e)) ?_ (fun σ H2 _ => fin H2)⟩
    rintro i y σ H2 hi ⟨v2, v3, v4, v5, v6, v7, v8, v9, v10, rfl, p2, a2⟩
    obtain ⟨d, hd, rfl⟩ : ∃ d ∈ ds, y = V.ref d := by
      rw [List.getElem?_map] at hi
      cases e : ds[i]? with
      | none => rw [e] at hi; cases hi
      | some z => rw [e] at hi; exact ⟨z, List.mem_of_getElem? e, (Option.some.inj hi).symm⟩
    refine ⟨szS (by show 0 ≤ 100000; decide), fun q hq => ⟨_, _, rfl, ?_⟩⟩
    have s3 : Same H2 (upd H2 q (.lst [])) := same_new hq
    have p3 := s3 _ _ p2
    have a3 := a2.same s3
    have q3 : (upd H2 q (.lst [])) q = some (.lst []) := upd_same
    have hpq : p ≠ q := fun e => by rw [← e, p2] at hq; cases hq
    generalize upd H2 q (.lst []) = H3 at p3 a3 q3
    clear s3 hq
    refine ⟨fun σ H2 => ∃ (l : List Nat) (ps : List Addr) (ts : List Tk) (v5 v6 v7 v8 v9 v10 : Option V), σ = [some (.ref a), some (.str (S sgL)), some (.ref d), some (.str (S l)), some (.ref q), v5, v6, v7, v8, v9, v10] ∧ H2 p = some (.lst (ds.map V.ref)) ∧ H2 q = some (.lst (ps.map V.ref)) ∧ Toks H2 ps ts ∧ AllD H2 ds ∧ PreLx l ts ∧ (∀ tk ∈ ts, FlatTk tk) ∧ l.length ≤ 400 ∧ ps.length ≤ 400, ?_, ?_⟩
    · refine ⟨_, rfl, d, 13, rfl, a3 d hd, by decide, by decide, rollK hd a3 fun r H4 r0 r1 f4 a4 => ?_⟩
      refine ⟨r, rfl, by omega, by omega, for_range (fun i σ H2 => ∃ (l : List Nat) (ps : List Addr) (ts : List Tk) (v5 v6 v7 v8 v9 v10 : Option V), σ = [some (.ref a), some (.str (S sgL)), some (.ref d), some (.str (S l)), some (.ref q), v5, v6, v7, v8, v9, v10] ∧ H2 p = some (.lst (ds.map V.ref)) ∧ H2 q = some (.lst (ps.map V.ref)) ∧ Toks H2 ps ts ∧ AllD H2 ds ∧ PreLx l ts ∧ (∀ tk ∈ ts, FlatTk tk) ∧ l.length ≤ i * 30 ∧ ps.length ≤ i * 30) ⟨[], [], [], _, _, _, _, _, _, by rw [show S [] = ("" : Str) from by kernel_rfl]; rfl, f4 _ _ (nd_refs a3 p3) p3, f4 _ _ (nd_refs (ps := []) a3 q3) q3, .nil, a4, pre_nil, fun tk h => absurd h (List.not_mem_nil), by simp, by simp⟩ ?_ ?_⟩
      rotate_left
      · rintro σ H5 ⟨l, ps, ts, v5, v6, v7, v8, v9, v10, h0, h1, h2, h3, h4, h5, h6, h7, h8⟩
        have hr : r.toNat ≤ 13 := by omega
        exact ⟨l, ps, ts, v5, v6, v7, v8, v9, v10, h0, h1, h2, h3, h4, h5, h6, by omega, by omega⟩
      clear a3 p3 q3 f4 a4 v2 v3 v4 v5 v6 v7 v8 v9 v10
      rintro i σ H3 hi2 ⟨l, ps, ts, v5, v6, v7, v8, v9, v10, rfl, p3, q3, t3, a3, hpre, hflat, hl, hpl⟩
      have hi13 : i < 13 := by omega
      refine ⟨_, rfl, szS (by show 4 ≤ 100000; decide), fun e he => ?_⟩
      rw [eSep]
      have sE : Same H3 (upd H3 e (.lst (sepL.map fun l => V.str (S l)))) := same_new he
      refine ⟨_, rfl, d, 4, rfl, (a3.same sE) d hd, by decide, by decide, rollK hd (a3.same sE) fun r2 H4 r20 r21 f4 a4 => ?_⟩
      obtain ⟨sep, hsep, at2⟩ := pick (L := sepL) r20 r21
      obtain ⟨okS, lenSep⟩ := sep_ok sep hsep
      refine ⟨e, _, r2, _, rfl, rfl, Or.inl (Or.inl (f4 _ _ (nd_strs (a3.same sE) upd_same) upd_same)), at2, ?_⟩
      refine ⟨_, _, rfl, rfl, by rw [S_len, S_len]; exact szS (by omega), ?_⟩
      rw [S_app]
      have fr4 : Fr ds H3 H4 := (Fr.of_same sE).trans f4
      have p4 := fr4 _ _ (nd_refs a3 p3) p3
      have q4 := fr4 _ _ (nd_refs a3 q3) q3
      have t4 := t3.fr a3 fr4
      clear sE f4 at2 he
      refine ⟨_, rfl, d, 5, rfl, a4 d hd, by decide, by decide, rollK hd a4 fun kind H5 k0 k1 f5 a5 => ?_⟩
      have p5 := f5 _ _ (nd_refs a4 p4) p4
      have q5 := f5 _ _ (nd_refs a4 q4) q4
      have t5 := t4.fr a4 f5
      clear fr4 p4 q4 t4 f5 a4 p3 q3 t3 a3
      refine ⟨fun σ H2 => ∃ (w : List Nat) (pt : Addr) (kd : Str) (val : V) (v6 v9 v10 : Option V), σ = [some (.ref a), some (.str (S sgL)), some (.ref d), some (.str (S (l ++ sep))), some (.ref q), some (.int (0 + (i : Int))), v6, some (.str (S w)), some (.ref pt), v9, v10] ∧ H2 p = some (.lst (ds.map V.ref)) ∧ H2 q = some (.lst (ps.map V.ref)) ∧ Toks H2 ps ts ∧ AllD H2 ds ∧ H2 pt = some (.tup [.str kd, val]) ∧ PartOk w kd val ∧ w.length ≤ 14 ∧ FlatKV kd val, ?_, ?_⟩
      · refine ⟨_, rfl, rfl, _, rfl, ite_kind (fun hk => ?_) (fun hk0 => ?_)⟩
        · refine ⟨szS (by show 5 ≤ 100000; decide), fun e he => ?_⟩
          rw [eName]
          have sE : Same H5 (upd H5 e (.lst (nameL.map fun l => V.str (S l)))) := same_new he
          refine ⟨_, rfl, d, 5, rfl, (a5.same sE) d hd, by decide, by decide, rollK hd (a5.same sE) fun r2 H6 r20 r21 f6 a6 => ?_⟩
          obtain ⟨w2, hw2, at2⟩ := pick (L := nameL) r20 r21
          refine ⟨e, _, r2, _, rfl, rfl, Or.inl (Or.inl (f6 _ _ (nd_strs (a5.same sE) upd_same) upd_same)), at2, ?_⟩
          refine ⟨_, rfl, szS (by show 2 ≤ 100000; decide), fun g hg => ?_⟩
          have s7 : Same H6 (upd H6 g (.tup [.str "name", .str (S w2)])) := same_new hg
          have fr : Fr ds H5 H6 := (Fr.of_same sE).trans f6
          exact ⟨w2, g, "name", .str (S w2), _, _, _, rfl, s7 _ _ (fr _ _ (nd_refs a5 p5) p5), s7 _ _ (fr _ _ (nd_refs a5 q5) q5), (t5.fr a5 fr).mono fun b o z => s7 _ _ z, a6.same s7, upd_same, (name_ok w2 hw2).1, (name_ok w2 hw2).2.1, (name_ok w2 hw2).2.2⟩
        refine ⟨_, rfl, rfl, _, rfl, ite_kind (fun hk => ?_) (fun hk1 => ?_)⟩
        · refine ⟨szS (by show 5 ≤ 100000; decide), fun e he => ?_⟩
          rw [eKw]
          have sE : Same H5 (upd H5 e (.lst (kwL.map fun l => V.str (S l)))) := same_new he
          refine ⟨_, rfl, d, 5, rfl, (a5.same sE) d hd, by decide, by decide, rollK hd (a5.same sE) fun r2 H6 r20 r21 f6 a6 => ?_⟩
          obtain ⟨w2, hw2, at2⟩ := pick (L := kwL) r20 r21
          refine ⟨e, _, r2, _, rfl, rfl, Or.inl (Or.inl (f6 _ _ (nd_strs (a5.same sE) upd_same) upd_same)), at2, ?_⟩
          refine ⟨_, rfl, szS (by show 2 ≤ 100000; decide), fun g hg => ?_⟩
          have s7 : Same H6 (upd H6 g (.tup [.str "word", .str (S w2)])) := same_new hg
          have fr : Fr ds H5 H6 := (Fr.of_same sE).trans f6
          exact ⟨w2, g, "word", .str (S w2), _, _, _, rfl, s7 _ _ (fr _ _ (nd_refs a5 p5) p5), s7 _ _ (fr _ _ (nd_refs a5 q5) q5), (t5.fr a5 fr).mono fun b o z => s7 _ _ z, a6.same s7, upd_same, (kw_ok w2 hw2).1, (kw_ok w2 hw2).2.1, (kw_ok w2 hw2).2.2⟩
        refine ⟨_, rfl, rfl, _, rfl, ite_kind (fun hk => ?_) (fun hk2 => ?_)⟩
        · refine ⟨_, rfl, d, 100000, rfl, a5 d hd, by decide, by decide, rollK hd a5 fun r2 H6 r20 r21 f6 a6 => ?_⟩
          obtain ⟨n, rfl⟩ : ∃ n : Nat, r2 = (n : Int) := ⟨r2.toNat, by omega⟩
          have hn : n < 100000 := by omega
          have hlen : (TL.numL n).length ≤ 5 := TL.numL_len (by decide) hn
          have eN : Str.ofString (toString (n : Int)) = S (TL.numL n) := SX.num_S n
          have hlog : ((n : Int)).natAbs.log2 < 1920 := by
            rw [Int.natAbs_natCast]
            by_cases z : n = 0
            · subst z; decide
            · exact Nat.lt_of_lt_of_le ((Nat.log2_lt z).mpr (show n < 2 ^ 17 by omega)) (by decide)
          refine ⟨_, rfl, hlog, ?_⟩
          rw [eN]
          refine ⟨_, rfl, _, (n : Int), rfl, by rw [← eN]; exact TL.int_num (by omega), by rw [S_len]; omega, szS (by show 2 ≤ 100000; decide), fun g hg => ?_⟩
          have s7 : Same H6 (upd H6 g (.tup [.str "number", .int (n : Int)])) := same_new hg
          exact ⟨TL.numL n, g, "number", .int (n : Int), _, _, _, rfl, s7 _ _ (f6 _ _ (nd_refs a5 p5) p5), s7 _ _ (f6 _ _ (nd_refs a5 q5) q5), (t5.fr a5 f6).mono fun b o z => s7 _ _ z, a6.same s7, upd_same, part_num hn, by omega, by decide +kernel, Or.inr ⟨_, rfl⟩⟩
        refine ⟨_, rfl, rfl, _, rfl, ite_kind (fun hk => ?_) (fun hk3 => ?_)⟩
        · refine ⟨rfl, _, rfl, d, 6, rfl, a5 d hd, by decide, by decide, rollK hd a5 fun r2 H6 r20 r21 f6 a6 => ?_⟩
          refine ⟨r2, rfl, by omega, by omega, fun D hD => ?_⟩
          have sD : Same H6 (upd H6 D (.lst [])) := same_new hD
          have fr : Fr ds H5 (upd H6 D (.lst [])) := f6.trans (Fr.of_same sD)
          have aD := a6.same sD
          have nD : D ∉ ds := nd_refs (ps := []) aD upd_same
          have npD : p ≠ D := fun z => by rw [← z, f6 _ _ (nd_refs a5 p5) p5] at hD; cases hD
          have nqD : q ≠ D := fun z => by rw [← z, f6 _ _ (nd_refs a5 q5) q5] at hD; cases hD
          refine lc_range (lo := 0) (n := r2.toNat) (fun i H' => ∃ inner : List Nat, inner.length = i ∧ (∀ c ∈ inner, c ∈ sgL) ∧ H' D = some (.lst ((inner.map fun c => S [c]).map V.str)) ∧ H' p = some (.lst (ds.map V.ref)) ∧ H' q = some (.lst (ps.map V.ref)) ∧ Toks H' ps ts ∧ AllD H' ds)
            ⟨[], rfl, fun c h => absurd h (List.not_mem_nil), upd_same, fr _ _ (nd_refs a5 p5) p5, fr _ _ (nd_refs a5 q5) q5, t5.fr a5 fr, aD⟩ ?_ ?_
          · rintro i7 H7 hi7 ⟨inner, rfl, hin, d7, p7, q7, t7, a7⟩
            refine ⟨rfl, ?_⟩
            refine ⟨_, rfl, _, rfl, _, rfl, _, rfl, lenS (by decide), d, ((S sgL).length : Int), rfl, a7 d hd, by rw [S_len]; decide, by rw [S_len]; decide, rollK hd a7 fun r8 H8 r80 r81 f8 a8 => ?_⟩
            rw [S_len] at r81
            obtain ⟨c8, hc8, at8⟩ := pickS r80 r81
            refine ⟨_, _, c8, rfl, rfl, lenS (by decide), at8, _, f8 _ _ nD d7, ?_, inner ++ [c8], by simp, ?_, ?_, ?_, ?_, ?_, ?_⟩
            · rw [List.length_map, List.length_map]; exact small1000 (by omega)
            · intro x hx
              rcases List.mem_append.mp hx with hx | hx
              · exact hin x hx
              · rw [List.mem_singleton.mp hx]; exact hc8
            · rw [upd_same, List.map_append, List.map_append]; rfl
            · rw [upd_ne npD]; exact f8 _ _ (nd_refs a7 p7) p7
            · rw [upd_ne nqD]; exact f8 _ _ (nd_refs a7 q7) q7
            · refine (t7.fr a7 f8).mono fun b o z => ?_
              rw [upd_ne (fun y => by rw [y, f8 _ _ nD d7] at z; cases z)]
              exact z
            · intro x hx
              obtain ⟨a', b', m', e'⟩ := a8 x hx
              exact ⟨a', b', m', by rw [upd_ne (fun y => nD (by rw [← y]; exact hx))]; exact e'⟩
          · rintro H7 ⟨inner, hlen, hin, d7, p7, q7, t7, a7⟩
            have hl7 : inner.length ≤ 6 := by omega
            refine ⟨S [], D, inner.map fun c => S [c], by rw [show ("" : Str) = S [] from by kernel_rfl], rfl, Or.inl (Or.inl (Or.inl d7)), ?_, ?_⟩
            · rw [sum_ones, S_len, List.length_map]; simp only [List.length_nil]; omega
            · rw [join_ones]
              refine ⟨_, rfl, inner, rfl, by omega, fun H8 s8 => ?_⟩
              refine ⟨_, rfl, szS (by show 2 ≤ 100000; decide), fun g hg => ⟨_, _, rfl, ?_⟩⟩
              have s9 : Same H8 (upd H8 g (.tup [.str "text", .str (S inner)])) := same_new hg
              have s79 := s8.trans s9
              have h3 := fm_len inner
              exact ⟨[34] ++ inner.flatMap esc ++ [34], g, "text", .str (S inner), _, _, _, rfl, s79 _ _ p7, s79 _ _ q7, t7.mono fun b o z => s79 _ _ z, a7.same s79, upd_same, part_txt (fun c hc => sg_pr c (hin c hc)), by rw [List.length_append, List.length_append]; simp only [List.length_cons, List.length_nil]; omega, by decide +kernel, Or.inl ⟨_, rfl, strOk_S fun c hc => sg_small c (hin c hc)⟩⟩
        · refine ⟨szS (by show 11 ≤ 100000; decide), fun e he => ?_⟩
          rw [eSign]
          have sE : Same H5 (upd H5 e (.lst (signL.map fun l => V.str (S l)))) := same_new he
          refine ⟨_, rfl, d, 11, rfl, (a5.same sE) d hd, by decide, by decide, rollK hd (a5.same sE) fun r2 H6 r20 r21 f6 a6 => ?_⟩
          obtain ⟨w2, hw2, at2⟩ := pick (L := signL) r20 r21
          refine ⟨e, _, r2, _, rfl, rfl, Or.inl (Or.inl (f6 _ _ (nd_strs (a5.same sE) upd_same) upd_same)), at2, ?_⟩
          refine ⟨_, rfl, szS (by show 2 ≤ 100000; decide), fun g hg => ?_⟩
          have s7 : Same H6 (upd H6 g (.tup [.str "sign", .str (S w2)])) := same_new hg
          have fr : Fr ds H5 H6 := (Fr.of_same sE).trans f6
          exact ⟨w2, g, "sign", .str (S w2), _, _, _, rfl, s7 _ _ (fr _ _ (nd_refs a5 p5) p5), s7 _ _ (fr _ _ (nd_refs a5 q5) q5), (t5.fr a5 fr).mono fun b o z => s7 _ _ z, a6.same s7, upd_same, (sign_ok w2 hw2).1, (sign_ok w2 hw2).2.1, (sign_ok w2 hw2).2.2⟩
      · rintro σ H6 ⟨w, pt, kd, val, v6, v9, v10, rfl, p6, q6, t6, a6, h6, okP, lenW, flatV6⟩
        refine ⟨_, rfl, Or.inl ⟨rfl, _, Or.inl (Or.inl q6)⟩, _, rfl, _, rfl, _, rfl, by rw [S_len, List.length_append]; exact szS (by omega), szS (by show 1 ≤ 100000; decide), fun e he => ?_⟩
        have sE : Same H6 (upd H6 e (.tup [.int (((S (l ++ sep)).length : Nat) : Int)])) := same_new he
        refine ⟨pt, e, _, _, rfl, rfl, Or.inl (Or.inl (sE _ _ h6)), Or.inl (Or.inl upd_same), szS (by show 3 ≤ 100000; decide), (fun z => nomatch z), (fun _ z => nomatch z), fun _ _ g hg => ?_⟩
        have q7 := sE _ _ q6
        have p7 := sE _ _ p6
        have t7 : Toks _ ps ts := t6.mono fun b o z => sE _ _ z
        have a7 := a6.same sE
        refine ⟨q, ps.map V.ref, _, rfl, rfl, ?_, ?_, ?_⟩
        · rw [upd_ne (fun z => by rw [z, hg] at q7; cases q7)]; exact q7
        · rw [List.length_map]; exact small1000 (by omega)
        · rw [S_len]
          rw [S_len] at sE q7 p7 t7 a7 hg
          obtain ⟨_, q8, t8⟩ := push_tok (H := fun _ => none) ⟨kd, val, (l ++ sep).length⟩ rfl (fun b u z => by cases z) q7 t7 hg
          refine ⟨_, rfl, _, rfl, _, _, rfl, rfl, by rw [S_len, S_len, List.length_append]; exact szS (by omega), ?_⟩
          rw [S_app]
          refine ⟨l ++ sep ++ w, ps ++ [g], ts ++ [⟨kd, val, (l ++ sep).length⟩], _, _, _, _, _, _, rfl, ?_, q8, ?_, ?_, pre_step hpre okS okP, ?_, ?_, ?_⟩
          · exact (upd_ne hpq).trans ((upd_ne (fun z => by rw [z, hg] at p7; cases p7)).trans p7)
          · exact t8
          · intro x hx
            obtain ⟨a', b', m', e'⟩ := a7 x hx
            refine ⟨a', b', m', ?_⟩
            rw [upd_ne (fun z => nd_refs a7 q7 (by rw [← z]; exact hx)), upd_ne (fun z => by rw [z, hg] at e'; cases e')]
            exact e'
          · intro tk htk
            rcases List.mem_append.mp htk with htk | htk
            · exact hflat tk htk
            · rw [List.mem_singleton.mp htk]; exact flatV6
          · rw [List.length_append, List.length_append]; omega
          · rw [List.length_append]; simp only [List.length_cons, List.length_nil]; omega
    · clear a3 p3 q3 v2 v3 v4 v5 v6 v7 v8 v9 v10
      rintro σ H3 ⟨l, ps, ts, v5, v6, v7, v8, v9, v10, rfl, p3, q3, t3, a3, hpre, hflat, hl, hpl⟩
      have hflat2 : ∀ tk ∈ ts ++ [⟨"end", .str (S []), l.length⟩], FlatTk tk := fun tk h => by
        rcases List.mem_append.mp h with h | h
        · exact hflat tk h
        · rw [List.mem_singleton.mp h]; exact ⟨by show PyData.strOk "end" = true; decide +kernel, Or.inl ⟨_, rfl, by decide +kernel⟩⟩
      refine ⟨_, rfl, _, rfl, Or.inl ⟨l, ts, none, rfl, by omega, pre_end hpre, fun pc pcs H4 s4 hpc p4c t4c => ?_⟩⟩
      refine ⟨_, rfl, _, rfl, _, rfl, lenS (by omega), szS (by show 3 ≤ 100000; decide), fun e he => ?_⟩
      rw [S_len, show ("" : Str) = S [] from by kernel_rfl]
      have sE : Same H4 (upd H4 e (.tup [.str "end", .str (S []), .int (l.length : Int)])) := same_new he
      refine ⟨szS (by show 1 ≤ 100000; decide), fun g hg => ?_⟩
      have sG := sE.trans (same_new (o := .lst [.ref e]) hg)
      have q4 := s4 _ _ q3
      refine ⟨q, g, _, _, rfl, rfl, sG _ _ q4, upd_same, by rw [List.length_map]; exact szS (by simp only [List.length_cons, List.length_nil]; omega), fun u hu => ?_⟩
      have sU := sG.trans (same_new (o := .lst (ps.map V.ref ++ [.ref e])) hu)
      have tU : Toks _ (ps ++ [e]) (ts ++ [⟨"end", .str (S []), l.length⟩]) := Toks.snoc (tk := ⟨"end", .str (S []), l.length⟩) ((same_new hg).trans (same_new (o := .lst (ps.map V.ref ++ [.ref e])) hu) _ _ upd_same) (t3.mono fun b o z => sU _ _ (s4 _ _ z))
      have dU := dp_toks (K := K) tU hflat2
      rw [List.map_append] at dU
      refine ⟨.list ((ts ++ [(⟨"end", .str (S []), l.length⟩ : Tk)]).map tkD), .list ((ts ++ [(⟨"end", .str (S []), l.length⟩ : Tk)]).map tkD), .lst (Or.inl (Or.inl (sU _ _ p4c))) (dp_toks (t4c.mono fun b o z => sU _ _ z) hflat2), .lst (Or.inl (Or.inl upd_same)) ?_, shaped_toks hflat2, shaped_toks hflat2, _, rfl, ?_⟩
      · exact dU
      rw [eqv_toks hflat2]
      refine iteF ?_
      have pA := sU _ _ (s4 _ _ p3)
      have aA := (a3.same s4).same sU
      clear p3 q3 t3 a3 s4 hpc p4c t4c sE sG q4 sU tU dU hu hg he
      refine ⟨_, rfl, _, _, rfl, rfl, by rw [S_len]; exact Nat.le_trans (Nat.add_le_add_right (show l.length ≤ 400 by omega) _) (by decide +kernel), _, l.length + 1, rfl, Or.inl ⟨l ++ [32, 36], ts, by rw [show (" $" : Str) = S [32, 36] from by kernel_rfl, S_app], by rw [List.length_append]; simp only [List.length_cons, List.length_nil]; omega, pre_bad hpre (tl32 _) (bad_one _ 36 (by decide))⟩, fun H9 s9 => ⟨_, rfl, _, rfl, lenS (by omega), _, _, rfl, rfl, rfl, _, rfl, ite_same (by rw [S_len]; rfl) ?_⟩⟩
      replace aA := aA.same s9
      replace pA := s9 _ _ pA
      clear s9
      refine ⟨_, rfl, _, _, rfl, rfl, by rw [S_len]; exact Nat.le_trans (Nat.add_le_add_right (show l.length ≤ 400 by omega) _) (by decide +kernel), _, l.length + 4, rfl, Or.inl ⟨l ++ [32, 34, 97, 98], ts, by rw [show (" \"ab" : Str) = S [32, 34, 97, 98] from by kernel_rfl, S_app], by rw [List.length_append]; simp only [List.length_cons, List.length_nil]; omega, pre_bad hpre (tl32 _) (bad_ab _)⟩, fun H9 s9 => ⟨_, rfl, _, rfl, lenS (by omega), _, _, rfl, rfl, rfl, _, rfl, ite_same (by rw [S_len]; rfl) ?_⟩⟩
      replace aA := aA.same s9
      replace pA := s9 _ _ pA
      clear s9
      refine ⟨_, rfl, _, _, rfl, rfl, by rw [S_len]; exact Nat.le_trans (Nat.add_le_add_right (show l.length ≤ 400 by omega) _) (by decide +kernel), _, l.length + 4, rfl, Or.inl ⟨l ++ [32, 34, 97, 92, 113, 34], ts, by rw [show (" \"a\\q\"" : Str) = S [32, 34, 97, 92, 113, 34] from by kernel_rfl, S_app], by rw [List.length_append]; simp only [List.length_cons, List.length_nil]; omega, pre_bad hpre (tl32 _) (bad_q _)⟩, fun H9 s9 => ⟨_, rfl, _, rfl, lenS (by omega), _, _, rfl, rfl, rfl, _, rfl, ite_same (by rw [S_len]; rfl) ?_⟩⟩
      replace aA := aA.same s9
      replace pA := s9 _ _ pA
      clear s9
      refine ⟨_, rfl, _, _, rfl, rfl, by rw [S_len]; exact Nat.le_trans (Nat.add_le_add_right (show l.length ≤ 400 by omega) _) (by decide +kernel), _, l.length + 1, rfl, Or.inl ⟨l ++ [32, 49, 50, 51, 52, 53, 54, 55, 56, 57, 48, 49, 50, 51], ts, by rw [show (" 1234567890123" : Str) = S [32, 49, 50, 51, 52, 53, 54, 55, 56, 57, 48, 49, 50, 51] from by kernel_rfl, S_app], by rw [List.length_append]; simp only [List.length_cons, List.length_nil]; omega, pre_bad hpre (tl32 _) (bad_num _)⟩, fun H9 s9 => ⟨_, rfl, _, rfl, lenS (by omega), _, _, rfl, rfl, rfl, _, rfl, ite_same (by rw [S_len]; rfl) ?_⟩⟩
      replace aA := aA.same s9
      replace pA := s9 _ _ pA
      clear s9
      refine ⟨_, rfl, _, _, rfl, rfl, by rw [S_len]; exact Nat.le_trans (Nat.add_le_add_right (show l.length ≤ 400 by omega) _) (by decide +kernel), _, l.length + 1, rfl, Or.inl ⟨l ++ [32, 33], ts, by rw [show (" !" : Str) = S [32, 33] from by kernel_rfl, S_app], by rw [List.length_append]; simp only [List.length_cons, List.length_nil]; omega, pre_bad hpre (tl32 _) (bad_one _ 33 (by decide))⟩, fun H9 s9 => ⟨_, rfl, _, rfl, lenS (by omega), _, _, rfl, rfl, rfl, _, rfl, ite_same (by rw [S_len]; rfl) ?_⟩⟩
      replace aA := aA.same s9
      replace pA := s9 _ _ pA
      clear s9
      refine ⟨_, rfl, _, _, rfl, rfl, by rw [S_len]; exact Nat.le_trans (Nat.add_le_add_right (show l.length ≤ 400 by omega) _) (by decide +kernel), _, l.length + 3, rfl, Or.inl ⟨l ++ [32, 34, 97, 10], ts, by rw [show (" \"a\n" : Str) = S [32, 34, 97, 10] from by kernel_rfl, S_app], by rw [List.length_append]; simp only [List.length_cons, List.length_nil]; omega, pre_bad hpre (tl32 _) (bad_nl _)⟩, fun H9 s9 => ⟨_, rfl, _, rfl, lenS (by omega), _, _, rfl, rfl, rfl, _, rfl, ite_same (by rw [S_len]; rfl) ?_⟩⟩
      replace aA := aA.same s9
      replace pA := s9 _ _ pA
      clear s9
      refine ⟨.non, 0, rfl, Or.inr ⟨Or.inl rfl, rfl⟩, fun H9 s9 => ⟨rfl, _, rfl, ite_same rfl ?_⟩⟩
      refine ⟨_, _, rfl, rfl, ⟨by decide, fun _ _ => by decide +kernel, fun _ _ => by decide +kernel⟩, _, 0, rfl, Or.inr ⟨Or.inr ⟨_, by rw [← S_of], ?_, ?_⟩, rfl⟩, fun H10 s10 => ⟨rfl, _, rfl, ite_same rfl ?_⟩⟩
      · rw [len_a]; decide
      · rw [len_a]; decide
      exact ⟨_, _, _, _, _, _, _, _, _, rfl, s10 _ _ (s9 _ _ pA), (aA.same s9).same s10⟩
end
end EH

set_option Elab.async false
set_option linter.all false
set_option maxRecDepth 100000
set_option maxHeartbeats 4000000
namespace EX
open PySem PySem.Spec PyProof.Rows L2 He PySem.ExS PySem.HandSPX
/-! the head's facts of own exceptions over ValueError, with __init__ of the form of ES -/
/-- one such class: its name, its field, its text, its __init__ -/
structure ExD where
  nm : Str
  f : Str
  msg : Str
  qual : Str
  st : Stmt
def aPos : Arguments → Nat → Pos
  | { args := [a, b], .. }, 0 => a.pos
  | { args := [a, b], .. }, _ => b.pos
  | _, _ => ⟨0, 0, 0, 0⟩
def qPos : List Stmt → Nat → Pos
  | [.Expr (.Call (.Attribute (.Call (.Name _ p1) [] [] p2) _ p3) [.Constant _ _ p4] [] p5) p6, .Assign [.Attribute (.Name _ p7) _ p8] (.Name _ p9) p10], i =>
    match i with
    | 1 => p1 | 2 => p2 | 3 => p3 | 4 => p4 | 5 => p5 | 6 => p6 | 7 => p7 | 8 => p8 | 9 => p9 | _ => p10
  | _, _ => ⟨0, 0, 0, 0⟩
def qConst : List Stmt → Nat
  | .Expr (.Call _ [.Constant _ j _] _ _) _ :: _ => j
  | _ => 0
structure ExD.Shape (d : ExD) : Prop where
  ok : NmOk d.f
  args : defArgs d.st = iA d.f (aPos (defArgs d.st) 0) (aPos (defArgs d.st) 1)
  body : defBody d.st = iB d.msg d.f (qConst (defBody d.st)) (qPos (defBody d.st))
  scope : defScope d.st = iS d.f
  line : ((qPos (defBody d.st) 3).endLine == (qPos (defBody d.st) 5).line) = true
abbrev ExW : Type := Option (Str × Str × Arguments × FuncBody × Scope × Addr × List Str × Addr)
def exW (K : PySem.W.Frag) (d : ExD) : ExW := match K.lookup (ma K (ga K d.nm) "__init__") with
  | some ⟨_, _, .func fd, _⟩ => some (fd.name, fd.qualname, fd.params, fd.body, fd.scope, fd.globals, fd.closure.map (·.1), fd.builtins)
  | _ => none
def ExD.val (d : ExD) : ExW := some ("__init__", d.qual, defArgs d.st, .stmts (defBody d.st), defScope d.st, mainGlobals, ["__class__"], builtinsNs)
def clsB (K : PySem.W.Frag) (C : Addr) : Bool := match K.lookup C with
  | some ⟨.type c, _, .cls cd, sl⟩ => decide (c = "type") && (decide (cd.mro.head? = some (.ref C)) && (refsVE cd.mro.tail && (cd.hasDict && (!cd.hasDel && (decide (sl.size = 6) && decide (sl[4]? = some (some (.builtin "ValueError.__new__"))))))))
  | _ => false
theorem clsB_ok {K : PySem.W.Frag} {C : Addr} (h : clsB K C = true) : ∃ nm' q N bs bm sn sub ab col dd k0 k1 k2 k3 k5, K.lookup C = some (excClassObj nm' q C N bs bm true sn sub ab col dd k0 k1 k2 k3 k5 "ValueError.__new__") ∧ refsVE bm = true := by
  unfold clsB at h
  cases q : K.lookup C with
  | none => rw [q] at h; cases h
  | some o =>
    obtain ⟨oc, od, dt, osl⟩ := o
    rw [q] at h
    cases oc with
    | type c =>
      cases dt with
      | cls cd =>
        obtain ⟨nm, bs, mro, ns, qn, hd, sn, sub, ab, col, del⟩ := cd
        obtain ⟨h1, h⟩ := ba h
        obtain ⟨h2, h⟩ := ba h
        obtain ⟨h3, h⟩ := ba h
        obtain ⟨h4, h⟩ := ba h
        obtain ⟨h5, h⟩ := ba h
        obtain ⟨h6, h7⟩ := ba h
        have g1 := of_decide_eq_true h1
        have g2 : mro.head? = some (.ref C) := of_decide_eq_true h2
        have g6 := of_decide_eq_true h6
        have g7 := of_decide_eq_true h7
        clear h1 h2 h6 h7
        dsimp only at h3 h4 h5
        have h5' : del = false := by cases del <;> simp_all
        subst g1 h4 h5'
        cases mro with
        | nil => cases g2
        | cons x bm =>
          have hx : x = .ref C := Option.some.inj g2
          subst hx
          obtain ⟨l⟩ := osl
          match l, g6, g7 with
          | [k0, k1, k2, k3, k4, k5], _, h7 =>
            have : k4 = some (.builtin "ValueError.__new__") := Option.some.inj h7
            subst this
            exact ⟨nm, qn, ns, bs, bm, sn, sub, ab, col, od, k0, k1, k2, k3, k5, rfl, h3⟩
      | _ => cases h
    | _ => cases dt <;> cases h
def cellB (K : PySem.W.Frag) (cl : List (Str × Addr)) (C : Addr) : Bool := match cl with
  | [(_, cc)] => (match K.lookup cc with
    | some ⟨_, _, .cell (some (.ref D)), _⟩ => decide (D = C)
    | _ => false)
  | _ => false
def codeB (K : PySem.W.Frag) (cd : Value) (file : Str) : Bool := match cd with
  | .ref c => (match K.lookup c with
    | some ⟨_, _, .fields vs, _⟩ => (match vs[2]? with
      | some (Value.str y _) => decide (y = file)
      | _ => false)
    | _ => false)
  | _ => false
def fnB (K : PySem.W.Frag) (file : Str) (d : ExD) : Bool := match K.lookup (ma K (ga K d.nm) "__init__") with
  | some ⟨_, _, .func fd, _⟩ => decide (fd.defaults = .none) && (decide (fd.kwdefaults = .none) && (PySem.W.codeIn K fd.code d.qual && (codeB K fd.code file && cellB K fd.closure (ga K d.nm))))
  | _ => false
def exB (K : PySem.W.Frag) (file : Str) (d : ExD) : Bool :=
  eqO (PySem.W.nsIn K mainGlobals d.nm) (some (some (.ref (ga K d.nm)))) && (clsB K (ga K d.nm) && (eqO (PySem.W.findIn K (.ref (ga K d.nm)) "__setattr__") (some (some (.builtin "object.__setattr__"))) &&
  (eqO (PySem.W.findIn K (.ref (ga K d.nm)) "__getattribute__") (some (some (.builtin "BaseException.__getattribute__"))) && (eqO (PySem.W.findIn K (.ref (ga K d.nm)) "__getattr__") (some none) && (eqO (PySem.W.findIn K (.ref (ga K d.nm)) d.f) (some none) &&
  (eqO (PySem.W.findIn K (.ref (ga K d.nm)) "__init__") (some (some (.ref (ma K (ga K d.nm) "__init__")))) && (decide (PySem.W.typeIn K (.ref (ma K (ga K d.nm) "__init__")) = some (.type "function")) && (PySem.W.keepIn K (.ref (ga K d.nm)) &&
  (decide (PySem.W.subIn K (.ref (ga K d.nm)) (.type "BaseException") = some true) && (decide (PySem.W.subIn K (.ref (ga K d.nm)) (.type "ValueError") = some true) && (decide (PySem.W.typeIn K (.ref (ga K d.nm)) = some (.type "type")) &&
  (PySem.W.hasDictIn K (ga K d.nm) && (eqO (PySem.W.nsIn K mainGlobals "super") (some none) && (eqO (PySem.W.nsIn K cStatics "thirdparty.any") (some none) && (decide (PySem.W.mroIn K (ga K d.nm) (.ref (ga K d.nm)) = some true) &&
  (eqO (PySem.W.ks_superIn K (ga K d.nm) (ga K d.nm) "__init__") (some (some (.builtin "ValueError.__init__"))) && (fnB K file d && (eqO (PySem.W.findIn K (.ref (ga K d.nm)) "__class__") (some (some (.builtin "object.__class__"))) &&
  (eqO (PySem.W.specialIn K (.builtin "object.__class__") "__get__") (some (some (.builtin "getset_descriptor.__get__"))) && (decide (PySem.W.takesIn K (.builtin "object.__class__") = some true) && decide (PySem.W.mroIn K (ga K d.nm) (.type "object") = some true)))))))))))))))))))))
theorem exB_ok {prog : Program} {K : PySem.W.Frag} {h : Heap} {mg : Str → Option Value} (X : K.In h) (G : h.Ns mainGlobals mg) {d : ExD} (hs : d.Shape) (top : (prog.main.scope.names.lookup ("super" : Str)).isSome = false) (hv : exW K d = d.val) (hb : exB K prog.main.file d = true) :
    ExTxt prog K mg d.nm d.f d.msg (ga K d.nm) (ma K (ga K d.nm) "__init__") ∧ XfC K (ga K d.nm) ∧ ExcC K (ga K d.nm) := by
  unfold exB at hb
  obtain ⟨b1, hb⟩ := ba hb
  obtain ⟨b2, hb⟩ := ba hb
  obtain ⟨b3, hb⟩ := ba hb
  obtain ⟨b4, hb⟩ := ba hb
  obtain ⟨b5, hb⟩ := ba hb
  obtain ⟨b6, hb⟩ := ba hb
  obtain ⟨b7, hb⟩ := ba hb
  obtain ⟨b8, hb⟩ := ba hb
  obtain ⟨b9, hb⟩ := ba hb
  obtain ⟨b10, hb⟩ := ba hb
  obtain ⟨b11, hb⟩ := ba hb
  obtain ⟨b12, hb⟩ := ba hb
  obtain ⟨b13, hb⟩ := ba hb
  obtain ⟨b14, hb⟩ := ba hb
  obtain ⟨b15, hb⟩ := ba hb
  obtain ⟨b16, hb⟩ := ba hb
  obtain ⟨b17, hb⟩ := ba hb
  obtain ⟨b18, hb⟩ := ba hb
  obtain ⟨b19, hb⟩ := ba hb
  obtain ⟨b20, hb⟩ := ba hb
  obtain ⟨b21, b22⟩ := ba hb
  refine ⟨{ ok := hs.ok, gC := PySem.W.mg_of X G (eqO_ok b1), cls := clsB_ok b2, sa := eqO_ok b3, ga := eqO_ok b4, gg := eqO_ok b5, noN := eqO_ok b6, iC := eqO_ok b7, tC := of_decide_eq_true b8, kC := b9, exC := of_decide_eq_true b10, veC := of_decide_eq_true b11, tyC := of_decide_eq_true b12, hdC := b13, sup := eqO_ok b14, op := eqO_ok b15, meC := of_decide_eq_true b16, supI := eqO_ok b17, top := top, fn := ?_ }, ⟨eqO_ok b4, eqO_ok b5, of_decide_eq_true b10, b13⟩, ⟨eqO_ok b4, eqO_ok b5, of_decide_eq_true b10, b13, eqO_ok b19, eqO_ok b20, of_decide_eq_true b21, of_decide_eq_true b22⟩⟩
  unfold fnB at b18
  unfold exW at hv
  cases q : K.lookup (ma K (ga K d.nm) "__init__") with
  | none => rw [q] at b18; cases b18
  | some o =>
    obtain ⟨oc, od, dt, osl⟩ := o
    rw [q] at b18 hv
    cases dt with
    | func fd =>
      obtain ⟨n1, n2, n3, n4, n5, n6, n7, n8, n9, n10, n11, n12, n13, n14, n15⟩ := fd
      have e2 : (some (n1, n2, n3, n4, n5, n6, n7.map (·.1), n15) : ExW) = (some ("__init__", d.qual, defArgs d.st, .stmts (defBody d.st), defScope d.st, mainGlobals, ["__class__"], builtinsNs) : ExW) := hv
      simp only [Option.some.injEq, Prod.mk.injEq] at e2
      obtain ⟨h1, h2, h3, h4, h5, h6, h7, h8⟩ := e2
      obtain ⟨c1, b18⟩ := ba b18
      obtain ⟨c2, b18⟩ := ba b18
      obtain ⟨c3, b18⟩ := ba b18
      obtain ⟨c4, c5⟩ := ba b18
      have g1 : n8 = .none := of_decide_eq_true c1
      have g2 : n9 = .none := of_decide_eq_true c2
      have g3 : PySem.W.codeIn K n13 d.qual = true := c3
      have g4 : codeB K n13 prog.main.file = true := c4
      have g5 : cellB K n7 (ga K d.nm) = true := c5
      clear c1 c2 c3 c4 c5
      match n7, h7, g5 with
      | [(y, cc)], h7, c5 =>
        have ey : y = "__class__" := by simpa using h7
        subst ey
        subst h1 h2 h3 h4 h5 h6 h8 g1 g2
        unfold codeB at g4
        cases n13 with
        | ref cda =>
          dsimp only at g4
          cases q2 : K.lookup cda with
          | none => rw [q2] at g4; cases g4
          | some o2 =>
            obtain ⟨oc2, od2, dt2, osl2⟩ := o2
            rw [q2] at g4
            cases dt2 with
            | fields vs =>
              dsimp only at g4
              cases q3 : vs[2]? with
              | none => rw [q3] at g4; cases g4
              | some v =>
                rw [q3] at g4
                cases v with
                | str y tf =>
                  have ey := of_decide_eq_true g4
                  subst ey
                  unfold cellB at c5
                  dsimp only at c5
                  cases q4 : K.lookup cc with
                  | none => rw [q4] at c5; cases c5
                  | some o4 =>
                    obtain ⟨oc4, od4, dt4, osl4⟩ := o4
                    rw [q4] at c5
                    cases dt4 with
                    | cell cv =>
                      cases cv with
                      | none => cases c5
                      | some v4 =>
                        cases v4 with
                        | ref D =>
                          have eD := of_decide_eq_true c5
                          rw [eD] at q4
                          refine ⟨oc, od, n10, n11, n12, cda, n14, osl, aPos (defArgs d.st) 0, aPos (defArgs d.st) 1, qConst (defBody d.st), qPos (defBody d.st), _, cc, hs.line, ?_, g3, ⟨oc4, od4, osl4, q4⟩, oc2, od2, vs, osl2, tf, q2, q3⟩
                          rw [← hs.args, ← hs.body, ← hs.scope]
                        | _ => cases c5
                    | _ => cases c5
                | _ => cases g4
            | _ => cases g4
        | _ => cases g4
    | _ => cases b18
end EX
namespace EX
open PySem PySem.Spec PyProof.Rows L2 He PySem.ExS PySem.HandSPX
/-! the hook: HeadHook3's facts, a Bool, those classes' __init__; the statics' names within -/
abbrev AlE : Type := (AlT × Bool) × List ExW
def frE (n : Nat) (g : Addr → Option Obj) : PySem.W.Frag := frT g (cStatics :: asD g n)
def obsK (fa : List Fa) (fn : List DefD) (ds : List ExD) (ex : PySem.W.Frag → Bool) (K : PySem.W.Frag) : AlE := ((obsT fa fn [] K, ex K), ds.map (exW K))
def obsE (n : Nat) (fa : List Fa) (fn : List DefD) (ds : List ExD) (ex : PySem.W.Frag → Bool) (g : Addr → Option Obj) : AlE := obsK fa fn ds ex (frE n g)
def valE (fn : List DefD) (ds : List ExD) (w : World) : AlE := ((valT fn [] w, true), ds.map ExD.val)
structure SaysE (fa : List Fa) (fn : List DefD) (ds : List ExD) (ex : PySem.W.Frag → Bool) (w : World) (K : PySem.W.Frag) : Prop where
  t : SaysT fa fn [] w K
  more : ex K = true
  own : ds.map (exW K) = ds.map ExD.val
theorem saysE_of {fa : List Fa} {fn : List DefD} {ds : List ExD} {ex : PySem.W.Frag → Bool} {w : World} {K : PySem.W.Frag} (e : obsK fa fn ds ex K = valE fn ds w) : SaysE fa fn ds ex w K :=
  ⟨congrArg (fun z : AlE => z.1.1) e, congrArg (fun z : AlE => z.1.2) e, congrArg (fun z : AlE => z.2) e⟩
def hookE (n : Nat) (fa : List Fa) (fn : List DefD) (ds : List ExD) (ex : PySem.W.Frag → Bool) : PySem.W.Hook where
  α := AlE
  obs := fun s => obsE n fa fn ds ex s.heap.get?
  val := fun w => valE fn ds w
  says := fun w h => ∃ K : PySem.W.Frag, K.In h ∧ SaysE fa fn ds ex w K
  of := fun _ _ e => ⟨_, frT_in, saysE_of e⟩
  keeps := fun _ _ _ ⟨K, hK, c⟩ k => ⟨K, PySem.W.Frag.In.keeps hK k, c⟩
theorem obsE_eq {n : Nat} {fa : List Fa} {fn : List DefD} {ds : List ExD} {ex : PySem.W.Frag → Bool} {g : Addr → Option Obj} {s : Shared} (h : ∀ a, g a = s.heap.get? a) : obsE n fa fn ds ex g = (hookE n fa fn ds ex).obs s := by
  have e : g = s.heap.get? := funext h
  rw [e] <;> rfl
theorem exW_at {ds : List ExD} {K : PySem.W.Frag} (h : ds.map (exW K) = ds.map ExD.val) (i : Nat) {d : ExD} (e : ds[i]? = some d := by rfl) : exW K d = d.val := by
  have e2 : (ds.map (exW K))[i]? = (ds.map ExD.val)[i]? := by rw [h]
  rw [List.getElem?_map, List.getElem?_map, e] at e2
  exact Option.some.inj e2
end EX

set_option Elab.async false
set_option linter.all false
set_option maxRecDepth 100000
set_option maxHeartbeats 0
namespace EH
open PySem PySem.Spec PyProof.Rows L2
def dfn (x : Str) (i : Nat) : He.DefD := ⟨(x, none), x, x, defArgs (top i), defBody (top i), defScope (top i), [], []⟩
def fn : List He.DefD := [dfn "cut" 10, dfn "text_at" 11, dfn "quoted" 12, dfn "_law_dice" 14, dfn "_law_roll" 15, dfn "_law_rounds" 16, dfn "_law_place" 17, dfn "law" 18]
def loose : List PySem.Str := ["EngineFault", "BadText", "WORDS", "SMALL", "FIGURES", "PRINTED", "TWO", "ONE", "cut", "text_at", "quoted", "_law_dice", "_law_roll", "_law_rounds", "_law_place"]
def fa : List He.Fa := [.glo "cut", .glo "text_at", .glo "quoted", .glo "_law_dice", .glo "_law_roll", .glo "_law_rounds", .glo "_law_place", .glo "law", .glo "EngineFault", .glo "WORDS", .glo "TWO", .glo "BadText",
  .free "len", .free "int", .free "str", .free "range", .free "isinstance", .free "ValueError", .free "abs", .str "SMALL" (S smL), .str "FIGURES" (S fiL), .str "ONE" (S oneL), .str "PRINTED" (S prL)]
def dBad : EX.ExD := ⟨"BadText", "place", "bad text", "BadText.__init__", (match top 2 with | .ClassDef _ _ _ (st :: _) _ .. => st | s => s)⟩
def ex (K : PySem.W.Frag) : Bool := EX.exB K (PySem.W.OpenLaw.row PySem.Challenge.rw_enginehall_k01_parts_of_texts).prog.main.file dBad && (He.tupB K "WORDS" (wordsL.map fun m => .str (S m)) && (He.tupB K "TWO" (twoL.map fun m => .str (S m)) &&
  (decide (PySem.W.exmOne K (.ref (He.ga K "BadText")) (.ref (He.ga K "BadText")) = some true) && (decide (PySem.W.kitOne K (.ref (He.ga K "BadText")) (.ref (He.ga K "EngineFault")) = some true) && decide (PySem.W.kitOne K (.ref (He.ga K "BadText")) (.type "ValueError") = some true)))))
abbrev R : PySem.W.OpenRow := PySem.W.OpenLaw.row PySem.Challenge.rw_enginehall_k01_parts_of_texts
abbrev hk : PySem.W.Hook := EX.hookE 5 fa fn [dBad] ex
def ob (s : PySem.W.SharedT) : EX.AlE := EX.obsE 5 fa fn [dBad] ex (HandSHeadRun.getT s)
theorem ob_eq (s : PySem.W.SharedT) : ob s = hk.obs s.abs := EX.obsE_eq (HandSHeadRun.getT_eq s)
theorem run (w : World) : HandSHeadRun.RunEq R (PySem.W.view R.prog [18]) hk ob 3000 loose w := by
  intro os
  kernel_rfl
theorem nm_ok : PySem.ExS.NmOk "place" := ⟨by rfl, by rfl, by rfl, by rfl, by decide, by decide, fun _ _ _ _ _ _ _ _ _ _ _ _ _ => rfl⟩
theorem shape : dBad.Shape := ⟨nm_ok, by kernel_rfl, by kernel_rfl, by kernel_rfl, by kernel_rfl⟩
theorem facts {w : World} {K : PySem.W.Frag} {h : Heap} {mg : Str → Option Value} {f : Addr} (X : K.In h) (G : h.Ns mainGlobals mg) (hfa : mg ("law" : Str) = some (.ref f)) (c : EX.SaysE fa fn [dBad] ex w K) :
    ∃ fd : FuncData, (∀ (s : Shared) (v : Value), BindsTo s fd ⟨[v], []⟩ [("script", v)]) ∧ ∀ base : Heap, K.In base → base.Ns mainGlobals mg → FnOk R.prog w K mg base CX0 5 f fd ["script"] (spLaw K) := by
  have cd : He.SaysD fa fn K := c.t.d
  obtain ⟨fdC, FC⟩ := cd.def_ 0 (d := dfn "cut" 10) rfl
  obtain ⟨fdT, FT⟩ := cd.def_ 1 (d := dfn "text_at" 11) rfl
  obtain ⟨fdQ, FQ⟩ := cd.def_ 2 (d := dfn "quoted" 12) rfl
  obtain ⟨fdD, FD⟩ := cd.def_ 3 (d := dfn "_law_dice" 14) rfl
  obtain ⟨fdR, FR⟩ := cd.def_ 4 (d := dfn "_law_roll" 15) rfl
  obtain ⟨fdN, FN⟩ := cd.def_ 5 (d := dfn "_law_rounds" 16) rfl
  obtain ⟨fdP, FP⟩ := cd.def_ 6 (d := dfn "_law_place" 17) rfl
  obtain ⟨fd, F⟩ := cd.def_ 7 (d := dfn "law" 18) rfl
  have e := hfa.symm.trans (He.glo_ok X G (cd.fact 7 (f := .glo "law") rfl))
  cases e
  obtain ⟨m1, hm⟩ := He.ba c.more
  obtain ⟨m2, hm⟩ := He.ba hm
  obtain ⟨m3, hm⟩ := He.ba hm
  obtain ⟨m4, hm⟩ := He.ba hm
  obtain ⟨m5, m6⟩ := He.ba hm
  obtain ⟨TE, xf, ec⟩ := EX.exB_ok (prog := R.prog) X G shape (by kernel_rfl) (EX.exW_at c.own 0) m1
  obtain ⟨tS, mS⟩ := He.str_ok X G (cd.fact 19 (f := .str "SMALL" (S smL)) rfl)
  obtain ⟨tF, mF⟩ := He.str_ok X G (cd.fact 20 (f := .str "FIGURES" (S fiL)) rfl)
  obtain ⟨tO, mO⟩ := He.str_ok X G (cd.fact 21 (f := .str "ONE" (S oneL)) rfl)
  obtain ⟨tP, mPR⟩ := He.str_ok X G (cd.fact 22 (f := .str "PRINTED" (S prL)) rfl)
  have zLen := He.free_ok X G (cd.fact 12 (f := .free "len") rfl)
  have zInt := He.free_ok X G (cd.fact 13 (f := .free "int") rfl)
  have zStr := He.free_ok X G (cd.fact 14 (f := .free "str") rfl)
  have zRange := He.free_ok X G (cd.fact 15 (f := .free "range") rfl)
  have zIsi := He.free_ok X G (cd.fact 16 (f := .free "isinstance") rfl)
  have zVE := He.free_ok X G (cd.fact 17 (f := .free "ValueError") rfl)
  have zAbs := He.free_ok X G (cd.fact 18 (f := .free "abs") rfl)
  have mC := He.glo_ok X G (cd.fact 0 (f := .glo "cut") rfl)
  have mT := He.glo_ok X G (cd.fact 1 (f := .glo "text_at") rfl)
  have mQ := He.glo_ok X G (cd.fact 2 (f := .glo "quoted") rfl)
  have mD := He.glo_ok X G (cd.fact 3 (f := .glo "_law_dice") rfl)
  have mR := He.glo_ok X G (cd.fact 4 (f := .glo "_law_roll") rfl)
  have mN := He.glo_ok X G (cd.fact 5 (f := .glo "_law_rounds") rfl)
  have mP := He.glo_ok X G (cd.fact 6 (f := .glo "_law_place") rfl)
  have mEF := He.glo_ok X G (cd.fact 8 (f := .glo "EngineFault") rfl)
  have mW := He.glo_ok X G (cd.fact 9 (f := .glo "WORDS") rfl)
  have mTwo := He.glo_ok X G (cd.fact 10 (f := .glo "TWO") rfl)
  have bC : Binds K fdC ["text"] [] := FunD.bindsN FC fun _ _ _ _ _ _ us hl => match us, hl with | [_], _ => rfl
  have bT : Binds K fdT ["text", "k"] [] := FunD.bindsN FT fun _ _ _ _ _ _ us hl => match us, hl with | [_, _], _ => rfl
  have bQ : Binds K fdQ ["what"] [] := FunD.bindsN FQ fun _ _ _ _ _ _ us hl => match us, hl with | [_], _ => rfl
  have bD : Binds K fdD ["cell"] [] := FunD.bindsN FD fun _ _ _ _ _ _ us hl => match us, hl with | [_], _ => rfl
  have bR : Binds K fdR ["dice", "many"] [] := FunD.bindsN FR fun _ _ _ _ _ _ us hl => match us, hl with | [_, _], _ => rfl
  have bN : Binds K fdN ["script", "most"] [] := FunD.bindsN FN fun _ _ _ _ _ _ us hl => match us, hl with | [_, _], _ => rfl
  have bP : Binds K fdP ["text"] [] := FunD.bindsN FP fun _ _ _ _ _ _ us hl => match us, hl with | [_], _ => rfl
  have b := FunD.bindsA (ps := ["script"]) F fun _ _ _ _ _ _ us hl => match us, hl with | [_], _ => rfl
  have kW : ∀ H, SqT K H (He.ga K "WORDS") (wordsL.map fun m => V.str (S m)) := fun H => by
    have := He.tupB_ok m2 H
    rw [List.map_map] at this
    exact this
  have kT : ∀ H, SqT K H (He.ga K "TWO") (twoL.map fun m => V.str (S m)) := fun H => by
    have := He.tupB_ok m3 H
    rw [List.map_map] at this
    exact this
  refine ⟨fd, fun s v => b s [v] rfl, fun base _ _ => ?_⟩
  have GD := ok_dice (P := R.prog) (w := w) (base := base) FD zAbs zInt
  have GR := ok_roll (P := R.prog) (w := w) (base := base) FR zInt
  have GN := ok_rounds (P := R.prog) (w := w) (base := base) FN FD mD bD GD
  have GQ := ok_quoted (P := R.prog) (w := w) (mg := mg) (base := base) FQ
  have GT := ok_text_at (P := R.prog) (w := w) (base := base) FT TE zLen mPR
  have GC := ok_cut (P := R.prog) (w := w) (base := base) FC (fT := He.ga K "text_at") (aW := He.ga K "WORDS") (aT := He.ga K "TWO") ⟨zLen, zInt, zIsi, zStr, mS, mF, mO, mW, mTwo, mT, kW, kT⟩ TE FT bT GT
  have GP := ok_place (P := R.prog) (w := w) (base := base) FP (CF := He.ga K "EngineFault") ⟨mC, TE.gC, mEF, zIsi, zVE, ec, xf, TE.noN, of_decide_eq_true m4, of_decide_eq_true m5, of_decide_eq_true m6⟩ FC bC GC
  exact ok_law F ⟨zLen, zInt, zStr, zRange, mN, mR, mQ, mC, mP, FN.kp, FR.kp, FQ.kp, FC.kp, FP.kp, bN, bR, bQ, bC, bP⟩ GN GR GQ GC GP
end EH
open PySem PySem.W PySem.Calls PyProof.Rows
theorem PySem.Challenge.cw_enginehall_k01_parts_of_texts_holds : PySem.Challenge.rw_enginehall_k01_parts_of_texts.Holds := by
  w_on; o_law
  refine HandSHeadRun.head_any (r := OpenLaw.row PySem.Challenge.rw_enginehall_k01_parts_of_texts) (q := view (OpenLaw.row PySem.Challenge.rw_enginehall_k01_parts_of_texts).prog [18]) (H := EH.hk) (ob := EH.ob) (M := 3000) (loose := EH.loose) (d := HandSHeadRun.topDef (OpenLaw.row PySem.Challenge.rw_enginehall_k01_parts_of_texts).prog 18) (kwd := []) EH.ob_eq
    (by kernel_rfl) (fun s => by kernel_rfl) EH.run (by kernel_rfl) (by kernel_rfl) (by kernel_rfl) (by rfl) (by first | assumption | decide +kernel) (by decide +kernel) ⟨rfl, rfl, rfl, rfl, rfl, by decide +kernel⟩ ?hw ?hc
  case hw => w_witness2
  case hc =>
    refine L2.walk_ofE (l := PySem.Challenge.rw_enginehall_k01_parts_of_texts) (n := 63) (k := 5) (x := "script") (CX := L2.CX0) rfl (by decide) (by kernel_rfl) ⟨rfl, by decide, by decide⟩ ?F (fun _ _ _ _ z => z)
    intro w mg fa h Y G hmg0
    obtain ⟨K, KX, c⟩ := Y
    have hmg : mg ("law" : PySem.Str) = some (.ref fa) := by
      have e : (HandSHeadRun.topDef (OpenLaw.row PySem.Challenge.rw_enginehall_k01_parts_of_texts).prog 18).name = ("law" : PySem.Str) := by kernel_rfl
      rw [← e]
      exact hmg0
    obtain ⟨fd, hb, hF⟩ := EH.facts (w := w) KX G hmg c
    exact ⟨K, fd, EH.spLaw K, KX, hb, fun H a ns hl _ hS => ⟨a, ns, rfl, hS, hl, fun _ => rfl⟩, hF⟩
#print axioms PySem.Challenge.cw_enginehall_k01_parts_of_texts_holds
