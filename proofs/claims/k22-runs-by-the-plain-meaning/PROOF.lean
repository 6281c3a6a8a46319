import PyProof.Rows.All
import HandS.ForMost
import HandS.ForExc
import HandS.TryMany
import HandS.ExcField
import HandS.ExcInit
import HandS.Lambda
import HandS.IsInst
import HandS.ExcSuper
import KE.KExcSuper
import PySem.Challenge.RW_worknets_k22_runs_by_the_plain_meaning
import HandS.Small
import HandS.Walk
import HandS.CallLocal
import HandS.TupAny
import HandS.Style
import HandS.Replace
import HandS.Zip0
import HandS.Iter
import PyProof.EnumMake
import PyProof.EnumStmt
import HandS.TupMul
import KE.GoesEnum
import KE.GoesMore
import KE.KDictZip
import KE.KDictList
import PyProof.ListNew
import HandS.Zip
import HandS.OwnEq
import KE.KeyNested
import KE.KDictKeyed
import KE.KDictDisplayH
import HandS.Conv
import HandS.TupLen
import KE.KDictPairs
import HandS.DictTup
import HandS.SortRule
import HandS.SortOrd
import PyProof.Rows.SortKeyStr
import PyProof.ConsumeWalk
import HandS.Deep
import KE.KTupSum
import PyProof.ListStr
import HandS.DictComp
import HandS.NoneIn
import HandS.Star
import HandS.ExcOwn
import HandS.List
import HandS.TupLe
import HandS.EndTab
import KE.KNestM
set_option Elab.async false
set_option linter.all false
set_option maxRecDepth 100000
set_option maxHeartbeats 4000000
namespace Net
open PySem PySem.W PySem.Calls PyProof.Rows PySem.HandSPX
theorem wrap_call {prog : Program} {w : World} {A : Around} {E : Value → Shared → Prop} {h : Heap} {g : Array GenState} {d : Drawn} {t : Nat} {os : OsState}
    {nm q : Str} {C N : Addr} {bs bm : List Value} {hdct : Bool} {sn : List Str} {sub : List Value} {ab : Bool} {col : Option Bool} {dd : Option Addr} {k0 k1 k2 k3 k5 : Option Value}
    {u e t0 : Addr} {rest : List Value} {Q : Value → Shared → Prop}
    (cC : h.get? C = some (excClassObj nm q C N bs bm hdct sn sub ab col dd k0 k1 k2 k3 k5 "ValueError.__new__"))
    (ce : h.get? e = some (excO C t0)) (cu : h.get? u = some (kxs_mw "ValueError.__init__" e)) (cr : rest.length ≤ sizeLine)
    (cq : ∀ h' t1, (∀ b o, b ≠ e → h.get? b = some o → h'.get? b = some o) → h'.get? e = some (excO C t1) → Q .none ⟨h', g, d, t, os⟩) :
    wpAny (model prog w) A (call (.ref u) rest) Q E ⟨h, g, d, t, os⟩ := by
  refine wpAny_call (codeAny_of_tree ?_)
  show wpAny _ A.in1 (callAny (.ref u) ⟨rest, []⟩) _ _ _
  simp only [callAny]
  refine wpAny_bind (wpAny_load cu ?_)
  have hm : (Value.type "method-wrapper" == Value.type "method" || Value.type "method-wrapper" == Value.type "builtin_function_or_method" || Value.type "method-wrapper" == Value.type "method-wrapper") = true := by decide
  simp only [kxs_mw, hm, if_true]
  refine KFB.if_so (by decide) ?_
  refine wpAny_bind (PySem.ESX.check_bound F.excBase_ValueError cC ce rfl ?_)
  refine wpAny_bind (wpAny_pure (wpAny_pure ?_))
  refine ⟨Code.quiet_builtin _ (by decide +kernel), codeAny_builtin F.excBase_ValueError.initEntry ?_⟩
  rw [Around.under_plainId F.excBase_ValueError.init.plain _]
  wp_walk
  refine cq _ h.objs.size (fun b o hb ho => ?_) ?_
  · exact (Heap.get?_update_other _ _ (Ne.symm hb)).trans (Heap.get?_push_of_some _ ho)
  · exact Heap.get?_update_self _ (Heap.get?_push_of_some _ ce) rfl
structure ExTxt (P : Program) (K : Frag) (mg : Str → Option Value) (C fI cc : Addr) (qual : Str) (st : Stmt) : Prop where
  oex : L2.OexC K C
  ini : findIn K (.ref C) "__init__" = some (some (.ref fI))
  tyI : typeIn K (.ref fI) = some (.type "function")
  fn : ∃ (oc : Value) (od : Option Addr) (osl : Array (Option Value)) (kV doc pm : Value) (an : Option Addr) (ct : Value) (cda : Addr) (ccl : Value) (cdd : Option Addr) (vs : Array Value) (ccs : Array (Option Value)) (file : Str) (tf : Tok),
    K.lookup fI = some ⟨oc, od, .func (ksFn "__init__" qual (L2.defArgs st) (L2.defBody st) (L2.defScope st) .none kV doc pm an (.ref cda) ct cc), osl⟩ ∧ codeIn K (.ref cda) qual = true ∧
    K.lookup cda = some ⟨ccl, cdd, .fields vs, ccs⟩ ∧ vs[2]? = some (.str file tf) ∧ ((P.main.file : Str) == file) = true
  cel : ∃ (cl : Value) (cld : Option Addr) (csl : Array (Option Value)), K.lookup cc = some ⟨cl, cld, .cell (some (.ref C)), csl⟩
  slf : mroIn K C (.ref C) = some true
  sup : ks_superIn K C C "__init__" = some (some (.builtin "ValueError.__init__"))
  isV : subIn K (.ref C) (.type "ValueError") = some true
  opq : nsIn K cStatics "thirdparty.any" = some none
  mgS : mg "super" = none
  mgC : (P.main.scope.names.lookup ("super" : Str)).isSome = false
section
variable {P : Program} {w : World} {K : Frag} {mg : Str → Option Value} {C fI cc : Addr} {qual : Str} {st : Stmt}
theorem super_row {A : Around} {E : Value → Shared → Prop} {body : List Stmt} {hp : Heap} {g : Array GenState} {d : Drawn} {t : Nat} {os : OsState} {L x t0 : Addr} {m : Str → Option Value} {cda : Addr} {es : List Expr} {us : List Value} {p0 p1 p2 p3 p4 : Pos} {Q : Flow → Shared → Prop}
    {oc : Value} {od : Option Addr} {osl : Array (Option Value)} {kV doc pm : Value} {an : Option Addr} {ct : Value} {ccl : Value} {cdd : Option Addr} {vs : Array Value} {ccs : Array (Option Value)} {file : Str} {tf : Tok} {ar : Arg}
    (T : ExTxt P K mg C fI cc qual st) (X : K.In hp) (M : L2.Mod K mg hp) (hf : K.lookup fI = some ⟨oc, od, .func (ksFn "__init__" qual (L2.defArgs st) (L2.defBody st) (L2.defScope st) .none kV doc pm an (.ref cda) ct cc), osl⟩)
    (hco : K.lookup cda = some ⟨ccl, cdd, .fields vs, ccs⟩) (hvs : vs[2]? = some (.str file tf)) (hfile : ((P.main.file : Str) == file) = true)
    (hx : hp.get? x = some (excO C t0)) (hL : hp.Ns L m) (hslf : m ar.arg = some (.ref x)) (har : ((L2.defArgs st).posonlyargs ++ (L2.defArgs st).args).head? = some ar)
    (hks : (L2.defScope st).names.lookup ("super" : Str) = some .globalImplicit) (hkc : (L2.defScope st).names.lookup ("__class__" : Str) = some .free) (hka : (L2.defScope st).names.lookup ar.arg = some .local) (hk : (L2.defScope st).kind = .function)
    (hlen : us.length ≤ sizeLine) (xL : x ≠ L)
    (hes : ∀ (h2 : Heap) (t2 : Nat) (u : Addr) (Q2 : Args → Shared → Prop), h2.Ns L m → (∀ t3, Q2 ⟨us, []⟩ ⟨h2, g, d, t3, os⟩) → wpAny (model P w) A (evalArgs (.ref u) true (backTo p3 (starEach es (ksEnv qual (L2.defScope st) L fI (.ref cda) cc))) []) Q2 E ⟨h2, g, d, t2, os⟩)
    (hst : (backTo p3 (starEach es (ksEnv qual (L2.defScope st) L fI (.ref cda) cc))).any (·.1) = false)
    (hq : ∀ h' t' t1, (∀ b o, b ≠ x → hp.get? b = some o → h'.get? b = some o) → h'.get? x = some (excO C t1) → Q .next ⟨h', g, d, t', os⟩)
    {pl : Sem Bool} (hsw : swapsWith (.Call (.Attribute (.Call (.Name "super" p0) [] [] p1) "__init__" p2) es [] p3) none p4.line (ksEnv qual (L2.defScope st) L fI (.ref cda) cc) = pure false)
    (he : eval (.Call (.Attribute (.Call (.Name "super" p0) [] [] p1) "__init__" p2) es [] p3) (ksEnv qual (L2.defScope st) L fI (.ref cda) cc) = (do
      let ov ← attributeBase (.Call (.Name "super" p0) [] [] p1) "__init__" (ksEnv qual (L2.defScope st) L fI (.ref cda) cc) (eval (.Call (.Name "super" p0) [] [] p1) (ksEnv qual (L2.defScope st) L fI (.ref cda) cc))
      standAt p2.atName
      let (f, first) ← holding [ov] (getMethod ov "__init__" pl)
      callWith p3 f first (backTo p3 (starEach es (ksEnv qual (L2.defScope st) L fI (.ref cda) cc))) [])) :
    _root_.PySem.wpAt (model P w) A (.func body (ksEnv qual (L2.defScope st) L fI (.ref cda) cc)) (exec (.Expr (.Call (.Attribute (.Call (.Name "super" p0) [] [] p1) "__init__" p2) es [] p3) p4) (ksEnv qual (L2.defScope st) L fI (.ref cda) cc)) Q E ⟨hp, g, d, t, os⟩ := by
  obtain ⟨nm, qn, N, bs, bm, sn, sub, ab, col, dd, k0, k1, k2, k3, k5, hC, hbm⟩ := T.oex.cls
  obtain ⟨mb, b1, b2⟩ := M.blt
  obtain ⟨cl, cld, csl, hcel⟩ := T.cel
  have xC : x ≠ C := by
    rintro rfl
    have e1 := X _ _ hC
    rw [hx] at e1
    cases e1
  refine ks_wpAt_Expr_any (ks_wpAt_MethodCall ?_ he) (by simp [interactive, hk]) hsw
  refine ks_wpAt_super_base (env := ksEnv qual (L2.defScope st) L fI (.ref cda) cc) hks hkc (by decide) rfl (X _ _ hf) rfl har rfl (X _ _ hco) rfl hvs hfile T.mgC ?_
  refine ks_loadName_global hk hks (loadGlobal_builtin (env := ksEnv qual (L2.defScope st) L fI (.ref cda) cc) M.glob T.mgS b1 ((b2 _ (by decide)).trans (show bootBuiltins "super" = some (.type "super") by first | rfl | kernel_rfl)) ⟨rfl, ?_⟩)
  refine wpAny_loadName_free hk hkc rfl ⟨_, X _ _ hcel, rfl⟩ ?_
  refine wpAny_loadName_local hk hka hL hslf ?_
  refine ks_wpAny_isType_cls (X _ _ hC) rfl ⟨rfl, ?_⟩
  refine ks_wpAny_call_super (X _ _ hC) rfl hx rfl (fun c e => nomatch e) (looks_mroIn X T.slf) (fun h1 e1 kk => ?_)
  have X1 : K.In h1 := X.keeps kk
  have hcl : clsIn K C = some { name := nm, bases := bs, mro := .ref C :: bm, ns := N, qualname := qn, hasDict := true, slotNames := sn, subclasses := sub, abstract := ab, collection := col, hasDel := false } := by
    unfold clsIn
    rw [hC] <;> rfl
  have I1 : InstAt h1 x (excO C t0) C none := ⟨kk _ _ hx, rfl, rfl, trivial⟩
  have hsup := T.sup
  unfold ks_superIn at hsup
  rw [hcl] at hsup
  refine kxs_getMethod kxs_ValueError e1 (looks_opaque X1 T.opq) (fun A Q E s k q => wpAny_bind ((looks_clsIn X1 hcl) A _ E s k (wpAny_pure q))) rfl X1 hsup (I1.type.andThen (looks_subIn X1 T.isV)) xC (by decide) ?_
  have kp : ∀ b o, h1.get? b = some o → (h1.push (kxs_mw "ValueError.__init__" x)).get? b = some o := fun b o e => Heap.get?_push_of_some _ e
  have hu : (h1.push (kxs_mw "ValueError.__init__" x)).get? h1.objs.size = some (kxs_mw "ValueError.__init__" x) := Heap.get?_push_at rfl rfl
  refine kxs_callWith (i := "ValueError.__init__") (x := x) hst ?_
  refine hes _ _ _ _ ((hL.keeps kk).keeps kp) fun t3 => ⟨hu, ?_⟩
  refine wrap_call (X1.keeps kp _ _ hC) (kp _ _ (kk _ _ hx)) hu hlen fun h2 t1 k2 hx2 => ?_
  exact hq h2 _ t1 (fun b o hb e => k2 b o hb (kp _ _ (kk _ _ e))) hx2
end
end Net
namespace Net
open PySem PySem.W PySem.Calls PyProof.Rows PySem.HandSPX
def top (i : Nat) : Stmt := PySem.Challenge.pw_worknets_k22_runs_by_the_plain_meaning.main.body.getD i (.Pass ⟨0, 0, 0, 0⟩)
abbrev sNN : Stmt := L2.inClass (top 3) 0
abbrev sRF : Stmt := L2.inClass (top 4) 0
structure Laid (h h' : Heap) (x C dx t1 : Addr) (fm : Str → Option Value) : Prop where
  keep : ∀ b o, b ≠ x → h.get? b = some o → h'.get? b = some o
  obj : h'.get? x = some { cls := .ref C, dict := some dx, data := .fields #[.ref t1, .none, .none, .none, .bool false, .none] }
  big : h.objs.size ≤ dx
  ne : dx ≠ x
  ns : h'.Ns1 dx fm
section
variable {P : Program} {w : World} {K : Frag} {mg : Str → Option Value} {C fI cc : Addr} {qual : Str} {st : Stmt}
theorem in_but {K : Frag} {h h' : Heap} {x : Addr} (X : K.In h) (hx : K.lookup x = none) (k : ∀ b o, b ≠ x → h.get? b = some o → h'.get? b = some o) : K.In h' := fun a o e =>
  k a o (fun z => by rw [z, hx] at e; cases e) (X a o e)
theorem ns_but {h h' : Heap} {x L : Addr} {m : Str → Option Value} (n : h.Ns L m) (xL : x ≠ L) (k : ∀ b o, b ≠ x → h.get? b = some o → h'.get? b = some o) : h'.Ns L m := by
  obtain ⟨o, es, ep, e, r⟩ := n
  exact ⟨o, es, ep, k _ _ (Ne.symm xL) e, r⟩
theorem ns_lt {h : Heap} {L : Addr} {m : Str → Option Value} (n : h.Ns L m) : L < h.objs.size := by
  obtain ⟨o, es, ep, e, r⟩ := n
  exact Heap.lt_size e
theorem lay_one {A : Around} {E : Value → Shared → Prop} {hp : Heap} {g : Array GenState} {d : Drawn} {t : Nat} {os : OsState} {x t0 : Addr} {f : Str} {v : Value} {Q : Unit → Shared → Prop} (T : ExTxt P K mg C fI cc qual st) (X : K.In hp) (hx : hp.get? x = some (excO C t0))
    (hno : findIn K (.ref C) f = some none) (hq : ∀ h' t' dx, Laid hp h' x C dx t0 (fun y => if y = f then some v else none) → Q () ⟨h', g, d, t', os⟩) : wpAny (model P w) A (setAttr (.ref x) f v) Q E ⟨hp, g, d, t, os⟩ := by
  obtain ⟨nm, qn, N, bs, bm, sn, sub, ab, col, dd, k0, k1, k2, k3, k5, hC, hbm⟩ := T.oex.cls
  have hcl : clsIn K C = some { name := nm, bases := bs, mro := .ref C :: bm, ns := N, qualname := qn, hasDict := true, slotNames := sn, subclasses := sub, abstract := ab, collection := col, hasDel := false } := by
    unfold clsIn
    rw [hC] <;> rfl
  refine set_plain X (ox := excO C t0) (od := none) ⟨hx, rfl, rfl, trivial⟩ T.oex.sa ?_
  exact exc_osa X hx hcl (show refsVE (.ref C :: bm) = true from hbm) rfl hno fun h' tk' dx kk dn dne hx' hn => hq h' tk' dx ⟨kk, hx', dn, dne, hn⟩
theorem lay_more {A : Around} {E : Value → Shared → Prop} {h0 hp : Heap} {g : Array GenState} {d : Drawn} {t : Nat} {os : OsState} {x dx t0 : Addr} {f : Str} {v : Value} {fm : Str → Option Value} {ns : List Str} {Q : Unit → Shared → Prop} (T : ExTxt P K mg C fI cc qual st) (X : K.In hp)
    (hl : Laid h0 hp x C dx t0 fm) (hw : Within fm ns) (hz : ns.length ≤ 1000) (hno : findIn K (.ref C) f = some none)
    (hq : ∀ h' t', Laid h0 h' x C dx t0 (fun y => if y = f then some v else fm y) → Q () ⟨h', g, d, t', os⟩) : wpAny (model P w) A (setAttr (.ref x) f v) Q E ⟨hp, g, d, t, os⟩ := by
  obtain ⟨nm, qn, N, bs, bm, sn, sub, ab, col, dd, k0, k1, k2, k3, k5, hC, hbm⟩ := T.oex.cls
  have hcl : clsIn K C = some { name := nm, bases := bs, mro := .ref C :: bm, ns := N, qualname := qn, hasDict := true, slotNames := sn, subclasses := sub, abstract := ab, collection := col, hasDel := false } := by
    unfold clsIn
    rw [hC] <;> rfl
  obtain ⟨oD, esD, epD, hoD, hdD, _⟩ := hl.ns.count hw
  refine set_plain X (ox := { cls := .ref C, dict := some dx, data := .fields #[.ref t0, .none, .none, .none, .bool false, .none] }) (od := some oD) ⟨hl.obj, rfl, rfl, hoD⟩ T.oex.sa ?_
  refine PySem.OEX.osa_old X hl.obj hl.ns hw hz hcl (show refsVE (.ref C :: bm) = true from hbm) rfl hno fun h' tk' kk hn => hq h' tk' ⟨fun b o hb e => kk b o ?_ (hl.keep b o hb e), kk _ _ (Ne.symm hl.ne) hl.obj, hl.big, hl.ne, hn⟩
  exact Nat.ne_of_lt (Nat.lt_of_lt_of_le (Heap.lt_size e) hl.big)
theorem rf_init {A : Around} {R : Result → Shared → Prop} {s : Shared} {x t0 : Addr} {v : Value} (T : ExTxt P K mg C fI cc qual sRF) (M : L2.Mod K mg s.heap) (hx : s.heap.get? x = some (excO C t0)) (hroom : A.depth < recursionLimit)
    (hnx : K.lookup x = none) (hno : findIn K (.ref C) "why" = some none)
    (hq : ∀ h' t' dx t1, Laid s.heap h' x C dx t1 (fun y => if y = "why" then some v else none) → R (.ok (.ret .none)) { s with heap := h', toks := t' }) :
    codeAny (model P w) A (.call (.ref fI) ⟨[.ref x, v], []⟩) R s := by
  obtain ⟨oc, od, osl, kV, doc, pm, an, ct, cda, ccl, cdd, vs, ccs, file, tf, hf, hcd, hco, hvs, hfile⟩ := T.fn
  have X : K.In s.heap := M.kin
  refine ks_codeAny_call_defAt (binds := [("self", .ref x), ("why", v)]) hroom (X _ _ hf) rfl M.nolimit (codeRec_of X hcd) rfl (BindsTo.of_eq (by first | rfl | with_unfolding_all rfl)) (show ∀ y ∈ (L2.defScope sRF).names, y.2 ≠ .cell by decide +kernel) (fun y hy => ?_) (fun h1 hns kk => ?_) rfl rfl rfl
  · rcases List.mem_cons.mp hy with rfl | hy
    · exact (show (L2.defScope sRF).names.lookup ("self" : Str) = some .local by decide +kernel)
    · rcases List.mem_cons.mp hy with rfl | hy
      · exact (show (L2.defScope sRF).names.lookup ("why" : Str) = some .local by decide +kernel)
      · cases hy
  obtain ⟨hp, g, d, t, os⟩ := s
  have M1 : L2.Mod K mg h1 := ⟨X.keeps kk, M.glob.keeps kk, by obtain ⟨mb, b1, b2⟩ := M.blt; exact ⟨mb, b1.keeps kk, b2⟩, M.nolimit.keeps kk⟩
  have xL : x ≠ hp.objs.size := Nat.ne_of_lt (Heap.lt_size hx)
  refine ks_wpAt_execs_cons ?_
  have one : [v].length ≤ sizeLine := by
    rw [sizeLine_eq]
    exact (by decide : 1 ≤ 16777216)
  refine super_row (t0 := t0) (har := rfl) T M1.kin M1 hf hco hvs hfile (kk _ _ hx) hns rfl (by decide +kernel) (by decide +kernel) (by decide +kernel) rfl (us := [v]) one xL (fun h2 t2 u Q2 hn2 q2 => ?_) (by rfl) (fun h2 t2 t1 k2 hx2 => ?_) (by rfl) (by rfl)
  · refine evalArgs_plain (spliced_cons (PySem.ESX.ldL hn2 (v := v) (by rfl) (spliced_nil (q2 _)) rfl (by rfl)))
  · have X2 : K.In h2 := in_but M1.kin hnx k2
    have hn2 := ns_but hns xL k2
    refine wpAt_of_wpAny (wpAny_execs_cons (plainObj_wpAny_Assign_Attribute (PySem.ESX.ldL hn2 (v := v) (by rfl) (PySem.ESX.ldL hn2 (v := .ref x) (by rfl) (lay_one T X2 hx2 hno fun h3 t3 dx hl => ?_) rfl (by rfl)) rfl (by rfl))))
    have z : hp.objs.size ≤ dx := Nat.le_trans (Nat.le_of_lt (ns_lt hn2)) hl.big
    exact wpAny_execs_nil (hq h3 t3 dx t1 ⟨fun b o hb e => hl.keep b o hb (k2 b o hb (kk b o e)), hl.obj, z, hl.ne, hl.ns⟩)
theorem nn_init {A : Around} {R : Result → Shared → Prop} {s : Shared} {x t0 : Addr} {v : Value} (T : ExTxt P K mg C fI cc qual sNN) (M : L2.Mod K mg s.heap) (hx : s.heap.get? x = some (excO C t0)) (hroom : A.depth < recursionLimit)
    (hnx : K.lookup x = none) (hno : findIn K (.ref C) "name" = some none)
    (hq : ∀ h' t' dx t1, Laid s.heap h' x C dx t1 (fun y => if y = "name" then some v else none) → R (.ok (.ret .none)) { s with heap := h', toks := t' }) :
    codeAny (model P w) A (.call (.ref fI) ⟨[.ref x, v], []⟩) R s := by
  obtain ⟨oc, od, osl, kV, doc, pm, an, ct, cda, ccl, cdd, vs, ccs, file, tf, hf, hcd, hco, hvs, hfile⟩ := T.fn
  have X : K.In s.heap := M.kin
  refine ks_codeAny_call_defAt (binds := [("self", .ref x), ("name", v)]) hroom (X _ _ hf) rfl M.nolimit (codeRec_of X hcd) rfl (BindsTo.of_eq (by first | rfl | with_unfolding_all rfl)) (show ∀ y ∈ (L2.defScope sNN).names, y.2 ≠ .cell by decide +kernel) (fun y hy => ?_) (fun h1 hns kk => ?_) rfl rfl rfl
  · rcases List.mem_cons.mp hy with rfl | hy
    · exact (show (L2.defScope sNN).names.lookup ("self" : Str) = some .local by decide +kernel)
    · rcases List.mem_cons.mp hy with rfl | hy
      · exact (show (L2.defScope sNN).names.lookup ("name" : Str) = some .local by decide +kernel)
      · cases hy
  obtain ⟨hp, g, d, t, os⟩ := s
  have M1 : L2.Mod K mg h1 := ⟨X.keeps kk, M.glob.keeps kk, by obtain ⟨mb, b1, b2⟩ := M.blt; exact ⟨mb, b1.keeps kk, b2⟩, M.nolimit.keeps kk⟩
  have xL : x ≠ hp.objs.size := Nat.ne_of_lt (Heap.lt_size hx)
  refine ks_wpAt_execs_cons ?_
  have one : [v].length ≤ sizeLine := by
    rw [sizeLine_eq]
    exact (by decide : 1 ≤ 16777216)
  refine super_row (t0 := t0) (har := rfl) T M1.kin M1 hf hco hvs hfile (kk _ _ hx) hns rfl (by decide +kernel) (by decide +kernel) (by decide +kernel) rfl (us := [v]) one xL (fun h2 t2 u Q2 hn2 q2 => ?_) (by rfl) (fun h2 t2 t1 k2 hx2 => ?_) (by rfl) (by rfl)
  · refine evalArgs_plain (spliced_cons (PySem.ESX.ldL hn2 (v := v) (by rfl) (spliced_nil (q2 _)) rfl (by rfl)))
  · have X2 : K.In h2 := in_but M1.kin hnx k2
    have hn2 := ns_but hns xL k2
    refine wpAt_of_wpAny (wpAny_execs_cons (plainObj_wpAny_Assign_Attribute (PySem.ESX.ldL hn2 (v := v) (by rfl) (PySem.ESX.ldL hn2 (v := .ref x) (by rfl) (lay_one T X2 hx2 hno fun h3 t3 dx hl => ?_) rfl (by rfl)) rfl (by rfl))))
    have z : hp.objs.size ≤ dx := Nat.le_trans (Nat.le_of_lt (ns_lt hn2)) hl.big
    exact wpAny_execs_nil (hq h3 t3 dx t1 ⟨fun b o hb e => hl.keep b o hb (k2 b o hb (kk b o e)), hl.obj, z, hl.ne, hl.ns⟩)
end
end Net
namespace Net
open PySem PySem.W PySem.Calls PyProof.Rows PySem.HandSPX
structure Made (h h' : Heap) (e C d : Addr) (fm : Str → Option Value) : Prop where
  keep : ∀ b o, h.get? b = some o → h'.get? b = some o
  new : h.objs.size ≤ e
  obj : ∃ oe vs, h'.get? e = some oe ∧ oe.cls = .ref C ∧ oe.dict = some d ∧ oe.data = .fields vs ∧ vs[1]? = some .none
  big : h.objs.size ≤ d
  ne : d ≠ e
  ns : h'.Ns1 d fm
section
variable {P : Program} {w : World} {K : Frag} {mg : Str → Option Value} {C fI cc : Addr} {qual : Str} {st : Stmt}
theorem made_of {A : Around} {R : Result → Shared → Prop} {hp : Heap} {g : Array GenState} {dr : Drawn} {tk : Nat} {os : OsState} {us : List Value} {fm : Str → Option Value} (T : ExTxt P K mg C fI cc qual st) (M : L2.Mod K mg hp) (hus : us.length ≤ sizeLine)
    (ini : ∀ (A : Around) (h : Heap) (x t0 : Addr) (R : Result → Shared → Prop), A.depth < recursionLimit → L2.Mod K mg h → h.get? x = some (excO C t0) → K.lookup x = none → (∀ h' t' dx t1, Laid h h' x C dx t1 fm → R (.ok (.ret .none)) ⟨h', g, dr, t', os⟩) → codeAny (model P w) A (.call (.ref fI) ⟨.ref x :: us, []⟩) R ⟨h, g, dr, tk, os⟩)
    (hroom : A.depth + 1 < recursionLimit)
    (hq : ∀ h' t' e d, Made hp h' e C d fm → R (.ok (.ret (.ref e))) ⟨h', g, dr, t', os⟩) : codeAny (model P w) A (.call (.ref C) ⟨us, []⟩) R ⟨hp, g, dr, tk, os⟩ := by
  obtain ⟨nm, qn, N, bs, bm, sn, sub, ab, col, dd, k0, k1, k2, k3, k5, hC, hbm⟩ := T.oex.cls
  have k : ∀ b o, hp.get? b = some o → ((hp.push (kdv_tup us)).push (excO C hp.objs.size)).get? b = some o := fun b o e => Heap.get?_push_of_some _ (Heap.get?_push_of_some _ e)
  have hget : ((hp.push (kdv_tup us)).push (excO C hp.objs.size)).get? (hp.objs.size + 1) = some (excO C hp.objs.size) := by heap_get
  have hnx : K.lookup (hp.objs.size + 1) = none := by
    cases e : K.lookup (hp.objs.size + 1) with
    | none => rfl
    | some o => exact absurd (Nat.lt_of_succ_lt (Heap.lt_size (M.kin _ _ e))) (Nat.lt_irrefl _)
  have M1 : L2.Mod K mg ((hp.push (kdv_tup us)).push (excO C hp.objs.size)) := ⟨M.kin.keeps k, M.glob.keeps k, by obtain ⟨mb, b1, b2⟩ := M.blt; exact ⟨mb, b1.keeps k, b2⟩, M.nolimit.keeps k⟩
  refine call_own F.excBase_ValueError (fun Y => refsVE_contains Y bm hbm) (M.kin _ _ hC) (looks_findIn M.kin T.ini) (fun self => bind_fn M.kin self T.tyI) hus ?_
  refine ini _ _ _ hp.objs.size _ ?_ M1 hget hnx fun h' t' dx t1 hl => ?_
  · show A.depth + 1 < recursionLimit
    exact hroom
  · have old : ∀ b o, hp.get? b = some o → h'.get? b = some o := fun b o e => hl.keep b o (Nat.ne_of_lt (Nat.lt_succ_of_lt (Heap.lt_size e))) (k b o e)
    have z : hp.objs.size ≤ dx := by
      have q := hl.big
      rw [Heap.size_push, Heap.size_push] at q
      omega
    exact ⟨rfl, hq h' t' _ dx ⟨old, Nat.le_succ _, ⟨_, _, hl.obj, rfl, rfl, rfl, rfl⟩, z, hl.ne, hl.ns⟩⟩
end
end Net
namespace Net
open PySem PySem.Spec PyProof.Rows L2
section
variable {X : Cx} {C fI cc : Addr} {qual : Str} {st : Stmt}
theorem mkp_of {pins : List (Addr × Obj)} {σ : L2.St} {H : Hp} {Q : XK} {hp h' : Heap} {g : Array GenState} {dr : Drawn} {tk tk' : Nat} {os : OsState} {e d : Addr} {fm : Str → Option Value} {fs : List (Str × V)} (T : ExTxt X.prog X.K X.mg C fI cc qual st) (I : Inv X pins σ H ⟨hp, g, dr, tk, os⟩)
    (M : Made hp h' e C d fm) (rel : ∀ f, RelO (fs.lookup f) (fm f)) (q : ∀ d, H d = none → Q (.ref C) (some d) (upd H d (.xd fs))) : MkP X pins σ Q (.ref e) ⟨h', g, dr, tk', os⟩ := by
  obtain ⟨oe, fv, hoe, hc, hd, hdat, h1⟩ := M.obj
  obtain ⟨G', g1, g2⟩ := restrict h' fun b => decide (b ≠ e)
  have gk : ∀ b, b ≠ e → G'.get? b = h'.get? b := fun b hb => g1 b (decide_eq_true hb)
  have ge : G'.get? e = none := g2 e (by simp)
  have old : ∀ b o, hp.get? b = some o → G'.get? b = some o := fun b o q => (gk b (Nat.ne_of_lt (Nat.lt_of_lt_of_le (Heap.lt_size q) M.new))).trans (M.keep b o q)
  have ob : ObjOk X.prog X.w (upd H d (.xd fs)) G' d (.xd fs) := ⟨fm, M.ns.at (fun o q => (gk d M.ne).trans q), rel⟩
  have J : Inv X pins σ (upd H d (.xd fs)) ⟨G', g, dr, tk', os⟩ := I.laid (t' := tk') old M.big ob
  refine ⟨e, oe, fv, ⟨G', g, dr, tk', os⟩, _, .ref C, some d, rfl, J, fun b o q => ?_, ge, hoe, ⟨hc, hd⟩, hdat, h1, ?_, rfl, I.bare, raises_own T.oex.exC T.oex.tyC, q d (I.hok.fresh M.big)⟩
  · by_cases hb : b = e
    · have q' : G'.get? b = some o := q
      rw [hb, ge] at q'
      cases q'
    · exact (gk b hb).symm.trans q
  · rw [upd_ne (Ne.symm M.ne)]
    exact I.hok.fresh M.new
theorem rel_one {f : Str} {v : V} {u : Value} (r : RelV v u) (g : Str) : RelO (List.lookup g [(f, v)]) (if g = f then some u else none) := relO_put (fs := []) (mA := fun _ => none) r (fun _ => True.intro) g
def tMkRf (C : Addr) (ta : TA) : L2.St → Hp → XK → Prop := fun σ H Q => ta σ H fun vs H1 => ∃ v, vs = [v] ∧ ∀ d, H1 d = none → Q (.ref C) (some d) (upd H1 d (.xd [(("why" : Str), v)]))
theorem pmk_rf {a : Expr} {ta : TA} {p pos : Pos} {k : Nat} (T : ExTxt X.prog X.K X.mg C fI cc qual sRF) (gC : X.mg "Refused" = some (.ref C)) (hno : PySem.W.findIn X.K (.ref C) "why" = some none) (hr : Room k X.A) (hk : 1 ≤ k) (ha : PA X [a] ta) (hg : Gl X "Refused" := by rfl)
    (he : starEach (a :: []) X.env = (false, eval a X.env) :: starEach [] X.env := by rfl) (hpl : (backTo pos (starEach [] X.env)).any (·.1) = false := by rfl) :
    PMk X (.Call (.Name "Refused" p) [a] [] pos) (tMkRf C ta) := by
  intro pins s σ H Q I h
  refine wpAny_Call_Name_kw (ld_glob I hg gC ?_)
  refine PySem.W.callWith_K (h₀ := X.base) I.ok.mod.kin T.oex.kC (thn (ha.run pos pins s σ H _ I h) fun us s1 hh => ?_) he hpl
  obtain ⟨vs, H1, I1, r1, v, ev, q1⟩ := hh
  subst ev
  refine ⟨I1.kIn, ?_⟩
  cases r1 with
  | cons rv rn =>
    rename_i v' us'
    cases rn
    show wpAny _ _ (call (.ref C) [v']) _ _ _
    have M1 : Mod X.K X.mg s1.heap := ⟨I1.kIn, I1.mod.glob.keeps I1.bk, by obtain ⟨mb, b1, b2⟩ := I1.mod.blt; exact ⟨mb, b1.keeps I1.bk, b2⟩, I1.nolimit⟩
    obtain ⟨hp, g, dr, tk, os⟩ := s1
    have one : [v'].length ≤ sizeLine := by
      rw [sizeLine_eq]
      exact (by decide : 1 ≤ 16777216)
    refine wpAny_call (made_of T M1 one (fun A h x t0 R hd M hx hn hq => rf_init T M hx hd hn hno fun h' t' dx t1 hl => hq h' t' dx t1 hl) (by have := hr.dp; omega) fun h' tk' e d M => ?_)
    exact mkp_of T I1 M (rel_one rv) q1
def tMkNn (C : Addr) (ta : TA) : L2.St → Hp → XK → Prop := fun σ H Q => ta σ H fun vs H1 => ∃ v, vs = [v] ∧ ∀ d, H1 d = none → Q (.ref C) (some d) (upd H1 d (.xd [(("name" : Str), v)]))
theorem pmk_nn {a : Expr} {ta : TA} {p pos : Pos} {k : Nat} (T : ExTxt X.prog X.K X.mg C fI cc qual sNN) (gC : X.mg "NoName" = some (.ref C)) (hno : PySem.W.findIn X.K (.ref C) "name" = some none) (hr : Room k X.A) (hk : 1 ≤ k) (ha : PA X [a] ta) (hg : Gl X "NoName" := by rfl)
    (he : starEach (a :: []) X.env = (false, eval a X.env) :: starEach [] X.env := by rfl) (hpl : (backTo pos (starEach [] X.env)).any (·.1) = false := by rfl) :
    PMk X (.Call (.Name "NoName" p) [a] [] pos) (tMkNn C ta) := by
  intro pins s σ H Q I h
  refine wpAny_Call_Name_kw (ld_glob I hg gC ?_)
  refine PySem.W.callWith_K (h₀ := X.base) I.ok.mod.kin T.oex.kC (thn (ha.run pos pins s σ H _ I h) fun us s1 hh => ?_) he hpl
  obtain ⟨vs, H1, I1, r1, v, ev, q1⟩ := hh
  subst ev
  refine ⟨I1.kIn, ?_⟩
  cases r1 with
  | cons rv rn =>
    rename_i v' us'
    cases rn
    show wpAny _ _ (call (.ref C) [v']) _ _ _
    have M1 : Mod X.K X.mg s1.heap := ⟨I1.kIn, I1.mod.glob.keeps I1.bk, by obtain ⟨mb, b1, b2⟩ := I1.mod.blt; exact ⟨mb, b1.keeps I1.bk, b2⟩, I1.nolimit⟩
    obtain ⟨hp, g, dr, tk, os⟩ := s1
    have one : [v'].length ≤ sizeLine := by
      rw [sizeLine_eq]
      exact (by decide : 1 ≤ 16777216)
    refine wpAny_call (made_of T M1 one (fun A h x t0 R hd M hx hn hq => nn_init T M hx hd hn hno fun h' t' dx t1 hl => hq h' t' dx t1 hl) (by have := hr.dp; omega) fun h' tk' e d M => ?_)
    exact mkp_of T I1 M (rel_one rv) q1
theorem pmk_own0 {bmB : List Value} {B newId initId : String} {x : Str} {p pos : Pos} (F : ExcBaseFacts B newId initId bmB) (q : PySem.W.excIn X.K C bmB newId = true) (gC : X.mg x = some (.ref C))
    (kC : PySem.W.keepIn X.K (.ref C) = true) (r : Raises X (.ref C)) (hg : Gl X x := by rfl) (hdb : (x == ("__debug__" : Str)) = false := by decide) :
    PMk X (.Call (.Name x p) [] [] pos) (fun _ H Q => Q (.ref C) none H) := by
  intro pins s σ H Q I h
  refine wpAny_Call_Name_kw (ld_glob I hg gC ?_ hdb)
  refine PySem.W.callWith_K0 I.kIn kC ?_
  show wpAny _ _ (call (.ref C) []) _ _ _
  obtain ⟨bm, N, nm, qn, bs, hdct, sn, sub, ab, col, dd, k0, k1, k2, k3, k5, mN, hC, hN, hni, T⟩ := exc_obj I.kIn q
  refine wpAny_call_exc_subT F T hC hN hni (fun h' e hm => ?_) (Nat.zero_le _)
  exact mk_of I hm r h (I.hok.gone hm.new)
end
end Net
namespace Net
open PySem PySem.Spec PyProof.Rows L2
structure Ok1 (P : Program) (w : World) (K : PySem.W.Frag) (mg : Str → Option Value) (base : Heap) (CX : CXT) (k : Nat) (x : Str) (ps : List Str) (sp : Sp) (f : Addr) (fd : FuncData) : Prop where
  g : mg x = some (.ref f)
  kp : PySem.W.keepIn K (.ref f) = true
  b : Binds K fd ps []
  ok : FnOk P w K mg base CX k f fd ps sp
theorem same_upd {H : Hp} {p : Addr} {o : HO} (h : H p = none) : Same H (upd H p o) := fun b x e => by
  rw [upd_ne (ne_of_none e h)]
  exact e
mutual
inductive Rp (H : Hp) : V → PyData → Prop
  | non : Rp H .non .none
  | bl (b : Bool) : Rp H (.bl b) (.bool b)
  | int (i : Int) : Rp H (.int i) (.int i)
  | str (x : Str) : Rp H (.str x) (.str x)
  | lst {a : Addr} {xs : List V} {ds : List PyData} : H a = some (.lst xs) → RpA H xs ds → Rp H (.ref a) (.list ds)
  | tup {a : Addr} {xs : List V} {ds : List PyData} : H a = some (.tup xs) → RpA H xs ds → Rp H (.ref a) (.tuple ds)
  | dic {a : Addr} {kvs : List (Key × V)} : H a = some (.dK kvs) → Rp H (.ref a) (.dict [])
inductive RpA (H : Hp) : List V → List PyData → Prop
  | nil : RpA H [] []
  | cons {v : V} {vs : List V} {d : PyData} {ds : List PyData} : Rp H v d → RpA H vs ds → RpA H (v :: vs) (d :: ds)
end
def Kp (H H' : Hp) : Prop := ∀ b o, H b = some o → ((∃ xs, o = .lst xs) ∨ (∃ xs, o = .tup xs) ∨ (∃ kvs, o = .dK kvs)) → H' b = some o
theorem Kp.of {H H' : Hp} (s : Same H H') : Kp H H' := fun b o e _ => s b o e
mutual
theorem Rp.kp {H H' : Hp} (s : Kp H H') : ∀ (d : PyData) (v : V), Rp H v d → Rp H' v d
  | .none, _, h => by cases h; exact .non
  | .bool b, _, h => by cases h; exact .bl b
  | .int i, _, h => by cases h; exact .int i
  | .str x, _, h => by cases h; exact .str x
  | .list ds, _, h => by
    cases h with
    | lst e a => exact .lst (s _ _ e (.inl ⟨_, rfl⟩)) (RpA.kp s ds _ a)
  | .tuple ds, _, h => by
    cases h with
    | tup e a => exact .tup (s _ _ e (.inr (.inl ⟨_, rfl⟩))) (RpA.kp s ds _ a)
  | .dict kvs, _, h => by
    cases h with
    | dic e => exact .dic (s _ _ e (.inr (.inr ⟨_, rfl⟩)))
theorem RpA.kp {H H' : Hp} (s : Kp H H') : ∀ (ds : List PyData) (vs : List V), RpA H vs ds → RpA H' vs ds
  | [], _, h => by cases h; exact .nil
  | d :: ds, _, h => by
    cases h with
    | cons a b => exact .cons (Rp.kp s d _ a) (RpA.kp s ds _ b)
end
theorem Rp.same {H H' : Hp} {d : PyData} {v : V} (h : Rp H v d) (s : Same H H') : Rp H' v d := Rp.kp (Kp.of s) d v h
theorem RpA.same {H H' : Hp} {ds : List PyData} {vs : List V} (h : RpA H vs ds) (s : Same H H') : RpA H' vs ds := RpA.kp (Kp.of s) ds vs h
theorem RpA.len {H : Hp} : ∀ {ds : List PyData} {vs : List V}, RpA H vs ds → vs.length = ds.length
  | [], _, h => by cases h; rfl
  | d :: ds, _, h => by
    cases h with
    | cons a b => rw [List.length_cons, List.length_cons, RpA.len b]
theorem RpA.get {H : Hp} : ∀ {ds : List PyData} {vs : List V} {i : Nat} {v : V}, RpA H vs ds → vs[i]? = some v → ∃ d, ds[i]? = some d ∧ Rp H v d
  | [], _, _, _, h, e => by
    cases h
    simp at e
  | d :: ds, _, 0, v, h, e => by
    cases h with
    | cons a b =>
      have e2 := Option.some.inj e
      subst e2
      exact ⟨d, rfl, a⟩
  | d :: ds, _, i + 1, v, h, e => by
    cases h with
    | cons a b => exact RpA.get (i := i) b e
theorem RpA.getD {H : Hp} : ∀ {ds : List PyData} {vs : List V} {i : Nat} {d : PyData}, RpA H vs ds → ds[i]? = some d → ∃ v, vs[i]? = some v ∧ Rp H v d
  | [], _, _, _, h, e => by simp at e
  | d :: ds, _, 0, x, h, e => by
    cases h with
    | cons a b =>
      have e2 := Option.some.inj e
      subst e2
      exact ⟨_, rfl, a⟩
  | d :: ds, _, i + 1, x, h, e => by
    cases h with
    | cons a b => exact RpA.getD (i := i) b e
theorem RpA.app {H : Hp} : ∀ {ds es : List PyData} {vs us : List V}, RpA H vs ds → RpA H us es → RpA H (vs ++ us) (ds ++ es)
  | [], _, _, _, h, e => by
    cases h
    exact e
  | d :: ds, _, _, _, h, e => by
    cases h with
    | cons a b => exact .cons a (RpA.app b e)
theorem RpA.take {H : Hp} : ∀ (n : Nat) {ds : List PyData} {vs : List V}, RpA H vs ds → RpA H (vs.take n) (ds.take n)
  | 0, _, _, _ => .nil
  | n + 1, [], _, h => by
    cases h
    exact .nil
  | n + 1, d :: ds, _, h => by
    cases h with
    | cons a b => exact .cons a (RpA.take n b)
theorem RpA.drop {H : Hp} : ∀ (n : Nat) {ds : List PyData} {vs : List V}, RpA H vs ds → RpA H (vs.drop n) (ds.drop n)
  | 0, _, _, h => h
  | n + 1, [], _, h => by
    cases h
    exact .nil
  | n + 1, d :: ds, _, h => by
    cases h with
    | cons a b => exact RpA.drop n b
theorem RpA.rev {H : Hp} : ∀ {ds : List PyData} {vs : List V}, RpA H vs ds → RpA H vs.reverse ds.reverse
  | [], _, h => by
    cases h
    exact .nil
  | d :: ds, _, h => by
    cases h with
    | cons a b =>
      rw [List.reverse_cons, List.reverse_cons]
      exact RpA.app (RpA.rev b) (.cons a .nil)
theorem RpA.one {H : Hp} {v : V} {d : PyData} (h : Rp H v d) : RpA H [v] [d] := .cons h .nil
theorem RpA.ints {H : Hp} : ∀ ns : List Int, RpA H (ns.map V.int) (ns.map PyData.int)
  | [] => .nil
  | n :: ns => .cons (.int n) (RpA.ints ns)
theorem RpA.ints_inv {H : Hp} : ∀ {ns : List Int} {vs : List V}, RpA H vs (ns.map PyData.int) → vs = ns.map V.int
  | [], _, h => by
    cases h
    rfl
  | n :: ns, _, h => by
    cases h with
    | cons a b =>
      cases a
      rw [RpA.ints_inv b]
      rfl
def tyN : PyData → String
  | .none => "NoneType"
  | .bool _ => "bool"
  | .int _ => "int"
  | .str _ => "str"
  | .list _ => "list"
  | .tuple _ => "tuple"
  | .dict _ => "dict"
theorem Rp.ty {K : PySem.W.Frag} {H : Hp} {v : V} {d : PyData} (h : Rp H v d) : TyX K H v (.type (tyN d)) := by
  cases h with
  | non => exact .base .non
  | bl b => exact .base (.bl b)
  | int i => exact .base (.int i)
  | str x => exact .base (.str x)
  | lst e _ => exact .base (.lst e)
  | tup e _ => exact .base (.tup e)
  | dic e => exact .base (.dK e)
def isInt : PyData → Bool
  | .int _ => true
  | _ => false
def isBool : PyData → Bool
  | .bool _ => true
  | _ => false
def isStr : PyData → Bool
  | .str _ => true
  | _ => false
def isTup : PyData → Bool
  | .tuple _ => true
  | _ => false
def isLst : PyData → Bool
  | .list _ => true
  | _ => false
section
variable {K : PySem.W.Frag}
theorem kit_int (d : PyData) : PySem.W.kitOne K (.type (tyN d)) (.type "int") = some (isInt d || isBool d) := kit_ty (by cases d <;> simp only [tyN, isInt, isBool, isStr, isTup, isLst] <;> decide +kernel)
theorem kit_bool (d : PyData) : PySem.W.kitOne K (.type (tyN d)) (.type "bool") = some (isBool d) := kit_ty (by cases d <;> simp only [tyN, isInt, isBool, isStr, isTup, isLst] <;> decide +kernel)
theorem kit_str (d : PyData) : PySem.W.kitOne K (.type (tyN d)) (.type "str") = some (isStr d) := kit_ty (by cases d <;> simp only [tyN, isInt, isBool, isStr, isTup, isLst] <;> decide +kernel)
theorem kit_tup (d : PyData) : PySem.W.kitOne K (.type (tyN d)) (.type "tuple") = some (isTup d) := kit_ty (by cases d <;> simp only [tyN, isInt, isBool, isStr, isTup, isLst] <;> decide +kernel)
theorem kit_lst (d : PyData) : PySem.W.kitOne K (.type (tyN d)) (.type "list") = some (isLst d) := kit_ty (by cases d <;> simp only [tyN, isInt, isBool, isStr, isTup, isLst] <;> decide +kernel)
theorem kit_tl (d : PyData) : PySem.W.kitAny K (.type (tyN d)) [.type "tuple", .type "list"] = some (isTup d || isLst d) := by
  refine kitAny_cons (b := isTup d) (kit_tup d) (fun e => ?_) (fun e => by rw [e]; rfl)
  refine kitAny_cons (b := isLst d) (kit_lst d) (fun e2 => ?_) (fun e2 => by rw [e2, Bool.or_true])
  rw [e, e2]
  rfl
theorem cls_tl : Paired ClsV [V.ty "tuple", .ty "list"] [.type "tuple", .type "list"] := .cons (.ty _) (.cons (.ty _) .nil)
end
structure Fill (H0 : Hp) (D : Addr) (l : List V) (H : Hp) : Prop where
  same : Same H0 H
  new : H0 D = none
  at_ : H D = some (.lst l)
theorem Fill.start {H : Hp} {D : Addr} (h : H D = none) : Fill H D [] (upd H D (.lst [])) := ⟨same_upd h, h, upd_same⟩
theorem Fill.put {H0 H : Hp} {D : Addr} {l l' : List V} (f : Fill H0 D l H) : Fill H0 D l' (upd H D (.lst l')) :=
  ⟨fun b o e => by rw [upd_ne (ne_of_none e f.new)]; exact f.same b o e, f.new, upd_same⟩
theorem Fill.ext {H0 H H' : Hp} {D : Addr} {l : List V} (f : Fill H0 D l H) (s : Same H H') : Fill H0 D l H' := ⟨f.same.trans s, f.new, s _ _ f.at_⟩
theorem Fill.add {H0 H : Hp} {D : Addr} {l l' : List V} {v : V} (f : Fill H0 D l H) (e : l' = l ++ [v]) : Fill H0 D l' (upd H D (.lst (l ++ [v]))) := by
  rw [e]
  exact f.put
theorem take_add {α : Type} {l : List α} {i : Nat} {x : α} (h : l[i]? = some x) : l.take (i + 1) = l.take i ++ [x] := by
  rw [List.take_succ, h]
  rfl
theorem take_len_le {α : Type} {l : List α} {i n : Nat} (h : l.length < n) : (l.take i).length < n := Nat.lt_of_le_of_lt (by rw [List.length_take]; exact Nat.min_le_right _ _) h
mutual
def dsz : PyData → Nat
  | .list ds => 1 + dszs ds
  | .tuple ds => 1 + dszs ds
  | _ => 1
def dszs : List PyData → Nat
  | [] => 0
  | d :: ds => dsz d + dszs ds
end
theorem dsz_pos : ∀ d : PyData, 1 ≤ dsz d
  | .none => Nat.le_refl _
  | .bool _ => Nat.le_refl _
  | .int _ => Nat.le_refl _
  | .str _ => Nat.le_refl _
  | .list ds => by rw [dsz]; omega
  | .tuple ds => by rw [dsz]; omega
  | .dict _ => Nat.le_refl _
theorem dszs_len : ∀ ds : List PyData, ds.length ≤ dszs ds
  | [] => Nat.le_refl _
  | d :: ds => by
    have h1 := dsz_pos d
    have h2 := dszs_len ds
    rw [dszs, List.length_cons]
    omega
theorem dszs_app : ∀ ds es : List PyData, dszs (ds ++ es) = dszs ds + dszs es
  | [], es => by rw [List.nil_append, dszs, Nat.zero_add]
  | d :: ds, es => by
    rw [List.cons_append, dszs, dszs, dszs_app ds es]
    omega
theorem dszs_rev : ∀ ds : List PyData, dszs ds.reverse = dszs ds
  | [] => rfl
  | d :: ds => by
    rw [List.reverse_cons, dszs_app, dszs_rev ds, dszs, dszs, dszs]
    omega
def TK (H H' : Hp) : Prop := ∀ b xs, H b = some (.tup xs) → H' b = some (.tup xs)
theorem TK.refl (H : Hp) : TK H H := fun _ _ h => h
theorem TK.trans {H H1 H2 : Hp} (a : TK H H1) (b : TK H1 H2) : TK H H2 := fun c o h => b c o (a c o h)
theorem TK.of {H H' : Hp} (s : Same H H') : TK H H' := fun b xs e => s b _ e
theorem TK.lst {H : Hp} {p : Addr} {l l' : List V} (h : H p = some (.lst l)) : TK H (upd H p (.lst l')) := fun b xs e => by
  have n : b ≠ p := fun z => by
    rw [z, h] at e
    cases e
  rw [upd_ne n]
  exact e
theorem Same.own {H0 H : Hp} {p : Addr} {o : HO} (s : Same H0 H) (h : H0 p = none) : Same H0 (upd H p o) := fun b x e => by
  rw [upd_ne (ne_of_none e h)]
  exact s b x e
theorem last_rev {α : Type} (v : α) (vs : List α) : (v :: vs).reverse[(v :: vs).reverse.length - 1]? = some v := by simp
theorem drop_rev {α : Type} (v : α) (vs : List α) : (v :: vs).reverse.dropLast = vs.reverse := by simp
mutual
def dok : PyData → Bool
  | .str s => decide (s.length ≤ 60000)
  | .list ds => doks ds
  | .tuple ds => doks ds
  | _ => true
def doks : List PyData → Bool
  | [] => true
  | d :: ds => dok d && doks ds
end
mutual
def ddep : PyData → Nat
  | .tuple ds => 1 + ddeps ds
  | _ => 0
def ddeps : List PyData → Nat
  | [] => 0
  | d :: ds => max (ddep d) (ddeps ds)
end
theorem doks_app : ∀ ds es : List PyData, doks (ds ++ es) = (doks ds && doks es)
  | [], es => by rw [List.nil_append, doks, Bool.true_and]
  | d :: ds, es => by rw [List.cons_append, doks, doks, doks_app ds es, Bool.and_assoc]
theorem doks_get {ds : List PyData} {i : Nat} {d : PyData} (h : doks ds = true) (e : ds[i]? = some d) : dok d = true := by
  induction ds generalizing i with
  | nil => simp at e
  | cons x ds ih =>
    rw [doks, Bool.and_eq_true] at h
    cases i with
    | zero => cases (Option.some.inj e); exact h.1
    | succ i => exact ih h.2 e
theorem ddeps_get {ds : List PyData} {i : Nat} {d : PyData} (e : ds[i]? = some d) : ddep d ≤ ddeps ds := by
  induction ds generalizing i with
  | nil => simp at e
  | cons x ds ih =>
    rw [ddeps]
    cases i with
    | zero =>
      cases (Option.some.inj e)
      omega
    | succ i =>
      have := ih (i := i) e
      omega
end Net
namespace NetR
open PySem PySem.Spec PyProof.Rows HT L2
theorem extTup (l : Addr) (items : Array Value) (n : Nat) (b : Addr) (items2 : Array Value) (n2 : Nat) (dd : Option Addr) (sl : Array (Option Value)) (h0 : ¬(!items.isEmpty && Builtin.List.listTooLong (items.size + items2.size)) = true) (h1 : items.size ≤ sizeLine) (h2 : items.size + items2.size ≤ sizeLine + 1) :
    Meets (Builtin.«list.extend» ⟨[.ref l, .ref b], []⟩) (fun _ R s => s.heap.get? l = some { cls := .type "list", dict := none, data := .seq items n, slots := #[] } ∧ s.heap.get? b = some { cls := .type "tuple", dict := dd, data := .seq items2 n2, slots := sl } ∧
      R (.ok (.ret Value.none)) { s with heap := s.heap.update l (Obj.mapSeq fun x => x ++ items2), toks := s.toks }) :=
  .of_wp fun prog w A R s h => by
    obtain ⟨hp, g, d, tk, os⟩ := s
    obtain ⟨hl, hb, h⟩ := h
    have f1 := PySem.AutoSeq1.idx_int
    have f2 := PySem.AutoSeq1.sub_tuple_tuple
    have f3 := PySem.AutoSeq1.sub_list_list
    have f4 := PySem.AutoSeq1.sub_tuple_list
    have f5 := PySem.AutoSeq1.sub_list_tuple
    have hz' : (items ++ items2).size ≤ sizeLine + 1 := by
      rw [Array.size_append]
      exact h2
    wp_walk using (wpAny_updateSeq hl rfl (hz := h1) (_hz' := hz')), PySem.AutoSeq1.wpAny_loadPart' hl, PySem.AutoSeq1.wpAny_loadPart' hb
    exact ⟨_, rfl, h⟩
def rExtT (K : PySem.W.Frag) : V → List V → Hp → VK → Prop := fun x vs H Q => ∃ l b xs zs, x = .ref l ∧ vs = [.ref b] ∧ H l = some (.lst xs) ∧ SqT K H b zs ∧ xs.length + zs.length ≤ sizeLine ∧ Q .non (upd H l (.lst (xs ++ zs)))
section
variable {X : Cx}
theorem mt_extendT : MtR X "list.extend" (rExtT X.K) := by
  intro pins s σ H x vs v us Q I rx rv h
  obtain ⟨l, b, xs, zs, rfl, rfl, hH, hB, hz, q⟩ := h
  cases rx
  obtain ⟨u, rfl, ru⟩ := rv.one
  cases ru
  obtain ⟨z, its, n, r, hl, e⟩ := I.lstM hH
  obtain ⟨its2, r2, ht, z2⟩ := I.tuple hB
  obtain ⟨⟨cls, dd, data, sl⟩, e2, hc, n2, hd⟩ := id ht
  simp only at hc hd
  subst hc hd
  have hl2 := r2.length
  have hsz : its.toArray.size + its2.toArray.size ≤ sizeLine := by
    rw [List.size_toArray, List.size_toArray]
    omega
  have hlong : ¬ (!its.toArray.isEmpty && Builtin.List.listTooLong (its.toArray.size + its2.toArray.size)) = true := by
    rw [notLongL hsz, Bool.and_false]
    exact Bool.false_ne_true
  refine call_meets F.slot_list_extend ⟨_, e, rfl⟩ F.entry_list_extend (F.args_list_extend_2 _ _) (extTup l its.toArray n b its2.toArray n2 dd sl hlong (by rw [List.size_toArray]; omega) (by omega)) ⟨e, e2, ?_⟩
  refine ⟨.non, _, I.lset (its' := its ++ its2) hH e (by simp) (r.append r2) ?_, rfl, q⟩
  rw [List.length_append]
  omega
end
section
variable {prog : Program} {w : World} {A : Around} {E : Value → Shared → Prop} {s : Shared}
theorem adjust_rev (n : Nat) : Builtin.Slice.sliceAdjust none none (-1) (n : Int) = ((n : Int) - 1, -1) := rfl
theorem places_rev (n : Nat) : Builtin.Slice.slicePlaces ((n : Int) - 1) (-1) (-1) = n := by
  unfold Builtin.Slice.slicePlaces
  have h1 : ¬ ((-1 : Int) > 0) := by omega
  simp only [h1, if_false, Int.neg_neg, Int.ediv_one]
  split <;> omega
theorem applied_rev {sl : Addr} {vl vu vs : Value} {n : Nat} {Q : Int × Int × Nat → Shared → Prop} (hs : s.heap.IsSliceOf sl vl vu vs) (pl : IsPart vl none) (pu : IsPart vu none) (ps : IsPart vs (some (-1)))
    (h : Q ((n : Int) - 1, -1, n) s) : wpAny (model prog w) A (Builtin.Slice.sliceApplied (.ref sl) (pure (n : Int))) Q E s := by
  obtain ⟨os, hos, hcs, hds⟩ := id hs
  unfold Builtin.Slice.sliceApplied Builtin.Slice.sliceFields
  refine wpAny_bind (wpAny_bind (wpAny_field hos hds (x := vl) rfl (wpAny_bind (wpAny_field hos hds (x := vu) rfl (wpAny_bind (wpAny_field hos hds (x := vs) rfl (wpAny_pure ?_)))))))
  refine wpAny_bind (slicePart_ ps ?_)
  show wpAny _ _ (if ((-1 : Int) == 0) = true then _ else _) _ _ s
  rw [if_neg (by decide)]
  refine wpAny_bind (slicePart_ pl (wpAny_bind (slicePart_ pu (wpAny_bind (wpAny_pure ?_)))))
  show wpAny _ _ (match Builtin.Slice.sliceAdjust none none (-1) (n : Int) with | (lo, hi) => pure (lo, (-1 : Int), Builtin.Slice.slicePlaces lo hi (-1))) _ _ s
  rw [adjust_rev]
  show wpAny _ _ (pure ((n : Int) - 1, (-1 : Int), Builtin.Slice.slicePlaces ((n : Int) - 1) (-1) (-1))) _ _ s
  rw [places_rev]
  exact wpAny_pure h
theorem filterMap_some {α : Type} {f : Nat → Option α} {g : Nat → α} : ∀ L : List Nat, (∀ m ∈ L, f m = some (g m)) → L.filterMap f = L.map g
  | [], _ => rfl
  | m :: L, h => by
    rw [List.filterMap_cons, h m List.mem_cons_self, List.map_cons, filterMap_some L fun k hk => h k (List.mem_cons_of_mem _ hk)]
theorem pick_rev (xs : Array Value) : ((List.range xs.size).filterMap fun (m : Nat) => xs[(((xs.size : Int) - 1) + (m : Int) * (-1)).toNat]?).toArray = xs.toList.reverse.toArray := by
  apply congrArg
  have hl : xs.toList.length = xs.size := Array.length_toList
  rw [filterMap_some (g := fun m => xs.toList.reverse.getD m .none) (List.range xs.size) fun m hm => ?_]
  · apply List.ext_getElem?
    intro i
    rw [List.getElem?_map]
    by_cases hi : i < xs.size
    · rw [List.getElem?_range hi]
      show some (xs.toList.reverse.getD i .none) = _
      rw [List.getD_eq_getElem?_getD, List.getElem?_eq_getElem (by rw [List.length_reverse]; omega)]
      rfl
    · rw [List.getElem?_eq_none (by rw [List.length_range]; omega), List.getElem?_eq_none (by rw [List.length_reverse]; omega)]
      rfl
  · have hm' : m < xs.size := List.mem_range.mp hm
    have : (((xs.size : Int) - 1) + (m : Int) * (-1)).toNat = xs.toList.length - 1 - m := by omega
    rw [this, List.getD_eq_getElem?_getD, List.getElem?_reverse (by omega), ← Array.getElem?_toList, List.getElem?_eq_getElem (by omega)]
    rfl
theorem getItem_rev {t sl : Addr} {items : Array Value} {vl vu vs : Value} {Q : Value → Shared → Prop} (ht : IsTup s.heap t items) (hs : s.heap.IsSliceOf sl vl vu vs) (pl : IsPart vl none) (pu : IsPart vu none) (ps : IsPart vs (some (-1)))
    (h : Q (.ref s.heap.objs.size) { s with heap := s.heap.push { cls := .type "tuple", data := .seq items.toList.reverse.toArray } })
    (hsz : items.size ≤ sizeLine) : wpAny (model prog w) A (getItem (.ref t) (.ref sl)) Q E s := by
  have htake : sizeOk (.seq items.toList.reverse.toArray) := by
    show items.toList.reverse.toArray.size ≤ sizeLine
    rw [List.size_toArray, List.length_reverse, Array.length_toList]
    exact hsz
  obtain ⟨os, hos, hcs, hds⟩ := id hs
  have hTs : s.TypeIs (.ref sl) "slice" := ⟨os, hos, hcs⟩
  unfold getItem
  try with_reducible refine wpAny_holding ?_
  first | refine wpAny_bind (wpAny_pure ?_) | skip
  refine wpAny_bind (wpAny_sequenceKey ht.typeIs (by decide) ?_)
  refine wpAny_bind (wpAny_callSpecial?_slot (name := Str.ofString "__getitem__") ht.typeIs PyProof.Rows.slot_tuple_getitem
    (wpAny_call_entry PyProof.Rows.slot_tuple_getitem ht.typeIs entry_tuple_getitem ?_ (args_tuple_getitem _ _)))
  show wpAny _ _ (Builtin.Tuple.tupleItemsOf (.ref t) >>= _) _ _ s
  refine wpAny_bind (tupleItemsOf_ ht ?_)
  refine wpAny_bind (wpAny_typeOf hTs ?_)
  rw [if_pos (by decide)]
  refine wpAny_bind (applied_rev hs pl pu ps ?_)
  have hno : ¬ ((((items.size : Int) - 1) == 0 && (-1 : Int) == 1 && items.size == items.size) = true) := by
    intro q
    rw [Bool.and_eq_true, Bool.and_eq_true] at q
    exact absurd q.1.2 (by decide)
  show wpAny _ _ (if (((items.size : Int) - 1) == 0 && (-1 : Int) == 1 && items.size == items.size) = true then _ else _) _ _ s
  rw [if_neg hno, pick_rev]
  first
    | exact wpAny_bind (m := Builtin.Tuple.tupleExact _) (wpAny_newObj_type (wpAny_pure ⟨_, rfl, wpAny_pure h⟩) htake)
    | exact wpAny_bind (m := Builtin.Tuple.tupleExact _) (wpAny_newObj_type (wpAny_bind (wpAny_pure (wpAny_pure ⟨_, rfl, wpAny_pure h⟩))) htake)
    | exact wpAny_bind (wpAny_bind (m := Builtin.Tuple.tupleExact _) (wpAny_newObj_type (wpAny_pure (wpAny_pure ⟨_, rfl, wpAny_pure h⟩)) htake))
    | exact wpAny_bind (wpAny_bind (m := Builtin.Tuple.tupleExact _) (wpAny_newObj_type (wpAny_pure ⟨_, rfl, wpAny_pure h⟩) htake))
end
def tRevT (K : PySem.W.Frag) (te : TE) : TE := fun σ H Q => te σ H fun x H1 => ∃ a xs, x = .ref a ∧ SqT K H1 a xs ∧ ∀ p, H1 p = none → Q (.ref p) (upd H1 p (.tup xs.reverse))
theorem pe_revT {X : Cx} {e : Expr} {te : TE} {k : Nat} {p1 p2 p3 pos : Pos} (he : PE X e te) : PE X (.Subscript e (.Slice none none (some (.UnaryOp .USub (.Constant (.int 1) k p1) p2)) p3) pos) (tRevT X.K te) := by
  refine ⟨fun pins s σ H Q I h => ?_⟩
  refine Subscript_ (thn (he.run pins s σ H _ I h) fun v s1 ⟨x, H1, I1, r1, q1⟩ => ?_)
  obtain ⟨a, xs, ex, hx, q⟩ := q1
  subst ex
  cases r1
  have hst : PO X (some (.UnaryOp .USub (.Constant (.int 1) k p1) p2)) (tPart (tUn (rU fun i => .int (-i)) (tC (.int 1)))) := po_some (pe_un un_neg pe_int)
  refine wpAny_Slice (thn (po_none.run pins s1 σ H1 (fun o H2 => o = none ∧ H2 = H1) I1 ⟨rfl, rfl⟩) fun vl s2 ⟨l, H2, I2, pl, el, e2⟩ => ?_)
  subst el e2
  refine thn (po_none.run pins s2 σ H2 (fun o H3 => o = none ∧ H3 = H2) I2 ⟨rfl, rfl⟩) fun vu s3 ⟨u, H3, I3, pu, eu, e3⟩ => ?_
  subst eu e3
  refine thn (hst.run pins s3 σ H3 (fun o H4 => o = some (-1) ∧ H4 = H3) I3 ⟨1, rfl, -1, rfl, rfl, rfl⟩) fun vs s4 ⟨o, H4, I4, ps, eo, e4⟩ => ?_
  subst eo e4
  have I5 : Inv X pins σ H4 { s4 with heap := s4.heap.push { cls := .type "slice", data := .fields #[vl, vu, vs] } } := I4.kept (t' := s4.toks) fun b ob q => Heap.get?_push_of_some _ q
  obtain ⟨its, r, ht, hz⟩ := I5.tuple hx
  have hlen := r.length
  show wpAny (model X.prog X.w) X.A (subscriptTail e (.Slice none none (some (.UnaryOp .USub (.Constant (.int 1) k p1) p2)) p3) (.ref a) (.ref s4.heap.objs.size)) (EP X pins σ Q) X.xe { s4 with heap := s4.heap.push { cls := .type "slice", data := .fields #[vl, vu, vs] } }
  refine tail_any (ops := [.ref a, .ref s4.heap.objs.size]) ht.typeIs (PyProof.Rows.slot_tuple_getitem.lookup) ?_ (by with_unfolding_all rfl)
  refine getItem_rev ht (Heap.IsSliceOf.new _ vl vu vs) pl pu ps ?_ (by rw [List.size_toArray]; omega)
  refine ⟨.ref _, _, I5.laid (t' := s4.toks) (o := .tup xs.reverse) (fun b ob q => Heap.get?_push_of_some _ q) (Nat.le_refl _) ?_, rfl, q _ (I5.hok.fresh (Nat.le_refl _))⟩
  exact ⟨by rw [List.length_reverse]; exact hz, _, r.reverse, IsTup.new _ _⟩
def gFld (K : PySem.W.Frag) (to : TE) (f : Str) : TG := fun v σ H Q => to σ H fun x H2 => ∃ a C dx fs, x = .ref a ∧ H2 a = some (.ins C dx fs) ∧ Cls K C ∧ NoAttr K C f ∧ fs.length < 1000 ∧ Q σ (upd H2 a (.ins C dx (putF f v fs)))
theorem pg_fld {X : Cx} {o : Expr} {f : Str} {to : TE} {pos : Pos} (ho : PE X o to) : PG X (.Attribute o f pos) (gFld X.K to f) := by
  refine ⟨fun pins s σ H v u Q I r h => ?_⟩
  rw [assign_Attribute]
  refine wpAny_bind (wpAny_holding (thn (ho.run pins s σ H _ I h) fun ov s1 ⟨x, H1, I1, r1, a, C, dx, fs, ex, ea, c, n, l, q⟩ => ?_))
  subst ex
  obtain rfl : ov = Value.ref a := r1
  refine wpAny_bind (wpAny_standAt (wpAny_bind (wpAny_holding (setattr_ok I1 ea c n l r fun s3 I3 => ?_))))
  exact wpAny_release ⟨σ, _, I3, q⟩
def rEqE (K : PySem.W.Frag) : R2 := fun x y H Q => ∃ a b xs, x = .ref a ∧ y = .ref b ∧ SqT K H a xs ∧ SqT K H b [] ∧ Q (.bl xs.isEmpty) H
theorem op_eqE {X : Cx} (hu : X.A.units < cLine) : OpR X (compareOp .Eq) (rEqE X.K) := by
  intro pins s σ H x y v u Q I rx ry h
  obtain ⟨a, b, xs, rfl, rfl, ha, hb, q⟩ := h
  cases rx
  cases ry
  obtain ⟨its, r1, p1, _⟩ := I.tuple ha
  obtain ⟨its2, r2, p2, _⟩ := I.tuple hb
  cases r2
  have e : ((List.range (min its.toArray.size ([] : List Value).toArray.size)).all (fun _ => true) && its.toArray.size == ([] : List Value).toArray.size) = xs.isEmpty := by
    cases r1 <;> simp
  refine SeqAt.eq_tupleAt (e := fun _ => true) (items2 := ([] : List Value).toArray) p1 p2 hu (fun j h1 h2 => absurd h2 (by simp)) ?_
  rw [e]
  exact ⟨.bl _, H, I, rfl, q⟩
theorem cut_whole {xs : List V} {lo hi : Option Int} (h : HT.sIx xs.length 0 lo = 0 ∧ HT.sIx xs.length xs.length hi = xs.length) : cutV xs lo hi = xs := by
  unfold cutV
  rw [h.1, h.2]
  simp
theorem sl_new {K : PySem.W.Frag} {H : Hp} {Q : VK} {a : Addr} {xs : List V} {lo hi : Option Int} (ha : H a = some (.tup xs)) (q : ∀ H' p, Same H H' → H' p = some (.tup (cutV xs lo hi)) → Q (.ref p) H') : rSlA K (.ref a) lo hi H Q :=
  ⟨a, xs, rfl, .inl (.inl ha), fun w => q H a (.refl H) (by rw [cut_whole w]; exact ha), fun _ p hp => q _ p (Net.same_upd hp) upd_same⟩
theorem cat_new {K : PySem.W.Frag} {H : Hp} {Q : VK} {a b : Addr} {xs ys : List V} (ha : H a = some (.tup xs)) (hb : H b = some (.tup ys)) (hz : xs.length + ys.length ≤ sizeLine) (q : ∀ H' p, Same H H' → H' p = some (.tup (xs ++ ys)) → Q (.ref p) H') : rCatA K (.ref a) (.ref b) H Q :=
  ⟨a, b, xs, ys, rfl, rfl, .inl (.inl ha), .inl (.inl hb), hz, fun e => q H b (.refl H) (by rw [e]; exact hb), fun _ e => q H a (.refl H) (by rw [e, List.append_nil]; exact ha), fun _ _ p hp => q _ p (Net.same_upd hp) upd_same⟩
theorem cut_take (xs : List V) (k : Nat) : cutV xs none (some (k : Int)) = xs.take k := by
  unfold cutV
  rw [HT.sIx_none, HT.sIx_nat]
  show xs.take (min k xs.length - 0) = xs.take k
  rw [Nat.sub_zero]
  by_cases h : k ≤ xs.length
  · rw [Nat.min_eq_left h]
  · rw [Nat.min_eq_right (by omega), List.take_length, List.take_of_length_le (by omega)]
theorem cut_drop (xs : List V) (k : Nat) : cutV xs (some (k : Int)) none = xs.drop k := by
  unfold cutV
  rw [HT.sIx_none, HT.sIx_nat]
  by_cases h : k ≤ xs.length
  · rw [Nat.min_eq_left h, List.take_of_length_le (by rw [List.length_drop]; omega)]
  · rw [Nat.min_eq_right (by omega), List.drop_length, List.drop_of_length_le (by omega), List.take_nil]
theorem cut_mid (xs : List V) (i j : Nat) (h : i ≤ j) : cutV xs (some (i : Int)) (some (j : Int)) = (xs.drop i).take (j - i) := by
  unfold cutV
  rw [HT.sIx_nat, HT.sIx_nat]
  by_cases h1 : i ≤ xs.length
  · rw [Nat.min_eq_left h1]
    by_cases h2 : j ≤ xs.length
    · rw [Nat.min_eq_left h2]
    · rw [Nat.min_eq_right (by omega), List.take_of_length_le (by rw [List.length_drop]; omega), List.take_of_length_le (by rw [List.length_drop]; omega)]
  · have e1 : min i xs.length = xs.length := Nat.min_eq_right (by omega)
    rw [e1, List.drop_length, List.drop_of_length_le (by omega : xs.length ≤ i), List.take_nil, List.take_nil]
theorem lay_ints : ∀ ns : List Int, PyData.canLayAll0 (ns.map PyData.int) = true ∧ PyData.depthAll (ns.map PyData.int) = 0
  | [] => ⟨rfl, rfl⟩
  | n :: ns => by
    have h := lay_ints ns
    refine ⟨?_, ?_⟩
    · show (true && PyData.canLayAll0 (ns.map PyData.int)) = true
      rw [h.1]
      rfl
    · show max 0 (PyData.depthAll (ns.map PyData.int)) = 0
      rw [h.2]
      rfl
theorem shp_ints (ns : List Int) : SeqAt.shaped (.tuple (ns.map PyData.int)) = true := by
  have h := lay_ints ns
  show (PyData.canLayAll0 (ns.map PyData.int) && decide (PyData.depthAll (ns.map PyData.int) + 1 ≤ 64)) = true
  rw [h.1, h.2]
  rfl
theorem eqv_ints : ∀ ns ms : List Int, PyData.eqvAll (ns.map PyData.int) (ms.map PyData.int) = decide (ns = ms)
  | [], [] => rfl
  | [], m :: ms => rfl
  | n :: ns, [] => rfl
  | n :: ns, m :: ms => by
    show ((n == m) && PyData.eqvAll (ns.map PyData.int) (ms.map PyData.int)) = _
    rw [eqv_ints ns ms]
    by_cases h : n = m
    · subst h
      by_cases h2 : ns = ms <;> simp [h2]
    · simp [h]
theorem dp_ints {K : PySem.W.Frag} {H : Hp} : ∀ ns : List Int, DpAll K H (ns.map V.int) (ns.map PyData.int)
  | [] => .nil
  | n :: ns => .cons (.int n) (dp_ints ns)
def rNeTI (K : PySem.W.Frag) : R2 := fun x y H Q => ∃ (a b : Addr) (ns ms : List Int), x = .ref a ∧ y = .ref b ∧ SqT K H a (ns.map V.int) ∧ SqT K H b (ms.map V.int) ∧ Q (.bl (!decide (ns = ms))) H
theorem op_neTI {X : Cx} (hu : X.A.units + 64 < cLine) : OpR X (compareOp .NotEq) (rNeTI X.K) := by
  intro pins s σ H x y v u Q I rx ry h
  obtain ⟨a, b, ns, ms, rfl, rfl, ha, hb, q⟩ := h
  refine op_neD hu pins s σ H _ _ v u Q I rx ry ⟨.tuple (ns.map PyData.int), .tuple (ms.map PyData.int), .tup ha (dp_ints ns), .tup hb (dp_ints ms), shp_ints ns, shp_ints ms, ?_⟩
  have e : PyData.eqv (.tuple (ns.map PyData.int)) (.tuple (ms.map PyData.int)) = decide (ns = ms) := by
    show PyData.eqvAll _ _ = _
    exact eqv_ints ns ms
  rw [e]
  exact q
end NetR
namespace NetR
open PySem
open Sem (wp)
theorem meetsT_new (l : Addr) (items : Array Value) (n : Nat) (dc1 : Option Addr) (sl : Array (Option Value)) :
    Meets (Builtin.«enumerate.__new__» ⟨[.type "enumerate", .ref l], []⟩) (fun _ R s => s.heap.get? l = some { cls := .type "tuple", dict := dc1, data := .seq items n, slots := sl } ∧
      R (.ok (.ret (.ref (s.heap.push { cls := .type "tuple_iterator", data := .fields #[.ref l, .int 0 0] }).objs.size)))
        { s with heap := (s.heap.push { cls := .type "tuple_iterator", data := .fields #[.ref l, .int 0 0] }).push { cls := .type "enumerate", data := .fields #[.none, .bool false, .ref s.heap.objs.size, rawInt 0, .none, .none] } }) :=
  .of_wp fun prog w A R s h => by
    obtain ⟨hp, g, d, tk, os⟩ := s; obtain ⟨hl, h⟩ := h
    have hsb := sub_enumerate
    have hTp : Heap.IsTuple (Shared.heap ⟨hp, g, d, tk, os⟩) l items := ⟨_, hl, rfl, n, rfl⟩
    wp_walk using PySem.AutoSeq1.wpAny_loadPart' hl
    refine wpAny_stack_any fun st => wpAny_pure ?_
    split
    · rename_i c _ _ _ _ _
      cases (c == Value.type "enumerate")
      · wp_walk using PySem.AutoSeq1.wpAny_loadPart' hl, wpAny_pyIter_tuple hTp
        exact ⟨_, rfl, h⟩
      · wp_walk using PySem.AutoSeq1.wpAny_loadPart' hl, wpAny_pyIter_tuple hTp
        exact ⟨_, rfl, h⟩
    · wp_walk using PySem.AutoSeq1.wpAny_loadPart' hl, wpAny_pyIter_tuple hTp
      exact ⟨_, rfl, h⟩
section
variable {prog : Program} {w : World} {A : Around} {E : Value → Shared → Prop} {s : Shared}
theorem callT_enum {l : Addr} {items : Array Value} {Q : Value → Shared → Prop} (hTp : s.heap.IsTuple l items)
    (h : ∀ h', IsEnum h' (s.heap.objs.size + 1) s.heap.objs.size 0 .none → h'.IsTupleIter s.heap.objs.size l 0 → h'.objs.size = s.heap.objs.size + 2 →
      (∀ b o, s.heap.get? b = some o → h'.get? b = some o) → Q (.ref (s.heap.objs.size + 1)) { s with heap := h' }) :
    wpAny (model prog w) A (call (.type "enumerate") [.ref l]) Q E s := by
  obtain ⟨⟨c, dc1, dt, sl⟩, hl, hc, n, hd⟩ := hTp
  replace hc : c = .type "tuple" := hc
  replace hd : dt = .seq items n := hd
  subst hc hd
  refine callType_new F.called_enumerate (by decide) (F.typeCall_enumerate_1 _) (F.newCall_enumerate_1 _) (fun obj => F.args_object_init_2 obj _) F.entry_enumerate_new
    (meetsT_new l items n dc1 sl) ⟨hl, ?_⟩
  have hz : (s.heap.push { cls := .type "tuple_iterator", data := .fields #[.ref l, .int 0 0] }).objs.size = s.heap.objs.size + 1 := Heap.size_push ..
  show _ ∧ _
  rw [hz]
  have he : IsEnum ((s.heap.push { cls := .type "tuple_iterator", data := .fields #[.ref l, .int 0 0] }).push
      { cls := .type "enumerate", data := .fields #[.none, .bool false, .ref s.heap.objs.size, rawInt 0, .none, .none] }) (s.heap.objs.size + 1) s.heap.objs.size 0 .none := by
    have := Heap.get?_push_size (s.heap.push { cls := .type "tuple_iterator", data := .fields #[.ref l, .int 0 0] })
      (o := { cls := .type "enumerate", data := .fields #[.none, .bool false, .ref s.heap.objs.size, rawInt 0, .none, .none] }) rfl
    rw [hz] at this; exact this
  refine ⟨⟨_, he, rfl⟩, h _ he ⟨_, Heap.get?_push_of_some _ (Heap.get?_push_size _ rfl), rfl, rfl⟩ (by rw [Heap.size_push, hz]) fun b o x => Heap.get?_push_of_some _ (Heap.get?_push_of_some _ x)⟩
theorem enumT_item {e it l : Addr} {i : Nat} {items : Array Value} {x old : Value} {Q : Value → Shared → Prop}
    (he : IsEnum s.heap e it i old) (hit : s.heap.IsTupleIter it l i) (hl : s.heap.IsTuple l items) (hx : items[i]? = some x) (hne : e ≠ it)
    (hQ : ∀ h', IsEnumOut h' e it ((i : Int) + 1) x s.heap.objs.size → h'.IsTupleIter it l (i + 1) →
      h'.get? s.heap.objs.size = some { cls := .type "tuple", data := .seq #[.int i s.toks, x] } → h'.objs.size = s.heap.objs.size + 1 →
      (∀ b o, b ≠ e → b ≠ it → s.heap.get? b = some o → h'.get? b = some o) → Q (.ref s.heap.objs.size) { s with heap := h', toks := s.toks + 1 }) :
    wpAny (model prog w) A (Builtin.«enumerate.__next__» ⟨[.ref e], []⟩) (fun fin s' => ∃ v, fin = .done (.ret v) ∧ Q v s') E s := by
  obtain ⟨hp, g, d, tk, os⟩ := s
  show wpAny _ _ (field (.ref e) 2 >>= _) _ _ _
  refine wpAny_bind (wpAny_field he rfl (x := .ref it) rfl ?_)
  refine wpAny_bind (RZ.nextOf_tuple_item hit hl hx fun w1 tw1 sw1 => ?_)
  replace sw1 : Heap.SameBut it hp w1 := sw1
  have ew1 : IsEnum w1 e it i old := (sw1.2 e hne).trans he
  show wpAny _ _ (field (.ref e) 3 >>= _) _ _ ⟨w1, g, d, tk, os⟩
  refine wpAny_bind (wpAny_field ew1 rfl (x := rawInt i) rfl ?_)
  show wpAny _ _ (field (.ref e) 4 >>= _) _ _ ⟨w1, g, d, tk, os⟩
  refine wpAny_bind (wpAny_field ew1 rfl (x := .none) rfl ?_)
  show wpAny _ _ (mkInt i >>= _) _ _ ⟨w1, g, d, tk, os⟩
  refine wpAny_bind (wpAny_mkInt ?_)
  show wpAny _ _ (setField (.ref e) 3 (rawInt ((i : Int) + 1)) >>= _) _ _ ⟨w1, g, d, tk + 1, os⟩
  refine wpAny_bind (wpAny_setField_rec ew1 (by simp) fun w2 ew2 sw2 => ?_)
  replace sw2 : Heap.SameBut e w1 w2 := sw2
  replace ew2 : IsEnum w2 e it ((i : Int) + 1) old := ew2
  show wpAny _ _ (setField (.ref e) 4 .none >>= _) _ _ ⟨w2, g, d, tk + 1, os⟩
  refine wpAny_bind (wpAny_setField_rec ew2 (by simp) fun w3 ew3 sw3 => ?_)
  replace sw3 : Heap.SameBut e w2 w3 := sw3
  replace ew3 : IsEnum w3 e it ((i : Int) + 1) old := ew3
  show wpAny _ _ (newTuple [.int i tk, x] >>= _) _ _ ⟨w3, g, d, tk + 1, os⟩
  refine wpAny_bind (wpAny_newTuple ?_)
  have ew4 : IsEnum (w3.push { cls := .type "tuple", data := .seq #[.int i tk, x] }) e it ((i : Int) + 1) old := Heap.get?_push_of_some _ ew3
  generalize hw4 : w3.push { cls := .type "tuple", data := .seq #[.int i tk, x] } = w4 at ew4
  have hsz : w3.objs.size = hp.objs.size := by rw [sw3.1, sw2.1, sw1.1]
  have hel : e < hp.objs.size := Heap.lt_size he
  have uw4 : w4.get? hp.objs.size = some { cls := .type "tuple", data := .seq #[.int i tk, x] } := by rw [← hw4, ← hsz]; exact Heap.get?_push_size _ rfl
  have zw4 : w4.objs.size = hp.objs.size + 1 := by rw [← hw4, Heap.size_push, hsz]
  have kw4 : ∀ b o, b ≠ e → b ≠ it → hp.get? b = some o → w4.get? b = some o := fun b o hbe hbi hb => by
    rw [← hw4]; exact Heap.get?_push_of_some _ (sw3.extBut b o hbe (sw2.extBut b o hbe (sw1.extBut b o hbi hb)))
  have tw4 : w4.IsTupleIter it l (i + 1) := by
    rw [← hw4]; obtain ⟨o, ho, r⟩ := (tw1.extBut sw2.extBut (Ne.symm hne)).extBut sw3.extBut (Ne.symm hne); exact ⟨o, Heap.get?_push_of_some _ ho, r⟩
  show wpAny _ _ (Builtin.SmallTypes.ownedTupleIsFree (.ref e) >>= _) _ _ ⟨w4, g, d, tk + 1, os⟩
  rw [hsz]
  clear hw4 ew3 sw3 ew2 sw2 ew1 sw1 tw1 hsz w3 w2 w1
  refine wpAny_bind ?_
  · unfold Builtin.SmallTypes.ownedTupleIsFree
    refine wpAny_bind (wpAny_field ew4 rfl (x := .none) rfl (wpAny_pure ?_))
    simp only [if_true]
    refine wpAny_bind (wpAny_rule ?_)
    refine wpAny_bind (wpAny_field ew4 rfl (x := old) rfl ?_)
    refine wpAny_bind (wpAny_setField_rec ew4 (by simp) fun w5 ew5 sw5 => ?_)
    replace sw5 : Heap.SameBut e w4 w5 := sw5
    replace ew5 : IsEnum w5 e it ((i : Int) + 1) x := ew5
    show wpAny _ _ (Builtin.SmallTypes.ownedTupleHandOut (.ref e) (.ref hp.objs.size) >>= _) _ _ ⟨w5, g, d, tk + 1, os⟩
    refine wpAny_bind ?_
    · unfold Builtin.SmallTypes.ownedTupleHandOut
      refine wpAny_bind (wpAny_setField_rec ew5 (by simp) fun w6 ew6 sw6 => ?_)
      replace sw6 : Heap.SameBut e w5 w6 := sw6
      replace ew6 : IsEnumOut w6 e it ((i : Int) + 1) x hp.objs.size := ew6
      refine wpAny_setField_rec ew6 (by simp) fun w7 ew7 sw7 => ?_
      replace sw7 : Heap.SameBut e w6 w7 := sw7
      replace ew7 : IsEnumOut w7 e it ((i : Int) + 1) x hp.objs.size := ew7
      refine wpAny_bind (wpAny_letGo (wpAny_pure ⟨_, rfl, hQ w7 ew7 ?_ ?_ ?_ ?_⟩))
      · exact ((tw4.extBut sw5.extBut (Ne.symm hne)).extBut sw6.extBut (Ne.symm hne)).extBut sw7.extBut (Ne.symm hne)
      · exact sw7.extBut _ _ (Nat.ne_of_gt hel) (sw6.extBut _ _ (Nat.ne_of_gt hel) (sw5.extBut _ _ (Nat.ne_of_gt hel) uw4))
      · rw [sw7.1, sw6.1, sw5.1, zw4]
      · exact fun b o hbe hbi hb => sw7.extBut b o hbe (sw6.extBut b o hbe (sw5.extBut b o hbe (kw4 b o hbe hbi hb)))
theorem enumT_next {e it l : Addr} {i : Nat} {items : Array Value} {x old : Value} {Q : Option Value → Shared → Prop}
    (he : IsEnum s.heap e it i old) (hit : s.heap.IsTupleIter it l i) (hl : s.heap.IsTuple l items) (hx : items[i]? = some x) (hne : e ≠ it)
    (hQ : ∀ h', IsEnumOut h' e it ((i : Int) + 1) x s.heap.objs.size → h'.IsTupleIter it l (i + 1) →
      h'.get? s.heap.objs.size = some { cls := .type "tuple", data := .seq #[.int i s.toks, x] } → h'.objs.size = s.heap.objs.size + 1 →
      (∀ b o, b ≠ e → b ≠ it → s.heap.get? b = some o → h'.get? b = some o) → Q (some (.ref s.heap.objs.size)) { s with heap := h', toks := s.toks + 1 }) :
    wpAny (model prog w) A (pyNext (.ref e)) Q E s := by
  have hT : s.TypeIs (.ref e) "enumerate" := ⟨_, he, rfl⟩
  unfold pyNext
  exact wpAny_bind (wpAny_attempt (wpAny_callSpecial?_slot (name := Str.ofString "__next__") hT F.slot_enumerate_next
    (wpAny_call_entry F.slot_enumerate_next hT F.entry_enumerate_next
      (enumT_item he hit hl hx hne fun h' a b c d k => wpAny_pure (hQ h' a b c d k)) (F.args_enumerate_next_1 _))))
theorem enumT_end {e it l : Addr} {i : Nat} {items : Array Value} {old : Value} {Q : Option Value → Shared → Prop} (hh : A.handled = none)
    (he : IsEnum s.heap e it i old) (hit : s.heap.IsTupleIter it l i) (hl : s.heap.IsTuple l items) (hx : items[i]? = none)
    (hQ : ∀ h', Heap.ExtBut it s.heap h' → Q none { s with heap := h' }) : wpAny (model prog w) A (pyNext (.ref e)) Q E s := by
  have hT : s.TypeIs (.ref e) "enumerate" := ⟨_, he, rfl⟩
  unfold pyNext
  refine wpAny_bind (wpAny_attempt (wpAny_callSpecial?_slot (name := Str.ofString "__next__") hT F.slot_enumerate_next
    (wpAny_call_entry F.slot_enumerate_next hT F.entry_enumerate_next ?_ (F.args_enumerate_next_1 _))))
  show wpAny _ _ (field (.ref e) 2 >>= _) _ _ _
  refine wpAny_bind (wpAny_field he rfl (x := .ref it) rfl ?_)
  refine wpAny_bind (RZ.nextOf_tuple_end hh hit hl hx fun h' x he' hx' => ?_)
  obtain ⟨o, ho, hc⟩ := hx'
  refine wpAny_bind (wpAny_isInstance (T := "StopIteration") (b := true) ⟨o, ho, hc⟩ isSubtype_stop ?_)
  exact wpAny_pure (hQ _ he')
end
end NetR
namespace NetR
open PySem PySem.Spec PyProof.Rows L2
def ItT (K : PySem.W.Frag) (a : Addr) : It :=
  ⟨fun i H => ∃ (xs : List V) (x : V), SqT K H a xs ∧ xs[i]? = some x, fun i H v H' => ∃ T x, v = .ref T ∧ H T = none ∧ H' = upd H T (.tup [.int (i : Nat), x]) ∧ ∀ xs, SqT K H a xs → xs[i]? = some x, fun i H => ∃ xs : List V, SqT K H a xs ∧ xs.length ≤ i⟩
theorem turn_enumT {P : Program} {w : World} {K : PySem.W.Frag} {elts : List Expr} {kk : Nat} {tpos : Pos} (a e it : Addr) :
    Turn P w K (.Tuple elts kk tpos) (ItT K a) [e, it] e (fun i h => (∃ old, IsEnum h e it ((i : Nat) : Int) old) ∧ h.IsTupleIter it a i ∧ e ≠ it) where
  mem := by simp
  obj := fun i h st b hb => by
    obtain ⟨⟨old, he⟩, ⟨o, ho, hc, hd⟩, _⟩ := st
    have e' : b = e ∨ b = it := by simpa using hb
    rcases e' with z | z
    · rw [z]; exact ⟨_, he, fun v q => nomatch q⟩
    · rw [z]; exact ⟨o, ho, fun v q => by rw [hd] at q; cases q⟩
  keep := fun i h h' st k => let ⟨⟨old, he⟩, hi, nei⟩ := st; ⟨⟨old, k e (by simp) _ he⟩, hi.at fun o q => k it (by simp) o q, nei⟩
  item := by
    intro X hP hw hK hc i pins s σ H E I hf st hg
    subst hP hw hK
    obtain ⟨⟨old, he⟩, hti, nei⟩ := st
    obtain ⟨xs, x, hq, hx⟩ := hg
    obtain ⟨its, rv, p, hz⟩ := I.tuple hq
    obtain ⟨u, hu, ru⟩ := rv.get hx
    have hel : e < s.heap.objs.size := Heap.lt_size he
    have hil : it < s.heap.objs.size := by obtain ⟨_, q, _⟩ := hti; exact Heap.lt_size q
    refine enumT_next he hti p (x := u) (by simpa using hu) nei fun h' ho hti' hT hs9 hk => ?_
    refine ⟨_, rfl, wpAny_letOwnedTupleGo_enum (s := { s with heap := h', toks := s.toks + 1 }) ho fun h'' he' sb => ?_⟩
    have hT2 : h''.get? s.heap.objs.size = some { cls := .type "tuple", data := .seq #[.int i s.toks, u] } := (sb.2 _ (Nat.ne_of_gt hel)).trans hT
    have new : ObjOk X.prog X.w (upd H s.heap.objs.size (.tup [.int (i : Nat), x])) h'' s.heap.objs.size (.tup [.int (i : Nat), x]) :=
      ⟨by show 2 ≤ sizeLine; decide, [.int i s.toks, u], .cons ⟨_, rfl⟩ (.cons ru .nil), ⟨_, hT2, rfl, _, rfl⟩⟩
    have I1 : Inv X pins σ (upd H s.heap.objs.size (.tup [.int (i : Nat), x])) { s with heap := h'', toks := s.toks + 1 } :=
      I.turnedNew (ch := [e, it]) (fun b ob hb q => (sb.2 b (fun z => hb (by simp [z]))).trans (hk b ob (fun z => hb (by simp [z])) (fun z => hb (by simp [z])) q)) hf (Nat.le_refl _) new
    refine ⟨.ref s.heap.objs.size, _, I1, rfl, ⟨_, x, rfl, I.hok.fresh (Nat.le_refl _), rfl, fun ys hy => by rw [I.tuple_inj hy hq]; exact hx⟩, ⟨⟨u, ?_⟩, hti'.at fun o q => (sb.2 it (Ne.symm nei)).trans q, nei⟩, fun b hb => ?_⟩
    · have e1 : ((i + 1 : Nat) : Int) = (i : Int) + 1 := by omega
      rw [e1]; exact he'
    · have hb' : b < s.heap.objs.size := by
        have e' : b = e ∨ b = it := by simpa using hb
        rcases e' with z | z
        · rw [z]; exact hel
        · rw [z]; exact hil
      rw [upd_ne (Nat.ne_of_lt hb')]
      exact (hf b hb).1
  done := by
    intro X hP hw hK hc i pins s σ H E I hf st hg
    subst hP hw hK
    obtain ⟨⟨old, he⟩, hti, nei⟩ := st
    obtain ⟨xs, hq, hx⟩ := hg
    obtain ⟨its, rv, p, hz⟩ := I.tuple hq
    obtain ⟨f0, f1, f2, f3, f4, f5⟩ := hf it (by simp)
    have hl := rv.length
    exact enumT_end (I.ok.hd hc) he hti p (by simp; omega) fun h' eb => ⟨rfl, I.turned (t' := s.toks) (fun b o hb q => eb b o hb q) f0 f1 f3 f4 f5⟩
  self := fun A i s Q E st h => let ⟨⟨_, he⟩, _⟩ := st; wpAny_pyIter_enum he h
def iEnumT (K : PySem.W.Frag) (ta : TA) : TI := fun σ H R => ta σ H fun vs H1 => ∃ a xs, vs = [.ref a] ∧ SqT K H1 a xs ∧ R (ItT K a) H1
theorem pi_enumT {X : Cx} {e : Expr} {ta : TA} {p pos tpos : Pos} {elts : List Expr} {kk : Nat} (hg : Gl X "enumerate") (hm : X.mg "enumerate" = none) (ha : PA X [e] ta) (hs : starEach [e] X.env = [(false, eval e X.env)] := by rfl) :
    PI X (.Tuple elts kk tpos) (.Call (.Name "enumerate" p) [e] [] pos) (iEnumT X.K ta) := by
  refine ⟨fun pins s σ H R I h => ?_⟩
  refine Call_ (ld_blt I hg hm boot_enumerate (PyProof.Rows.callWith_type1 (thn (ha.run pos pins s σ H _ I h) fun us s1 ⟨vs, H1, I1, r1, q1⟩ => ?_) hs rfl))
  obtain ⟨a, xs, ex, hq, q⟩ := q1
  subst ex
  cases r1 with
  | cons r rr =>
    cases rr
    cases r
    obtain ⟨its, rv, p', hz⟩ := I1.tuple hq
    refine callT_enum p' fun h' he hti hs9 hk => wpAny_pyIter_enum he ?_
    have I2 : Inv X pins σ H1 { s1 with heap := h' } := I1.kept (t' := s1.toks) hk
    refine ⟨s1.heap.objs.size + 1, [s1.heap.objs.size + 1, s1.heap.objs.size], _, _, H1, rfl, I2, turn_enumT a (s1.heap.objs.size + 1) s1.heap.objs.size, ⟨⟨.none, he⟩, hti, Nat.succ_ne_self _⟩, fun b hb => ?_, q⟩
    have e' : b = s1.heap.objs.size + 1 ∨ b = s1.heap.objs.size := by simpa using hb
    have hle : s1.heap.objs.size ≤ b := by
      rcases e' with z | z
      · rw [z]; exact Nat.le_add_right _ _
      · rw [z]; exact Nat.le_refl _
    exact I1.fpOk hle (I1.hok.fresh hle)
theorem walk_enumT {K : PySem.W.Frag} {a : Addr} {xs : List V} : Walk (ItT K a) xs.length (fun H => SqT K H a xs) (YPair (fun i => some (.int (i : Nat))) (fun i => xs[i]?)) := by
  refine ⟨fun i _ hi q => ⟨xs, xs[i], q, by simp [hi]⟩, fun _ q => ⟨xs, q, Nat.le_refl _⟩, fun i H v H' _ q y => ?_⟩
  obtain ⟨T, x, h1, h2, h3, h4⟩ := y
  exact ⟨T, .int (i : Nat), x, h1, h2, h3, rfl, h4 xs q⟩
end NetR
namespace Net
open PySem PySem.Spec PyProof.Rows L2
structure Tx (mg : Str → Option Value) : Prop where
  n_len : mg "len" = none
  n_isinstance : mg "isinstance" = none
  n_all : mg "all" = none
  n_any : mg "any" = none
  n_sum : mg "sum" = none
  n_tuple : mg "tuple" = none
  n_list : mg "list" = none
  n_dict : mg "dict" = none
  n_sorted : mg "sorted" = none
  n_enumerate : mg "enumerate" = none
  n_range : mg "range" = none
  n_zip : mg "zip" = none
  n_int : mg "int" = none
  n_bool : mg "bool" = none
  n_str : mg "str" = none
  n_abs : mg "abs" = none
  c_MOST_STATES : ∃ t, mg "MOST_STATES" = some (.int 2000 t)
theorem sl_big : 16777216 ≤ sizeLine := by rw [sizeLine_eq]; exact Nat.le_refl _
def within (d : PyData) (lo hi : Int) : Bool := match d with
  | .int n => decide (lo ≤ n) && decide (n ≤ hi)
  | _ => false
def sp_is_integer : Sp := fun vs H Q _ => ∃ v d, vs = [v] ∧ Rp H v d ∧ Q (.bl (isInt d)) H
def sp_is_within : Sp := fun vs H Q _ => ∃ v d lo hi, vs = [v, .int lo, .int hi] ∧ Rp H v d ∧ Q (.bl (within d lo hi)) H
def sp_is_string : Sp := fun vs H Q _ => ∃ v d, vs = [v] ∧ Rp H v d ∧ Q (.bl (isStr d)) H
section
variable {P : Program} {w : World} {K : PySem.W.Frag} {mg : Str → Option Value} {base : Heap}
abbrev s_is_integer : Stmt := top 7
theorem sc_is_integer : FnScope ["thing"] ["thing"] (defScope s_is_integer) := ⟨rfl, rfl, rfl, by decide +kernel, rfl, by decide +kernel, by decide +kernel⟩
theorem ok_is_integer {f : Addr} {fd : FuncData} (F : Fun K "is_integer" "is_integer" s_is_integer f fd) (T : Tx mg) : FnOk P w K mg base CX0 1 f fd ["thing"] sp_is_integer := by
  refine F.ok sc_is_integer (fun vs H Q E h => ?_) (fun cdv A outer s H vs Q E hr h => ?_)
  · obtain ⟨v, d, rfl, _⟩ := h
    rfl
  · obtain ⟨v, d, rfl, hv, q⟩ := h
    refine ⟨_, (pss_one (ps_ret (pe_and (pe_callB call_isi (by rfl) T.n_isinstance (by decide +kernel) (pa_cons (pv 0) (pa_cons (pe_bltn (v := .ty "int") (by rfl) T.n_int (by decide +kernel) rfl) pa_nil))) (pe_one (pe_not (pe_callB call_isi (by rfl) T.n_isinstance (by decide +kernel) (pa_cons (pv 0) (pa_cons (pe_bltn (v := .ty "bool") (by rfl) T.n_bool (by decide +kernel) rfl) pa_nil)))))))), ?_⟩
    refine ⟨v, rfl, v, .ty "int", _, _, _, rfl, .ty _, hv.ty, kit_int d, _, rfl, ?_⟩
    cases e : (isInt d || isBool d) with
    | false =>
      refine iteF ?_
      have e1 : isInt d = false := (Bool.or_eq_false_iff.mp e).1
      show Q (.bl false) H
      rw [← e1]
      exact q
    | true =>
      refine iteT ⟨v, rfl, v, .ty "bool", _, _, _, rfl, .ty _, hv.ty, kit_bool d, _, rfl, ?_⟩
      have e1 : (!isBool d) = isInt d := by cases d <;> first | rfl | cases e
      show Q (.bl (!isBool d)) H
      rw [e1]
      exact q
abbrev s_is_within : Stmt := top 8
theorem sc_is_within : FnScope ["thing", "least", "most"] ["thing", "least", "most"] (defScope s_is_within) := ⟨rfl, rfl, rfl, by decide +kernel, rfl, by decide +kernel, by decide +kernel⟩
theorem ok_is_within {f f_is_integer : Addr} {fd fd1 : FuncData} (F : Fun K "is_within" "is_within" s_is_within f fd) (T : Tx mg) (d_is_integer : Ok1 P w K mg base CX0 1 "is_integer" ["thing"] sp_is_integer f_is_integer fd1) :
    FnOk P w K mg base CX0 2 f fd ["thing", "least", "most"] sp_is_within := by
  refine F.ok sc_is_within (fun vs H Q E h => ?_) (fun cdv A outer s H vs Q E hr h => ?_)
  · obtain ⟨v, d, lo, hi, rfl, _⟩ := h
    rfl
  · obtain ⟨v, d, lo, hi, rfl, hv, q⟩ := h
    refine ⟨_, (pss_one (ps_ret (pe_and (pe_call d_is_integer.ok (hr.mono (by decide)) rfl d_is_integer.g d_is_integer.kp d_is_integer.b .nil pass0 (pa_cons (pv 0) pa_nil)) (pe_one (pe_chain op_le op_le (pv 1) (pv 0) (pv 2)))))), ?_⟩
    refine ⟨v, rfl, v, d, rfl, hv, _, rfl, ?_⟩
    cases d with
    | int n =>
      cases hv
      refine iteT ⟨_, rfl, _, rfl, _, _, rfl, rfl, _, rfl, ?_⟩
      have e0 : Q (.bl (decide (lo ≤ n) && decide (n ≤ hi))) H := q
      cases e : decide (lo ≤ n) with
      | false =>
        rw [e] at e0
        exact iteF e0
      | true =>
        rw [e] at e0
        exact iteT ⟨_, rfl, _, _, rfl, rfl, e0⟩
    | _ => exact iteF q
abbrev s_is_string : Stmt := top 9
theorem sc_is_string : FnScope ["thing"] ["thing"] (defScope s_is_string) := ⟨rfl, rfl, rfl, by decide +kernel, rfl, by decide +kernel, by decide +kernel⟩
theorem ok_is_string {f : Addr} {fd : FuncData} (F : Fun K "is_string" "is_string" s_is_string f fd) (T : Tx mg) : FnOk P w K mg base CX0 1 f fd ["thing"] sp_is_string := by
  refine F.ok sc_is_string (fun vs H Q E h => ?_) (fun cdv A outer s H vs Q E hr h => ?_)
  · obtain ⟨v, d, rfl, _⟩ := h
    rfl
  · obtain ⟨v, d, rfl, hv, q⟩ := h
    refine ⟨_, (pss_one (ps_ret (pe_callB call_isi (by rfl) T.n_isinstance (by decide +kernel) (pa_cons (pv 0) (pa_cons (pe_bltn (v := .ty "str") (by rfl) T.n_str (by decide +kernel) rfl) pa_nil))))), ?_⟩
    exact ⟨v, rfl, v, .ty "str", _, _, _, rfl, .ty _, hv.ty, kit_str d, q⟩
end
end Net
namespace NetR
open PySem PySem.Spec PyProof.Rows L2
section
variable {X : Cx}
def rGetL (K : PySem.W.Frag) : V → V → Hp → VK → Prop := fun x y H Q => ∃ p xs i v, x = .ref p ∧ y = .int (i : Nat) ∧ SqL K H p xs ∧ xs[i]? = some v ∧ Q v H
theorem get_list : PGet X (rGetL X.K) := by
  intro pins s σ H o i ov iv Q I ro ri h
  obtain ⟨p, xs, k, v, rfl, rfl, hq, he, q⟩ := h
  cases ro
  obtain ⟨t, rfl⟩ := ri
  obtain ⟨its, r, pl, hz⟩ := I.list hq
  obtain ⟨w, ew, rw'⟩ := r.get he
  have hl := r.length
  have hn := line63
  have hlt : k < xs.length := (List.getElem?_eq_some_iff.mp he).1
  exact wpAny_getItem_list pl.isList (Int.natCast_nonneg k) (by omega) (by simpa using ew) ⟨v, H, I, rw', q⟩
def rNeE (K : PySem.W.Frag) : R2 := fun x y H Q => ∃ a b xs, x = .ref a ∧ y = .ref b ∧ SqT K H a xs ∧ SqT K H b [] ∧ Q (.bl (!xs.isEmpty)) H
theorem op_neE (hu : X.A.units < cLine) : OpR X (compareOp .NotEq) (rNeE X.K) := by
  intro pins s σ H x y v u Q I rx ry h
  obtain ⟨a, b, xs, rfl, rfl, ha, hb, q⟩ := h
  cases rx
  cases ry
  obtain ⟨its, r1, p1, _⟩ := I.tuple ha
  obtain ⟨its2, r2, p2, _⟩ := I.tuple hb
  cases r2
  have e : ((List.range (min its.toArray.size ([] : List Value).toArray.size)).all (fun _ => true) && its.toArray.size == ([] : List Value).toArray.size) = xs.isEmpty := by
    cases r1 <;> simp
  refine EqBoolInt.of_rcne (SeqAt.RcNeAt.tuples (e := fun _ => true) (items2 := ([] : List Value).toArray) p1 p2 hu (fun j h1 h2 => absurd h2 (by simp))) ?_
  rw [e]
  exact ⟨.bl _, H, I, rfl, q⟩
def rNeLE (K : PySem.W.Frag) : R2 := fun x y H Q => ∃ a b xs, x = .ref a ∧ y = .ref b ∧ SqL K H a xs ∧ SqL K H b [] ∧ Q (.bl (!xs.isEmpty)) H
theorem op_neLE (hu : X.A.units < cLine) : OpR X (compareOp .NotEq) (rNeLE X.K) := by
  intro pins s σ H x y v u Q I rx ry h
  obtain ⟨a, b, xs, rfl, rfl, ha, hb, q⟩ := h
  cases rx
  cases ry
  obtain ⟨its, r1, p1, _⟩ := I.list ha
  obtain ⟨its2, r2, p2, _⟩ := I.list hb
  cases r2
  cases r1 with
  | nil => exact EqBoolInt.of_rcne (SeqAt.RcNeAt.lists (e := fun _ => true) p1.isList p2.isList rfl hu (fun j h1 h2 => absurd h2 (by simp))) ⟨.bl _, H, I, rfl, q⟩
  | cons r rr => exact EqBoolInt.of_rcne (SeqAt.RcNeAt.lists_lengths p1.isList p2.isList (by simp) hu) ⟨.bl _, H, I, rfl, q⟩
def rEqLE (K : PySem.W.Frag) : R2 := fun x y H Q => ∃ a b xs, x = .ref a ∧ y = .ref b ∧ SqL K H a xs ∧ SqL K H b [] ∧ Q (.bl xs.isEmpty) H
theorem op_eqLE (hu : X.A.units < cLine) : OpR X (compareOp .Eq) (rEqLE X.K) := by
  intro pins s σ H x y v u Q I rx ry h
  obtain ⟨a, b, xs, rfl, rfl, ha, hb, q⟩ := h
  cases rx
  cases ry
  obtain ⟨its, r1, p1, _⟩ := I.list ha
  obtain ⟨its2, r2, p2, _⟩ := I.list hb
  cases r2
  cases r1 with
  | nil => exact EqBoolInt.of_rc (SeqAt.RcAt.lists (e := fun _ => true) p1.isList p2.isList rfl hu (fun j h1 h2 => absurd h2 (by simp))) ⟨.bl _, H, I, rfl, q⟩
  | cons r rr => exact EqBoolInt.of_rc (SeqAt.RcAt.lists_lengths p1.isList p2.isList (by simp) hu) ⟨.bl _, H, I, rfl, q⟩
end
def dlt (H : Hp) (b : Addr) : Hp := fun x => if x = b then none else H x
theorem dlt_ne {H : Hp} {b x : Addr} (h : x ≠ b) : dlt H b x = H x := if_neg h
theorem dlt_self {H : Hp} {b : Addr} : dlt H b b = none := if_pos rfl
theorem dlt_same (H : Hp) (b : Addr) : Same (dlt H b) H := fun x o e => by
  by_cases h : x = b
  · rw [h, dlt_self] at e
    cases e
  · rw [dlt_ne h] at e
    exact e
theorem dlt_at {H : Hp} {b x : Addr} {o : HO} (e : H x = some o) (h : x ≠ b) : dlt H b x = some o := by rw [dlt_ne h]; exact e
theorem dlt_some {H : Hp} {b x : Addr} {o : HO} (e : dlt H b x = some o) : x ≠ b := fun h => by
  rw [h, dlt_self] at e
  cases e
theorem dlt_mono {H H' : Hp} {b : Addr} (s : Same H H') : Same (dlt H b) (dlt H' b) := fun x o e => dlt_at (s _ _ (dlt_same H b _ _ e)) (dlt_some e)
theorem dlt_upd {H : Hp} {b : Addr} {o : HO} : dlt (upd H b o) b = dlt H b := by
  funext x
  by_cases h : x = b
  · rw [h, dlt_self, dlt_self]
  · rw [dlt_ne h, dlt_ne h, upd_ne h]
theorem dlt_free {H : Hp} {b x : Addr} (e : H x = none) : dlt H b x = none := by
  by_cases h : x = b
  · rw [h]; exact dlt_self
  · rw [dlt_ne h]; exact e
def BagI (H : Hp) (b : Addr) : Prop := ∃ (x0 x1 : Int) (x2 : Nat) (cl : Addr) (cs : List Int), H b = some (.lst [.int x0, .int x1, .int (x2 : Nat), .ref cl]) ∧ H cl = some (.lst (cs.map V.int)) ∧ cl ≠ b ∧ (∀ c ∈ cs, 0 ≤ c) ∧ cs.length ≤ 63 ∧ 0 ≤ x0 ∧ 0 ≤ x1 ∧ x1 < 2147483647
theorem BagI.same {H H' : Hp} {b : Addr} (h : BagI H b) (s : Same H H') : BagI H' b := by
  obtain ⟨x0, x1, x2, cl, cs, h1, h2, h3⟩ := h
  exact ⟨x0, x1, x2, cl, cs, s _ _ h1, s _ _ h2, h3⟩
def rst (H : Hp) (S : Addr → Bool) : Hp := fun x => if S x = true then none else H x
theorem rst_at {H : Hp} {S : Addr → Bool} {x : Addr} {o : HO} (e : H x = some o) (h : S x = false) : rst H S x = some o := by
  unfold rst
  rw [h]
  exact e
theorem rst_in {H : Hp} {S : Addr → Bool} {x : Addr} {o : HO} (e : rst H S x = some o) : S x = false ∧ H x = some o := by
  unfold rst at e
  cases h : S x with
  | true =>
    rw [h, if_pos rfl] at e
    cases e
  | false =>
    rw [h] at e
    exact ⟨rfl, e⟩
theorem rst_mono {H H' : Hp} {S : Addr → Bool} (s : Same H H') : Same (rst H S) (rst H' S) := fun x o e => rst_at (s _ _ (rst_in e).2) (rst_in e).1
theorem rst_dlt {H : Hp} {S : Addr → Bool} {D : Addr} : rst (dlt H D) S = rst H fun x => decide (x = D) || S x := by
  funext x
  show (if S x = true then none else if x = D then none else H x) = if (decide (x = D) || S x) = true then none else H x
  by_cases h : x = D
  · rw [if_pos h, decide_eq_true h, Bool.true_or, if_pos rfl]
    split <;> rfl
  · rw [if_neg h, decide_eq_false h, Bool.false_or]
theorem dlt_dlt {H : Hp} {a b : Addr} : dlt (dlt H a) b = dlt (dlt H b) a := by
  funext x
  by_cases h : x = a
  · subst h
    rw [dlt_self]
    by_cases h2 : x = b
    · subst h2
      rw [dlt_self]
    · rw [dlt_ne h2, dlt_self]
  · rw [dlt_ne h]
    by_cases h2 : x = b
    · subst h2
      rw [dlt_self, dlt_self]
    · rw [dlt_ne h2, dlt_ne h2, dlt_ne h]
theorem dlt_none {H : Hp} {D : Addr} (h : H D = none) : dlt H D = H := by
  funext x
  by_cases hx : x = D
  · rw [hx, dlt_self, h]
  · rw [dlt_ne hx]
structure SB (b : Addr) (H H' : Hp) : Prop where
  s : Same (dlt H b) (dlt H' b)
  c : ∀ S : Addr → Bool, BagI (rst H S) b → BagI (rst H' S) b
theorem SB.refl (b : Addr) (H : Hp) : SB b H H := ⟨Same.refl _, fun _ h => h⟩
theorem SB.of {b : Addr} {H H' : Hp} (s : Same H H') : SB b H H' := ⟨dlt_mono s, fun _ h => h.same (rst_mono s)⟩
theorem SB.trans {b : Addr} {H H1 H2 : Hp} (s : SB b H H1) (t : SB b H1 H2) : SB b H H2 := ⟨Same.trans s.s t.s, fun D h => t.c D (s.c D h)⟩
theorem SB.bag {b : Addr} {H H' : Hp} (s : SB b H H') (h : BagI H b) : BagI H' b := s.c (fun _ => false) h
theorem SB.dl {b D : Addr} {H H' : Hp} (s : SB b H H') : SB b (dlt H D) (dlt H' D) := by
  refine ⟨?_, fun S h => ?_⟩
  · rw [dlt_dlt, dlt_dlt (H := H')]
    exact dlt_mono s.s
  · rw [rst_dlt] at h ⊢
    exact s.c _ h
theorem SB.own {b l : Addr} {H H' : Hp} {o : HO} (s : SB b H H') (h : H l = none) : SB b H (upd H' l o) := by
  have t := s.dl (D := l)
  rw [dlt_none h, ← dlt_upd (o := o)] at t
  exact t.trans (SB.of (dlt_same _ _))
theorem SB.at_ {b x : Addr} {H H' : Hp} {o : HO} (s : SB b H H') (e : H x = some o) (h : x ≠ b) : H' x = some o := dlt_same H' b _ _ (s.s _ _ (dlt_at e h))
theorem SB.free {b x : Addr} {H H' : Hp} (s : SB b H H') (e : H' x = none) (h : x ≠ b) : H x = none := by
  have := Same.free s.s (l := x) (by rw [dlt_ne h]; exact e)
  rw [dlt_ne h] at this
  exact this
theorem SB.put {b : Addr} {H : Hp} {x0 x1 y0 y1 : Int} {x2 y2 : Nat} {cl : Addr} (h : H b = some (.lst [.int x0, .int x1, .int (x2 : Nat), .ref cl])) (h0 : 0 ≤ y0) (h1 : 0 ≤ y1) (h2 : y1 < 2147483647) : SB b H (upd H b (.lst [.int y0, .int y1, .int (y2 : Nat), .ref cl])) := by
  refine ⟨by rw [dlt_upd]; exact Same.refl _, fun S hB => ?_⟩
  obtain ⟨z0, z1, z2, cl', cs, e1, e2, e3, e4, e5, _⟩ := hB
  obtain ⟨bS, e1⟩ := rst_in e1
  obtain ⟨cS, e2⟩ := rst_in e2
  rw [h] at e1
  injection e1 with e1
  injection e1 with e1
  injection e1 with _ e1
  injection e1 with _ e1
  injection e1 with _ e1
  injection e1 with e1
  injection e1 with e1
  subst e1
  exact ⟨y0, y1, y2, cl, cs, rst_at upd_same bS, rst_at (by rw [upd_ne e3]; exact e2) cS, e3, e4, e5, h0, h1, h2⟩
end NetR
namespace Net
open PySem PySem.Spec PyProof.Rows L2 NetR
theorem Rp.sb {H H' : Hp} {b : Addr} {v : V} {d : PyData} (h : Rp (dlt H b) v d) (s : SB b H H') : Rp (dlt H' b) v d := h.same s.s
theorem RpA.sb {H H' : Hp} {b : Addr} {vs : List V} {ds : List PyData} (h : RpA (dlt H b) vs ds) (s : SB b H H') : RpA (dlt H' b) vs ds := h.same s.s
end Net
namespace Net
open PySem PySem.Spec PyProof.Rows L2 NetR
def sp_lbag (K : PySem.W.Frag) : Sp := fun vs H Q E => ∃ (a : Addr) (ns : List Int), vs = [.ref a] ∧ SqL K H a (ns.map V.int) ∧ ∀ H' b, Same H H' → BagI H' b → H b = none → Q (.ref b) H'
def sp_take : Sp := fun vs H Q E => ∃ b many, vs = [.ref b, .int many] ∧ BagI H b ∧ 0 < many ∧ many < 1073741824 ∧ ∀ H' n, SB b H H' → BagI H' b → 0 ≤ n → n < many → Q (.int n) H'
def sp_some : Sp := fun vs H Q E => ∃ b a xs, vs = [.ref b, .ref a] ∧ BagI H b ∧ a ≠ b ∧ H a = some (.lst xs) ∧ xs ≠ [] ∧ xs.length < 1073741824 ∧ ∀ H' v, SB b H H' → BagI H' b → v ∈ xs → Q v H'
section
variable {P : Program} {w : World} {K : PySem.W.Frag} {mg : Str → Option Value} {base : Heap}
abbrev s__law_take : Stmt := top 38
theorem sc__law_take : FnScope ["bag", "many", "cell", "stirred", "value", "begin", "second"] ["bag", "many"] (defScope s__law_take) := ⟨rfl, rfl, rfl, by decide +kernel, rfl, by decide +kernel, by decide +kernel⟩
theorem ok_take {f : Addr} {fd : FuncData} (F : Fun K "_law_take" "_law_take" s__law_take f fd) (T : Tx mg) : FnOk P w K mg base CX0 1 f fd ["bag", "many"] sp_take := by
  refine F.ok sc__law_take (fun vs H Q E h => ?_) (fun cdv A outer s H vs Q E hr h => ?_)
  · obtain ⟨b, m, rfl, _⟩ := h
    rfl
  · obtain ⟨b, many, rfl, ⟨x0, x1, x2, cl, cs, hb, hc, hne, hcs, hcn, h0, h1, h2⟩, hm0, hm1, q⟩ := h
    refine ⟨_, (pss_cons (ps_if (pt_cmpR op_eq (pe_ix ix_list (pv 0) pe_int (fun _ _ => rfl)) pe_int (nomark _)) (pss_cons (ps_set (i := 2) sc__law_take.nd rfl (Or.inl rfl) (pe_ix ix_list (pe_op op_cat (pe_slice sl_list (pe_ix ix_list (pv 0) pe_int (fun _ _ => rfl)) (po_some (pe_ix ix_list (pv 0) pe_int (fun _ _ => rfl))) po_none) (pe_lst (pa_cons pe_int pa_nil))) pe_int (fun _ _ => rfl)))
      (pss_cons (ps_augS (pv 0) pe_int get_list pe_int ip_add set_list)
      (pss_cons (ps_if (pt_cmpR op_ge (pv 2) (pe_op op_pow pe_int pe_int) (nomark _)) (pss_one (ps_asg (pv 2) (pg_sub (pv 0) pe_int set_list))) pss_nil)
      (pss_cons (ps_set (i := 3) sc__law_take.nd rfl (Or.inl rfl) (pe_op op_add (pe_op op_add (pe_op op_mul (pe_ix ix_list (pv 0) pe_int (fun _ _ => rfl)) pe_int) (pe_op op_mod (pe_callTy call_int1 (by rfl) T.n_int (by decide +kernel) (pa_cons (pv 2) pa_nil)) pe_int)) (pe_op op_mul pe_int (pe_ix ix_list (pv 0) pe_int (fun _ _ => rfl)))))
      (pss_one (ps_asg (pe_op op_mod (pe_callTy call_int1 (by rfl) T.n_int (by decide +kernel) (pa_cons (pv 3) pa_nil)) pe_int) (pg_sub (pv 0) pe_int set_list))))))) pss_nil)
      (pss_cons (ps_if (pt_cmpR op_gt (pe_ix ix_list (pv 0) pe_int (fun _ _ => rfl)) pe_int (nomark _)) (pss_cons (ps_set (i := 4) sc__law_take.nd rfl (Or.inl rfl) (pe_op op_mod (pe_callTy call_int1 (by rfl) T.n_int (by decide +kernel) (pa_cons (pe_ix ix_list (pv 0) pe_int (fun _ _ => rfl)) pa_nil)) (pv 1)))
      (pss_cons (ps_asg (pe_op op_fdiv (pe_callTy call_int1 (by rfl) T.n_int (by decide +kernel) (pa_cons (pe_ix ix_list (pv 0) pe_int (fun _ _ => rfl)) pa_nil)) (pv 1)) (pg_sub (pv 0) pe_int set_list))
      (pss_one (ps_ret (pv 4))))) pss_nil)
      (pss_cons (ps_set (i := 5) sc__law_take.nd rfl (Or.inl rfl) (pe_op op_mod (pe_callTy call_int1 (by rfl) T.n_int (by decide +kernel) (pa_cons (pe_op op_mul (pe_op op_add (pe_ix ix_list (pv 0) pe_int (fun _ _ => rfl)) pe_int) pe_int) pa_nil)) pe_int))
      (pss_cons (ps_set (i := 6) sc__law_take.nd rfl (Or.inl rfl) (pe_op op_mod (pe_callTy call_int1 (by rfl) T.n_int (by decide +kernel) (pa_cons (pe_op op_mul (pe_op op_mod (pe_callTy call_int1 (by rfl) T.n_int (by decide +kernel) (pa_cons (pe_op op_mul (pv 5) (pv 5)) pa_nil)) pe_int) pe_int) pa_nil)) pe_int))
      (pss_one (ps_ret (pe_op op_mod (pe_callTy call_int1 (by rfl) T.n_int (by decide +kernel) (pa_cons (pe_op op_fdiv (pv 6) pe_int) pa_nil)) (pv 1)))))))), ?_⟩
    have hbig := sl_big
    have fin : ∀ (H1 : Hp) (y0 y1 : Int) (y2 : Nat), SB b H H1 → H1 b = some (.lst [.int y0, .int y1, .int (y2 : Nat), .ref cl]) → 0 ≤ y0 → 0 ≤ y1 → y1 < 2147483647 → BagI H1 b := fun H1 y0 y1 y2 s1 e1 a1 a2 a3 => ⟨y0, y1, y2, cl, cs, e1, s1.at_ hc hne, hne, hcs, hcn, a1, a2, a3⟩
    refine ⟨_, rfl, b, _, 0, _, rfl, rfl, .inl (.inl hb), rfl, rfl, _, rfl, ?_⟩
    by_cases c0 : x0 = 0
    · rw [show decide (V.int x0 = V.int 0) = true from decide_eq_true (by rw [c0])]
      refine iteT ?_
      refine ⟨_, rfl, b, _, 3, _, rfl, rfl, .inl (.inl hb), rfl, _, rfl, b, _, 2, _, rfl, rfl, .inl (.inl hb), rfl, _, rfl, ?_⟩
      dsimp only [tNoPart]
      refine ⟨cl, _, rfl, .inl (.inl hc), fun z1 n1 => ⟨(by show 1 ≤ sizeLine; omega), fun z2 n2 => ?_⟩⟩
      rw [cut_drop] at n2 ⊢
      have hz12 : z1 ≠ z2 := fun e => by
        rw [← e, upd_same] at n2
        cases n2
      refine ⟨z1, z2, _, _, rfl, rfl, same_upd n2 _ _ upd_same, upd_same, ?_, fun z3 n3 => ?_⟩
      · rw [List.length_drop, List.length_map]
        show cs.length - x2 + 1 ≤ sizeLine
        omega
      have s1 : Same H (upd (upd (upd H z1 (.lst ((cs.map V.int).drop x2))) z2 (.lst [.int 0])) z3 (.lst ((cs.map V.int).drop x2 ++ [.int 0]))) := (same_upd n1).trans ((same_upd n2).trans (same_upd n3))
      obtain ⟨c, ec, hc0⟩ : ∃ c : Int, ((cs.map V.int).drop x2 ++ [V.int 0])[0]? = some (.int c) ∧ 0 ≤ c := by
        rw [← List.map_drop]
        cases ed : cs.drop x2 with
        | nil => exact ⟨0, rfl, Int.le_refl 0⟩
        | cons c r => exact ⟨c, rfl, hcs c (List.mem_of_mem_drop (by rw [ed]; exact List.mem_cons_self))⟩
      refine ⟨z3, _, 0, .int c, rfl, rfl, .inl (.inl upd_same), atI_nat (j := 0) ec, ?_⟩
      have eb1 := s1 _ _ hb
      have sb1 : SB b H _ := SB.of s1
      generalize upd (upd (upd H z1 (.lst ((cs.map V.int).drop x2))) z2 (.lst [.int 0])) z3 (.lst ((cs.map V.int).drop x2 ++ [.int 0])) = H1 at eb1 sb1
      refine ⟨_, rfl, b, _, 2, _, rfl, rfl, .inl (.inl eb1), rfl, _, _, rfl, rfl, b, _, 2, 2, rfl, rfl, eb1, rfl, ?_⟩
      have eb2 : (upd H1 b (.lst [.int x0, .int x1, .int ((x2 : Int) + 1), .ref cl])) b = some (.lst [.int x0, .int x1, .int ((x2 + 1 : Nat) : Int), .ref cl]) := by rw [upd_same]; rfl
      have sb2 : SB b H (upd H1 b (.lst [.int x0, .int x1, .int ((x2 : Int) + 1), .ref cl])) := sb1.trans (SB.put (y2 := x2 + 1) eb1 h0 h1 h2)
      refine ⟨_, rfl, _, _, rfl, rfl, ⟨by decide, by decide, by decide⟩, _, _, rfl, rfl, _, rfl, ?_⟩
      have eset : ([V.int x0, .int x1, .int (x2 : Nat), .ref cl].set 2 (V.int ((x2 : Int) + 1))) = [.int x0, .int x1, .int ((x2 : Int) + 1), .ref cl] := rfl
      rw [eset]
      generalize upd H1 b (.lst [.int x0, .int x1, .int ((x2 : Int) + 1), .ref cl]) = H2 at eb2 sb2
      cases decide ((10 : Int) ^ ((18 : Int).toNat) ≤ c) with
      | true =>
        refine iteT ⟨_, rfl, _, rfl, b, _, 0, 0, rfl, rfl, eb2, rfl, ?_⟩
        have eb3 : (upd H2 b (.lst ([V.int x0, .int x1, .int ((x2 + 1 : Nat) : Int), .ref cl].set 0 (V.int c)))) b = some (.lst [V.int c, .int x1, .int ((x2 + 1 : Nat) : Int), .ref cl]) := upd_same
        have sb3 : SB b H (upd H2 b (.lst ([V.int x0, .int x1, .int ((x2 + 1 : Nat) : Int), .ref cl].set 0 (V.int c)))) := sb2.trans (SB.put (y2 := x2 + 1) eb2 hc0 h1 h2)
        generalize upd H2 b (.lst ([V.int x0, .int x1, .int ((x2 + 1 : Nat) : Int), .ref cl].set 0 (V.int c))) = H3 at eb3 sb3
        refine ⟨_, rfl, b, _, 1, .int x1, rfl, rfl, .inl (.inl eb3), atI_nat (j := 1) rfl, _, _, rfl, rfl, .inr ⟨by omega, by omega⟩, _, rfl, .inl ⟨_, rfl, _, _, rfl, rfl, (by omega), _, _, rfl, rfl, ?_⟩⟩
        refine ⟨_, rfl, b, _, 2, .int ((x2 + 1 : Nat) : Int), rfl, rfl, .inl (.inl eb3), atI_nat (j := 2) rfl, _, _, rfl, rfl, .inl ⟨by omega, by omega⟩, _, _, rfl, rfl, ?_⟩
        refine ⟨_, rfl, .inl ⟨_, rfl, _, _, rfl, rfl, (by omega), _, rfl, b, _, 1, 1, rfl, rfl, eb3, rfl, ?_⟩⟩
        have p1 : 0 ≤ (x1 * 48271 + c % 2147483647 + 7919 * ((x2 + 1 : Nat) : Int)) % 2147483647 := Int.emod_nonneg _ (by omega)
        have p2 : (x1 * 48271 + c % 2147483647 + 7919 * ((x2 + 1 : Nat) : Int)) % 2147483647 < 2147483647 := Int.emod_lt_of_pos _ (by omega)
        have eb : (upd H3 b (.lst ([V.int c, .int x1, .int ((x2 + 1 : Nat) : Int), .ref cl].set 1 (V.int ((x1 * 48271 + c % 2147483647 + 7919 * ((x2 + 1 : Nat) : Int)) % 2147483647))))) b = some (.lst [V.int c, .int ((x1 * 48271 + c % 2147483647 + 7919 * ((x2 + 1 : Nat) : Int)) % 2147483647), .int ((x2 + 1 : Nat) : Int), .ref cl]) := upd_same
        have sb : SB b H (upd H3 b (.lst ([V.int c, .int x1, .int ((x2 + 1 : Nat) : Int), .ref cl].set 1 (V.int ((x1 * 48271 + c % 2147483647 + 7919 * ((x2 + 1 : Nat) : Int)) % 2147483647))))) := sb3.trans (SB.put (y2 := x2 + 1) eb3 hc0 p1 p2)
        generalize upd H3 b (.lst ([V.int c, .int x1, .int ((x2 + 1 : Nat) : Int), .ref cl].set 1 (V.int ((x1 * 48271 + c % 2147483647 + 7919 * ((x2 + 1 : Nat) : Int)) % 2147483647)))) = H4 at eb sb
        have p0 : 0 ≤ c := hc0
        generalize (x1 * 48271 + c % 2147483647 + 7919 * ((x2 + 1 : Nat) : Int)) % 2147483647 = y1 at eb p1 p2
        generalize x2 + 1 = y2 at eb
        generalize c = y0 at eb p0
        refine ⟨_, rfl, b, _, 0, _, rfl, rfl, .inl (.inl eb), rfl, _, _, rfl, rfl, _, rfl, ?_⟩
        by_cases c1 : 0 < y0
        · rw [show decide (0 < y0) = true from decide_eq_true c1]
          refine iteT ⟨_, rfl, b, _, 0, _, rfl, rfl, .inl (.inl eb), rfl, .inl ⟨_, rfl, _, rfl, _, _, rfl, rfl, hm0, ?_⟩⟩
          refine ⟨_, rfl, b, _, 0, _, rfl, rfl, .inl (.inl eb), rfl, .inl ⟨_, rfl, _, rfl, _, _, rfl, rfl, ⟨hm0, hm1⟩, _, rfl, b, _, 0, 0, rfl, rfl, eb, rfl, _, rfl, ?_⟩⟩
          exact q _ _ (sb.trans (SB.put (y2 := y2) eb (Int.ediv_nonneg p0 (by omega)) p1 p2)) (fin _ (y0 / many) y1 y2 (sb.trans (SB.put (y2 := y2) eb (Int.ediv_nonneg p0 (by omega)) p1 p2)) upd_same (Int.ediv_nonneg p0 (by omega)) p1 p2) (Int.emod_nonneg _ (by omega)) (Int.emod_lt_of_pos _ hm0)
        · rw [show decide (0 < y0) = false from decide_eq_false c1]
          refine iteF ⟨_, rfl, b, _, 1, _, rfl, rfl, .inl (.inl eb), rfl, _, _, rfl, rfl, _, _, rfl, rfl, .inr ⟨by omega, by omega⟩, .inl ⟨_, rfl, _, _, rfl, rfl, (by omega), ?_⟩⟩
          have hbg : 0 ≤ (y1 + 1) * 39373 % 1000000007 ∧ (y1 + 1) * 39373 % 1000000007 < 1000000007 := ⟨Int.emod_nonneg _ (by omega), Int.emod_lt_of_pos _ (by omega)⟩
          refine ⟨_, rfl, _, rfl, _, _, rfl, rfl, .inl ⟨by omega, by omega⟩, .inl ⟨_, rfl, _, _, rfl, rfl, (by omega), _, _, rfl, rfl, .inr ⟨by omega, by omega⟩, .inl ⟨_, rfl, _, _, rfl, rfl, (by omega), ?_⟩⟩⟩
          refine ⟨_, rfl, _, _, rfl, rfl, ⟨by omega, by omega⟩, .inl ⟨_, rfl, _, rfl, _, _, rfl, rfl, hm0, ?_⟩⟩
          exact q _ _ sb (fin _ y0 y1 y2 sb eb p0 p1 p2) (Int.emod_nonneg _ (by omega)) (Int.emod_lt_of_pos _ hm0)
      | false =>
        refine iteF ?_
        have eb3 := eb2
        have sb3 := sb2
        generalize H2 = H3 at eb3 sb3
        refine ⟨_, rfl, b, _, 1, .int x1, rfl, rfl, .inl (.inl eb3), atI_nat (j := 1) rfl, _, _, rfl, rfl, .inr ⟨by omega, by omega⟩, _, rfl, .inl ⟨_, rfl, _, _, rfl, rfl, (by omega), _, _, rfl, rfl, ?_⟩⟩
        refine ⟨_, rfl, b, _, 2, .int ((x2 + 1 : Nat) : Int), rfl, rfl, .inl (.inl eb3), atI_nat (j := 2) rfl, _, _, rfl, rfl, .inl ⟨by omega, by omega⟩, _, _, rfl, rfl, ?_⟩
        refine ⟨_, rfl, .inl ⟨_, rfl, _, _, rfl, rfl, (by omega), _, rfl, b, _, 1, 1, rfl, rfl, eb3, rfl, ?_⟩⟩
        have p1 : 0 ≤ (x1 * 48271 + c % 2147483647 + 7919 * ((x2 + 1 : Nat) : Int)) % 2147483647 := Int.emod_nonneg _ (by omega)
        have p2 : (x1 * 48271 + c % 2147483647 + 7919 * ((x2 + 1 : Nat) : Int)) % 2147483647 < 2147483647 := Int.emod_lt_of_pos _ (by omega)
        have eb : (upd H3 b (.lst ([V.int x0, .int x1, .int ((x2 + 1 : Nat) : Int), .ref cl].set 1 (V.int ((x1 * 48271 + c % 2147483647 + 7919 * ((x2 + 1 : Nat) : Int)) % 2147483647))))) b = some (.lst [V.int x0, .int ((x1 * 48271 + c % 2147483647 + 7919 * ((x2 + 1 : Nat) : Int)) % 2147483647), .int ((x2 + 1 : Nat) : Int), .ref cl]) := upd_same
        have sb : SB b H (upd H3 b (.lst ([V.int x0, .int x1, .int ((x2 + 1 : Nat) : Int), .ref cl].set 1 (V.int ((x1 * 48271 + c % 2147483647 + 7919 * ((x2 + 1 : Nat) : Int)) % 2147483647))))) := sb3.trans (SB.put (y2 := x2 + 1) eb3 h0 p1 p2)
        generalize upd H3 b (.lst ([V.int x0, .int x1, .int ((x2 + 1 : Nat) : Int), .ref cl].set 1 (V.int ((x1 * 48271 + c % 2147483647 + 7919 * ((x2 + 1 : Nat) : Int)) % 2147483647)))) = H4 at eb sb
        have p0 : 0 ≤ x0 := h0
        generalize (x1 * 48271 + c % 2147483647 + 7919 * ((x2 + 1 : Nat) : Int)) % 2147483647 = y1 at eb p1 p2
        generalize x2 + 1 = y2 at eb
        generalize x0 = y0 at eb p0
        refine ⟨_, rfl, b, _, 0, _, rfl, rfl, .inl (.inl eb), rfl, _, _, rfl, rfl, _, rfl, ?_⟩
        by_cases c1 : 0 < y0
        · rw [show decide (0 < y0) = true from decide_eq_true c1]
          refine iteT ⟨_, rfl, b, _, 0, _, rfl, rfl, .inl (.inl eb), rfl, .inl ⟨_, rfl, _, rfl, _, _, rfl, rfl, hm0, ?_⟩⟩
          refine ⟨_, rfl, b, _, 0, _, rfl, rfl, .inl (.inl eb), rfl, .inl ⟨_, rfl, _, rfl, _, _, rfl, rfl, ⟨hm0, hm1⟩, _, rfl, b, _, 0, 0, rfl, rfl, eb, rfl, _, rfl, ?_⟩⟩
          exact q _ _ (sb.trans (SB.put (y2 := y2) eb (Int.ediv_nonneg p0 (by omega)) p1 p2)) (fin _ (y0 / many) y1 y2 (sb.trans (SB.put (y2 := y2) eb (Int.ediv_nonneg p0 (by omega)) p1 p2)) upd_same (Int.ediv_nonneg p0 (by omega)) p1 p2) (Int.emod_nonneg _ (by omega)) (Int.emod_lt_of_pos _ hm0)
        · rw [show decide (0 < y0) = false from decide_eq_false c1]
          refine iteF ⟨_, rfl, b, _, 1, _, rfl, rfl, .inl (.inl eb), rfl, _, _, rfl, rfl, _, _, rfl, rfl, .inr ⟨by omega, by omega⟩, .inl ⟨_, rfl, _, _, rfl, rfl, (by omega), ?_⟩⟩
          have hbg : 0 ≤ (y1 + 1) * 39373 % 1000000007 ∧ (y1 + 1) * 39373 % 1000000007 < 1000000007 := ⟨Int.emod_nonneg _ (by omega), Int.emod_lt_of_pos _ (by omega)⟩
          refine ⟨_, rfl, _, rfl, _, _, rfl, rfl, .inl ⟨by omega, by omega⟩, .inl ⟨_, rfl, _, _, rfl, rfl, (by omega), _, _, rfl, rfl, .inr ⟨by omega, by omega⟩, .inl ⟨_, rfl, _, _, rfl, rfl, (by omega), ?_⟩⟩⟩
          refine ⟨_, rfl, _, _, rfl, rfl, ⟨by omega, by omega⟩, .inl ⟨_, rfl, _, rfl, _, _, rfl, rfl, hm0, ?_⟩⟩
          exact q _ _ sb (fin _ y0 y1 y2 sb eb p0 p1 p2) (Int.emod_nonneg _ (by omega)) (Int.emod_lt_of_pos _ hm0)
    · rw [show decide (V.int x0 = V.int 0) = false from decide_eq_false (fun z => by injection z with z; exact c0 z)]
      refine iteF ?_
      have eb := hb
      have sb := SB.refl b H
      have p0 := h0
      have p1 := h1
      have p2 := h2
      generalize x0 = y0 at eb p0
      generalize x1 = y1 at eb p1 p2
      generalize x2 = y2 at eb
      refine ⟨_, rfl, b, _, 0, _, rfl, rfl, .inl (.inl eb), rfl, _, _, rfl, rfl, _, rfl, ?_⟩
      by_cases c1 : 0 < y0
      · rw [show decide (0 < y0) = true from decide_eq_true c1]
        refine iteT ⟨_, rfl, b, _, 0, _, rfl, rfl, .inl (.inl eb), rfl, .inl ⟨_, rfl, _, rfl, _, _, rfl, rfl, hm0, ?_⟩⟩
        refine ⟨_, rfl, b, _, 0, _, rfl, rfl, .inl (.inl eb), rfl, .inl ⟨_, rfl, _, rfl, _, _, rfl, rfl, ⟨hm0, hm1⟩, _, rfl, b, _, 0, 0, rfl, rfl, eb, rfl, _, rfl, ?_⟩⟩
        exact q _ _ (sb.trans (SB.put (y2 := y2) eb (Int.ediv_nonneg p0 (by omega)) p1 p2)) (fin _ (y0 / many) y1 y2 (sb.trans (SB.put (y2 := y2) eb (Int.ediv_nonneg p0 (by omega)) p1 p2)) upd_same (Int.ediv_nonneg p0 (by omega)) p1 p2) (Int.emod_nonneg _ (by omega)) (Int.emod_lt_of_pos _ hm0)
      · rw [show decide (0 < y0) = false from decide_eq_false c1]
        refine iteF ⟨_, rfl, b, _, 1, _, rfl, rfl, .inl (.inl eb), rfl, _, _, rfl, rfl, _, _, rfl, rfl, .inr ⟨by omega, by omega⟩, .inl ⟨_, rfl, _, _, rfl, rfl, (by omega), ?_⟩⟩
        have hbg : 0 ≤ (y1 + 1) * 39373 % 1000000007 ∧ (y1 + 1) * 39373 % 1000000007 < 1000000007 := ⟨Int.emod_nonneg _ (by omega), Int.emod_lt_of_pos _ (by omega)⟩
        refine ⟨_, rfl, _, rfl, _, _, rfl, rfl, .inl ⟨by omega, by omega⟩, .inl ⟨_, rfl, _, _, rfl, rfl, (by omega), _, _, rfl, rfl, .inr ⟨by omega, by omega⟩, .inl ⟨_, rfl, _, _, rfl, rfl, (by omega), ?_⟩⟩⟩
        refine ⟨_, rfl, _, _, rfl, rfl, ⟨by omega, by omega⟩, .inl ⟨_, rfl, _, rfl, _, _, rfl, rfl, hm0, ?_⟩⟩
        exact q _ _ sb (fin _ y0 y1 y2 sb eb p0 p1 p2) (Int.emod_nonneg _ (by omega)) (Int.emod_lt_of_pos _ hm0)
abbrev s__law_some : Stmt := top 39
theorem sc__law_some : FnScope ["bag", "things"] ["bag", "things"] (defScope s__law_some) := ⟨rfl, rfl, rfl, by decide +kernel, rfl, by decide +kernel, by decide +kernel⟩
theorem ok_some {f f__law_take : Addr} {fd fd1 : FuncData} (F : Fun K "_law_some" "_law_some" s__law_some f fd) (T : Tx mg) (d__law_take : Ok1 P w K mg base CX0 1 "_law_take" ["bag", "many"] sp_take f__law_take fd1) : FnOk P w K mg base CX0 2 f fd ["bag", "things"] sp_some := by
  refine F.ok sc__law_some (fun vs H Q E h => ?_) (fun cdv A outer s H vs Q E hr h => ?_)
  · obtain ⟨b, a, xs, rfl, _⟩ := h
    rfl
  · obtain ⟨b, a, xs, rfl, hB, hne, ha, hx, hxl, q⟩ := h
    refine ⟨_, (pss_one (ps_ret (pe_ix ix_list (pv 1) (pe_call d__law_take.ok (hr.mono (by decide)) rfl d__law_take.g d__law_take.kp d__law_take.b .nil pass0 (pa_cons (pv 0) (pa_cons (pe_callB call_len (by rfl) T.n_len (by decide +kernel) (pa_cons (pv 1) pa_nil)) pa_nil))) (fun _ _ => rfl)))), ?_⟩
    have hpos : 0 < xs.length := List.length_pos_iff.mpr hx
    refine ⟨_, rfl, _, rfl, _, rfl, _, _, rfl, .inl ⟨_, SqL.of ha, rfl⟩, b, _, rfl, hB, by omega, by omega, fun H1 n s1 hB1 n0 n1 => ⟨a, xs, n, ?_⟩⟩
    obtain ⟨k, rfl⟩ := Int.eq_ofNat_of_zero_le n0
    have hk : k < xs.length := by omega
    exact ⟨xs[k], rfl, rfl, .inl (.inl (s1.at_ ha hne)), atI_nat (List.getElem?_eq_getElem hk), q _ _ s1 hB1 (List.getElem_mem hk)⟩
abbrev s__law_bag : Stmt := top 37
theorem sc__law_bag : FnScope ["script", "cell"] ["script"] (defScope s__law_bag) := ⟨rfl, rfl, rfl, by decide +kernel, rfl, by decide +kernel, by decide +kernel⟩
theorem ok_lbag {f : Addr} {fd : FuncData} (F : Fun K "_law_bag" "_law_bag" s__law_bag f fd) (T : Tx mg) : FnOk P w K mg base CX0 1 f fd ["script"] (sp_lbag K) := by
  refine F.ok sc__law_bag (fun vs H Q E h => ?_) (fun cdv A outer s H vs Q E hr h => ?_)
  · obtain ⟨a, ns, rfl, _⟩ := h
    rfl
  · obtain ⟨a, ns, rfl, ha, q⟩ := h
    have hbig := sl_big
    refine ⟨_, (pss_one (ps_ret (pe_lst (pa_cons pe_int (pa_cons pe_int (pa_cons pe_int (pa_cons (pe_lc (own := [("cell", 1)]) (g := gName 1) (tt := tYes) (te := (tCB (fun xs H Q => ∃ i, xs = [.int i] ∧ Q (.int (if i < 0 then -i else i)) H) (tCons (tVar 1) tNil))) rfl sc__law_bag.nd (pi_list (pe_slice sl_list (pv 0) po_none (po_some pe_int))) (blkOk_by (N := ["script", "cell"]) (sc := defScope s__law_bag) (by decide +kernel)) (fun _ _ _ _ _ => pg_name (i := 1) sc__law_bag.nd rfl (Or.inl rfl)) (fun _ _ _ _ _ => pts_nil) (fun _ _ _ _ _ => by exact (pe_callB call_abs (by rfl) T.n_abs (by decide +kernel) (pa_cons (pv 1) pa_nil)))) pa_nil))))))), ?_⟩
    dsimp only [tNoPart]
    refine ⟨_, rfl, _, rfl, a, _, rfl, ha, fun p hp => ?_⟩
    rw [show (some (63 : Int)) = some ((63 : Nat) : Int) from rfl, cut_take, ← List.map_take]
    have s1 := same_upd (o := .lst ((ns.take 63).map V.int)) hp
    have h1 := @upd_same H p (.lst ((ns.take 63).map V.int))
    generalize upd H p (.lst ((ns.take 63).map V.int)) = H1 at s1 h1
    have hln : (ns.take 63).length ≤ 63 := by rw [List.length_take]; exact Nat.min_le_left _ _
    generalize ns.take 63 = ms at h1 hln
    refine ⟨p, rfl, ⟨_, SqL.of h1⟩, fun D hD => lc_list (K := K) (xs := ms.map V.int) (fun i H2 => Fill H1 D (((ms.take i).map fun z => (if z < 0 then -z else z)).map V.int) H2) (.start hD) (fun i H2 _ fl => SqL.of (fl.same _ _ h1)) ?_ ?_⟩
    · intro i x H2 hi fl
      rw [List.getElem?_map] at hi
      obtain ⟨z, hz, rfl⟩ := Option.map_eq_some_iff.mp hi
      refine ⟨rfl, _, rfl, z, rfl, _, fl.at_, ?_, fl.add ?_⟩
      · rw [List.length_map, List.length_map]
        exact take_len_le (by omega)
      · rw [take_add hz, List.map_append, List.map_append]
        rfl
    · intro H2 fl
      rw [List.length_map, List.take_length] at fl
      refine ⟨(by show 4 ≤ sizeLine; omega), fun b hb => ?_⟩
      have s2 := fl.same.trans (same_upd (o := .lst [.int 0, .int 1234567891, .int 0, .ref D]) hb)
      refine q _ b (s1.trans s2) ⟨0, 1234567891, 0, D, ms.map fun z => (if z < 0 then -z else z), upd_same, same_upd hb _ _ fl.at_, fun e => ?_, fun c hc => ?_, by rw [List.length_map]; exact hln, Int.le_refl 0, by decide, by decide⟩ (s1.free (fl.same.free hb))
      · have := fl.at_
        rw [e, hb] at this
        cases this
      · obtain ⟨z, _, rfl⟩ := List.mem_map.mp hc
        show 0 ≤ (if z < 0 then -z else z)
        split <;> omega
end
end Net
namespace NetR
open PySem PySem.Spec PyProof.Rows L2
theorem tuple_mul1 (l : Addr) (items : Array Value) (n : Nat) (dd : Option Addr) (sl : Array (Option Value)) (u : Tok) :
    Meets (Builtin.«tuple.__mul__» ⟨[.ref l, .int 1 u], []⟩) (fun _ R s => s.heap.get? l = some { cls := .type "tuple", dict := dd, data := .seq items n, slots := sl } ∧ R (.ok (.ret (.ref l))) s) :=
  .of_wp fun prog w A R s h => by
    obtain ⟨hp, g, d, tk, os⟩ := s
    obtain ⟨hl, h⟩ := h
    have f1 := AutoSeq1.idx_int
    wp_walk using wpAny_loadPart' hl
    repeat (first
      | (refine wpAny_ite_false (decide_eq_false (by simp)) ?_; wp_walk using wpAny_loadPart' hl)
      | (refine wpAny_ite_true (by simp) ?_; wp_walk using wpAny_loadPart' hl))
    exact ⟨_, rfl, h⟩
theorem tuple_mul0 (l : Addr) (items : Array Value) (n : Nat) (dd : Option Addr) (sl : Array (Option Value)) (u : Tok) (h0 : items.isEmpty = false) :
    Meets (Builtin.«tuple.__mul__» ⟨[.ref l, .int 0 u], []⟩) (fun _ R s => s.heap.get? l = some { cls := .type "tuple", dict := dd, data := .seq items n, slots := sl } ∧
      R (.ok (.ret (Value.ref s.heap.objs.size))) { s with heap := s.heap.push { cls := Value.type "tuple", data := Data.seq #[] }, toks := s.toks }) :=
  .of_wp fun prog w A R s h => by
    obtain ⟨hp, g, d, tk, os⟩ := s
    obtain ⟨hl, h⟩ := h
    have f1 := AutoSeq1.idx_int
    wp_walk using wpAny_loadPart' hl
    repeat (first
      | (refine wpAny_ite_false (decide_eq_false (by simp [h0])) ?_; wp_walk using wpAny_loadPart' hl)
      | (refine wpAny_ite_true (by simp) ?_; wp_walk using wpAny_loadPart' hl))
    exact ⟨_, rfl, h⟩
def rRepTA (K : PySem.W.Frag) : R2 := fun x y H Q => ∃ l k xs, x = .ref l ∧ y = .int k ∧ H l = some (.tup xs) ∧ xs ≠ [] ∧ 0 ≤ k ∧ k ≤ 1000 ∧ xs.length ≤ 1000 ∧ ∀ H' p, Same H H' → H' p = some (.tup (List.replicate k.toNat xs).flatten) → Q (.ref p) H'
theorem op_repTA {X : Cx} : OpR X (binaryOp .Mult) (rRepTA X.K) := by
  intro pins s σ H x y v u Q I rx ry h
  obtain ⟨l, k, xs, rfl, rfl, hT, hne, h1, h2, hz, q⟩ := h
  by_cases hk : 2 ≤ k
  · exact op_repT pins s σ H _ _ v u Q I rx ry ⟨l, k, xs, rfl, rfl, .inl (.inl hT), hne, hk, h2, hz, fun p hp => q _ p (Net.same_upd hp) upd_same⟩
  cases rx
  obtain ⟨t, rfl⟩ := ry
  obtain ⟨its, r, ⟨⟨cls, dd, data, sl⟩, ho, hc, n, hd⟩, hs⟩ := I.tuple (show SqT X.K H l xs from .inl (.inl hT))
  simp only at hc hd
  subst hc hd
  have hi : its.toArray.isEmpty = false := by
    cases r with
    | nil => exact absurd rfl hne
    | cons a b => rfl
  by_cases hk1 : k = 1
  · subst hk1
    refine wpAny_binaryOp_repeat_ref (T := "tuple") (U := "int") (by decide) ⟨_, ho, rfl⟩ (fun s' => typeIs_int s' 1 t) noFill_tuple_mul F.fills_int_mul F.slot_int_rmul repeat_tuple F.slot_int_index.lookup
      (call_meets F.slot_int_rmul (typeIs_int s 1 t) F.entry_int_rmul (F.args_int_rmul_2 _ _) (int_rmul_tuple 1 t l its.toArray n dd sl)
        ⟨ho, rfl, ⟨_, ho, rfl⟩, call_meets F.slot_tuple_mul ⟨_, ho, rfl⟩ F.entry_tuple_mul (F.args_tuple_mul_2 _ _) (tuple_mul1 l its.toArray n dd sl t) ⟨ho, ?_⟩⟩)
    refine ⟨.ref l, H, I, rfl, q H l (.refl H) ?_⟩
    rw [hT]
    simp
  · have hk0 : k = 0 := by omega
    subst hk0
    refine wpAny_binaryOp_repeat_ref (T := "tuple") (U := "int") (by decide) ⟨_, ho, rfl⟩ (fun s' => typeIs_int s' 0 t) noFill_tuple_mul F.fills_int_mul F.slot_int_rmul repeat_tuple F.slot_int_index.lookup
      (call_meets F.slot_int_rmul (typeIs_int s 0 t) F.entry_int_rmul (F.args_int_rmul_2 _ _) (int_rmul_tuple 0 t l its.toArray n dd sl)
        ⟨ho, rfl, ⟨_, ho, rfl⟩, call_meets F.slot_tuple_mul ⟨_, ho, rfl⟩ F.entry_tuple_mul (F.args_tuple_mul_2 _ _) (tuple_mul0 l its.toArray n dd sl t hi) ⟨ho, ?_⟩⟩)
    refine ⟨.ref s.heap.objs.size, _, I.laid (t' := s.toks) (o := .tup []) (fun b ob q => Heap.get?_push_of_some _ q) (Nat.le_refl _) ?_, rfl, q _ _ (Net.same_upd (I.hok.fresh (Nat.le_refl _))) upd_same⟩
    exact ⟨Nat.zero_le _, _, .nil, IsTup.new _ _⟩
end NetR
namespace NetZ
open PySem PySem.Spec PyProof.Rows L2
section
variable {prog : Program} {w : World} {A : Around} {E : Value → Shared → Prop} {s : Shared} {z TI TO T i1 i2 : Addr} {fp1 fp2 : List Addr} {n i : Nat} {P1 P2 : Nat → Value → Prop} {St1 St2 : Nat → Heap → Prop} {f : Bool} {oT : Obj}
theorem item_held {Q : Value → Shared → Prop} (S : ZipSep2 z TI TO i1 i2 fp1 fp2) (D1 : Draws prog w A i1 fp1 n P1 St1) (D2 : Draws prog w A i2 fp2 n P2 St2)
    (hz : IsZipHeld s.heap z TI TO T f) (hT : s.heap.get? T = some oT) (hTI : IsTupOf2 s.heap TI (.ref i1) (.ref i2)) (st1 : St1 i s.heap) (st2 : St2 i s.heap) (hlt : i < n)
    (hQ : ∀ x1 x2 h' tk, P1 i x1 → P2 i x2 → IsZipHeld h' z TI TO T true → St1 (i + 1) h' → St2 (i + 1) h' → IsTupOf2 h' s.heap.objs.size x1 x2 →
      (∀ c o, c ≠ z → c ≠ i1 → c ≠ i2 → s.heap.get? c = some o → h'.get? c = some o) → Q (.ref s.heap.objs.size) { s with heap := h', toks := tk }) :
    wpAny (model prog w) A (Builtin.«zip.__next__» ⟨[.ref z], []⟩) (fun fin s' => ∃ v, fin = .done (.ret v) ∧ Q v s') E s := by
  obtain ⟨hp, g, d, tk0, os⟩ := s
  show wpAny _ _ (field (.ref z) 2 >>= _) _ _ _
  refine wpAny_bind (wpAny_field hz rfl (x := .bool false) rfl ?_)
  show wpAny _ _ (field (.ref z) 3 >>= _) _ _ _
  refine wpAny_bind (wpAny_field hz rfl (x := .ref TI) rfl ?_)
  refine wpAny_bind (wpAny_seqItems hTI rfl ?_)
  show wpAny _ _ (Builtin.SmallTypes.ownedTupleIsFree (.ref z) >>= _) _ _ _
  refine wpAny_bind (wpAny_tupleHeld_zip (s := ⟨hp, g, d, tk0, os⟩) hz hT fun h₁ hz₁ hs₁ => ?_)
  replace hs₁ : Heap.SameBut z hp h₁ := hs₁
  simp only [Bool.false_eq_true, if_false]
  refine wpAny_bind ?_
  rw [← Array.forIn_toList]
  simp only [List.forIn_cons, List.forIn_nil]
  refine wpAny_bind (wpAny_bind (wpAny_holding ?_))
  show wpAny _ _ (Builtin.SmallTypes.nextOf (.ref i1) >>= _) _ _ ⟨h₁, g, d, tk0, os⟩
  refine wpAny_bind (D1.item i ⟨h₁, g, d, tk0, os⟩ _ _ hlt (D1.over st1 hs₁ S.zf1) fun x1 p1 tk1 hx1 sn1 hp1 => wpAny_pure ?_)
  replace hp1 : Heap.SameBut i1 h₁ p1 := hp1
  refine wpAny_pure ?_
  refine wpAny_bind (wpAny_bind (wpAny_holding ?_))
  show wpAny _ _ (Builtin.SmallTypes.nextOf (.ref i2) >>= _) _ _ ⟨p1, g, d, tk1, os⟩
  refine wpAny_bind (D2.item i ⟨p1, g, d, tk1, os⟩ _ _ hlt (D2.over (D2.over st2 hs₁ S.zf2) hp1 S.sep1_2) fun x2 p2 tk2 hx2 sn2 hp2 => wpAny_pure ?_)
  replace hp2 : Heap.SameBut i2 p1 p2 := hp2
  refine wpAny_pure (wpAny_pure ?_)
  show wpAny _ _ (newTuple [x1, x2] >>= _) _ _ _
  refine wpAny_bind (wpAny_newTuple ?_)
  have hsz : p2.objs.size = hp.objs.size := by rw [hp2.1, hp1.1, hs₁.1]
  have hz₃ : IsZipHeld p2 z TI TO T true := hp2.extBut _ _ S.zi2 (hp1.extBut _ _ S.zi1 hz₁)
  have hk : ∀ c o, c ≠ z → c ≠ i1 → c ≠ i2 → hp.get? c = some o → p2.get? c = some o := fun c o c1 c2 c3 e => hp2.extBut _ _ c3 (hp1.extBut _ _ c2 (hs₁.extBut _ _ c1 e))
  refine wpAny_pure ⟨_, rfl, ?_⟩
  show Q (.ref p2.objs.size) ⟨p2.push { cls := .type "tuple", data := .seq #[x1, x2] }, g, d, tk2, os⟩
  have hp' : IsTupOf2 (p2.push { cls := .type "tuple", data := .seq #[x1, x2] }) p2.objs.size x1 x2 := Heap.get?_push_size _ rfl
  rw [hsz] at hp' ⊢
  exact hQ x1 x2 _ tk2 hx1 hx2 (Heap.get?_push_of_some _ hz₃) (D1.frame _ _ _ (D1.over sn1 hp2 S.sep2_1) fun b _ o e => Heap.get?_push_of_some _ e) (D2.frame _ _ _ sn2 fun b _ o e => Heap.get?_push_of_some _ e) hp' fun c o c1 c2 c3 e => Heap.get?_push_of_some _ (hk c o c1 c2 c3 e)
theorem end_held {Q : Fin → Shared → Prop} (S : ZipSep2 z TI TO i1 i2 fp1 fp2) (D1 : Draws prog w A i1 fp1 n P1 St1)
    (hz : IsZipHeld s.heap z TI TO T f) (hT : s.heap.get? T = some oT) (hTI : IsTupOf2 s.heap TI (.ref i1) (.ref i2)) (st1 : St1 n s.heap)
    (hE : ∀ h' e, (∀ c o, c ≠ z → c ≠ i1 → c ≠ i2 → s.heap.get? c = some o → h'.get? c = some o) → (∃ o, h'.get? e = some o ∧ o.cls = .type "StopIteration") → E (.ref e) { s with heap := h' }) :
    wpAny (model prog w) A (Builtin.«zip.__next__» ⟨[.ref z], []⟩) Q E s := by
  obtain ⟨hp, g, d, tk0, os⟩ := s
  show wpAny _ _ (field (.ref z) 2 >>= _) _ _ _
  refine wpAny_bind (wpAny_field hz rfl (x := .bool false) rfl ?_)
  show wpAny _ _ (field (.ref z) 3 >>= _) _ _ _
  refine wpAny_bind (wpAny_field hz rfl (x := .ref TI) rfl ?_)
  refine wpAny_bind (wpAny_seqItems hTI rfl ?_)
  show wpAny _ _ (Builtin.SmallTypes.ownedTupleIsFree (.ref z) >>= _) _ _ _
  refine wpAny_bind (wpAny_tupleHeld_zip (s := ⟨hp, g, d, tk0, os⟩) hz hT fun h₁ hz₁ hs₁ => ?_)
  replace hs₁ : Heap.SameBut z hp h₁ := hs₁
  simp only [Bool.false_eq_true, if_false]
  refine wpAny_bind ?_
  rw [← Array.forIn_toList]
  simp only [List.forIn_cons, List.forIn_nil]
  refine wpAny_bind (wpAny_bind (wpAny_holding ?_))
  show wpAny _ _ (Builtin.SmallTypes.nextOf (.ref i1) >>= _) _ _ ⟨h₁, g, d, tk0, os⟩
  refine wpAny_bind (D1.done ⟨h₁, g, d, tk0, os⟩ _ _ (D1.over st1 hs₁ S.zf1) fun q e hq he => ?_)
  exact hE q e (fun c o c1 c2 _ x => hq _ _ c2 (hs₁.extBut _ _ c1 x)) he
def ZSt (z TI TO i1 i2 : Addr) (St1 St2 : Nat → Heap → Prop) (S : Addr) (i : Nat) (h : Heap) : Prop :=
  IsTupOf2 h TI (.ref i1) (.ref i2) ∧ St1 i h ∧ St2 i h ∧ ((IsZip h z TI TO .none ∧ ∃ a b, IsTupOf2 h TO a b) ∨ ∃ T f oT, IsZipHeld h z TI TO T f ∧ h.get? T = some oT ∧ T ≠ z ∧ T ≠ i1 ∧ T ≠ i2 ∧ T ≠ S)
theorem ZSt.type {S : Addr} (h : ZSt z TI TO i1 i2 St1 St2 S i s.heap) : s.TypeIs (.ref z) "zip" := by
  rcases h.2.2.2 with ⟨hz, _⟩ | ⟨T, f, oT, hz, _⟩
  · exact ⟨_, hz, rfl⟩
  · exact ⟨_, hz, rfl⟩
theorem zip_next {L : Addr} {Q : Option Value → Shared → Prop} (S : ZipSep2 z TI TO i1 i2 fp1 fp2) (D1 : Draws prog w A.in1 i1 fp1 n P1 St1) (D2 : Draws prog w A.in1 i2 fp2 n P2 St2) (hL : L < s.heap.objs.size)
    (st : ZSt z TI TO i1 i2 St1 St2 L i s.heap) (hlt : i < n)
    (hQ : ∀ x1 x2 h' tk, P1 i x1 → P2 i x2 → ZSt z TI TO i1 i2 St1 St2 L (i + 1) h' → IsTupOf2 h' s.heap.objs.size x1 x2 →
      (∀ c o, c ≠ z → c ≠ TO → c ≠ i1 → c ≠ i2 → s.heap.get? c = some o → h'.get? c = some o) → Q (some (.ref s.heap.objs.size)) { s with heap := h', toks := tk }) :
    wpAny (model prog w) A (pyNext (.ref z)) Q E s := by
  obtain ⟨hTI, st1, st2, hz⟩ := st
  have lt : ∀ {c o}, s.heap.get? c = some o → s.heap.objs.size ≠ c := fun e => Nat.ne_of_gt (Heap.lt_size e)
  have n1 : s.heap.objs.size ≠ i1 := let ⟨_, e⟩ := D1.live _ _ st1; lt e
  have n2 : s.heap.objs.size ≠ i2 := let ⟨_, e⟩ := D2.live _ _ st2; lt e
  rcases hz with ⟨hz, a, b, hTO⟩ | ⟨T, f, oT, hz, hT, r1, r2, r3, r4⟩
  · refine wpAny_pyNext_zipD2_item S D1 D2 hz hTI hTO st1 st2 hlt hlt fun x1 x2 h' tk p1 p2 a1 a2 a3 a4 a5 a6 hk => ?_
    exact hQ x1 x2 h' tk p1 p2 ⟨hk _ _ S.TIz S.TITO S.TIi1 S.TIi2 hTI, a3, a4, .inr ⟨_, false, _, a1, a5, lt hz, n1, n2, Nat.ne_of_gt hL⟩⟩ a5 hk
  · have hTy : s.TypeIs (.ref z) "zip" := ⟨_, hz, rfl⟩
    unfold pyNext
    refine wpAny_bind (wpAny_attempt (wpAny_callSpecial?_slot (name := Str.ofString "__next__") hTy F.slot_zip_next
      (wpAny_call_entry F.slot_zip_next hTy F.entry_zip_next
        (item_held (A := A.in1) S D1 D2 hz hT hTI st1 st2 hlt fun x1 x2 h' tk p1 p2 a1 a3 a4 a5 hk => wpAny_pure ?_) (F.args_zip_next_1 _))))
    exact hQ x1 x2 h' tk p1 p2 ⟨hk _ _ S.TIz S.TIi1 S.TIi2 hTI, a3, a4, .inr ⟨T, true, oT, a1, hk _ _ r1 r2 r3 hT, r1, r2, r3, r4⟩⟩ a5 fun c o c1 _ c3 c4 e => hk c o c1 c3 c4 e
theorem zip_stop {L : Addr} {Q : Option Value → Shared → Prop} (S : ZipSep2 z TI TO i1 i2 fp1 fp2) (D1 : Draws prog w A.in1 i1 fp1 n P1 St1) (D2 : Draws prog w A.in1 i2 fp2 n P2 St2)
    (st : ZSt z TI TO i1 i2 St1 St2 L n s.heap)
    (hQ : ∀ h' tk, (∀ c o, c ≠ z → c ≠ TO → c ≠ i1 → c ≠ i2 → s.heap.get? c = some o → h'.get? c = some o) → Q none { s with heap := h', toks := tk }) :
    wpAny (model prog w) A (pyNext (.ref z)) Q E s := by
  obtain ⟨hTI, st1, st2, hz⟩ := st
  rcases hz with ⟨hz, a, b, hTO⟩ | ⟨T, f, oT, hz, hT, r1, r2, r3, r4⟩
  · exact wpAny_pyNext_zipD2_end S D1 D2 hz hTI hTO st1 st2 (Nat.le_refl _) (Nat.le_refl _) (.inl rfl) fun h' tk hk => hQ h' tk hk
  · have hTy : s.TypeIs (.ref z) "zip" := ⟨_, hz, rfl⟩
    unfold pyNext
    refine wpAny_bind (wpAny_attempt (wpAny_callSpecial?_slot (name := Str.ofString "__next__") hTy F.slot_zip_next
      (wpAny_call_entry F.slot_zip_next hTy F.entry_zip_next (end_held (A := A.in1) S D1 hz hT hTI st1 fun h' e hk he => ?_) (F.args_zip_next_1 _))))
    obtain ⟨o, ho, hc⟩ := he
    refine wpAny_bind (wpAny_isInstance (T := "StopIteration") (b := true) ⟨o, ho, hc⟩ isSubtype_stop ?_)
    exact wpAny_pure (hQ h' s.toks fun c o c1 _ c3 c4 e => hk c o c1 c3 c4 e)
end
theorem zip_no_len : typeLookup (.type "zip") "__len__" = pure none := am_miss_of_fast (by decide +kernel)
theorem zip_no_hint : typeLookup (.type "zip") "__length_hint__" = pure none := am_miss_of_fast (by decide +kernel)
theorem zip_hint {prog : Program} {w : World} {A : Around} {E : Value → Shared → Prop} {s : Shared} {r : Addr} {Q : Bool → Shared → Prop} (hT : s.TypeIs (.ref r) "zip") (h : Q true s) : wpAny (model prog w) A (Builtin.List.listLengthHint (.ref r)) Q E s := by
  unfold Builtin.List.listLengthHint
  refine wpAny_bind (wpAny_specialOf hT zip_no_len ?_)
  show wpAny _ _ (specialOf (Value.ref r) (Str.ofString "__length_hint__") >>= _) _ _ _
  refine wpAny_bind (wpAny_specialOf hT zip_no_hint ?_)
  exact wpAny_pure h
section
variable {X : Cx} {pins : List (Addr × Obj)} {σ : L2.St} {z TI TO i1 i2 : Addr} {fp1 fp2 : List Addr} {n : Nat} {P1 P2 : Nat → Value → Prop} {St1 St2 : Nat → Heap → Prop}
theorem ZSt.upd {L : Addr} {i : Nat} {h : Heap} {g : Obj → Obj} {A : Around} {prog : Program} {w : World} (D1 : Draws prog w A i1 fp1 n P1 St1) (D2 : Draws prog w A i2 fp2 n P2 St2) (st : ZSt z TI TO i1 i2 St1 St2 L i h) (h1 : L ∉ fp1) (h2 : L ∉ fp2) (hz : z ≠ L) (hTI : TI ≠ L) (hTO : TO ≠ L) :
    ZSt z TI TO i1 i2 St1 St2 L i (h.update L g) := by
  have k : ∀ b o, b ≠ L → h.get? b = some o → (h.update L g).get? b = some o := fun b o hb e => (Heap.get?_update_other _ _ (Ne.symm hb)).trans e
  obtain ⟨a1, a2, a3, a4⟩ := st
  refine ⟨k _ _ hTI a1, D1.frame _ _ _ a2 fun b hb o e => k b o (fun q => h1 (q ▸ hb)) e, D2.frame _ _ _ a3 fun b hb o e => k b o (fun q => h2 (q ▸ hb)) e, ?_⟩
  rcases a4 with ⟨b1, x, y, b2⟩ | ⟨T, f, oT, b1, b2, b3, b4, b5, b6⟩
  · exact .inl ⟨k _ _ hz b1, x, y, k _ _ hTO b2⟩
  · exact .inr ⟨T, f, oT, k _ _ hz b1, k _ _ b6 b2, b3, b4, b5, b6⟩
def Prs (H : Hp) (xs ys : List V) (ts : List Addr) : Prop := ∀ (j : Nat) (t : Addr), ts[j]? = some t → ∃ x y, xs[j]? = some x ∧ ys[j]? = some y ∧ H t = some (.tup [x, y])
theorem loop {A : Around} {R : Result → Shared → Prop} (S : ZipSep2 z TI TO i1 i2 fp1 fp2) (D1 : Draws X.prog X.w A.in1.in1 i1 fp1 n P1 St1) (D2 : Draws X.prog X.w A.in1.in1 i2 fp2 n P2 St2) {L : Addr} (h1 : L ∉ fp1) (h2 : L ∉ fp2)
    (hch : ∀ b ∈ [z, TI, TO, i1, i2], b < L) {xs ys : List V} (r1 : ∀ j v, P1 j v → ∃ x, xs[j]? = some x ∧ RelV x v) (r2 : ∀ j v, P2 j v → ∃ y, ys[j]? = some y ∧ RelV y v) (hn : n ≤ sizeLine) (res : Value) :
    ∀ (k i : Nat) (s : Shared) (H : Hp) (ts : List Addr), n - i = k → i ≤ n → Inv X pins σ H s → H L = some (.lst (ts.map V.ref)) → ts.length = i → ZSt z TI TO i1 i2 St1 St2 L i s.heap → (∀ b ∈ [z, TI, TO, i1, i2], FpOk X pins H b) → Prs H xs ys ts →
      (∀ H' s' ts', Inv X pins σ H' s' → (∀ b o, b ≠ L → H b = some o → H' b = some o) → H' L = some (.lst (ts'.map V.ref)) → ts'.length = n → Prs H' xs ys ts' → R (.ok (.ret res)) s') →
      codeAny (model X.prog X.w) A (.builtin "list.extend.loop" ⟨[.ref L, .ref z, res], []⟩) R s := by
  have zL : z ≠ L := Nat.ne_of_lt (hch z (by simp))
  have tiL : TI ≠ L := Nat.ne_of_lt (hch TI (by simp))
  have toL : TO ≠ L := Nat.ne_of_lt (hch TO (by simp))
  intro k
  induction k with
  | zero =>
    intro i s H ts hk hi I hL hlen st hfp hp hR
    have hin : i = n := by omega
    subst hin
    refine codeAny_builtin F.entry_extend_loop ?_
    rw [Around.under_plainId F.plain_extend_loop _]
    show wpAny _ A.in1 (pyNext (.ref z) >>= _) _ _ s
    refine wpAny_bind (zip_stop S D1 D2 st fun h' tk hk => ?_)
    exact wpAny_pure (hR H _ ts (I.turnedL (t' := tk) (ch := [z, TI, TO, i1, i2]) (fun b o hb e => hk b o (fun q => hb (by simp [q])) (fun q => hb (by simp [q])) (fun q => hb (by simp [q])) (fun q => hb (by simp [q])) e) hfp) (fun _ _ _ e => e) hL hlen hp)
  | succ k ih =>
    intro i s H ts hk hi I hL hlen st hfp hp hR
    have hlt : i < n := by omega
    obtain ⟨its, m, rv, ho, hzz⟩ := I.lst hL
    have hLs : L < s.heap.objs.size := Heap.lt_size ho
    refine codeAny_builtin F.entry_extend_loop ?_
    rw [Around.under_plainId F.plain_extend_loop _]
    show wpAny _ A.in1 (pyNext (.ref z) >>= _) _ _ s
    refine wpAny_bind (zip_next S D1 D2 hLs st hlt fun x1 x2 h' tk p1 p2 st' hT hk' => ?_)
    obtain ⟨x, ex, rx⟩ := r1 _ _ p1
    obtain ⟨y, ey, ry⟩ := r2 _ _ p2
    have I1 : Inv X pins σ (upd H s.heap.objs.size (.tup [x, y])) { s with heap := h', toks := tk } :=
      I.turnedNew (t' := tk) (ch := [z, TI, TO, i1, i2]) (fun b o hb e => hk' b o (fun q => hb (by simp [q])) (fun q => hb (by simp [q])) (fun q => hb (by simp [q])) (fun q => hb (by simp [q])) e) hfp (Nat.le_refl _)
        ⟨by show 2 ≤ sizeLine; decide, [x1, x2], .cons rx (.cons ry .nil), ⟨_, hT, rfl, _, rfl⟩⟩
    have hTL : L ≠ s.heap.objs.size := Nat.ne_of_lt hLs
    have hL1 : (upd H s.heap.objs.size (.tup [x, y])) L = some (.lst (ts.map V.ref)) := by rw [upd_ne hTL]; exact hL
    have hT1 := @upd_same H s.heap.objs.size (.tup [x, y])
    have hf := I.hok.fresh (Nat.le_refl s.heap.objs.size)
    obtain ⟨its1, m1, rv1, ho1, hz1⟩ := I1.lst hL1
    have hl1 := rv1.length
    rw [List.length_map, hlen] at hl1
    show wpAny _ A.in1 (updateSeq L (·.push (.ref s.heap.objs.size)) >>= _) _ _ _
    refine wpAny_bind ?_
    have I2 := I1.lset (t' := tk) (ys := (ts ++ [s.heap.objs.size]).map V.ref) (its' := its1 ++ [.ref s.heap.objs.size]) (f := fun a => a.push (.ref s.heap.objs.size)) hL1 ho1 (by simp) (by rw [List.map_append]; exact rv1.append (.cons rfl .nil)) (by rw [List.length_map, List.length_append, hlen]; show i + 1 ≤ sizeLine; omega)
    have hb : ∀ b ∈ [z, TI, TO, i1, i2], b ≠ s.heap.objs.size ∧ b ≠ L := fun b hb => ⟨Nat.ne_of_lt (Nat.lt_trans (hch b hb) hLs), Nat.ne_of_lt (hch b hb)⟩
    refine wpAny_updateSeq ho1 rfl (wpAny_pure ⟨plainId_quiet F.plain_extend_loop _, ih (i + 1) _ _ (ts ++ [s.heap.objs.size]) (by omega) hlt I2 upd_same (by rw [List.length_append, hlen]; rfl) (ZSt.upd D1 D2 st' h1 h2 zL tiL toL) (fun b hb' => ?_) (fun j t ht => ?_) fun H' s' ts' I' hk2 a1 a2 a3 => ?_⟩)
      (by rw [List.size_toArray]; omega) (by show (its1.toArray.push _).size ≤ sizeLine + 1; rw [Array.size_push, List.size_toArray]; omega)
    · obtain ⟨c1, c2⟩ := hfp b hb'
      refine ⟨?_, c2⟩
      rw [upd_ne (hb b hb').2, upd_ne (hb b hb').1]
      exact c1
    · by_cases hj : j < ts.length
      · rw [List.getElem?_append_left hj] at ht
        obtain ⟨x', y', e1, e2, e3⟩ := hp j t ht
        refine ⟨x', y', e1, e2, ?_⟩
        rw [upd_ne (fun q => by rw [q, hL] at e3; cases e3), upd_ne (ne_of_none e3 hf)]
        exact e3
      · rw [List.getElem?_append_right (by omega)] at ht
        have hj2 : j - ts.length = 0 := by
          by_cases q : j - ts.length = 0
          · exact q
          · rw [List.getElem?_eq_none (by rw [List.length_singleton]; omega)] at ht
            cases ht
        have hji : j = i := by omega
        subst hji
        rw [hj2] at ht
        cases (Option.some.inj ht)
        refine ⟨x, y, ex, ey, ?_⟩
        rw [upd_ne (Ne.symm hTL)]
        exact hT1
    · refine hR H' s' ts' I' (fun b o hbL e => hk2 b o hbL ?_) a1 a2 a3
      rw [upd_ne hbL, upd_ne (ne_of_none e hf)]
      exact e
theorem call_list {E : Value → Shared → Prop} {Q : VK} {s : Shared} {H : Hp} (hc : X.calm = true) (S : ZipSep2 z TI TO i1 i2 fp1 fp2) (D1 : Draws X.prog X.w X.A.in1.in1.in1 i1 fp1 n P1 St1) (D2 : Draws X.prog X.w X.A.in1.in1.in1 i2 fp2 n P2 St2) (hlt1 : ∀ b ∈ fp1, b < s.heap.objs.size) (hlt2 : ∀ b ∈ fp2, b < s.heap.objs.size)
    (hch : ∀ b ∈ [z, TI, TO, i1, i2], b < s.heap.objs.size) {xs ys : List V} (r1 : ∀ j v, P1 j v → ∃ x, xs[j]? = some x ∧ RelV x v) (r2 : ∀ j v, P2 j v → ∃ y, ys[j]? = some y ∧ RelV y v) (hn : n ≤ sizeLine)
    (I : Inv X pins σ H s) (st : ∀ L, L = s.heap.objs.size → ZSt z TI TO i1 i2 St1 St2 L 0 s.heap) (hfp : ∀ b ∈ [z, TI, TO, i1, i2], FpOk X pins H b)
    (q : ∀ H' p ts, L2.Same H H' → H' p = some (.lst (ts.map V.ref)) → ts.length = n → Prs H' xs ys ts → Q (.ref p) H') :
    wpAny (model X.prog X.w) X.A (call (.type "list") [.ref z]) (EP X pins σ Q) E s := by
  have hf := I.hok.fresh (Nat.le_refl s.heap.objs.size)
  generalize hLe : s.heap.objs.size = L at *
  have h1 : L ∉ fp1 := fun m => Nat.lt_irrefl _ (hlt1 _ m)
  have h2 : L ∉ fp2 := fun m => Nat.lt_irrefl _ (hlt2 _ m)
  have zL : z ≠ L := Nat.ne_of_lt (hch z (by simp))
  have tiL : TI ≠ L := Nat.ne_of_lt (hch TI (by simp))
  have toL : TO ≠ L := Nat.ne_of_lt (hch TO (by simp))
  have st0 := st L rfl
  refine callType_codes (Q₁ := fun obj s₁ => obj = .ref L ∧ s₁ = { s with heap := s.heap.push { cls := .type "list", data := .seq #[] } }) F.called_list (F.typeCall_list_1 _) F.entry_list_init
    (code_list_new _ ⟨by rw [hLe], rfl⟩) fun obj s₁ h₁ => ?_
  obtain ⟨rfl, rfl⟩ := h₁
  have hS : (s.heap.push { cls := .type "list", data := .seq #[] }).get? L = some { cls := .type "list", data := .seq #[] } := by rw [← hLe]; exact Heap.get?_push_size _ rfl
  have kp : ∀ b o, s.heap.get? b = some o → (s.heap.push { cls := .type "list", data := .seq #[] }).get? b = some o := fun b o e => Heap.get?_push_of_some _ e
  have I1 : Inv X pins σ (upd H L (.lst [])) { s with heap := s.heap.push { cls := .type "list", data := .seq #[] } } :=
    I.laid (t' := s.toks) kp (by rw [hLe]; exact Nat.le_refl _) (show ObjOk X.prog X.w _ _ _ (.lst []) from ⟨Nat.zero_le _, [], 0, .nil, hS⟩)
  have st1 : ZSt z TI TO i1 i2 St1 St2 L 0 (s.heap.push { cls := .type "list", data := .seq #[] }) := by
    obtain ⟨a1, a2, a3, a4⟩ := st0
    refine ⟨kp _ _ a1, D1.frame _ _ _ a2 fun b _ o e => kp b o e, D2.frame _ _ _ a3 fun b _ o e => kp b o e, ?_⟩
    rcases a4 with ⟨b1, x, y, b2⟩ | ⟨T, f, oT, b1, b2, b3, b4, b5, b6⟩
    · exact .inl ⟨kp _ _ b1, x, y, kp _ _ b2⟩
    · exact .inr ⟨T, f, oT, kp _ _ b1, kp _ _ b2, b3, b4, b5, b6⟩
  refine ⟨⟨_, hS, rfl⟩, F.args_list_init_2 _ _, ?_⟩
  show wpAny _ _ (do let old ← Builtin.List.listItems (.ref L); Builtin.List.listUpdate (.ref L) (fun _ => #[]); letGo old.toList.reverse; Builtin.List.listExtendWith (.ref L) (.ref z) .none) _ _ _
  refine wpAny_bind ?_
  unfold Builtin.List.listItems
  refine wpAny_bind (wpAny_seqItems hS rfl (wpAny_pure ?_))
  show wpAny _ _ (updateSeq L (fun _ => #[]) >>= fun _ => letGo (#[] : Array Value).toList.reverse >>= fun _ => Builtin.List.listExtendWith (.ref L) (.ref z) .none) _ _ _
  have I2 := I1.lset (t' := s.toks) (its := []) (its' := []) (ys := []) (f := fun _ => #[]) upd_same hS rfl .nil (Nat.zero_le _)
  have st2 := ZSt.upd (g := Obj.mapSeq (fun _ => (#[] : Array Value))) D1 D2 st1 h1 h2 zL tiL toL
  refine wpAny_bind (wpAny_updateSeq hS rfl ?_)
  have hS2 := PySem.IsL.update hS (fun _ => (#[] : Array Value))
  refine wpAny_bind (wpAny_letGo ?_)
  generalize (s.heap.push { cls := .type "list", data := .seq #[] }).update L (Obj.mapSeq (fun _ => (#[] : Array Value))) = g2 at *
  unfold Builtin.List.listExtendWith
  refine wpAny_bind (wpAny_typeOf (T := "zip") (ZSt.type (s := { s with heap := g2 }) st2) ?_)
  have e1 : Builtin.List.listSameRef (.ref L) (.ref z) = false := by simp [Builtin.List.listSameRef, Ne.symm zL]
  have e2 : (Value.type "zip" == Value.type "list") = false := by decide
  have e3 : (Value.type "zip" == Value.type "tuple") = false := by decide
  simp only [e1, e2, e3, Bool.or_false, Bool.false_eq_true, if_false]
  have hit : ∀ {A : Around} {E : Value → Shared → Prop} {Q : Value → Shared → Prop}, Q (.ref z) { s with heap := g2 } → wpAny (model X.prog X.w) A (pyIter (.ref z)) Q E { s with heap := g2 } := fun h => by
    have hT := ZSt.type (s := { s with heap := g2 }) st2
    refine wpAny_pyIter_slot hT F.slot_zip_iter (wpAny_call_entry F.slot_zip_iter hT F.entry_zip_iter ?_ (F.args_zip_iter_1 _))
    show wpAny _ _ (ret (.ref z)) _ _ _
    exact wpAny_pure ⟨_, rfl, "zip", _, hT, F.slot_zip_next.lookup, h⟩
  refine wpAny_bind (hit ?_)
  refine wpAny_bind (wpAny_holding (zip_hint (ZSt.type (s := { s with heap := g2 }) st2) ?_))
  simp only [Bool.true_or, if_true]
  refine wpAny_bind (wpAny_rule ?_)
  refine wpAny_bind ?_
  show wpAny _ _ (updateSeq L (·.push .none) >>= fun _ => updateSeq L (·.pop)) _ _ _
  have I3 := I2.lset (t' := s.toks) (its := []) (its' := [.none]) (ys := [.non]) (f := fun a => a.push .none) upd_same hS2 rfl (.cons rfl .nil) (by show 1 ≤ sizeLine; decide)
  have st3 := ZSt.upd (g := Obj.mapSeq (fun a => a.push .none)) D1 D2 st2 h1 h2 zL tiL toL
  have hS3 := PySem.IsL.update hS2 (fun a => a.push .none)
  refine wpAny_bind (wpAny_updateSeq hS2 rfl ?_)
  have I4 := I3.lset (t' := s.toks) (its := [.none]) (its' := []) (ys := []) (f := fun a => a.pop) upd_same hS3 rfl .nil (Nat.zero_le _)
  have st4 := ZSt.upd (g := Obj.mapSeq (fun a => a.pop)) D1 D2 st3 h1 h2 zL tiL toL
  refine wpAny_updateSeq (hz := by seq_fits) hS3 rfl ?_
  refine wpAny_pure ⟨plainId_quiet F.plain_extend_loop _, loop (A := X.A.in1) S D1 D2 h1 h2 hch r1 r2 hn .none n 0 _ _ [] rfl (Nat.zero_le _) I4 upd_same rfl st4 (fun b hb => ?_) (fun j t ht => by cases ht) fun H' s' ts' I' hk a1 a2 a3 => ?_⟩
  · obtain ⟨c1, c2⟩ := hfp b hb
    refine ⟨?_, c2⟩
    have hbL : b ≠ L := Nat.ne_of_lt (hch b hb)
    rw [upd_ne hbL, upd_ne hbL, upd_ne hbL, upd_ne hbL]
    exact c1
  · refine ⟨rfl, .ref L, H', I', rfl, q H' L ts' (fun b o e => ?_) a1 a2 a3⟩
    have hbL := ne_of_none e hf
    refine hk b o hbL ?_
    rw [upd_ne hbL, upd_ne hbL, upd_ne hbL, upd_ne hbL]
    exact e
end
section
variable {X : Cx}
theorem rel_at {xs : List V} {us : List Value} (r : Vals xs us) {j : Nat} {v : Value} (e : us.toArray[j]? = some v) : ∃ x, xs[j]? = some x ∧ RelV x v := by
  have e' : us[j]? = some v := by simpa using e
  have hl := r.length
  have hj : j < xs.length := by
    have := (List.getElem?_eq_some_iff.mp e').1
    omega
  obtain ⟨u, hu, ru⟩ := r.get (List.getElem?_eq_getElem hj)
  rw [e'] at hu
  cases hu
  exact ⟨_, List.getElem?_eq_getElem hj, ru⟩
def tLZ (K : PySem.W.Frag) (ta : TA) : TE := fun σ H Q => ta σ H fun vs H1 => ∃ a b xs ys, vs = [.ref a, .ref b] ∧ ((SqL K H1 a xs ∧ SqL K H1 b ys) ∨ (SqT K H1 a xs ∧ SqT K H1 b ys)) ∧ xs.length = ys.length ∧ xs.length ≤ sizeLine ∧
  ∀ H' p ts, L2.Same H1 H' → H' p = some (.lst (ts.map V.ref)) → ts.length = xs.length → Prs H' xs ys ts → Q (.ref p) H'
theorem pe_listzip {e e2 : Expr} {ta : TA} {p p2 pos pos2 : Pos} (hc : X.calm = true) (hgl : Gl X "list") (hml : X.mg "list" = none) (hg : Gl X "zip") (hm : X.mg "zip" = none) (ha : PA X [e, e2] ta)
    (hs : starEach [e, e2] X.env = (false, eval e X.env) :: starEach [e2] X.env := by rfl) (hpl : (backTo pos2 (starEach [e2] X.env)).any (·.1) = false := by rfl)
    (hs2 : starEach [Expr.Call (.Name "zip" p2) [e, e2] [] pos2] X.env = (false, eval (.Call (.Name "zip" p2) [e, e2] [] pos2) X.env) :: starEach [] X.env := by rfl) (hpl2 : (backTo pos (starEach [] X.env)).any (·.1) = false := by rfl) :
    PE X (.Call (.Name "list" p) [.Call (.Name "zip" p2) [e, e2] [] pos2] [] pos) (tLZ X.K ta) := by
  refine ⟨fun pins s σ H Q I h => ?_⟩
  refine wpAny_Call_Name_kw (ld_blt I hgl hml (by rfl) (PyProof.Rows.callWith_type1 ?_ hs2 hpl2))
  show wpAny _ _ (spliced ((false, eval (.Call (.Name "zip" p2) [e, e2] [] pos2) X.env) :: backTo pos (starEach [] X.env))) _ _ s
  refine Calls.spliced_cons ?_
  refine Call_ (ld_blt I hg hm PyProof.Rows.boot_zip (PyProof.Rows.callWith_type1 (thn (ha.run pos2 pins s σ H _ I h) fun us s1 ⟨vs, H1, I1, r1, q1⟩ => ?_) hs hpl))
  obtain ⟨a, b, xs, ys, rfl, hab, hlen, hn, q⟩ := q1
  cases r1 with
  | cons r rr =>
  cases rr with
  | cons r' rr =>
  cases rr
  cases r
  cases r'
  have hh := I1.ok.hd hc
  have fresh5 : ∀ c, c ∈ [s1.heap.objs.size + 4, s1.heap.objs.size + 2, s1.heap.objs.size + 3, s1.heap.objs.size, s1.heap.objs.size + 1] → FpOk X pins H1 c := fun c hcm => by
    have e' : c = s1.heap.objs.size + 4 ∨ c = s1.heap.objs.size + 2 ∨ c = s1.heap.objs.size + 3 ∨ c = s1.heap.objs.size ∨ c = s1.heap.objs.size + 1 := by simpa using hcm
    have hle : s1.heap.objs.size ≤ c := by
      rcases e' with z | z | z | z | z <;> (rw [z]; first | exact Nat.le_add_right _ _ | exact Nat.le_refl _)
    exact I1.fpOk hle (I1.hok.fresh hle)
  have ch : ∀ c, c ∈ [s1.heap.objs.size + 4, s1.heap.objs.size + 2, s1.heap.objs.size + 3, s1.heap.objs.size, s1.heap.objs.size + 1] → c < s1.heap.objs.size + 5 := fun c hcm => by
    have e' : c = s1.heap.objs.size + 4 ∨ c = s1.heap.objs.size + 2 ∨ c = s1.heap.objs.size + 3 ∨ c = s1.heap.objs.size ∨ c = s1.heap.objs.size + 1 := by simpa using hcm
    rcases e' with z | z | z | z | z <;> rw [z] <;> omega
  have one : ∀ (c N : Nat) (l : List Addr), c < N → (∀ b ∈ l, b < N) → ∀ b ∈ c :: l, b < N := fun c N l h1 h2 b hb => by
    rcases List.mem_cons.mp hb with e | e
    · rw [e]; exact h1
    · exact h2 b e
  have nil : ∀ N : Nat, ∀ b ∈ ([] : List Addr), b < N := fun N b hb => by cases hb
  rcases hab with ⟨hqa, hqb⟩ | ⟨hqa, hqb⟩
  · obtain ⟨its, rv, p1, _⟩ := I1.list hqa
    obtain ⟨its2, rv2, p2', _⟩ := I1.list hqb
    have la : a < s1.heap.objs.size := p1.lt
    have lb : b < s1.heap.objs.size := p2'.lt
    have l1 := rv.length
    have l2 := rv2.length
    have D1 := Draws.list (prog := X.prog) (w := X.w) (A := X.A.in1.in1.in1) hh s1.heap.objs.size a (Nat.ne_of_lt la) its.toArray
    have D2 := Draws.list (prog := X.prog) (w := X.w) (A := X.A.in1.in1.in1) hh (s1.heap.objs.size + 1) b (Nat.ne_of_lt (Nat.lt_succ_of_lt lb)) its2.toArray
    rw [show its.toArray.size = xs.length by rw [List.size_toArray, l1]] at D1
    rw [show its2.toArray.size = xs.length by rw [List.size_toArray, hlen, l2]] at D2
    refine call_zip_2 p1.isList p2'.isList fun h' hz hTI hTO h1 h2 hsz hk => Calls.spliced_nil ?_
    have I2 : Inv X pins σ H1 { s1 with heap := h' } := I1.kept (t' := s1.toks) hk
    refine call_list hc (zip_sep2 (fp1 := [a]) (fp2 := [b]) (one _ _ _ la (nil _)) (one _ _ _ lb (nil _))) D1 D2 ?_ ?_ ?_ (fun j v e => ?_) (fun j v e => ?_) hn I2 (fun L hL => ⟨hTI, ⟨h1, p1.isList.at fun o e => hk _ o e⟩, ⟨h2, p2'.isList.at fun o e => hk _ o e⟩, .inl ⟨hz, _, _, hTO⟩⟩) fresh5 q
    · exact one _ _ _ (by rw [hsz]; omega) (one _ _ _ (by rw [hsz]; exact Nat.lt_of_lt_of_le la (Nat.le_add_right _ 5)) (nil _))
    · exact one _ _ _ (by rw [hsz]; omega) (one _ _ _ (by rw [hsz]; exact Nat.lt_of_lt_of_le lb (Nat.le_add_right _ 5)) (nil _))
    · rw [hsz]; exact ch
    · exact rel_at rv e
    · exact rel_at rv2 e
  · obtain ⟨its, rv, p1, _⟩ := I1.tuple hqa
    obtain ⟨its2, rv2, p2', _⟩ := I1.tuple hqb
    have la : a < s1.heap.objs.size := by
      obtain ⟨o1, ho1, _⟩ := id p1
      exact Heap.lt_size ho1
    have lb : b < s1.heap.objs.size := by
      obtain ⟨o1, ho1, _⟩ := id p2'
      exact Heap.lt_size ho1
    have l1 := rv.length
    have l2 := rv2.length
    have D1 := Draws.tuple (prog := X.prog) (w := X.w) (A := X.A.in1.in1.in1) hh s1.heap.objs.size a (Nat.ne_of_lt la) its.toArray
    have D2 := Draws.tuple (prog := X.prog) (w := X.w) (A := X.A.in1.in1.in1) hh (s1.heap.objs.size + 1) b (Nat.ne_of_lt (Nat.lt_succ_of_lt lb)) its2.toArray
    rw [show its.toArray.size = xs.length by rw [List.size_toArray, l1]] at D1
    rw [show its2.toArray.size = xs.length by rw [List.size_toArray, hlen, l2]] at D2
    refine RZ.call_zipT (show s1.heap.IsTuple a its.toArray from p1) (show s1.heap.IsTuple b its2.toArray from p2') fun h' hz hTI hTO h1 h2 hsz hk => Calls.spliced_nil ?_
    have I2 : Inv X pins σ H1 { s1 with heap := h' } := I1.kept (t' := s1.toks) hk
    have q1 : h'.IsTuple a its.toArray := Heap.IsTuple.at p1 fun o e => hk _ o e
    have q2 : h'.IsTuple b its2.toArray := Heap.IsTuple.at p2' fun o e => hk _ o e
    refine call_list hc (zip_sep2 (fp1 := [a]) (fp2 := [b]) (one _ _ _ la (nil _)) (one _ _ _ lb (nil _))) D1 D2 ?_ ?_ ?_ (fun j v e => ?_) (fun j v e => ?_) hn I2 (fun L hL => ⟨hTI, ⟨h1, q1⟩, ⟨h2, q2⟩, .inl ⟨hz, _, _, hTO⟩⟩) fresh5 q
    · exact one _ _ _ (by rw [hsz]; omega) (one _ _ _ (by rw [hsz]; exact Nat.lt_of_lt_of_le la (Nat.le_add_right _ 5)) (nil _))
    · exact one _ _ _ (by rw [hsz]; omega) (one _ _ _ (by rw [hsz]; exact Nat.lt_of_lt_of_le lb (Nat.le_add_right _ 5)) (nil _))
    · rw [hsz]; exact ch
    · exact rel_at rv e
    · exact rel_at rv2 e
end
end NetZ
namespace Net
open PySem PySem.Spec PyProof.Rows L2 NetR
mutual
def nodic : PyData → Bool
  | .dict _ => false
  | .list ds => nodics ds
  | .tuple ds => nodics ds
  | _ => true
def nodics : List PyData → Bool
  | [] => true
  | d :: ds => nodic d && nodics ds
end
theorem nodics_app : ∀ ds es : List PyData, nodics (ds ++ es) = (nodics ds && nodics es)
  | [], es => by rw [List.nil_append, nodics, Bool.true_and]
  | d :: ds, es => by rw [List.cons_append, nodics, nodics, nodics_app ds es, Bool.and_assoc]
def sp_alike : Sp := fun vs H Q E => ∃ v u d, vs = [v, u] ∧ Rp H v d ∧ Rp H u d ∧ nodic d = true ∧ dsz d ≤ 1000000 ∧ ∀ H', Same H H' → Q (.bl true) H'
inductive Pr2 (H0 H : Hp) : List V → List PyData → Prop
  | nil : Pr2 H0 H [] []
  | cons {t : Addr} {x y : V} {d : PyData} {ts : List V} {ds : List PyData} : H t = some (.tup [x, y]) → Rp H0 x d → Rp H0 y d → nodic d = true → Pr2 H0 H ts ds → Pr2 H0 H (.ref t :: ts) (d :: ds)
theorem Pr2.tk {H0 H H' : Hp} {vs : List V} {ds : List PyData} (h : Pr2 H0 H vs ds) (s : TK H H') : Pr2 H0 H' vs ds := by
  induction h with
  | nil => exact .nil
  | cons a b c d e ih => exact .cons (s _ _ a) b c d ih
theorem Pr2.app {H0 H : Hp} {vs us : List V} {ds es : List PyData} (h : Pr2 H0 H vs ds) (g : Pr2 H0 H us es) : Pr2 H0 H (vs ++ us) (ds ++ es) := by
  induction h with
  | nil => exact g
  | cons a b c d e ih => exact .cons a b c d ih
theorem Pr2.len {H0 H : Hp} {vs : List V} {ds : List PyData} (h : Pr2 H0 H vs ds) : vs.length = ds.length := by
  induction h with
  | nil => rfl
  | cons a b c d e ih => rw [List.length_cons, List.length_cons, ih]
theorem pr2_of {H0 H : Hp} : ∀ {cs : List PyData} {xs ys : List V} {zs : List Addr}, RpA H0 xs cs → RpA H0 ys cs → nodics cs = true → NetZ.Prs H xs ys zs → zs.length = cs.length → Pr2 H0 H (zs.map V.ref) cs
  | [], _, _, zs, _, _, _, _, hl => by
    cases zs with
    | nil => exact .nil
    | cons _ _ => cases hl
  | c :: cs, _, _, zs, h1, h2, hn, hp, hl => by
    cases h1 with
    | cons a1 b1 =>
      cases h2 with
      | cons a2 b2 =>
        cases zs with
        | nil => cases hl
        | cons z zs =>
          rw [nodics, Bool.and_eq_true] at hn
          obtain ⟨x, y, e1, e2, e3⟩ := hp 0 z rfl
          cases (Option.some.inj e1)
          cases (Option.some.inj e2)
          exact .cons e3 a1 a2 hn.1 (pr2_of b1 b2 hn.2 (fun j t ht => hp (j + 1) t ht) (by simpa using hl))
def WAl (H0 : Hp) (v u : V) (d : PyData) : Nat → L2.St → Hp → Prop := fun m σ H1 => ∃ (p : Addr) (i : Nat) (a b : Option V) (pre ts : List V) (ds : List PyData), σ = [some v, some u, some (.ref p), some (.int i), a, b] ∧ Same H0 H1 ∧ H0 p = none ∧ H1 p = some (.lst (pre ++ ts)) ∧ pre.length = i ∧ Pr2 H0 H1 ts ds ∧ i + dszs ds ≤ dsz d ∧ m = dszs ds
section
variable {P : Program} {w : World} {K : PySem.W.Frag} {mg : Str → Option Value} {base : Heap}
abbrev s__law_alike : Stmt := top 41
theorem sc__law_alike : FnScope ["found", "due", "pairs", "at", "one", "other"] ["found", "due"] (defScope s__law_alike) := ⟨rfl, rfl, rfl, by decide +kernel, rfl, by decide +kernel, by decide +kernel⟩
theorem ok_alike {f : Addr} {fd : FuncData} (F : Fun K "_law_alike" "_law_alike" s__law_alike f fd) (T : Tx mg) : FnOk P w K mg base CX0 1 f fd ["found", "due"] sp_alike := by
  refine F.ok sc__law_alike (fun vs H Q E h => ?_) (fun cdv A outer s H vs Q E hr h => ?_)
  · obtain ⟨v, u, d, rfl, _⟩ := h
    rfl
  · obtain ⟨v, u, d, rfl, hv, hu, hnd, hsz, q⟩ := h
    refine ⟨_, (pss_cons (ps_par (i := 2) (j := 3) (by rfl) sc__law_alike.nd rfl rfl (by decide) rfl rfl (pa_cons (pe_lst (pa_cons (pe_tup (pa_cons (pv 0) (pa_cons (pv 1) pa_nil))) pa_nil)) (pa_cons pe_int pa_nil)) (by rfl))
      (pss_cons (ps_while PassesOwn.never (pt_cmpR op_lt (pv 3) (pe_callB call_len (by rfl) T.n_len (by decide +kernel) (pa_cons (pv 2) pa_nil)) (nomark _)) (pss_cons (ps_asg (pe_ix ix_list (pv 2) (pv 3) (fun _ _ => rfl)) (pg_tup rfl (pgs_cons (pg_name (i := 4) sc__law_alike.nd rfl (Or.inl rfl)) (pgs_cons (pg_name (i := 5) sc__law_alike.nd rfl (Or.inl rfl)) pgs_nil))))
      (pss_cons (ps_aug (i := 3) sc__law_alike.nd rfl (.inl rfl) pe_int ip_add)
      (pss_cons (ps_if (PW.pt (pw_or (pt_cmpR op_ne (pe_callB call_isi (by rfl) T.n_isinstance (by decide +kernel) (pa_cons (pv 4) (pa_cons (pe_bltn (v := .ty "bool") (by rfl) T.n_bool (by decide +kernel) rfl) pa_nil))) (pe_callB call_isi (by rfl) T.n_isinstance (by decide +kernel) (pa_cons (pv 5) (pa_cons (pe_bltn (v := .ty "bool") (by rfl) T.n_bool (by decide +kernel) rfl) pa_nil))) (nomark _)) (pw_or1 (pt_cmpR op_ne (pe_callB call_isi (by rfl) T.n_isinstance (by decide +kernel) (pa_cons (pv 4) (pa_cons (pe_bltn (v := .ty "str") (by rfl) T.n_str (by decide +kernel) rfl) pa_nil))) (pe_callB call_isi (by rfl) T.n_isinstance (by decide +kernel) (pa_cons (pv 5) (pa_cons (pe_bltn (v := .ty "str") (by rfl) T.n_str (by decide +kernel) rfl) pa_nil))) (nomark _))))) (pss_one (ps_ret pe_bl)) pss_nil)
      (pss_cons (ps_if (pt_cmpR op_ne (pe_callB call_isiT (by rfl) T.n_isinstance (by decide +kernel) (pa_cons (pv 4) (pa_cons (pe_tup (pa_cons (pe_bltn (v := .ty "tuple") (by rfl) T.n_tuple (by decide +kernel) rfl) (pa_cons (pe_bltn (v := .ty "list") (by rfl) T.n_list (by decide +kernel) rfl) pa_nil))) pa_nil))) (pe_callB call_isiT (by rfl) T.n_isinstance (by decide +kernel) (pa_cons (pv 5) (pa_cons (pe_tup (pa_cons (pe_bltn (v := .ty "tuple") (by rfl) T.n_tuple (by decide +kernel) rfl) (pa_cons (pe_bltn (v := .ty "list") (by rfl) T.n_list (by decide +kernel) rfl) pa_nil))) pa_nil))) (nomark _)) (pss_one (ps_ret pe_bl)) pss_nil)
      (pss_one (ps_if (pt_val (pe_callB call_isiT (by rfl) T.n_isinstance (by decide +kernel) (pa_cons (pv 4) (pa_cons (pe_tup (pa_cons (pe_bltn (v := .ty "tuple") (by rfl) T.n_tuple (by decide +kernel) rfl) (pa_cons (pe_bltn (v := .ty "list") (by rfl) T.n_list (by decide +kernel) rfl) pa_nil))) pa_nil)))) (pss_cons (ps_if (PW.pt (pw_or (pt_cmpR op_ne (pe_callB call_isi (by rfl) T.n_isinstance (by decide +kernel) (pa_cons (pv 4) (pa_cons (pe_bltn (v := .ty "tuple") (by rfl) T.n_tuple (by decide +kernel) rfl) pa_nil))) (pe_callB call_isi (by rfl) T.n_isinstance (by decide +kernel) (pa_cons (pv 5) (pa_cons (pe_bltn (v := .ty "tuple") (by rfl) T.n_tuple (by decide +kernel) rfl) pa_nil))) (nomark _)) (pw_or1 (pt_cmpR op_ne (pe_callB call_len (by rfl) T.n_len (by decide +kernel) (pa_cons (pv 4) pa_nil)) (pe_callB call_len (by rfl) T.n_len (by decide +kernel) (pa_cons (pv 5) pa_nil)) (nomark _))))) (pss_one (ps_ret pe_bl)) pss_nil)
      (pss_one (ps_expr (pe_bm PySem.F.plainAttrs_list PySem.F.slot_list_extend PySem.F.type_list_extend mt_extend (pv 2) (pa_cons (NetZ.pe_listzip rfl (by rfl) T.n_list (by rfl) T.n_zip (pa_cons (pv 4) (pa_cons (pv 5) pa_nil))) pa_nil))))) (pss_one (ps_if (pt_cmpR op_ne (pv 4) (pv 5) (nomark _)) (pss_one (ps_ret pe_bl)) pss_nil)))))))))
      (pss_one (ps_ret pe_bl)))), ?_⟩
    have hbig := sl_big
    refine ⟨_, rfl, _, rfl, (by show 2 ≤ sizeLine; omega), fun t ht => ⟨(by show 1 ≤ sizeLine; omega), fun p hp => ⟨_, _, rfl, ?_⟩⟩⟩
    have s1 : Same H (upd H t (.tup [v, u])) := same_upd ht
    have np : H p = none := s1.free hp
    have htp : t ≠ p := fun e => by
      rw [e, upd_same] at hp
      cases hp
    refine ⟨WAl H v u d, ⟨_, ⟨p, 0, none, none, [], [.ref t], [d], rfl, Same.own s1 np, np, upd_same, rfl, .cons (by rw [upd_ne htp]; exact upd_same) hv hu hnd .nil, by show 0 + (dsz d + 0) ≤ dsz d; omega, rfl⟩⟩, ?_⟩
    rintro m σ1 H1 ⟨p, i, a, b, pre, ts, ds, rfl, sm, np, hL, hi, hP, hm, rfl⟩
    have hts := hP.len
    refine ⟨_, rfl, _, rfl, _, _, rfl, .inl ⟨_, SqL.of hL, rfl⟩, _, _, rfl, rfl, _, rfl, ?_⟩
    cases hP with
    | nil =>
      rw [show decide ((i : Int) < ((pre ++ ([] : List V)).length : Int)) = false by rw [List.append_nil, hi]; exact decide_eq_false (by omega)]
      exact iteF (q _ sm)
    | @cons t x y d' ts' ds' ht1 hx hy hnd' hP' =>
      have hts' := hP'.len
      rw [show decide ((i : Int) < ((pre ++ V.ref t :: ts').length : Int)) = true by rw [List.length_append, List.length_cons]; exact decide_eq_true (by omega)]
      refine iteT ⟨fun σ' H' => ∃ m', m' < dszs (d' :: ds') ∧ WAl H v u d m' σ' H', fun _ _ h => h, ?_⟩
      have hm2 : i + (dsz d' + dszs ds') ≤ dsz d := hm
      have hpos := dsz_pos d'
      have eg : (pre ++ V.ref t :: ts')[i]? = some (.ref t) := by
        rw [List.getElem?_append_right (by omega), hi, Nat.sub_self]
        rfl
      refine ⟨_, rfl, _, rfl, p, _, _, _, rfl, rfl, SqL.of hL, atI_nat eg, t, _, rfl, .inl (.inl ht1), rfl, _, _, rfl, _, _, rfl, rfl, ?_⟩
      have hx2 := hx.same sm
      have hy2 := hy.same sm
      have ns : ∀ x : V, (!decide (x = x)) = false := fun x => by simp
      refine ⟨_, rfl, _, _, rfl, rfl, x, rfl, x, .ty "bool", _, _, _, rfl, .ty _, hx2.ty, kit_bool d', y, rfl, y, .ty "bool", _, _, _, rfl, .ty _, hy2.ty, kit_bool d', rfl, _, rfl, ?_⟩
      rw [ns]
      refine iteF ⟨x, rfl, x, .ty "str", _, _, _, rfl, .ty _, hx2.ty, kit_str d', y, rfl, y, .ty "str", _, _, _, rfl, .ty _, hy2.ty, kit_str d', rfl, _, rfl, ?_⟩
      rw [ns]
      refine iteF ⟨x, rfl, (by show 2 ≤ sizeLine; omega), fun q1 hq1 => ⟨x, q1, _, _, _, _, rfl, upd_same, cls_tl, (hx2.same (same_upd hq1)).ty, kit_tl d', y, rfl, (by show 2 ≤ sizeLine; omega), fun q2 hq2 => ⟨y, q2, _, _, _, _, rfl, upd_same, cls_tl, ((hy2.same (same_upd hq1)).same (same_upd hq2)).ty, kit_tl d', rfl, _, rfl, ?_⟩⟩⟩
      rw [ns]
      have s5 := (same_upd (o := .tup [.ty "tuple", .ty "list"]) hq1).trans (same_upd (o := .tup [.ty "tuple", .ty "list"]) hq2)
      generalize upd (upd H1 q1 (.tup [.ty "tuple", .ty "list"])) q2 (.tup [.ty "tuple", .ty "list"]) = H2 at s5
      refine iteF ⟨x, rfl, (by show 2 ≤ sizeLine; omega), fun q3 hq3 => ⟨x, q3, _, _, _, _, rfl, upd_same, cls_tl, ((hx2.same s5).same (same_upd hq3)).ty, kit_tl d', _, rfl, ?_⟩⟩
      replace s5 := s5.trans (same_upd (o := .tup [.ty "tuple", .ty "list"]) hq3)
      generalize upd H2 q3 (.tup [.ty "tuple", .ty "list"]) = H3 at s5
      have sm3 := sm.trans s5
      have hL3 := s5 _ _ hL
      have hP3 := hP'.tk (.of s5)
      replace hx2 := hx.same sm3
      replace hy2 := hy.same sm3
      have flat : ∀ (a b : Option V), isTup d' = false → isLst d' = false → x = y → scal x y = true → ∃ m', m' < dszs (d' :: ds') ∧ WAl H v u d m' [some v, some u, some (.ref p), some (.int ((i : Int) + 1)), some x, some y] H3 := fun _ _ _ _ _ _ =>
        ⟨dszs ds', by show dszs ds' < dsz d' + dszs ds'; omega, p, i + 1, _, _, pre ++ [V.ref t], ts', ds', rfl, sm3, np, by rw [List.append_assoc]; exact hL3, by rw [List.length_append, hi]; rfl, hP3, by omega, rfl⟩
      cases d' with
      | tuple cs =>
        obtain ⟨a1, xs1, rfl, ha1, hA1⟩ : ∃ a xs, x = .ref a ∧ H a = some (.tup xs) ∧ RpA H xs cs := by
          cases hx with
          | tup e1 e2 => exact ⟨_, _, rfl, e1, e2⟩
        obtain ⟨a2, xs2, rfl, ha2, hA2⟩ : ∃ a xs, y = .ref a ∧ H a = some (.tup xs) ∧ RpA H xs cs := by
          cases hy with
          | tup e1 e2 => exact ⟨_, _, rfl, e1, e2⟩
        have l1 := hA1.len
        have l2 := hA2.len
        have hcl := dszs_len cs
        have hdl := dszs_len ds'
        have hcs : i + (1 + dszs cs + dszs ds') ≤ dsz d := hm
        have hk' : i + ds'.length + 1 = (pre ++ V.ref t :: ts').length := by
          rw [List.length_append, List.length_cons, hts']
          omega
        have h3a := sm3 _ _ ha1
        have h3b := sm3 _ _ ha2
        refine iteT ⟨_, rfl, .ref a1, .ty "tuple", _, _, _, rfl, .ty _, hx2.ty, kit_tup _, _, rfl, .ref a2, .ty "tuple", _, _, _, rfl, .ty _, hy2.ty, kit_tup _, rfl, _, rfl, ?_⟩
        rw [show (!decide (V.bl (isTup (.tuple cs)) = V.bl (isTup (.tuple cs)))) = false by simp]
        refine iteF ⟨_, rfl, _, _, rfl, .inr ⟨_, .inl (.inl h3a), rfl⟩, _, rfl, _, _, rfl, .inr ⟨_, .inl (.inl h3b), rfl⟩, rfl, _, rfl, ?_⟩
        rw [show (!decide (V.int (xs1.length : Int) = V.int (xs2.length : Int))) = false by rw [l1, l2]; simp]
        refine iteF ⟨_, rfl, .inl ⟨rfl, _, SqL.of hL3⟩, _, rfl, _, rfl, a1, a2, xs1, xs2, rfl, .inr ⟨.inl (.inl h3a), .inl (.inl h3b)⟩, by rw [l1, l2], by omega, fun H4 p4 zs s4 h4 hz4 hp4 => ⟨p, p4, _, _, rfl, rfl, s4 _ _ hL3, h4, ?_, ?_⟩⟩
        · rw [← hk', List.length_map, hz4, l1]
          omega
        refine ⟨dszs (ds' ++ cs), ?_, p, i + 1, _, _, pre ++ [V.ref t], ts' ++ zs.map V.ref, ds' ++ cs, rfl, Same.own (sm3.trans s4) np, np, ?_, ?_, ?_, ?_, rfl⟩
        · rw [dszs_app]
          show dszs ds' + dszs cs < 1 + dszs cs + dszs ds'
          omega
        · rw [upd_same, List.append_assoc, List.append_assoc]
          rfl
        · rw [List.length_append, hi]
          rfl
        · exact ((hP3.tk (.of s4)).app (pr2_of hA1 hA2 hnd' hp4 (by rw [hz4, l1]))).tk (.lst (s4 _ _ hL3))
        · rw [dszs_app]
          omega
      | list cs =>
        obtain ⟨a1, xs1, rfl, ha1, hA1⟩ : ∃ a xs, x = .ref a ∧ H a = some (.lst xs) ∧ RpA H xs cs := by
          cases hx with
          | lst e1 e2 => exact ⟨_, _, rfl, e1, e2⟩
        obtain ⟨a2, xs2, rfl, ha2, hA2⟩ : ∃ a xs, y = .ref a ∧ H a = some (.lst xs) ∧ RpA H xs cs := by
          cases hy with
          | lst e1 e2 => exact ⟨_, _, rfl, e1, e2⟩
        have l1 := hA1.len
        have l2 := hA2.len
        have hcl := dszs_len cs
        have hdl := dszs_len ds'
        have hcs : i + (1 + dszs cs + dszs ds') ≤ dsz d := hm
        have hk' : i + ds'.length + 1 = (pre ++ V.ref t :: ts').length := by
          rw [List.length_append, List.length_cons, hts']
          omega
        have h3a := sm3 _ _ ha1
        have h3b := sm3 _ _ ha2
        refine iteT ⟨_, rfl, .ref a1, .ty "tuple", _, _, _, rfl, .ty _, hx2.ty, kit_tup _, _, rfl, .ref a2, .ty "tuple", _, _, _, rfl, .ty _, hy2.ty, kit_tup _, rfl, _, rfl, ?_⟩
        rw [show (!decide (V.bl (isTup (.list cs)) = V.bl (isTup (.list cs)))) = false by simp]
        refine iteF ⟨_, rfl, _, _, rfl, .inl ⟨_, SqL.of h3a, rfl⟩, _, rfl, _, _, rfl, .inl ⟨_, SqL.of h3b, rfl⟩, rfl, _, rfl, ?_⟩
        rw [show (!decide (V.int (xs1.length : Int) = V.int (xs2.length : Int))) = false by rw [l1, l2]; simp]
        refine iteF ⟨_, rfl, .inl ⟨rfl, _, SqL.of hL3⟩, _, rfl, _, rfl, a1, a2, xs1, xs2, rfl, .inl ⟨SqL.of h3a, SqL.of h3b⟩, by rw [l1, l2], by omega, fun H4 p4 zs s4 h4 hz4 hp4 => ⟨p, p4, _, _, rfl, rfl, s4 _ _ hL3, h4, ?_, ?_⟩⟩
        · rw [← hk', List.length_map, hz4, l1]
          omega
        refine ⟨dszs (ds' ++ cs), ?_, p, i + 1, _, _, pre ++ [V.ref t], ts' ++ zs.map V.ref, ds' ++ cs, rfl, Same.own (sm3.trans s4) np, np, ?_, ?_, ?_, ?_, rfl⟩
        · rw [dszs_app]
          show dszs ds' + dszs cs < 1 + dszs cs + dszs ds'
          omega
        · rw [upd_same, List.append_assoc, List.append_assoc]
          rfl
        · rw [List.length_append, hi]
          rfl
        · exact ((hP3.tk (.of s4)).app (pr2_of hA1 hA2 hnd' hp4 (by rw [hz4, l1]))).tk (.lst (s4 _ _ hL3))
        · rw [dszs_app]
          omega
      | none =>
        cases hx with
        | non =>
        cases hy with
        | non =>
        refine iteF ⟨_, rfl, _, rfl, rfl, _, rfl, ?_⟩
        rw [ns]
        exact iteF (flat none none rfl rfl rfl rfl)
      | bool b0 =>
        cases hx with
        | bl _ =>
        cases hy with
        | bl _ =>
        refine iteF ⟨_, rfl, _, rfl, rfl, _, rfl, ?_⟩
        rw [ns]
        exact iteF (flat none none rfl rfl rfl rfl)
      | int n0 =>
        cases hx with
        | int _ =>
        cases hy with
        | int _ =>
        refine iteF ⟨_, rfl, _, rfl, rfl, _, rfl, ?_⟩
        rw [ns]
        exact iteF (flat none none rfl rfl rfl rfl)
      | str z0 =>
        cases hx with
        | str _ =>
        cases hy with
        | str _ =>
        refine iteF ⟨_, rfl, _, rfl, rfl, _, rfl, ?_⟩
        rw [ns]
        exact iteF (flat none none rfl rfl rfl rfl)
      | dict _ => cases hnd'
end
end Net
namespace ZipN
open PySem PySem.Spec PyProof.Rows L2
def SqK (K : PySem.W.Frag) (k : Bool) (H : Hp) (a : Addr) (xs : List V) : Prop := match k with
  | true => SqL K H a xs
  | false => SqT K H a xs
def ItA (k : Bool) (h : Heap) (it a : Addr) (i : Nat) : Prop := match k with
  | true => h.IsListIter it a i
  | false => h.IsTupleIter it a i
def SeA (k : Bool) (h : Heap) (a : Addr) (items : Array Value) : Prop := match k with
  | true => h.IsList a items
  | false => h.IsTuple a items
def obA (k : Bool) (a : Addr) : Obj := match k with
  | true => { cls := .type "list_iterator", data := .fields #[.ref a, .int 0 0] }
  | false => { cls := .type "tuple_iterator", data := .fields #[.ref a, .int 0 0] }
theorem drawsA {prog : Program} {w : World} {A : Around} (k : Bool) (hh : A.handled = none) (it a : Addr) (hne : a ≠ it) (items : Array Value) : Draws prog w A it [it, a] items.size (fun i v => items[i]? = some v) (fun i h => ItA k h it a i ∧ SeA k h a items) := by
  cases k
  · exact Draws.tuple hh it a hne items
  · exact Draws.list hh it a hne items
theorem beginsA (k : Bool) (a : Addr) (items : Array Value) : Begins (.ref a) (obA k a) fun h => SeA k h a items := by
  cases k
  · exact begins_tuple a items
  · exact begins_list a items
theorem ItA.at {k : Bool} {h h' : Heap} {it a : Addr} {i : Nat} (x : ItA k h it a i) (e : ∀ o, h.get? it = some o → h'.get? it = some o) : ItA k h' it a i := by
  cases k
  · exact Heap.IsTupleIter.at x e
  · exact Heap.IsListIter.at x e
theorem ItA.obj {k : Bool} {h : Heap} {it a : Addr} {i : Nat} (x : ItA k h it a i) : ∃ o, h.get? it = some o ∧ ∀ v, o.data ≠ .cell v := by
  cases k <;> obtain ⟨o, e, _, d⟩ := x <;> exact ⟨o, e, fun v q => by rw [d] at q; cases q⟩
theorem ItA.new {k : Bool} {h : Heap} {it a : Addr} (e : h.get? it = some (obA k a)) : ItA k h it a 0 := by
  cases k <;> exact ⟨_, e, rfl, rfl⟩
theorem SeA.lt {k : Bool} {h : Heap} {a : Addr} {items : Array Value} (x : SeA k h a items) : a < h.objs.size := by
  cases k <;> obtain ⟨o, e, _⟩ := x <;> exact Heap.lt_size e
section
variable {X : Cx} {pins : List (Addr × Obj)} {σ : L2.St} {H : Hp} {s : Shared}
theorem seqA {k : Bool} {a : Addr} {xs : List V} (I : Inv X pins σ H s) (h : SqK X.K k H a xs) : ∃ its : List Value, Vals xs its ∧ SeA k s.heap a its.toArray := by
  cases k
  · obtain ⟨its, r, p, _⟩ := I.tuple h
    exact ⟨its, r, p⟩
  · obtain ⟨its, r, p, _⟩ := I.list h
    exact ⟨its, r, p.isList⟩
theorem seqA_inj {k : Bool} {a : Addr} {xs ys : List V} (I : Inv X pins σ H s) (h : SqK X.K k H a xs) (h' : SqK X.K k H a ys) : xs = ys := by
  cases k
  · exact I.tuple_inj h h'
  · exact I.list_inj h h'
end
theorem SqK.same {K : PySem.W.Frag} {k : Bool} {H H' : Hp} {a : Addr} {xs : List V} (h : SqK K k H a xs) (s : ∀ b o, H b = some o → H' b = some o) : SqK K k H' a xs := by
  cases k
  · exact SqT.ext h s
  · exact SqL.ext h s
def Itz2 (K : PySem.W.Frag) (k1 k2 : Bool) (a1 a2 : Addr) : It :=
  ⟨fun i H => ∃ (xs1 xs2 : List V) (x1 x2 : V), SqK K k1 H a1 xs1 ∧ SqK K k2 H a2 xs2 ∧ xs1[i]? = some x1 ∧ xs2[i]? = some x2,
    fun i H v H' => ∃ T x1 x2, v = .ref T ∧ H T = none ∧ H' = upd H T (.tup [x1, x2]) ∧ (∀ xs, SqK K k1 H a1 xs → xs[i]? = some x1) ∧ (∀ xs, SqK K k2 H a2 xs → xs[i]? = some x2),
    fun i H => ∃ (xs1 xs2 : List V), SqK K k1 H a1 xs1 ∧ SqK K k2 H a2 xs2 ∧ i ≤ xs1.length ∧ i ≤ xs2.length ∧ (i = xs1.length ∨ i = xs2.length)⟩
theorem turn_zip2 {P : Program} {w : World} {K : PySem.W.Frag} {elts : List Expr} {kk : Nat} {tpos : Pos} {k1 k2 : Bool} {a1 a2 z TI TO i1 i2 : Addr} (D : ZipSep2 z TI TO i1 i2 [i1, a1] [i2, a2]) (ne : a1 ≠ i1 ∧ a2 ≠ i2) :
    Turn P w K (.Tuple elts kk tpos) (Itz2 K k1 k2 a1 a2) [z, TI, TO, i1, i2] z (fun i h => IsZip h z TI TO .none ∧ IsTupOf2 h TI (.ref i1) (.ref i2) ∧ (∃ x1 x2, IsTupOf2 h TO x1 x2) ∧ ItA k1 h i1 a1 i ∧ ItA k2 h i2 a2 i) where
  mem := by simp
  obj := fun i h st c hc => by
    obtain ⟨hz, hTI, ⟨y1, y2, hTO⟩, h1, h2⟩ := st
    have e' : c = z ∨ c = TI ∨ c = TO ∨ c = i1 ∨ c = i2 := by simpa using hc
    rcases e' with q | q | q | q | q
    · rw [q]; exact ⟨_, hz, fun v q => nomatch q⟩
    · rw [q]; exact ⟨_, hTI, fun v q => nomatch q⟩
    · rw [q]; exact ⟨_, hTO, fun v q => nomatch q⟩
    · rw [q]; exact h1.obj
    · rw [q]; exact h2.obj
  keep := fun i h h' st k => by
    obtain ⟨hz, hTI, ⟨y1, y2, hTO⟩, h1, h2⟩ := st
    exact ⟨k z (by simp) _ hz, k TI (by simp) _ hTI, ⟨y1, y2, k TO (by simp) _ hTO⟩, h1.at fun o q => k i1 (by simp) o q, h2.at fun o q => k i2 (by simp) o q⟩
  item := by
    intro X hP hw hK hc i pins s σ H E I hf st hg
    subst hP hw hK
    obtain ⟨hz, hTI, ⟨y1, y2, hTO⟩, h1, h2⟩ := st
    obtain ⟨xs1, xs2, x1, x2, hq1, hq2, hx1, hx2⟩ := hg
    obtain ⟨its1, rv1, p1⟩ := seqA I hq1
    obtain ⟨u1, hu1, ru1⟩ := rv1.get hx1
    have lt1 : i < its1.toArray.size := by
      obtain ⟨h, _⟩ := List.getElem?_eq_some_iff.mp hu1
      simpa using h
    obtain ⟨its2, rv2, p2⟩ := seqA I hq2
    obtain ⟨u2, hu2, ru2⟩ := rv2.get hx2
    have lt2 : i < its2.toArray.size := by
      obtain ⟨h, _⟩ := List.getElem?_eq_some_iff.mp hu2
      simpa using h
    have hzl : z < s.heap.objs.size := Heap.lt_size hz
    refine wpAny_pyNext_zipD2_item D (drawsA (prog := X.prog) (w := X.w) (A := X.A.in1) k1 (show X.A.in1.handled = none from I.ok.hd hc) i1 a1 ne.1 its1.toArray) (drawsA (prog := X.prog) (w := X.w) (A := X.A.in1) k2 (show X.A.in1.handled = none from I.ok.hd hc) i2 a2 ne.2 its2.toArray) hz hTI hTO ⟨h1, p1⟩ ⟨h2, p2⟩ lt1 lt2 fun v1 v2 h' tk e1 e2 z' TO' d1 d2 hT hsz hk => ?_
    have ev1 : v1 = u1 := Option.some.inj (e1.symm.trans (by simpa using hu1))
    subst ev1
    have ev2 : v2 = u2 := Option.some.inj (e2.symm.trans (by simpa using hu2))
    subst ev2
    refine ⟨_, rfl, wpAny_letOwnedTupleGo_zip (s := { s with heap := h', toks := tk }) z' fun h'' z'' sb => ?_⟩
    have hT2 : h''.get? s.heap.objs.size = some { cls := .type "tuple", data := .seq #[v1, v2] } := (sb.2 _ (Nat.ne_of_gt hzl)).trans hT
    have new : ObjOk X.prog X.w (upd H s.heap.objs.size (.tup [x1, x2])) h'' s.heap.objs.size (.tup [x1, x2]) :=
      ⟨by show 2 ≤ sizeLine; decide, [v1, v2], .cons ru1 (.cons ru2 (.nil)), ⟨_, hT2, rfl, _, rfl⟩⟩
    have I1 : Inv X pins σ (upd H s.heap.objs.size (.tup [x1, x2])) { s with heap := h'', toks := tk } :=
      I.turnedNew (t' := tk) (ch := [z, TI, TO, i1, i2]) (fun c o hb q => (sb.2 c (fun q' => hb (by simp [q']))).trans (hk c o (fun q' => hb (by simp [q'])) (fun q' => hb (by simp [q'])) (fun q' => hb (by simp [q'])) (fun q' => hb (by simp [q'])) q)) hf (Nat.le_refl _) new
    refine ⟨.ref s.heap.objs.size, _, I1, rfl, ⟨_, x1, x2, rfl, I.hok.fresh (Nat.le_refl _), rfl, fun l hl => by rw [seqA_inj I hl hq1]; exact hx1, fun l hl => by rw [seqA_inj I hl hq2]; exact hx2⟩, ⟨z'', ?_, ⟨v1, v2, ?_⟩, ?_, ?_⟩, fun c hcm => ?_⟩
    · exact (sb.2 _ D.TIz).trans (hk _ _ D.TIz D.TITO D.TIi1 D.TIi2 hTI)
    · exact (sb.2 _ D.TOz).trans TO'
    · exact d1.1.at fun o q => (sb.2 _ (Ne.symm D.zi1)).trans q
    · exact d2.1.at fun o q => (sb.2 _ (Ne.symm D.zi2)).trans q
    · have hlt : c < s.heap.objs.size := by
        have e' : c = z ∨ c = TI ∨ c = TO ∨ c = i1 ∨ c = i2 := by simpa using hcm
        rcases e' with q | q | q | q | q
        · rw [q]; exact hzl
        · rw [q]; exact Heap.lt_size hTI
        · rw [q]; exact Heap.lt_size hTO
        · rw [q]; obtain ⟨_, e1, _⟩ := h1.obj; exact Heap.lt_size e1
        · rw [q]; obtain ⟨_, e1, _⟩ := h2.obj; exact Heap.lt_size e1
      rw [upd_ne (Nat.ne_of_lt hlt)]
      exact (hf c hcm).1
  done := by
    intro X hP hw hK hc i pins s σ H E I hf st hg
    subst hP hw hK
    obtain ⟨hz, hTI, ⟨y1, y2, hTO⟩, h1, h2⟩ := st
    obtain ⟨xs1, xs2, hq1, hq2, hle1, hle2, hend⟩ := hg
    obtain ⟨its1, rv1, p1⟩ := seqA I hq1
    have l1 := rv1.length
    have hs1 : its1.toArray.size = xs1.length := by simp [l1]
    obtain ⟨its2, rv2, p2⟩ := seqA I hq2
    have l2 := rv2.length
    have hs2 : its2.toArray.size = xs2.length := by simp [l2]
    exact wpAny_pyNext_zipD2_end D (drawsA (prog := X.prog) (w := X.w) (A := X.A.in1) k1 (show X.A.in1.handled = none from I.ok.hd hc) i1 a1 ne.1 its1.toArray) (drawsA (prog := X.prog) (w := X.w) (A := X.A.in1) k2 (show X.A.in1.handled = none from I.ok.hd hc) i2 a2 ne.2 its2.toArray) hz hTI hTO ⟨h1, p1⟩ ⟨h2, p2⟩ (by rw [hs1]; exact hle1) (by rw [hs2]; exact hle2) (by rw [hs1, hs2]; exact hend) fun h' tk hk => ⟨rfl, I.turnedL (t' := tk) (ch := [z, TI, TO, i1, i2]) (fun c o hb q =>
      hk c o (fun q' => hb (by simp [q'])) (fun q' => hb (by simp [q'])) (fun q' => hb (by simp [q'])) (fun q' => hb (by simp [q'])) q) hf⟩
  self := fun A i s Q E st h => wpAny_pyIter_zip st.1 h
def iZip2 (K : PySem.W.Frag) (ta : TA) : TI := fun σ H R => ta σ H fun vs H1 => ∃ (k1 k2 : Bool) (a1 a2 : Addr) (xs1 xs2 : List V), vs = [.ref a1, .ref a2] ∧ SqK K k1 H1 a1 xs1 ∧ SqK K k2 H1 a2 xs2 ∧ R (Itz2 K k1 k2 a1 a2) H1
theorem pi_zip2 {X : Cx} {e1 e2 : Expr} {ta : TA} {p pos tpos : Pos} {elts : List Expr} {kk : Nat} (hg : Gl X "zip") (hm : X.mg "zip" = none) (ha : PA X [e1, e2] ta)
    (hs : starEach [e1, e2] X.env = (false, eval e1 X.env) :: starEach [e2] X.env := by rfl) (hpl : (backTo pos (starEach [e2] X.env)).any (·.1) = false := by rfl) :
    PI X (.Tuple elts kk tpos) (.Call (.Name "zip" p) [e1, e2] [] pos) (iZip2 X.K ta) := by
  refine ⟨fun pins s σ H R I h => ?_⟩
  refine Call_ (ld_blt I hg hm PyProof.Rows.boot_zip (PyProof.Rows.callWith_type1 (thn (ha.run pos pins s σ H _ I h) fun us s1 ⟨vs, H1, I1, r1, q1⟩ => ?_) hs hpl))
  obtain ⟨k1, k2, a1, a2, xs1, xs2, ex, hq1, hq2, q⟩ := q1
  subst ex
  cases r1 with | cons r2 r1 => cases r1 with | cons r3 r1 =>
  cases r1; cases r2; cases r3
  obtain ⟨its1, rv1, p1⟩ := seqA I1 hq1; obtain ⟨its2, rv2, p2⟩ := seqA I1 hq2
  refine zip_begins2 (beginsA k1 a1 its1.toArray) (beginsA k2 a2 its2.toArray) p1 p2 fun h' hz hTI hTO g1 g2 hsz hk => wpAny_pyIter_zip hz ?_
  have I2 : Inv X pins σ H1 { s1 with heap := h' } := I1.kept (t' := s1.toks) hk
  refine ⟨s1.heap.objs.size + 4, [s1.heap.objs.size + 4, s1.heap.objs.size + 2, s1.heap.objs.size + 3, s1.heap.objs.size, s1.heap.objs.size + 1], _, _, H1, rfl, I2, turn_zip2 (zip_sep2 (fun b hb => by rw [List.mem_singleton.mp hb]; exact p1.lt) (fun b hb => by rw [List.mem_singleton.mp hb]; exact p2.lt)) ⟨Nat.ne_of_lt (Nat.lt_of_lt_of_le p1.lt (Nat.le_add_right _ 0)), Nat.ne_of_lt (Nat.lt_of_lt_of_le p2.lt (Nat.le_add_right _ 1))⟩, ⟨hz, hTI, ⟨_, _, hTO⟩, .new g1, .new g2⟩, fun c hcm => ?_, q⟩
  have hle : s1.heap.objs.size ≤ c := by
    simp only [List.mem_cons, List.not_mem_nil, or_false] at hcm
    rcases hcm with rfl | rfl | rfl | rfl | rfl
    · exact Nat.le_add_right _ _
    · exact Nat.le_add_right _ _
    · exact Nat.le_add_right _ _
    · exact Nat.le_refl _
    · exact Nat.le_add_right _ _
  exact I1.fpOk hle (I1.hok.fresh hle)
def Y2 (xs1 xs2 : Nat → Option V) : Nat → Hp → V → Hp → Prop := fun i H v H' => ∃ T x1 x2, v = .ref T ∧ H T = none ∧ H' = upd H T (.tup [x1, x2]) ∧ xs1 i = some x1 ∧ xs2 i = some x2
theorem walk_zip2 {K : PySem.W.Frag} {k1 k2 : Bool} {a1 a2 : Addr} {xs1 xs2 : List V} {n : Nat} (hn1 : n = xs1.length) (hn2 : n = xs2.length) : Walk (Itz2 K k1 k2 a1 a2) n (fun H => SqK K k1 H a1 xs1 ∧ SqK K k2 H a2 xs2) (Y2 (fun i => xs1[i]?) (fun i => xs2[i]?)) := by
  refine ⟨fun i _ hi q => ?_, fun _ q => ?_, fun i H v H' _ q y => ?_⟩
  · obtain ⟨q1, q2⟩ := q
    exact ⟨xs1, xs2, xs1[i], xs2[i], q1, q2, List.getElem?_eq_getElem (by omega), List.getElem?_eq_getElem (by omega)⟩
  · obtain ⟨q1, q2⟩ := q
    exact ⟨xs1, xs2, q1, q2, by omega, by omega, .inl hn1⟩
  · obtain ⟨T, x1, x2, h1, h2, h3, f1, f2⟩ := y
    obtain ⟨q1, q2⟩ := q
    exact ⟨T, x1, x2, h1, h2, h3, f1 xs1 q1, f2 xs2 q2⟩
def Itz3 (K : PySem.W.Frag) (k1 k2 k3 : Bool) (a1 a2 a3 : Addr) : It :=
  ⟨fun i H => ∃ (xs1 xs2 xs3 : List V) (x1 x2 x3 : V), SqK K k1 H a1 xs1 ∧ SqK K k2 H a2 xs2 ∧ SqK K k3 H a3 xs3 ∧ xs1[i]? = some x1 ∧ xs2[i]? = some x2 ∧ xs3[i]? = some x3,
    fun i H v H' => ∃ T x1 x2 x3, v = .ref T ∧ H T = none ∧ H' = upd H T (.tup [x1, x2, x3]) ∧ (∀ xs, SqK K k1 H a1 xs → xs[i]? = some x1) ∧ (∀ xs, SqK K k2 H a2 xs → xs[i]? = some x2) ∧ (∀ xs, SqK K k3 H a3 xs → xs[i]? = some x3),
    fun i H => ∃ (xs1 xs2 xs3 : List V), SqK K k1 H a1 xs1 ∧ SqK K k2 H a2 xs2 ∧ SqK K k3 H a3 xs3 ∧ i ≤ xs1.length ∧ i ≤ xs2.length ∧ i ≤ xs3.length ∧ (i = xs1.length ∨ i = xs2.length ∨ i = xs3.length)⟩
theorem turn_zip3 {P : Program} {w : World} {K : PySem.W.Frag} {elts : List Expr} {kk : Nat} {tpos : Pos} {k1 k2 k3 : Bool} {a1 a2 a3 z TI TO i1 i2 i3 : Addr} (D : ZipSep3 z TI TO i1 i2 i3 [i1, a1] [i2, a2] [i3, a3]) (ne : a1 ≠ i1 ∧ a2 ≠ i2 ∧ a3 ≠ i3) :
    Turn P w K (.Tuple elts kk tpos) (Itz3 K k1 k2 k3 a1 a2 a3) [z, TI, TO, i1, i2, i3] z (fun i h => IsZip h z TI TO .none ∧ IsTupOf3 h TI (.ref i1) (.ref i2) (.ref i3) ∧ (∃ x1 x2 x3, IsTupOf3 h TO x1 x2 x3) ∧ ItA k1 h i1 a1 i ∧ ItA k2 h i2 a2 i ∧ ItA k3 h i3 a3 i) where
  mem := by simp
  obj := fun i h st c hc => by
    obtain ⟨hz, hTI, ⟨y1, y2, y3, hTO⟩, h1, h2, h3⟩ := st
    have e' : c = z ∨ c = TI ∨ c = TO ∨ c = i1 ∨ c = i2 ∨ c = i3 := by simpa using hc
    rcases e' with q | q | q | q | q | q
    · rw [q]; exact ⟨_, hz, fun v q => nomatch q⟩
    · rw [q]; exact ⟨_, hTI, fun v q => nomatch q⟩
    · rw [q]; exact ⟨_, hTO, fun v q => nomatch q⟩
    · rw [q]; exact h1.obj
    · rw [q]; exact h2.obj
    · rw [q]; exact h3.obj
  keep := fun i h h' st k => by
    obtain ⟨hz, hTI, ⟨y1, y2, y3, hTO⟩, h1, h2, h3⟩ := st
    exact ⟨k z (by simp) _ hz, k TI (by simp) _ hTI, ⟨y1, y2, y3, k TO (by simp) _ hTO⟩, h1.at fun o q => k i1 (by simp) o q, h2.at fun o q => k i2 (by simp) o q, h3.at fun o q => k i3 (by simp) o q⟩
  item := by
    intro X hP hw hK hc i pins s σ H E I hf st hg
    subst hP hw hK
    obtain ⟨hz, hTI, ⟨y1, y2, y3, hTO⟩, h1, h2, h3⟩ := st
    obtain ⟨xs1, xs2, xs3, x1, x2, x3, hq1, hq2, hq3, hx1, hx2, hx3⟩ := hg
    obtain ⟨its1, rv1, p1⟩ := seqA I hq1
    obtain ⟨u1, hu1, ru1⟩ := rv1.get hx1
    have lt1 : i < its1.toArray.size := by
      obtain ⟨h, _⟩ := List.getElem?_eq_some_iff.mp hu1
      simpa using h
    obtain ⟨its2, rv2, p2⟩ := seqA I hq2
    obtain ⟨u2, hu2, ru2⟩ := rv2.get hx2
    have lt2 : i < its2.toArray.size := by
      obtain ⟨h, _⟩ := List.getElem?_eq_some_iff.mp hu2
      simpa using h
    obtain ⟨its3, rv3, p3⟩ := seqA I hq3
    obtain ⟨u3, hu3, ru3⟩ := rv3.get hx3
    have lt3 : i < its3.toArray.size := by
      obtain ⟨h, _⟩ := List.getElem?_eq_some_iff.mp hu3
      simpa using h
    have hzl : z < s.heap.objs.size := Heap.lt_size hz
    refine wpAny_pyNext_zipD3_item D (drawsA (prog := X.prog) (w := X.w) (A := X.A.in1) k1 (show X.A.in1.handled = none from I.ok.hd hc) i1 a1 ne.1 its1.toArray) (drawsA (prog := X.prog) (w := X.w) (A := X.A.in1) k2 (show X.A.in1.handled = none from I.ok.hd hc) i2 a2 ne.2.1 its2.toArray) (drawsA (prog := X.prog) (w := X.w) (A := X.A.in1) k3 (show X.A.in1.handled = none from I.ok.hd hc) i3 a3 ne.2.2 its3.toArray) hz hTI hTO ⟨h1, p1⟩ ⟨h2, p2⟩ ⟨h3, p3⟩ lt1 lt2 lt3 fun v1 v2 v3 h' tk e1 e2 e3 z' TO' d1 d2 d3 hT hsz hk => ?_
    have ev1 : v1 = u1 := Option.some.inj (e1.symm.trans (by simpa using hu1))
    subst ev1
    have ev2 : v2 = u2 := Option.some.inj (e2.symm.trans (by simpa using hu2))
    subst ev2
    have ev3 : v3 = u3 := Option.some.inj (e3.symm.trans (by simpa using hu3))
    subst ev3
    refine ⟨_, rfl, wpAny_letOwnedTupleGo_zip (s := { s with heap := h', toks := tk }) z' fun h'' z'' sb => ?_⟩
    have hT2 : h''.get? s.heap.objs.size = some { cls := .type "tuple", data := .seq #[v1, v2, v3] } := (sb.2 _ (Nat.ne_of_gt hzl)).trans hT
    have new : ObjOk X.prog X.w (upd H s.heap.objs.size (.tup [x1, x2, x3])) h'' s.heap.objs.size (.tup [x1, x2, x3]) :=
      ⟨by show 3 ≤ sizeLine; decide, [v1, v2, v3], .cons ru1 (.cons ru2 (.cons ru3 (.nil))), ⟨_, hT2, rfl, _, rfl⟩⟩
    have I1 : Inv X pins σ (upd H s.heap.objs.size (.tup [x1, x2, x3])) { s with heap := h'', toks := tk } :=
      I.turnedNew (t' := tk) (ch := [z, TI, TO, i1, i2, i3]) (fun c o hb q => (sb.2 c (fun q' => hb (by simp [q']))).trans (hk c o (fun q' => hb (by simp [q'])) (fun q' => hb (by simp [q'])) (fun q' => hb (by simp [q'])) (fun q' => hb (by simp [q'])) (fun q' => hb (by simp [q'])) q)) hf (Nat.le_refl _) new
    refine ⟨.ref s.heap.objs.size, _, I1, rfl, ⟨_, x1, x2, x3, rfl, I.hok.fresh (Nat.le_refl _), rfl, fun l hl => by rw [seqA_inj I hl hq1]; exact hx1, fun l hl => by rw [seqA_inj I hl hq2]; exact hx2, fun l hl => by rw [seqA_inj I hl hq3]; exact hx3⟩, ⟨z'', ?_, ⟨v1, v2, v3, ?_⟩, ?_, ?_, ?_⟩, fun c hcm => ?_⟩
    · exact (sb.2 _ D.TIz).trans (hk _ _ D.TIz D.TITO D.TIi1 D.TIi2 D.TIi3 hTI)
    · exact (sb.2 _ D.TOz).trans TO'
    · exact d1.1.at fun o q => (sb.2 _ (Ne.symm D.zi1)).trans q
    · exact d2.1.at fun o q => (sb.2 _ (Ne.symm D.zi2)).trans q
    · exact d3.1.at fun o q => (sb.2 _ (Ne.symm D.zi3)).trans q
    · have hlt : c < s.heap.objs.size := by
        have e' : c = z ∨ c = TI ∨ c = TO ∨ c = i1 ∨ c = i2 ∨ c = i3 := by simpa using hcm
        rcases e' with q | q | q | q | q | q
        · rw [q]; exact hzl
        · rw [q]; exact Heap.lt_size hTI
        · rw [q]; exact Heap.lt_size hTO
        · rw [q]; obtain ⟨_, e1, _⟩ := h1.obj; exact Heap.lt_size e1
        · rw [q]; obtain ⟨_, e1, _⟩ := h2.obj; exact Heap.lt_size e1
        · rw [q]; obtain ⟨_, e1, _⟩ := h3.obj; exact Heap.lt_size e1
      rw [upd_ne (Nat.ne_of_lt hlt)]
      exact (hf c hcm).1
  done := by
    intro X hP hw hK hc i pins s σ H E I hf st hg
    subst hP hw hK
    obtain ⟨hz, hTI, ⟨y1, y2, y3, hTO⟩, h1, h2, h3⟩ := st
    obtain ⟨xs1, xs2, xs3, hq1, hq2, hq3, hle1, hle2, hle3, hend⟩ := hg
    obtain ⟨its1, rv1, p1⟩ := seqA I hq1
    have l1 := rv1.length
    have hs1 : its1.toArray.size = xs1.length := by simp [l1]
    obtain ⟨its2, rv2, p2⟩ := seqA I hq2
    have l2 := rv2.length
    have hs2 : its2.toArray.size = xs2.length := by simp [l2]
    obtain ⟨its3, rv3, p3⟩ := seqA I hq3
    have l3 := rv3.length
    have hs3 : its3.toArray.size = xs3.length := by simp [l3]
    exact wpAny_pyNext_zipD3_end D (drawsA (prog := X.prog) (w := X.w) (A := X.A.in1) k1 (show X.A.in1.handled = none from I.ok.hd hc) i1 a1 ne.1 its1.toArray) (drawsA (prog := X.prog) (w := X.w) (A := X.A.in1) k2 (show X.A.in1.handled = none from I.ok.hd hc) i2 a2 ne.2.1 its2.toArray) (drawsA (prog := X.prog) (w := X.w) (A := X.A.in1) k3 (show X.A.in1.handled = none from I.ok.hd hc) i3 a3 ne.2.2 its3.toArray) hz hTI hTO ⟨h1, p1⟩ ⟨h2, p2⟩ ⟨h3, p3⟩ (by rw [hs1]; exact hle1) (by rw [hs2]; exact hle2) (by rw [hs3]; exact hle3) (by rw [hs1, hs2, hs3]; exact hend) fun h' tk hk => ⟨rfl, I.turnedL (t' := tk) (ch := [z, TI, TO, i1, i2, i3]) (fun c o hb q =>
      hk c o (fun q' => hb (by simp [q'])) (fun q' => hb (by simp [q'])) (fun q' => hb (by simp [q'])) (fun q' => hb (by simp [q'])) (fun q' => hb (by simp [q'])) q) hf⟩
  self := fun A i s Q E st h => wpAny_pyIter_zip st.1 h
def iZip3 (K : PySem.W.Frag) (ta : TA) : TI := fun σ H R => ta σ H fun vs H1 => ∃ (k1 k2 k3 : Bool) (a1 a2 a3 : Addr) (xs1 xs2 xs3 : List V), vs = [.ref a1, .ref a2, .ref a3] ∧ SqK K k1 H1 a1 xs1 ∧ SqK K k2 H1 a2 xs2 ∧ SqK K k3 H1 a3 xs3 ∧ R (Itz3 K k1 k2 k3 a1 a2 a3) H1
theorem pi_zip3 {X : Cx} {e1 e2 e3 : Expr} {ta : TA} {p pos tpos : Pos} {elts : List Expr} {kk : Nat} (hg : Gl X "zip") (hm : X.mg "zip" = none) (ha : PA X [e1, e2, e3] ta)
    (hs : starEach [e1, e2, e3] X.env = (false, eval e1 X.env) :: starEach [e2, e3] X.env := by rfl) (hpl : (backTo pos (starEach [e2, e3] X.env)).any (·.1) = false := by rfl) :
    PI X (.Tuple elts kk tpos) (.Call (.Name "zip" p) [e1, e2, e3] [] pos) (iZip3 X.K ta) := by
  refine ⟨fun pins s σ H R I h => ?_⟩
  refine Call_ (ld_blt I hg hm PyProof.Rows.boot_zip (PyProof.Rows.callWith_type1 (thn (ha.run pos pins s σ H _ I h) fun us s1 ⟨vs, H1, I1, r1, q1⟩ => ?_) hs hpl))
  obtain ⟨k1, k2, k3, a1, a2, a3, xs1, xs2, xs3, ex, hq1, hq2, hq3, q⟩ := q1
  subst ex
  cases r1 with | cons r2 r1 => cases r1 with | cons r3 r1 => cases r1 with | cons r4 r1 =>
  cases r1; cases r2; cases r3; cases r4
  obtain ⟨its1, rv1, p1⟩ := seqA I1 hq1; obtain ⟨its2, rv2, p2⟩ := seqA I1 hq2; obtain ⟨its3, rv3, p3⟩ := seqA I1 hq3
  refine zip_begins3 (beginsA k1 a1 its1.toArray) (beginsA k2 a2 its2.toArray) (beginsA k3 a3 its3.toArray) p1 p2 p3 fun h' hz hTI hTO g1 g2 g3 hsz hk => wpAny_pyIter_zip hz ?_
  have I2 : Inv X pins σ H1 { s1 with heap := h' } := I1.kept (t' := s1.toks) hk
  refine ⟨s1.heap.objs.size + 5, [s1.heap.objs.size + 5, s1.heap.objs.size + 3, s1.heap.objs.size + 4, s1.heap.objs.size, s1.heap.objs.size + 1, s1.heap.objs.size + 2], _, _, H1, rfl, I2, turn_zip3 (zip_sep3 (fun b hb => by rw [List.mem_singleton.mp hb]; exact p1.lt) (fun b hb => by rw [List.mem_singleton.mp hb]; exact p2.lt) (fun b hb => by rw [List.mem_singleton.mp hb]; exact p3.lt)) ⟨Nat.ne_of_lt (Nat.lt_of_lt_of_le p1.lt (Nat.le_add_right _ 0)), Nat.ne_of_lt (Nat.lt_of_lt_of_le p2.lt (Nat.le_add_right _ 1)), Nat.ne_of_lt (Nat.lt_of_lt_of_le p3.lt (Nat.le_add_right _ 2))⟩, ⟨hz, hTI, ⟨_, _, _, hTO⟩, .new g1, .new g2, .new g3⟩, fun c hcm => ?_, q⟩
  have hle : s1.heap.objs.size ≤ c := by
    simp only [List.mem_cons, List.not_mem_nil, or_false] at hcm
    rcases hcm with rfl | rfl | rfl | rfl | rfl | rfl
    · exact Nat.le_add_right _ _
    · exact Nat.le_add_right _ _
    · exact Nat.le_add_right _ _
    · exact Nat.le_refl _
    · exact Nat.le_add_right _ _
    · exact Nat.le_add_right _ _
  exact I1.fpOk hle (I1.hok.fresh hle)
def Y3 (xs1 xs2 xs3 : Nat → Option V) : Nat → Hp → V → Hp → Prop := fun i H v H' => ∃ T x1 x2 x3, v = .ref T ∧ H T = none ∧ H' = upd H T (.tup [x1, x2, x3]) ∧ xs1 i = some x1 ∧ xs2 i = some x2 ∧ xs3 i = some x3
theorem walk_zip3 {K : PySem.W.Frag} {k1 k2 k3 : Bool} {a1 a2 a3 : Addr} {xs1 xs2 xs3 : List V} {n : Nat} (hn1 : n = xs1.length) (hn2 : n = xs2.length) (hn3 : n = xs3.length) : Walk (Itz3 K k1 k2 k3 a1 a2 a3) n (fun H => SqK K k1 H a1 xs1 ∧ SqK K k2 H a2 xs2 ∧ SqK K k3 H a3 xs3) (Y3 (fun i => xs1[i]?) (fun i => xs2[i]?) (fun i => xs3[i]?)) := by
  refine ⟨fun i _ hi q => ?_, fun _ q => ?_, fun i H v H' _ q y => ?_⟩
  · obtain ⟨q1, q2, q3⟩ := q
    exact ⟨xs1, xs2, xs3, xs1[i], xs2[i], xs3[i], q1, q2, q3, List.getElem?_eq_getElem (by omega), List.getElem?_eq_getElem (by omega), List.getElem?_eq_getElem (by omega)⟩
  · obtain ⟨q1, q2, q3⟩ := q
    exact ⟨xs1, xs2, xs3, q1, q2, q3, by omega, by omega, by omega, .inl hn1⟩
  · obtain ⟨T, x1, x2, x3, h1, h2, h3, f1, f2, f3⟩ := y
    obtain ⟨q1, q2, q3⟩ := q
    exact ⟨T, x1, x2, x3, h1, h2, h3, f1 xs1 q1, f2 xs2 q2, f3 xs3 q3⟩
end ZipN
namespace SDx
open PySem PySem.Spec PyProof.Rows L2 Net
abbrev Sta := List Int × List Int
def staD (S : Sta) : PyData := .tuple [.tuple (S.1.map .int), .tuple (S.2.map .int)]
def nk (S : Sta) : NestedKey := .tup [.tup (S.1.map .num), .tup (S.2.map .num)]
def IsS (H : Hp) (a : Addr) (S : Sta) : Prop := ∃ t1 t2 : Addr, H a = some (.tup [.ref t1, .ref t2]) ∧ H t1 = some (.tup (S.1.map V.int)) ∧ H t2 = some (.tup (S.2.map V.int))
theorem IsS.same {H H' : Hp} {a : Addr} {S : Sta} (h : IsS H a S) (s : ∀ b o, H b = some o → H' b = some o) : IsS H' a S := by
  obtain ⟨t1, t2, h0, h1, h2⟩ := h
  exact ⟨t1, t2, s _ _ h0, s _ _ h1, s _ _ h2⟩
theorem num_inj : ∀ {a b : List Int}, a.map NestedKey.num = b.map NestedKey.num → a = b
  | [], [], _ => rfl
  | [], _ :: _, h => by cases h
  | _ :: _, [], h => by cases h
  | x :: a, y :: b, h => by
    rw [List.map_cons, List.map_cons] at h
    injection h with h1 h2
    injection h1 with h1
    rw [h1, num_inj h2]
theorem nk_inj {S T : Sta} (h : nk S = nk T) : S = T := by
  unfold nk at h
  injection h with h
  injection h with h1 h2
  injection h1 with h1
  injection h2 with h2 _
  injection h2 with h2
  obtain ⟨a, b⟩ := S
  obtain ⟨c, d⟩ := T
  rw [show a = c from num_inj h1, show b = d from num_inj h2]
theorem depth_nums : ∀ ns : List Int, NestedKey.depthAll (ns.map NestedKey.num) = 0
  | [] => rfl
  | n :: ns => by
    rw [List.map_cons]
    show max 0 (NestedKey.depthAll (ns.map NestedKey.num)) = 0
    rw [depth_nums ns]
    rfl
theorem depth_nk (S : Sta) : (nk S).depth ≤ 8 := by
  show max (NestedKey.depthAll (S.1.map NestedKey.num) + 1) (max (NestedKey.depthAll (S.2.map NestedKey.num) + 1) 0) + 1 ≤ 8
  rw [depth_nums, depth_nums]
  decide
theorem nested_ints {h : Heap} : ∀ {ns : List Int} {us : List Value}, Vals (ns.map V.int) us → NestedAll h (ns.map NestedKey.num) us
  | [], _, .nil => .nil
  | n :: ns, _, .cons r t => by
    obtain ⟨tk, rfl⟩ := r
    exact .cons (.int _ _) (nested_ints t)
section
variable {P : Program} {w : World} {H : Hp} {h : Heap} {a : Addr} {S : Sta}
theorem nested_tup {ns : List Int} (ok : HOk P w H h) (e : H a = some (.tup (ns.map V.int))) : NestedIs h (.tup (ns.map .num)) (.ref a) := by
  obtain ⟨_, its, r, o, h1, h2, n, h3⟩ := (show ObjOk P w H h a (.tup (ns.map V.int)) from ok a _ e)
  exact .tup h1 h2 h3 (by simpa using nested_ints r)
theorem nk_is (ok : HOk P w H h) (e : IsS H a S) : (nestedKind P w).is h (nk S) a := by
  obtain ⟨t1, t2, h0, h1, h2⟩ := e
  obtain ⟨_, its, r, o, e1, e2, n, e3⟩ := (show ObjOk P w H h a (.tup [.ref t1, .ref t2]) from ok a _ h0)
  refine ⟨.tup e1 e2 e3 ?_, depth_nk S⟩
  cases r with
  | cons r1 r =>
    cases r with
    | cons r2 r =>
      cases r
      cases r1
      cases r2
      exact .cons (nested_tup ok h1) (.cons (nested_tup ok h2) .nil)
end
def xsOf (L : List (Addr × Sta)) : List (NestedKey × Addr × Value) := L.map fun p => (nk p.2, p.1, .bool true)
def SDO (P : Program) (w : World) (d : Addr) (L : List (Addr × Sta)) : HO := .ext fun h => L.length ≤ sizeLine ∧ (d == sysModules) = false ∧ ∃ o es ep, h.get? d = some o ∧ o.ExactDict ∧ o.data = .dict es ep ∧ es.toList = (xsOf L).map (entryOfKey (nestedKind P w)) ∧ (L.map (·.2)).Nodup
theorem nodup_keys {L : List (Addr × Sta)} (h : (L.map (·.2)).Nodup) : ((xsOf L).map (·.1)).Nodup := by
  unfold xsOf
  rw [List.map_map, show ((fun x : NestedKey × Addr × Value => x.1) ∘ fun p : Addr × Sta => (nk p.2, p.1, Value.bool true)) = nk ∘ (fun p : Addr × Sta => p.2) from rfl, ← List.map_map]
  exact List.Pairwise.map nk (fun a b n e => n (nk_inj e)) h
theorem sd_new {P : Program} {w : World} {H : Hp} {h : Heap} {d : Addr} {L : List (Addr × Sta)} (hl : L.length ≤ sizeLine) (hd : (d == sysModules) = false) (hm : h.DictOfH (nestedKind P w) d (xsOf L)) (hn : (L.map (·.2)).Nodup) : ObjOk P w H h d (SDO P w d L) := by
  obtain ⟨o, es, ep, ho, hc, hdat, he, _, _⟩ := hm
  exact ⟨⟨hl, hd, o, es, ep, ho, hc, hdat, he, hn⟩, ⟨o, ho⟩, fun h1 h2 ⟨a1, a2, o', es', ep', b1, b2, b3, b4, b5⟩ k => ⟨a1, a2, o', es', ep', k _ b1, b2, b3, b4, b5⟩⟩
def Sts (H : Hp) (L : List (Addr × Sta)) : Prop := ∀ p ∈ L, IsS H p.1 p.2
theorem Sts.same {H H' : Hp} {L : List (Addr × Sta)} (h : Sts H L) (s : ∀ b o, H b = some o → H' b = some o) : Sts H' L := fun p hp => (h p hp).same s
theorem sd_of {P : Program} {w : World} {H : Hp} {h : Heap} {d : Addr} {L : List (Addr × Sta)} (ok : HOk P w H h) (e : H d = some (SDO P w d L)) (hs : Sts H L) :
    L.length ≤ sizeLine ∧ (d == sysModules) = false ∧ h.DictOfH (nestedKind P w) d (xsOf L) ∧ (L.map (·.2)).Nodup := by
  obtain ⟨⟨hl, hd, o, es, ep, ho, hc, hdat, he, hn⟩, _⟩ := (show ObjOk P w H h d (SDO P w d L) from ok d _ e)
  refine ⟨hl, hd, ⟨o, es, ep, ho, hc, hdat, he, fun x hx => ?_, nodup_keys hn⟩, hn⟩
  unfold xsOf at hx
  obtain ⟨p, hp, rfl⟩ := List.mem_map.mp hx
  exact nk_is ok (hs p hp)
theorem atKey_some {L : List (Addr × Sta)} {S : Sta} : (atKey (xsOf L) (nk S)).isSome = decide (S ∈ L.map (·.2)) := by
  induction L with
  | nil => rfl
  | cons p L ih =>
    unfold xsOf at ih ⊢
    rw [List.map_cons, List.map_cons]
    by_cases e : p.2 = S
    · have e1 : nk p.2 = nk S := by rw [e]
      simp [atKey, List.find?_cons, e1, e]
    · have e1 : ¬ nk p.2 = nk S := fun z => e (nk_inj z)
      have : atKey ((nk p.2, p.1, Value.bool true) :: List.map (fun p : Addr × Sta => (nk p.2, p.1, Value.bool true)) L) (nk S) = atKey (List.map (fun p : Addr × Sta => (nk p.2, p.1, Value.bool true)) L) (nk S) := by
        simp [atKey, List.find?_cons, e1]
      rw [this, ih]
      simp [Ne.symm e]
section
variable {X : Cx} {pins : List (Addr × Obj)} {σ : L2.St} {H : Hp} {s : Shared} {A : Around} {E : Value → Shared → Prop} {d a : Addr} {L : List (Addr × Sta)} {S : Sta}
theorem room_in1 (hu : A.units + 64 < cLine) : (nestedKind X.prog X.w).room A.in1 := by
  show A.in1.units + 8 < cLine
  have : A.in1.units ≤ A.units + 1 := Nat.le_refl _
  omega
theorem room_0 (hu : A.units + 64 < cLine) : (nestedKind X.prog X.w).room A := by
  show A.units + 8 < cLine
  omega
def rInS (P : Program) (w : World) : R2 := fun x y H Q => ∃ (a d : Addr) (S : Sta) (L : List (Addr × Sta)), x = .ref a ∧ y = .ref d ∧ IsS H a S ∧ H d = some (SDO P w d L) ∧ Sts H L ∧ Q (.bl (decide (S ∈ L.map (·.2)))) H
def rNotInS (P : Program) (w : World) : R2 := fun x y H Q => ∃ (a d : Addr) (S : Sta) (L : List (Addr × Sta)), x = .ref a ∧ y = .ref d ∧ IsS H a S ∧ H d = some (SDO P w d L) ∧ Sts H L ∧ Q (.bl (!decide (S ∈ L.map (·.2)))) H
theorem op_inS (hu : X.A.units + 64 < cLine) : OpR X (compareOp .In) (rInS X.prog X.w) := by
  intro pins s σ H x y u v Q I rx ry h
  obtain ⟨a, d, S, L, rfl, rfl, ha, hd, hs, q⟩ := h
  obtain rfl : u = Value.ref a := rx
  obtain rfl : v = Value.ref d := ry
  obtain ⟨_, h1, h2, _⟩ := sd_of I.hok hd hs
  refine wpAny_in_heap (room_in1 hu) (nk_is I.hok ha) h1 h2 ?_
  rw [atKey_some]
  exact ⟨.bl (decide (S ∈ L.map fun p : Addr × Sta => p.2)), H, I.tok _, rfl, q⟩
theorem op_notInS (hu : X.A.units + 64 < cLine) : OpR X (compareOp .NotIn) (rNotInS X.prog X.w) := by
  intro pins s σ H x y u v Q I rx ry h
  obtain ⟨a, d, S, L, rfl, rfl, ha, hd, hs, q⟩ := h
  obtain rfl : u = Value.ref a := rx
  obtain rfl : v = Value.ref d := ry
  obtain ⟨_, h1, h2, _⟩ := sd_of I.hok hd hs
  refine wpAny_notIn_heap (room_in1 hu) (nk_is I.hok ha) h1 h2 ?_
  rw [atKey_some]
  exact ⟨.bl (!decide (S ∈ L.map fun p : Addr × Sta => p.2)), H, I.tok _, rfl, q⟩
theorem stored_new {L : List (Addr × Sta)} {S : Sta} {a : Addr} (n : S ∉ L.map (·.2)) : storedH (xsOf L) (nk S) a (.bool true) = xsOf (L ++ [(a, S)]) := by
  unfold storedH
  rw [atKey_some, decide_eq_false n]
  unfold xsOf
  rw [List.map_append]
  rfl
def sPutS (P : Program) (w : World) (td ty tv : TE) : TS := fun D σ H => tv σ H fun v H1 => td σ H1 fun x H2 => ty σ H2 fun y H3 => ∃ (d a : Addr) (S : Sta) (L : List (Addr × Sta)), v = .bl true ∧ x = .ref d ∧ y = .ref a ∧ IsS H3 a S ∧ H3 d = some (SDO P w d L) ∧ Sts H3 L ∧ S ∉ L.map (·.2) ∧ L.length < sizeLine ∧ D.nx σ (upd H3 d (SDO P w d (L ++ [(a, S)])))
theorem ps_putS {o i value : Expr} {td ty tv : TE} {pos pos' : Pos} (hu : X.A.units + 64 < cLine) (ho : PE X o td) (hi : PE X i ty) (hv : PE X value tv) (hs : swapsWith value (some (.Subscript o i pos')) pos.line X.env = pure false) :
    PS X (.Assign [.Subscript o i pos'] value pos) (sPutS X.prog X.w td ty tv) := by
  refine ⟨fun pins s σ H D I h => ?_⟩
  refine wpAny_Assign_Subscript (thn (hv.run pins s σ H _ I h) fun r s1 ⟨v, H1, I1, rv, q1⟩ => thn (ho.run pins s1 σ H1 _ I1 q1) fun u s2 ⟨x, H2, I2, rx, q2⟩ => thn (hi.run pins s2 σ H2 _ I2 q2) fun iv s3 ⟨y, H3, I3, ry, d, a, S, L, ev, ex, ey, ha, hd, hst, hn, hl, q3⟩ => ?_) hs
  subst ev ex ey
  obtain rfl : u = Value.ref d := rx
  obtain rfl : iv = Value.ref a := ry
  obtain rfl : r = Value.bool true := rv
  obtain ⟨z, h1, h2, nd⟩ := sd_of I3.hok hd hst
  refine wpAny_setItem_heap (hsz := by unfold xsOf; rw [List.length_map]; exact z) (room_in1 hu) (nk_is I3.hok ha) h2 fun h' dd' hsb => ?_
  rw [stored_new hn] at dd'
  have he : ∃ q, h'.get? d = some q := let ⟨q, _, _, hq, _⟩ := dd'; ⟨q, hq⟩
  refine ⟨σ, _, d_write I3 (by rw [hd]; exact True.intro) hsb he (sd_new (by rw [List.length_append]; exact hl) h1 dd' ?_), q3⟩
  rw [List.map_append]
  exact List.nodup_append.mpr ⟨nd, by simp, fun x hx y hy e => hn (by
    have hy : y = S := by simpa using hy
    rw [← hy, ← e]
    exact hx)⟩
def tDispS (P : Program) (w : World) (tk tv : TE) : TE := fun σ H Q => ∀ p, H p = none → tk σ (upd H p (SDO P w p [])) fun y H1 => tv σ H1 fun v H2 => ∃ (a : Addr) (S : Sta), y = .ref a ∧ v = .bl true ∧ IsS H2 a S ∧ H2 p = some (SDO P w p []) ∧ Q (.ref p) (upd H2 p (SDO P w p [(a, S)]))
theorem pe_dispS {k v : Expr} {tk tv : TE} {pos : Pos} (hu : X.A.units + 64 < cLine) (hk : PE X k tk) (hv : PE X v tv) : PE X (.Dict [some k] [v] pos) (tDispS X.prog X.w tk tv) := by
  refine ⟨fun pins s σ H Q I q => ?_⟩
  have hn := I.hok.fresh (Nat.le_refl s.heap.objs.size)
  have nsm : (s.heap.objs.size == sysModules) = false := by
    have := I.big
    simp only [beq_eq_false_iff_ne, ne_eq]
    exact Nat.ne_of_gt this
  have e0 : (s.heap.push { cls := .type "dict", data := .dict #[] }).DictOfH (nestedKind X.prog X.w) s.heap.objs.size (xsOf []) := Heap.DictOfH.new s.heap
  have I1 := I.laid (a := s.heap.objs.size) (o := SDO X.prog X.w s.heap.objs.size []) (h' := s.heap.push { cls := .type "dict", data := .dict #[] }) (t' := s.toks) (fun _ _ q => Heap.get?_push_of_some _ q) (Nat.le_refl _) (sd_new (Nat.zero_le _) nsm e0 List.nodup_nil)
  have hshape : (evalEachOpt [some k] X.env).zip ((evalEach [v] X.env).map fun v => do let x ← v; standAt pos; pure x) = ([(eval k X.env, (do let x ← eval v X.env; standAt pos; pure x))] : List (Sem Value × Sem Value)).map fun p => (some p.1, p.2) := rfl
  rw [arm_eval_Dict, hshape, dictDisplay_pairs _ (by simp) (by simp)]
  refine wpAny_bind (wpAny_standAt (wpAny_bind (wpAny_subDictH (knd := nestedKind X.prog X.w) (Q := fun d s' => wpAny (model X.prog X.w) X.A (pure (Value.ref d)) _ X.xe s') (room_0 hu) (by simp) ?_)))
  refine evalPairs_cons (thn (hk.run pins _ σ _ _ I1 (q _ hn)) fun kv s2 ⟨y, H1, I2, ry, q2⟩ => wpAny_bind (thn (hv.run pins s2 σ H1 _ I2 q2) fun vv s3 ⟨v', H2, I3, rv, a, S, ey, ev, ha, hd, q3⟩ => wpAny_bind (wpAny_standAt (wpAny_pure (evalPairs_nil ?_)))))
  subst ey ev
  obtain rfl : kv = Value.ref a := ry
  obtain rfl : vv = Value.bool true := rv
  obtain ⟨z, h1, h2, nd⟩ := sd_of I3.hok hd (fun p hp => nomatch hp)
  refine ⟨[(nk S, a, .bool true)], ⟨rfl, rfl, nk_is I3.hok ha, trivial⟩, h2, fun h' tk dd' hsb => wpAny_pure ?_⟩
  have he : ∃ q, h'.get? s.heap.objs.size = some q := let ⟨q, _, _, hq, _⟩ := dd'; ⟨q, hq⟩
  have eL : storedAllH [] [(nk S, a, Value.bool true)] = xsOf [(a, S)] := rfl
  rw [eL] at dd'
  exact ⟨.ref s.heap.objs.size, _, d_write I3 (by rw [hd]; exact True.intro) hsb he (sd_new (L := [(a, S)]) (show 1 ≤ sizeLine by decide) h1 dd' (by simp)), rfl, q3⟩
end
section
variable {prog : Program} {w : World} {A : Around} {E : Value → Shared → Prop} {s : Shared} {T : String} {r d : Addr} {n : Nat} {P : Nat → Value → Prop} {OK : Heap → Prop}
theorem collect_kdl {Q : List Value → Shared → Prop} (K : PySem.W.KdlSrc prog w T r d n P OK) (hh : A.handled = none) (hok : OK s.heap) (hn : n ≤ sizeLine)
    (hQ : ∀ (h' : Heap) (tk : Nat) (acc : Array Value), (∀ b o, s.heap.get? b = some o → h'.get? b = some o) → ItemsOf P acc n → Q acc.toList { s with heap := h', toks := tk }) :
    wpAny (model prog w) A (collect (.ref r)) Q E s := by
  unfold collect
  refine wpAny_bind (wpAny_runValue (codeAny_builtin PySem.F.entry_proto_collect ?_))
  rw [Around.under_plainId PySem.F.plain_proto_collect _]
  show wpAny _ A.in1 (newList [] >>= fun l => again (.builtin "list.__iadd__" ⟨[l, .ref r], []⟩)) _ _ s
  refine wpAny_bind (wpAny_newObj_type ?_)
  refine wpAny_pure ⟨plainId_quiet PySem.F.plain_list_iadd _, codeAny_builtin PySem.F.entry_list_iadd ?_⟩
  rw [Around.under_plainId PySem.F.plain_list_iadd _]
  show wpAny _ A.in1 (Builtin.List.listExtendWith (.ref s.heap.objs.size) (.ref r) (.ref s.heap.objs.size)) _ _ _
  have hS : (s.heap.push { cls := .type "list", data := .seq ([] : List Value).toArray }).get? s.heap.objs.size = some { cls := .type "list", data := .seq #[] 0 } := Heap.get?_push_size _ rfl
  have hlt := K.there _ hok
  refine wpAny_mono (PySem.W.kdl_extend (A := A) (R := fun rr s' => rr = .ok (.ret (.ref s.heap.objs.size)) ∧ ∃ (h' : Heap) (tk : Nat) (acc : Array Value) (c' : Nat), s' = { s with heap := h', toks := tk } ∧
      (∀ b o, s.heap.get? b = some o → h'.get? b = some o) ∧ h'.get? s.heap.objs.size = some { cls := .type "list", dict := none, data := .seq acc c', slots := #[] } ∧ ItemsOf P acc n)
    (s := { s with heap := s.heap.push { cls := .type "list", data := .seq ([] : List Value).toArray } }) K hh (K.keep _ _ hok fun b _ o e => Heap.get?_push_of_some _ e) s.heap.objs.size (Nat.ne_of_gt hlt.1) (Nat.ne_of_gt hlt.2) (.ref s.heap.objs.size) 0 hS
    (fun h' tk acc c' hk e hi => ⟨rfl, h', tk, acc, c', rfl, fun b o q => hk b o (Nat.ne_of_lt (Heap.lt_size q)) (Heap.get?_push_of_some _ q), e, hi⟩) hn) (fun fin s' h => ?_) (fun e s' h => ?_)
  · cases fin with
    | done f =>
      obtain ⟨e, h', tk, acc, c', rfl, hk, hS', hi⟩ := h
      cases e
      show wpAny _ A (load s.heap.objs.size >>= _) _ _ _
      exact wpAny_bind (wpAny_load hS' (wpAny_pure (hQ h' tk acc hk hi)))
    | again c' =>
      refine ⟨h.1, codeAny_mono h.2 fun rr s'' hr' => ?_⟩
      obtain ⟨rfl, h', tk, acc, c', rfl, hk, hS', hi⟩ := hr'
      show wpAny _ A (load s.heap.objs.size >>= _) _ _ _
      exact wpAny_bind (wpAny_load hS' (wpAny_pure (hQ h' tk acc hk hi)))
  · exact absurd h.1 (by simp)
theorem code_tuple_kdl {Q₁ : Value → Shared → Prop} (K : PySem.W.KdlSrc prog w "dict" r d n P OK) (hh : A.handled = none) (hok : OK s.heap) (hn : n ≤ sizeLine)
    (h : ∀ (h' : Heap) (tk : Nat) (acc : Array Value), (∀ b o, s.heap.get? b = some o → h'.get? b = some o) → ItemsOf P acc n → Q₁ (.ref h'.objs.size) { s with heap := h'.push { cls := .type "tuple", data := .seq acc }, toks := tk }) :
    codeAny (model prog w) A (.call (.builtin "tuple.__new__") ⟨[.type "tuple", .ref r], []⟩) (wants Q₁ E) s := by
  refine codeAny_of_tree ?_
  show wpAny _ A.in1 (do checkBuiltinCall "tuple.__new__" ⟨[.type "tuple", .ref r], []⟩; again (.builtin "tuple.__new__" ⟨[.type "tuple", .ref r], []⟩)) _ _ s
  refine wpAny_bind (wpAny_of_eq (PySem.F.newCall_tuple_1 _) (wpAny_pure ⟨plainId_quiet PySem.F.plain_tuple_new _, codeAny_builtin PySem.F.entry_tuple_new ?_⟩))
  rw [Around.under_plainId PySem.F.plain_tuple_new _]
  have hsub := sub_tuple_self
  have hinit := init_tuple_lookup
  have hmh := madeHere_tuple
  have hTI : s.TypeIs (.ref r) "dict" := K.type s hok
  have hh1 : A.in1.handled = none := hh
  wp_walk using wpAny_typeOf hTI, collect_kdl (A := A.in1) K hh1 hok hn
  intro h' tk acc hk hacc
  show wpAny _ _ (Builtin.Tuple.tupleExact acc.toList.toArray >>= fun v => ret v) _ _ _
  unfold Builtin.Tuple.tupleExact
  refine wpAny_bind (wpAny_newObj_type ?_ (by show acc.toList.toArray.size ≤ sizeLine; simp only [Array.toArray_toList]; rw [hacc.1]; exact hn))
  refine wpAny_pure ?_
  have e : acc.toList.toArray = acc := by simp
  rw [e]
  exact h h' tk acc hk hacc
theorem call_tuple_kdl {Q : Value → Shared → Prop} (K : PySem.W.KdlSrc prog w "dict" r d n P OK) (hh : A.handled = none) (hok : OK s.heap) (hn : n ≤ sizeLine)
    (hQ : ∀ (h' : Heap) (tk : Nat) (acc : Array Value), (∀ b o, s.heap.get? b = some o → h'.get? b = some o) → ItemsOf P acc n → Q (.ref h'.objs.size) { s with heap := h'.push { cls := .type "tuple", data := .seq acc }, toks := tk }) :
    wpAny (model prog w) A (call (.type "tuple") [.ref r]) Q E s := by
  refine callType_codes (Q₁ := fun obj s₁ => s₁.TypeIs obj "tuple" ∧ Q obj s₁) PySem.F.called_tuple (PySem.F.typeCall_tuple_1 _) PySem.F.entry_object_init
    (code_tuple_kdl (A := A.in1) K hh hok hn fun h' tk acc hk hacc => ⟨⟨_, Heap.get?_push_size _ rfl, rfl⟩, hQ h' tk acc hk hacc⟩) fun obj s₁ h₁ => ?_
  exact ⟨h₁.1, PySem.F.args_object_init_2 obj _, object_init_meets PySem.F.called_tuple.init.lookup PySem.F.called_tuple.made (by decide) prog w A.in1 _ s₁ ⟨h₁.1, rfl, h₁.2⟩⟩
end
section
variable {X : Cx}
def rTupS (P : Program) (w : World) : List V → Hp → VK → Prop := fun xs H Q => ∃ (d : Addr) (L : List (Addr × Sta)), xs = [V.ref d] ∧ H d = some (SDO P w d L) ∧ Sts H L ∧ ∀ p, H p = none → Q (.ref p) (upd H p (.tup (L.map fun q => V.ref q.1)))
theorem call_tupS (hc : X.calm = true) : CallR X (.type "tuple") (rTupS X.prog X.w) := by
  intro pins s σ H xs us Q I r h
  obtain ⟨d, L, rfl, hd, hst, q⟩ := h
  obtain ⟨u, rfl, rx⟩ := r.one
  cases rx
  obtain ⟨z, hs, ⟨o, es, ep, ho, hx, hdt, he, _⟩, nd⟩ := sd_of I.hok hd hst
  have l1 : es.size = (xsOf L).length := size_of_entries he
  have l2 : (xsOf L).length = L.length := List.length_map _
  refine call_tuple_kdl (kdl_raw hs hx hdt) (I.ok.hd hc) ho (by omega) fun h' tk acc kp it => ?_
  have ea : acc.toList = (L.map (·.1)).map Value.ref := by
    have hl : acc.toList.length = L.length := by rw [Array.length_toList, it.1, l1, l2]
    apply List.ext_getElem?
    intro j
    rw [List.map_map, List.getElem?_map]
    cases hj : acc.toList[j]? with
    | none =>
      have h1 := List.getElem?_eq_none_iff.mp hj
      rw [List.getElem?_eq_none (by omega)]
      all_goals rfl
    | some v =>
      obtain ⟨en, hen, hv⟩ := it.2 j v (by rw [← Array.getElem?_toList]; exact hj)
      have qe := entry_at he j
      rw [hen] at qe
      unfold xsOf at qe
      rw [List.getElem?_map] at qe
      cases hb : L[j]? with
      | none =>
        rw [hb] at qe
        cases qe
      | some b =>
        rw [hb] at qe
        have e2 : en = entryOfKey (nestedKind X.prog X.w) (nk b.2, b.1, .bool true) := Option.some.inj qe
        rw [hv, e2]
        all_goals rfl
  have rv : Vals (L.map fun q => V.ref q.1) acc.toList := by
    rw [ea]
    have := vals_refs (L.map (·.1))
    rwa [List.map_map] at this
  have I2 : Inv X pins σ H { s with heap := h', toks := tk } := I.kept kp
  refine ⟨.ref h'.objs.size, _, I2.laid (t' := tk) (o := .tup (L.map fun q => V.ref q.1)) (fun c o e => Heap.get?_push_of_some _ e) (Nat.le_refl _) ⟨by rw [List.length_map]; exact z, acc.toList, rv, ?_⟩, rfl, q _ (I2.hok.fresh (Nat.le_refl _))⟩
  rw [Array.toArray_toList]
  exact IsTup.new _ _
def rLenS (P : Program) (w : World) : List V → Hp → VK → Prop := fun xs H Q => ∃ (d : Addr) (L : List (Addr × Sta)), xs = [V.ref d] ∧ H d = some (SDO P w d L) ∧ Sts H L ∧ Q (.int ((L.length : Nat) : Int)) H
theorem call_lenS : CallR X (.builtin "len") (rLenS X.prog X.w) := by
  intro pins s σ H xs us Q I r h
  obtain ⟨d, L, rfl, hd, hst, q⟩ := h
  obtain ⟨u, rfl, rx⟩ := vals1 r
  obtain rfl : u = .ref d := rx
  obtain ⟨z, hs, dd, _⟩ := sd_of I.hok hd hst
  have l2 : (xsOf L).length = L.length := List.length_map _
  refine call_len_dictH hs dd (by rw [l2]; rw [sizeLine_eq] at z; omega) ?_
  rw [l2]
  exact ⟨.int ((L.length : Nat) : Int), H, I.tok _, ⟨_, rfl⟩, q⟩
end
end SDx
namespace LamO
open PySem PySem.Spec PyProof.Rows L2 LamX
structure LamS1 (sc scope : Scope) (pn : Str) : Prop where
  kind : scope.kind = .function
  co : scope.isCoroutine = false
  gen : scope.isGenerator = false
  own : ∀ y ∈ scope.names, y.2 ≠ .cell ∧ (y.2 = .local → y.1 = pn)
  loc : scope.names.lookup pn = some .local
  free : ∀ y ∈ scope.names, y.2 = .free → sc.names.lookup y.1 = some .cell ∨ sc.names.lookup y.1 = some .free
def lamSB1 (sc scope : Scope) (pn : Str) : Bool :=
  decide (scope.kind = .function) && !scope.isCoroutine && !scope.isGenerator && decide (scope.names.lookup pn = some .local) && scope.names.all fun y => !decide (y.2 = .cell) && (!decide (y.2 = .local) || decide (y.1 = pn)) && (!decide (y.2 = .free) || decide (sc.names.lookup y.1 = some .cell) || decide (sc.names.lookup y.1 = some .free))
theorem lamS1_by {sc scope : Scope} {pn : Str} (h : lamSB1 sc scope pn = true) : LamS1 sc scope pn := by
  unfold lamSB1 at h
  simp only [Bool.and_eq_true, Bool.or_eq_true, Bool.not_eq_true', decide_eq_true_eq, decide_eq_false_iff_not, List.all_eq_true] at h
  obtain ⟨⟨⟨⟨h1, h2⟩, h3⟩, h5⟩, h4⟩ := h
  refine ⟨h1, h2, h3, fun y hy => ⟨(h4 y hy).1.1, fun e => ?_⟩, h5, fun y hy e => ?_⟩
  · rcases (h4 y hy).1.2 with z | z
    · exact absurd e z
    · exact z
  · rcases (h4 y hy).2 with (z | z) | z
    · exact absurd e z
    · exact .inl z
    · exact .inr z
theorem LamS1.has {X : Cx} {scope : Scope} {pn : Str} (L : LamS1 X.env.scope scope pn) (ok : X.Ok) : ∀ y ∈ scope.names, y.2 = .free → ∃ c, X.env.cells.lookup y.1 = some c := fun y hy e => by
  rcases L.free y hy e with k | k
  · exact ok.has _ (.inl k)
  · exact ok.has _ (.inr k)
structure Live (X : Cx) (s : Shared) (H : Hp) (f : Addr) (ob : Obj) (s' : Shared) (H' : Hp) : Prop where
  fn : s'.heap.get? f = some ob
  fno : H' f = none
  cel : ∀ y c o, X.env.cells.lookup y = some c → s.heap.get? c = some o → (∃ sl, s'.heap.get? c = some { o with slots := sl }) ∧ H' c = none
section
variable {X : Cx} {pins : List (Addr × Obj)} {σ : L2.St} {H HZ : Hp} {s s1 : Shared}
theorem lam_start1 {A : Around} {outer : List Env} {E : XK} {scope : Scope} {f c' : Addr} {h₁ : Heap} {tk k : Nat} {pn : Str} {v : V} {u : Value} {ob : Obj} (I : Inv X pins σ H s) (L : LamS1 X.env.scope scope pn) (hk : X.N[k]? = some pn) (hN : X.N.Nodup) (e0 : Env0 X.prog X.w X.K X.mg X.base A outer s1 HZ) (hd : A.handled = none)
    (lv : Live X s H f ob s1 HZ) (rv : RelV v u) (hns : h₁.Ns s1.heap.objs.size fun y => ([(pn, u)] : List (Str × Value)).reverse.lookup y) (kp : ∀ b o, s1.heap.get? b = some o → h₁.get? b = some o) :
    Inv (lamCx X A outer s1 HZ E scope f c') [] (σ.set k (some v)) HZ { s1 with heap := h₁, toks := tk } := by
  have hfree := L.has I.ok
  have cm : ∀ {y c}, (cloFrom X.env.cells scope.names []).lookup y = some c → X.env.cells.lookup y = some c := fun {y c} e => by
    rcases cloFrom_mem (PySem.mem_of_lookup e) with hm | ⟨h1, h2⟩
    · cases hm
    · obtain ⟨c1, hc⟩ := hfree _ h1 rfl
      have hc : X.env.cells.lookup y = some c1 := hc
      have e2 : c = c1 := by
        rw [h2, hc] <;> rfl
      rw [e2]
      exact hc
  have look : ∀ {y}, scope.names.lookup y = some .free → ∃ c, (cloFrom X.env.cells scope.names []).lookup y = some c := fun {y} hl => by
    have hy : (y, NameKind.free) ∈ scope.names := PySem.mem_of_lookup hl
    exact mem_lookup (cloFrom_has (cells := X.env.cells) (acc := []) hy)
  have cellK : ∀ {y : Str} {c : Addr} {v : Option Value}, X.env.cells.lookup y = some c → s.heap.IsCell c v → h₁.IsCell c v := fun {y c v} n ⟨o, ho, hd⟩ => by
    obtain ⟨⟨sl, q⟩, _⟩ := lv.cel y c o n ho
    exact ⟨_, kp _ _ q, hd⟩
  have noA : ∀ b : Addr, b ∉ (lamCx X A outer s1 HZ E scope f c').ex := fun b z => absurd (show b ∈ ([] : List Addr) from z) (by simp)
  have nfl : ∀ {y}, scope.names.lookup y = some .free → y ≠ pn := fun {y} h z => by
    rw [z, L.loc] at h
    cases h
  refine ⟨⟨e0.mod, L.kind, rfl, rfl, Nat.le_refl _, fun y z c e1 e2 => I.ok.inj y z c (cm e1) (cm e2), fun y hy => ?_, fun y c z _ => ?_, fun _ => hd, Around.frames_deeper e0.frames, .inr ⟨rfl, rfl⟩, fun b z => absurd z (noA b), e0.bs, e0.bsz, fun b _ _ => noA b,
      fun b z => absurd z (noA b), e0.funs, e0.frf⟩,
    rfl, e0.bare, Un.kept kp, ⟨_, hns, fun i y v' e1 e2 e3 => ?_⟩, fun y c e => ?_, e0.hok.fresh (Nat.le_refl _), fun y c e => ?_, fun q hq => absurd (show q ∈ ([] : List (Addr × Obj)) ++ [] from hq) (by simp), e0.hok.kept kp, by rw [List.length_set]; exact I.len⟩
  · have hy : scope.names.lookup y = some .cell ∨ scope.names.lookup y = some .free := hy
    rcases hy with hy | hy
    · exact absurd rfl (L.own _ (PySem.mem_of_lookup hy)).1
    · exact look hy
  · have z : false = true := z
    cases z
  · have e3 : Vis scope y := e3
    have e1 : X.N[i]? = some y := e1
    rcases e3 with q | q | q
    · have hy : y = pn := (L.own _ (PySem.mem_of_lookup q)).2 rfl
      subst hy
      have ik : i = k := by
        obtain ⟨hi, a1⟩ := List.getElem?_eq_some_iff.mp e1
        obtain ⟨hk', a2⟩ := List.getElem?_eq_some_iff.mp hk
        have hp := List.pairwise_iff_getElem.mp hN
        rcases Nat.lt_trichotomy i k with z | z | z
        · exact absurd (a1.trans a2.symm) (hp i k hi hk' z)
        · exact z
        · exact absurd (a2.trans a1.symm) (hp k i hk' hi z)
      subst ik
      have hl : i < σ.length := by
        rw [I.len]
        exact (List.getElem?_eq_some_iff.mp hk).1
      rw [List.getElem?_set_self hl] at e2
      cases e2
      refine ⟨u, rv, .inl ⟨q, ?_⟩⟩
      show ([(y, u)] : List (Str × Value)).reverse.lookup y = some u
      simp [List.lookup]
    · exact absurd rfl (L.own _ (PySem.mem_of_lookup q)).1
    · have hne : y ≠ pn := nfl q
      have ik : k ≠ i := fun z => by
        rw [z, e1] at hk
        exact hne (Option.some.inj hk)
      rw [List.getElem?_set_ne ik] at e2
      obtain ⟨m, hn, hl⟩ := I.loc
      have hvis : Vis X.env.scope y := (L.free _ (PySem.mem_of_lookup q) rfl).elim (fun k => .inr (.inl k)) (fun k => .inr (.inr k))
      obtain ⟨w', r, qq⟩ := hl i y v' e1 e2 hvis
      obtain ⟨c2, h2⟩ := look q
      refine ⟨w', r, .inr ⟨.inr q, c2, h2, ?_⟩⟩
      have c1 := cm h2
      rcases qq with ⟨k', _⟩ | ⟨_, c3, e', z⟩
      · have k' : X.env.scope.names.lookup y = some .local := k'
        rcases L.free _ (PySem.mem_of_lookup q) rfl with k2 | k2 <;> rw [show X.env.scope.names.lookup y = _ from k2] at k' <;> cases k'
      · rw [c1] at e'
        cases e'
        exact cellK c1 z
  · obtain ⟨w', z⟩ := I.cell y c (cm e)
    exact ⟨w', cellK (cm e) z⟩
  · obtain ⟨v, o, ho, hd⟩ := I.cell y c (cm e)
    exact (lv.cel y c o (cm e) ho).2
theorem env0_less {P : Program} {w : World} {K : PySem.W.Frag} {mg : Str → Option Value} {base B : Heap} {A : Around} {outer : List Env} {s : Shared} {H : Hp} (e : Env0 P w K mg B A outer s H) (m : Mod K mg base) (hb : ∀ b o, base.get? b = some o → B.get? b = some o) (hz : base.objs.size ≤ B.objs.size) : Env0 P w K mg base A outer s H :=
  ⟨e.frames, m, fun b o q => e.bs b o (hb b o q), Nat.le_trans hz e.bsz, funFrames_none e.funs (fun L hL => by
    cases q : base.get? L with
    | none => rfl
    | some o =>
      have z := (e.funs.mem hL).1
      rw [hb L o q] at z
      cases z), e.frf, e.hok, e.bare⟩
theorem fn_base {P : Program} {w : World} {K : PySem.W.Frag} {mg : Str → Option Value} {base B : Heap} {CX : CXT} {k : Nat} {f : Addr} {fd : FuncData} {ps : List Str} {sp : Sp} (F : FnOk P w K mg base CX k f fd ps sp) (m : Mod K mg base) (hb : ∀ b o, base.get? b = some o → B.get? b = some o) (hz : base.objs.size ≤ B.objs.size) : FnOk P w K mg B CX k f fd ps sp :=
  ⟨F.len, fun A outer s H args us vs Q E hr e => F.run A outer s H args us vs Q E hr (env0_less e m hb hz)⟩
theorem base_more {f : Addr} {ob : Obj} (I : Inv X pins σ H s) (hf : s.heap.get? f = some ob) (hfn : H f = none) (hfr : f ∉ frs X.stack) (hX : ∀ y, X.fn y = true) :
    ∃ B : Heap, (∀ b o, X.base.get? b = some o → B.get? b = some o) ∧ X.base.objs.size ≤ B.objs.size ∧ B.get? f = some ob ∧ (∀ y c o, X.env.cells.lookup y = some c → s.heap.get? c = some o → B.get? c = some o) ∧ Env0 X.prog X.w X.K X.mg B X.A X.stack s H := by
  obtain ⟨p, hp⟩ : ∃ p : Addr → Bool, p = fun b => (X.base.get? b).isSome || decide (b = f) || X.env.cells.any fun q => decide (X.env.cells.lookup q.1 = some b) := ⟨_, rfl⟩
  obtain ⟨l, hl⟩ : ∃ l : List Addr, l = (List.range s.heap.objs.size).filter fun b => !p b := ⟨_, rfl⟩
  have m1 : ∀ b, b ∈ l → p b = false := fun b hb => by
    rw [hl] at hb
    simpa using (List.mem_filter.mp hb).2
  have m2 : ∀ b, b < s.heap.objs.size → p b = false → b ∈ l := fun b h1 h2 => by
    rw [hl]
    exact List.mem_filter.mpr ⟨List.mem_range.mpr h1, by simp [h2]⟩
  have g1 : ∀ b o, s.heap.get? b = some o → p b = true → (PySem.W.hideAll s.heap l).get? b = some o := fun b o e h => PySem.W.hideAll_get l e fun hm => by rw [m1 b hm] at h; cases h
  have g2 : ∀ b o, (PySem.W.hideAll s.heap l).get? b = some o → s.heap.get? b = some o ∧ p b = true := fun b o e => by
    have z := PySem.W.of_hideAll l e
    refine ⟨z, ?_⟩
    cases h : p b with
    | true => rfl
    | false =>
      rw [PySem.W.hideAll_none l (m2 b (Heap.lt_size z) h)] at e
      cases e
  have sz : (PySem.W.hideAll s.heap l).objs.size = s.heap.objs.size := PySem.W.hideAll_size l s.heap
  have pb : ∀ b o, X.base.get? b = some o → p b = true := fun b o e => by rw [hp]; simp [e]
  have pf : p f = true := by rw [hp]; simp
  have pc : ∀ y c, X.env.cells.lookup y = some c → p c = true := fun y c e => by
    rw [hp]
    simp only [Bool.or_eq_true, List.any_eq_true, decide_eq_true_eq]
    exact .inr ⟨(y, c), PySem.mem_of_lookup e, e⟩
  have kb : ∀ b o, X.base.get? b = some o → (PySem.W.hideAll s.heap l).get? b = some o := fun b o e => g1 b o (I.bk b o e) (pb b o e)
  have e0 := I.env0
  have pin : ∀ b, p b = true → (∃ o, X.base.get? b = some o) ∨ b = f ∨ ∃ y, X.env.cells.lookup y = some b := fun b h => by
    rw [hp] at h
    simp only [Bool.or_eq_true, List.any_eq_true, decide_eq_true_eq] at h
    rcases h with (h | h) | ⟨q, _, hq⟩
    · exact .inl (Option.isSome_iff_exists.mp h)
    · exact .inr (.inl h)
    · exact .inr (.inr ⟨q.1, hq⟩)
  refine ⟨PySem.W.hideAll s.heap l, kb, by rw [sz]; exact e0.bsz, g1 f ob hf pf, fun y c o e e2 => g1 c o e2 (pc y c e), ⟨e0.frames, ⟨e0.mod.kin.keeps kb, e0.mod.glob.keeps kb, let ⟨mb, b1, b2⟩ := e0.mod.blt; ⟨mb, b1.keeps kb, b2⟩, e0.mod.nolimit.keeps kb⟩, fun b o e => ?_, by rw [sz]; exact Nat.le_refl _, funFrames_none e0.funs fun L hL => ?_, e0.frf, e0.hok, e0.bare⟩⟩
  · obtain ⟨e1, h⟩ := g2 b o e
    refine ⟨e1, ?_⟩
    rcases pin b h with ⟨o', q⟩ | rfl | ⟨y, q⟩
    · exact (e0.bs b o' q).2
    · exact hfn
    · exact I.freeC y b q
  · cases q : (PySem.W.hideAll s.heap l).get? L with
    | none => rfl
    | some o =>
      exfalso
      obtain ⟨e1, h⟩ := g2 L o q
      rcases pin L h with ⟨o', q'⟩ | rfl | ⟨y, q'⟩
      · have z := (e0.funs.mem hL).1
        rw [q'] at z
        cases z
      · exact hfr hL
      · obtain ⟨v, oc, hoc, hdc⟩ := I.cell y L q'
        rcases List.mem_cons.mp (I.stkSub L hL) with e | hfs
        · obtain ⟨m, ⟨o', es, ep, e2, hd2, _⟩, _⟩ := I.loc
          rw [e] at hoc
          rw [hoc] at e2
          cases e2
          rw [hdc] at hd2
          cases hd2
        · have := I.ok.cab y L (hX y) q'
          obtain ⟨_, o2, ho2, _⟩ := I.ok.funs.mem hfs
          exact absurd (Nat.lt_of_lt_of_le (Heap.lt_size ho2) this) (Nat.lt_irrefl _)
structure ActOk (X Y : Cx) (s : Shared) (H : Hp) (f : Addr) (ob : Obj) : Prop where
  pr : Y.prog = X.prog
  w : Y.w = X.w
  env : ∀ pins σ H' s', Inv Y pins σ H' s' → Env0 X.prog X.w X.K X.mg X.base Y.A Y.stack s' H'
  live : ∀ pins σ H' s', Inv Y pins σ H' s' → Live X s H f ob s' H'
theorem act_of {Y : Cx} {B : Heap} {f : Addr} {ob : Obj} (hb : ∀ b o, X.base.get? b = some o → B.get? b = some o) (hz : X.base.objs.size ≤ B.objs.size) (hf : B.get? f = some ob) (hcl : ∀ y c o, X.env.cells.lookup y = some c → s.heap.get? c = some o → B.get? c = some o) (m : Mod X.K X.mg X.base)
    (e1 : Y.prog = X.prog) (e2 : Y.w = X.w) (e3 : Y.K = X.K) (e4 : Y.mg = X.mg) (e5 : Y.base = B) : ActOk X Y s H f ob := by
  refine ⟨e1, e2, fun p σ' H' s' I => ?_, fun p σ' H' s' I => ?_⟩
  · have e0 : Env0 X.prog X.w X.K X.mg B Y.A Y.stack s' H' := by
      rw [← e1, ← e2, ← e3, ← e4, ← e5]
      exact I.env0
    exact env0_less e0 m hb hz
  · have q : ∀ b o, B.get? b = some o → s'.heap.get? b = some o ∧ H' b = none := fun b o h => I.bs b o (by rw [e5]; exact h)
    exact ⟨(q f ob hf).1, (q f ob hf).2, fun y c o h1 h2 => ⟨⟨o.slots, (q c o (hcl y c o h1 h2)).1⟩, (q c o (hcl y c o h1 h2)).2⟩⟩
theorem pe_act1 {Y : Cx} {f c' : Addr} {pm ctv : Value} {params : Arguments} {body e : Expr} {scope : Scope} {k kp i : Nat} {a pn : Str} {tb te : TE} {p1 p2 : Pos}
    (I : Inv X pins σ H s) (L : LamS1 X.env.scope scope pn) (hkp : X.N[kp]? = some pn) (hXN : X.N.Nodup) (Y1 : ActOk X Y s H f (PySem.W.kla_obj "<lambda>" (X.env.qual ++ "<lambda>") params body scope (cloFrom X.env.cells scope.names []) pm c' ctv))
    (hbind : ∀ u : Value, bindArgs (PySem.W.kla_fn "<lambda>" (X.env.qual ++ "<lambda>") params body scope (cloFrom X.env.cells scope.names []) pm (.ref c') ctv) ⟨[u], []⟩ = pure [(pn, u)])
    (hr : Room (k + 1) Y.A)
    (hbody : ∀ (A : Around) (outer : List Env) (s : Shared) (H : Hp), Room k (A.deeper (lamEnv X scope s.heap.objs.size f c')) → PE (lamCx X A outer s H L2.E0 scope f c') body tb) (he : PE Y e te)
    (hN : Y.N[i]? = some a) (hv : Vis Y.env.scope a) (hd : (a == ("__debug__" : Str)) = false := by decide) (hcd : (a == ("__classdict__" : Str)) = false := by decide)
    (hst : starEach [e] Y.env = (false, eval e Y.env) :: starEach [] Y.env := by rfl) (hpl : (backTo p2 (starEach [] Y.env)).any (·.1) = false := by rfl) :
    PE Y (.Call (.Name a p1) [e] [] p2)
      (fun σZ HZ Q => σZ[i]? = some (some (.ref f)) ∧ te σZ HZ fun v H1 => H1 c' = some (CodeO c' (X.env.qual ++ "<lambda>")) ∧ tb (σ.set kp (some v)) H1 Q) := by
  refine ⟨fun pinsZ sZ σZ HZ Q IZ h => ?_⟩
  obtain ⟨hs, ht⟩ := h
  refine wpAny_Call_Name_kw (thn ((pe_var (pos := p1) (i := i) hN hv hd hcd).run pinsZ sZ σZ HZ (fun v H1 => v = .ref f ∧ H1 = HZ) IZ ⟨.ref f, hs, rfl, rfl⟩) fun u s1 ⟨v, H1, I1, r1, q1⟩ => ?_)
  obtain ⟨ev, eH⟩ := q1
  subst ev
  rw [eH] at I1
  obtain rfl : u = Value.ref f := r1
  refine PySem.W.callWith_F ⟨_, _, _, _, (Y1.live _ _ _ _ I1).fn⟩ ?_ hst hpl
  refine args_cons (thn (he.run pinsZ s1 σZ HZ _ I1 ht) fun w' s2 ⟨v', H2, I2, r2, hc, q2⟩ => args_nil ?_) hst
  have l2 := Y1.live _ _ _ _ I2
  refine ⟨⟨_, _, _, _, l2.fn⟩, ?_⟩
  obtain ⟨⟨oc, vs, t, hoc, hdc, hvc⟩, _, _⟩ := I2.hok c' _ hc
  have e0 := Y1.env _ _ _ _ I2
  have rc : codeAny (model X.prog X.w) Y.A (.call (.ref f) ⟨[w'], []⟩) (CR (L2.CX X.prog X.w) Y.stack X.prog X.w H2 s2 Q L2.E0) s2 := by
    refine PySem.W.kla_callFunE hr.depth l2.fn rfl L.co L.gen rfl ⟨c', oc, vs, t, rfl, hoc, hdc, hvc⟩ ?_
    rw [hbind]
    have lim : s2.heap.NoLimit := I2.nolimit
    refine wpAny_pure (wpAny_newFunctionEnv (fun y hy => (L.own y hy).1) (fun y hy => ?_) (fun h₁ hns hsb => ⟨lim.fresh _ hsb, ?_⟩) L.kind)
    · rw [List.mem_singleton.mp hy]
      exact L.loc
    show codeAny _ _ (.expr body (lamEnv X scope s2.heap.objs.size f c')) _ _
    have kp : ∀ b o, s2.heap.get? b = some o → h₁.get? b = some o := fun b o e => hsb.extBut b o (Nat.ne_of_lt (Heap.lt_size e)) (Heap.get?_push_of_some _ e)
    have J : Inv (lamCx X Y.A Y.stack s2 H2 L2.E0 scope f c') [] (σ.set _ (some v')) H2 { s2 with heap := h₁, toks := s2.toks + ([(pn, w')] : List (Str × Value)).length } :=
      lam_start1 I L hkp hXN e0 hr.hd l2 r2 hns kp
    refine PySem.W.kla_codeExpr (wpAny_mono ((hbody _ _ s2 H2 (hr.deeper _)).run [] _ _ H2 Q J q2) (fun v s' hq => ?_) fun e s' hq => hq)
    obtain ⟨w', H', J', rv, q⟩ := hq
    exact ⟨w', H', J'.os, J'.bare, J'.base, J'.hok, rv, q⟩
  rw [← Y1.pr, ← Y1.w] at rc
  refine wpAny_call (codeAny_mono rc fun r s' hq => ?_)
  cases r with
  | error e =>
    obtain ⟨_, _, _, _, _, _, _, _, _, _, _, _, z⟩ := (show L2.CX Y.prog Y.w Y.stack H2 s2 L2.E0 e s' from hq)
    exact z.elim
  | ok fl =>
    cases fl with
    | ret u => exact I2.after hq
    | next => exact False.elim hq
    | brk => exact False.elim hq
    | cont => exact False.elim hq
end
end LamO
namespace LamO
open PySem PySem.Spec PyProof.Rows L2 LamX
def GivesTo1 (X : Cx) (kc kl : Nat) (Ng : List Str) (x : Str) (sg : Scope) (g : Addr) (cdg : Value) (bg : List Stmt) (a : Str) (q : Str) (TT : List V → (V → Hp → VK → Prop) → Hp → VK → Prop) : Prop :=
  ∀ (B : Heap) (f c' : Addr) (s : Shared) (H : Hp) (Q : VK) (vs : List V) (tl : V → Hp → VK → Prop), Mod X.K X.mg X.base →
    (∀ b o, X.base.get? b = some o → B.get? b = some o) → X.base.objs.size ≤ B.objs.size → Room kc (X.A.deeper (envOfC x sg s.heap.objs.size g cdg)) →
    (∀ (Y : Cx) (e : Expr) (te : TE) (p1 p2 : Pos) (i : Nat), Y.prog = X.prog → Y.w = X.w → Y.K = X.K → Y.mg = X.mg → Y.base = B → Room (kl + 1) Y.A → PE Y e te → Y.N[i]? = some a → Vis Y.env.scope a →
      starEach [e] Y.env = (false, eval e Y.env) :: starEach [] Y.env → (backTo p2 (starEach [] Y.env)).any (·.1) = false →
      PE Y (.Call (.Name a p1) [e] [] p2) (fun σZ HZ Q => σZ[i]? = some (some (.ref f)) ∧ te σZ HZ fun v H1 => H1 c' = some (CodeO c' q) ∧ tl v H1 Q)) →
    H c' = some (CodeO c' q) → TT vs tl H Q →
    ∃ t, PSs (cxOf C8.CX0 X.prog X.w X.K X.mg B Ng x sg g cdg X.A X.stack s H C8.E0).nox bg t ∧ t { nx := fun _ H' => Q .non H', rt := Q } (L2.start Ng (vs ++ [.ref f])) H
def tL1 (T : List (Addr × Str)) (TT : List V → (V → Hp → VK → Prop) → Hp → VK → Prop) (kp : Nat) (t1 t : TE) : TE := fun σ H Q => t1 σ H fun v1 H1 => Tabs T H1 ∧ ∀ H2, ExtN H1 H2 → Tabs T H2 → TT [v1] (fun v H' Q' => t (σ.set kp (some v)) H' Q') H2 Q
def tL2 (T : List (Addr × Str)) (TT : List V → (V → Hp → VK → Prop) → Hp → VK → Prop) (kp : Nat) (t1 t2 t : TE) : TE := fun σ H Q => t1 σ H fun v1 H1 => t2 σ H1 fun v2 H2 => Tabs T H2 ∧ ∀ H3, ExtN H2 H3 → Tabs T H3 → TT [v1, v2] (fun v H' Q' => t (σ.set kp (some v)) H' Q') H3 Q
section
variable {X : Cx} {T : List (Addr × Str)} {TT : List V → (V → Hp → VK → Prop) → Hp → VK → Prop} {x a pn : Str} {g c P : Addr} {kc kl kp : Nat} {pg : Arguments} {bg : List Stmt} {sg : Scope} {dV kV doc pm cdv ct oc : Value} {an od : Option Addr} {osl : Array (Option Value)} {Ng ps : List Str}
    {params : Arguments} {body : Expr} {scope : Scope} {t : TE} {p lpos pos : Pos}
theorem lam_call {pins : List (Addr × Obj)} {σ : L2.St} {H1 : Hp} {s' : Shared} {Q : VK} {f c' : Addr} {pm' ctv : Value} {us : List Value} {vs : List V}
    (lk : X.K.lookup g = some ⟨oc, od, .func (PySem.W.fnOf x x pg bg sg dV kV doc pm an cdv ct), osl⟩) (hcg : PySem.W.codeIn X.K cdv x = true) (hb : L2.Binds X.K (PySem.W.fnOf x x pg bg sg dV kV doc pm an cdv ct) ps []) (Sg : FnScope Ng ps sg)
    (hG : GivesTo1 X kc kl Ng x sg g cdv bg a (X.env.qual ++ "<lambda>") TT) (hr : Room (kc + 1) X.A) (L : LamS1 X.env.scope scope pn) (hkp : X.N[kp]? = some pn) (hXN : X.N.Nodup) (hX : ∀ y, X.fn y = true)
    (hbind : ∀ (q : Str) (cl : List (Str × Addr)) (pm cv ctv u : Value), bindArgs (PySem.W.kla_fn "<lambda>" q params body scope cl pm cv ctv) ⟨[u], []⟩ = pure [(pn, u)])
    (hbody : ∀ (A : Around) (outer : List Env) (s : Shared) (H : Hp) (f c' : Addr), Room kl (A.deeper (lamEnv X scope s.heap.objs.size f c')) → PE (lamCx X A outer s H L2.E0 scope f c') body t)
    (hd : (a == ("__debug__" : Str)) = false) (hcd : (a == ("__classdict__" : Str)) = false)
    (I1 : Inv X pins σ H1 s') (hf : s'.heap.get? f = some (PySem.W.kla_obj "<lambda>" (X.env.qual ++ "<lambda>") params body scope (cloFrom X.env.cells scope.names []) pm' c' ctv)) (hfn : H1 f = none) (hfr : f ∉ frs X.stack) (hco : H1 c' = some (CodeO c' (X.env.qual ++ "<lambda>")))
    (rv : Vals vs us) (hl : vs.length + 1 = ps.length) (h : TT vs (fun v H' Q' => t (σ.set kp (some v)) H' Q') H1 Q) :
    wpAny (model X.prog X.w) X.A (call (.ref g) (us ++ [.ref f])) (EP X pins σ Q) X.xe s' := by
  obtain ⟨B, b1, b2, b3, b4, e0⟩ := base_more I1 hf hfn hfr hX
  have rv2 : Vals (vs ++ [V.ref f]) (us ++ [Value.ref f]) := rv.append (.cons rfl .nil)
  have rc : codeAny (model X.prog X.w) X.A (.call (.ref g) ⟨us ++ [.ref f], []⟩) (CR C8.CX0 X.stack X.prog X.w H1 s' Q C8.E0) s' := by
    have hbb := hb s' (us ++ [.ref f]) I1.kIn (by rw [List.append_nil, ← rv2.length, List.length_append]; exact hl)
    rw [List.append_nil] at hbb
    refine run_ofS (N := Ng) (ps := ps) (us := us ++ [.ref f]) (vs := vs ++ [.ref f]) lk hcg Sg hr e0 hbb rv2 (by rw [List.length_append]; exact hl) fun hr' => ?_
    obtain ⟨t', ht', hq'⟩ := hG B f c' s' H1 Q vs (fun v H' Q' => t (σ.set kp (some v)) H' Q') I1.mod b1 b2 hr' (fun Y e te p1 p2 i y1 y2 y3 y4 y5 yr ye yN yv ys yp => by
      have z := pe_act1 (kp := kp) (k := kl) (te := te) (p1 := p1) I1 L hkp hXN (act_of (Y := Y) b1 b2 b3 b4 I1.mod y1 y2 y3 y4 y5) (fun u => hbind _ _ _ _ _ u) yr (fun A outer s H hr2 => hbody A outer s H f c' hr2) ye yN yv hd hcd ys yp
      exact z) hco h
    exact ⟨t', ht'.nox, hq'⟩
  refine wpAny_call (codeAny_mono rc fun r s2 hq => ?_)
  cases r with
  | error e => exact (show False from hq).elim
  | ok fl =>
    cases fl with
    | ret u => exact I1.after hq
    | next => exact False.elim hq
    | brk => exact False.elim hq
    | cont => exact False.elim hq
theorem pe_lam1 {e1 : Expr} {t1 : TE} (hg : Gl X x) (hm : X.mg x = some (.ref g)) (hk : PySem.W.keepIn X.K (.ref g) = true)
    (lk : X.K.lookup g = some ⟨oc, od, .func (PySem.W.fnOf x x pg bg sg dV kV doc pm an cdv ct), osl⟩) (hcg : PySem.W.codeIn X.K cdv x = true) (hb : L2.Binds X.K (PySem.W.fnOf x x pg bg sg dV kV doc pm an cdv ct) ps []) (Sg : FnScope Ng ps sg) (hps : ps.length = 2)
    (hG : GivesTo1 X kc kl Ng x sg g cdv bg a (X.env.qual ++ "<lambda>") TT)
    (TB : TabB X.base X.mg c P) (hcode : X.env.code = .ref c) (hmT : (P, X.env.qual ++ "<lambda>") ∈ T) (hu : ∀ p ∈ T, p.1 = P → p.2 = X.env.qual ++ "<lambda>") (hr : Room (kc + 1) X.A) (L : LamS1 X.env.scope scope pn) (hkp : X.N[kp]? = some pn) (hXN : X.N.Nodup) (hX : ∀ y, X.fn y = true) (hdef : defaultsOf params X.env = ([], []))
    (hbind : ∀ (q : Str) (cl : List (Str × Addr)) (pm cv ctv u : Value), bindArgs (PySem.W.kla_fn "<lambda>" q params body scope cl pm cv ctv) ⟨[u], []⟩ = pure [(pn, u)])
    (hbody : ∀ (A : Around) (outer : List Env) (s : Shared) (H : Hp) (f c' : Addr), Room kl (A.deeper (lamEnv X scope s.heap.objs.size f c')) → PE (lamCx X A outer s H L2.E0 scope f c') body t) (h1 : PE X e1 t1)
    (hdb : (x == ("__debug__" : Str)) = false := by decide) (hd : (a == ("__debug__" : Str)) = false := by decide) (hcd : (a == ("__classdict__" : Str)) = false := by decide)
    (s1 : starEach [e1, .Lambda params body scope lpos] X.env = (false, eval e1 X.env) :: starEach [.Lambda params body scope lpos] X.env := by rfl) (s2 : starEach [.Lambda params body scope lpos] X.env = (false, eval (.Lambda params body scope lpos) X.env) :: starEach [] X.env := by rfl)
    (hpl : (backTo pos (starEach [.Lambda params body scope lpos] X.env)).any (·.1) = false := by rfl) :
    PE X (.Call (.Name x p) [e1, .Lambda params body scope lpos] [] pos) (tL1 T TT kp t1 t) := by
  refine ⟨fun pins s σ H Q I h => ?_⟩
  refine wpAny_Call_Name_kw (ld_glob I hg hm ?_ hdb)
  refine PySem.W.callWith_K (h₀ := X.base) I.ok.mod.kin hk (args_cons (thn (h1.run pins s σ H _ I h) fun u1 s1' ⟨v1, H1, I1, r1, hT, h⟩ => ?_) s1) s1 hpl
  refine args_cons (lam_make2 I1 TB hcode hmT hu hT hdef (L.has I1.ok) fun f c' pm' ctv H2 s' I2 eN T2 hf hfn hfr hco => args_nil ⟨I2.kIn, ?_⟩) s2
  exact lam_call (us := [u1]) (vs := [v1]) lk hcg hb Sg hG hr L hkp hXN hX hbind hbody hd hcd I2 hf hfn hfr hco (.cons r1 .nil) (by rw [hps]; rfl) (h H2 eN T2)
theorem pe_lam2 {e1 e2 : Expr} {t1 t2 : TE} (hg : Gl X x) (hm : X.mg x = some (.ref g)) (hk : PySem.W.keepIn X.K (.ref g) = true)
    (lk : X.K.lookup g = some ⟨oc, od, .func (PySem.W.fnOf x x pg bg sg dV kV doc pm an cdv ct), osl⟩) (hcg : PySem.W.codeIn X.K cdv x = true) (hb : L2.Binds X.K (PySem.W.fnOf x x pg bg sg dV kV doc pm an cdv ct) ps []) (Sg : FnScope Ng ps sg) (hps : ps.length = 3)
    (hG : GivesTo1 X kc kl Ng x sg g cdv bg a (X.env.qual ++ "<lambda>") TT)
    (TB : TabB X.base X.mg c P) (hcode : X.env.code = .ref c) (hmT : (P, X.env.qual ++ "<lambda>") ∈ T) (hu : ∀ p ∈ T, p.1 = P → p.2 = X.env.qual ++ "<lambda>") (hr : Room (kc + 1) X.A) (L : LamS1 X.env.scope scope pn) (hkp : X.N[kp]? = some pn) (hXN : X.N.Nodup) (hX : ∀ y, X.fn y = true) (hdef : defaultsOf params X.env = ([], []))
    (hbind : ∀ (q : Str) (cl : List (Str × Addr)) (pm cv ctv u : Value), bindArgs (PySem.W.kla_fn "<lambda>" q params body scope cl pm cv ctv) ⟨[u], []⟩ = pure [(pn, u)])
    (hbody : ∀ (A : Around) (outer : List Env) (s : Shared) (H : Hp) (f c' : Addr), Room kl (A.deeper (lamEnv X scope s.heap.objs.size f c')) → PE (lamCx X A outer s H L2.E0 scope f c') body t) (h1 : PE X e1 t1) (h2 : PE X e2 t2)
    (hdb : (x == ("__debug__" : Str)) = false := by decide) (hd : (a == ("__debug__" : Str)) = false := by decide) (hcd : (a == ("__classdict__" : Str)) = false := by decide)
    (s0 : starEach [e1, e2, .Lambda params body scope lpos] X.env = (false, eval e1 X.env) :: starEach [e2, .Lambda params body scope lpos] X.env := by rfl) (s1 : starEach [e2, .Lambda params body scope lpos] X.env = (false, eval e2 X.env) :: starEach [.Lambda params body scope lpos] X.env := by rfl)
    (s2 : starEach [.Lambda params body scope lpos] X.env = (false, eval (.Lambda params body scope lpos) X.env) :: starEach [] X.env := by rfl)
    (hpl : (backTo pos (starEach [e2, .Lambda params body scope lpos] X.env)).any (·.1) = false := by rfl) :
    PE X (.Call (.Name x p) [e1, e2, .Lambda params body scope lpos] [] pos) (tL2 T TT kp t1 t2 t) := by
  refine ⟨fun pins s σ H Q I h => ?_⟩
  refine wpAny_Call_Name_kw (ld_glob I hg hm ?_ hdb)
  refine PySem.W.callWith_K (h₀ := X.base) I.ok.mod.kin hk (args_cons (thn (h1.run pins s σ H _ I h) fun u1 s1' ⟨v1, H1, I1, r1, h⟩ => args_cons (thn (h2.run pins s1' σ H1 _ I1 h) fun u2 s2' ⟨v2, H2, I2, r2, hT, h⟩ => ?_) s1) s0) s0 hpl
  refine args_cons (lam_make2 I2 TB hcode hmT hu hT hdef (L.has I2.ok) fun f c' pm' ctv H3 s' I3 eN T3 hf hfn hfr hco => args_nil ⟨I3.kIn, ?_⟩) s2
  exact lam_call (us := [u1, u2]) (vs := [v1, v2]) lk hcg hb Sg hG hr L hkp hXN hX hbind hbody hd hcd I3 hf hfn hfr hco (.cons r1 (.cons r2 .nil)) (by rw [hps]; rfl) (h H3 eN T3)
end
end LamO
namespace DicT
open PySem PySem.Spec PyProof.Rows L2 NetZ ZipN
section
variable {X : Cx}
def rTupF (K : PySem.W.Frag) : List V → Hp → VK → Prop := fun xs H Q => ∃ p ys, xs = [V.ref p] ∧ SqL K H p ys ∧ ∀ l o, H l = none → o.dict = none → Q (.ref l) (upd H l (.frz o (.tup ys)))
theorem call_tupF : CallR X (.type "tuple") (rTupF X.K) := by
  intro pins s σ H xs us Q I r h
  obtain ⟨p, ys, rfl, hq, q⟩ := h
  obtain ⟨u, rfl, rx⟩ := vals1 r
  cases rx
  obtain ⟨its, r', pl, hz⟩ := I.list hq
  have hlen := r'.length
  refine call_tuple_list pl.isList (fun h' kp => ?_) (by simp only [List.size_toArray] <;> omega)
  have I1 : Inv X pins σ H { s with heap := h' } := I.kept (t' := s.toks) kp
  have I2 : Inv X pins σ (upd H h'.objs.size (.frz { cls := .type "tuple", data := .seq its.toArray } (.tup ys))) { s with heap := h'.push { cls := .type "tuple", data := .seq its.toArray } } :=
    I1.laid (t' := s.toks) (fun b o e => Heap.get?_push_of_some _ e) (Nat.le_refl _) (show ObjOk X.prog X.w _ _ _ (.frz _ (.tup ys)) from ⟨Heap.get?_push_size _ rfl, hz, its, r', IsTup.new _ _⟩)
  exact ⟨.ref h'.objs.size, _, I2, rfl, q _ _ (I1.hok.fresh (Nat.le_refl _)) rfl⟩
theorem pairs_v {pins : List (Addr × Obj)} {σ : L2.St} {H : Hp} {s : Shared} (I : Inv X pins σ H s) : ∀ {ps : List Addr} {kvs : List (Key × V)}, Paired (fun p (kv : Key × V) => SqT X.K H p [kV kv.1, kv.2]) ps kvs →
    ∃ (vps : List (Value × Value)) (prs : List (Key × Value)), KV kvs prs ∧ vps.length = ps.length ∧ prs.length = ps.length ∧ ∀ (j : Nat) (u y : Value), vps[j]? = some (u, y) → (∃ b, ps[j]? = some b ∧ IsTup s.heap b #[u, y]) ∧ ∃ k, prs[j]? = some (k, y) ∧ (mixKind X.prog X.w).is k u = true
  | _, _, .nil => ⟨[], [], .nil, rfl, rfl, fun j u y e => by simp at e⟩
  | _, _, .cons (a := p) (b := kv) h t => by
    obtain ⟨vps, prs, r, l1, l2, hp⟩ := pairs_v I t
    obtain ⟨its, rv, ht, _⟩ := I.tuple h
    obtain ⟨u, y, ei, ru, ry⟩ := vals2 rv
    subst ei
    refine ⟨(u, y) :: vps, (kv.1, y) :: prs, .cons ⟨rfl, ry⟩ r, by rw [List.length_cons, List.length_cons, l1], by rw [List.length_cons, List.length_cons, l2], fun j u' y' e => ?_⟩
    cases j with
    | zero =>
      have e' : (u, y) = (u', y') := Option.some.inj e
      cases e'
      exact ⟨⟨p, rfl, ht⟩, kv.1, rfl, kV_is ru⟩
    | succ j => exact hp j u' y' e
def rDictF (K : PySem.W.Frag) : List V → Hp → VK → Prop := fun xs H Q => ∃ (a : Addr) (o : Obj) (ps : List Addr) (kvs : List (Key × V)), xs = [V.ref a] ∧ H a = some (.frz o (.tup (ps.map V.ref))) ∧ o.dict = none ∧ Paired (fun p kv => SqT K H p [kV kv.1, kv.2]) ps kvs ∧
    ∀ p, H p = none → Q (.ref p) (upd H p (.dK (mergeK [] kvs)))
theorem dict_new {pins : List (Addr × Obj)} {σ : L2.St} {H : Hp} {s : Shared} {kvs : List (Key × V)} {prs : List (Key × Value)} {h' : Heap} {tk : Nat} {Q : VK} (I : Inv X pins σ H s) (rel : KV kvs prs) (hz : prs.length ≤ sizeLine) (hd' : h'.DictOf (mixKind X.prog X.w) s.heap.objs.size (merged [] prs)) (k : ∀ b o, s.heap.get? b = some o → h'.get? b = some o) (q : ∀ p, H p = none → Q (.ref p) (upd H p (.dK (mergeK [] kvs)))) :
    EP X pins σ Q (.ref s.heap.objs.size) { s with heap := h', toks := tk } := by
  have hm : (s.heap.objs.size == sysModules) = false := beq_eq_false_iff_ne.mpr (Nat.ne_of_gt I.big)
  have hlen : (mergeK [] kvs).length ≤ sizeLine := by
    refine Nat.le_trans (length_mergeK kvs []) ?_
    rw [List.length_nil, Nat.zero_add, rel.length]
    exact hz
  exact ⟨.ref s.heap.objs.size, upd H s.heap.objs.size (.dK (mergeK [] kvs)), I.laid (t' := tk) k (Nat.le_refl _) (show ObjOk X.prog X.w _ _ _ (.dK (mergeK [] kvs)) from ⟨hlen, hm, merged [] prs, KV.merge rel .nil, hd'⟩), rfl, q _ (I.hok.fresh (Nat.le_refl _))⟩
theorem call_dictF (hcalm : X.calm = true) : CallR X (.type "dict") (rDictF X.K) := by
  intro pins s σ H xs us Q I r q
  obtain ⟨a, o, ps, kvs, rfl, ha, hdn, hp, q⟩ := q
  obtain ⟨u, rfl, rx⟩ := vals1 r
  cases rx
  obtain ⟨ho, hz, its, rv, ⟨o', e1, hc, n, hdat⟩⟩ := (show ObjOk X.prog X.w H s.heap a (.frz o (.tup (ps.map V.ref))) from I.hok a _ ha)
  rw [ho] at e1
  cases e1
  have ei := refs_at rv
  subst ei
  rw [List.length_map] at hz
  obtain ⟨vps, prs, rel, l1, l2, hpr⟩ := pairs_v I hp
  refine PySem.call_dict_pairs (knd := mixKind X.prog X.w) (kvs := prs) (PairArg.tuple a (ps.map Value.ref).toArray (fun j => (ps[j]?).getD 0) vps) (I.ok.hd hcalm) ⟨⟨o, n, ho, hc, hdn, hdat⟩, by simp [l1], fun j k v e => ?_⟩ ⟨by rw [l2, l1], fun i key v e => ?_⟩ (by rw [l1]; exact hz) fun h' tk hd' k => dict_new I rel (by rw [l2]; exact hz) hd' (fun b o e => k b o (fun m => nomatch m) e) q
  · obtain ⟨⟨b, e1, e2⟩, _⟩ := hpr j k v e
    refine ⟨by simp [e1], .inl ?_⟩
    show s.heap.IsTuple ((ps[j]?).getD 0) #[k, v]
    rw [e1]
    exact e2
  · exact (hpr i key v e).2
end
section
variable {prog : Program} {w : World} {z TI TO i1 i2 : Addr} {fp1 fp2 : List Addr} {n : Nat} {P1 P2 : Nat → Value → Prop} {St1 St2 : Nat → Heap → Prop}
theorem zst_frame {A : Around} {d : Addr} {i : Nat} {h h' : Heap} (D1 : Draws prog w A i1 fp1 n P1 St1) (D2 : Draws prog w A i2 fp2 n P2 St2) (st : ZSt z TI TO i1 i2 St1 St2 d i h) (h1 : d ∉ fp1) (h2 : d ∉ fp2) (dz : d ≠ z) (dTI : d ≠ TI) (dTO : d ≠ TO) (k : ∀ b o, b ≠ d → h.get? b = some o → h'.get? b = some o) : ZSt z TI TO i1 i2 St1 St2 d i h' := by
  obtain ⟨a1, a2, a3, a4⟩ := st
  refine ⟨k _ _ (Ne.symm dTI) a1, D1.frame _ _ _ a2 fun b hb o e => k b o (fun q => h1 (q ▸ hb)) e, D2.frame _ _ _ a3 fun b hb o e => k b o (fun q => h2 (q ▸ hb)) e, ?_⟩
  rcases a4 with ⟨b1, x, y, b2⟩ | ⟨T, f, oT, b1, b2, b3, b4, b5, b6⟩
  · exact .inl ⟨k _ _ (Ne.symm dz) b1, x, y, k _ _ (Ne.symm dTO) b2⟩
  · exact .inr ⟨T, f, oT, k _ _ (Ne.symm dz) b1, k _ _ b6 b2, b3, b4, b5, b6⟩
theorem pairArg_zip {k1 k2 : Bool} {a1 a2 : Addr} {xs ys : Array Value} (S : ZipSep2 z TI TO i1 i2 [i1, a1] [i2, a2]) (n1 : a1 ≠ i1) (n2 : a2 ≠ i2) (az : a1 ≠ z ∧ a1 ≠ TO ∧ a1 ≠ i2 ∧ a2 ≠ z ∧ a2 ≠ TO ∧ a2 ≠ i1) (hl : xs.size = ys.size) :
    PairArg prog w "zip" z [z, TI, TO, i1, i2, a1, a2] [z, TO, i1, i2] xs.size (fun i k v => xs[i]? = some k ∧ ys[i]? = some v)
      (fun h => IsZip h z TI TO .none ∧ IsTupOf2 h TI (.ref i1) (.ref i2) ∧ (∃ a b, IsTupOf2 h TO a b) ∧ (ItA k1 h i1 a1 0 ∧ SeA k1 h a1 xs) ∧ (ItA k2 h i2 a2 0 ∧ SeA k2 h a2 ys)) where
  type := fun s ok => ⟨_, ok.1, rfl⟩
  notDict := by decide
  keep := fun h h' ok hk => by
    obtain ⟨hz, hTI, ⟨a, b, hTO⟩, h1, h2⟩ := ok
    have D1 := drawsA (prog := prog) (w := w) (A := callerA) k1 rfl i1 a1 n1 xs
    have D2 := drawsA (prog := prog) (w := w) (A := callerA) k2 rfl i2 a2 n2 ys
    exact ⟨hk _ _ hz, hk _ _ hTI, ⟨a, b, hk _ _ hTO⟩, D1.frame _ _ _ h1 fun b _ o e => hk b o e, D2.frame _ _ _ h2 fun b _ o e => hk b o e⟩
  there := fun h ok b hb => by
    obtain ⟨hz, hTI, ⟨a, c, hTO⟩, ⟨g1, s1⟩, ⟨g2, s2⟩⟩ := ok
    have t1 : ∃ o, h.get? a1 = some o := by
      cases k1 <;> obtain ⟨o, e, _⟩ := s1 <;> exact ⟨o, e⟩
    have t2 : ∃ o, h.get? a2 = some o := by
      cases k2 <;> obtain ⟨o, e, _⟩ := s2 <;> exact ⟨o, e⟩
    obtain ⟨o1, e1, _⟩ := g1.obj
    obtain ⟨o2, e2, _⟩ := g2.obj
    simp only [List.mem_cons, List.not_mem_nil, or_false] at hb
    rcases hb with rfl | rfl | rfl | rfl | rfl | rfl | rfl
    · exact ⟨_, hz⟩
    · exact ⟨_, hTI⟩
    · exact ⟨_, hTO⟩
    · exact ⟨_, e1⟩
    · exact ⟨_, e2⟩
    · exact t1
    · exact t2
  sub := fun b hb => by simp at hb ⊢; rcases hb with rfl | rfl | rfl | rfl <;> simp
  noKeys := fun A s Q E hA ok h => PySem.getAttrOr_miss_zip ok.1 rfl rfl rfl PySem.zip_no_keys (by decide +kernel) hA h
  iter := fun A s d Q E hA ok hd hdf h => by
    obtain ⟨hz, hTI, ⟨a, b, hTO⟩, h1, h2⟩ := ok
    simp only [List.mem_cons, List.not_mem_nil, or_false, not_or] at hdf
    obtain ⟨dz, dTI, dTO, di1, di2, dl1, dl2⟩ := hdf
    have D1 := drawsA (prog := prog) (w := w) (A := A.in1) k1 (show A.in1.handled = none from hA) i1 a1 n1 xs
    have D2' := drawsA (prog := prog) (w := w) (A := A.in1) k2 (show A.in1.handled = none from hA) i2 a2 n2 ys
    have D2 : Draws prog w A.in1 i2 [i2, a2] xs.size (fun i v => ys[i]? = some v) (fun i h => ItA k2 h i2 a2 i ∧ SeA k2 h a2 ys) := by
      rw [hl]
      exact D2'
    refine wpAny_pyIter_zip hz (h z [z, TO, i1, i2] (ZSt z TI TO i1 i2 (fun i h => ItA k1 h i1 a1 i ∧ SeA k1 h a1 xs) (fun i h => ItA k2 h i2 a2 i ∧ SeA k2 h a2 ys) d) s.heap s.toks ?_
      ⟨hTI, h1, h2, .inl ⟨hz, a, b, hTO⟩⟩ (fun _ _ e => e) fun b hb => .inl hb)
    exact {
      off := fun hm => by
        simp only [List.mem_cons, List.not_mem_nil, or_false] at hm
        rcases hm with e | e | e | e
        · exact dz e
        · exact dTO e
        · exact di1 e
        · exact di2 e
      frame := fun i h₁ h₂ st hk => zst_frame D1 D2 st (by simp; exact ⟨di1, dl1⟩) (by simp; exact ⟨di2, dl2⟩) dz dTI dTO hk
      item := fun i s₁ Q₁ E₁ hi st hds hQ => zip_next S D1 D2 hds st hi fun x1 x2 h' tk p1 p2 st' hT hk => hQ _ x1 x2 h' tk ⟨p1, p2⟩ (.inl ⟨_, hT, rfl, _, rfl⟩) st' fun c o hc e => hk c o (fun x => hc (by simp [x])) (fun x => hc (by simp [x])) (fun x => hc (by simp [x])) (fun x => hc (by simp [x])) e
      done := fun s₁ Q₁ E₁ st hQ => zip_stop S D1 D2 st fun h' tk hk => hQ h' tk fun c o hc e => hk c o (fun x => hc (by simp [x])) (fun x => hc (by simp [x])) (fun x => hc (by simp [x])) (fun x => hc (by simp [x])) e }
end
section
variable {X : Cx}
def tDictZip (K : PySem.W.Frag) (ta : TA) : TE := fun σ H Q => ta σ H fun vs H1 => ∃ (k1 k2 : Bool) (a1 a2 : Addr) (ks : List Key) (ys : List V), vs = [.ref a1, .ref a2] ∧ SqK K k1 H1 a1 (ks.map kV) ∧ SqK K k2 H1 a2 ys ∧ ks.length = ys.length ∧ ks.length ≤ sizeLine ∧
  ∀ p, H1 p = none → Q (.ref p) (upd H1 p (.dK (mergeK [] (ks.zip ys))))
theorem kv_zip {P : Program} {w : World} : ∀ {ks : List Key} {ys : List V} {u1 u2 : List Value}, Vals (ks.map kV) u1 → Vals ys u2 → ks.length = ys.length → ∃ prs : List (Key × Value), KV (ks.zip ys) prs ∧ prs.length = ks.length ∧ ∀ (i : Nat) (key v : Value), u1[i]? = some key → u2[i]? = some v → ∃ k, prs[i]? = some (k, v) ∧ (mixKind P w).is k key = true
  | [], [], _, _, .nil, .nil, _ => ⟨[], .nil, rfl, fun i key v e => by simp at e⟩
  | k :: ks, y :: ys, _, _, .cons r1 t1, .cons r2 t2, hl => by
    obtain ⟨prs, r, l, hp⟩ := kv_zip (P := P) (w := w) t1 t2 (by simpa using hl)
    refine ⟨(k, _) :: prs, .cons ⟨rfl, r2⟩ r, by rw [List.length_cons, List.length_cons, l], fun i key v e1 e2 => ?_⟩
    cases i with
    | zero =>
      have e1 := Option.some.inj e1
      have e2 := Option.some.inj e2
      subst e1 e2
      exact ⟨k, rfl, kV_is r1⟩
    | succ i => exact hp i key v e1 e2
  | [], _ :: _, _, _, _, _, hl => by simp at hl
  | _ :: _, [], _, _, _, _, hl => by simp at hl
theorem pe_dictZip {e1 e2 : Expr} {ta : TA} {p p2 pos pos2 : Pos} (hc : X.calm = true) (hgd : Gl X "dict") (hmd : X.mg "dict" = none) (hg : Gl X "zip") (hm : X.mg "zip" = none) (ha : PA X [e1, e2] ta)
    (hs0 : starEach [.Call (.Name "zip" p2) [e1, e2] [] pos2] X.env = (false, eval (.Call (.Name "zip" p2) [e1, e2] [] pos2) X.env) :: starEach [] X.env := by rfl)
    (hs : starEach [e1, e2] X.env = (false, eval e1 X.env) :: starEach [e2] X.env := by rfl) (hpl : (backTo pos2 (starEach [e2] X.env)).any (·.1) = false := by rfl) :
    PE X (.Call (.Name "dict" p) [.Call (.Name "zip" p2) [e1, e2] [] pos2] [] pos) (tDictZip X.K ta) := by
  refine ⟨fun pins s σ H Q I h => ?_⟩
  refine Call_ (ld_blt I hgd hmd (show bootBuiltins "dict" = some (.type "dict") by decide +kernel) (PyProof.Rows.callWith_type1 (args_cons (Call_ (ld_blt I hg hm PyProof.Rows.boot_zip (PyProof.Rows.callWith_type1 (thn (ha.run pos2 pins s σ H _ I h) fun us s1 ⟨vs, H1, I1, r1, q1⟩ => ?_) hs hpl))) hs0) hs0))
  obtain ⟨k1, k2, a1, a2, ks, ys, ex, hq1, hq2, hlen, hsz, q⟩ := q1
  subst ex
  cases r1 with
  | cons r1 rr =>
    cases rr with
    | cons r2 rr =>
      cases rr
      cases r1
      cases r2
      obtain ⟨its1, rv1, p1⟩ := seqA I1 hq1
      obtain ⟨its2, rv2, p2⟩ := seqA I1 hq2
      refine zip_begins2 (beginsA k1 a1 its1.toArray) (beginsA k2 a2 its2.toArray) p1 p2 fun h' hz hTI hTO g1 g2 hsz' hk => args_nil ?_
      obtain ⟨prs, rel, l, hp⟩ := kv_zip (P := X.prog) (w := X.w) rv1 rv2 hlen
      have e1 := rv1.length
      have e2 := rv2.length
      rw [List.length_map] at e1
      have lt1 := p1.lt
      have lt2 := p2.lt
      have I2 : Inv X pins σ H1 { s1 with heap := h' } := I1.kept (t' := s1.toks) hk
      have D1 := drawsA (prog := X.prog) (w := X.w) (A := callerA) k1 rfl s1.heap.objs.size a1 (Nat.ne_of_lt lt1) its1.toArray
      refine PySem.call_dict_pairs (knd := mixKind X.prog X.w) (kvs := prs) (pairArg_zip (k1 := k1) (k2 := k2) (xs := its1.toArray) (ys := its2.toArray) (zip_sep2 (fun b hb => by rw [List.mem_singleton.mp hb]; exact lt1) (fun b hb => by rw [List.mem_singleton.mp hb]; exact lt2)) (Nat.ne_of_lt lt1) (Nat.ne_of_lt (Nat.lt_of_lt_of_le lt2 (Nat.le_add_right _ 1)))
        ⟨Nat.ne_of_lt (Nat.lt_of_lt_of_le lt1 (Nat.le_add_right _ _)), Nat.ne_of_lt (Nat.lt_of_lt_of_le lt1 (Nat.le_add_right _ _)), Nat.ne_of_lt (Nat.lt_of_lt_of_le lt1 (Nat.le_add_right _ _)), Nat.ne_of_lt (Nat.lt_of_lt_of_le lt2 (Nat.le_add_right _ _)), Nat.ne_of_lt (Nat.lt_of_lt_of_le lt2 (Nat.le_add_right _ _)), Nat.ne_of_lt lt2⟩ (by simp; omega))
        (I2.ok.hd hc) ⟨hz, hTI, ⟨_, _, hTO⟩, ⟨.new g1, ?_⟩, ⟨.new g2, ?_⟩⟩ ⟨by rw [l]; simp [e1], fun i key v e => hp i key v (by simpa using e.1) (by simpa using e.2)⟩ (by simp; omega) fun h2 tk hd' k => ?_
      · cases k1
        · exact Heap.IsTuple.at p1 fun o e => hk _ o e
        · exact Heap.IsList.at p1 fun o e => hk _ o e
      · cases k2
        · exact Heap.IsTuple.at p2 fun o e => hk _ o e
        · exact Heap.IsList.at p2 fun o e => hk _ o e
      · have hm : (h'.objs.size == sysModules) = false := beq_eq_false_iff_ne.mpr (Nat.ne_of_gt I2.big)
        have hlen' : (mergeK [] (ks.zip ys)).length ≤ sizeLine := by
          refine Nat.le_trans (length_mergeK _ []) ?_
          rw [List.length_nil, Nat.zero_add, rel.length, l]
          exact hsz
        have kk : ∀ b o, s1.heap.get? b = some o → h2.get? b = some o := fun b o e => k b o (fun m => by
          have hb : b < s1.heap.objs.size := Heap.lt_size e
          simp only [List.mem_cons, List.not_mem_nil, or_false] at m
          rcases m with m | m | m | m
          · rw [m] at hb
            exact absurd hb (Nat.not_lt.mpr (Nat.le_add_right _ _))
          · rw [m] at hb
            exact absurd hb (Nat.not_lt.mpr (Nat.le_add_right _ _))
          · rw [m] at hb
            exact absurd hb (Nat.lt_irrefl _)
          · rw [m] at hb
            exact absurd hb (Nat.not_lt.mpr (Nat.le_add_right _ _))) (hk b o e)
        have hge : s1.heap.objs.size ≤ h'.objs.size := by
          rw [hsz']
          exact Nat.le_add_right _ _
        exact ⟨.ref h'.objs.size, upd H1 h'.objs.size (.dK (mergeK [] (ks.zip ys))), I1.laid (t' := tk) kk hge (show ObjOk X.prog X.w _ _ _ (.dK (mergeK [] (ks.zip ys))) from ⟨hlen', hm, merged [] prs, KV.merge rel .nil, hd'⟩), rfl, q _ (I1.hok.fresh hge)⟩
end
end DicT
namespace SrtS
open PySem PySem.W PySem.Calls PyProof.Rows SrtO
def SPair (h : Heap) (v : Value) (k : Str) (i : Int) : Prop := ∃ (a : Addr) (t u : Tok) (o : Obj) (n : Nat), v = .ref a ∧ h.get? a = some o ∧ o.cls = .type "tuple" ∧ o.data = .seq #[.str k t, .int i u] n
theorem SPair.keeps {h h' : Heap} {v : Value} {k : Str} {i : Int} (x : SPair h v k i) (kk : ∀ c o, h.get? c = some o → o.cls = .type "tuple" → h'.get? c = some o) : SPair h' v k i := by
  obtain ⟨a, t, u, o, n, e, ho, hc, hd⟩ := x
  exact ⟨a, t, u, o, n, e, kk _ _ ho hc, hc, hd⟩
def headS (h : Heap) (v : Value) : Str := match v with
  | .ref a => match h.get? a with
    | some o => match o.data with
      | .seq xs _ => match xs[0]? with
        | some (Value.str k _) => k
        | _ => Str.empty
      | _ => Str.empty
    | none => Str.empty
  | _ => Str.empty
theorem SPair.head {h : Heap} {v : Value} {k : Str} {i : Int} (x : SPair h v k i) : headS h v = k := by
  obtain ⟨a, t, u, o, n, rfl, ho, hc, hd⟩ := x
  unfold headS
  simp only [ho, hd]
  rfl
def ltS (a b : Str) : Bool := decide (a.cps.toList < b.cps.toList)
theorem swo_str (f : Value → Str) : Swo fun v u => ltS (f v) (f u) := by
  refine ⟨fun x y h => ?_, fun x y z h1 h2 => ?_⟩
  · exact decide_eq_false (List.lt_asymm (of_decide_eq_true h))
  · have a := of_decide_eq_false h1
    have b := of_decide_eq_false h2
    refine decide_eq_false fun c => ?_
    have a' := List.not_lt.mp a
    have b' := List.not_lt.mp b
    exact List.not_lt.mpr (List.le_trans a' b') c
theorem sfirsts {h : Heap} : ∀ {vs : List Value}, (∀ v ∈ vs, ∃ k i, SPair h v k i) → ∃ fs : List Value, KatTups h vs fs ∧ fs.length = vs.length ∧ ∀ f ∈ fs, ∃ x t, f = Value.str x t
  | [], _ => ⟨[], KatTups.nil, rfl, fun f hf => nomatch hf⟩
  | v :: vs, x => by
    obtain ⟨fs, k, hl, hi⟩ := sfirsts (vs := vs) fun u hu => x u (List.mem_cons_of_mem _ hu)
    obtain ⟨y, b, a, t, u, o, n, rfl, ho, hc, hd⟩ := x v List.mem_cons_self
    refine ⟨.str y t :: fs, KatTups.cons ho hc hd rfl k, by rw [List.length_cons, List.length_cons, hl], fun f hf => ?_⟩
    rcases List.mem_cons.mp hf with rfl | hf
    · exact ⟨y, t, rfl⟩
    · exact hi f hf
section
variable {prog : Program} {w : World} {A : Around} {E : Value → Shared → Prop} {s : Shared}
theorem sp_cmp {h0 : Heap} {vs : List Value} (hp : ∀ v ∈ vs, ∃ k i, SPair s.heap v k i) (hk : ∀ v ∈ vs, headS s.heap v = headS h0 v) (inj : ∀ v ∈ vs, ∀ u ∈ vs, ∀ k i j, SPair s.heap v k i → SPair s.heap u k j → i = j) :
    Cmp prog w A s (tuples' true) (fun p => p.1 ∈ vs) (lt2 fun v u => ltS (headS h0 v) (headS h0 u)) := by
  intro p q hm hm'
  obtain ⟨k, i, h1⟩ := hp _ hm
  obtain ⟨k', i', h2⟩ := hp _ hm'
  have e1 := h1.head
  have e2 := h2.head
  rw [hk _ hm] at e1
  rw [hk _ hm'] at e2
  have same : k = k' → i = i' := fun e => inj _ hm _ hm' k i i' h1 (by rw [e]; exact h2)
  show wpAny (model prog w) A (keyLt' (tuples' true) p.1 q.1) (fun r s' => s' = s ∧ r = ltS (headS h0 p.1) (headS h0 q.1)) (fun _ _ => False) s
  rw [e1, e2]
  obtain ⟨a, t, u, o, n, e, ho, hc, hd⟩ := h1
  obtain ⟨a', t', u', o', n', e', ho', hc', hd'⟩ := h2
  rw [e, e']
  refine kat_lt ho hd ho' hd' ?_
  show KatLex prog w A true (decide (2 < 2)) _ [(.str k t, .str k' t'), (.int i u, .int i' u')] 0 s
  refine kat_cons (SeqAt.EqAt.str_str k t k' t' prog w _ _ ?_)
  refine kat_go (fun z => ?_) (fun z => ?_)
  · have ex : k = k' := by simpa using z
    have eb := same ex
    subst eb
    refine kat_yes (kat_cons (SeqAt.EqAt.int_int i u i u' prog w _ _ ?_))
    refine kat_go (fun _ => ?_) (fun z => ?_)
    · refine kat_yes (kat_nil ⟨rfl, ?_⟩)
      rw [ex]
      exact (decide_eq_false (List.lt_irrefl _)).symm
    · simp at z
  · exact kat_no (oneLt_str ⟨rfl, rfl⟩)
theorem sp_sortable {a : Addr} {vs : List Value} (h0 : 0 < vs.length) (hp : ∀ v ∈ vs, ∃ k i, SPair s.heap v k i) (inj : ∀ v ∈ vs, ∀ u ∈ vs, ∀ k i j, SPair s.heap v k i → SPair s.heap u k j → i = j) (ha : ∀ o, s.heap.get? a = some o → o.cls ≠ .type "tuple") :
    SortableO prog w A s a vs fun v u => ltS (headS s.heap v) (headS s.heap u) := by
  intro h' keep
  have kk : ∀ c o, s.heap.get? c = some o → o.cls = .type "tuple" → h'.get? c = some o := fun c o e z => keep c o (fun q => by subst q; exact ha o e z) e
  have hp' : ∀ v ∈ vs, ∃ k b, SPair h' v k b := fun v hm => by
    obtain ⟨k, b, x⟩ := hp v hm
    exact ⟨k, b, x.keeps kk⟩
  have val : ∀ v ∈ vs, ∀ k b, SPair h' v k b → SPair s.heap v k b := fun v hm k b x => by
    obtain ⟨k2, b2, y⟩ := hp v hm
    have y' := y.keeps kk
    obtain ⟨a1, t1, u1, o1, n1, e1, ho1, hc1, hd1⟩ := x
    obtain ⟨a2, t2, u2, o2, n2, e2, ho2, hc2, hd2⟩ := y'
    rw [e1] at e2
    cases e2
    rw [ho1] at ho2
    cases ho2
    rw [hd1] at hd2
    cases hd2
    exact y
  obtain ⟨fs, h1, h2, h3⟩ := sfirsts hp'
  refine ⟨tuples' true, fun Q E hq => ?_, sp_cmp (h0 := s.heap) hp' (fun v hm => ?_) fun v hm u hu k b b' x y => inj v hm u hu k b b' (val v hm k b x) (val u hu k b' y)⟩
  · refine kat_kind (T := .type "str") h1 (by omega) (fun f hm => ?_) (by rfl) ?_
    · obtain ⟨x, t, rfl⟩ := h3 f hm
      exact PySem.W.Looks.now
    · have e : (Value.type "str" != Value.type "tuple") = true := by first | decide +kernel | rfl | decide
      rw [e]
      exact hq
  · obtain ⟨k, b, x⟩ := hp v hm
    rw [x.head, (x.keeps kk).head]
end
end SrtS
namespace SrtS
open PySem PySem.Spec PyProof.Rows L2
section
variable {X : Cx}
def rSortX (K : PySem.W.Frag) : List V → Hp → VK → Prop := fun vs H Q => ∃ (a : Addr) (ts : List Addr), vs = [.ref a] ∧ SqL K H a (ts.map V.ref) ∧ (ts.length ≤ 1 ∨ ∃ kns : List (Str × Int), Paired (fun t q => H t = some (.tup [.str q.1, .int q.2])) ts kns ∧ (kns.map (·.1)).Nodup) ∧
  ∀ (p : Addr) (ts' : List Addr), ts'.Perm ts → H p = none → Q (.ref p) (upd H p (.lst (ts'.map V.ref)))
theorem pair_mem {α β : Type} {F : α → β → Prop} : ∀ {l : List α} {m : List β} {a : α}, Paired F l m → a ∈ l → ∃ b ∈ m, F a b
  | _, _, _, .nil, h => nomatch h
  | _, _, _, .cons r t, h => by
    rcases List.mem_cons.mp h with rfl | h
    · exact ⟨_, List.mem_cons_self, r⟩
    · obtain ⟨b, hb, f⟩ := pair_mem t h
      exact ⟨b, List.mem_cons_of_mem _ hb, f⟩
theorem uniq_key : ∀ {l : List (Str × Int)} {k : Str} {i j : Int}, (l.map (·.1)).Nodup → (k, i) ∈ l → (k, j) ∈ l → i = j
  | q :: l, k, i, j, hn, h1, h2 => by
    rw [List.map_cons, List.nodup_cons] at hn
    rcases List.mem_cons.mp h1 with e1 | m1 <;> rcases List.mem_cons.mp h2 with e2 | m2
    · rw [← e1] at e2
      injection e2 with _ e2
      exact e2.symm
    · exact absurd (List.mem_map.mpr ⟨_, m2, by rw [← e1]⟩) hn.1
    · exact absurd (List.mem_map.mpr ⟨_, m1, by rw [← e2]⟩) hn.1
    · exact uniq_key hn.2 m1 m2
theorem cr_sortedX : CallR X (.builtin "sorted") (rSortX X.K) := by
  intro pins s σ H vs us Q I rr h
  obtain ⟨a, ts, rfl, hs, hx, q⟩ := h
  obtain rfl := Vals.ref1 rr
  obtain ⟨its, rv, hl, hz⟩ := I.list hs
  have ei := refs_at rv
  subst ei
  have hzl : ts.length ≤ sizeLine := by
    rw [List.length_map] at hz
    exact hz
  refine SrtO.sorted_ord (swo_str (headS s.heap)) hl.isList (by rw [List.length_map]; exact hzl) (fun h2 g1 b hb kk => ?_) fun out o1 o2 => ?_
  · rw [List.length_map] at h2
    rcases hx with hx | ⟨kns, hp, hn⟩
    · omega
    have sp : ∀ v ∈ ts.map Value.ref, ∃ q ∈ kns, SPair s.heap v q.1 q.2 := fun v hv => by
      obtain ⟨t, ht, rfl⟩ := List.mem_map.mp hv
      obtain ⟨q, hq, e⟩ := pair_mem hp ht
      obtain ⟨_, its2, r2, ⟨o, ho, hc, n, hd⟩⟩ := (show ObjOk X.prog X.w H s.heap t (.tup [.str q.1, .int q.2]) from I.hok _ _ e)
      obtain ⟨x, y, e3, rx, ry⟩ := vals2 r2
      obtain ⟨t1, rfl⟩ := rx
      obtain ⟨t2, rfl⟩ := ry
      subst e3
      exact ⟨q, hq, t, t1, t2, o, n, rfl, ho, hc, hd⟩
    have kk2 : ∀ c o, s.heap.get? c = some o → o.cls = .type "tuple" → g1.get? c = some o := fun c o e _ => (kk c o e).2
    have det : ∀ {g : Heap} {v : Value} {k k' : Str} {i i' : Int}, SPair g v k i → SPair g v k' i' → k = k' ∧ i = i' := fun {g v k k' i i'} x y => by
      obtain ⟨a1, t1, u1, o1, n1, e1, ho1, hc1, hd1⟩ := x
      obtain ⟨a2, t2, u2, o2, n2, e2, ho2, hc2, hd2⟩ := y
      rw [e1] at e2
      cases e2
      rw [ho1] at ho2
      cases ho2
      rw [hd1] at hd2
      cases hd2
      exact ⟨rfl, rfl⟩
    have sa := sp_sortable (prog := X.prog) (w := X.w) (A := X.A.in1.in1) (s := { s with heap := g1 }) (a := b) (vs := ts.map Value.ref) (by rw [List.length_map]; omega) (fun v hv => by
        obtain ⟨q, _, x⟩ := sp v hv
        exact ⟨q.1, q.2, x.keeps kk2⟩) (fun v hv u hu k i j x y => by
        obtain ⟨q1, m1, x1⟩ := sp v hv
        obtain ⟨q2, m2, x2⟩ := sp u hu
        obtain ⟨a1, a2⟩ := det (x1.keeps kk2) x
        obtain ⟨b1, b2⟩ := det (x2.keeps kk2) y
        rw [← a2, ← b2]
        refine uniq_key (k := k) hn ?_ ?_
        · rw [← a1]
          exact m1
        · rw [← b1]
          exact m2) (fun o e c => by
        have e2 : some o = some (seqObj "list" (ts.map Value.ref).toArray 0) := e.symm.trans hb
        cases e2
        exact absurd (Value.type.inj c) (by decide))
    intro h' keep
    obtain ⟨κ, k1, k2⟩ := sa h' keep
    refine ⟨κ, k1, fun p q hm hm' => ?_⟩
    have z := k2 p q hm hm'
    obtain ⟨q1, _, x⟩ := sp p.1 hm
    obtain ⟨q2, _, y⟩ := sp q.1 hm'
    have z1 : SrtO.lt2 (fun v u => ltS (headS g1 v) (headS g1 u)) p q = SrtO.lt2 (fun v u => ltS (headS s.heap v) (headS s.heap u)) p q := by
      show ltS (headS g1 p.1) (headS g1 q.1) = ltS (headS s.heap p.1) (headS s.heap q.1)
      rw [x.head, y.head, (x.keeps kk2).head, (y.keeps kk2).head]
    rw [← z1]
    exact z
  · obtain ⟨zs, pz, ez⟩ := L2.perm_lift (fun z : Addr => Value.ref z) o2.perm ts rfl
    have rv2 : Vals (zs.map V.ref) out := by
      rw [← ez]
      exact vals_refs zs
    obtain ⟨n, hn⟩ := PyProof.Rows.sortedAll_at s.heap (ts.map Value.ref) out.toArray
    have hd : H (s.heap.objs.size + 1) = none := I.hok.fresh (Nat.le_succ _)
    refine ⟨.ref (s.heap.objs.size + 1), _, I.laid (t' := s.toks) (o := .lst (zs.map V.ref)) (fun b o e => PyProof.Rows.sortedAll_old e) (Nat.le_succ _) (show _ ∧ _ from ⟨?_, out, n, rv2, hn⟩), rfl, q _ zs pz hd⟩
    rw [List.length_map, pz.length_eq]
    exact hzl
end
end SrtS
namespace SumT
open PySem PySem.Spec PyProof.Rows L2
section
variable {X : Cx}
theorem truth_ints {prog : Program} {w : World} {A : Around} {ns : List Int} {its : List Value} (e : Vals (ns.map V.int) its) :
    TruthOf prog w A (fun i v => its.toArray[i]? = some v) (fun i => decide (ns.getD i 0 ≠ 0)) := fun i v s Q E hv hq => by
  have hv' : its[i]? = some v := by simpa using hv
  have hl := e.length
  rw [List.length_map] at hl
  have hi : i < ns.length := by
    have := (List.getElem?_eq_some_iff.mp hv').1
    omega
  have hn : (ns.map V.int)[i]? = some (V.int ns[i]) := by rw [List.getElem?_map, List.getElem?_eq_getElem hi]; rfl
  obtain ⟨u, hu, ru⟩ := e.get hn
  rw [hv'] at hu
  cases hu
  obtain ⟨t, rfl⟩ := ru
  have hg : ns.getD i 0 = ns[i] := by rw [List.getD_eq_getElem?_getD, List.getElem?_eq_getElem hi] <;> rfl
  have hq : Q (decide (ns.getD i 0 ≠ 0)) s := hq
  rw [hg] at hq
  refine PySem.P.truthy_int ?_
  have e1 : (ns[i] != 0) = decide (ns[i] ≠ 0) := by
    by_cases z : ns[i] = 0
    · simp [z]
    · simp [z]
  rw [e1]
  exact hq
theorem any_rangeI : ∀ ns : List Int, (List.range ns.length).any (fun i => decide (ns.getD i 0 ≠ 0)) = ns.any fun n => decide (n ≠ 0)
  | [] => rfl
  | b :: bs => by
    rw [List.length_cons, List.range_succ_eq_map, List.any_cons, List.any_map, List.any_cons, ← any_rangeI bs]
    all_goals rfl
def rAnyT (K : PySem.W.Frag) : List V → Hp → VK → Prop := fun vs H Q => ∃ (a : Addr) (ns : List Int), vs = [V.ref a] ∧ SqT K H a (ns.map V.int) ∧ Q (.bl (ns.any fun n => decide (n ≠ 0))) H
theorem cr_anyT (hc : X.calm = true) : CallR X (.builtin "any") (rAnyT X.K) := by
  intro pins s σ H vs us Q I r h
  obtain ⟨a, ns, rfl, hs, q⟩ := h
  obtain ⟨its, rv, hl, _⟩ := I.tuple hs
  rw [Vals.ref1 r]
  have ht : s.heap.IsTuple a its.toArray := hl
  obtain ⟨o, ho, _⟩ := id ht
  have hne : a ≠ s.heap.objs.size := Nat.ne_of_lt (Heap.lt_size ho)
  refine call_any_walk (wpAny_pyIter_tuple ht ?_)
  refine ⟨_, _, _, _, _, _, _, rfl, Walks.tuple (A := X.A.in1) (I.ok.hd hc) _ a hne its.toArray, ⟨⟨_, Heap.get?_push_size _ rfl, rfl, rfl⟩, ht.at fun o e => Heap.get?_push_of_some _ e⟩, truth_ints rv, fun h' tk hk => ?_⟩
  refine ⟨.bl (ns.any fun n => decide (n ≠ 0)), H, I.kept fun b o eo => hk b o (fun hmem => ?_) (Heap.get?_push_of_some _ eo), ?_, q⟩
  · rcases List.mem_cons.mp hmem with e1 | hmem
    · exact absurd (e1 ▸ Heap.lt_size eo) (Nat.lt_irrefl _)
    · cases hmem
  · show Value.bool _ = Value.bool _
    have hlen := rv.length
    rw [List.length_map] at hlen
    rw [← any_rangeI, List.size_toArray, ← hlen]
def rSumT (K : PySem.W.Frag) : List V → Hp → VK → Prop := fun vs H Q => ∃ (a : Addr) (ns : List Int), vs = [V.ref a] ∧ SqT K H a (ns.map V.int) ∧ Q (.int ns.sum) H
theorem cr_sumT (hc : X.calm = true) : CallR X (.builtin "sum") (rSumT X.K) := by
  intro pins s σ H vs us Q I r h
  obtain ⟨a, ns, rfl, hs, q⟩ := h
  obtain ⟨its, rv, hl, _⟩ := I.tuple hs
  rw [Vals.ref1 r]
  have hi : IntsAre its ns := rv.ints
  obtain ⟨xs, e⟩ := hi.allInts.items
  have hn : numsOf (intItems xs).toList = ns := by rw [← e]; exact hi.numsOf
  rw [nums_intItems] at hn
  have ht : s.heap.IsTuple a its.toArray := hl
  rw [e] at ht
  refine PySem.W.ktm_sumG (I.ok.hd hc) ht fun h' tk t' hk => ?_
  rw [preSum_eq, List.take_of_length_le (by simp), hn]
  exact ⟨.int _, H, I.kept hk, ⟨_, rfl⟩, q⟩
def rListS : List V → Hp → VK → Prop := fun vs H Q => ∃ (x : Str), vs = [V.str x] ∧ x.cps.size ≤ sizeLine ∧ ∀ p, H p = none → Q (.ref p) (upd H p (.lst (x.cps.toList.map fun c => V.str ⟨#[c]⟩)))
theorem call_listS (hc : X.calm = true) : CallR X (.type "list") rListS := by
  intro pins s σ H vs us Q I r h
  obtain ⟨x, rfl, hz, q⟩ := h
  obtain ⟨u, rfl, rx⟩ := vals1 r
  obtain ⟨t, rfl⟩ := rx
  refine call_list_str (hn := hz) (I.ok.hd hc) x t fun h' tk acc c' hk hS hacc => ?_
  refine ⟨.ref s.heap.objs.size, _, I.laid (t' := tk) (o := .lst (x.cps.toList.map fun c => V.str ⟨#[c]⟩)) hk (Nat.le_refl _) (show _ ∧ _ from ⟨?_, acc.toList, c', ?_, ?_⟩), rfl, q _ (I.hok.fresh (Nat.le_refl _))⟩
  · rw [List.length_map, Array.length_toList]
    exact hz
  · refine vals_of_at (by rw [List.length_map, Array.length_toList, Array.length_toList, hacc.1]) fun j y w h1 h2 => ?_
    obtain ⟨c, u, e1, e2⟩ := hacc.2 j w (by rw [← Array.getElem?_toList]; exact h2)
    rw [List.getElem?_map, Array.getElem?_toList, e1] at h1
    cases h1
    exact ⟨u, e2⟩
  · rw [Array.toArray_toList]
    exact hS
end
end SumT
namespace Net
open PySem PySem.Spec PyProof.Rows L2 SDx
structure Stp where
  nm : Str
  role : Option Str
  ins : List (Str × Int)
  outs : List (Str × Int)
  tests : List (Str × Str × Int)
  sets : List (Str × Int)
  days : Int
structure NetT where
  nm : Str
  places : List Str
  notes : List (Str × Int)
  steps : List Stp
def roV : Option Str → V
  | none => .non
  | some r => .str r
def PairT (H : Hp) (t : Addr) (q : Str × Int) : Prop := H t = some (.tup [.str q.1, .int q.2])
def TrpT (H : Hp) (t : Addr) (q : Str × Str × Int) : Prop := H t = some (.tup [.str q.1, .str q.2.1, .int q.2.2])
def CnT (H : Hp) (a : Addr) (c : List (Str × Int)) : Prop := ∃ (o : Obj) (ts : List Addr), H a = some (.frz o (.tup (ts.map V.ref))) ∧ o.dict = none ∧ Paired (PairT H) ts c
def TsT (H : Hp) (a : Addr) (c : List (Str × Str × Int)) : Prop := ∃ (o : Obj) (ts : List Addr), H a = some (.frz o (.tup (ts.map V.ref))) ∧ Paired (TrpT H) ts c
def NtT (H : Hp) (a : Addr) (c : List (Str × Int)) : Prop := ∃ (ts : List Addr), H a = some (.tup (ts.map V.ref)) ∧ Paired (PairT H) ts c
def IsStp (H : Hp) (v : V) (s : Stp) : Prop := ∃ a i o t e : Addr, v = .ref a ∧ H a = some (.tup [.str s.nm, roV s.role, .ref i, .ref o, .ref t, .ref e, .int s.days]) ∧ CnT H i s.ins ∧ CnT H o s.outs ∧ TsT H t s.tests ∧ CnT H e s.sets
def IsNet (H : Hp) (v : V) (N : NetT) : Prop := ∃ (a p n t : Addr) (sx : List V), v = .ref a ∧ H a = some (.tup [.str N.nm, .ref p, .ref n, .ref t]) ∧ H p = some (.tup (N.places.map V.str)) ∧ NtT H n N.notes ∧ H t = some (.tup sx) ∧ Paired (IsStp H) sx N.steps
theorem pm {α β : Type} {F G : α → β → Prop} {l : List α} {m : List β} (h : Paired F l m) (k : ∀ a b, F a b → G a b) : Paired G l m := Paired.mapP h k
theorem CnT.same {H H' : Hp} {a : Addr} {c : List (Str × Int)} (h : CnT H a c) (s : Same H H') : CnT H' a c := by
  obtain ⟨o, ts, e, d, p⟩ := h
  exact ⟨o, ts, s _ _ e, d, pm p fun _ _ x => s _ _ x⟩
theorem TsT.same {H H' : Hp} {a : Addr} {c : List (Str × Str × Int)} (h : TsT H a c) (s : Same H H') : TsT H' a c := by
  obtain ⟨o, ts, e, p⟩ := h
  exact ⟨o, ts, s _ _ e, pm p fun _ _ x => s _ _ x⟩
theorem NtT.same {H H' : Hp} {a : Addr} {c : List (Str × Int)} (h : NtT H a c) (s : Same H H') : NtT H' a c := by
  obtain ⟨ts, e, p⟩ := h
  exact ⟨ts, s _ _ e, pm p fun _ _ x => s _ _ x⟩
theorem IsStp.same {H H' : Hp} {v : V} {x : Stp} (h : IsStp H v x) (s : Same H H') : IsStp H' v x := by
  obtain ⟨a, i, o, t, e, hv, h0, h1, h2, h3, h4⟩ := h
  exact ⟨a, i, o, t, e, hv, s _ _ h0, h1.same s, h2.same s, h3.same s, h4.same s⟩
theorem IsNet.same {H H' : Hp} {v : V} {N : NetT} (h : IsNet H v N) (s : Same H H') : IsNet H' v N := by
  obtain ⟨a, p, n, t, sx, hv, h0, h1, h2, h3, h4⟩ := h
  exact ⟨a, p, n, t, sx, hv, s _ _ h0, s _ _ h1, h2.same s, s _ _ h3, pm h4 fun _ _ x => x.same s⟩
theorem paired_get {α β : Type} {F : α → β → Prop} : ∀ {l : List α} {m : List β} {i : Nat} {b : β}, Paired F l m → m[i]? = some b → ∃ a, l[i]? = some a ∧ F a b
  | _, _, _, _, .nil, h => by simp at h
  | _, _, 0, b, .cons r t, h => by
    cases (Option.some.inj h)
    exact ⟨_, rfl, r⟩
  | _, _, i + 1, b, .cons r t, h => paired_get (i := i) t h
theorem paired_getL {α β : Type} {F : α → β → Prop} : ∀ {l : List α} {m : List β} {i : Nat} {a : α}, Paired F l m → l[i]? = some a → ∃ b, m[i]? = some b ∧ F a b
  | _, _, _, _, .nil, h => by simp at h
  | _, _, 0, b, .cons r t, h => by
    cases (Option.some.inj h)
    exact ⟨_, rfl, r⟩
  | _, _, i + 1, b, .cons r t, h => paired_getL (i := i) t h
def lastO : List (Str × Int) → Str → Option Int
  | [], _ => none
  | q :: c, k => match lastO c k with
    | some n => some n
    | none => if q.1 = k then some q.2 else none
theorem lastO_cons (q : Str × Int) (c : List (Str × Int)) (k : Str) : lastO (q :: c) k = match lastO c k with
    | some n => some n
    | none => if q.1 = k then some q.2 else none := rfl
abbrev entS (q : Str × Int) : Key × V := (Sum.inr q.1, V.int q.2)
theorem valV_merge : ∀ (c : List (Str × Int)) (kvs : List (Key × V)) (k : Str), valV (mergeK kvs (c.map entS)) (Sum.inr k) = match lastO c k with
    | some n => some (.int n)
    | none => valV kvs (Sum.inr k)
  | [], _, _ => rfl
  | q :: c, kvs, k => by
    show valV (mergeK (putK kvs (Sum.inr q.1) (V.int q.2)) (c.map entS)) (Sum.inr k) = _
    rw [valV_merge c, lastO_cons]
    cases lastO c k with
    | some n => rfl
    | none =>
      show valV (putK kvs (Sum.inr q.1) (V.int q.2)) (Sum.inr k) = (match (if q.1 = k then some q.2 else none) with
        | some n => some (V.int n)
        | none => valV kvs (Sum.inr k))
      rw [valV_put]
      by_cases e : q.1 = k
      · rw [if_pos (by rw [e]), if_pos e]
      · rw [if_neg (fun z => e (by injection z with z; exact z.symm)), if_neg e]
theorem valV_of (c : List (Str × Int)) (k : Str) : valV (mergeK [] (c.map entS)) (Sum.inr k) = (lastO c k).map V.int := by
  rw [valV_merge]
  cases lastO c k <;> rfl
theorem pairs_sq {K : PySem.W.Frag} {H : Hp} : ∀ {ts : List Addr} {c : List (Str × Int)}, Paired (PairT H) ts c → Paired (fun p (kv : Key × V) => SqT K H p [kV kv.1, kv.2]) ts (c.map entS)
  | _, _, .nil => .nil
  | _, _, .cons r t => .cons (SqT.of r) (pairs_sq t)
def cnts (N : NetT) (c : List (Str × Int)) : List Int := N.places.map fun p => (lastO c p).getD 0
def holdT (sign : Str) (num w : Int) : Bool := if sign = "<" then decide (w < num) else if sign = ">" then decide (w > num) else decide (w = num)
def worthO (N : NetT) (vals : List Int) (n : Str) : Option Int := lastO ((N.notes.map (·.1)).zip vals) n
def holdW (N : NetT) (vals : List Int) (t : Str × Str × Int) : Bool := holdT t.2.1 t.2.2 ((worthO N vals t.1).getD 0)
def allHold (N : NetT) (ts : List (Str × Str × Int)) (vals : List Int) : Bool := ts.all (holdW N vals)
def enough (a b : List Int) : Bool := (a.zip b).all fun p => decide (p.1 ≥ p.2)
def mayB (N : NetT) (S : Sta) (s : Stp) : Bool := allHold N s.tests S.2 && enough S.1 (cnts N s.ins)
def z3 : List Int → List Int → List Int → List Int
  | x :: a, y :: b, z :: c => (x - y + z) :: z3 a b c
  | _, _, _ => []
def setV (s : Stp) (p : (Str × Int) × Int) : Int := (lastO s.sets p.1.1).getD p.2
def ledS (N : NetT) (S : Sta) (s : Stp) : Sta := (z3 S.1 (cnts N s.ins) (cnts N s.outs), (N.notes.zip S.2).map (setV s))
def mayI (N : NetT) (S : Sta) (i : Nat) : Bool := match N.steps[i]? with
  | some s => mayB N S s
  | none => false
def ledI (N : NetT) (S : Sta) (i : Nat) : Sta := match N.steps[i]? with
  | some s => ledS N S s
  | none => S
def doab (N : NetT) (S : Sta) : List Nat := (List.range N.steps.length).filter (mayI N S)
def fstS (N : NetT) : Sta := (1 :: List.replicate (N.places.length - 1) 0, List.replicate N.notes.length 0)
def endB (S : Sta) : Bool := decide (S.1.getLast? = some 1) && !(S.1.dropLast.any fun n => decide (n ≠ 0))
structure NOk (N : NetT) : Prop where
  pl : 1 ≤ N.places.length
  pl2 : N.places.length ≤ 100
  nt : N.notes.length ≤ 100
  st : N.steps.length ≤ 100
  tst : ∀ s ∈ N.steps, s.tests.length ≤ 100 ∧ s.ins.length ≤ 100 ∧ s.outs.length ≤ 100 ∧ s.sets.length ≤ 100 ∧ ∀ t ∈ s.tests, t.1 ∈ N.notes.map (·.1)
structure SOk (N : NetT) (S : Sta) : Prop where
  l1 : S.1.length = N.places.length
  l2 : S.2.length = N.notes.length
theorem cnts_len (N : NetT) (c : List (Str × Int)) : (cnts N c).length = N.places.length := List.length_map _
theorem z3_len : ∀ {a b c : List Int}, a.length = b.length → a.length = c.length → (z3 a b c).length = a.length
  | [], _, _, _, _ => by unfold z3; rfl
  | x :: a, y :: b, z :: c, h1, h2 => by
    unfold z3
    rw [List.length_cons, List.length_cons, z3_len (by simpa using h1) (by simpa using h2)]
  | _ :: _, [], _, h1, _ => by simp at h1
  | _ :: _, _ :: _, [], _, h2 => by simp at h2
theorem SOk.led {N : NetT} {S : Sta} (h : SOk N S) (s : Stp) : SOk N (ledS N S s) := by
  refine ⟨?_, ?_⟩
  · show (z3 S.1 (cnts N s.ins) (cnts N s.outs)).length = _
    rw [z3_len (by rw [cnts_len, h.l1]) (by rw [cnts_len, h.l1]), h.l1]
  · show ((N.notes.zip S.2).map (setV s)).length = _
    rw [List.length_map, List.length_zip, h.l2, Nat.min_self]
theorem SOk.ledI {N : NetT} {S : Sta} (h : SOk N S) (i : Nat) : SOk N (ledI N S i) := by
  unfold Net.ledI
  cases N.steps[i]? with
  | none => exact h
  | some s => exact h.led s
theorem SOk.fst {N : NetT} (h : NOk N) : SOk N (fstS N) := by
  have := h.pl
  refine ⟨?_, ?_⟩
  · show (1 :: List.replicate (N.places.length - 1) 0).length = _
    rw [List.length_cons, List.length_replicate]
    omega
  · show (List.replicate N.notes.length 0).length = _
    rw [List.length_replicate]
theorem lastO_mem : ∀ {c : List (Str × Int)} {k : Str}, k ∈ c.map (·.1) → ∃ n, lastO c k = some n
  | q :: c, k, h => by
    rw [lastO_cons]
    cases e : lastO c k with
    | some n => exact ⟨n, rfl⟩
    | none =>
      rw [List.map_cons] at h
      rcases List.mem_cons.mp h with rfl | h
      · exact ⟨q.2, if_pos rfl⟩
      · obtain ⟨n, hn⟩ := lastO_mem h
        rw [e] at hn
        cases hn
theorem worth_some {N : NetT} {S : Sta} {n : Str} (h : SOk N S) (m : n ∈ N.notes.map (·.1)) : ∃ w, worthO N S.2 n = some w := by
  refine lastO_mem ?_
  rw [List.map_fst_zip (by rw [List.length_map]; exact Nat.le_of_eq h.l2.symm)]
  exact m
end Net
namespace L2
open PySem PySem.Spec PyProof.Rows
theorem dc_it {J : It} {n : Nat} {G : Hp → Prop} {Y : Nat → Hp → V → Hp → Prop} (w : Walk J n G Y) {g : TG} {tt : TT} {tk tv : TE} {vs : List Nat} {σ : St} {H1 : Hp} {D : Addr} {Qd : Hp → Prop} (Pv : Nat → Hp → Prop) (h0 : Pv 0 (upd H1 D (.dK []))) (hG : ∀ i H, i ≤ n → Pv i H → G H)
    (hs : ∀ i x H H', i < n → Pv i H → Y i H x H' → g x (wipe σ vs) H' fun σ2 H2 => wipe σ2 vs = wipe σ vs ∧ tt σ2 H2 fun b H3 =>
      if b = true then tk σ2 H3 fun y H4 => tv σ2 H4 fun z H5 => ∃ kvs k, y = kV k ∧ H5 D = some (.dK kvs) ∧ kvs.length < sizeLine ∧ Pv (i + 1) (upd H5 D (.dK (putK kvs k z))) else Pv (i + 1) H3) (hd : ∀ H, Pv n H → Qd H) :
    ∃ W : Nat → Nat → Hp → Prop, (∃ m, W 0 m (upd H1 D (.dK []))) ∧ ∀ i m H, W i m H →
      (J.stop i H ∧ Qd H) ∨ (J.go i H ∧ ∃ Nx : Hp → Prop, (∀ H', Nx H' → ∃ m', m' < m ∧ W (i + 1) m' H') ∧ ∀ x H', J.yld i H x H' → g x (wipe σ vs) H' fun σ2 H2 => wipe σ2 vs = wipe σ vs ∧ tt σ2 H2 fun b H3 =>
        if b = true then tk σ2 H3 fun y H4 => tv σ2 H4 fun z H5 => ∃ kvs k, y = kV k ∧ H5 D = some (.dK kvs) ∧ kvs.length < sizeLine ∧ Nx (upd H5 D (.dK (putK kvs k z))) else Nx H3) := by
  refine ⟨fun i m H => m = n - i ∧ i ≤ n ∧ Pv i H, ⟨n, by simp, Nat.zero_le _, h0⟩, ?_⟩
  rintro i m H ⟨rfl, hi, p⟩
  have q := hG i H hi p
  by_cases hlt : i < n
  · exact .inr ⟨w.goes i H hlt q, Pv (i + 1), fun H' p' => ⟨n - (i + 1), by omega, rfl, hlt, p'⟩, fun x H' y => hs i x H H' hlt p (w.yields i H x H' hlt q y)⟩
  · have e : i = n := by omega
    subst e
    exact .inl ⟨w.stops H q, hd H p⟩
end L2
namespace Net
open PySem PySem.Spec PyProof.Rows L2 SDx
theorem seq_join {t u : TS} {D : Ends} {σ : L2.St} {H : Hp} (R : L2.St → Hp → Prop) (h : ∀ N : L2.St → Hp → Prop, (∀ σ' H', R σ' H' → N σ' H') → t { D with nx := N } σ H) (k : ∀ σ' H', R σ' H' → u D σ' H') : tSeq t u D σ H := h _ k
structure FillD (H0 : Hp) (D : Addr) (kvs : List (Key × V)) (H : Hp) : Prop where
  same : Same H0 H
  new : H0 D = none
  at_ : H D = some (.dK kvs)
theorem FillD.start {H : Hp} {D : Addr} (h : H D = none) : FillD H D [] (upd H D (.dK [])) := ⟨same_upd h, h, upd_same⟩
theorem FillD.ext {H0 H H' : Hp} {D : Addr} {l : List (Key × V)} (f : FillD H0 D l H) (s : Same H H') : FillD H0 D l H' := ⟨f.same.trans s, f.new, s _ _ f.at_⟩
theorem FillD.put {H0 H : Hp} {D : Addr} {l l' : List (Key × V)} (f : FillD H0 D l H) : FillD H0 D l' (upd H D (.dK l')) :=
  ⟨fun b o e => by rw [upd_ne (ne_of_none e f.new)]; exact f.same b o e, f.new, upd_same⟩
theorem mergeK_append : ∀ (a b : List (Key × V)) (kvs : List (Key × V)), mergeK kvs (a ++ b) = mergeK (mergeK kvs a) b
  | [], _, _ => rfl
  | q :: a, b, kvs => mergeK_append a b (putK kvs q.1 q.2)
theorem mergeK_len : ∀ (a : List (Key × V)) (kvs : List (Key × V)), (mergeK kvs a).length ≤ kvs.length + a.length
  | [], _ => Nat.le_refl _
  | q :: a, kvs => by
    have h1 := mergeK_len a (putK kvs q.1 q.2)
    have h2 : (putK kvs q.1 q.2).length ≤ kvs.length + 1 := by
      exact length_putK kvs q.1 q.2
    show (mergeK (putK kvs q.1 q.2) a).length ≤ _
    rw [List.length_cons]
    omega
theorem FillD.add {H0 H : Hp} {D : Addr} {c c' : List (Str × Int)} {q : Str × Int} (f : FillD H0 D (mergeK [] (c.map entS)) H) (e : c' = c ++ [q]) : FillD H0 D (mergeK [] (c'.map entS)) (upd H D (.dK (putK (mergeK [] (c.map entS)) (Sum.inr q.1) (V.int q.2)))) := by
  subst e
  rw [List.map_append, mergeK_append]
  exact f.put
theorem told_len (c : List (Str × Int)) : (mergeK [] (c.map entS)).length ≤ c.length := by
  have := mergeK_len (c.map entS) []
  rw [List.length_map, List.length_nil] at this
  omega
theorem map_at {α : Type} {f : α → V} {l : List α} {i : Nat} {x : V} (h : (l.map f)[i]? = some x) : ∃ a, l[i]? = some a ∧ x = f a := by
  rw [List.getElem?_map] at h
  obtain ⟨a, ha, rfl⟩ := Option.map_eq_some_iff.mp h
  exact ⟨a, ha, rfl⟩
theorem zip_at {α β : Type} {l : List α} {m : List β} {i : Nat} {a : α} {b : β} (ha : l[i]? = some a) (hb : m[i]? = some b) : (l.zip m)[i]? = some (a, b) := by
  rw [List.getElem?_zip_eq_some]
  exact ⟨ha, hb⟩
theorem worth_someN {N : NetT} {ns : List Int} {n : Str} (h : ns.length = N.notes.length) (m : n ∈ N.notes.map (·.1)) : ∃ w, worthO N ns n = some w := by
  refine lastO_mem ?_
  rw [List.map_fst_zip (by rw [List.length_map]; exact Nat.le_of_eq h.symm)]
  exact m
theorem line_le (n : Nat) (h : n ≤ 16777216) : n ≤ sizeLine := Nat.le_trans h sl_big
theorem flat_rep (n : Nat) (v : V) : (List.replicate n [v]).flatten = List.replicate n v := by
  induction n with
  | zero => rfl
  | succ n ih => rw [List.replicate_succ, List.flatten_cons, ih]; rfl
theorem Same.own' {H H' : Hp} {p : Addr} {o : HO} (s : Same H H') (h : H' p = none) : Same H (upd H' p o) := s.trans (same_upd h)
theorem small {n : Nat} (h : n < 16777216) : n < sizeLine := Nat.lt_of_lt_of_le h sl_big
end Net
namespace Net
open PySem PySem.Spec PyProof.Rows L2 SDx
theorem z3_at : ∀ {a b c : List Int} {i : Nat} {x y z : Int}, a[i]? = some x → b[i]? = some y → c[i]? = some z → (z3 a b c)[i]? = some (x - y + z)
  | _ :: a, _ :: b, _ :: c, 0, x, y, z, h1, h2, h3 => by
    cases (Option.some.inj h1)
    cases (Option.some.inj h2)
    cases (Option.some.inj h3)
    unfold z3
    rfl
  | _ :: a, _ :: b, _ :: c, i + 1, x, y, z, h1, h2, h3 => by
    unfold z3
    exact z3_at (i := i) h1 h2 h3
  | [], _, _, _, _, _, _, h, _, _ => by simp at h
  | _ :: _, [], _, _, _, _, _, _, h, _ => by simp at h
  | _ :: _, _ :: _, [], _, _, _, _, _, _, h => by simp at h
theorem mayI_lt {N : NetT} {S : Sta} {i : Nat} (h : mayI N S i = true) : i < N.steps.length := by
  unfold mayI at h
  cases e : N.steps[i]? with
  | none =>
    rw [e] at h
    cases h
  | some s => exact (List.getElem?_eq_some_iff.mp e).1
theorem paired_add {α β : Type} {F : α → β → Prop} : ∀ {l : List α} {m : List β} {a : α} {b : β}, Paired F l m → F a b → Paired F (l ++ [a]) (m ++ [b])
  | _, _, _, _, .nil, h => .cons h .nil
  | _, _, _, _, .cons r t, h => .cons r (paired_add t h)
def TupO : HO → Prop := fun o => (∃ xs, o = .tup xs) ∨ ∃ u xs, o = .frz u (.tup xs)
def SK (H H' : Hp) : Prop := ∀ b o, H b = some o → TupO o → H' b = some o
theorem SK.refl (H : Hp) : SK H H := fun _ _ e _ => e
theorem SK.of {H H' : Hp} (s : Same H H') : SK H H' := fun _ _ e _ => s _ _ e
theorem SK.trans {H H1 H2 : Hp} (a : SK H H1) (b : SK H1 H2) : SK H H2 := fun c o e t => b c o (a c o e t) t
theorem SK.mut {H : Hp} {p : Addr} {o o' : HO} (h : H p = some o) (n : ¬ TupO o) : SK H (upd H p o') := fun b x e t => by
  rw [upd_ne (fun z => by
    rw [z, h] at e
    cases e
    exact n t)]
  exact e
theorem SK.lst {H : Hp} {p : Addr} {l : List V} {o' : HO} (h : H p = some (.lst l)) : SK H (upd H p o') := SK.mut h fun t => by
  rcases t with ⟨_, e⟩ | ⟨_, _, e⟩ <;> cases e
theorem SK.sdo {P : Program} {w : World} {H : Hp} {p d : Addr} {L : List (Addr × Sta)} {o' : HO} (h : H p = some (SDO P w d L)) : SK H (upd H p o') := SK.mut h fun t => by
  rcases t with ⟨_, e⟩ | ⟨_, _, e⟩ <;> cases e
theorem SK.tup {H H' : Hp} {a : Addr} {xs : List V} (s : SK H H') (h : H a = some (.tup xs)) : H' a = some (.tup xs) := s _ _ h (.inl ⟨_, rfl⟩)
theorem SK.frz {H H' : Hp} {a : Addr} {o : Obj} {xs : List V} (s : SK H H') (h : H a = some (.frz o (.tup xs))) : H' a = some (.frz o (.tup xs)) := s _ _ h (.inr ⟨_, _, rfl⟩)
theorem IsS.sk {H H' : Hp} {a : Addr} {S : Sta} (h : IsS H a S) (s : SK H H') : IsS H' a S := by
  obtain ⟨t1, t2, h0, h1, h2⟩ := h
  exact ⟨t1, t2, s.tup h0, s.tup h1, s.tup h2⟩
theorem Sts.sk {H H' : Hp} {L : List (Addr × Sta)} (h : Sts H L) (s : SK H H') : Sts H' L := fun p hp => IsS.sk (h p hp) s
theorem CnT.sk {H H' : Hp} {a : Addr} {c : List (Str × Int)} (h : CnT H a c) (s : SK H H') : CnT H' a c := by
  obtain ⟨o, ts, e, d, p⟩ := h
  exact ⟨o, ts, s.frz e, d, pm p fun _ _ x => s.tup x⟩
theorem TsT.sk {H H' : Hp} {a : Addr} {c : List (Str × Str × Int)} (h : TsT H a c) (s : SK H H') : TsT H' a c := by
  obtain ⟨o, ts, e, p⟩ := h
  exact ⟨o, ts, s.frz e, pm p fun _ _ x => s.tup x⟩
theorem NtT.sk {H H' : Hp} {a : Addr} {c : List (Str × Int)} (h : NtT H a c) (s : SK H H') : NtT H' a c := by
  obtain ⟨ts, e, p⟩ := h
  exact ⟨ts, s.tup e, pm p fun _ _ x => s.tup x⟩
theorem IsStp.sk {H H' : Hp} {v : V} {x : Stp} (h : IsStp H v x) (s : SK H H') : IsStp H' v x := by
  obtain ⟨a, i, o, t, e, hv, h0, h1, h2, h3, h4⟩ := h
  exact ⟨a, i, o, t, e, hv, s.tup h0, h1.sk s, h2.sk s, h3.sk s, h4.sk s⟩
theorem IsNet.sk {H H' : Hp} {v : V} {N : NetT} (h : IsNet H v N) (s : SK H H') : IsNet H' v N := by
  obtain ⟨a, p, n, t, sx, hv, h0, h1, h2, h3, h4⟩ := h
  exact ⟨a, p, n, t, sx, hv, s.tup h0, s.tup h1, h2.sk s, s.tup h3, pm h4 fun _ _ x => x.sk s⟩
end Net
namespace L2
open PySem PySem.Spec PyProof.Rows
theorem wipe_get (σ : St) (k : Nat) : ∀ vs : List Nat, (wipe σ vs)[k]? = if k ∈ vs then σ[k]?.map (fun _ => none) else σ[k]?
  | [] => by rw [if_neg (by simp)]; rfl
  | v :: vs => by
    show ((wipe σ vs).set v none)[k]? = _
    rw [List.getElem?_set, wipe_length]
    by_cases e : v = k
    · subst e
      rw [if_pos rfl, if_pos (List.mem_cons_self ..)]
      by_cases l : v < σ.length
      · rw [if_pos l, List.getElem?_eq_getElem l]
        rfl
      · rw [if_neg l, List.getElem?_eq_none (by omega)]
        rfl
    · rw [if_neg e, wipe_get σ k vs]
      by_cases m : k ∈ vs
      · rw [if_pos m, if_pos (List.mem_cons_of_mem _ m)]
      · rw [if_neg m, if_neg (fun z => by
          rcases List.mem_cons.mp z with z | z
          · exact e z.symm
          · exact m z)]
theorem wipe_wipe (σ : St) (vs : List Nat) : wipe (wipe σ vs) vs = wipe σ vs := by
  refine List.ext_getElem? fun k => ?_
  rw [wipe_get, wipe_get]
  by_cases m : k ∈ vs
  · rw [if_pos m, if_pos m]
    cases σ[k]? <;> rfl
  · rw [if_neg m, if_neg m]
theorem wipe_put {σ : St} {vs : List Nat} {i : Nat} {v : Option V} (h : i ∈ vs) : wipe (σ.set i v) vs = wipe σ vs := by
  refine List.ext_getElem? fun k => ?_
  rw [wipe_get, wipe_get]
  by_cases m : k ∈ vs
  · rw [if_pos m, if_pos m, List.getElem?_set]
    by_cases e : i = k
    · subst e
      rw [if_pos rfl]
      by_cases l : i < σ.length
      · rw [if_pos l, List.getElem?_eq_getElem l]
        rfl
      · rw [if_neg l, List.getElem?_eq_none (by omega)]
    · rw [if_neg e]
  · rw [if_neg m, if_neg m, List.getElem?_set, if_neg (fun z : i = k => m (z ▸ h))]
theorem wipe1 {σ : St} {vs : List Nat} {i : Nat} {a : Option V} (hi : i ∈ vs) : wipe ((wipe σ vs).set i a) vs = wipe σ vs := by
  rw [wipe_put hi, wipe_wipe]
theorem wipe2 {σ : St} {vs : List Nat} {i j : Nat} {a b : Option V} (hi : i ∈ vs) (hj : j ∈ vs) : wipe (((wipe σ vs).set i a).set j b) vs = wipe σ vs := by
  rw [wipe_put hj, wipe1 hi]
theorem wipe3 {σ : St} {vs : List Nat} {i j k : Nat} {a b c : Option V} (hi : i ∈ vs) (hj : j ∈ vs) (hk : k ∈ vs) : wipe ((((wipe σ vs).set i a).set j b).set k c) vs = wipe σ vs := by
  rw [wipe_put hk, wipe2 hi hj]
end L2
namespace Net
open PySem PySem.Spec PyProof.Rows L2 SDx
def sp_first : Sp := fun vs H Q _ => ∃ (v : V) (N : NetT), vs = [v] ∧ IsNet H v N ∧ NOk N ∧ ∀ H' p, Same H H' → IsS H' p (fstS N) → Q (.ref p) H'
def sp_ended : Sp := fun vs H Q _ => ∃ (v : V) (a : Addr) (N : NetT) (S : Sta), vs = [v, .ref a] ∧ IsS H a S ∧ SOk N S ∧ NOk N ∧ ∀ H', Same H H' → Q (.bl (endB S)) H'
def sp_hold : Sp := fun vs H Q _ => ∃ (t : Addr) (q : Str × Str × Int) (w : Int), vs = [.ref t, .int w] ∧ TrpT H t q ∧ Q (.bl (holdT q.2.1 q.2.2 w)) H
def sp_allhold : Sp := fun vs H Q _ => ∃ (v : V) (N : NetT) (t u : Addr) (ts : List (Str × Str × Int)) (ns : List Int), vs = [v, .ref t, .ref u] ∧ IsNet H v N ∧ NOk N ∧ TsT H t ts ∧ ts.length ≤ 100 ∧ (∀ q ∈ ts, q.1 ∈ N.notes.map (·.1)) ∧ H u = some (.tup (ns.map V.int)) ∧ ns.length = N.notes.length ∧ ∀ H', Same H H' → Q (.bl (allHold N ts ns)) H'
def sp_counts : Sp := fun vs H Q _ => ∃ (v : V) (N : NetT) (a : Addr) (c : List (Str × Int)), vs = [v, .ref a] ∧ IsNet H v N ∧ NOk N ∧ CnT H a c ∧ ∀ H' p, Same H H' → H p = none → H' p = some (.lst ((cnts N c).map V.int)) → Q (.ref p) H'
section
variable {P : Program} {w : World} {K : PySem.W.Frag} {mg : Str → Option Value} {base : Heap}
abbrev s_does_hold : Stmt := top 14
theorem sc_does_hold : FnScope ["test", "worth", "note", "sign", "number"] ["test", "worth"] (defScope s_does_hold) := ⟨rfl, rfl, rfl, by decide +kernel, rfl, by decide +kernel, by decide +kernel⟩
theorem ok_hold {f : Addr} {fd : FuncData} (F : Fun K "does_hold" "does_hold" s_does_hold f fd) (T : Tx mg) : FnOk P w K mg base CX0 1 f fd ["test", "worth"] sp_hold := by
  refine F.ok sc_does_hold (fun vs H Q E h => ?_) (fun cdv A outer s H vs Q E hr h => ?_)
  · obtain ⟨t, q, w, rfl, _⟩ := h
    rfl
  · obtain ⟨t, q, w, rfl, ht, k⟩ := h
    refine ⟨_, (pss_cons (ps_asg (pv 0) (pg_tup rfl (pgs_cons (pg_name (i := 2) sc_does_hold.nd rfl (Or.inl rfl)) (pgs_cons (pg_name (i := 3) sc_does_hold.nd rfl (Or.inl rfl)) (pgs_cons (pg_name (i := 4) sc_does_hold.nd rfl (Or.inl rfl)) pgs_nil)))))
      (pss_cons (ps_if (pt_cmpR op_eq (pv 3) pe_str (nomark _)) (pss_one (ps_ret (pe_cmpR op_lt (pv 1) (pv 4) (nomark _)))) pss_nil)
      (pss_one (ps_ret (pe_ifExp (pt_cmpR op_eq (pv 3) pe_str (nomark _)) (pe_cmpR op_gt (pv 1) (pv 4) (nomark _)) (pe_cmpR op_eq (pv 1) (pv 4) (nomark _))))))), ?_⟩
    obtain ⟨nm, sg, num⟩ := q
    refine ⟨_, rfl, t, _, rfl, SqT.of ht, rfl, _, _, rfl, _, _, rfl, _, _, rfl, rfl, _, rfl, rfl, _, rfl, ?_⟩
    unfold holdT at k
    by_cases e1 : sg = "<"
    · have k : Q (.bl (if sg = "<" then decide (w < num) else if sg = ">" then decide (w > num) else decide (w = num))) H := k
      rw [if_pos e1] at k
      rw [decide_eq_true (show V.str sg = V.str "<" by rw [e1])]
      exact iteT ⟨_, rfl, _, rfl, _, _, rfl, rfl, k⟩
    have k : Q (.bl (if sg = "<" then decide (w < num) else if sg = ">" then decide (w > num) else decide (w = num))) H := k
    rw [if_neg e1] at k
    rw [decide_eq_false (fun z : V.str sg = V.str "<" => e1 (by injection z))]
    refine iteF ⟨_, rfl, rfl, _, rfl, ?_⟩
    by_cases e2 : sg = ">"
    · rw [if_pos e2] at k
      rw [decide_eq_true (show V.str sg = V.str ">" by rw [e2])]
      exact iteT ⟨_, rfl, _, rfl, _, _, rfl, rfl, k⟩
    rw [if_neg e2] at k
    rw [decide_eq_false (fun z : V.str sg = V.str ">" => e2 (by injection z))]
    refine iteF ⟨_, rfl, _, rfl, rfl, ?_⟩
    have e3 : decide (V.int w = V.int num) = decide (w = num) := by
      by_cases z : w = num
      · rw [decide_eq_true z, decide_eq_true (by rw [z])]
      · rw [decide_eq_false z, decide_eq_false (fun y => z (by injection y))]
    rw [e3]
    exact k
abbrev s_counts_of : Stmt := top 16
theorem sc_counts_of : FnScope ["net", "some", "told", "place"] ["net", "some"] (defScope s_counts_of) := ⟨rfl, rfl, rfl, by decide +kernel, rfl, by decide +kernel, by decide +kernel⟩
theorem ok_counts {f : Addr} {fd : FuncData} (F : Fun K "counts_of" "counts_of" s_counts_of f fd) (T : Tx mg) : FnOk P w K mg base CX0 1 f fd ["net", "some"] sp_counts := by
  refine F.ok sc_counts_of (fun vs H Q E h => ?_) (fun cdv A outer s H vs Q E hr h => ?_)
  · obtain ⟨v, N, a, c, rfl, _⟩ := h
    rfl
  · obtain ⟨v, N, a, c, rfl, hv, hN, hc, k⟩ := h
    refine ⟨_, (pss_cons (ps_set (i := 2) sc_counts_of.nd rfl (Or.inr rfl) (pe_callTy (DicT.call_dictF rfl) (by rfl) T.n_dict (by decide +kernel) (pa_cons (pv 1) pa_nil)))
      (pss_one (ps_ret (pe_lc (own := [("place", 3)]) (g := gName 3) (tt := tYes) rfl sc_counts_of.nd (pi_tup (pe_ix ix_tup (pv 0) pe_int (fun _ _ => rfl))) (blkOk_by (N := ["net", "some", "told", "place"]) (sc := defScope s_counts_of) (by decide +kernel)) (fun _ _ _ _ _ => pg_name (i := 3) sc_counts_of.nd rfl (Or.inl rfl)) (fun _ _ _ _ _ => pts_nil) (fun _ _ _ _ _ => (pe_dget2 (hu_of hr) (pv 2) (pv 3) pe_int ⟨rfl, rfl, rfl, rfl⟩)))))), ?_⟩
    obtain ⟨na, np, nn, nt, sx, rfl, h0, h1, h2, h3, h4⟩ := hv
    obtain ⟨o, ts, ha, hd, hp⟩ := hc
    refine ⟨_, rfl, a, o, ts, c.map entS, rfl, ha, hd, pairs_sq hp, fun p hn => ?_⟩
    have s1 := same_upd (o := .dK (mergeK [] (c.map entS))) hn
    have hp1 := @upd_same H p (.dK (mergeK [] (c.map entS)))
    generalize upd H p (.dK (mergeK [] (c.map entS))) = H1 at s1 hp1 ⊢
    have g0 := s1 _ _ h0
    refine ⟨_, rfl, na, _, 1, _, rfl, rfl, SqT.of g0, rfl, np, rfl, ⟨_, SqT.of (s1 _ _ h1)⟩, fun D hD => lc_tup (K := K) (a := np) (xs := N.places.map V.str) (fun i H' => Fill H1 D ((N.places.take i).map fun p => V.int ((lastO c p).getD 0)) H') (.start hD) (fun i H' _ fl => SqT.of (fl.same _ _ (s1 _ _ h1))) ?_ ?_⟩
    · intro i x H' hx fl
      rw [List.getElem?_map] at hx
      obtain ⟨q, hq, rfl⟩ := Option.map_eq_some_iff.mp hx
      have hd1 := fl.same _ _ hp1
      have hdg : DGet H' p (.str q) ((lastO c q).map V.int) := by
        rw [← valV_of]
        exact DGet.k (k := Sum.inr q) hd1
      refine ⟨rfl, _, rfl, p, rfl, .inl ⟨_, .inl hd1⟩, _, rfl, _, hdg, _, fl.at_, ?_, fl.add ?_⟩
      · have := hN.pl2
        rw [List.length_map, List.length_take]
        exact Nat.lt_of_lt_of_le (by omega) sl_big
      · rw [take_add hq, List.map_append]
        cases e : lastO c q with
        | none => rw [List.map_cons, e]; rfl
        | some z => rw [List.map_cons, e]; rfl
    · intro H' fl
      rw [List.length_map, List.take_length] at fl
      refine k _ _ (s1.trans fl.same) (s1.free hD) ?_
      rw [fl.at_]
      unfold cnts
      rw [List.map_map]
      rfl
abbrev s_do_all_hold : Stmt := top 15
theorem sc_do_all_hold : FnScope ["net", "tests", "values", "worths", "note", "most", "value", "test"] ["net", "tests", "values"] (defScope s_do_all_hold) := ⟨rfl, rfl, rfl, by decide +kernel, rfl, by decide +kernel, by decide +kernel⟩
theorem ok_allhold {f f_does_hold : Addr} {fd fd1 : FuncData} (F : Fun K "do_all_hold" "do_all_hold" s_do_all_hold f fd) (T : Tx mg) (d_does_hold : Ok1 P w K mg base CX0 1 "does_hold" ["test", "worth"] sp_hold f_does_hold fd1) : FnOk P w K mg base CX0 2 f fd ["net", "tests", "values"] sp_allhold := by
  refine F.ok sc_do_all_hold (fun vs H Q E h => ?_) (fun cdv A outer s H vs Q E hr h => ?_)
  · obtain ⟨v, N, t, u, ts, ns, rfl, _⟩ := h
    rfl
  · obtain ⟨v, N, t, u, ts, ns, rfl, hv, hN, ht, htl, htn, hu, hul, k⟩ := h
    refine ⟨_, (pss_cons (ps_set (i := 3) sc_do_all_hold.nd rfl (Or.inr rfl) (pe_dc (own := [("note", 4), ("most", 5), ("value", 6)]) (g := (gTup K 2 (gCons (gTup K 2 (gCons (gName 4) (gCons (gName 5) gNil))) (gCons (gName 6) gNil)))) (tt := tYes) rfl sc_do_all_hold.nd (ZipN.pi_zip2 (by rfl) T.n_zip (pa_cons (pe_ix ix_tup (pv 0) pe_int (fun _ _ => rfl)) (pa_cons (pv 2) pa_nil))) (blkOk_by (N := ["net", "tests", "values", "worths", "note", "most", "value", "test"]) (sc := defScope s_do_all_hold) (by decide +kernel)) (fun _ _ _ _ _ => by exact pg_tup rfl (pgs_cons (pg_tup rfl (pgs_cons (pg_name (i := 4) sc_do_all_hold.nd rfl (Or.inl rfl)) (pgs_cons (pg_name (i := 5) sc_do_all_hold.nd rfl (Or.inl rfl)) pgs_nil))) (pgs_cons (pg_name (i := 6) sc_do_all_hold.nd rfl (Or.inl rfl)) pgs_nil))) (fun _ _ _ _ _ => pts_nil) (fun _ _ _ _ _ => (pv 4)) (fun _ _ _ _ _ => (pv 6))))
      (pss_one (ps_ret (pe_callB (cr_all rfl) (by rfl) T.n_all (by decide +kernel) (pa_cons (pe_lc (own := [("test", 7)]) (g := gName 7) (tt := tYes) rfl sc_do_all_hold.nd (pi_tup (pv 1)) (blkOk_by (N := ["net", "tests", "values", "worths", "note", "most", "value", "test"]) (sc := defScope s_do_all_hold) (by decide +kernel)) (fun _ _ _ _ _ => pg_name (i := 7) sc_do_all_hold.nd rfl (Or.inl rfl)) (fun _ _ _ _ _ => pts_nil) (fun _ _ _ _ _ => (pe_call d_does_hold.ok (hr.mono (by decide)) rfl d_does_hold.g d_does_hold.kp d_does_hold.b .nil pass0 (pa_cons (pv 7) (pa_cons (pe_dget (hu_of hr) (pv 3) (pe_ix (show IxR _ (rIxT K) from ix_tup) (pv 7) pe_int (fun _ _ => rfl)) (fun _ _ => rfl)) pa_nil))))) pa_nil))))), ?_⟩
    obtain ⟨na, np, nn, nt, sx, rfl, h0, h1, ⟨ts', e2, hp2⟩, h3, h4⟩ := hv
    obtain ⟨o, ts0, ht, hp⟩ := ht
    have ul : ts'.length = ns.length := by rw [hp2.length, hul]
    refine ⟨_, rfl, na, _, 2, _, rfl, rfl, SqT.of h0, rfl, _, rfl, false, false, nn, u, _, _, rfl, SqT.of e2, SqT.of hu, fun D hD => ?_⟩
    refine dc_it (ZipN.walk_zip2 (K := K) (n := ns.length) (by rw [List.length_map, ul]) (by rw [List.length_map])) (fun i H' => FillD H D (mergeK [] ((((N.notes.map (·.1)).zip ns).take i).map entS)) H') (.start hD) (fun i H' _ fl => ⟨SqT.of (fl.same _ _ e2), SqT.of (fl.same _ _ hu)⟩) ?_ ?_
    · intro i x H1 H2 hi fl hy
      obtain ⟨T, x1, x2, rfl, hT, rfl, y1, y2⟩ := hy
      obtain ⟨t1, ht1, rfl⟩ := map_at y1
      obtain ⟨n2, hn2, rfl⟩ := map_at y2
      obtain ⟨nq, hnq, hpt⟩ := paired_getL hp2 ht1
      have sx := same_upd (o := .tup [.ref t1, .int n2]) hT
      have hz : (((N.notes.map (·.1)).zip ns))[i]? = some (nq.1, n2) := zip_at (by rw [List.getElem?_map, hnq]; rfl) hn2
      have fl2 := fl.ext sx
      refine ⟨T, _, rfl, SqT.of upd_same, rfl, _, _, rfl, t1, _, rfl, SqT.of (sx _ _ (fl.same _ _ hpt)), rfl, _, _, rfl, _, _, rfl, rfl, _, _, rfl, rfl, rfl, _, rfl, _, rfl, _, Sum.inr nq.1, rfl, fl2.at_, ?_, ?_⟩
      · refine small (Nat.lt_of_le_of_lt (told_len _) ?_)
        have := hN.nt
        rw [List.length_take]
        omega
      · exact fl2.add (q := (nq.1, n2)) (by rw [take_add hz])
    · intro H1 fl
      rw [List.take_of_length_le (by rw [List.length_zip]; omega)] at fl
      refine ⟨_, rfl, t, rfl, ⟨_, .inl (.inr ⟨_, fl.same _ _ ht⟩)⟩, fun D2 hD2 => lc_tup (K := K) (a := t) (xs := ts0.map V.ref) (fun i H' => Fill H1 D2 ((ts.take i).map fun q => V.bl (holdW N ns q)) H') (.start hD2) (fun i H' _ f2 => .inl (.inr ⟨_, f2.same _ _ (fl.same _ _ ht)⟩)) ?_ ?_⟩
      · intro i x H' hx f2
        obtain ⟨t1, ht1, rfl⟩ := map_at hx
        obtain ⟨q, hq, hpt⟩ := paired_getL hp ht1
        have g1 := f2.same _ _ (fl.same _ _ hpt)
        have gd := f2.same _ _ fl.at_
        have hW : ∃ w, worthO N ns q.1 = some w := worth_someN hul (htn q (List.mem_of_getElem? hq))
        obtain ⟨wv, hw⟩ := hW
        have hdg : DGet H' D (.str q.1) (some (.int wv)) := by
          have := DGet.k (k := Sum.inr q.1) gd
          rw [valV_of] at this
          rw [show lastO ((N.notes.map (·.1)).zip ns) q.1 = some wv from hw] at this
          exact this
        refine ⟨rfl, _, rfl, _, rfl, _, rfl, t1, _, 0, _, rfl, rfl, SqT.of g1, rfl, D, _, rfl, hdg, t1, q, wv, rfl, g1, _, f2.at_, ?_, f2.add ?_⟩
        · refine small ?_
          rw [List.length_map, List.length_take]
          omega
        · rw [take_add hq, List.map_append]
          refine congrArg (List.map _ _ ++ ·) (congrArg (fun z => [V.bl z]) ?_)
          show holdT _ _ _ = _
          rw [hw]
          rfl
      · intro H' f2
        rw [List.length_map, hp.length, List.take_length] at f2
        refine ⟨D2, ts.map (holdW N ns), rfl, SqL.of (by rw [f2.at_, List.map_map]; rfl), ?_⟩
        show Q (.bl ((ts.map (holdW N ns)).all id)) H'
        rw [List.all_map]
        exact k _ (fl.same.trans f2.same)
abbrev s_first_state : Stmt := top 12
theorem sc_first_state : FnScope ["net"] ["net"] (defScope s_first_state) := ⟨rfl, rfl, rfl, by decide +kernel, rfl, by decide +kernel, by decide +kernel⟩
theorem ok_first {f : Addr} {fd : FuncData} (F : Fun K "first_state" "first_state" s_first_state f fd) (T : Tx mg) : FnOk P w K mg base CX0 1 f fd ["net"] sp_first := by
  refine F.ok sc_first_state (fun vs H Q E h => ?_) (fun cdv A outer s H vs Q E hr h => ?_)
  · obtain ⟨v, N, rfl, _⟩ := h
    rfl
  · obtain ⟨v, N, rfl, hv, hN, k⟩ := h
    refine ⟨_, (pss_one (ps_ret (pe_tup (pa_cons (pe_tup (pa_cons pe_int (StX.pa_star (pe_op op_rep (pe_lst (pa_cons pe_int pa_nil)) (pe_op op_sub (pe_callB call_len (by rfl) T.n_len (by decide +kernel) (pa_cons (pe_ix ix_tup (pv 0) pe_int (fun _ _ => rfl)) pa_nil)) pe_int)) pa_nil))) (pa_cons (pe_callTy call_tuple_of (by rfl) T.n_tuple (by decide +kernel) (pa_cons (pe_op op_rep (pe_lst (pa_cons pe_int pa_nil)) (pe_callB call_len (by rfl) T.n_len (by decide +kernel) (pa_cons (pe_ix ix_tup (pv 0) pe_int (fun _ _ => rfl)) pa_nil))) pa_nil)) pa_nil))))), ?_⟩
    obtain ⟨na, np, nn, nt, sx, rfl, h0, h1, ⟨ts', e2, hp2⟩, h3, h4⟩ := hv
    have l2 : ts'.length = N.notes.length := hp2.length
    refine ⟨line_le 1 (by decide), fun p1 z1 => ?_⟩
    have s1 := same_upd (o := .lst [.int 0]) z1
    have b1 := @upd_same H p1 (.lst [.int 0])
    generalize upd H p1 (.lst [.int 0]) = H1 at s1 b1 ⊢
    have pl := hN.pl
    have pl2 := hN.pl2
    have nt2 := hN.nt
    refine ⟨_, rfl, na, _, 1, _, rfl, rfl, SqT.of (s1 _ _ h0), rfl, .ref np, N.places.length, rfl, .inr ⟨_, SqT.of (s1 _ _ h1), by rw [List.length_map]⟩, _, _, rfl, rfl, p1, _, _, rfl, rfl, b1, by omega, by omega, line_le _ (show 1 * _ ≤ 16777216 by omega), fun p2 z2 => ?_⟩
    have e1 : ((List.replicate (((N.places.length : Nat) : Int) - 1).toNat [V.int 0]).flatten) = List.replicate (N.places.length - 1) (V.int 0) := by
      rw [flat_rep]
      exact congrArg (List.replicate · (V.int 0)) (by omega)
    rw [e1] at *
    have s2 := s1.trans (same_upd (o := .lst (List.replicate (N.places.length - 1) (V.int 0))) z2)
    have b2 := @upd_same H1 p2 (.lst (List.replicate (N.places.length - 1) (V.int 0)))
    generalize upd H1 p2 (.lst (List.replicate (N.places.length - 1) (V.int 0))) = H2 at s2 b2 ⊢
    refine ⟨p2, _, rfl, .inr (SqL.of b2), line_le _ ?_, fun p3 z3 => ?_⟩
    · rw [List.length_cons, List.length_append, List.length_replicate, List.length_nil]
      omega
    have s3 := s2.trans (same_upd (o := .tup (V.int 1 :: (List.replicate (N.places.length - 1) (V.int 0) ++ []))) z3)
    have b3 := @upd_same H2 p3 (.tup (V.int 1 :: (List.replicate (N.places.length - 1) (V.int 0) ++ [])))
    generalize upd H2 p3 (.tup (V.int 1 :: (List.replicate (N.places.length - 1) (V.int 0) ++ []))) = H3 at s3 b3 ⊢
    refine ⟨line_le 1 (by decide), fun p4 z4 => ?_⟩
    have s34 := same_upd (o := .lst [.int 0]) z4
    have b4 := @upd_same H3 p4 (.lst [.int 0])
    generalize upd H3 p4 (.lst [.int 0]) = H4 at s34 b4 ⊢
    have s4 := s3.trans s34
    refine ⟨_, rfl, na, _, 2, _, rfl, rfl, SqT.of (s4 _ _ h0), rfl, .ref nn, N.notes.length, rfl, .inr ⟨_, SqT.of (s4 _ _ e2), by rw [List.length_map, l2]⟩, p4, _, _, rfl, rfl, b4, by omega, by omega, line_le _ (show 1 * _ ≤ 16777216 by omega), fun p5 z5 => ?_⟩
    have e2 : ((List.replicate ((N.notes.length : Nat) : Int).toNat [V.int 0]).flatten) = List.replicate N.notes.length (V.int 0) := by
      rw [flat_rep]
      exact congrArg (List.replicate · (V.int 0)) (by omega)
    rw [e2] at *
    have s5 := s34.trans (same_upd (o := .lst (List.replicate N.notes.length (V.int 0))) z5)
    have b5 := @upd_same H4 p5 (.lst (List.replicate N.notes.length (V.int 0)))
    generalize upd H4 p5 (.lst (List.replicate N.notes.length (V.int 0))) = H5 at s5 b5 ⊢
    refine ⟨p5, _, rfl, .inl ⟨SqL.of b5, fun p6 z6 => ?_⟩⟩
    have s6 := s5.trans (same_upd (o := .tup (List.replicate N.notes.length (V.int 0))) z6)
    have b6 := @upd_same H5 p6 (.tup (List.replicate N.notes.length (V.int 0)))
    generalize upd H5 p6 (.tup (List.replicate N.notes.length (V.int 0))) = H6 at s6 b6 ⊢
    refine ⟨line_le 2 (by decide), fun p7 z7 => ?_⟩
    refine k _ _ (Same.trans (Same.trans s3 s6) (same_upd z7)) ⟨p3, p6, upd_same, ?_, ?_⟩
    · rw [upd_ne (ne_of_none (s6 _ _ b3) z7), s6 _ _ b3, List.append_nil]
      show _ = some (HO.tup (V.int 1 :: List.map V.int (List.replicate (N.places.length - 1) 0)))
      rw [List.map_replicate]
    · rw [upd_ne (ne_of_none b6 z7), b6]
      show _ = some (HO.tup (List.map V.int (List.replicate N.notes.length 0)))
      rw [List.map_replicate]
abbrev s_is_ended : Stmt := top 13
theorem sc_is_ended : FnScope ["net", "state", "tokens", "values"] ["net", "state"] (defScope s_is_ended) := ⟨rfl, rfl, rfl, by decide +kernel, rfl, by decide +kernel, by decide +kernel⟩
theorem ok_ended {f : Addr} {fd : FuncData} (F : Fun K "is_ended" "is_ended" s_is_ended f fd) (T : Tx mg) : FnOk P w K mg base CX0 1 f fd ["net", "state"] sp_ended := by
  refine F.ok sc_is_ended (fun vs H Q E h => ?_) (fun cdv A outer s H vs Q E hr h => ?_)
  · obtain ⟨v, a, N, S, rfl, _⟩ := h
    rfl
  · obtain ⟨v, a, N, S, rfl, hS, hSO, hN, k⟩ := h
    refine ⟨_, (pss_cons (ps_asg (pv 1) (pg_tup rfl (pgs_cons (pg_name (i := 2) sc_is_ended.nd rfl (Or.inl rfl)) (pgs_cons (pg_name (i := 3) sc_is_ended.nd rfl (Or.inl rfl)) pgs_nil))))
      (pss_one (ps_ret (pe_and (pe_cmpR op_eq (pe_ix ix_tup (pv 2) (pe_un un_neg pe_int) (fun _ _ => rfl)) pe_int (nomark _)) (pe_one (pe_not (pe_callB (SumT.cr_anyT rfl) (by rfl) T.n_any (by decide +kernel) (pa_cons (pe_slice sl_tupA (pv 2) po_none (po_some (pe_un un_neg pe_int))) pa_nil)))))))), ?_⟩
    obtain ⟨t1, t2, ha, ht1, ht2⟩ := hS
    have l1 := hSO.l1
    have pl := hN.pl
    have pl2 := hN.pl2
    obtain ⟨toks, vals⟩ := S
    rcases List.eq_nil_or_concat toks with rfl | ⟨as, x, hx⟩
    · change 0 = _ at l1
      omega
    rw [List.concat_eq_append] at hx
    subst hx
    change (as ++ [x]).length = _ at l1
    change H t1 = some (.tup ((as ++ [x]).map V.int)) at ht1
    rw [List.map_append] at ht1
    have hat : atI (as.map V.int ++ [x].map V.int) (-1) = some (.int x) := atI_last _ _
    have hE : endB (as ++ [x], vals) = (decide (x = 1) && !(as.any fun n => decide (n ≠ 0))) := by
      show (decide ((as ++ [x]).getLast? = some 1) && !((as ++ [x]).dropLast.any fun n => decide (n ≠ 0))) = _
      rw [List.getLast?_concat, List.dropLast_concat]
      have : decide (some x = some 1) = decide (x = 1) := by
        by_cases z : x = 1
        · rw [decide_eq_true z, decide_eq_true (by rw [z])]
        · rw [decide_eq_false z, decide_eq_false (fun y => z (by injection y))]
      rw [this]
    rw [hE] at k
    refine ⟨_, rfl, a, _, rfl, SqT.of ha, rfl, _, _, rfl, _, _, rfl, rfl, _, rfl, _, rfl, t1, _, -1, _, rfl, rfl, SqT.of ht1, hat, rfl, decide (x = 1), congrArg V.bl ?_, ?_⟩
    · by_cases z : x = 1
      · rw [decide_eq_true z, decide_eq_true (by rw [z])]
      · rw [decide_eq_false z, decide_eq_false (fun y => z (by injection y))]
    by_cases z : x = 1
    · rw [decide_eq_true z] at k ⊢
      refine iteT ⟨_, rfl, _, rfl, _, rfl, t1, _, rfl, SqT.of ht1, fun q => absurd q.2 ?_, fun _ p z1 => ?_⟩
      · rw [List.length_append, List.length_map]
        show HT.sIx (as.length + 1) (as.length + 1) (some (-1)) ≠ as.length + 1
        show ((-1 : Int) + ((as.length + 1 : Nat) : Int)).toNat ≠ as.length + 1
        omega
      · have e1 : cutV (as.map V.int ++ [x].map V.int) none (some (-1)) = as.map V.int := by
          unfold cutV
          rw [List.length_append, List.length_map, HT.sIx_none]
          show List.take (((-1 : Int) + ((as.length + 1 : Nat) : Int)).toNat - 0) _ = _
          rw [show (((-1 : Int) + ((as.length + 1 : Nat) : Int)).toNat - 0) = (as.map V.int).length by rw [List.length_map]; omega]
          exact List.take_left
        refine ⟨p, as, rfl, SqT.of (by rw [upd_same]; exact congrArg (some ∘ HO.tup) e1), _, rfl, ?_⟩
        exact k _ (same_upd z1)
    · rw [decide_eq_false z] at k ⊢
      exact iteF (k _ (fun _ _ e => e))
end
end Net
namespace Net
open PySem PySem.Spec PyProof.Rows L2 SDx
structure Tex (P : Program) (K : PySem.W.Frag) (mg : Str → Option Value) (CR fR ccR CN fN ccN CO : Addr) : Prop where
  g_Refused : mg "Refused" = some (.ref CR)
  xRF : ExTxt P K mg CR fR ccR "Refused.__init__" sRF
  nRF : PySem.W.findIn K (.ref CR) "why" = some none
  g_NoName : mg "NoName" = some (.ref CN)
  xNN : ExTxt P K mg CN fN ccN "NoName.__init__" sNN
  nNN : PySem.W.findIn K (.ref CN) "name" = some none
  g_Nothing : mg "Nothing" = some (.ref CO)
  xN : PySem.W.excIn K CO [.type "ValueError", .type "Exception", .type "BaseException", .type "object"] "ValueError.__new__" = true
  kN : PySem.W.keepIn K (.ref CO) = true
  bN : PySem.W.subIn K (.ref CO) (.type "BaseException") = some true
  tN : PySem.W.typeIn K (.ref CO) = some (.type "type")
structure Tey (K : PySem.W.Frag) (CR CN CO : Addr) : Prop where
  oo : PySem.W.exmOne K (.ref CO) (.ref CO) = some true
  no : PySem.W.exmOne K (.ref CN) (.ref CO) = some false
  nn : PySem.W.exmOne K (.ref CN) (.ref CN) = some true
  ro : PySem.W.exmOne K (.ref CR) (.ref CO) = some false
  rn : PySem.W.exmOne K (.ref CR) (.ref CN) = some false
  rr : PySem.W.exmOne K (.ref CR) (.ref CR) = some true
  xR : XfC K CR
  xNm : XfC K CN
def RfE (CR : Addr) (H : Hp) (z : Str) (E : XK) : Prop := ∀ (H' : Hp) (e : Addr), Same H H' → H' e = some (.xd [(("why" : Str), .str z)]) → E (.ref CR) (some e) H'
def NnE (CN : Addr) (H : Hp) (v : V) (E : XK) : Prop := ∀ (H' : Hp) (e : Addr), Same H H' → H' e = some (.xd [(("name" : Str), v)]) → E (.ref CN) (some e) H'
def NtE (CO : Addr) (H : Hp) (E : XK) : Prop := ∀ (H' : Hp), Same H H' → E (.ref CO) none H'
def sp_may : Sp := fun vs H Q _ => ∃ (v : V) (N : NetT) (a : Addr) (S : Sta) (i : Nat), vs = [v, .ref a, .int i] ∧ IsNet H v N ∧ NOk N ∧ IsS H a S ∧ SOk N S ∧ i < N.steps.length ∧ ∀ H', Same H H' → Q (.bl (mayI N S i)) H'
def intsV (l : List Nat) : List V := l.map fun i => V.int (i : Nat)
def sp_doable : Sp := fun vs H Q _ => ∃ (v : V) (N : NetT) (a : Addr) (S : Sta), vs = [v, .ref a] ∧ IsNet H v N ∧ NOk N ∧ IsS H a S ∧ SOk N S ∧ ∀ H' p, Same H H' → H' p = some (.tup (intsV (doab N S))) → Q (.ref p) H'
def sp_behind : Sp := fun vs H Q _ => ∃ (v : V) (N : NetT) (a : Addr) (S : Sta) (i : Nat), vs = [v, .ref a, .int i] ∧ IsNet H v N ∧ NOk N ∧ IsS H a S ∧ SOk N S ∧ i < N.steps.length ∧ ∀ H' p, Same H H' → IsS H' p (ledI N S i) → Q (.ref p) H'
def sp_led (CR : Addr) : Sp := fun vs H Q E => ∃ (v u : V) (d : PyData) (N : NetT) (a : Addr) (S : Sta), vs = [v, .ref a, u] ∧ IsNet H v N ∧ NOk N ∧ IsS H a S ∧ SOk N S ∧ Rp H u d ∧ (∀ i : Nat, d = .int i → mayI N S i = true → ∀ H' p, Same H H' → IsS H' p (ledI N S i) → Q (.ref p) H') ∧ ((∀ i : Nat, d = .int i → mayI N S i = false) → RfE CR H "step" E)
def IsW (H : Hp) (v : V) (q : Nat × Sta) : Prop := ∃ a b : Addr, v = .ref a ∧ H a = some (.tup [.int (q.1 : Nat), .ref b]) ∧ IsS H b q.2
theorem IsW.sk {H H' : Hp} {v : V} {q : Nat × Sta} (h : IsW H v q) (s : SK H H') : IsW H' v q := by
  obtain ⟨a, b, e, h1, h2⟩ := h
  exact ⟨a, b, e, s.tup h1, IsS.sk h2 s⟩
def waysS (N : NetT) (S : Sta) : List (Nat × Sta) := (doab N S).map fun i => (i, ledI N S i)
def sp_ways : Sp := fun vs H Q _ => ∃ (v : V) (N : NetT) (a : Addr) (S : Sta), vs = [v, .ref a] ∧ IsNet H v N ∧ NOk N ∧ IsS H a S ∧ SOk N S ∧ ∀ H' p ws, Same H H' → H p = none → H' p = some (.lst ws) → Paired (IsW H') ws (waysS N S) → Q (.ref p) H'
section
variable {P : Program} {w : World} {K : PySem.W.Frag} {mg : Str → Option Value} {base : Heap} {CR fR ccR CN fN ccN CO : Addr}
abbrev s_may_do : Stmt := top 17
theorem sc_may_do : FnScope ["net", "state", "index", "tokens", "values", "name", "role", "inputs", "outputs", "tests", "sets", "days", "has", "needs"] ["net", "state", "index"] (defScope s_may_do) := ⟨rfl, rfl, rfl, by decide +kernel, rfl, by decide +kernel, by decide +kernel⟩
theorem ok_may {f f_do_all_hold f_counts_of : Addr} {fd fd1 fd2 : FuncData} (F : Fun K "may_do" "may_do" s_may_do f fd) (T : Tx mg) (d_do_all_hold : Ok1 P w K mg base CX0 2 "do_all_hold" ["net", "tests", "values"] sp_allhold f_do_all_hold fd1) (d_counts_of : Ok1 P w K mg base CX0 1 "counts_of" ["net", "some"] sp_counts f_counts_of fd2) : FnOk P w K mg base CX0 3 f fd ["net", "state", "index"] sp_may := by
  refine F.ok sc_may_do (fun vs H Q E h => ?_) (fun cdv A outer s H vs Q E hr h => ?_)
  · obtain ⟨v, N, a, S, i, rfl, _⟩ := h
    rfl
  · obtain ⟨v, N, a, S, i, rfl, hv, hN, hS, hSO, hi, k⟩ := h
    refine ⟨_, (pss_cons (ps_asg (pv 1) (pg_tup rfl (pgs_cons (pg_name (i := 3) sc_may_do.nd rfl (Or.inl rfl)) (pgs_cons (pg_name (i := 4) sc_may_do.nd rfl (Or.inl rfl)) pgs_nil))))
      (pss_cons (ps_asg (pe_ix ix_tup (pe_ix ix_tup (pv 0) pe_int (fun _ _ => rfl)) (pv 2) (fun _ _ => rfl)) (pg_tup rfl (pgs_cons (pg_name (i := 5) sc_may_do.nd rfl (Or.inl rfl)) (pgs_cons (pg_name (i := 6) sc_may_do.nd rfl (Or.inl rfl)) (pgs_cons (pg_name (i := 7) sc_may_do.nd rfl (Or.inl rfl)) (pgs_cons (pg_name (i := 8) sc_may_do.nd rfl (Or.inl rfl)) (pgs_cons (pg_name (i := 9) sc_may_do.nd rfl (Or.inl rfl)) (pgs_cons (pg_name (i := 10) sc_may_do.nd rfl (Or.inl rfl)) (pgs_cons (pg_name (i := 11) sc_may_do.nd rfl (Or.inl rfl)) pgs_nil)))))))))
      (pss_cons (ps_if (pt_not (pt_val (pe_call d_do_all_hold.ok (hr.mono (by decide)) rfl d_do_all_hold.g d_do_all_hold.kp d_do_all_hold.b .nil pass0 (pa_cons (pv 0) (pa_cons (pv 9) (pa_cons (pv 4) pa_nil)))))) (pss_one (ps_ret pe_bl)) pss_nil)
      (pss_one (ps_ret (pe_callB (cr_all rfl) (by rfl) T.n_all (by decide +kernel) (pa_cons (pe_lc (own := [("has", 12), ("needs", 13)]) (g := (gTup K 2 (gCons (gName 12) (gCons (gName 13) gNil)))) (tt := tYes) rfl sc_may_do.nd (ZipN.pi_zip2 (by rfl) T.n_zip (pa_cons (pv 3) (pa_cons (pe_call d_counts_of.ok (hr.mono (by decide)) rfl d_counts_of.g d_counts_of.kp d_counts_of.b .nil pass0 (pa_cons (pv 0) (pa_cons (pv 7) pa_nil))) pa_nil))) (blkOk_by (N := ["net", "state", "index", "tokens", "values", "name", "role", "inputs", "outputs", "tests", "sets", "days", "has", "needs"]) (sc := defScope s_may_do) (by decide +kernel)) (fun _ _ _ _ _ => by exact pg_tup rfl (pgs_cons (pg_name (i := 12) sc_may_do.nd rfl (Or.inl rfl)) (pgs_cons (pg_name (i := 13) sc_may_do.nd rfl (Or.inl rfl)) pgs_nil))) (fun _ _ _ _ _ => pts_nil) (fun _ _ _ _ _ => (pe_cmpR op_ge (pv 12) (pv 13) (nomark _)))) pa_nil))))))), ?_⟩
    obtain ⟨na, np, nn, nt, sx, rfl, h0, h1, h2, h3, h4⟩ := id hv
    obtain ⟨t1, t2, ha, ht1, ht2⟩ := hS
    have hst : N.steps[i]? = some N.steps[i] := List.getElem?_eq_getElem hi
    generalize N.steps[i] = s1 at hst
    obtain ⟨sv, hsv, sa, si, so, st, se, rfl, g0, g1, g2, g3, g4⟩ := paired_get h4 hst
    have hm : s1 ∈ N.steps := List.mem_of_getElem? hst
    obtain ⟨z1, z2, z3, z4, z5⟩ := hN.tst s1 hm
    have hM : mayI N S i = mayB N S s1 := by
      unfold mayI
      rw [hst]
    rw [hM] at k
    refine ⟨_, rfl, a, _, rfl, SqT.of ha, rfl, _, _, rfl, _, _, rfl, rfl, ?_⟩
    refine ⟨_, rfl, na, _, 3, _, rfl, rfl, SqT.of h0, rfl, _, rfl, nt, _, _, _, rfl, rfl, SqT.of h3, atI_nat hsv, sa, _, rfl, SqT.of g0, rfl, _, _, rfl, _, _, rfl, _, _, rfl, _, _, rfl, _, _, rfl, _, _, rfl, _, _, rfl, rfl, ?_⟩
    refine ⟨_, rfl, _, rfl, _, rfl, .ref na, N, st, t2, s1.tests, S.2, rfl, hv, hN, g3, z1, z5, ht2, hSO.l2, fun H1 e1 => ?_⟩
    refine ⟨_, rfl, ?_⟩
    cases eA : allHold N s1.tests S.2 with
    | false =>
      refine iteT ?_
      have : mayB N S s1 = false := by
        unfold mayB
        rw [eA]
        rfl
      rw [this] at k
      exact k _ e1
    | true =>
      refine iteF ?_
      have : mayB N S s1 = enough S.1 (cnts N s1.ins) := by
        unfold mayB
        rw [eA]
        rfl
      rw [this] at k
      show tNext { nx := tRet _ _, rt := _ } [some (.ref na), some (.ref a), some (.int i), some (.ref t1), some (.ref t2), some (.str s1.nm), some (roV s1.role), some (.ref si), some (.ref so), some (.ref st), some (.ref se), some (.int s1.days), none, none] H1
      refine ⟨_, rfl, _, rfl, _, rfl, .ref na, N, si, s1.ins, rfl, hv.same e1, hN, g1.same e1, fun H2 p e2 hn hp => ?_⟩
      have e12 := e1.trans e2
      have lc := cnts_len N s1.ins
      have ls := hSO.l1
      have pl2 := hN.pl2
      refine ⟨false, true, t1, p, _, _, rfl, SqT.of (e12 _ _ ht1), SqL.of hp, fun D hD => ?_⟩
      refine lc_it (ZipN.walk_zip2 (K := K) (n := S.1.length) (by rw [List.length_map]) (by rw [List.length_map, lc, ls])) (fun i H' => Fill H2 D ((((S.1.zip (cnts N s1.ins)).take i)).map fun q => V.bl (decide (q.1 ≥ q.2))) H') (.start hD) (fun i H' _ fl => ⟨SqT.of (fl.same _ _ (e12 _ _ ht1)), SqL.of (fl.same _ _ hp)⟩) ?_ ?_
      · intro j x H3 H4 hj fl hy
        obtain ⟨T, x1, x2, rfl, hT, rfl, y1, y2⟩ := hy
        obtain ⟨n1, hn1, rfl⟩ := map_at y1
        obtain ⟨n2, hn2, rfl⟩ := map_at y2
        have fl2 := fl.ext (same_upd (o := .tup [.int n1, .int n2]) hT)
        refine ⟨T, _, rfl, SqT.of upd_same, rfl, _, _, rfl, _, _, rfl, rfl, wipe2 (by decide) (by decide), _, rfl, _, rfl, _, _, rfl, rfl, _, fl2.at_, ?_, fl2.add ?_⟩
        · refine small ?_
          rw [List.length_map, List.length_take]
          omega
        · rw [take_add (zip_at hn1 hn2), List.map_append]
          rfl
      · intro H3 fl
        rw [List.take_of_length_le (by rw [List.length_zip]; omega)] at fl
        refine ⟨D, (S.1.zip (cnts N s1.ins)).map fun q => decide (q.1 ≥ q.2), rfl, SqL.of (by rw [fl.at_, List.map_map]; rfl), ?_⟩
        rw [List.all_map]
        exact k _ (e12.trans fl.same)
abbrev s_doable : Stmt := top 18
theorem sc_doable : FnScope ["net", "state", "index"] ["net", "state"] (defScope s_doable) := ⟨rfl, rfl, rfl, by decide +kernel, rfl, by decide +kernel, by decide +kernel⟩
theorem ok_doable {f f_may_do : Addr} {fd fd1 : FuncData} (F : Fun K "doable" "doable" s_doable f fd) (T : Tx mg) (d_may_do : Ok1 P w K mg base CX0 3 "may_do" ["net", "state", "index"] sp_may f_may_do fd1) : FnOk P w K mg base CX0 4 f fd ["net", "state"] sp_doable := by
  refine F.ok sc_doable (fun vs H Q E h => ?_) (fun cdv A outer s H vs Q E hr h => ?_)
  · obtain ⟨v, N, a, S, rfl, _⟩ := h
    rfl
  · obtain ⟨v, N, a, S, rfl, hv, hN, hS, hSO, k⟩ := h
    refine ⟨_, (pss_one (ps_ret (pe_callTy call_tuple_of (by rfl) T.n_tuple (by decide +kernel) (pa_cons (pe_lc (own := [("index", 2)]) (g := gName 2) (tt := (tB (tCall sp_may [] E0 (tCons (tVar 0) (tCons (tVar 1) (tCons (tVar 2) tNil)))))) rfl sc_doable.nd (pi_range1 (by rfl) T.n_range (pa_cons (pe_callB call_len (by rfl) T.n_len (by decide +kernel) (pa_cons (pe_ix ix_tup (pv 0) pe_int (fun _ _ => rfl)) pa_nil)) pa_nil)) (blkOk_by (N := ["net", "state", "index"]) (sc := defScope s_doable) (by decide +kernel)) (fun _ _ _ _ _ => pg_name (i := 2) sc_doable.nd rfl (Or.inl rfl)) (fun _ _ _ _ _ => by exact pts_one (pt_val (pe_call d_may_do.ok (hr.mono (by decide)) rfl d_may_do.g d_may_do.kp d_may_do.b .nil pass0 (pa_cons (pv 0) (pa_cons (pv 1) (pa_cons (pv 2) pa_nil)))))) (fun _ _ _ _ _ => (pv 2))) pa_nil)))), ?_⟩
    obtain ⟨na, np, nn, nt, sx, rfl, h0, h1, h2, h3, h4⟩ := id hv
    have hst := hN.st
    refine ⟨_, rfl, na, _, 3, _, rfl, rfl, SqT.of h0, rfl, .ref nt, N.steps.length, rfl, .inr ⟨_, SqT.of h3, h4.length.symm⟩, ?_⟩
    refine ⟨_, rfl, by omega, by omega, fun D hD => ?_⟩
    refine lc_it walk_range (fun i H' => Fill H D (intsV ((List.range i).filter (mayI N S))) H') (.start hD) (fun i H' _ fl => trivial) ?_ ?_
    · intro j x H3 H4 hj fl hy
      obtain ⟨rfl, rfl⟩ := hy
      have hj2 : j < N.steps.length := by omega
      refine ⟨rfl, _, rfl, _, rfl, _, rfl, .ref na, N, a, S, j, congrArg (fun z => [V.ref na, V.ref a, V.int z]) (Int.zero_add _), hv.same fl.same, hN, hS.same fl.same, hSO, hj2, fun H5 e5 => ?_⟩
      have fl5 := fl.ext e5
      have hr1 : (List.range (j + 1)).filter (mayI N S) = (List.range j).filter (mayI N S) ++ (if mayI N S j = true then [j] else []) := by
        rw [List.range_succ, List.filter_append]
        rw [List.filter_cons, List.filter_nil]
      cases eM : mayI N S j with
      | false =>
        rw [eM, if_neg (by decide), List.append_nil] at hr1
        refine ⟨_, rfl, iteF ?_⟩
        rw [hr1]
        exact fl5
      | true =>
        rw [eM, if_pos rfl] at hr1
        refine ⟨_, rfl, iteT ⟨_, rfl, _, fl5.at_, ?_, fl5.add ?_⟩⟩
        · refine small ?_
          have := List.length_filter_le (mayI N S) (List.range j)
          rw [List.length_range] at this
          unfold intsV
          rw [List.length_map]
          omega
        · rw [hr1]
          unfold intsV
          rw [List.map_append]
          exact congrArg (fun z => _ ++ [V.int z]) (Int.zero_add _).symm
    · intro H3 fl
      rw [Int.toNat_natCast] at fl
      refine ⟨D, _, rfl, .inl ⟨SqL.of fl.at_, fun p hp => ?_⟩⟩
      exact k _ p (fl.same.trans (same_upd hp)) upd_same
abbrev s_behind : Stmt := top 19
theorem sc_behind : FnScope ["net", "state", "index", "tokens", "values", "name", "role", "inputs", "outputs", "tests", "sets", "days", "away", "come", "later", "told", "has", "less", "more", "note", "most", "value"] ["net", "state", "index"] (defScope s_behind) := ⟨rfl, rfl, rfl, by decide +kernel, rfl, by decide +kernel, by decide +kernel⟩
theorem ok_behind {f f_counts_of : Addr} {fd fd2 : FuncData} (F : Fun K "behind" "behind" s_behind f fd) (T : Tx mg) (d_counts_of : Ok1 P w K mg base CX0 1 "counts_of" ["net", "some"] sp_counts f_counts_of fd2) : FnOk P w K mg base CX0 2 f fd ["net", "state", "index"] sp_behind := by
  refine F.ok sc_behind (fun vs H Q E h => ?_) (fun cdv A outer s H vs Q E hr h => ?_)
  · obtain ⟨v, N, a, S, i, rfl, _⟩ := h
    rfl
  · obtain ⟨v, N, a, S, i, rfl, hv, hN, hS, hSO, hi, k⟩ := h
    refine ⟨_, (pss_cons (ps_asg (pv 1) (pg_tup rfl (pgs_cons (pg_name (i := 3) sc_behind.nd rfl (Or.inl rfl)) (pgs_cons (pg_name (i := 4) sc_behind.nd rfl (Or.inl rfl)) pgs_nil))))
      (pss_cons (ps_asg (pe_ix ix_tup (pe_ix ix_tup (pv 0) pe_int (fun _ _ => rfl)) (pv 2) (fun _ _ => rfl)) (pg_tup rfl (pgs_cons (pg_name (i := 5) sc_behind.nd rfl (Or.inl rfl)) (pgs_cons (pg_name (i := 6) sc_behind.nd rfl (Or.inl rfl)) (pgs_cons (pg_name (i := 7) sc_behind.nd rfl (Or.inl rfl)) (pgs_cons (pg_name (i := 8) sc_behind.nd rfl (Or.inl rfl)) (pgs_cons (pg_name (i := 9) sc_behind.nd rfl (Or.inl rfl)) (pgs_cons (pg_name (i := 10) sc_behind.nd rfl (Or.inl rfl)) (pgs_cons (pg_name (i := 11) sc_behind.nd rfl (Or.inl rfl)) pgs_nil)))))))))
      (pss_cons (ps_par (i := 12) (j := 13) (by rfl) sc_behind.nd rfl rfl (by decide) rfl rfl (pa_cons (pe_call d_counts_of.ok (hr.mono (by decide)) rfl d_counts_of.g d_counts_of.kp d_counts_of.b .nil pass0 (pa_cons (pv 0) (pa_cons (pv 7) pa_nil))) (pa_cons (pe_call d_counts_of.ok (hr.mono (by decide)) rfl d_counts_of.g d_counts_of.kp d_counts_of.b .nil pass0 (pa_cons (pv 0) (pa_cons (pv 8) pa_nil))) pa_nil)) (by rfl))
      (pss_cons (ps_set (i := 14) sc_behind.nd rfl (Or.inl rfl) (pe_callTy call_tuple_of (by rfl) T.n_tuple (by decide +kernel) (pa_cons (pe_lc (own := [("has", 16), ("less", 17), ("more", 18)]) (g := (gTup K 3 (gCons (gName 16) (gCons (gName 17) (gCons (gName 18) gNil))))) (tt := tYes) rfl sc_behind.nd (ZipN.pi_zip3 (by rfl) T.n_zip (pa_cons (pv 3) (pa_cons (pv 12) (pa_cons (pv 13) pa_nil)))) (blkOk_by (N := ["net", "state", "index", "tokens", "values", "name", "role", "inputs", "outputs", "tests", "sets", "days", "away", "come", "later", "told", "has", "less", "more", "note", "most", "value"]) (sc := defScope s_behind) (by decide +kernel)) (fun _ _ _ _ _ => by exact pg_tup rfl (pgs_cons (pg_name (i := 16) sc_behind.nd rfl (Or.inl rfl)) (pgs_cons (pg_name (i := 17) sc_behind.nd rfl (Or.inl rfl)) (pgs_cons (pg_name (i := 18) sc_behind.nd rfl (Or.inl rfl)) pgs_nil)))) (fun _ _ _ _ _ => pts_nil) (fun _ _ _ _ _ => (pe_op op_add (pe_op op_sub (pv 16) (pv 17)) (pv 18)))) pa_nil)))
      (pss_cons (ps_set (i := 15) sc_behind.nd rfl (Or.inr rfl) (pe_callTy (DicT.call_dictF rfl) (by rfl) T.n_dict (by decide +kernel) (pa_cons (pv 10) pa_nil)))
      (pss_one (ps_ret (pe_tup (pa_cons (pv 14) (pa_cons (pe_callTy call_tuple_of (by rfl) T.n_tuple (by decide +kernel) (pa_cons (pe_lc (own := [("note", 19), ("most", 20), ("value", 21)]) (g := (gTup K 2 (gCons (gTup K 2 (gCons (gName 19) (gCons (gName 20) gNil))) (gCons (gName 21) gNil)))) (tt := tYes) rfl sc_behind.nd (ZipN.pi_zip2 (by rfl) T.n_zip (pa_cons (pe_ix ix_tup (pv 0) pe_int (fun _ _ => rfl)) (pa_cons (pv 4) pa_nil))) (blkOk_by (N := ["net", "state", "index", "tokens", "values", "name", "role", "inputs", "outputs", "tests", "sets", "days", "away", "come", "later", "told", "has", "less", "more", "note", "most", "value"]) (sc := defScope s_behind) (by decide +kernel)) (fun _ _ _ _ _ => by exact pg_tup rfl (pgs_cons (pg_tup rfl (pgs_cons (pg_name (i := 19) sc_behind.nd rfl (Or.inl rfl)) (pgs_cons (pg_name (i := 20) sc_behind.nd rfl (Or.inl rfl)) pgs_nil))) (pgs_cons (pg_name (i := 21) sc_behind.nd rfl (Or.inl rfl)) pgs_nil))) (fun _ _ _ _ _ => pts_nil) (fun _ _ _ _ _ => (pe_dget2 (hu_of hr) (pv 15) (pv 19) (pv 21) ⟨rfl, rfl, rfl, rfl⟩))) pa_nil)) pa_nil)))))))))), ?_⟩
    obtain ⟨na, np, nn, nt, sx, rfl, h0, h1, h2, h3, h4⟩ := id hv
    obtain ⟨t1, t2, ha, ht1, ht2⟩ := hS
    have hst : N.steps[i]? = some N.steps[i] := List.getElem?_eq_getElem hi
    generalize N.steps[i] = s1 at hst
    obtain ⟨sv, hsv, sa, si, so, st, se, rfl, g0, g1, g2, g3, g4⟩ := paired_get h4 hst
    have hm : s1 ∈ N.steps := List.mem_of_getElem? hst
    obtain ⟨zz1, zz2, zz3, zz4, zz5⟩ := hN.tst s1 hm
    have hM : ledI N S i = ledS N S s1 := by
      unfold ledI
      rw [hst]
    rw [hM] at k
    have lc := cnts_len N s1.ins
    have lo := cnts_len N s1.outs
    have ls := hSO.l1
    have lv := hSO.l2
    have pl2 := hN.pl2
    have nt2 := hN.nt
    refine ⟨_, rfl, a, _, rfl, SqT.of ha, rfl, _, _, rfl, _, _, rfl, rfl, ?_⟩
    refine ⟨_, rfl, na, _, 3, _, rfl, rfl, SqT.of h0, rfl, _, rfl, nt, _, _, _, rfl, rfl, SqT.of h3, atI_nat hsv, sa, _, rfl, SqT.of g0, rfl, _, _, rfl, _, _, rfl, _, _, rfl, _, _, rfl, _, _, rfl, _, _, rfl, _, _, rfl, rfl, ?_⟩
    refine ⟨_, rfl, _, rfl, .ref na, N, si, s1.ins, rfl, hv, hN, g1, fun H1 p1 e1 n1 hp1 => ?_⟩
    refine ⟨_, rfl, _, rfl, .ref na, N, so, s1.outs, rfl, hv.same e1, hN, g2.same e1, fun H2 p2 e2 n2 hp2 => ?_⟩
    have e12 := e1.trans e2
    refine ⟨_, _, rfl, ?_⟩
    show tSeq _ _ _ [some (.ref na), some (.ref a), some (.int i), some (.ref t1), some (.ref t2), some (.str s1.nm), some (roV s1.role), some (.ref si), some (.ref so), some (.ref st), some (.ref se), some (.int s1.days), some (.ref p1), some (.ref p2), none, none, none, none, none, none, none, none] H2
    have g1p := e2 _ _ hp1
    refine ⟨_, rfl, _, rfl, _, rfl, false, true, true, t1, p1, p2, _, _, _, rfl, SqT.of (e12 _ _ ht1), SqL.of g1p, SqL.of hp2, fun D hD => ?_⟩
    refine lc_it (ZipN.walk_zip3 (K := K) (n := S.1.length) (by rw [List.length_map]) (by rw [List.length_map, lc, ls]) (by rw [List.length_map, lo, ls])) (fun i H' => Fill H2 D (((z3 S.1 (cnts N s1.ins) (cnts N s1.outs)).take i).map V.int) H') (.start hD) (fun i H' _ fl => ⟨SqT.of (fl.same _ _ (e12 _ _ ht1)), SqL.of (fl.same _ _ g1p), SqL.of (fl.same _ _ hp2)⟩) ?_ ?_
    · intro j x H3 H4 hj fl hy
      obtain ⟨T, x1, x2, x3, rfl, hT, rfl, y1, y2, y3⟩ := hy
      obtain ⟨n1, hn1, rfl⟩ := map_at y1
      obtain ⟨n2, hn2, rfl⟩ := map_at y2
      obtain ⟨n3, hn3, rfl⟩ := map_at y3
      have fl2 := fl.ext (same_upd (o := .tup [.int n1, .int n2, .int n3]) hT)
      refine ⟨T, _, rfl, SqT.of upd_same, rfl, _, _, rfl, _, _, rfl, _, _, rfl, rfl, wipe3 (by decide) (by decide) (by decide), _, rfl, _, rfl, _, _, rfl, rfl, _, rfl, _, _, rfl, rfl, _, fl2.at_, ?_, fl2.add ?_⟩
      · refine small ?_
        rw [List.length_map, List.length_take]
        omega
      · rw [take_add (z3_at hn1 hn2 hn3), List.map_append]
        rfl
    intro H3 fl
    rw [List.take_of_length_le (by rw [z3_len (by omega) (by omega)]; exact Nat.le_refl _)] at fl
    refine ⟨D, _, rfl, .inl ⟨SqL.of fl.at_, fun p3 n3 => ?_⟩⟩
    have e3 := (e12.trans fl.same).trans (same_upd (o := .tup ((z3 S.1 (cnts N s1.ins) (cnts N s1.outs)).map V.int)) n3)
    have hp3 := @upd_same H3 p3 (.tup ((z3 S.1 (cnts N s1.ins) (cnts N s1.outs)).map V.int))
    generalize upd H3 p3 (.tup ((z3 S.1 (cnts N s1.ins) (cnts N s1.outs)).map V.int)) = H4 at e3 hp3 ⊢
    obtain ⟨o5, ts5, ha5, hd5, hq5⟩ := CnT.same g4 e3
    refine ⟨_, rfl, se, o5, ts5, s1.sets.map entS, rfl, ha5, hd5, pairs_sq hq5, fun p5 n5 => ?_⟩
    have e5 := e3.trans (same_upd (o := .dK (mergeK [] (s1.sets.map entS))) n5)
    have hp5 := @upd_same H4 p5 (.dK (mergeK [] (s1.sets.map entS)))
    have hp35 : upd H4 p5 (.dK (mergeK [] (s1.sets.map entS))) p3 = some (.tup ((z3 S.1 (cnts N s1.ins) (cnts N s1.outs)).map V.int)) := by
      rw [upd_ne (ne_of_none hp3 n5)]
      exact hp3
    generalize upd H4 p5 (.dK (mergeK [] (s1.sets.map entS))) = H5 at e5 hp5 hp35 ⊢
    dsimp only [gName, List.set]
    obtain ⟨tn, hn0, hnp⟩ := h2
    have ln : tn.length = N.notes.length := hnp.length
    refine ⟨_, rfl, _, rfl, na, _, 2, _, rfl, rfl, SqT.of (e5 _ _ h0), rfl, _, rfl, false, false, nn, t2, _, _, rfl, SqT.of (e5 _ _ hn0), SqT.of (e5 _ _ ht2), fun D2 hD2 => ?_⟩
    refine lc_it (ZipN.walk_zip2 (K := K) (n := S.2.length) (by rw [List.length_map, ln, lv]) (by rw [List.length_map])) (fun i H' => Fill H5 D2 ((((N.notes.zip S.2).map (setV s1)).take i).map V.int) H') (.start hD2) (fun i H' _ fl => ⟨SqT.of (fl.same _ _ (e5 _ _ hn0)), SqT.of (fl.same _ _ (e5 _ _ ht2))⟩) ?_ ?_
    · intro j x H6 H7 hj f6 hy
      obtain ⟨T, x1, x2, rfl, hT, rfl, y1, y2⟩ := hy
      obtain ⟨tt, htt, rfl⟩ := map_at y1
      obtain ⟨n2, hn2, rfl⟩ := map_at y2
      obtain ⟨nq, hnq, hpt⟩ := paired_getL hnp htt
      have sx := same_upd (o := .tup [.ref tt, .int n2]) hT
      have f7 := f6.ext sx
      have hd := f7.same _ _ hp5
      have hdg : DGet (upd H6 T (.tup [.ref tt, .int n2])) p5 (.str nq.1) ((lastO s1.sets nq.1).map V.int) := by
        rw [← valV_of]
        exact DGet.k (k := Sum.inr nq.1) hd
      refine ⟨T, _, rfl, SqT.of upd_same, rfl, _, _, rfl, tt, _, rfl, SqT.of (sx _ _ (f6.same _ _ (e5 _ _ hpt))), rfl, _, _, rfl, _, _, rfl, rfl, _, _, rfl, rfl, wipe3 (by decide) (by decide) (by decide), _, rfl, p5, rfl, .inl ⟨_, .inl hd⟩, _, rfl, _, rfl, _, hdg, _, f7.at_, ?_, f7.add ?_⟩
      · refine small ?_
        rw [List.length_map, List.length_take]
        omega
      · rw [take_add (show ((N.notes.zip S.2).map (setV s1))[j]? = some (setV s1 (nq, n2)) by rw [List.getElem?_map, zip_at hnq hn2]; rfl), List.map_append]
        refine congrArg (_ ++ ·) ?_
        show [V.int ((lastO s1.sets nq.1).getD n2)] = _
        cases lastO s1.sets nq.1 <;> rfl
    intro H6 f6
    rw [List.take_of_length_le (by rw [List.length_map, List.length_zip]; omega)] at f6
    refine ⟨D2, _, rfl, .inl ⟨SqL.of f6.at_, fun p6 n6 => ?_⟩⟩
    refine ⟨line_le 2 (by decide), fun p7 n7 => ?_⟩
    have e6 := (e5.trans f6.same).trans (same_upd (o := .tup (((N.notes.zip S.2).map (setV s1)).map V.int)) n6)
    have hp6 := @upd_same H6 p6 (.tup (((N.notes.zip S.2).map (setV s1)).map V.int))
    have hp36 : upd H6 p6 (.tup (((N.notes.zip S.2).map (setV s1)).map V.int)) p3 = some (.tup ((z3 S.1 (cnts N s1.ins) (cnts N s1.outs)).map V.int)) := by
      rw [upd_ne (ne_of_none (f6.same _ _ hp35) n6)]
      exact f6.same _ _ hp35
    refine k _ _ (e6.trans (same_upd n7)) ⟨p3, p6, upd_same, ?_, ?_⟩
    · rw [upd_ne (ne_of_none hp36 n7)]
      exact hp36
    · rw [upd_ne (ne_of_none hp6 n7)]
      exact hp6
abbrev s_led : Stmt := top 20
theorem sc_led : FnScope ["net", "state", "index"] ["net", "state", "index"] (defScope s_led) := ⟨rfl, rfl, rfl, by decide +kernel, rfl, by decide +kernel, by decide +kernel⟩
theorem ok_led {f f_is_within f_may_do f_behind : Addr} {fd fd1 fd2 fd3 : FuncData} (F : Fun K "led" "led" s_led f fd) (T : Tx mg) (TE : Tex P K mg CR fR ccR CN fN ccN CO) (d_is_within : Ok1 P w K mg base CX0 2 "is_within" ["thing", "least", "most"] sp_is_within f_is_within fd1) (d_may_do : Ok1 P w K mg base CX0 3 "may_do" ["net", "state", "index"] sp_may f_may_do fd2) (d_behind : Ok1 P w K mg base CX0 2 "behind" ["net", "state", "index"] sp_behind f_behind fd3) : FnOk P w K mg base (L2.CX P w) 4 f fd ["net", "state", "index"] (sp_led CR) := by
  refine F.okX sc_led (fun vs H Q E h => ?_) (fun cdv A outer s H vs Q E hr h => ?_)
  · obtain ⟨v, u, d, N, a, S, rfl, _⟩ := h
    rfl
  · obtain ⟨v, u, d, N, a, S, rfl, hv, hN, hS, hSO, hu, kY, kN⟩ := h
    refine ⟨_, (pss_cons (ps_if (PW.pt (pw_or (pt_not (pt_val (pe_call d_is_within.ok (hr.mono (by decide)) rfl d_is_within.g d_is_within.kp d_is_within.b .nil pass0 (pa_cons (pv 2) (pa_cons pe_int (pa_cons (pe_op op_sub (pe_callB call_len (by rfl) T.n_len (by decide +kernel) (pa_cons (pe_ix ix_tup (pv 0) pe_int (fun _ _ => rfl)) pa_nil)) pe_int) pa_nil)))))) (pw_or1 (pt_not (pt_val (pe_call d_may_do.ok (hr.mono (by decide)) rfl d_may_do.g d_may_do.kp d_may_do.b .nil pass0 (pa_cons (pv 0) (pa_cons (pv 1) (pa_cons (pv 2) pa_nil))))))))) (pss_one (ps_raise rfl (takes_of rfl rfl rfl rfl) (pmk_rf TE.xRF TE.g_Refused TE.nRF hr (by decide) (pa_cons pe_str pa_nil)))) pss_nil)
      (pss_one (ps_ret (pe_call d_behind.ok (hr.mono (by decide)) rfl d_behind.g d_behind.kp d_behind.b .nil pass0 (pa_cons (pv 0) (pa_cons (pv 1) (pa_cons (pv 2) pa_nil))))))), ?_⟩
    obtain ⟨na, np, nn, nt, sx, rfl, h0, h1, h2, h3, h4⟩ := id hv
    have hst := hN.st
    refine ⟨_, rfl, _, rfl, na, _, 3, _, rfl, rfl, SqT.of h0, rfl, .ref nt, N.steps.length, rfl, .inr ⟨_, SqT.of h3, h4.length.symm⟩, _, _, rfl, rfl, u, d, 0, (N.steps.length : Int) - 1, rfl, hu, _, rfl, ?_⟩
    cases eW : within d 0 ((N.steps.length : Int) - 1) with
    | false =>
      refine iteT (iteT ⟨_, rfl, fun e he => kN ?_ _ e (same_upd he) upd_same⟩)
      rintro i rfl
      cases eM : mayI N S i with
      | false => rfl
      | true =>
        have hi := mayI_lt eM
        have : within (.int (i : Nat)) 0 ((N.steps.length : Int) - 1) = true := by
          show (decide (0 ≤ ((i : Nat) : Int)) && decide (((i : Nat) : Int) ≤ (N.steps.length : Int) - 1)) = true
          rw [decide_eq_true (by omega), decide_eq_true (by omega)]
          rfl
        rw [this] at eW
        cases eW
    | true =>
      obtain ⟨i, rfl, hi⟩ : ∃ i : Nat, d = .int i ∧ i < N.steps.length := by
        cases d with
        | int n =>
          have e0 : (decide (0 ≤ n) && decide (n ≤ (N.steps.length : Int) - 1)) = true := eW
          rw [Bool.and_eq_true] at e0
          have e1 := of_decide_eq_true e0.1
          have e2 := of_decide_eq_true e0.2
          refine ⟨n.toNat, ?_, by omega⟩
          rw [Int.toNat_of_nonneg e1]
        | _ => cases eW
      cases hu with
      | int =>
        refine iteF ⟨_, rfl, _, rfl, _, rfl, .ref na, N, a, S, i, rfl, hv, hN, hS, hSO, hi, fun H1 e1 => ?_⟩
        refine ⟨_, rfl, ?_⟩
        cases eM : mayI N S i with
        | false =>
          refine iteT ⟨_, rfl, fun e he => kN ?_ _ e (e1.trans (same_upd he)) upd_same⟩
          intro j ej
          have : i = j := by
            injection ej with ej
            omega
          rw [← this]
          exact eM
        | true =>
          refine iteF ⟨_, rfl, _, rfl, _, rfl, .ref na, N, a, S, i, rfl, hv.same e1, hN, hS.same e1, hSO, hi, fun H2 p e2 hp => ?_⟩
          exact kY i rfl eM _ p (e1.trans e2) hp
abbrev s_ways_from : Stmt := top 21
theorem sc_ways_from : FnScope ["net", "state", "index"] ["net", "state"] (defScope s_ways_from) := ⟨rfl, rfl, rfl, by decide +kernel, rfl, by decide +kernel, by decide +kernel⟩
theorem ok_ways {f f_doable f_behind : Addr} {fd fd1 fd2 : FuncData} (F : Fun K "ways_from" "ways_from" s_ways_from f fd) (T : Tx mg) (d_doable : Ok1 P w K mg base CX0 4 "doable" ["net", "state"] sp_doable f_doable fd1) (d_behind : Ok1 P w K mg base CX0 2 "behind" ["net", "state", "index"] sp_behind f_behind fd2) : FnOk P w K mg base CX0 5 f fd ["net", "state"] sp_ways := by
  refine F.ok sc_ways_from (fun vs H Q E h => ?_) (fun cdv A outer s H vs Q E hr h => ?_)
  · obtain ⟨v, N, a, S, rfl, _⟩ := h
    rfl
  · obtain ⟨v, N, a, S, rfl, hv, hN, hS, hSO, k⟩ := h
    refine ⟨_, (pss_one (ps_ret (pe_lc (own := [("index", 2)]) (g := gName 2) (tt := tYes) rfl sc_ways_from.nd (pi_tup (pe_call d_doable.ok (hr.mono (by decide)) rfl d_doable.g d_doable.kp d_doable.b .nil pass0 (pa_cons (pv 0) (pa_cons (pv 1) pa_nil)))) (blkOk_by (N := ["net", "state", "index"]) (sc := defScope s_ways_from) (by decide +kernel)) (fun _ _ _ _ _ => pg_name (i := 2) sc_ways_from.nd rfl (Or.inl rfl)) (fun _ _ _ _ _ => pts_nil) (fun _ _ _ _ _ => (pe_tup (pa_cons (pv 2) (pa_cons (pe_call d_behind.ok (hr.mono (by decide)) rfl d_behind.g d_behind.kp d_behind.b .nil pass0 (pa_cons (pv 0) (pa_cons (pv 1) (pa_cons (pv 2) pa_nil)))) pa_nil))))))), ?_⟩
    refine ⟨_, rfl, _, rfl, v, N, a, S, rfl, hv, hN, hS, hSO, fun H1 p e1 hp => ?_⟩
    have hst := hN.st
    have hdl := List.length_filter_le (mayI N S) (List.range N.steps.length)
    rw [List.length_range] at hdl
    refine ⟨p, rfl, ⟨_, SqT.of hp⟩, fun D hD => ?_⟩
    refine lc_tup (K := K) (a := p) (xs := intsV (doab N S)) (fun i H' => ∃ ws, Fill H1 D ws H' ∧ ws.length = i ∧ Paired (IsW H') ws ((waysS N S).take i)) ⟨[], .start hD, rfl, .nil⟩ (fun i H' _ ⟨ws, fl, _⟩ => SqT.of (fl.same _ _ hp)) ?_ ?_
    · rintro i x H' hx ⟨ws, fl, hl, hP⟩
      obtain ⟨j, hj, rfl⟩ := map_at hx
      have hjl : j < N.steps.length := by
        have := (List.mem_filter.mp (List.mem_of_getElem? hj)).1
        exact List.mem_range.mp this
      have e2 := e1.trans fl.same
      refine ⟨rfl, _, rfl, _, rfl, _, rfl, _, rfl, v, N, a, S, j, rfl, hv.same e2, hN, hS.same e2, hSO, hjl, fun H3 q e3 hq => ?_⟩
      refine ⟨line_le 2 (by decide), fun t ht => ?_⟩
      have fl3 := (fl.ext e3).ext (same_upd (o := .tup [.int (j : Nat), .ref q]) ht)
      have hp3 := pm (G := IsW (upd (upd H3 t (.tup [.int (j : Nat), .ref q])) D (.lst (ws ++ [.ref t])))) hP fun _ _ x => x.sk ((SK.of (e3.trans (same_upd ht))).trans (SK.lst fl3.at_))
      refine ⟨_, fl3.at_, ?_, _, fl3.put, ?_, ?_⟩
      · refine small ?_
        have := (List.getElem?_eq_some_iff.mp hj).1
        have h5 : (doab N S).length ≤ N.steps.length := hdl
        omega
      · rw [List.length_append, hl]
        rfl
      · rw [take_add (show (waysS N S)[i]? = some (j, ledI N S j) by
          unfold waysS
          rw [List.getElem?_map, hj]
          rfl)]
        refine paired_add hp3 ⟨t, q, rfl, ?_, ?_⟩
        · exact (SK.lst fl3.at_).tup upd_same
        · exact IsS.sk (hq.same (same_upd ht)) (SK.lst fl3.at_)
    · rintro H' ⟨ws, fl, hl, hP⟩
      have h6 : (waysS N S).length = (intsV (doab N S)).length := by
        unfold waysS intsV
        rw [List.length_map, List.length_map]
      rw [← h6, List.take_length] at hP
      exact k _ D ws (e1.trans fl.same) (e1.free hD) fl.at_ hP
end
end Net
namespace Net
open PySem PySem.Spec PyProof.Rows L2 SDx
def nxts (N : NetT) (S : Sta) : List Sta := (doab N S).map (ledI N S)
def news (seen : List Sta) : List Sta → List Sta
  | [] => []
  | t :: ts => if t ∈ seen then news seen ts else t :: news (seen ++ [t]) ts
def bfs (N : NetT) : Nat → List Sta → List Sta → Option (List Sta)
  | 0, _, _ => none
  | n + 1, found, level => if level = [] then some found else
    if (found ++ news found (level.flatMap (nxts N))).length > 2000 then none else bfs N n (found ++ news found (level.flatMap (nxts N))) (news found (level.flatMap (nxts N)))
def metS (N : NetT) : Option (List Sta) := bfs N 3000 [fstS N] [fstS N]
theorem news_cons (seen : List Sta) (t : Sta) (ts : List Sta) : news seen (t :: ts) = if t ∈ seen then news seen ts else t :: news (seen ++ [t]) ts := rfl
theorem news_app (seen a b : List Sta) : news seen (a ++ b) = news seen a ++ news (seen ++ news seen a) b := by
  induction a generalizing seen with
  | nil => rw [List.nil_append, show news seen [] = [] from rfl, List.nil_append, List.append_nil]
  | cons t a ih =>
    rw [List.cons_append, news_cons, news_cons seen t a]
    by_cases m : t ∈ seen
    · rw [if_pos m, if_pos m, ih]
    · rw [if_neg m, if_neg m, ih, List.cons_append, List.append_assoc, List.singleton_append]
theorem news_one (seen : List Sta) (a : List Sta) (t : Sta) : news seen (a ++ [t]) = if t ∈ seen ++ news seen a then news seen a else news seen a ++ [t] := by
  rw [news_app]
  show news seen a ++ (if t ∈ seen ++ news seen a then [] else [t]) = _
  by_cases m : t ∈ seen ++ news seen a
  · rw [if_pos m, if_pos m, List.append_nil]
  · rw [if_neg m, if_neg m]
theorem news_mem {seen a : List Sta} {t : Sta} (h : t ∈ news seen a) : t ∈ a := by
  induction a generalizing seen with
  | nil => cases h
  | cons x a ih =>
    unfold news at h
    by_cases m : x ∈ seen
    · rw [if_pos m] at h
      exact List.mem_cons_of_mem _ (ih h)
    · rw [if_neg m] at h
      rcases List.mem_cons.mp h with rfl | h
      · exact List.mem_cons_self ..
      · exact List.mem_cons_of_mem _ (ih h)
theorem news_len (seen a : List Sta) : (news seen a).length ≤ a.length := by
  induction a generalizing seen with
  | nil => exact Nat.le_refl _
  | cons x a ih =>
    unfold news
    by_cases m : x ∈ seen
    · rw [if_pos m]
      exact Nat.le_succ_of_le (ih _)
    · rw [if_neg m]
      exact Nat.succ_le_succ (ih _)
theorem nxts_ok {N : NetT} {S T : Sta} (h : SOk N S) (m : T ∈ nxts N S) : SOk N T := by
  obtain ⟨i, _, rfl⟩ := List.mem_map.mp m
  exact h.ledI i
theorem nxts_len {N : NetT} (S : Sta) (h : NOk N) : (nxts N S).length ≤ 100 := by
  unfold nxts doab
  have := List.length_filter_le (mayI N S) (List.range N.steps.length)
  rw [List.length_range] at this
  have := h.st
  rw [List.length_map]
  omega
theorem flat_len {N : NetT} (l : List Sta) (h : NOk N) : (l.flatMap (nxts N)).length ≤ 100 * l.length := by
  induction l with
  | nil => exact Nat.le_refl _
  | cons x l ih =>
    have := nxts_len x h
    rw [List.flatMap_cons, List.length_append, List.length_cons]
    omega
abbrev AS := List (Addr × Sta)
def rfs (A : AS) : List V := A.map fun p => V.ref p.1
def sts (A : AS) : List Sta := A.map (·.2)
theorem rfs_app (A B : AS) : rfs (A ++ B) = rfs A ++ rfs B := List.map_append
theorem sts_app (A B : AS) : sts (A ++ B) = sts A ++ sts B := List.map_append
theorem rfs_len (A : AS) : (rfs A).length = A.length := List.length_map _
theorem sts_len (A : AS) : (sts A).length = A.length := List.length_map _
theorem Sts.app {H : Hp} {A B : AS} (h : Sts H A) (g : Sts H B) : Sts H (A ++ B) := fun p hp => by
  rcases List.mem_append.mp hp with hp | hp
  · exact h p hp
  · exact g p hp
theorem Sts.one {H : Hp} {a : Addr} {S : Sta} (h : IsS H a S) : Sts H [(a, S)] := fun p hp => by
  rcases List.mem_cons.mp hp with rfl | hp
  · exact h
  · cases hp
def sp_met : Sp := fun vs H Q _ => ∃ (v : V) (N : NetT), vs = [v] ∧ IsNet H v N ∧ NOk N ∧ (metS N = none → ∀ H', Same H H' → Q .non H') ∧ (∀ M, metS N = some M → ∀ H' p A, Same H H' → H' p = some (.tup (rfs A)) → Sts H' A → sts A = M → Q (.ref p) H')
def sp_wide : Sp := fun vs H Q _ => ∃ (v : V) (N : NetT), vs = [v] ∧ IsNet H v N ∧ NOk N ∧ ∀ H', Same H H' → Q (.bl (metS N).isNone) H'
def oks (N : NetT) (l : List Sta) : Prop := ∀ S ∈ l, SOk N S
structure FA (H0 H : Hp) (p : Addr) (B : AS) : Prop where
  new : H0 p = none
  at_ : H p = some (.lst (rfs B))
  sts : Sts H B
structure FD (P : Program) (w : World) (H0 H : Hp) (F : Addr) (L : AS) : Prop where
  new : H0 F = none
  at_ : H F = some (SDO P w F L)
  sts : Sts H L
theorem FA.ext {H0 H H' : Hp} {p : Addr} {B : AS} (h : FA H0 H p B) (s : Same H H') : FA H0 H' p B := ⟨h.new, s _ _ h.at_, h.sts.same s⟩
theorem FD.ext {P : Program} {w : World} {H0 H H' : Hp} {F : Addr} {L : AS} (h : FD P w H0 H F L) (s : Same H H') : FD P w H0 H' F L := ⟨h.new, s _ _ h.at_, h.sts.same s⟩
theorem FA.start {H0 H : Hp} {p : Addr} (s : Same H0 H) (h : H p = none) : FA H0 (upd H p (.lst [])) p [] := ⟨s.free h, upd_same, fun _ x => by cases x⟩
theorem FA.put {H0 H : Hp} {p : Addr} {B C : AS} (h : FA H0 H p B) (g : Sts H C) : FA H0 (upd H p (.lst (rfs B ++ rfs C))) p (B ++ C) := ⟨h.new, by rw [upd_same, rfs_app], Sts.sk (Sts.app h.sts g) (SK.lst h.at_)⟩
theorem FA.upd {H0 H : Hp} {p q : Addr} {B : AS} {o o' : HO} (h : FA H0 H p B) (e : H q = some o) (n : ¬ TupO o) (ne : p ≠ q) : FA H0 (upd H q o') p B := ⟨h.new, by rw [upd_ne ne]; exact h.at_, Sts.sk h.sts (SK.mut e n)⟩
theorem FD.upd {P : Program} {w : World} {H0 H : Hp} {p q : Addr} {B : AS} {o o' : HO} (h : FD P w H0 H p B) (e : H q = some o) (n : ¬ TupO o) (ne : p ≠ q) : FD P w H0 (upd H q o') p B := ⟨h.new, by rw [upd_ne ne]; exact h.at_, Sts.sk h.sts (SK.mut e n)⟩
theorem nt_lst {l : List V} : ¬ TupO (.lst l) := fun t => by rcases t with ⟨_, e⟩ | ⟨_, _, e⟩ <;> cases e
theorem nt_sdo {P : Program} {w : World} {d : Addr} {L : AS} : ¬ TupO (SDO P w d L) := fun t => by rcases t with ⟨_, e⟩ | ⟨_, _, e⟩ <;> cases e
theorem FD.put {P : Program} {w : World} {H0 H : Hp} {F a : Addr} {S : Sta} {L : AS} (h : FD P w H0 H F L) (g : IsS H a S) : FD P w H0 (L2.upd H F (SDO P w F (L ++ [(a, S)]))) F (L ++ [(a, S)]) := ⟨h.new, upd_same, Sts.sk (Sts.app h.sts (Sts.one g)) (SK.sdo h.at_)⟩
theorem FA.ne {P : Program} {w : World} {H0 H : Hp} {F p : Addr} {L B : AS} (h : FA H0 H p B) (g : FD P w H0 H F L) : p ≠ F := fun e => by
  have := h.at_
  rw [e, g.at_] at this
  cases this
theorem waysS_snd (N : NetT) (S : Sta) : (waysS N S).map (·.2) = nxts N S := by
  unfold waysS nxts
  rw [List.map_map]
  rfl
section
variable {P : Program} {w : World} {K : PySem.W.Frag} {mg : Str → Option Value} {base : Heap}
def WM (P : Program) (w : World) (H0 : Hp) (v : V) (N : NetT) : Nat → L2.St → Hp → Prop := fun n σ H => ∃ (F lv : Addr) (c3 c4 c5 c6 : Option V) (L A : AS), σ = [some v, some (.ref F), some (.ref lv), c3, c4, c5, c6] ∧ Same H0 H ∧ FD P w H0 H F L ∧ FA H0 H lv A ∧
  bfs N n (sts L) (sts A) = metS N ∧ (2003 ≤ L.length + n ∨ (A = [] ∧ 1 ≤ n)) ∧ L.length ≤ 2000 ∧ A.length ≤ 2000 ∧ oks N (sts A)
def WM1 (P : Program) (w : World) (H0 : Hp) (v : V) (N : NetT) (F lv : Addr) (L A : AS) : Nat → L2.St → Hp → Prop := fun i σ H => ∃ (lt : Addr) (c4 c5 c6 : Option V) (B : AS), σ = [some v, some (.ref F), some (.ref lv), some (.ref lt), c4, c5, c6] ∧ Same H0 H ∧ FD P w H0 H F L ∧ FA H0 H lv A ∧ FA H0 H lt B ∧ lt ≠ lv ∧
  sts B = ((sts A).take i).flatMap (nxts N)
def WM2 (P : Program) (w : World) (H0 : Hp) (v : V) (N : NetT) (F lt : Addr) (L B : AS) : Nat → L2.St → Hp → Prop := fun i σ H => ∃ (lv : Addr) (c4 c5 c6 : Option V) (C : AS), σ = [some v, some (.ref F), some (.ref lv), some (.ref lt), c4, c5, c6] ∧ Same H0 H ∧ FD P w H0 H F (L ++ C) ∧ FA H0 H lv C ∧ FA H0 H lt B ∧ lt ≠ lv ∧
  sts C = news (sts L) ((sts B).take i)
abbrev s_met_states : Stmt := top 22
theorem sc_met_states : FnScope ["net", "found", "level", "later", "state", "index", "there"] ["net"] (defScope s_met_states) := ⟨rfl, rfl, rfl, by decide +kernel, rfl, by decide +kernel, by decide +kernel⟩
theorem ok_met {f f_first_state f_ways_from : Addr} {fd fd1 fd2 : FuncData} (F : Fun K "met_states" "met_states" s_met_states f fd) (T : Tx mg) (d_first_state : Ok1 P w K mg base CX0 1 "first_state" ["net"] sp_first f_first_state fd1) (d_ways_from : Ok1 P w K mg base CX0 5 "ways_from" ["net", "state"] sp_ways f_ways_from fd2) : FnOk P w K mg base CX0 6 f fd ["net"] sp_met := by
  refine F.ok sc_met_states (fun vs H Q E h => ?_) (fun cdv A outer s H vs Q E hr h => ?_)
  · obtain ⟨v, N, rfl, _⟩ := h
    rfl
  · obtain ⟨v, N, rfl, hv, hN, k0, k1⟩ := h
    obtain ⟨t_MOST_STATES, c_MOST_STATES⟩ := T.c_MOST_STATES
    refine ⟨_, (pss_cons (ps_par (i := 1) (j := 2) (by rfl) sc_met_states.nd rfl rfl (by decide) rfl rfl (pa_cons (SDx.pe_dispS hr.units (pe_call d_first_state.ok (hr.mono (by decide)) rfl d_first_state.g d_first_state.kp d_first_state.b .nil pass0 (pa_cons (pv 0) pa_nil)) pe_bl) (pa_cons (pe_lst (pa_cons (pe_call d_first_state.ok (hr.mono (by decide)) rfl d_first_state.g d_first_state.kp d_first_state.b .nil pass0 (pa_cons (pv 0) pa_nil)) pa_nil)) pa_nil)) (by rfl))
      (pss_cons (ps_while PassesOwn.never (pt_truth (pv 2) (by intro _; rfl)) (pss_cons (ps_set (i := 3) sc_met_states.nd rfl (Or.inl rfl) (pe_lst pa_nil))
      (pss_cons (ps_for PassesOwn.never rfl (pi_list (pv 2)) (pg_name (i := 4) sc_met_states.nd rfl (Or.inl rfl)) (pss_one (ps_expr (pe_bm PySem.F.plainAttrs_list PySem.F.slot_list_extend PySem.F.type_list_extend mt_extend (pv 3) (pa_cons (pe_lc (own := [("index", 5), ("there", 6)]) (g := (gTup K 2 (gCons (gName 5) (gCons (gName 6) gNil)))) (tt := tYes) rfl sc_met_states.nd (pi_list (pe_call d_ways_from.ok (hr.mono (by decide)) rfl d_ways_from.g d_ways_from.kp d_ways_from.b .nil pass0 (pa_cons (pv 0) (pa_cons (pv 4) pa_nil)))) (blkOk_by (N := ["net", "found", "level", "later", "state", "index", "there"]) (sc := defScope s_met_states) (by decide +kernel)) (fun _ _ _ _ _ => by exact pg_tup rfl (pgs_cons (pg_name (i := 5) sc_met_states.nd rfl (Or.inl rfl)) (pgs_cons (pg_name (i := 6) sc_met_states.nd rfl (Or.inl rfl)) pgs_nil))) (fun _ _ _ _ _ => pts_nil) (fun _ _ _ _ _ => (pv 6))) pa_nil)))))
      (pss_cons (ps_set (i := 2) sc_met_states.nd rfl (Or.inl rfl) (pe_lst pa_nil))
      (pss_cons (ps_for PassesOwn.never rfl (pi_list (pv 3)) (pg_name (i := 4) sc_met_states.nd rfl (Or.inl rfl)) (pss_one (ps_if (pt_cmpR (SDx.op_notInS hr.units) (pv 4) (pv 1) (by rfl)) (pss_cons (SDx.ps_putS hr.units (pv 1) (pv 4) pe_bl rfl)
      (pss_one (ps_expr (pe_bm PySem.F.plainAttrs_list PySem.F.slot_list_append PySem.F.type_list_append mt_append (pv 2) (pa_cons (pv 4) pa_nil))))) pss_nil)))
      (pss_one (ps_if (pt_cmpR op_gt (pe_callB SDx.call_lenS (by rfl) T.n_len (by decide +kernel) (pa_cons (pv 1) pa_nil)) (pe_glob (v := .int 2000) rfl c_MOST_STATES ⟨_, rfl⟩) (nomark _)) (pss_one (ps_ret pe_non)) pss_nil)))))))
      (pss_one (ps_ret (pe_callTy (SDx.call_tupS rfl) (by rfl) T.n_tuple (by decide +kernel) (pa_cons (pv 1) pa_nil)))))), ?_⟩
    have nv := hv
    refine fun F0 hF0 => ?_
    refine ⟨_, rfl, v, N, rfl, hv.same (same_upd hF0), hN, fun H1 a1 e1 ha1 => ?_⟩
    have hF1 := e1 _ _ (upd_same (H := H) (a := F0) (o := SDO P w F0 []))
    refine ⟨a1, fstS N, rfl, rfl, ha1, hF1, ?_⟩
    have s1 : Same H H1 := (same_upd hF0).trans e1
    have fd1 : FD P w H (upd H1 F0 (SDO P w F0 [(a1, fstS N)])) F0 [(a1, fstS N)] := FD.put (L := []) ⟨hF0, hF1, fun _ x => by cases x⟩ ha1
    have s2 : Same H (upd H1 F0 (SDO P w F0 [(a1, fstS N)])) := Same.own s1 hF0
    refine ⟨_, rfl, v, N, rfl, hv.same s2, hN, fun H3 a3 e3 ha3 => ?_⟩
    refine ⟨line_le 1 (by decide), fun l0 hl0 => ⟨_, _, rfl, ?_⟩⟩
    have s3 := s2.trans e3
    have fa := FA.put (C := [(a3, fstS N)]) (FA.start s3 hl0) (Sts.one (ha3.same (same_upd hl0)))
    rw [upd_upd] at fa
    have s4 := s3.trans (same_upd (o := .lst ([] ++ [.ref a3])) hl0)
    have fd4 := (fd1.ext e3).ext (same_upd (o := .lst ([] ++ [.ref a3])) hl0)
    dsimp only [L2.start, List.set, List.replicate, List.map, List.length]
    refine seq_join (t := tWhile _ _) (fun σ' H' => ∃ (F lv : Addr) (c3 c4 c5 c6 : Option V) (L : AS), σ' = [some v, some (.ref F), some (.ref lv), c3, c4, c5, c6] ∧ Same H H' ∧ FD P w H H' F L ∧ metS N = some (sts L)) (fun D hD => ?_) ?_
    · refine ⟨WM P w H v N, ⟨3000, F0, l0, none, none, none, none, _, _, rfl, s4, fd4, fa, rfl, ?_, ?_, ?_, ?_⟩, ?_⟩
      · refine .inl ?_
        show 2003 ≤ 1 + 3000
        omega
      · show 1 ≤ 2000
        omega
      · show 1 ≤ 2000
        omega
      · intro S hS
        rcases List.mem_cons.mp hS with rfl | hS
        · exact SOk.fst hN
        · cases hS
      rintro n σ H5 ⟨F, lv, c3, c4, c5, c6, L, A, rfl, sm, fD, fA, hb, hn, hL, hA, hok⟩
      obtain ⟨n, rfl⟩ : ∃ n', n = n' + 1 := ⟨n - 1, by rcases hn with hn | hn <;> omega⟩
      refine ⟨_, rfl, !(rfs A).isEmpty, .inl ⟨_, SqL.of fA.at_, rfl⟩, ?_⟩
      by_cases hAe : A = []
      · subst hAe
        refine iteF (hD _ _ ⟨F, lv, _, _, _, _, L, rfl, sm, fD, ?_⟩)
        rw [← hb]
        rfl
      have hne : (!(rfs A).isEmpty) = true := by
        cases A with
        | nil => exact absurd rfl hAe
        | cons _ _ => rfl
      rw [hne]
      refine iteT ⟨WM P w H v N n, fun σ' H' p => ⟨n, Nat.lt_succ_self n, p⟩, ?_⟩
      refine ⟨Nat.zero_le _, fun lt hlt => ?_⟩
      dsimp only [gName, List.set]
      have slt := same_upd (o := .lst []) hlt
      have ne1 : lt ≠ lv := (ne_of_none fA.at_ hlt).symm
      refine ⟨_, rfl, lv, rfl, ⟨_, SqL.of (slt _ _ fA.at_)⟩, ?_⟩
      refine for_list (K := K) (a := lv) (xs := rfs A) (WM1 P w H v N F lv L A) ⟨lt, _, _, _, [], rfl, sm.trans slt, fD.ext slt, fA.ext slt, FA.start sm hlt, ne1, rfl⟩ (fun i σ H' _ ⟨lt, c4, c5, c6, B, _, _, _, fA, _⟩ => SqL.of fA.at_) ?_ ?_
      · rintro i x σ H6 hx ⟨lt, c4, c5, c6, B, rfl, sm, fD, fA, fB, ne1, hB⟩
        obtain ⟨⟨a, S⟩, hi, rfl⟩ := map_at hx
        have hiA := (List.getElem?_eq_some_iff.mp hi).1
        have hSa : IsS H6 a S := fA.sts _ (List.mem_of_getElem? hi)
        have hSO : SOk N S := hok S (List.mem_map.mpr ⟨_, List.mem_of_getElem? hi, rfl⟩)
        dsimp only [gName, List.set]
        refine ⟨_, rfl, .inl ⟨rfl, _, SqL.of fB.at_⟩, _, rfl, _, rfl, v, N, a, S, rfl, hv.same sm, hN, hSa, hSO, fun H7 p ws e7 n7 hp hP => ?_⟩
        refine ⟨p, rfl, ⟨_, SqL.of hp⟩, fun D2 hD2 => ?_⟩
        have hwl : ws.length = (nxts N S).length := by
          rw [hP.length, ← waysS_snd, List.length_map]
        have hnl := nxts_len S hN
        refine lc_list (K := K) (a := p) (xs := ws) (fun j H' => ∃ C : AS, Fill H7 D2 (rfs C) H' ∧ Sts H' C ∧ sts C = (nxts N S).take j) ⟨[], .start hD2, (fun _ x => nomatch x), rfl⟩ (fun j H' _ ⟨C, fl, _⟩ => SqL.of (fl.same _ _ hp)) ?_ ?_
        · rintro j y H8 hy ⟨C, fl, hC, eC⟩
          obtain ⟨q, hq, b1, b2, rfl, hb1, hb2⟩ := paired_getL hP hy
          have hb3 : IsS H8 b2 q.2 := hb2.same fl.same
          refine ⟨b1, _, rfl, SqT.of (fl.same _ _ hb1), rfl, _, _, rfl, _, _, rfl, rfl, rfl, _, rfl, _, fl.at_, ?_, C ++ [(b2, q.2)], fl.add (by rw [rfs_app]; rfl), Sts.sk (Sts.app hC (Sts.one hb3)) (SK.lst fl.at_), ?_⟩
          · have := sts_len C
            rw [eC, List.length_take] at this
            rw [rfs_len]
            exact small (by omega)
          · rw [sts_app, eC, take_add (show (nxts N S)[j]? = some q.2 by rw [← waysS_snd, List.getElem?_map, hq]; rfl)]
            rfl
        rintro H8 ⟨C, fl, hC, eC⟩
        rw [hwl, List.take_length] at eC
        have e8 := e7.trans fl.same
        have fB8 := fB.ext e8
        have hBl : B.length ≤ 200000 := by
          have h1 := flat_len ((sts A).take i) hN
          rw [← hB, sts_len, List.length_take, sts_len] at h1
          omega
        refine ⟨lt, D2, _, _, rfl, rfl, fB8.at_, fl.at_, ?_, ?_⟩
        · have := sts_len C
          rw [eC] at this
          rw [rfs_len, rfs_len]
          exact line_le _ (by omega)
        · refine ⟨lt, _, _, _, B ++ C, rfl, Same.own (sm.trans e8) fB.new, (fD.ext e8).upd fB8.at_ nt_lst (fB.ne fD).symm, (fA.ext e8).upd fB8.at_ nt_lst ne1.symm, fB8.put hC, ne1, ?_⟩
          rw [sts_app, hB, eC, take_add (show (sts A)[i]? = some S by unfold sts; rw [List.getElem?_map, hi]; rfl), List.flatMap_append, List.flatMap_singleton]
      · rintro σ H6 ⟨lt, c4, c5, c6, B, rfl, sm, fD, fA, fB, ne1, hB⟩
        rw [rfs_len, ← sts_len, List.take_length] at hB
        have hBl : B.length ≤ 200000 := by
          have h1 := flat_len (sts A) hN
          rw [← hB, sts_len, sts_len] at h1
          omega
        refine ⟨Nat.zero_le _, fun l2 hl2 => ?_⟩
        dsimp only [gName, List.set]
        have s2 := same_upd (o := .lst []) hl2
        have ne2 : lt ≠ l2 := ne_of_none fB.at_ hl2
        refine ⟨_, rfl, lt, rfl, ⟨_, SqL.of (s2 _ _ fB.at_)⟩, ?_⟩
        refine for_list (K := K) (a := lt) (xs := rfs B) (WM2 P w H v N F lt L B) ⟨l2, _, _, _, [], rfl, sm.trans s2, by rw [List.append_nil]; exact fD.ext s2, FA.start sm hl2, fB.ext s2, ne2, rfl⟩ (fun i σ H' _ ⟨lv, c4, c5, c6, C, _, _, _, _, fB, _⟩ => SqL.of fB.at_) ?_ ?_
        · rintro i x σ H7 hx ⟨lv, c4, c5, c6, C, rfl, sm, fD, fC, fB, ne2, hC⟩
          obtain ⟨⟨a, S⟩, hi, rfl⟩ := map_at hx
          have hiB := (List.getElem?_eq_some_iff.mp hi).1
          have hSa : IsS H7 a S := fB.sts _ (List.mem_of_getElem? hi)
          dsimp only [gName, List.set]
          refine ⟨_, rfl, _, rfl, a, F, S, L ++ C, rfl, rfl, hSa, fD.at_, fD.sts, _, rfl, ?_⟩
          have hCl : C.length ≤ 200000 := by
            have h1 := news_len (sts L) ((sts B).take i)
            rw [← hC, sts_len, List.length_take, sts_len] at h1
            omega
          have hst : (sts B)[i]? = some S := by
            unfold sts
            rw [List.getElem?_map, hi]
            rfl
          have hnew := news_one (sts L) ((sts B).take i) S
          rw [← take_add hst, ← hC, ← sts_app] at hnew
          by_cases hm : S ∈ sts (L ++ C)
          · rw [if_pos hm] at hnew
            rw [show (!decide (S ∈ List.map (fun x => x.2) (L ++ C))) = false by rw [decide_eq_true (show S ∈ List.map (fun x => x.2) (L ++ C) from hm)]; rfl]
            exact iteF ⟨lv, _, _, _, C, rfl, sm, fD, fC, fB, ne2, hnew.symm⟩
          · rw [if_neg hm] at hnew
            rw [show (!decide (S ∈ List.map (fun x => x.2) (L ++ C))) = true by rw [decide_eq_false (show ¬ S ∈ List.map (fun x => x.2) (L ++ C) from hm)]; rfl]
            refine iteT ⟨_, rfl, _, rfl, F, a, S, L ++ C, rfl, rfl, rfl, hSa, fD.at_, fD.sts, hm, ?_, ?_⟩
            · rw [List.length_append]
              exact small (by omega)
            have hx1 := (fC.upd (o' := SDO P w F ((L ++ C) ++ [(a, S)])) fD.at_ nt_sdo (fC.ne fD))
            have hx2 := (fB.upd (o' := SDO P w F ((L ++ C) ++ [(a, S)])) fD.at_ nt_sdo (fB.ne fD))
            have hx3 := fD.put hSa
            have hx4 := Same.own (o := SDO P w F ((L ++ C) ++ [(a, S)])) sm fD.new
            refine ⟨_, rfl, .inl ⟨rfl, _, SqL.of hx1.at_⟩, _, rfl, lv, _, _, rfl, rfl, hx1.at_, ?_, ?_⟩
            · rw [rfs_len]
              exact small (by omega)
            have hS5 : IsS (upd H7 F (SDO P w F ((L ++ C) ++ [(a, S)]))) a S := hx3.sts (a, S) (List.mem_append_right _ (List.mem_cons_self ..))
            refine ⟨lv, _, _, _, C ++ [(a, S)], rfl, Same.own hx4 fC.new, ?_, hx1.put (Sts.one hS5), hx2.upd hx1.at_ nt_lst ne2, ne2, ?_⟩
            · rw [← List.append_assoc]
              exact hx3.upd hx1.at_ nt_lst (fC.ne fD).symm
            · rw [sts_app]
              exact hnew.symm
        · rintro σ H7 ⟨lv, c4, c5, c6, C, rfl, sm, fD, fC, fB, ne2, hC⟩
          rw [rfs_len, ← sts_len, List.take_length] at hC
          have hnb : bfs N (n + 1) (sts L) (sts A) = if (sts L ++ news (sts L) ((sts A).flatMap (nxts N))).length > 2000 then none else bfs N n (sts L ++ news (sts L) ((sts A).flatMap (nxts N))) (news (sts L) ((sts A).flatMap (nxts N))) := by
            show (if sts A = [] then some (sts L) else _) = _
            rw [if_neg (fun e : sts A = [] => hAe (List.map_eq_nil_iff.mp e))]
          rw [← hB, ← hC, ← sts_app, sts_len, hb] at hnb
          refine ⟨_, rfl, F, L ++ C, rfl, fD.at_, fD.sts, _, _, rfl, rfl, _, rfl, ?_⟩
          by_cases hbig : (L ++ C).length > 2000
          · rw [if_pos hbig] at hnb
            rw [decide_eq_true (show (2000 : Int) < ((L ++ C).length : Nat) by omega)]
            exact iteT (k0 hnb _ sm)
          · rw [if_neg hbig] at hnb
            rw [decide_eq_false (show ¬ (2000 : Int) < ((L ++ C).length : Nat) by omega)]
            rw [List.length_append] at hbig
            refine iteF ⟨F, lv, _, _, _, _, L ++ C, C, rfl, sm, fD, fC, hnb.symm, ?_, by rw [List.length_append]; omega, by omega, ?_⟩
            · have hn2 : 2003 ≤ L.length + (n + 1) := by
                rcases hn with hn | hn
                · exact hn
                · exact absurd hn.1 hAe
              by_cases hC0 : C = []
              · exact .inr ⟨hC0, by omega⟩
              · have : 0 < C.length := List.length_pos_iff.mpr hC0
                rw [List.length_append]
                exact .inl (by omega)
            · intro S hS
              rw [hC] at hS
              have h2 := news_mem hS
              rw [hB] at h2
              obtain ⟨S', h3, h4⟩ := List.mem_flatMap.mp h2
              exact nxts_ok (hok S' h3) h4
    · rintro σ H5 ⟨F, lv, c3, c4, c5, c6, L, rfl, sm, fD, hM⟩
      refine ⟨_, rfl, F, L, rfl, fD.at_, fD.sts, fun p hp => ?_⟩
      exact k1 _ hM _ p L (sm.trans (same_upd hp)) upd_same (fD.sts.same (same_upd hp)) rfl
abbrev s_is_too_wide : Stmt := top 23
theorem sc_is_too_wide : FnScope ["net"] ["net"] (defScope s_is_too_wide) := ⟨rfl, rfl, rfl, by decide +kernel, rfl, by decide +kernel, by decide +kernel⟩
theorem ok_wide {f f_met_states : Addr} {fd fd1 : FuncData} (F : Fun K "is_too_wide" "is_too_wide" s_is_too_wide f fd) (T : Tx mg) (d_met_states : Ok1 P w K mg base CX0 6 "met_states" ["net"] sp_met f_met_states fd1) : FnOk P w K mg base CX0 7 f fd ["net"] sp_wide := by
  refine F.ok sc_is_too_wide (fun vs H Q E h => ?_) (fun cdv A outer s H vs Q E hr h => ?_)
  · obtain ⟨v, N, rfl, _⟩ := h
    rfl
  · obtain ⟨v, N, rfl, hv, hN, k⟩ := h
    refine ⟨_, (pss_one (ps_ret (pe_cmpR op_isN (pe_call d_met_states.ok (hr.mono (by decide)) rfl d_met_states.g d_met_states.kp d_met_states.b .nil pass0 (pa_cons (pv 0) pa_nil)) pe_non (nomark _)))), ?_⟩
    refine ⟨_, rfl, v, N, rfl, hv, hN, fun hm H' s' => ?_, fun M hm H' p A s' hp _ _ => ?_⟩
    · rw [hm] at k
      exact ⟨rfl, k _ s'⟩
    · rw [hm] at k
      exact ⟨rfl, k _ s'⟩
end
end Net
namespace Net
open PySem PySem.Spec PyProof.Rows L2 SDx NetR
def nmV : Option Str → V
  | none => .non
  | some s => .str s
def isNm (N : NetT) (o : Option Str) (i : Nat) : Bool := match o, N.steps[i]? with
  | some z, some s => decide (s.nm = z)
  | _, _ => false
theorem isNm_none (N : NetT) (i : Nat) : isNm N none i = false := rfl
theorem isNm_some {N : NetT} {z : Str} {i : Nat} {st : Stp} (h : N.steps[i]? = some st) : isNm N (some z) i = decide (st.nm = z) := by
  unfold isNm
  rw [h]
def nameds (N : NetT) (o : Option Str) : List Nat := (List.range N.steps.length).filter (isNm N o)
def stepO (N : NetT) (o : Option Str) : Option Nat := (nameds N o).head?
inductive Bad
  | nn (o : Option Str)
  | st
def goF (N : NetT) : Sta → List (Option Str) → List Sta × Option Bad
  | S, [] => ([S], none)
  | S, o :: os => match stepO N o with
    | none => ([S], some (.nn o))
    | some i => if mayI N S i = true then (S :: (goF N (ledI N S i) os).1, (goF N (ledI N S i) os).2) else ([S], some .st)
theorem goF_last (N : NetT) : ∀ (os : List (Option Str)) (S : Sta), ∃ l T, (goF N S os).1 = l ++ [T]
  | [], S => ⟨[], S, rfl⟩
  | o :: os, S => by
    unfold goF
    cases stepO N o with
    | none => exact ⟨[], S, rfl⟩
    | some i =>
      by_cases h : mayI N S i = true
      · obtain ⟨l, T, e⟩ := goF_last N os (ledI N S i)
        refine ⟨S :: l, T, ?_⟩
        show (if mayI N S i = true then _ else _ : List Sta × Option Bad).1 = _
        rw [if_pos h, e]
        rfl
      · refine ⟨[], S, ?_⟩
        show (if mayI N S i = true then _ else _ : List Sta × Option Bad).1 = _
        rw [if_neg h]
        rfl
theorem goF_no {N : NetT} {S : Sta} {o : Option Str} {os : List (Option Str)} (h : stepO N o = none) : goF N S (o :: os) = ([S], some (.nn o)) := by
  unfold goF
  rw [h]
theorem goF_bad {N : NetT} {S : Sta} {o : Option Str} {os : List (Option Str)} {i : Nat} (h : stepO N o = some i) (m : mayI N S i = false) : goF N S (o :: os) = ([S], some .st) := by
  unfold goF
  rw [h]
  show (if mayI N S i = true then _ else _ : List Sta × Option Bad) = _
  rw [m]
  rfl
theorem goF_go {N : NetT} {S : Sta} {o : Option Str} {os : List (Option Str)} {i : Nat} (h : stepO N o = some i) (m : mayI N S i = true) : goF N S (o :: os) = (S :: (goF N (ledI N S i) os).1, (goF N (ledI N S i) os).2) := by
  rw [goF.eq_def]
  show (match stepO N o with | none => ([S], some (Bad.nn o)) | some i => if mayI N S i = true then (S :: (goF N (ledI N S i) os).1, (goF N (ledI N S i) os).2) else ([S], some .st)) = _
  rw [h]
  show (if mayI N S i = true then _ else _ : List Sta × Option Bad) = _
  rw [m]
  rfl
theorem goF_len {N : NetT} : ∀ {os : List (Option Str)} {S : Sta}, (goF N S os).2 = none → (goF N S os).1.length = os.length + 1
  | [], S, _ => rfl
  | o :: os, S, h => by
    cases e : stepO N o with
    | none =>
      rw [goF_no e] at h
      cases h
    | some i =>
      cases m : mayI N S i with
      | false =>
        rw [goF_bad e m] at h
        cases h
      | true =>
        rw [goF_go e m] at h ⊢
        show (goF N (ledI N S i) os).1.length + 1 = os.length + 1 + 1
        rw [goF_len h]
def BadE (CR CN : Addr) (H : Hp) : Bad → XK → Prop
  | .nn o, E => NnE CN H (nmV o) E
  | .st, E => RfE CR H "step" E
theorem BadE.mono {CR CN : Addr} {H H1 : Hp} {b : Bad} {E : XK} (h : BadE CR CN H b E) (s : Same H H1) : BadE CR CN H1 b E := by
  cases b with
  | nn o => exact fun H' e s' he => h H' e (s.trans s') he
  | st => exact fun H' e s' he => h H' e (s.trans s') he
def sp_step (CN : Addr) : Sp := fun vs H Q E => ∃ (v : V) (N : NetT) (o : Option Str), vs = [v, nmV o] ∧ IsNet H v N ∧ NOk N ∧ (∀ i, stepO N o = some i → ∀ H', Same H H' → Q (.int (i : Nat)) H') ∧ (stepO N o = none → NnE CN H (nmV o) E)
def sp_runs (CR CN : Addr) : Sp := fun vs H Q E => ∃ (v : V) (N : NetT) (t : Addr) (os : List (Option Str)), vs = [v, .ref t] ∧ IsNet H v N ∧ NOk N ∧ H t = some (.tup (os.map nmV)) ∧ os.length ≤ 100 ∧
  ((goF N (fstS N) os).2 = none → ∀ H' p A, Same H H' → H' p = some (.tup (rfs A)) → Sts H' A → sts A = (goF N (fstS N) os).1 → Q (.ref p) H') ∧ (∀ e, (goF N (fstS N) os).2 = some e → BadE CR CN H e E)
def sp_runst (CR CN : Addr) : Sp := fun vs H Q E => ∃ (v : V) (N : NetT) (t : Addr) (os : List (Option Str)), vs = [v, .ref t] ∧ IsNet H v N ∧ NOk N ∧ H t = some (.tup (os.map nmV)) ∧ os.length ≤ 100 ∧
  ((goF N (fstS N) os).2 = none → ∀ H' p S, Same H H' → IsS H' p S → (goF N (fstS N) os).1.getLast? = some S → Q (.ref p) H') ∧ (∀ e, (goF N (fstS N) os).2 = some e → BadE CR CN H e E)
def sp_isrun : Sp := fun vs H Q _ => ∃ (v u : V) (N : NetT) (d : PyData), vs = [v, u] ∧ IsNet H v N ∧ NOk N ∧ Rp H u d ∧
  ((∃ (t : Addr) (os : List (Option Str)), u = .ref t ∧ H t = some (.tup (os.map nmV)) ∧ os.length ≤ 100 ∧ ∀ H', Same H H' → Q (.bl (goF N (fstS N) os).2.isNone) H') ∨ ((∀ ds, d ≠ .tuple ds) ∧ Q (.bl false) H))
def sp_last : Sp := fun vs H Q _ => ∃ (v : V) (N : NetT) (t : Addr) (os : List (Option Str)), vs = [v, .ref t] ∧ IsNet H v N ∧ NOk N ∧ H t = some (.tup (os.map nmV)) ∧ os.length ≤ 100 ∧ ∀ H', Same H H' → Q (.int (((goF N (fstS N) os).1.length - 1 : Nat) : Int)) H'
section
variable {P : Program} {w : World} {K : PySem.W.Frag} {mg : Str → Option Value} {base : Heap} {CR fR ccR CN fN ccN CO : Addr}
abbrev s_step_named : Stmt := top 25
theorem sc_step_named : FnScope ["net", "name", "found", "index", "step"] ["net", "name"] (defScope s_step_named) := ⟨rfl, rfl, rfl, by decide +kernel, rfl, by decide +kernel, by decide +kernel⟩
theorem ok_step {f f_is_string : Addr} {fd fd1 : FuncData} (F : Fun K "step_named" "step_named" s_step_named f fd) (T : Tx mg) (TE : Tex P K mg CR fR ccR CN fN ccN CO) (d_is_string : Ok1 P w K mg base CX0 1 "is_string" ["thing"] sp_is_string f_is_string fd1) : FnOk P w K mg base (L2.CX P w) 2 f fd ["net", "name"] (sp_step CN) := by
  refine F.okX sc_step_named (fun vs H Q E h => ?_) (fun cdv A outer s H vs Q E hr h => ?_)
  · obtain ⟨v, N, o, rfl, _⟩ := h
    rfl
  · obtain ⟨v, N, o, rfl, hv, hN, kY, kN⟩ := h
    refine ⟨_, (pss_cons (ps_setLc (i := 2) (own := [("index", 3), ("step", 4)]) (g := (gTup K 2 (gCons (gName 3) (gCons (gName 4) gNil)))) (tt := (tAnd (tB (tCall sp_is_string [] E0 (tCons (tVar 1) tNil))) (tTest (tOp rEq (tOp (rIxT K) (tVar 4) (tC (V.int 0))) (tVar 1))))) (te := (tVar 3)) rfl sc_step_named.nd rfl rfl (sw_true rfl rfl rfl (by decide +kernel)) (pi_enumT (by rfl) T.n_enumerate (pa_cons (pe_ix ix_tup (pv 0) pe_int (fun _ _ => rfl)) pa_nil)) (blkOk_by (N := ["net", "name", "found", "index", "step"]) (sc := defScope s_step_named) (by decide +kernel)) (fun _ _ _ _ _ => by exact pg_tup rfl (pgs_cons (pg_name (i := 3) sc_step_named.nd rfl (Or.inl rfl)) (pgs_cons (pg_name (i := 4) sc_step_named.nd rfl (Or.inl rfl)) pgs_nil))) (fun _ _ _ _ _ => by exact pts_one (PW.pt (pw_and (pt_val (pe_call d_is_string.ok (hr.mono (by decide)) rfl d_is_string.g d_is_string.kp d_is_string.b .nil pass0 (pa_cons (pv 1) pa_nil))) (pw_and1 (pt_cmpR op_eq (pe_ix (show IxR _ (rIxT K) from ix_tup) (pv 4) pe_int (fun _ _ => rfl)) (pv 1) (nomark _)))))) (fun _ _ _ _ _ => by exact (pv 3)))
      (pss_cons (ps_if (pt_not (pt_truth (pv 2) (by intro _; rfl))) (pss_one (ps_raise rfl (takes_of rfl rfl rfl rfl) (pmk_nn TE.xNN TE.g_NoName TE.nNN hr (by decide) (pa_cons (pv 1) pa_nil)))) pss_nil)
      (pss_one (ps_ret (pe_ix ix_list (pv 2) pe_int (fun _ _ => rfl)))))), ?_⟩
    obtain ⟨na, np, nn, nt, sx, rfl, h0, h1, h2, h3, h4⟩ := id hv
    have hst := hN.st
    refine ⟨_, rfl, na, _, 3, _, rfl, rfl, SqT.of h0, rfl, nt, _, rfl, SqT.of h3, fun D hD => ?_⟩
    refine lc_it walk_enumT (fun i H' => Fill H D (intsV ((List.range i).filter (isNm N o))) H') (.start hD) (fun i H' _ fl => SqT.of (fl.same _ _ h3)) ?_ ?_
    · intro j x H3 H4 hj fl hy
      obtain ⟨T, x1, x2, rfl, hT, rfl, y1, y2⟩ := hy
      cases (Option.some.inj y1)
      obtain ⟨st, hst2, hIs⟩ := paired_getL h4 y2
      obtain ⟨sa, si, so, stt, se, rfl, g0, g1, g2, g3, g4⟩ := hIs
      have sx2 := same_upd (o := .tup [.int (j : Nat), .ref sa]) hT
      have fl2 := fl.ext sx2
      have hjl : j < N.steps.length := (List.getElem?_eq_some_iff.mp hst2).1
      have hr1 : (List.range (j + 1)).filter (isNm N o) = (List.range j).filter (isNm N o) ++ (if isNm N o j = true then [j] else []) := by
        rw [List.range_succ, List.filter_append, List.filter_cons, List.filter_nil]
      refine ⟨T, _, rfl, SqT.of upd_same, rfl, _, _, rfl, _, _, rfl, rfl, wipe2 (by decide) (by decide), ?_⟩
      have fin : ∀ b, isNm N o j = b → (if b = true then tVar 3 ([some (.ref na), some (nmV o), none, some (.int (j : Nat)), some (.ref sa)]) (upd H3 T (.tup [.int (j : Nat), .ref sa])) fun y H4 => ∃ acc, H4 D = some (.lst acc) ∧ acc.length < sizeLine ∧ Fill H D (intsV ((List.range (j + 1)).filter (isNm N o))) (upd H4 D (.lst (acc ++ [y]))) else Fill H D (intsV ((List.range (j + 1)).filter (isNm N o))) (upd H3 T (.tup [.int (j : Nat), .ref sa]))) := by
        intro b hb
        cases b with
        | false =>
          rw [hb, if_neg (by decide), List.append_nil] at hr1
          refine iteF ?_
          rw [hr1]
          exact fl2
        | true =>
          rw [hb, if_pos rfl] at hr1
          refine iteT ⟨_, rfl, _, fl2.at_, ?_, fl2.add ?_⟩
          · refine small ?_
            have := List.length_filter_le (isNm N o) (List.range j)
            rw [List.length_range] at this
            unfold intsV
            rw [List.length_map]
            omega
          · rw [hr1]
            unfold intsV
            rw [List.map_append]
            rfl
      cases o with
      | none =>
        refine ⟨_, rfl, .non, .none, rfl, .non, _, rfl, ?_⟩
        exact iteF (fin false (isNm_none N j))
      | some z =>
        refine ⟨_, rfl, .str z, .str z, rfl, .str z, _, rfl, iteT ⟨_, rfl, sa, _, 0, _, rfl, rfl, SqT.of (sx2 _ _ (fl.same _ _ g0)), rfl, _, rfl, rfl, _, rfl, ?_⟩⟩
        refine fin _ ?_
        rw [isNm_some hst2]
        show decide (st.nm = z) = decide (V.str st.nm = V.str z)
        by_cases e : st.nm = z
        · rw [decide_eq_true e, decide_eq_true (by rw [e])]
        · rw [decide_eq_false e, decide_eq_false (fun y => e (by injection y))]
    · intro H3 fl
      have hsl : sx.length = N.steps.length := h4.length
      rw [hsl] at fl
      refine ⟨_, rfl, !(intsV (nameds N o)).isEmpty, .inl ⟨_, SqL.of fl.at_, rfl⟩, ?_⟩
      have hk : stepO N o = (nameds N o).head? := rfl
      have fa : H3 D = some (.lst (intsV (nameds N o))) := fl.at_
      generalize nameds N o = l at hk fa ⊢
      cases l with
      | nil =>
        exact iteT ⟨_, rfl, _, rfl, fun d hd => kN hk _ d (fl.same.trans (same_upd hd)) upd_same⟩
      | cons i r =>
        exact iteF ⟨_, rfl, D, _, 0, _, rfl, rfl, SqL.of fa, atI_nat (j := 0) rfl, kY i hk _ fl.same⟩
abbrev s_run_states : Stmt := top 27
theorem sc_run_states : FnScope ["net", "names", "found", "name"] ["net", "names"] (defScope s_run_states) := ⟨rfl, rfl, rfl, by decide +kernel, rfl, by decide +kernel, by decide +kernel⟩
theorem ok_runs {f f_first_state f_led f_step_named : Addr} {fd fd1 fd2 fd3 : FuncData} (F : Fun K "run_states" "run_states" s_run_states f fd) (T : Tx mg) (d_first_state : Ok1 P w K mg base CX0 1 "first_state" ["net"] sp_first f_first_state fd1) (d_led : Ok1 P w K mg base (L2.CX P w) 4 "led" ["net", "state", "index"] (sp_led CR) f_led fd2) (d_step_named : Ok1 P w K mg base (L2.CX P w) 2 "step_named" ["net", "name"] (sp_step CN) f_step_named fd3) : FnOk P w K mg base (L2.CX P w) 5 f fd ["net", "names"] (sp_runs CR CN) := by
  refine F.okX sc_run_states (fun vs H Q E h => ?_) (fun cdv A outer s H vs Q E hr h => ?_)
  · obtain ⟨v, N, t, os, rfl, _⟩ := h
    rfl
  · obtain ⟨v, N, t, os, rfl, hv, hN, ht, hl, kY, kN⟩ := h
    refine ⟨_, (pss_cons (ps_set (i := 2) sc_run_states.nd rfl (Or.inl rfl) (pe_lst (pa_cons (pe_call d_first_state.ok (hr.mono (by decide)) rfl d_first_state.g d_first_state.kp d_first_state.b .nil pass0 (pa_cons (pv 0) pa_nil)) pa_nil)))
      (pss_cons (ps_for (passes_of rfl) rfl (pi_tup (pv 1)) (pg_name (i := 3) sc_run_states.nd rfl (Or.inl rfl)) (pss_one (ps_expr (pe_bm PySem.F.plainAttrs_list PySem.F.slot_list_append PySem.F.type_list_append mt_append (pv 2) (pa_cons (pe_call d_led.ok (hr.mono (by decide)) rfl d_led.g d_led.kp d_led.b .nil (passes_call (takes_of rfl rfl rfl rfl) (fun _ _ _ _ h => h)) (pa_cons (pv 0) (pa_cons (pe_ix ix_list (pv 2) (pe_un un_neg pe_int) (fun _ _ => rfl)) (pa_cons (pe_call d_step_named.ok (hr.mono (by decide)) rfl d_step_named.g d_step_named.kp d_step_named.b .nil (passes_call (takes_of rfl rfl rfl rfl) (fun _ _ _ _ h => h)) (pa_cons (pv 0) (pa_cons (pv 3) pa_nil))) pa_nil)))) pa_nil)))))
      (pss_one (ps_ret (pe_callTy call_tuple_of (by rfl) T.n_tuple (by decide +kernel) (pa_cons (pv 2) pa_nil)))))), ?_⟩
    refine ⟨_, rfl, v, N, rfl, hv, hN, fun H1 a1 s1 ha1 => ?_⟩
    refine ⟨line_le 1 (by decide), fun F0 hF0 => ?_⟩
    have fa := FA.put (C := [(a1, fstS N)]) (FA.start s1 hF0) (Sts.one (ha1.same (same_upd hF0)))
    rw [upd_upd] at fa
    have s2 := s1.trans (same_upd (o := .lst ([] ++ [.ref a1])) hF0)
    refine ⟨_, rfl, t, rfl, ⟨_, SqT.of (s2 _ _ ht)⟩, ?_⟩
    refine for_tup (K := K) (a := t) (xs := os.map nmV) (fun i σ H' => ∃ (c3 : Option V) (B : AS) (a : Addr) (S : Sta), σ = [some v, some (.ref t), some (.ref F0), c3] ∧ Same H H' ∧ FA H H' F0 (B ++ [(a, S)]) ∧ SOk N S ∧ B.length = i ∧ (goF N (fstS N) os).1 = sts B ++ (goF N S (os.drop i)).1 ∧ (goF N (fstS N) os).2 = (goF N S (os.drop i)).2)
      ⟨none, [], a1, fstS N, rfl, s2, fa, SOk.fst hN, rfl, rfl, rfl⟩ (fun i σ H' _ ⟨c3, B, a, S, _, sm, _⟩ => SqT.of (sm _ _ ht)) ?_ ?_
    · rintro i x σ H' hx ⟨c3, B, a, S, rfl, sm, fB, hSO, hBl, e1, e2⟩
      obtain ⟨o, ho, rfl⟩ := map_at hx
      have hil := (List.getElem?_eq_some_iff.mp ho).1
      have hdr : os.drop i = o :: os.drop (i + 1) := by
        rw [List.drop_eq_getElem_cons hil]
        rw [(List.getElem?_eq_some_iff.mp ho).2]
      rw [hdr] at e1 e2
      dsimp only [gName, List.set]
      have hSa : IsS H' a S := fB.sts (a, S) (List.mem_append_right _ (List.mem_cons_self ..))
      have hat := fB.at_
      rw [rfs_app] at hat
      refine ⟨_, rfl, .inl ⟨rfl, _, SqL.of hat⟩, _, rfl, _, rfl, _, rfl, F0, _, -1, _, rfl, rfl, SqL.of hat, atI_last _ _, _, rfl, _, rfl, v, N, o, rfl, hv.same sm, hN, fun j hj H3 s3 => ?_, fun hno => ?_⟩
      · have sm3 := sm.trans s3
        refine ⟨v, .int (j : Nat), .int (j : Nat), N, a, S, rfl, hv.same sm3, hN, hSa.same s3, hSO, .int _, fun j' ej hm H4 p s4 hp => ?_, fun hbad => ?_⟩
        · have : j = j' := by
            injection ej with ej
            omega
          subst this
          rw [goF_go hj hm] at e1 e2
          have fB4 := fB.ext (s3.trans s4)
          refine ⟨F0, _, _, rfl, rfl, fB4.at_, ?_, ?_⟩
          · rw [rfs_len, List.length_append]
            exact small (by show B.length + 1 < _; omega)
          · refine ⟨_, B ++ [(a, S)], p, ledI N S j, rfl, Same.own (sm3.trans s4) fB.new, fB4.put (Sts.one hp), hSO.ledI j, by rw [List.length_append, hBl]; rfl, ?_, e2⟩
            rw [e1, sts_app, List.append_assoc]
            rfl
        · rw [goF_bad hj (hbad j rfl)] at e2
          exact BadE.mono (b := .st) (kN _ e2) sm3
      · rw [goF_no hno] at e2
        exact BadE.mono (b := .nn o) (kN _ e2) sm
    · rintro σ H' ⟨c3, B, a, S, rfl, sm, fB, hSO, hBl, e1, e2⟩
      rw [List.length_map, List.drop_length] at e1 e2
      refine ⟨_, rfl, F0, _, rfl, .inl ⟨SqL.of fB.at_, fun p hp => ?_⟩⟩
      refine kY e2 _ p (B ++ [(a, S)]) (sm.trans (same_upd hp)) upd_same (Sts.same fB.sts (same_upd hp)) ?_
      rw [e1, sts_app]
      rfl
abbrev s_run_state : Stmt := top 28
theorem sc_run_state : FnScope ["net", "names"] ["net", "names"] (defScope s_run_state) := ⟨rfl, rfl, rfl, by decide +kernel, rfl, by decide +kernel, by decide +kernel⟩
theorem ok_runst {f f_run_states : Addr} {fd fd1 : FuncData} (F : Fun K "run_state" "run_state" s_run_state f fd) (T : Tx mg) (d_run_states : Ok1 P w K mg base (L2.CX P w) 5 "run_states" ["net", "names"] (sp_runs CR CN) f_run_states fd1) : FnOk P w K mg base (L2.CX P w) 6 f fd ["net", "names"] (sp_runst CR CN) := by
  refine F.okX sc_run_state (fun vs H Q E h => ?_) (fun cdv A outer s H vs Q E hr h => ?_)
  · obtain ⟨v, N, t, os, rfl, _⟩ := h
    rfl
  · obtain ⟨v, N, t, os, rfl, hv, hN, ht, hl, kY, kN⟩ := h
    refine ⟨_, (pss_one (ps_ret (pe_ix ix_tup (pe_call d_run_states.ok (hr.mono (by decide)) rfl d_run_states.g d_run_states.kp d_run_states.b .nil (passes_call (takes_of rfl rfl rfl rfl) (fun _ _ _ _ h => h)) (pa_cons (pv 0) (pa_cons (pv 1) pa_nil))) (pe_un un_neg pe_int) (fun _ _ => rfl)))), ?_⟩
    refine ⟨_, rfl, _, rfl, v, N, t, os, rfl, hv, hN, ht, hl, fun hn H' p A s' hp hA eA => ?_, kN⟩
    obtain ⟨l, T', e1⟩ := goF_last N os (fstS N)
    rcases List.eq_nil_or_concat A with rfl | ⟨A', x, rfl⟩
    · rw [e1] at eA
      rw [show sts [] = [] from rfl] at eA
      cases (List.append_eq_nil_iff.mp eA.symm).2
    rw [List.concat_eq_append] at hp hA eA
    rw [rfs_app] at hp
    refine ⟨_, rfl, p, _, -1, _, rfl, rfl, SqT.of hp, atI_last _ _, kY hn _ x.1 x.2 s' (hA x (List.mem_append_right _ (List.mem_cons_self ..))) ?_⟩
    rw [← eA, sts_app]
    exact List.getLast?_concat
abbrev s_is_run : Stmt := top 29
theorem sc_is_run : FnScope ["net", "thing"] ["net", "thing"] (defScope s_is_run) := ⟨rfl, rfl, rfl, by decide +kernel, rfl, by decide +kernel, by decide +kernel⟩
theorem ok_isrun {f f_run_states : Addr} {fd fd1 : FuncData} (F : Fun K "is_run" "is_run" s_is_run f fd) (T : Tx mg) (TE : Tex P K mg CR fR ccR CN fN ccN CO) (TY : Tey K CR CN CO) (d_run_states : Ok1 P w K mg base (L2.CX P w) 5 "run_states" ["net", "names"] (sp_runs CR CN) f_run_states fd1) : FnOk P w K mg base CX0 6 f fd ["net", "thing"] sp_isrun := by
  refine F.ok sc_is_run (fun vs H Q E h => ?_) (fun cdv A outer s H vs Q E hr h => ?_)
  · obtain ⟨v, u, N, d, rfl, _⟩ := h
    rfl
  · obtain ⟨v, u, N, d, rfl, hv, hN, hd, k⟩ := h
    refine ⟨_, (pss_cons (ps_if (pt_not (pt_val (pe_callB call_isi (by rfl) T.n_isinstance (by decide +kernel) (pa_cons (pv 1) (pa_cons (pe_bltn (v := .ty "tuple") (by rfl) T.n_tuple (by decide +kernel) rfl) pa_nil))))) (pss_one (ps_ret pe_bl)) pss_nil)
      (pss_one (ps_try_many (tb := (fun W => tRet (tOp rEq (tCB (fun xs H Q => ∃ x n, xs = [x] ∧ LenV K x H n ∧ Q (V.int ((n : Nat) : Int)) H) (tCons (tCallS (sp_runs CR CN) (WE W) (tCons (tVar 0) (tCons (tVar 1) tNil))) tNil)) (tOp (rI0 fun i j => V.int (i + j)) (tCB (fun xs H Q => ∃ x n, xs = [x] ∧ LenV K x H n ∧ Q (V.int ((n : Nat) : Int)) H) (tCons (tVar 1) tNil)) (tC (V.int 1)))))) rfl rfl L2.takes0 (fun W pn xe tk _ => by exact (pss_one (ps_ret (pe_cmpR op_eq (pe_callB call_len (by rfl) T.n_len (by decide +kernel) (pa_cons (pe_callS d_run_states.ok (hr.mono (by decide)) rfl d_run_states.g d_run_states.kp d_run_states.b (fun σ => passAt tk σ) (pa_cons (pv 0) (pa_cons (pv 1) pa_nil))) pa_nil)) (pe_op op_add (pe_callB call_len (by rfl) T.n_len (by decide +kernel) (pa_cons (pv 1) pa_nil)) pe_int) (nomark _))))) (.cons ⟨rfl, by decide, .inl TE.g_NoName⟩ (fun a oe cls d pn _ _ => (pss_one (ps_ret pe_bl))) (.cons ⟨rfl, by decide, .inl TE.g_Refused⟩ (fun a oe cls d pn _ _ => (pss_one (ps_ret pe_bl))) .nil))))), ?_⟩
    refine ⟨_, rfl, u, .ty "tuple", _, _, _, rfl, .ty _, hd.ty, kit_tup d, _, rfl, ?_⟩
    rcases k with ⟨t, os, rfl, ht, hl, k⟩ | ⟨hnt, k⟩
    · have hT : isTup d = true := by
        cases hd with
        | tup => rfl
        | lst e _ =>
          rw [ht] at e
          cases e
        | dic e =>
          rw [ht] at e
          cases e
      rw [hT]
      refine iteF ?_
      refine ⟨_, rfl, _, rfl, v, N, t, os, rfl, hv, hN, ht, hl, fun hn H' p A s' hp hA eA => ?_, fun e he => ?_⟩
      · have e1 := goF_len hn
        rw [← eA, sts_len] at e1
        refine ⟨_, _, rfl, .inr ⟨_, SqT.of hp, rfl⟩, _, rfl, _, _, rfl, .inr ⟨_, SqT.of (s' _ _ ht), rfl⟩, _, _, rfl, rfl, rfl, ?_⟩
        have k2 := k H' s'
        rw [hn] at k2
        rw [decide_eq_true (by rw [rfs_len, List.length_map, e1]; rfl)]
        exact k2
      · have hk : ∀ H', Same H H' → Q (.bl false) H' := fun H' s' => by
          have := k H' s'
          rw [he] at this
          exact this
        cases e with
        | nn o =>
          intro H' e' s' _
          exact ⟨true, TY.nn, fun _ a ha => hk _ s', fun z => nomatch z⟩
        | st =>
          intro H' e' s' _
          exact ⟨false, TY.rn, (fun z => nomatch z), fun _ => ⟨true, TY.rr, fun _ a ha => hk _ s', fun z => nomatch z⟩⟩
    · have hT : isTup d = false := by
        cases d with
        | tuple ds => exact absurd rfl (hnt ds)
        | _ => rfl
      rw [hT]
      exact iteT k
abbrev s_last_fine : Stmt := top 30
theorem sc_last_fine : FnScope ["net", "names", "state", "at", "name"] ["net", "names"] (defScope s_last_fine) := ⟨rfl, rfl, rfl, by decide +kernel, rfl, by decide +kernel, by decide +kernel⟩
theorem ok_last {f f_first_state f_led f_step_named : Addr} {fd fd1 fd2 fd3 : FuncData} (F : Fun K "last_fine" "last_fine" s_last_fine f fd) (T : Tx mg) (TE : Tex P K mg CR fR ccR CN fN ccN CO) (TY : Tey K CR CN CO) (d_first_state : Ok1 P w K mg base CX0 1 "first_state" ["net"] sp_first f_first_state fd1) (d_led : Ok1 P w K mg base (L2.CX P w) 4 "led" ["net", "state", "index"] (sp_led CR) f_led fd2) (d_step_named : Ok1 P w K mg base (L2.CX P w) 2 "step_named" ["net", "name"] (sp_step CN) f_step_named fd3) : FnOk P w K mg base CX0 5 f fd ["net", "names"] sp_last := by
  refine F.ok sc_last_fine (fun vs H Q E h => ?_) (fun cdv A outer s H vs Q E hr h => ?_)
  · obtain ⟨v, N, t, os, rfl, _⟩ := h
    rfl
  · obtain ⟨v, N, t, os, rfl, hv, hN, ht, hl, k⟩ := h
    refine ⟨_, (pss_cons (ps_set (i := 2) sc_last_fine.nd rfl (Or.inl rfl) (pe_call d_first_state.ok (hr.mono (by decide)) rfl d_first_state.g d_first_state.kp d_first_state.b .nil pass0 (pa_cons (pv 0) pa_nil)))
      (pss_cons (ps_for PassesOwn.never rfl (pi_enumT (by rfl) T.n_enumerate (pa_cons (pv 1) pa_nil)) (pg_tup rfl (pgs_cons (pg_name (i := 3) sc_last_fine.nd rfl (Or.inl rfl)) (pgs_cons (pg_name (i := 4) sc_last_fine.nd rfl (Or.inl rfl)) pgs_nil))) (pss_one (ps_try_many (tb := (fun W => tAsg (tCallS (sp_led CR) (WE W) (tCons (tVar 0) (tCons (tVar 2) (tCons (tCallS (sp_step CN) (WE W) (tCons (tVar 0) (tCons (tVar 4) tNil))) tNil)))) (gName 2))) rfl rfl L2.takes0 (fun W pn xe tk _ => by exact (pss_one (ps_set (i := 2) sc_last_fine.nd rfl (Or.inl rfl) (pe_callS d_led.ok (hr.mono (by decide)) rfl d_led.g d_led.kp d_led.b (fun σ => passAt tk σ) (pa_cons (pv 0) (pa_cons (pv 2) (pa_cons (pe_callS d_step_named.ok (hr.mono (by decide)) rfl d_step_named.g d_step_named.kp d_step_named.b (fun σ => passAt tk σ) (pa_cons (pv 0) (pa_cons (pv 4) pa_nil))) pa_nil))))))) (.cons ⟨rfl, by decide, .inl TE.g_NoName⟩ (fun a oe cls d pn _ _ => (pss_one (ps_ret (pv 3)))) (.cons ⟨rfl, by decide, .inl TE.g_Refused⟩ (fun a oe cls d pn _ _ => (pss_one (ps_ret (pv 3)))) .nil)))))
      (pss_one (ps_ret (pe_callB call_len (by rfl) T.n_len (by decide +kernel) (pa_cons (pv 1) pa_nil)))))), ?_⟩
    refine ⟨_, rfl, v, N, rfl, hv, hN, fun H1 a1 s1 ha1 => ?_⟩
    refine ⟨_, rfl, t, _, rfl, SqT.of (s1 _ _ ht), ?_⟩
    refine for_it (tb := fun D σ H => tAsg (tCallS (sp_led CR) (WE (wMany K (fun _ _ _ _ => False) D [(.ref CN, fun a cls d => tRet (tVar 3)), (.ref CR, fun a cls d => tRet (tVar 3))])) (tCons (tVar 0) (tCons (tVar 2) (tCons (tCallS (sp_step CN) (WE (wMany K (fun _ _ _ _ => False) D [(.ref CN, fun a cls d => tRet (tVar 3)), (.ref CR, fun a cls d => tRet (tVar 3))])) (tCons (tVar 0) (tCons (tVar 4) tNil))) tNil)))) (gName 2) D σ H) walk_enumT (fun i σ H' => ∃ (c3 c4 : Option V) (a : Addr) (S : Sta), σ = [some v, some (.ref t), some (.ref a), c3, c4] ∧ Same H H' ∧ IsS H' a S ∧ SOk N S ∧ (goF N (fstS N) os).1.length = i + (goF N S (os.drop i)).1.length ∧ (goF N (fstS N) os).2 = (goF N S (os.drop i)).2)
      ⟨none, none, a1, fstS N, rfl, s1, ha1, SOk.fst hN, by rw [Nat.zero_add]; rfl, rfl⟩ (fun i σ H' _ ⟨c3, c4, a, S, _, sm, _⟩ => SqT.of (sm _ _ ht)) ?_ ?_
    · rintro i x σ H' H'' hi ⟨c3, c4, a, S, rfl, sm, hSa, hSO, e1, e2⟩ hy
      obtain ⟨T, x1, x2, rfl, hT, rfl, y1, y2⟩ := hy
      cases (Option.some.inj y1)
      obtain ⟨o, ho, rfl⟩ := map_at y2
      have hil := (List.getElem?_eq_some_iff.mp ho).1
      have hdr : os.drop i = o :: os.drop (i + 1) := by
        rw [List.drop_eq_getElem_cons hil]
        rw [(List.getElem?_eq_some_iff.mp ho).2]
      rw [hdr] at e1 e2
      have sx := sm.trans (same_upd (o := .tup [.int (i : Nat), nmV o]) hT)
      have hSx := hSa.same (same_upd (o := .tup [.int (i : Nat), nmV o]) hT)
      refine ⟨T, _, rfl, SqT.of upd_same, rfl, _, _, rfl, _, _, rfl, rfl, ?_⟩
      dsimp only [gName, List.set]
      generalize upd H' T (.tup [.int (i : Nat), nmV o]) = H2 at sx hSx ⊢
      have out : (goF N S (o :: os.drop (i + 1))).1 = [S] → ∀ H3, Same H2 H3 → Q (.int (i : Nat)) H3 := fun e0 H3 s3 => by
        have := k H3 (sx.trans s3)
        rw [e1, e0] at this
        exact this
      refine ⟨_, rfl, _, rfl, _, rfl, _, rfl, v, N, o, rfl, hv.same sx, hN, fun j hj H3 s3 => ?_, fun hno => ?_⟩
      · have sm3 := sx.trans s3
        refine ⟨v, .int (j : Nat), .int (j : Nat), N, a, S, rfl, hv.same sm3, hN, hSx.same s3, hSO, .int _, fun j' ej hm H4 p s4 hp => ?_, fun hbad => ?_⟩
        · have : j = j' := by
            injection ej with ej
            omega
          subst this
          rw [goF_go hj hm] at e1 e2
          refine ⟨_, _, p, ledI N S j, rfl, sm3.trans s4, hp, hSO.ledI j, ?_, e2⟩
          rw [e1, List.length_cons]
          omega
        · intro H4 e' s4 _
          have e0 := goF_bad (os := os.drop (i + 1)) hj (hbad j rfl)
          exact ⟨false, TY.rn, (fun z => nomatch z), fun _ => ⟨true, TY.rr, fun _ a ha => ⟨_, rfl, out (by rw [e0]) _ (s3.trans s4)⟩, fun z => nomatch z⟩⟩
      · intro H4 e' s4 _
        have e0 := goF_no (N := N) (S := S) (os := os.drop (i + 1)) hno
        exact ⟨true, TY.nn, fun _ a ha => ⟨_, rfl, out (by rw [e0]) _ s4⟩, fun z => nomatch z⟩
    · rintro σ H' ⟨c3, c4, a, S, rfl, sm, hSa, hSO, e1, e2⟩
      rw [List.length_map, List.drop_length] at e1 e2
      refine ⟨_, rfl, _, _, rfl, .inr ⟨_, SqT.of (sm _ _ ht), rfl⟩, ?_⟩
      have := k H' sm
      rw [e1] at this
      rw [List.length_map]
      exact this
end
end Net
namespace Net
open PySem PySem.Spec PyProof.Rows L2 SDx
theorem eqv_ints : ∀ a b : List Int, PyData.eqvAll (a.map PyData.int) (b.map PyData.int) = decide (a = b)
  | [], [] => by rw [List.map_nil, PyData.eqvAll, decide_eq_true rfl]
  | [], y :: b => by
    rw [List.map_nil, List.map_cons, PyData.eqvAll, decide_eq_false (by simp)]
  | x :: a, [] => by
    rw [List.map_nil, List.map_cons, PyData.eqvAll, decide_eq_false (by simp)]
  | x :: a, y :: b => by
    rw [List.map_cons, List.map_cons, PyData.eqvAll, eqv_ints a b, PyData.eqv]
    by_cases e : x = y
    · subst e
      by_cases f : a = b
      · subst f
        simp
      · rw [decide_eq_false f, decide_eq_false (by simpa using f), Bool.and_false]
    · rw [show decide (x :: a = y :: b) = false from decide_eq_false (fun z => e (List.cons.inj z).1), show (x == y) = false from beq_eq_false_iff_ne.mpr e, Bool.false_and]
theorem eqv_sta (S T : Sta) : PyData.eqv (staD S) (staD T) = decide (S = T) := by
  obtain ⟨a, b⟩ := S
  obtain ⟨c, d⟩ := T
  unfold staD
  rw [PyData.eqv, PyData.eqvAll, PyData.eqvAll, PyData.eqvAll, PyData.eqv, PyData.eqv, eqv_ints, eqv_ints]
  have e : decide ((a, b) = (c, d)) = (decide (a = c) && decide (b = d)) := by
    by_cases e : a = c
    · by_cases f : b = d
      · rw [decide_eq_true e, decide_eq_true f, decide_eq_true (by rw [e, f])]
        rfl
      · rw [decide_eq_false f, Bool.and_false, decide_eq_false (fun z => f (by injection z))]
    · rw [decide_eq_false e, Bool.false_and, decide_eq_false (fun z => e (by injection z))]
  rw [e, Bool.and_true]
theorem lay_ints : ∀ a : List Int, PyData.canLayAll0 (a.map PyData.int) = true
  | [] => by rw [List.map_nil, PyData.canLayAll0]
  | x :: a => by rw [List.map_cons, PyData.canLayAll0, lay_ints a, PyData.canLay0]; rfl
theorem depth_ints : ∀ a : List Int, PyData.depthAll (a.map PyData.int) ≤ 1
  | [] => by rw [List.map_nil, PyData.depthAll]; omega
  | x :: a => by
    have := depth_ints a
    rw [List.map_cons, PyData.depthAll, PyData.depth]
    omega
theorem shp_sta (S : Sta) : SeqAt.shaped (staD S) = true := by
  have h1 := depth_ints S.1
  have h2 := depth_ints S.2
  unfold SeqAt.shaped staD
  rw [PyData.canLay0, PyData.canLayAll0, PyData.canLayAll0, PyData.canLayAll0, PyData.canLay0, PyData.canLay0, lay_ints, lay_ints, PyData.depth, PyData.depthAll, PyData.depthAll, PyData.depthAll, PyData.depth, PyData.depth]
  rw [decide_eq_true (by omega)]
  rfl
theorem dpall_ints {K : PySem.W.Frag} {H : Hp} : ∀ a : List Int, DpAll K H (a.map V.int) (a.map PyData.int)
  | [] => .nil
  | x :: a => .cons (.int x) (dpall_ints a)
theorem dp_sta {K : PySem.W.Frag} {H : Hp} {a : Addr} {S : Sta} (h : IsS H a S) : Dp K H (.ref a) (staD S) := by
  obtain ⟨t1, t2, h0, h1, h2⟩ := h
  exact .tup (SqT.of h0) (.cons (.tup (SqT.of h1) (dpall_ints _)) (.cons (.tup (SqT.of h2) (dpall_ints _)) .nil))
theorem eq_sta {K : PySem.W.Frag} {H : Hp} {a b : Addr} {S T : Sta} {Q : VK} (ha : IsS H a S) (hb : IsS H b T) (q : Q (.bl (decide (S = T))) H) : rEqD K (.ref a) (.ref b) H Q := by
  refine ⟨staD S, staD T, dp_sta ha, dp_sta hb, shp_sta S, shp_sta T, ?_⟩
  rw [eqv_sta]
  exact q
abbrev WS := List Nat × Sta
def wnews (seen : List Sta) : List WS → List WS
  | [] => []
  | q :: qs => if q.2 ∈ seen then wnews seen qs else q :: wnews (seen ++ [q.2]) qs
theorem wnews_cons (seen : List Sta) (q : WS) (qs : List WS) : wnews seen (q :: qs) = if q.2 ∈ seen then wnews seen qs else q :: wnews (seen ++ [q.2]) qs := rfl
def stp1 (N : NetT) (q : WS) : List WS := (waysS N q.2).map fun r => (q.1 ++ [r.1], r.2)
def wnx (N : NetT) (found : List Sta) (level : List WS) : List WS := wnews found (level.flatMap (stp1 N))
def wbfs (N : NetT) (p : Sta → Bool) : Nat → List Sta → List WS → Option (List Nat)
  | 0, _, _ => none
  | n + 1, found, level => if level = [] then none else match level.filter (fun q => p q.2) with
    | q :: _ => some q.1
    | [] => wbfs N p n (found ++ (wnx N found level).map (·.2)) (wnx N found level)
def wayF (N : NetT) (p : Sta → Bool) (S : Sta) : Option (List Nat) := wbfs N p 300 [S] [([], S)]
theorem wnews_app (seen : List Sta) (a b : List WS) : wnews seen (a ++ b) = wnews seen a ++ wnews (seen ++ (wnews seen a).map (·.2)) b := by
  induction a generalizing seen with
  | nil => rw [List.nil_append, show wnews seen [] = [] from rfl, List.nil_append, List.map_nil, List.append_nil]
  | cons t a ih =>
    rw [List.cons_append, wnews_cons, wnews_cons seen t a]
    by_cases m : t.2 ∈ seen
    · rw [if_pos m, if_pos m, ih]
    · rw [if_neg m, if_neg m, ih, List.cons_append, List.map_cons, List.append_assoc, List.singleton_append]
theorem wnews_one (seen : List Sta) (a : List WS) (t : WS) : wnews seen (a ++ [t]) = if t.2 ∈ seen ++ (wnews seen a).map (·.2) then wnews seen a else wnews seen a ++ [t] := by
  rw [wnews_app]
  show wnews seen a ++ (if t.2 ∈ seen ++ (wnews seen a).map (·.2) then [] else [t]) = _
  by_cases m : t.2 ∈ seen ++ (wnews seen a).map (·.2)
  · rw [if_pos m, if_pos m, List.append_nil]
  · rw [if_neg m, if_neg m]
theorem wnews_mem {seen : List Sta} {a : List WS} {t : WS} (h : t ∈ wnews seen a) : t ∈ a := by
  induction a generalizing seen with
  | nil => cases h
  | cons x a ih =>
    rw [wnews_cons] at h
    by_cases m : x.2 ∈ seen
    · rw [if_pos m] at h
      exact List.mem_cons_of_mem _ (ih h)
    · rw [if_neg m] at h
      rcases List.mem_cons.mp h with rfl | h
      · exact List.mem_cons_self ..
      · exact List.mem_cons_of_mem _ (ih h)
theorem wnews_len (seen : List Sta) (a : List WS) : (wnews seen a).length ≤ a.length := by
  induction a generalizing seen with
  | nil => exact Nat.le_refl _
  | cons x a ih =>
    rw [wnews_cons]
    by_cases m : x.2 ∈ seen
    · rw [if_pos m]
      exact Nat.le_succ_of_le (ih _)
    · rw [if_neg m]
      exact Nat.succ_le_succ (ih _)
theorem wnews_nodup {seen : List Sta} {a : List WS} (h : seen.Nodup) : (seen ++ (wnews seen a).map (·.2)).Nodup := by
  induction a generalizing seen with
  | nil => simpa [wnews] using h
  | cons x a ih =>
    rw [wnews_cons]
    by_cases m : x.2 ∈ seen
    · rw [if_pos m]
      exact ih h
    · rw [if_neg m]
      have h2 : (seen ++ [x.2]).Nodup := by
        rw [List.nodup_append]
        exact ⟨h, by simp, fun a ha b hb e => by
          rw [List.mem_singleton] at hb
          subst hb
          subst e
          exact m ha⟩
      have := ih h2
      rw [List.append_assoc] at this
      exact this
theorem stp1_snd (N : NetT) (q : WS) : (stp1 N q).map (·.2) = nxts N q.2 := by
  unfold stp1
  rw [List.map_map, ← waysS_snd]
  rfl
theorem stp1_len {N : NetT} (q : WS) (h : NOk N) : (stp1 N q).length ≤ 100 := by
  have := nxts_len q.2 h
  rw [← stp1_snd, List.length_map] at this
  exact this
theorem flatw_len {N : NetT} (l : List WS) (h : NOk N) : (l.flatMap (stp1 N)).length ≤ 100 * l.length := by
  induction l with
  | nil => exact Nat.le_refl _
  | cons x l ih =>
    have := stp1_len x h
    rw [List.flatMap_cons, List.length_append, List.length_cons]
    omega
structure Clo (N : NetT) (M : List Sta) : Prop where
  ok : oks N M
  cl : ∀ S ∈ M, ∀ T ∈ nxts N S, T ∈ M
theorem wnx_in {N : NetT} {M found : List Sta} {level : List WS} (c : Clo N M) (h : ∀ q ∈ level, q.2 ∈ M) : ∀ q ∈ wnx N found level, q.2 ∈ M := fun q hq => by
  have h1 := wnews_mem hq
  obtain ⟨x, hx, hq2⟩ := List.mem_flatMap.mp h1
  refine c.cl x.2 (h x hx) q.2 ?_
  rw [← stp1_snd]
  exact List.mem_map.mpr ⟨q, hq2, rfl⟩
theorem nodup_len : ∀ {a b : List Sta}, a.Nodup → (∀ x ∈ a, x ∈ b) → a.length ≤ b.length
  | [], _, _, _ => Nat.zero_le _
  | x :: a, b, h, s => by
    rw [List.nodup_cons] at h
    have hx := s x (List.mem_cons_self ..)
    have := nodup_len (a := a) (b := b.erase x) h.2 fun y hy => (List.mem_erase_of_ne (fun e : y = x => h.1 (e ▸ hy))).mpr (s y (List.mem_cons_of_mem _ hy))
    rw [List.length_erase_of_mem hx] at this
    have hp := List.length_pos_of_mem hx
    rw [List.length_cons]
    omega
end Net
namespace Net
open PySem PySem.Spec PyProof.Rows L2 SDx NetR LamX LamO
def nmAt (N : NetT) (i : Nat) : Str := match N.steps[i]? with
  | some s => s.nm
  | none => ""
def commB (N : NetT) (S : Sta) (i j : Nat) : Bool := mayI N S i && mayI N S j && (mayI N (ledI N S i) j && mayI N (ledI N S j) i) && decide (ledI N (ledI N S i) j = ledI N (ledI N S j) i)
def sp_names : Sp := fun vs H Q _ => ∃ (v : V) (N : NetT) (t : Addr) (l : List Nat), vs = [v, .ref t] ∧ IsNet H v N ∧ NOk N ∧ H t = some (.tup (intsV l)) ∧ l.length ≤ 1000 ∧ (∀ i ∈ l, i < N.steps.length) ∧ ∀ H' p, Same H H' → H' p = some (.tup ((l.map (nmAt N)).map V.str)) → Q (.ref p) H'
def sp_comm : Sp := fun vs H Q _ => ∃ (v : V) (N : NetT) (a : Addr) (S : Sta) (i j : Nat), vs = [v, .ref a, .int i, .int j] ∧ IsNet H v N ∧ NOk N ∧ IsS H a S ∧ SOk N S ∧ i < N.steps.length ∧ j < N.steps.length ∧ ∀ H', Same H H' → Q (.bl (commB N S i j)) H'
def IsWy (H : Hp) (v : V) (q : WS) : Prop := ∃ t b c : Addr, v = .ref t ∧ H t = some (.tup [.ref b, .ref c]) ∧ H b = some (.tup (intsV q.1)) ∧ IsS H c q.2
theorem IsWy.sk {H H' : Hp} {v : V} {q : WS} (h : IsWy H v q) (s : SK H H') : IsWy H' v q := by
  obtain ⟨t, b, c, e, h1, h2, h3⟩ := h
  exact ⟨t, b, c, e, s.tup h1, s.tup h2, IsS.sk h3 s⟩
def TTway : List V → (V → Hp → VK → Prop) → Hp → VK → Prop := fun vs tl H Q => ∃ (v : V) (a : Addr) (N : NetT) (S : Sta) (M : List Sta) (p : Sta → Bool), vs = [v, .ref a] ∧ IsNet H v N ∧ NOk N ∧ IsS H a S ∧ Clo N M ∧ S ∈ M ∧ M.length ≤ 200 ∧
  (∀ (H' : Hp) (b : Addr) (T : Sta), Same H H' → IsS H' b T → SOk N T → ∀ Q' : VK, (∀ H'', Same H' H'' → Q' (.bl (p T)) H'') → tl (.ref b) H' Q') ∧
  (wayF N p S = none → ∀ H', Same H H' → Q .non H') ∧ (∀ l, wayF N p S = some l → ∀ H' r, Same H H' → H' r = some (.tup (intsV l)) → Q (.ref r) H')
section
variable {P : Program} {w : World} {K : PySem.W.Frag} {mg : Str → Option Value} {base : Heap}
abbrev s_names_of : Stmt := top 32
theorem sc_names_of : FnScope ["net", "indexes", "index"] ["net", "indexes"] (defScope s_names_of) := ⟨rfl, rfl, rfl, by decide +kernel, rfl, by decide +kernel, by decide +kernel⟩
theorem ok_names {f : Addr} {fd : FuncData} (F : Fun K "names_of" "names_of" s_names_of f fd) (T : Tx mg) : FnOk P w K mg base CX0 1 f fd ["net", "indexes"] sp_names := by
  refine F.ok sc_names_of (fun vs H Q E h => ?_) (fun cdv A outer s H vs Q E hr h => ?_)
  · obtain ⟨v, N, t, l, rfl, _⟩ := h
    rfl
  · obtain ⟨v, N, t, l, rfl, hv, hN, ht, hl, hi, k⟩ := h
    refine ⟨_, (pss_one (ps_ret (pe_callTy call_tuple_of (by rfl) T.n_tuple (by decide +kernel) (pa_cons (pe_lc (own := [("index", 2)]) (g := gName 2) (tt := tYes) rfl sc_names_of.nd (pi_tup (pv 1)) (blkOk_by (N := ["net", "indexes", "index"]) (sc := defScope s_names_of) (by decide +kernel)) (fun _ _ _ _ _ => pg_name (i := 2) sc_names_of.nd rfl (Or.inl rfl)) (fun _ _ _ _ _ => pts_nil) (fun _ _ _ _ _ => (pe_ix (show IxR _ (rIxT K) from ix_tup) (pe_ix (show IxR _ (rIxT K) from ix_tup) (pe_ix (show IxR _ (rIxT K) from ix_tup) (pv 0) pe_int (fun _ _ => rfl)) (pv 2) (fun _ _ => rfl)) pe_int (fun _ _ => rfl)))) pa_nil)))), ?_⟩
    obtain ⟨na, np, nn, nt, sx, rfl, h0, h1, h2, h3, h4⟩ := id hv
    refine ⟨_, rfl, t, rfl, ⟨_, SqT.of ht⟩, fun D hD => lc_tup (K := K) (a := t) (xs := intsV l) (fun i H' => Fill H D (((l.map (nmAt N)).take i).map V.str) H') (.start hD) (fun i H' _ fl => SqT.of (fl.same _ _ ht)) ?_ ?_⟩
    · intro i x H' hx fl
      obtain ⟨j, hj, rfl⟩ := map_at hx
      have hjl := hi j (List.mem_of_getElem? hj)
      have hil := (List.getElem?_eq_some_iff.mp hj).1
      have hst : N.steps[j]? = some N.steps[j] := List.getElem?_eq_getElem hjl
      generalize N.steps[j] = s1 at hst
      obtain ⟨sv, hsv, sa, si, so, st, se, rfl, g0, g1, g2, g3, g4⟩ := paired_get h4 hst
      refine ⟨rfl, _, rfl, na, _, 3, _, rfl, rfl, SqT.of (fl.same _ _ h0), rfl, _, rfl, nt, _, _, _, rfl, rfl, SqT.of (fl.same _ _ h3), atI_nat hsv, sa, _, 0, _, rfl, rfl, SqT.of (fl.same _ _ g0), rfl, _, fl.at_, ?_, fl.add ?_⟩
      · refine small ?_
        rw [List.length_map, List.length_take]
        omega
      · rw [take_add (show (l.map (nmAt N))[i]? = some s1.nm by
          rw [List.getElem?_map, hj]
          show some (nmAt N j) = _
          unfold nmAt
          rw [hst]), List.map_append]
        rfl
    · intro H' fl
      rw [show (intsV l).length = (l.map (nmAt N)).length by unfold intsV; rw [List.length_map, List.length_map], List.take_length] at fl
      refine ⟨D, _, rfl, .inl ⟨SqL.of fl.at_, fun p hp => ?_⟩⟩
      exact k _ p (fl.same.trans (same_upd hp)) upd_same
abbrev s_do_commute : Stmt := top 35
theorem sc_do_commute : FnScope ["net", "state", "one", "other", "first", "second"] ["net", "state", "one", "other"] (defScope s_do_commute) := ⟨rfl, rfl, rfl, by decide +kernel, rfl, by decide +kernel, by decide +kernel⟩
theorem ok_comm {f f_may_do f_behind : Addr} {fd fd1 fd2 : FuncData} (F : Fun K "do_commute" "do_commute" s_do_commute f fd) (T : Tx mg) (d_may_do : Ok1 P w K mg base CX0 3 "may_do" ["net", "state", "index"] sp_may f_may_do fd1) (d_behind : Ok1 P w K mg base CX0 2 "behind" ["net", "state", "index"] sp_behind f_behind fd2) : FnOk P w K mg base CX0 4 f fd ["net", "state", "one", "other"] sp_comm := by
  refine F.ok sc_do_commute (fun vs H Q E h => ?_) (fun cdv A outer s H vs Q E hr h => ?_)
  · obtain ⟨v, N, a, S, i, j, rfl, _⟩ := h
    rfl
  · obtain ⟨v, N, a, S, i, j, rfl, hv, hN, hS, hSO, hi, hj, k⟩ := h
    refine ⟨_, (pss_cons (ps_if (PW.pt (pw_or (pt_not (pt_val (pe_call d_may_do.ok (hr.mono (by decide)) rfl d_may_do.g d_may_do.kp d_may_do.b .nil pass0 (pa_cons (pv 0) (pa_cons (pv 1) (pa_cons (pv 2) pa_nil)))))) (pw_or1 (pt_not (pt_val (pe_call d_may_do.ok (hr.mono (by decide)) rfl d_may_do.g d_may_do.kp d_may_do.b .nil pass0 (pa_cons (pv 0) (pa_cons (pv 1) (pa_cons (pv 3) pa_nil))))))))) (pss_one (ps_ret pe_bl)) pss_nil)
      (pss_cons (ps_par (i := 4) (j := 5) (by rfl) sc_do_commute.nd rfl rfl (by decide) rfl rfl (pa_cons (pe_call d_behind.ok (hr.mono (by decide)) rfl d_behind.g d_behind.kp d_behind.b .nil pass0 (pa_cons (pv 0) (pa_cons (pv 1) (pa_cons (pv 2) pa_nil)))) (pa_cons (pe_call d_behind.ok (hr.mono (by decide)) rfl d_behind.g d_behind.kp d_behind.b .nil pass0 (pa_cons (pv 0) (pa_cons (pv 1) (pa_cons (pv 3) pa_nil)))) pa_nil)) (by rfl))
      (pss_cons (ps_if (PW.pt (pw_or (pt_not (pt_val (pe_call d_may_do.ok (hr.mono (by decide)) rfl d_may_do.g d_may_do.kp d_may_do.b .nil pass0 (pa_cons (pv 0) (pa_cons (pv 4) (pa_cons (pv 3) pa_nil)))))) (pw_or1 (pt_not (pt_val (pe_call d_may_do.ok (hr.mono (by decide)) rfl d_may_do.g d_may_do.kp d_may_do.b .nil pass0 (pa_cons (pv 0) (pa_cons (pv 5) (pa_cons (pv 2) pa_nil))))))))) (pss_one (ps_ret pe_bl)) pss_nil)
      (pss_one (ps_ret (pe_cmpR (op_eqD hr.units) (pe_call d_behind.ok (hr.mono (by decide)) rfl d_behind.g d_behind.kp d_behind.b .nil pass0 (pa_cons (pv 0) (pa_cons (pv 4) (pa_cons (pv 3) pa_nil)))) (pe_call d_behind.ok (hr.mono (by decide)) rfl d_behind.g d_behind.kp d_behind.b .nil pass0 (pa_cons (pv 0) (pa_cons (pv 5) (pa_cons (pv 2) pa_nil)))) (nomark _))))))), ?_⟩
    have fls : ∀ {b : Bool} {H'}, commB N S i j = b → Same H H' → Q (.bl b) H' := fun e s' => by
      rw [← e]
      exact k _ s'
    refine ⟨_, rfl, _, rfl, _, rfl, v, N, a, S, i, rfl, hv, hN, hS, hSO, hi, fun H1 e1 => ⟨_, rfl, ?_⟩⟩
    cases m1 : mayI N S i with
    | false => exact iteT (iteT (fls (by unfold commB; rw [m1]; rfl) e1))
    | true =>
      refine iteF ⟨_, rfl, _, rfl, _, rfl, v, N, a, S, j, rfl, hv.same e1, hN, hS.same e1, hSO, hj, fun H2 e2 => ⟨_, rfl, ?_⟩⟩
      have e12 := e1.trans e2
      cases m2 : mayI N S j with
      | false => exact iteT (fls (by unfold commB; rw [m1, m2]; rfl) e12)
      | true =>
        refine iteF ?_
        refine ⟨_, rfl, _, rfl, _, rfl, v, N, a, S, i, rfl, hv.same e12, hN, hS.same e12, hSO, hi, fun H3 p3 e3 hp3 => ?_⟩
        have e13 := e12.trans e3
        refine ⟨_, rfl, _, rfl, _, rfl, v, N, a, S, j, rfl, hv.same e13, hN, hS.same e13, hSO, hj, fun H4 p4 e4 hp4 => ⟨_, _, rfl, ?_⟩⟩
        have e14 := e13.trans e4
        have hq3 := hp3.same e4
        refine ⟨_, rfl, _, rfl, _, rfl, v, N, p3, ledI N S i, j, rfl, hv.same e14, hN, hq3, hSO.ledI i, hj, fun H5 e5 => ⟨_, rfl, ?_⟩⟩
        have e15 := e14.trans e5
        cases m3 : mayI N (ledI N S i) j with
        | false => exact iteT (iteT (fls (by unfold commB; rw [m1, m2, m3]; rfl) e15))
        | true =>
          refine iteF ⟨_, rfl, _, rfl, _, rfl, v, N, p4, ledI N S j, i, rfl, hv.same e15, hN, hp4.same e5, hSO.ledI j, hi, fun H6 e6 => ⟨_, rfl, ?_⟩⟩
          have e16 := e15.trans e6
          cases m4 : mayI N (ledI N S j) i with
          | false => exact iteT (fls (by unfold commB; rw [m1, m2, m3, m4]; rfl) e16)
          | true =>
            refine iteF ?_
            refine ⟨_, rfl, _, rfl, _, rfl, v, N, p3, ledI N S i, j, rfl, hv.same e16, hN, hq3.same (e5.trans e6), hSO.ledI i, hj, fun H7 p7 e7 hp7 => ?_⟩
            have e17 := e16.trans e7
            refine ⟨_, rfl, _, rfl, _, rfl, v, N, p4, ledI N S j, i, rfl, hv.same e17, hN, hp4.same ((e5.trans e6).trans e7), hSO.ledI j, hi, fun H8 p8 e8 hp8 => ?_⟩
            refine eq_sta (hp7.same e8) hp8 (fls ?_ (e17.trans e8))
            unfold commB
            rw [m1, m2, m3, m4]
            rfl
end
section
variable {X : Cx}
abbrev s_way_between : Stmt := top 31
theorem sc_way_between : FnScope ["net", "state", "fits", "found", "level", "good", "later", "way", "here", "index", "there"] ["net", "state", "fits"] (defScope s_way_between) := ⟨rfl, rfl, rfl, by decide +kernel, rfl, by decide +kernel, by decide +kernel⟩
theorem way_gives {q : Str} {g f_ways_from : Addr} {cdg : Value} {fd1 : FuncData} (T : Tx X.mg) (d : Ok1 X.prog X.w X.K X.mg X.base C8.CX0 5 "ways_from" ["net", "state"] sp_ways f_ways_from fd1) :
    GivesTo1 X 6 3 ["net", "state", "fits", "found", "level", "good", "later", "way", "here", "index", "there"] "way_between" (defScope s_way_between) g cdg (defBody s_way_between) "fits" q TTway := by
  intro B f c' s H Q vs tl m hb hz hr act hc h
  have d_ways_from : Ok1 X.prog X.w X.K X.mg B C8.CX0 5 "ways_from" ["net", "state"] sp_ways f_ways_from fd1 := ⟨d.g, d.kp, d.b, fn_base d.ok m hb hz⟩
  obtain ⟨v, a, N, S, M, p, rfl, hv, hN, hS, hM, hSM, hMl, hp, k0, k1⟩ := h
  refine ⟨_, (pss_cons (ps_par (i := 3) (j := 4) (by rfl) sc_way_between.nd rfl rfl (by decide) rfl rfl (pa_cons (SDx.pe_dispS hr.units (pv 1) pe_bl) (pa_cons (pe_lst (pa_cons (pe_tup (pa_cons (pe_tup pa_nil) (pa_cons (pv 1) pa_nil))) pa_nil)) pa_nil)) (by rfl))
      (pss_cons (ps_while PassesOwn.never (pt_truth (pv 4) (by intro _; rfl)) (pss_cons (ps_setLc (i := 5) (own := [("way", 7), ("here", 8)]) (g := (gTup (Cx.K X) 2 (gCons (gName 7) (gCons (gName 8) gNil)))) (tt := (tB (fun σZ HZ Q => σZ[2]? = some (some (.ref f)) ∧ tVar 8 σZ HZ fun v H1 => H1 c' = some (CodeO c' q) ∧ tl v H1 Q))) (te := (tVar 7)) rfl sc_way_between.nd rfl rfl (sw_true rfl rfl rfl (by decide +kernel)) (pi_list (pv 4)) (blkOk_by (N := ["net", "state", "fits", "found", "level", "good", "later", "way", "here", "index", "there"]) (sc := defScope s_way_between) (by decide +kernel)) (fun _ _ _ _ _ => by exact pg_tup rfl (pgs_cons (pg_name (i := 7) sc_way_between.nd rfl (Or.inl rfl)) (pgs_cons (pg_name (i := 8) sc_way_between.nd rfl (Or.inl rfl)) pgs_nil))) (fun _ _ _ _ _ => by exact pts_one (pt_val (act _ _ (tVar 8) _ _ 2 rfl rfl rfl rfl rfl (hr.mono (by decide)) (pv 8) rfl (.inr (.inl rfl)) rfl rfl))) (fun _ _ _ _ _ => by exact (pv 7)))
      (pss_cons (ps_if (pt_truth (pv 5) (by intro _; rfl)) (pss_one (ps_ret (pe_ix ix_list (pv 5) pe_int (fun _ _ => rfl)))) pss_nil)
      (pss_cons (ps_set (i := 6) sc_way_between.nd rfl (Or.inl rfl) (pe_lst pa_nil))
      (pss_cons (ps_for PassesOwn.never rfl (pi_list (pv 4)) (pg_tup rfl (pgs_cons (pg_name (i := 7) sc_way_between.nd rfl (Or.inl rfl)) (pgs_cons (pg_name (i := 8) sc_way_between.nd rfl (Or.inl rfl)) pgs_nil))) (pss_one (ps_for PassesOwn.never rfl (pi_list (pe_call d_ways_from.ok (hr.mono (by decide)) rfl d_ways_from.g d_ways_from.kp d_ways_from.b .nil pass0 (pa_cons (pv 0) (pa_cons (pv 8) pa_nil)))) (pg_tup rfl (pgs_cons (pg_name (i := 9) sc_way_between.nd rfl (Or.inl rfl)) (pgs_cons (pg_name (i := 10) sc_way_between.nd rfl (Or.inl rfl)) pgs_nil))) (pss_one (ps_if (pt_cmpR (SDx.op_notInS hr.units) (pv 10) (pv 3) (by rfl)) (pss_cons (SDx.ps_putS hr.units (pv 3) (pv 10) pe_bl rfl)
      (pss_one (ps_expr (pe_bm PySem.F.plainAttrs_list PySem.F.slot_list_append PySem.F.type_list_append mt_append (pv 6) (pa_cons (pe_tup (pa_cons (pe_tup (StX.pa_star (pv 7) (pa_cons (pv 9) pa_nil))) (pa_cons (pv 10) pa_nil))) pa_nil))))) pss_nil)))))
      (pss_one (ps_set (i := 4) sc_way_between.nd rfl (Or.inl rfl) (pv 6))))))))
      (pss_one (ps_ret pe_non)))), ?_⟩
  have hSO := hM.ok S hSM
  refine fun F0 hF0 => ?_
  have s0 := same_upd (o := SDO X.prog X.w F0 []) hF0
  refine ⟨_, rfl, a, S, rfl, rfl, hS.same s0, upd_same, ?_⟩
  have fd1 : FD X.prog X.w H (upd (upd H F0 (SDO X.prog X.w F0 [])) F0 (SDO X.prog X.w F0 [(a, S)])) F0 [(a, S)] := FD.put (L := []) ⟨hF0, upd_same, fun _ x => by cases x⟩ (hS.same s0)
  have s2 : Same H (upd (upd H F0 (SDO X.prog X.w F0 [])) F0 (SDO X.prog X.w F0 [(a, S)])) := Same.own s0 hF0
  refine ⟨Nat.zero_le _, fun t1 ht1 => ⟨_, rfl, line_le 2 (by decide), fun t2 ht2 => ⟨line_le 1 (by decide), fun l0 hl0 => ⟨_, _, rfl, ?_⟩⟩⟩⟩
  have e1 := same_upd (o := .tup []) ht1
  have e2 := same_upd (o := .tup [.ref t1, .ref a]) ht2
  have e3 := same_upd (o := .lst [.ref t2]) hl0
  have s5 := ((s2.trans e1).trans e2).trans e3
  have fd5 := ((fd1.ext e1).ext e2).ext e3
  have hl5 := @upd_same (upd (upd (upd (upd H F0 (SDO X.prog X.w F0 [])) F0 (SDO X.prog X.w F0 [(a, S)])) t1 (.tup [])) t2 (.tup [.ref t1, .ref a])) l0 (.lst [.ref t2])
  have hnl0 : H l0 = none := ((s2.trans e1).trans e2).free hl0
  have hwy : IsWy (upd (upd (upd (upd (upd H F0 (SDO X.prog X.w F0 [])) F0 (SDO X.prog X.w F0 [(a, S)])) t1 (.tup [])) t2 (.tup [.ref t1, .ref a])) l0 (.lst [.ref t2])) (.ref t2) ([], S) := ⟨t2, t1, a, rfl, e3 _ _ upd_same, e3 _ _ (e2 _ _ upd_same), hS.same s5⟩
  dsimp only [L2.start, List.set, List.replicate, List.map, List.length]
  refine seq_join (t := tWhile _ _) (fun σ' H' => Same H H' ∧ wayF N p S = none) (fun D hD => ?_) ?_
  · refine ⟨fun n σ H' => ∃ (F lv : Addr) (c5 c6 c7 c8 c9 c10 : Option V) (L : AS) (xs : List V) (lvl : List WS), σ = [some v, some (.ref a), some (.ref f), some (.ref F), some (.ref lv), c5, c6, c7, c8, c9, c10] ∧ Same H H' ∧ FD X.prog X.w H H' F L ∧ H lv = none ∧ H' lv = some (.lst xs) ∧ Paired (IsWy H') xs lvl ∧
      wbfs N p n (sts L) lvl = wayF N p S ∧ (202 ≤ L.length + n ∨ (lvl = [] ∧ 1 ≤ n)) ∧ (sts L).Nodup ∧ (∀ x ∈ sts L, x ∈ M) ∧ (∀ q ∈ lvl, q.2 ∈ M) ∧ lvl.length ≤ 200 ∧ (∀ q ∈ lvl, q.1.length + n ≤ 300), ⟨300, F0, l0, none, none, none, none, none, none, _, _, [([], S)], rfl, s5, fd5, hnl0, hl5, .cons hwy .nil, rfl, ?_, ?_, ?_, ?_, ?_, ?_⟩, ?_⟩
    · exact .inl (show 202 ≤ 1 + 300 by omega)
    · show [S].Nodup
      simp
    · intro x hx
      rw [List.mem_singleton.mp hx]
      exact hSM
    · intro x hx
      rw [List.mem_singleton.mp hx]
      exact hSM
    · show 1 ≤ 200
      omega
    · intro x hx
      rw [List.mem_singleton.mp hx]
      exact Nat.le_refl _
    rintro n σ H5 ⟨F, lv, c5, c6, c7, c8, c9, c10, L, xs, lvl, rfl, sm, fD, nlv, hlv, hP, hb, hn, hnd, hin, hlin, hll, hwl0⟩
    have hLl : L.length ≤ 200 := by
      have := nodup_len hnd hin
      rw [sts_len] at this
      omega
    obtain ⟨n, rfl⟩ : ∃ n', n = n' + 1 := ⟨n - 1, by rcases hn with hn | hn <;> omega⟩
    have hxl : xs.length = lvl.length := hP.length
    refine ⟨_, rfl, !xs.isEmpty, .inl ⟨_, SqL.of hlv, rfl⟩, ?_⟩
    by_cases hAe : lvl = []
    · subst hAe
      cases hP
      refine iteF (hD _ _ ⟨sm, ?_⟩)
      rw [← hb]
      rfl
    have hne : (!xs.isEmpty) = true := by
      cases hP with
      | nil => exact absurd rfl hAe
      | cons _ _ => rfl
    rw [hne]
    have hbn : wayF N p S = match lvl.filter (fun q => p q.2) with
        | q :: _ => some q.1
        | [] => wbfs N p n (sts L ++ (wnx N (sts L) lvl).map (·.2)) (wnx N (sts L) lvl) := by
      rw [← hb]
      show (if lvl = [] then none else _) = _
      rw [if_neg hAe]
      all_goals rfl
    refine iteT ⟨_, fun σ' H' q => ⟨n, Nat.lt_succ_self n, q⟩, ?_⟩
    refine ⟨_, rfl, lv, rfl, ⟨_, SqL.of hlv⟩, fun D1 hD1 => ?_⟩
    refine lc_list (K := X.K) (a := lv) (xs := xs) (fun i H' => ∃ ys : List V, Fill H5 D1 ys H' ∧ Paired (fun v (q : WS) => ∃ b, v = .ref b ∧ H5 b = some (.tup (intsV q.1))) ys ((lvl.take i).filter fun q => p q.2)) ⟨[], .start hD1, .nil⟩ (fun i H' _ ⟨ys, fl, _⟩ => SqL.of (fl.same _ _ hlv)) ?_ ?_
    · rintro i x H' hx ⟨ys, fl, hY⟩
      obtain ⟨q, hq, t, b, c, rfl, hw1, hw2, hw3⟩ := paired_getL hP hx
      have hqM := hlin q (List.mem_of_getElem? hq)
      have hil := (List.getElem?_eq_some_iff.mp hq).1
      have sm' := sm.trans fl.same
      refine ⟨t, _, rfl, SqT.of (fl.same _ _ hw1), rfl, _, _, rfl, _, _, rfl, rfl, wipe2 (by decide) (by decide), rfl, _, rfl, sm' _ _ hc, ?_⟩
      refine hp H' c q.2 sm' (hw3.same fl.same) (hM.ok _ hqM) _ fun H6 e6 => ⟨_, rfl, ?_⟩
      have fl6 := fl.ext e6
      have hyl := hY.length
      have hfl := List.length_filter_le (fun q : WS => p q.2) (lvl.take i)
      rw [List.length_take] at hfl
      have ht : (lvl.take (i + 1)).filter (fun q => p q.2) = (lvl.take i).filter (fun q => p q.2) ++ (if p q.2 = true then [q] else []) := by
        rw [take_add hq, List.filter_append, List.filter_cons, List.filter_nil]
      cases hpq : p q.2 with
      | false =>
        rw [hpq, if_neg (by decide), List.append_nil] at ht
        refine iteF ⟨ys, fl6, ?_⟩
        rw [ht]
        exact hY
      | true =>
        rw [hpq, if_pos rfl] at ht
        refine iteT ⟨_, rfl, _, fl6.at_, small (by omega), _, fl6.put, ?_⟩
        rw [ht]
        exact paired_add hY ⟨b, rfl, hw2⟩
    rintro H6 ⟨ys, f6, hY⟩
    rw [hxl, List.take_length] at hY
    have sm6 := sm.trans f6.same
    dsimp only [gName, List.set]
    refine ⟨_, rfl, !ys.isEmpty, .inl ⟨_, SqL.of f6.at_, rfl⟩, ?_⟩
    have hy0 := f6.at_
    generalize lvl.filter (fun q => p q.2) = gl at hbn hY
    cases hY with
    | cons hw hrest =>
      rename_i y ys' q gl'
      obtain ⟨b, rfl, hbq⟩ := hw
      exact iteT ⟨_, rfl, D1, _, 0, _, rfl, rfl, SqL.of hy0, atI_nat (j := 0) rfl, k1 _ hbn _ b sm6 (f6.same _ _ hbq)⟩
    | nil =>
    refine iteF ?_
    have hbn : wayF N p S = wbfs N p n (sts L ++ (wnx N (sts L) lvl).map (·.2)) (wnx N (sts L) lvl) := hbn
    refine ⟨Nat.zero_le _, fun lt hlt => ?_⟩
    dsimp only [gName, List.set]
    have slt := same_upd (o := .lst []) hlt
    have s7 := sm6.trans slt
    have hnlt : H lt = none := sm6.free hlt
    have hlv7 := slt _ _ (f6.same _ _ hlv)
    have nlt : lt ≠ lv := (ne_of_none (f6.same _ _ hlv) hlt).symm
    have hP7 := pm hP fun _ _ z => IsWy.sk z (SK.of (f6.same.trans slt))
    have fD7 := (fD.ext f6.same).ext slt
    have hsz : (lvl.flatMap (stp1 N)).length ≤ 20000 := by
      have := flatw_len lvl hN
      omega
    refine ⟨_, rfl, lv, rfl, ⟨_, SqL.of hlv7⟩, ?_⟩
    refine for_list (K := X.K) (a := lv) (xs := xs) (fun i σ H' => ∃ (c7 c8 c9 c10 : Option V) (C : AS) (zs : List V) (L2' : List WS), σ = [some v, some (.ref a), some (.ref f), some (.ref F), some (.ref lv), some (.ref D1), some (.ref lt), c7, c8, c9, c10] ∧ Same H H' ∧ FD X.prog X.w H H' F C ∧ H' lv = some (.lst xs) ∧ H' lt = some (.lst zs) ∧ Paired (IsWy H') xs lvl ∧ Paired (IsWy H') zs L2' ∧
      sts C = sts L ++ L2'.map (·.2) ∧ L2' = wnews (sts L) ((lvl.take i).flatMap (stp1 N))) ⟨_, _, _, _, L, [], [], rfl, s7, fD7, hlv7, upd_same, hP7, .nil, (List.append_nil _).symm, rfl⟩ (fun i σ H' _ ⟨_, _, _, _, _, _, _, _, _, _, hlv, _⟩ => SqL.of hlv) ?_ ?_
    · rintro i x σ H8 hx ⟨c7, c8, c9, c10, C, zs, L2', rfl, sm, fD, hlv, hlt, hP, hZ, eC, eL⟩
      obtain ⟨q, hq, t, b, c, rfl, hw1, hw2, hw3⟩ := paired_getL hP hx
      have hqM := hlin q (List.mem_of_getElem? hq)
      have hil := (List.getElem?_eq_some_iff.mp hq).1
      refine ⟨t, _, rfl, SqT.of hw1, rfl, _, _, rfl, _, _, rfl, rfl, ?_⟩
      dsimp only [gName, List.set]
      refine ⟨_, rfl, _, rfl, v, N, c, q.2, rfl, hv.same sm, hN, hw3, hM.ok _ hqM, fun H9 pw ws e9 n9 hpw hPw => ?_⟩
      refine ⟨pw, rfl, ⟨_, SqL.of hpw⟩, ?_⟩
      have hwl : ws.length = (waysS N q.2).length := hPw.length
      have nFp : F ≠ pw := ne_of_none fD.at_ n9
      have nlp : lt ≠ pw := ne_of_none hlt n9
      refine for_list (K := X.K) (a := pw) (xs := ws) (fun j σ H' => ∃ (c9 c10 : Option V) (C : AS) (zs : List V) (L2' : List WS), σ = [some v, some (.ref a), some (.ref f), some (.ref F), some (.ref lv), some (.ref D1), some (.ref lt), some (.ref b), some (.ref c), c9, c10] ∧ Same H H' ∧ FD X.prog X.w H H' F C ∧ H' lv = some (.lst xs) ∧ H' pw = some (.lst ws) ∧ H' lt = some (.lst zs) ∧ Paired (IsWy H') xs lvl ∧ Paired (IsWy H') zs L2' ∧ Paired (IsW H') ws (waysS N q.2) ∧ H' b = some (.tup (intsV q.1)) ∧
        sts C = sts L ++ L2'.map (·.2) ∧ L2' = wnews (sts L) ((lvl.take i).flatMap (stp1 N) ++ (stp1 N q).take j)) ⟨_, _, C, zs, L2', rfl, sm.trans e9, fD.ext e9, e9 _ _ hlv, hpw, e9 _ _ hlt, pm hP fun _ _ z => IsWy.sk z (SK.of e9), pm hZ fun _ _ z => IsWy.sk z (SK.of e9), hPw, e9 _ _ hw2, eC, by rw [List.take_zero, List.append_nil]; exact eL⟩ (fun j σ H' _ ⟨_, _, _, _, _, _, _, _, _, hpw, _⟩ => SqL.of hpw) ?_ ?_
      · rintro j y σ H10 hy ⟨c9, c10, C, zs, L2', rfl, sm, fD, hlv, hpw, hlt, hP, hZ, hPw, hbw, eC, eL⟩
        obtain ⟨r, hr2, b1, b2, rfl, hb1, hb2⟩ := paired_getL hPw hy
        have hst1 : (stp1 N q)[j]? = some (q.1 ++ [r.1], r.2) := by
          unfold stp1
          rw [List.getElem?_map, hr2]
          rfl
        refine ⟨b1, _, rfl, SqT.of hb1, rfl, _, _, rfl, _, _, rfl, rfl, ?_⟩
        dsimp only [gName, List.set]
        have hone := wnews_one (sts L) ((lvl.take i).flatMap (stp1 N) ++ (stp1 N q).take j) (q.1 ++ [r.1], r.2)
        rw [List.append_assoc, ← take_add hst1, ← eL, ← eC] at hone
        refine ⟨_, rfl, _, rfl, b2, F, r.2, C, rfl, rfl, hb2, fD.at_, fD.sts, _, rfl, ?_⟩
        have hCl : C.length ≤ 30000 := by
          have h1 := wnews_len (sts L) ((lvl.take i).flatMap (stp1 N) ++ (stp1 N q).take j)
          have h2 := flatw_len (lvl.take i) hN
          have h3 := stp1_len q hN
          have h4 := sts_len C
          rw [eC, List.length_append, List.length_map, sts_len] at h4
          rw [← eL, List.length_append, List.length_take] at h1
          rw [List.length_take] at h2
          omega
        have hzl : zs.length ≤ 30000 := by
          have h4 := sts_len C
          rw [eC, List.length_append, List.length_map] at h4
          have h5 : zs.length = L2'.length := hZ.length
          omega
        by_cases hm : r.2 ∈ sts C
        · rw [if_pos hm] at hone
          rw [show (!decide (r.2 ∈ List.map (fun x => x.2) C)) = false by rw [decide_eq_true (show r.2 ∈ List.map (fun x => x.2) C from hm)]; rfl]
          exact iteF ⟨_, _, C, zs, L2', rfl, sm, fD, hlv, hpw, hlt, hP, hZ, hPw, hbw, eC, hone.symm⟩
        · rw [if_neg hm] at hone
          rw [show (!decide (r.2 ∈ List.map (fun x => x.2) C)) = true by rw [decide_eq_false (show ¬ r.2 ∈ List.map (fun x => x.2) C from hm)]; rfl]
          refine iteT ⟨_, rfl, _, rfl, F, b2, r.2, C, rfl, rfl, rfl, hb2, fD.at_, fD.sts, hm, small (by omega), ?_⟩
          have hq1 := hwl0 q (List.mem_of_getElem? hq)
          have nlF : lv ≠ F := fun e => by
            rw [e, fD.at_] at hlv
            cases hlv
          have ntF : lt ≠ F := fun e => by
            rw [e, fD.at_] at hlt
            cases hlt
          have fD1 := fD.put hb2
          have sF : SK H10 (upd H10 F (SDO X.prog X.w F (C ++ [(b2, r.2)]))) := SK.sdo fD.at_
          have smF : Same H (upd H10 F (SDO X.prog X.w F (C ++ [(b2, r.2)]))) := Same.own sm fD.new
          have hlv1 : upd H10 F (SDO X.prog X.w F (C ++ [(b2, r.2)])) lv = some (.lst xs) := by rw [upd_ne nlF]; exact hlv
          have hlt1 : upd H10 F (SDO X.prog X.w F (C ++ [(b2, r.2)])) lt = some (.lst zs) := by rw [upd_ne ntF]; exact hlt
          have hpw1 : upd H10 F (SDO X.prog X.w F (C ++ [(b2, r.2)])) pw = some (.lst ws) := by rw [upd_ne nFp.symm]; exact hpw
          have hb3 := IsS.sk hb2 sF
          refine ⟨_, rfl, .inl ⟨rfl, _, SqL.of hlt1⟩, _, rfl, b, _, rfl, .inl (SqT.of (sF.tup hbw)), _, rfl, ?_, fun t1 z1 => ⟨_, rfl, line_le 2 (by decide), fun t2 z2 => ⟨lt, zs, .ref t2, rfl, rfl, ?_, small (by omega), ?_⟩⟩⟩
          · refine line_le _ ?_
            unfold intsV
            rw [List.length_append, List.length_map]
            show q.1.length + 1 ≤ _
            omega
          · exact same_upd z2 _ _ (same_upd z1 _ _ hlt1)
          have sa := (same_upd (o := .tup (intsV q.1 ++ [V.int ((r.1 : Nat) : Int)])) z1).trans (same_upd (o := .tup [.ref t1, .ref b2]) z2)
          have hta : (upd (upd (upd H10 F (SDO X.prog X.w F (C ++ [(b2, r.2)]))) t1 (.tup (intsV q.1 ++ [V.int ((r.1 : Nat) : Int)]))) t2 (.tup [.ref t1, .ref b2])) t1 = some (.tup (intsV q.1 ++ [V.int ((r.1 : Nat) : Int)])) := by
            have u1 : upd (upd H10 F (SDO X.prog X.w F (C ++ [(b2, r.2)]))) t1 (.tup (intsV q.1 ++ [V.int ((r.1 : Nat) : Int)])) t1 = some (.tup (intsV q.1 ++ [V.int ((r.1 : Nat) : Int)])) := upd_same
            exact same_upd z2 _ _ u1
          have htb := @upd_same (upd (upd H10 F (SDO X.prog X.w F (C ++ [(b2, r.2)]))) t1 (.tup (intsV q.1 ++ [V.int ((r.1 : Nat) : Int)]))) t2 (.tup [.ref t1, .ref b2])
          have hltc := sa _ _ hlt1
          have sl : SK _ (upd _ lt (.lst (zs ++ [.ref t2]))) := SK.lst hltc
          have hall := (sF.trans (SK.of sa)).trans sl
          refine ⟨_, _, C ++ [(b2, r.2)], zs ++ [.ref t2], L2' ++ [(q.1 ++ [r.1], r.2)], rfl, Same.own (smF.trans sa) hnlt, (fD1.ext sa).upd hltc nt_lst ntF.symm, ?_, ?_, upd_same, pm hP fun _ _ z => IsWy.sk z hall, paired_add (pm hZ fun _ _ z => IsWy.sk z hall) ⟨t2, t1, b2, rfl, sl.tup htb, ?_, ?_⟩, pm hPw fun _ _ z => z.sk hall, hall.tup hbw, ?_, hone.symm⟩
          · rw [upd_ne nlt.symm]
            exact sa _ _ hlv1
          · rw [upd_ne nlp.symm]
            exact sa _ _ hpw1
          · have := sl.tup hta
            unfold intsV at this ⊢
            rw [List.map_append]
            exact this
          · exact IsS.sk (IsS.same hb3 sa) sl
          · rw [sts_app, eC, List.map_append, List.append_assoc]
            rfl
      · rintro σ H10 ⟨c9, c10, C, zs, L2', rfl, sm, fD, hlv, hpw, hlt, hP, hZ, hPw, hbw, eC, eL⟩
        refine ⟨_, _, _, _, C, zs, L2', rfl, sm, fD, hlv, hlt, hP, hZ, eC, ?_⟩
        rw [eL, take_add hq, List.flatMap_append, List.flatMap_singleton]
        rw [show ws.length = (stp1 N q).length by unfold stp1; rw [List.length_map]; exact hwl, List.take_length]
    · rintro σ H8 ⟨c7, c8, c9, c10, C, zs, L2', rfl, sm, fD, hlv, hlt, hP, hZ, eC, eL⟩
      rw [hxl, List.take_length] at eL
      have eL2 : L2' = wnx N (sts L) lvl := eL
      rw [← eL2, ← eC] at hbn
      have hnd2 : (sts C).Nodup := by
        rw [eC, eL]
        exact wnews_nodup hnd
      have hin2 : ∀ x ∈ sts C, x ∈ M := fun x hx => by
        rw [eC] at hx
        rcases List.mem_append.mp hx with hx | hx
        · exact hin x hx
        · obtain ⟨y, hy, rfl⟩ := List.mem_map.mp hx
          rw [eL2] at hy
          exact wnx_in hM hlin y hy
      have hCl := nodup_len hnd2 hin2
      have hC2 := sts_len C
      rw [eC, List.length_append, List.length_map, sts_len] at hC2
      rw [sts_len] at hCl
      refine ⟨_, rfl, F, lt, _, _, _, _, _, _, C, zs, L2', rfl, sm, fD, hnlt, hlt, hZ, hbn.symm, ?_, hnd2, hin2, ?_, by omega, ?_⟩
      · by_cases h0 : L2' = []
        · refine .inr ⟨h0, ?_⟩
          rcases hn with hn | hn
          · omega
          · exact absurd hn.1 hAe
        · have := List.length_pos_iff.mpr h0
          refine .inl ?_
          rcases hn with hn | hn
          · omega
          · exact absurd hn.1 hAe
      · intro y hy
        rw [eL2] at hy
        exact wnx_in hM hlin y hy
      · intro y hy
        rw [eL] at hy
        obtain ⟨x, hx, hy2⟩ := List.mem_flatMap.mp (wnews_mem hy)
        have h1 := hwl0 x hx
        obtain ⟨r, _, rfl⟩ := List.mem_map.mp hy2
        show (x.1 ++ [r.1]).length + n ≤ 300
        rw [List.length_append]
        show x.1.length + 1 + n ≤ 300
        omega
  · rintro σ H5 ⟨s', hW⟩
    exact k0 hW _ s'
end
end Net
namespace NetR
open PySem PySem.Spec PyProof.Rows L2
abbrev Cl := Value × Option Nat × (Addr → Value → Option Addr → TS)
def endsI (D : Ends) (i : Nat) : Ends := { nx := fun σ' H' => D.nx (σ'.set i none) H', rt := D.rt, bk := fun σ' H' => D.bk (σ'.set i none) H', ct := fun σ' H' => D.ct (σ'.set i none) H' }
def wManyA (K : PySem.W.Frag) (Wout : WX) (D : Ends) : List Cl → WX
  | [] => Wout
  | (c, none, ts) :: r => fun cls d σ H => ∃ b, PySem.W.exmOne K cls c = some b ∧ (b = true → ∀ a, H a = none → ts a cls d D σ H) ∧ (b = false → wManyA K Wout D r cls d σ H)
  | (c, some i, ts) :: r => fun cls d σ H => ∃ b, PySem.W.exmOne K cls c = some b ∧ (b = true → ∀ a, H a = none → ts a cls d (endsI D i) (σ.set i (some (.ref a))) H) ∧ (b = false → wManyA K Wout D r cls d σ H)
inductive HdsA (X : Cx) : List ExceptHandler → List Cl → Prop
  | nil : HdsA X [] []
  | cons {x : Str} {c : Value} {ts : Addr → Value → Option Addr → TS} {b₀ : Stmt} {suite : List Stmt} {np pos' : Pos} {hds : List ExceptHandler} {l : List Cl} (hc : Names X x c)
      (hsu : ∀ (a : Addr) (oe : Obj) (cls : Value) (d : Option Addr) (pn : List (Addr × Obj)), Zc cls d oe → (∃ vs, oe.data = .fields vs) → PSs (X.suite a ((a, oe) :: pn)) (b₀ :: suite) (ts a cls d)) (r : HdsA X hds l) :
      HdsA X (.ExceptHandler (some (.Name x np)) none (b₀ :: suite) pos' :: hds) ((c, none, ts) :: l)
  | as {x n : Str} {i : Nat} {c : Value} {ts : Addr → Value → Option Addr → TS} {b₀ : Stmt} {suite : List Stmt} {np pos' : Pos} {hds : List ExceptHandler} {l : List Cl} (hN : X.N.Nodup) (hi : X.N[i]? = some n) (hln : X.env.kindOf n = some .local) (hc : Names X x c)
      (hsu : ∀ (a : Addr) (oe : Obj) (cls : Value) (d : Option Addr) (pn : List (Addr × Obj)), Zc cls d oe → (∃ vs, oe.data = .fields vs) → PSs (X.suite a ((a, oe) :: pn)) (b₀ :: suite) (ts a cls d)) (r : HdsA X hds l) :
      HdsA X (.ExceptHandler (some (.Name x np)) (some n) (b₀ :: suite) pos' :: hds) ((c, some i, ts) :: l)
section
variable {X : Cx} {body : List Stmt} {h₀ : ExceptHandler} {hds : List ExceptHandler} {l : List Cl} {pos : Pos} {tb : WX → TS} {Wout : WX}
theorem ps_try_manyA (hs : X.stack = X.env :: X.outer) (hf : X.env.frame = some X.env.locals) (tk : Takes X Wout)
    (hb : ∀ (W : WX) (pn : List (Addr × Obj)) (xe : Value → Shared → Prop), Takes (X.tr pn xe) W → PassesOwn (model X.prog X.w) X.A X.env xe → PSs (X.tr pn xe) body (tb W))
    (hh : HdsA X (h₀ :: hds) l) : PS X (.Try body (h₀ :: hds) [] [] pos) (fun D σ H => tb (wManyA X.K Wout D l) D σ H) := by
  refine ⟨fun pins s σ H D I h => ?_⟩
  have ok := I.ok
  have hfr : X.A.frames = some (X.env :: X.outer) := by rw [ok.frames, hs]
  refine wpAny_Try_except ?_
  refine wpAny_mono ((hb (wManyA X.K Wout D l) (X.pn ++ pins) (fun e s₁ => wpAny (model X.prog X.w) X.A (noteFrame e X.env) (fun _ s₂ => wpAny (model X.prog X.w) X.A (setFlight e none) (fun _ s₃ =>
    wpAny (model X.prog X.w) X.A (handleBy e X.env (h₀ :: hds)) (SP X pins D) X.xe s₃) X.xe s₂) X.xe s₁) (fun u s' xx => ?_) PassesOwn.looking).run [] s σ H D (I.toTry _) h) (fun f s1 hsp => ?_) (fun e s1 he => he)
  · -- the catch
    obtain ⟨a, B, sI, pins', σ', H', cls, d, rfl, J', nb, up, sky, na, os, ag, w⟩ := xx
    have J : Inv X pins σ' H' sI := J'.ofTry ok
    have sky' : Sky B (X.env :: X.outer) a (Zc cls d) X.env.locals s'.heap := by rw [← hs]; exact sky
    show wpAny (model X.prog X.w) X.A (noteFrame (.ref a) X.env) _ _ _
    refine Sky.land Zc.steady hfr hf sky' fun h3 fl3 up3 => ?_
    have J3 : Inv X pins σ' H' { s' with heap := h3 } := J.landed nb fl3.1 (up.trans up3) os ag
    obtain ⟨oe3, vs3, he3, hz3, hd3⟩ := fl3.there
    have notFr : ∀ {h : Heap} {o : Obj} {vs : Array Value}, h.FunFrames B (X.env :: X.outer) → h.get? a = some o → o.data = .fields vs → a ∉ frs (X.env :: X.outer) := fun {h o vs} ff e dd hm => by
      obtain ⟨_, o', e', hnf⟩ := ff.mem hm
      rw [e] at e'; cases e'
      exact hnf _ dd
    have nfr := notFr fl3.2.2.1 he3 hd3
    have nL : a ≠ X.env.locals := fun z => nfr (List.mem_filterMap.mpr ⟨X.env, List.mem_cons_self, by rw [hf, z]⟩)
    have nF : a ∉ X.fs := fun hm => by
      obtain ⟨e, he, q⟩ := List.mem_filterMap.mp hm
      exact nfr (List.mem_filterMap.mpr ⟨e, List.mem_cons_of_mem _ he, q⟩)
    have S3 := J3.suite he3 hd3 na nL nF
    have go : ∀ {hds' : List ExceptHandler} {l' : List Cl}, HdsA X hds' l' → wManyA X.K Wout D l' cls d σ' H' →
        wpAny (model X.prog X.w) X.A (handleBy (.ref a) X.env hds') (SP X pins D) X.xe { s' with heap := h3 } := by
      intro hds' l' hk
      induction hk with
      | nil =>
        intro w
        refine wpAny_handleBy_nil ?_
        obtain ⟨k1, k2, k3, oe, vs, T, oT, ts', he, hz, hd, h1, hr⟩ := id fl3
        unfold PySem.passOn
        refine wpAny_bind (wpAny_field he hd h1 ?_)
        rw [if_neg (show ¬ ((Value.ref T == Value.none) = true) from by simp)]
        have fin : wpAny (model X.prog X.w) X.A (setFlight (.ref a) X.env.frame) (fun _ s4 => wpAny (model X.prog X.w) X.A (throw (.ref a) : Sem Flow) (SP X pins D) X.xe s4) X.xe { s' with heap := h3 } := by
          rw [hf]
          refine HandSPX.setFlight_upZ fl3 fun h4 hh4 up4 => wpAny_throw (tk _ _ ?_)
          exact ⟨a, B, sI, pins, σ', H', cls, d, rfl, J, nb, (up.trans up3).trans up4, .inr (.inr (by rw [hs]; exact hh4)), na, os, ag, w⟩
        first
          | exact wpAny_bind (wpAny_pure (wpAny_bind fin))
          | exact wpAny_bind fin
      | @cons x c ts b₀ suite np pos' hds2 l2 hc hsu r ih =>
        intro w
        obtain ⟨b, hb1, hyes, hno⟩ := w
        refine wpAny_handleBy_cons (codeAny_handlers_test ?_) (by intro q; cases q)
        have LT : PySem.W.Looks (model X.prog X.w) h3 (typeOf (.ref a)) cls := fun A Q E s k q => wpAny_typeOf_ref (k _ _ he3) (by rw [hz3.1]; exact q)
        have LM := PySem.W.exm_one (M := model X.prog X.w) (J3.kIn) LT hb1
        have test : ∀ {Q : Value → Shared → Prop} {E : Value → Shared → Prop}, Q c { s' with heap := h3 } → wpAny (model X.prog X.w) (X.A.mark (some (.ref a))) (eval (.Name x np) X.env) Q E { s' with heap := h3 } := fun {Q E} q => by
          obtain ⟨hg, hdbg, hm | ⟨hm, hv, hnn⟩⟩ := hc
          · exact ld_glob (X := X.suite a ((a, oe3) :: (X.pn ++ pins))) S3 hg hm q hdbg
          · exact ld_blt (X := X.suite a ((a, oe3) :: (X.pn ++ pins))) S3 hg hm hv q hnn hdbg
        refine test (LM.here ?_)
        cases b with
        | true =>
          refine codeAny_handlers_suite ?_
          refine HandSPX.lands_againZ fl3 fun h4 fl4 up4 => ?_
          have J4 : Inv X pins σ' H' { s' with heap := h4 } := J.landed nb fl4.1 ((up.trans up3).trans up4) os ag
          obtain ⟨oe4, vs4, he4, hz4, hd4⟩ := fl4.there
          have S4 := J4.suite he4 hd4 na nL nF
          refine wpAny_mono ((hsu a oe4 cls d (X.pn ++ pins) hz4 ⟨_, hd4⟩).run [] _ _ H' _ S4 (hyes rfl a na)) (fun f s6 hsp => ?_) (fun _ _ z => False.elim z)
          cases f with
          | next =>
            obtain ⟨σ6, H6, S6, q6⟩ := hsp
            exact ⟨_, _, S6.unsuite ok, q6⟩
          | brk =>
            obtain ⟨σ6, H6, S6, q6⟩ := hsp
            exact ⟨_, _, S6.unsuite ok, q6⟩
          | cont =>
            obtain ⟨σ6, H6, S6, q6⟩ := hsp
            exact ⟨_, _, S6.unsuite ok, q6⟩
          | ret u =>
            obtain ⟨v6, σ6, H6, S6, r6, q6⟩ := hsp
            exact ⟨_, _, _, S6.unsuite ok, r6, q6⟩
        | false =>
          show wpAny _ X.A (handleBy (.ref a) X.env hds2) _ _ _
          exact ih (hno rfl)
      | @as x n i c ts b₀ suite np pos' hds2 l2 hN hi hln hc hsu r ih =>
        intro w
        obtain ⟨b, hb1, hyes, hno⟩ := w
        have hloc : Loc X.env.scope n := .inl hln
        refine wpAny_handleBy_cons (codeAny_handlers_test ?_) (by intro q; cases q)
        have LT : PySem.W.Looks (model X.prog X.w) h3 (typeOf (.ref a)) cls := fun A Q E s k q => wpAny_typeOf_ref (k _ _ he3) (by rw [hz3.1]; exact q)
        have LM := PySem.W.exm_one (M := model X.prog X.w) (J3.kIn) LT hb1
        have test : ∀ {Q : Value → Shared → Prop} {E : Value → Shared → Prop}, Q c { s' with heap := h3 } → wpAny (model X.prog X.w) (X.A.mark (some (.ref a))) (eval (.Name x np) X.env) Q E { s' with heap := h3 } := fun {Q E} q => by
          obtain ⟨hg, hdbg, hm | ⟨hm, hv, hnn⟩⟩ := hc
          · exact ld_glob (X := X.suite a ((a, oe3) :: (X.pn ++ pins))) S3 hg hm q hdbg
          · exact ld_blt (X := X.suite a ((a, oe3) :: (X.pn ++ pins))) S3 hg hm hv q hnn hdbg
        refine test (LM.here ?_)
        cases b with
        | true =>
          refine codeAny_handlers_suite_as ?_
          refine HandSPX.lands_againZ fl3 fun h4 fl4 up4 => ?_
          have J4 : Inv X pins σ' H' { s' with heap := h4 } := J.landed nb fl4.1 ((up.trans up3).trans up4) os ag
          obtain ⟨oe4, vs4, he4, hz4, hd4⟩ := fl4.there
          have S4 := J4.suite he4 hd4 na nL nF
          refine store_ok (X := X.suite a ((a, oe4) :: (X.pn ++ pins))) (v := .ref a) S4 hN hi hloc rfl (fun s5 S5 => ?_) (.inr hln)
          refine wpAny_mono ((hsu a oe4 cls d (X.pn ++ pins) hz4 ⟨_, hd4⟩).run [] s5 _ H' _ S5 (hyes rfl a na)) (fun f s6 hsp => ?_) (fun _ _ z => False.elim z)
          have end_ : ∀ {σ6 : L2.St} {H6 : Hp} {Q : Shared → Prop}, Inv (X.suite a ((a, oe4) :: (X.pn ++ pins))) [] σ6 H6 s6 → (∀ s7, Inv X pins (σ6.set i none) H6 s7 → Q s7) →
              wpAny (model X.prog X.w) X.A (do bindName X.env n .none; unbindBehindTheSuite X.env n pos') (fun _ s7 => Q s7) X.xe s6 := fun {σ6 H6 Q} S6 hq => gone_ok (S6.unsuite ok) hN hi hln hq
          cases f with
          | next =>
            obtain ⟨σ6, H6, S6, q6⟩ := hsp
            exact end_ S6 fun s7 J7 => ⟨_, _, J7, q6⟩
          | brk =>
            obtain ⟨σ6, H6, S6, q6⟩ := hsp
            exact end_ S6 fun s7 J7 => ⟨_, _, J7, q6⟩
          | cont =>
            obtain ⟨σ6, H6, S6, q6⟩ := hsp
            exact end_ S6 fun s7 J7 => ⟨_, _, J7, q6⟩
          | ret u =>
            obtain ⟨v6, σ6, H6, S6, r6, q6⟩ := hsp
            exact end_ S6 fun s7 J7 => ⟨_, _, _, J7, r6, q6⟩
        | false =>
          show wpAny _ X.A (handleBy (.ref a) X.env hds2) _ _ _
          exact ih (hno rfl)
    exact go hh w
  · cases f with
    | next =>
      obtain ⟨σ', H', J', q⟩ := hsp
      exact wpAny_execs_nil ⟨σ', H', J'.ofTry ok, q⟩
    | brk =>
      obtain ⟨σ', H', J', q⟩ := hsp
      exact ⟨σ', H', J'.ofTry ok, q⟩
    | cont =>
      obtain ⟨σ', H', J', q⟩ := hsp
      exact ⟨σ', H', J'.ofTry ok, q⟩
    | ret u =>
      obtain ⟨v, σ', H', J', r, q⟩ := hsp
      exact ⟨v, σ', H', J'.ofTry ok, r, q⟩
end
end NetR
namespace Net
open PySem PySem.Spec PyProof.Rows L2 NetR LamX
structure TAx (K : PySem.W.Frag) (mg : Str → Option Value) (CO CN CR : Addr) : Prop where
  gO : mg "Nothing" = some (.ref CO)
  gN : mg "NoName" = some (.ref CN)
  gR : mg "Refused" = some (.ref CR)
  oo : PySem.W.exmOne K (.ref CO) (.ref CO) = some true
  no : PySem.W.exmOne K (.ref CN) (.ref CO) = some false
  nn : PySem.W.exmOne K (.ref CN) (.ref CN) = some true
  ro : PySem.W.exmOne K (.ref CR) (.ref CO) = some false
  rn : PySem.W.exmOne K (.ref CR) (.ref CN) = some false
  rr : PySem.W.exmOne K (.ref CR) (.ref CR) = some true
  xR : XfC K CR
  xN : XfC K CN
  fR : PySem.W.findIn K (.ref CR) "why" = some none
  fN : PySem.W.findIn K (.ref CN) "name" = some none
def HearE (CO CN CR : Addr) (Q : VK) : XK := fun cls d H' => (cls = .ref CO ∧ ∀ H2 p, Same H' H2 → H2 p = some (.tup [.str "nothing"]) → Q (.ref p) H2) ∨
  (cls = .ref CN ∧ ∃ dd v, d = some dd ∧ H' dd = some (.xd [(("name" : Str), v)]) ∧ ∀ H2 p, Same H' H2 → H2 p = some (.tup [.str "no name", v]) → Q (.ref p) H2) ∨
  (cls = .ref CR ∧ ∃ dd z, d = some dd ∧ H' dd = some (.xd [(("why" : Str), .str z)]) ∧ ∀ H2 p, Same H' H2 → H2 p = some (.tup [.str "refused", .str z]) → Q (.ref p) H2)
def THear (CO CN CR : Addr) : (XK → Hp → VK → Prop) → Hp → VK → Prop := fun tl H Q => tl (HearE CO CN CR Q) H fun v H' => ([V.str "told", v]).length ≤ sizeLine ∧ ∀ p, H' p = none → Q (.ref p) (upd H' p (.tup [.str "told", v]))
abbrev s__law_heard : Stmt := top 60
theorem sc__law_heard : FnScope ["act", "error"] ["act"] (defScope s__law_heard) := ⟨rfl, rfl, rfl, by decide +kernel, rfl, by decide +kernel, by decide +kernel⟩
theorem heard_gives {X : Cx} {q : Str} {g : Addr} {cdg : Value} {CO CN CR : Addr} (T : TAx X.K X.mg CO CN CR) :
    GivesTo X ["act", "error"] "_law_heard" (defScope s__law_heard) g cdg (defBody s__law_heard) "act" q (THear CO CN CR) := by
  intro f c' s H Q tl act hc h
  have hbig := sl_big
  refine ⟨_, pss_one (ps_try_manyA (X := (cxOf C8.CX0 X.prog X.w X.K X.mg X.base ["act", "error"] "_law_heard" (defScope s__law_heard) g cdg X.A X.stack s H C8.E0).nox) (Wout := fun _ _ _ _ => False)
      (tb := fun W D σ H => ∃ Ech : XK, (∀ cls d σ' H', Ech cls d H' → σ'.length = 2 → W cls d σ' H') ∧ σ[0]? = some (some (.ref f)) ∧ H c' = some (CodeO c' q) ∧ tl Ech H fun v H1 => ([V.str "told", v]).length ≤ sizeLine ∧ ∀ p, H1 p = none → D.rt (.ref p) (upd H1 p (.tup [.str "told", v])))
      rfl rfl L2.takes0 (fun W pn xe tk _ => ?_)
      (.cons ⟨rfl, rfl, .inl T.gO⟩ (fun a oe cls d pn _ _ => pss_one (ps_ret (pe_tup (pa_cons pe_str pa_nil))))
        (.as (i := 1) sc__law_heard.nd rfl rfl ⟨rfl, rfl, .inl T.gN⟩ (fun a oe cls d pn hz hf => pss_one (ps_ret (pe_tup (pa_cons pe_str (pa_cons (pe_xf T.xN T.fN hz hf (pv 1)) pa_nil)))))
          (.as (i := 1) sc__law_heard.nd rfl rfl ⟨rfl, rfl, .inl T.gR⟩ (fun a oe cls d pn hz hf => pss_one (ps_ret (pe_tup (pa_cons pe_str (pa_cons (pe_xf T.xR T.fR hz hf (pv 1)) pa_nil)))))
            .nil)))), ?_⟩
  · refine ⟨fun pins s' σ H' D I h' => ?_⟩
    obtain ⟨Ech, hW, h1, h2, h3⟩ := h'
    have tk2 : Takes ((cxOf C8.CX0 X.prog X.w X.K X.mg X.base ["act", "error"] "_law_heard" (defScope s__law_heard) g cdg X.A X.stack s H C8.E0).tr pn xe) (fun cls d σ' H' => σ'.length = 2 → W cls d σ' H') := fun u s2 hh => by
      obtain ⟨a, B, sI, pins', σ', H', cls, d, r1, J', r2, r3, r4, r5, r6, r7, w⟩ := hh
      exact tk u s2 ⟨a, B, sI, pins', σ', H', cls, d, r1, J', r2, r3, r4, r5, r6, r7, w J'.len⟩
    exact (pss_one (ps_ret (pe_tup (pa_cons pe_str (pa_cons (act _ pn xe Ech _ _ tk2 hW) pa_nil))))).run pins s' σ H' D I ⟨h1, h2, h3⟩
  · refine ⟨HearE CO CN CR Q, fun cls d σ' H' he => ?_, rfl, hc, h⟩
    rcases he with ⟨rfl, k⟩ | ⟨rfl, dd, z, rfl, hd, k⟩ | ⟨rfl, dd, z, rfl, hd, k⟩
    · intro hl
      exact ⟨true, T.oo, fun _ a na => ⟨(by show 1 ≤ sizeLine; omega), fun p hp => k _ p (same_upd hp) upd_same⟩, fun z => nomatch z⟩
    · intro hl
      have e1 : ∀ a, (σ'.set 1 (some (V.ref a)))[1]? = some (some (V.ref a)) := fun a => by rw [List.getElem?_set_self (by omega)]
      exact ⟨false, T.no, fun z => (nomatch z), fun _ => ⟨true, T.nn, fun _ a na => ⟨_, e1 a, rfl, rfl, dd, _, _, rfl, hd, rfl, (by show 2 ≤ sizeLine; omega), fun p hp => k _ p (same_upd hp) upd_same⟩, fun z => (nomatch z)⟩⟩
    · intro hl
      have e1 : ∀ a, (σ'.set 1 (some (V.ref a)))[1]? = some (some (V.ref a)) := fun a => by rw [List.getElem?_set_self (by omega)]
      exact ⟨false, T.ro, fun z => (nomatch z), fun _ => ⟨false, T.rn, fun z => (nomatch z), fun _ => ⟨true, T.rr, fun _ a na => ⟨_, e1 a, rfl, rfl, dd, _, _, rfl, hd, rfl, (by show 2 ≤ sizeLine; omega), fun p hp => k _ p (same_upd hp) upd_same⟩, fun z => (nomatch z)⟩⟩⟩
end Net
namespace NetR
open PySem PySem.Spec PyProof.Rows L2 LamX Net
structure FunC (K : PySem.W.Frag) (x qual : Str) (st : Stmt) (f : Addr) (fd : FuncData) (c : Addr) : Prop where
  ex : ∃ (oc : Value) (od : Option Addr) (kV doc pm : Value) (an : Option Addr) (ct : Value) (osl : Array (Option Value)),
    fd = PySem.W.fnOf x qual (defArgs st) (defBody st) (defScope st) .none kV doc pm an (.ref c) ct ∧ K.lookup f = some ⟨oc, od, .func fd, osl⟩ ∧ PySem.W.codeIn K (.ref c) qual = true
  kp : PySem.W.keepIn K (.ref f) = true
theorem FunC.fn {K : PySem.W.Frag} {x qual : Str} {st : Stmt} {f : Addr} {fd : FuncData} {c : Addr} (F : FunC K x qual st f fd c) : Fun K x qual st f fd := by
  obtain ⟨oc, od, kV, doc, pm, an, ct, osl, rfl, lk, hcd⟩ := F.ex
  exact ⟨⟨oc, od, kV, doc, pm, an, _, ct, osl, rfl, lk, hcd⟩, F.kp⟩
section
variable {P : Program} {w : World} {K : PySem.W.Frag} {mg : Str → Option Value} {base : Heap}
theorem FunC.ok {x qual : Str} {st : Stmt} {f c : Addr} {fd : FuncData} {N ps : List Str} {k : Nat} {sp : Sp} (F : FunC K x qual st f fd c) (S : FnScope N ps (defScope st)) (len : ∀ vs H Q E, sp vs H Q E → vs.length = ps.length)
    (hbody : ∀ (A : Around) (outer : List Env) (s : Shared) (H : Hp) (vs : List V) (Q : VK) (E : XK), Room k (A.deeper (envOfC qual (defScope st) s.heap.objs.size f (.ref c))) → sp vs H Q E →
      ∃ t, PSs (cxOf CX0 P w K mg base N qual (defScope st) f (.ref c) A outer s H E).nox (defBody st) t ∧ t { nx := fun _ H' => Q .non H', rt := Q } (L2.start N vs) H) : FnOk P w K mg base CX0 (k + 1) f fd ps sp := by
  obtain ⟨oc, od, kV, doc, pm, an, ct, osl, rfl, lk, hcd⟩ := F.ex
  refine fn_of lk hcd S len fun A outer s H vs Q E hr hsp => ?_
  obtain ⟨t, h, q⟩ := hbody A outer s H vs Q E hr hsp
  exact ⟨t, h.nox, q⟩
end
section
variable {P : Program} {w : World} {K : PySem.W.Frag} {mg : Str → Option Value} {base : Heap}
theorem FunC.okX {x qual : Str} {st : Stmt} {f c : Addr} {fd : FuncData} {N ps : List Str} {k : Nat} {sp : Sp} (F : FunC K x qual st f fd c) (S : FnScope N ps (defScope st)) (len : ∀ vs H Q E, sp vs H Q E → vs.length = ps.length)
    (hbody : ∀ (A : Around) (outer : List Env) (s : Shared) (H : Hp) (vs : List V) (Q : VK) (E : XK), Room k (A.deeper (envOfC qual (defScope st) s.heap.objs.size f (.ref c))) → sp vs H Q E →
      ∃ t, PSs (cxOf (L2.CX P w) P w K mg base N qual (defScope st) f (.ref c) A outer s H E) (defBody st) t ∧ t { nx := fun _ H' => Q .non H', rt := Q } (L2.start N vs) H) : FnOk P w K mg base (L2.CX P w) (k + 1) f fd ps sp := by
  obtain ⟨oc, od, kV, doc, pm, an, ct, osl, rfl, lk, hcd⟩ := F.ex
  exact fn_of lk hcd S len fun A outer s H vs Q E hr hsp => hbody A outer s H vs Q E hr hsp
end
section
variable {X : Cx}
theorem pe_heard {fa c Pt CO CN CR : Addr} {fd : FuncData} {k : Nat} {Tt : List (Addr × Str)} {params : Arguments} {body : Expr} {scope : Scope} {t : XK → TE} {p lpos pos : Pos} (FA : Fun X.K "_law_heard" "_law_heard" s__law_heard fa fd) (hg : Gl X "_law_heard") (g : X.mg "_law_heard" = some (.ref fa)) (bi : Binds X.K fd ["act"] []) (TX : TAx X.K X.mg CO CN CR)
    (TB : TabB X.base X.mg c Pt) (hcode : X.env.code = .ref c) (hmT : (Pt, X.env.qual ++ "<lambda>") ∈ Tt) (hu : ∀ p ∈ Tt, p.1 = Pt → p.2 = X.env.qual ++ "<lambda>") (hr : Room (k + 2) X.A) (L : LamS X.env.scope scope) (hdef : defaultsOf params X.env = ([], []))
    (hbind : ∀ (q : Str) (cl : List (Str × Addr)) (pm cv ctv : Value), bindArgs (PySem.W.kla_fn "<lambda>" q params body scope cl pm cv ctv) ⟨[], []⟩ = pure [])
    (hbody : ∀ (A : Around) (outer : List Env) (s : Shared) (H : Hp) (E : XK) (f c' : Addr), Room k (A.deeper (lamEnv X scope s.heap.objs.size f c')) → PE (lamCx X A outer s H E scope f c') body (t E)) :
    PE X (.Call (.Name "_law_heard" p) [.Lambda params body scope lpos] [] pos) (tLam Tt (THear CO CN CR) t) := by
  obtain ⟨oc, od, kV, doc, pm, an, cdv, ct, osl, rfl, lk, hcd⟩ := FA.ex
  exact pe_lamcall (Ng := ["act", "error"]) (a := "act") hg g FA.kp lk hcd bi sc__law_heard rfl (.inl rfl) (heard_gives TX) TB hcode hmT hu hr L hdef hbind hbody
end
end NetR
namespace Net
open PySem PySem.Spec PyProof.Rows L2 SDx NetR LamX LamO
theorem SK.ext {H H' : Hp} (e : ExtN H H') : SK H H' := fun b o h t => e b o h fun ps z => by
  subst z
  rcases t with ⟨_, z⟩ | ⟨_, _, z⟩ <;> cases z
theorem tabs_same {T : List (Addr × Str)} {H H' : Hp} (t : Tabs T H) (s : Same H H') : Tabs T H' := fun p hp => (t p hp).ext s
theorem wbfs_ok {N : NetT} {p : Sta → Bool} : ∀ (n : Nat) (found : List Sta) (level : List WS) (l : List Nat), (∀ q ∈ level, q.1.length + n ≤ 300 ∧ ∀ i ∈ q.1, i < N.steps.length) → wbfs N p n found level = some l → l.length ≤ 300 ∧ ∀ i ∈ l, i < N.steps.length
  | 0, _, _, _, _, h => by cases h
  | n + 1, found, level, l, hl, h => by
    change (if level = [] then none else _) = some l at h
    by_cases e : level = []
    · rw [if_pos e] at h
      cases h
    rw [if_neg e] at h
    cases hf : level.filter (fun q => p q.2) with
    | cons q r =>
      rw [hf] at h
      cases h
      have hq : q ∈ level := (List.mem_filter.mp (hf ▸ List.mem_cons_self ..)).1
      have := hl q hq
      exact ⟨by omega, this.2⟩
    | nil =>
      rw [hf] at h
      refine wbfs_ok n _ _ l (fun q hq => ?_) h
      obtain ⟨x, hx, hq2⟩ := List.mem_flatMap.mp (wnews_mem hq)
      obtain ⟨r, hr, rfl⟩ := List.mem_map.mp hq2
      obtain ⟨i, hi, rfl⟩ := List.mem_map.mp hr
      have h1 := hl x hx
      refine ⟨?_, fun j hj => ?_⟩
      · show (x.1 ++ [i]).length + n ≤ 300
        rw [List.length_append]
        show x.1.length + 1 + n ≤ 300
        omega
      · rcases List.mem_append.mp hj with hj | hj
        · exact h1.2 j hj
        · rw [List.mem_singleton.mp hj]
          exact List.mem_range.mp (List.mem_filter.mp hi).1
theorem wayF_ok {N : NetT} {p : Sta → Bool} {S : Sta} {l : List Nat} (h : wayF N p S = some l) : l.length ≤ 300 ∧ ∀ i ∈ l, i < N.steps.length :=
  wbfs_ok 300 _ _ l (fun q hq => by
    rw [List.mem_singleton.mp hq]
    exact ⟨Nat.le_refl _, fun i hi => nomatch hi⟩) h
def qWT : Str := "way_to.<locals>.<lambda>"
def qWE : Str := "way_to_end.<locals>.<lambda>"
def namesV (N : NetT) (l : List Nat) : List V := (l.map (nmAt N)).map V.str
def sp_wayto (Tt : List (Addr × Str)) (CO : Addr) : Sp := fun vs H Q E => ∃ (v : V) (N : NetT) (a : Addr) (S : Sta) (M : List Sta), vs = [v, .ref a] ∧ IsNet H v N ∧ NOk N ∧ IsS H a S ∧ Clo N M ∧ fstS N ∈ M ∧ M.length ≤ 200 ∧ Tabs Tt H ∧
  (∀ l, wayF N (fun T => decide (T = S)) (fstS N) = some l → ∀ H' p, ExtN H H' → Tabs Tt H' → H' p = some (.tup (namesV N l)) → Q (.ref p) H') ∧ (wayF N (fun T => decide (T = S)) (fstS N) = none → ∀ H', ExtN H H' → Tabs Tt H' → E (.ref CO) none H')
def sp_wayend (Tt : List (Addr × Str)) (CO : Addr) : Sp := fun vs H Q E => ∃ (v : V) (N : NetT) (a : Addr) (S : Sta) (M : List Sta), vs = [v, .ref a] ∧ IsNet H v N ∧ NOk N ∧ IsS H a S ∧ Clo N M ∧ S ∈ M ∧ M.length ≤ 200 ∧ Tabs Tt H ∧
  (∀ l, wayF N endB S = some l → ∀ H' p, ExtN H H' → Tabs Tt H' → H' p = some (.tup (namesV N l)) → Q (.ref p) H') ∧ (wayF N endB S = none → ∀ H', ExtN H H' → Tabs Tt H' → E (.ref CO) none H')
section
variable {P : Program} {w : World} {K : PySem.W.Frag} {mg : Str → Option Value} {base : Heap} {CR fR ccR CN fN ccN CO : Addr} {Tt : List (Addr × Str)}
abbrev s_way_to : Stmt := top 33
theorem sc_way_to : FnScope ["net", "state", "found", "here"] ["net", "state"] (defScope s_way_to) := ⟨rfl, rfl, rfl, by decide +kernel, rfl, by decide +kernel, by decide +kernel⟩
theorem ok_wayto {f c Pt f_first_state g f_names_of f_ways_from : Addr} {fd fd1 fdW fd3 fd4 : FuncData} (F : FunC K "way_to" "way_to" s_way_to f fd c) (T : Tx mg) (TE : Tex P K mg CR fR ccR CN fN ccN CO)
    (FW : Fun K "way_between" "way_between" s_way_between g fdW) (gW : mg "way_between" = some (.ref g)) (bW : Binds K fdW ["net", "state", "fits"] []) (TB : TabB base mg c Pt) (hmT : (Pt, qWT) ∈ Tt) (hu : ∀ p ∈ Tt, p.1 = Pt → p.2 = qWT)
    (d_first_state : Ok1 P w K mg base CX0 1 "first_state" ["net"] sp_first f_first_state fd1) (d_names_of : Ok1 P w K mg base CX0 1 "names_of" ["net", "indexes"] sp_names f_names_of fd3) (d_ways_from : Ok1 P w K mg base CX0 5 "ways_from" ["net", "state"] sp_ways f_ways_from fd4) :
    FnOk P w K mg base (L2.CX P w) 8 f fd ["net", "state"] (sp_wayto Tt CO) := by
  obtain ⟨oc, od, kV, doc, pm, an, cdv, ct, osl, rfl, lk, hcd⟩ := FW.ex
  refine F.okX sc_way_to (fun vs H Q E h => ?_) (fun A outer s H vs Q E hr h => ?_)
  · obtain ⟨v, N, a, S, M, rfl, _⟩ := h
    rfl
  · obtain ⟨v, N, a, S, M, rfl, hv, hN, hS, hM, hfM, hMl, hT, kY, kN⟩ := h
    refine ⟨_, (pss_cons (ps_set (i := 2) sc_way_to.nd rfl (Or.inl rfl) (pe_lam2 (kc := 6) (kl := 3) (kp := 3) (pn := "here") (t := tOp (rEqD K) (tVar 3) (tVar 1)) rfl gW FW.kp lk hcd bW sc_way_between rfl (way_gives T d_ways_from) TB rfl hmT hu (hr.mono (by decide)) (lamS1_by (sc := defScope s_way_to) (by decide +kernel)) rfl sc_way_to.nd (fun _ => rfl) rfl (fun _ _ _ _ _ _ => rfl) (fun A outer s H f c' hr2 => by exact pe_cmpR (op_eqD hr2.units) (pv 3) (pv 1) (nomark _)) (pv 0) (pe_call d_first_state.ok (hr.mono (by decide)) rfl d_first_state.g d_first_state.kp d_first_state.b .nil pass0 (pa_cons (pv 0) pa_nil))))
      (pss_cons (ps_if (pt_cmpR op_isN (pv 2) pe_non (nomark _)) (pss_one (ps_raise rfl (takes_of rfl rfl rfl rfl) (pmk_own0 PySem.F.excBase_ValueError TE.xN TE.g_Nothing TE.kN (raises_own TE.bN TE.tN)))) pss_nil)
      (pss_one (ps_ret (pe_call d_names_of.ok (hr.mono (by decide)) rfl d_names_of.g d_names_of.kp d_names_of.b .nil pass0 (pa_cons (pv 0) (pa_cons (pv 2) pa_nil))))))), ?_⟩
    refine ⟨_, rfl, _, rfl, v, N, rfl, hv, hN, fun H1 a1 e1 ha1 => ⟨tabs_same hT e1, fun H3 eN T3 => ?_⟩⟩
    have x3 : ExtN H H3 := (ExtN.of e1).trans eN
    have hv3 := hv.sk (SK.ext x3)
    have hS3 := IsS.sk hS (SK.ext x3)
    refine ⟨v, a1, N, fstS N, M, fun T => decide (T = S), rfl, hv3, hN, IsS.sk ha1 (SK.ext eN), hM, hfM, hMl, fun H' b T s' hb _ Q' kq => ?_, fun hn H' s' => ?_, fun l hl H' r s' hr => ?_⟩
    · exact ⟨_, rfl, _, rfl, eq_sta hb (hS3.same s') (kq _ fun _ _ e => e)⟩
    · exact ⟨_, rfl, rfl, _, rfl, iteT (kN hn H' (x3.trans (ExtN.of s')) (tabs_same T3 s'))⟩
    · have hw := wayF_ok hl
      exact ⟨_, rfl, rfl, _, rfl, iteF ⟨_, rfl, _, rfl, v, N, r, l, rfl, hv3.same s', hN, hr, by omega, hw.2, fun H4 p s4 hp => kY l hl H4 p ((x3.trans (ExtN.of s')).trans (ExtN.of s4)) (tabs_same (tabs_same T3 s') s4) hp⟩⟩
abbrev s_way_to_end : Stmt := top 34
theorem sc_way_to_end : FnScope ["net", "state", "found", "here"] ["net", "state"] (defScope s_way_to_end) := ⟨rfl, rfl, rfl, by decide +kernel, rfl, by decide +kernel, by decide +kernel⟩
theorem ok_wayend {f c Pt f_is_ended g f_names_of f_ways_from : Addr} {fd fd1 fdW fd3 fd4 : FuncData} (F : FunC K "way_to_end" "way_to_end" s_way_to_end f fd c) (T : Tx mg) (TE : Tex P K mg CR fR ccR CN fN ccN CO)
    (FW : Fun K "way_between" "way_between" s_way_between g fdW) (gW : mg "way_between" = some (.ref g)) (bW : Binds K fdW ["net", "state", "fits"] []) (TB : TabB base mg c Pt) (hmT : (Pt, qWE) ∈ Tt) (hu : ∀ p ∈ Tt, p.1 = Pt → p.2 = qWE)
    (d_is_ended : Ok1 P w K mg base CX0 1 "is_ended" ["net", "state"] sp_ended f_is_ended fd1) (d_names_of : Ok1 P w K mg base CX0 1 "names_of" ["net", "indexes"] sp_names f_names_of fd3) (d_ways_from : Ok1 P w K mg base CX0 5 "ways_from" ["net", "state"] sp_ways f_ways_from fd4) :
    FnOk P w K mg base (L2.CX P w) 8 f fd ["net", "state"] (sp_wayend Tt CO) := by
  obtain ⟨oc, od, kV, doc, pm, an, cdv, ct, osl, rfl, lk, hcd⟩ := FW.ex
  refine F.okX sc_way_to_end (fun vs H Q E h => ?_) (fun A outer s H vs Q E hr h => ?_)
  · obtain ⟨v, N, a, S, M, rfl, _⟩ := h
    rfl
  · obtain ⟨v, N, a, S, M, rfl, hv, hN, hS, hM, hSM, hMl, hT, kY, kN⟩ := h
    refine ⟨_, (pss_cons (ps_set (i := 2) sc_way_to_end.nd rfl (Or.inl rfl) (pe_lam2 (kc := 6) (kl := 3) (kp := 3) (pn := "here") (t := tCall sp_ended [] E0 (tCons (tVar 0) (tCons (tVar 3) tNil))) rfl gW FW.kp lk hcd bW sc_way_between rfl (way_gives T d_ways_from) TB rfl hmT hu (hr.mono (by decide)) (lamS1_by (sc := defScope s_way_to_end) (by decide +kernel)) rfl sc_way_to_end.nd (fun _ => rfl) rfl (fun _ _ _ _ _ _ => rfl) (fun A outer s H f c' hr2 => by exact pe_call d_is_ended.ok (hr2.mono (by decide)) rfl d_is_ended.g d_is_ended.kp d_is_ended.b .nil pass0 (pa_cons (pv 0) (pa_cons (pv 3) pa_nil))) (pv 0) (pv 1)))
      (pss_cons (ps_if (pt_cmpR op_isN (pv 2) pe_non (nomark _)) (pss_one (ps_raise rfl (takes_of rfl rfl rfl rfl) (pmk_own0 PySem.F.excBase_ValueError TE.xN TE.g_Nothing TE.kN (raises_own TE.bN TE.tN)))) pss_nil)
      (pss_one (ps_ret (pe_call d_names_of.ok (hr.mono (by decide)) rfl d_names_of.g d_names_of.kp d_names_of.b .nil pass0 (pa_cons (pv 0) (pa_cons (pv 2) pa_nil))))))), ?_⟩
    refine ⟨_, rfl, _, rfl, hT, fun H3 eN T3 => ?_⟩
    have x3 : ExtN H H3 := eN
    have hv3 := hv.sk (SK.ext x3)
    have hS3 := IsS.sk hS (SK.ext x3)
    refine ⟨v, a, N, S, M, endB, rfl, hv3, hN, hS3, hM, hSM, hMl, fun H' b T s' hb hok Q' kq => ?_, fun hn H' s' => ?_, fun l hl H' r s' hr => ?_⟩
    · exact ⟨_, rfl, _, rfl, v, b, N, T, rfl, hb, hok, hN, kq⟩
    · exact ⟨_, rfl, rfl, _, rfl, iteT (kN hn H' (x3.trans (ExtN.of s')) (tabs_same T3 s'))⟩
    · have hw := wayF_ok hl
      exact ⟨_, rfl, rfl, _, rfl, iteF ⟨_, rfl, _, rfl, v, N, r, l, rfl, hv3.same s', hN, hr, by omega, hw.2, fun H4 p s4 hp => kY l hl H4 p ((x3.trans (ExtN.of s')).trans (ExtN.of s4)) (tabs_same (tabs_same T3 s') s4) hp⟩⟩
end
end Net
namespace NetT
open PySem PySem.Spec PyProof.Rows L2
def tIfT (t ta tb : TT) : TT := fun σ H Q => t σ H fun c H1 => if c = true then ta σ H1 Q else tb σ H1 Q
theorem pt_ifExp {X : Cx} {c a b : Expr} {pos : Pos} {tA ta tb : TT} (hc : PT X c tA) (ha : PT X a ta) (hb : PT X b tb) : PT X (.IfExp c a b pos) (tIfT tA ta tb) := by
  refine ⟨fun pins s σ H Q I h => ?_⟩
  refine isTrue_IfExp (thn (hc.run pins s σ H _ I h) fun d s1 ⟨H1, I1, q1⟩ => ?_)
  cases d with
  | true => exact ha.run pins s1 σ H1 Q I1 q1
  | false => exact hb.run pins s1 σ H1 Q I1 q1
end NetT
namespace Net
open PySem PySem.Spec PyProof.Rows L2 SDx NetR
def sp_ldoable : Sp := fun vs H Q _ => ∃ (v : V) (N : NetT) (a : Addr) (S : Sta), vs = [v, .ref a] ∧ IsNet H v N ∧ NOk N ∧ IsS H a S ∧ SOk N S ∧ ∀ H' p, Same H H' → H p = none → H' p = some (.lst (intsV (doab N S))) → Q (.ref p) H'
def endL (S : Sta) : Bool := decide (S.1.getLast? = some 1) && decide (S.1.sum = 1)
def sp_lended : Sp := fun vs H Q _ => ∃ (a : Addr) (S : Sta), vs = [.ref a] ∧ IsS H a S ∧ S.1 ≠ [] ∧ S.1.length ≤ 100 ∧ ∀ H', Same H H' → Q (.bl (endL S)) H'
section
variable {P : Program} {w : World} {K : PySem.W.Frag} {mg : Str → Option Value} {base : Heap}
abbrev s__law_counts : Stmt := top 42
theorem sc__law_counts : FnScope ["net", "some", "told", "place"] ["net", "some"] (defScope s__law_counts) := ⟨rfl, rfl, rfl, by decide +kernel, rfl, by decide +kernel, by decide +kernel⟩
theorem ok_lcounts {f : Addr} {fd : FuncData} (F : Fun K "_law_counts" "_law_counts" s__law_counts f fd) (T : Tx mg) : FnOk P w K mg base CX0 1 f fd ["net", "some"] sp_counts := by
  refine F.ok sc__law_counts (fun vs H Q E h => ?_) (fun cdv A outer s H vs Q E hr h => ?_)
  · obtain ⟨v, N, a, c, rfl, _⟩ := h
    rfl
  · obtain ⟨v, N, a, c, rfl, hv, hN, hc, k⟩ := h
    refine ⟨_, (pss_cons (ps_set (i := 2) sc__law_counts.nd rfl (Or.inr rfl) (pe_callTy (DicT.call_dictF rfl) (by rfl) T.n_dict (by decide +kernel) (pa_cons (pv 1) pa_nil)))
      (pss_one (ps_ret (pe_lc (own := [("place", 3)]) (g := gName 3) (tt := tYes) rfl sc__law_counts.nd (pi_tup (pe_ix ix_tup (pv 0) pe_int (fun _ _ => rfl))) (blkOk_by (N := ["net", "some", "told", "place"]) (sc := defScope s__law_counts) (by decide +kernel)) (fun _ _ _ _ _ => pg_name (i := 3) sc__law_counts.nd rfl (Or.inl rfl)) (fun _ _ _ _ _ => pts_nil) (fun _ _ _ _ _ => (pe_dget2 (hu_of hr) (pv 2) (pv 3) pe_int ⟨rfl, rfl, rfl, rfl⟩)))))), ?_⟩
    obtain ⟨na, np, nn, nt, sx, rfl, h0, h1, h2, h3, h4⟩ := hv
    obtain ⟨o, ts, ha, hd, hp⟩ := hc
    refine ⟨_, rfl, a, o, ts, c.map entS, rfl, ha, hd, pairs_sq hp, fun p hn => ?_⟩
    have s1 := same_upd (o := .dK (mergeK [] (c.map entS))) hn
    have hp1 := @upd_same H p (.dK (mergeK [] (c.map entS)))
    generalize upd H p (.dK (mergeK [] (c.map entS))) = H1 at s1 hp1 ⊢
    have g0 := s1 _ _ h0
    refine ⟨_, rfl, na, _, 1, _, rfl, rfl, SqT.of g0, rfl, np, rfl, ⟨_, SqT.of (s1 _ _ h1)⟩, fun D hD => lc_tup (K := K) (a := np) (xs := N.places.map V.str) (fun i H' => Fill H1 D ((N.places.take i).map fun p => V.int ((lastO c p).getD 0)) H') (.start hD) (fun i H' _ fl => SqT.of (fl.same _ _ (s1 _ _ h1))) ?_ ?_⟩
    · intro i x H' hx fl
      rw [List.getElem?_map] at hx
      obtain ⟨q, hq, rfl⟩ := Option.map_eq_some_iff.mp hx
      have hd1 := fl.same _ _ hp1
      have hdg : DGet H' p (.str q) ((lastO c q).map V.int) := by
        rw [← valV_of]
        exact DGet.k (k := Sum.inr q) hd1
      refine ⟨rfl, _, rfl, p, rfl, .inl ⟨_, .inl hd1⟩, _, rfl, _, hdg, _, fl.at_, ?_, fl.add ?_⟩
      · have := hN.pl2
        rw [List.length_map, List.length_take]
        exact Nat.lt_of_lt_of_le (by omega) sl_big
      · rw [take_add hq, List.map_append]
        cases e : lastO c q with
        | none => rw [List.map_cons, e]; rfl
        | some z => rw [List.map_cons, e]; rfl
    · intro H' fl
      rw [List.length_map, List.take_length] at fl
      refine k _ _ (s1.trans fl.same) (s1.free hD) ?_
      rw [fl.at_]
      unfold cnts
      rw [List.map_map]
      rfl
abbrev s__law_names : Stmt := top 51
theorem sc__law_names : FnScope ["net", "way", "index"] ["net", "way"] (defScope s__law_names) := ⟨rfl, rfl, rfl, by decide +kernel, rfl, by decide +kernel, by decide +kernel⟩
theorem ok_lnames {f : Addr} {fd : FuncData} (F : Fun K "_law_names" "_law_names" s__law_names f fd) (T : Tx mg) : FnOk P w K mg base CX0 1 f fd ["net", "way"] sp_names := by
  refine F.ok sc__law_names (fun vs H Q E h => ?_) (fun cdv A outer s H vs Q E hr h => ?_)
  · obtain ⟨v, N, t, l, rfl, _⟩ := h
    rfl
  · obtain ⟨v, N, t, l, rfl, hv, hN, ht, hl, hi, k⟩ := h
    refine ⟨_, (pss_one (ps_ret (pe_callTy call_tuple_of (by rfl) T.n_tuple (by decide +kernel) (pa_cons (pe_lc (own := [("index", 2)]) (g := gName 2) (tt := tYes) rfl sc__law_names.nd (pi_tup (pv 1)) (blkOk_by (N := ["net", "way", "index"]) (sc := defScope s__law_names) (by decide +kernel)) (fun _ _ _ _ _ => pg_name (i := 2) sc__law_names.nd rfl (Or.inl rfl)) (fun _ _ _ _ _ => pts_nil) (fun _ _ _ _ _ => (pe_ix (show IxR _ (rIxT K) from ix_tup) (pe_ix (show IxR _ (rIxT K) from ix_tup) (pe_ix (show IxR _ (rIxT K) from ix_tup) (pv 0) pe_int (fun _ _ => rfl)) (pv 2) (fun _ _ => rfl)) pe_int (fun _ _ => rfl)))) pa_nil)))), ?_⟩
    obtain ⟨na, np, nn, nt, sx, rfl, h0, h1, h2, h3, h4⟩ := id hv
    refine ⟨_, rfl, t, rfl, ⟨_, SqT.of ht⟩, fun D hD => lc_tup (K := K) (a := t) (xs := intsV l) (fun i H' => Fill H D (((l.map (nmAt N)).take i).map V.str) H') (.start hD) (fun i H' _ fl => SqT.of (fl.same _ _ ht)) ?_ ?_⟩
    · intro i x H' hx fl
      obtain ⟨j, hj, rfl⟩ := map_at hx
      have hjl := hi j (List.mem_of_getElem? hj)
      have hil := (List.getElem?_eq_some_iff.mp hj).1
      have hst : N.steps[j]? = some N.steps[j] := List.getElem?_eq_getElem hjl
      generalize N.steps[j] = s1 at hst
      obtain ⟨sv, hsv, sa, si, so, st, se, rfl, g0, g1, g2, g3, g4⟩ := paired_get h4 hst
      refine ⟨rfl, _, rfl, na, _, 3, _, rfl, rfl, SqT.of (fl.same _ _ h0), rfl, _, rfl, nt, _, _, _, rfl, rfl, SqT.of (fl.same _ _ h3), atI_nat hsv, sa, _, 0, _, rfl, rfl, SqT.of (fl.same _ _ g0), rfl, _, fl.at_, ?_, fl.add ?_⟩
      · refine small ?_
        rw [List.length_map, List.length_take]
        omega
      · rw [take_add (show (l.map (nmAt N))[i]? = some s1.nm by
          rw [List.getElem?_map, hj]
          show some (nmAt N j) = _
          unfold nmAt
          rw [hst]), List.map_append]
        rfl
    · intro H' fl
      rw [show (intsV l).length = (l.map (nmAt N)).length by unfold intsV; rw [List.length_map, List.length_map], List.take_length] at fl
      refine ⟨D, _, rfl, .inl ⟨SqL.of fl.at_, fun p hp => ?_⟩⟩
      exact k _ p (fl.same.trans (same_upd hp)) upd_same
abbrev s__law_holds : Stmt := top 43
theorem sc__law_holds : FnScope ["net", "tests", "values", "worths", "note", "sign", "number", "most"] ["net", "tests", "values"] (defScope s__law_holds) := ⟨rfl, rfl, rfl, by decide +kernel, rfl, by decide +kernel, by decide +kernel⟩
theorem ok_lholds {f : Addr} {fd : FuncData} (F : Fun K "_law_holds" "_law_holds" s__law_holds f fd) (T : Tx mg) : FnOk P w K mg base CX0 1 f fd ["net", "tests", "values"] sp_allhold := by
  refine F.ok sc__law_holds (fun vs H Q E h => ?_) (fun cdv A outer s H vs Q E hr h => ?_)
  · obtain ⟨v, N, t, u, ts, ns, rfl, _⟩ := h
    rfl
  · obtain ⟨v, N, t, u, ts, ns, rfl, hv, hN, ht, htl, htn, hu, hul, k⟩ := h
    refine ⟨_, (pss_cons (ps_set (i := 3) sc__law_holds.nd rfl (Or.inl rfl) (DicT.pe_dictZip rfl (by rfl) T.n_dict (by rfl) T.n_zip (pa_cons (pe_lc (own := [("note", 4), ("most", 7)]) (g := (gTup K 2 (gCons (gName 4) (gCons (gName 7) gNil)))) (tt := tYes) rfl sc__law_holds.nd (pi_tup (pe_ix ix_tup (pv 0) pe_int (fun _ _ => rfl))) (blkOk_by (N := ["net", "tests", "values", "worths", "note", "sign", "number", "most"]) (sc := defScope s__law_holds) (by decide +kernel)) (fun _ _ _ _ _ => by exact pg_tup rfl (pgs_cons (pg_name (i := 4) sc__law_holds.nd rfl (Or.inl rfl)) (pgs_cons (pg_name (i := 7) sc__law_holds.nd rfl (Or.inl rfl)) pgs_nil))) (fun _ _ _ _ _ => pts_nil) (fun _ _ _ _ _ => (pv 4))) (pa_cons (pv 2) pa_nil))))
      (pss_cons (ps_for PassesOwn.never rfl (pi_tup (pv 1)) (pg_tup rfl (pgs_cons (pg_name (i := 4) sc__law_holds.nd rfl (Or.inl rfl)) (pgs_cons (pg_name (i := 5) sc__law_holds.nd rfl (Or.inl rfl)) (pgs_cons (pg_name (i := 6) sc__law_holds.nd rfl (Or.inl rfl)) pgs_nil)))) (pss_one (ps_if (pt_not (NetT.pt_ifExp (pt_cmpR op_eq (pv 5) pe_str (nomark _)) (pt_cmpR op_lt (pe_dget (hu_of hr) (pv 3) (pv 4) (fun _ _ => rfl)) (pv 6) (nomark _)) (NetT.pt_ifExp (pt_cmpR op_eq (pv 5) pe_str (nomark _)) (pt_cmpR op_gt (pe_dget (hu_of hr) (pv 3) (pv 4) (fun _ _ => rfl)) (pv 6) (nomark _)) (pt_cmpR op_eq (pe_dget (hu_of hr) (pv 3) (pv 4) (fun _ _ => rfl)) (pv 6) (nomark _))))) (pss_one (ps_ret pe_bl)) pss_nil)))
      (pss_one (ps_ret pe_bl)))), ?_⟩
    obtain ⟨na, np, nn, nt, sx, rfl, h0, h1, ⟨ts', e2, hp2⟩, h3, h4⟩ := hv
    obtain ⟨o, ts0, ht, hp⟩ := ht
    have ul : ts'.length = N.notes.length := hp2.length
    have nt2 := hN.nt
    refine ⟨_, rfl, na, _, 2, _, rfl, rfl, SqT.of h0, rfl, nn, rfl, ⟨_, SqT.of e2⟩, fun D hD => ?_⟩
    refine lc_tup (K := K) (a := nn) (xs := ts'.map V.ref) (fun i H' => Fill H D (((N.notes.take i).map (·.1)).map V.str) H') (.start hD) (fun i H' _ fl => SqT.of (fl.same _ _ e2)) ?_ ?_
    · intro i x H' hx fl
      obtain ⟨t1, ht1, rfl⟩ := map_at hx
      obtain ⟨nq, hnq, hpt⟩ := paired_getL hp2 ht1
      refine ⟨t1, _, rfl, SqT.of (fl.same _ _ hpt), rfl, _, _, rfl, _, _, rfl, rfl, wipe2 (by decide) (by decide), _, rfl, _, fl.at_, ?_, fl.add ?_⟩
      · refine small ?_
        rw [List.length_map, List.length_map, List.length_take]
        omega
      · rw [take_add hnq, List.map_append, List.map_append]
        rfl
    intro H1 fl
    rw [List.length_map, ul, List.take_length] at fl
    have hu1 := fl.same _ _ hu
    refine ⟨_, rfl, true, false, D, u, (N.notes.map (·.1)).map Sum.inr, ns.map V.int, rfl, SqL.of (by rw [fl.at_, List.map_map, List.map_map, List.map_map]; rfl), SqT.of hu1, by rw [List.length_map, List.length_map, List.length_map, hul], line_le _ (by rw [List.length_map, List.length_map]; omega), fun p hpn => ?_⟩
    have ez : (((N.notes.map (·.1)).map (Sum.inr : Str → Key)).zip (ns.map V.int)) = (((N.notes.map (·.1)).zip ns)).map entS := by
      rw [List.zip_map]
      rfl
    rw [ez]
    have s2 := fl.same.trans (same_upd (o := .dK (mergeK [] (((N.notes.map (·.1)).zip ns).map entS))) hpn)
    have hd := @upd_same H1 p (.dK (mergeK [] (((N.notes.map (·.1)).zip ns).map entS)))
    generalize upd H1 p (.dK (mergeK [] (((N.notes.map (·.1)).zip ns).map entS))) = H2 at s2 hd ⊢
    refine ⟨_, rfl, t, rfl, ⟨_, .inl (.inr ⟨_, s2 _ _ ht⟩)⟩, ?_⟩
    refine for_tup (K := K) (a := t) (xs := ts0.map V.ref) (fun i σ H' => ∃ c4 c5 c6 c7, σ = [some (.ref na), some (.ref t), some (.ref u), some (.ref p), c4, c5, c6, c7] ∧ H' = H2 ∧ (ts.take i).all (holdW N ns) = true) ⟨_, _, _, _, rfl, rfl, rfl⟩ (fun i σ H' _ ⟨_, _, _, _, _, e, _⟩ => by rw [e]; exact .inl (.inr ⟨_, s2 _ _ ht⟩)) ?_ ?_
    · rintro i x σ H' hx ⟨c4, c5, c6, c7, rfl, rfl, hall⟩
      obtain ⟨t1, ht1, rfl⟩ := map_at hx
      obtain ⟨q, hq, hpt⟩ := paired_getL hp ht1
      obtain ⟨wv, hw⟩ := worth_someN hul (htn q (List.mem_of_getElem? hq))
      have hdg : DGet H' p (.str q.1) (some (.int wv)) := by
        have := DGet.k (k := Sum.inr q.1) hd
        rw [valV_of] at this
        rw [show lastO ((N.notes.map (·.1)).zip ns) q.1 = some wv from hw] at this
        exact this
      have hW : holdW N ns q = holdT q.2.1 q.2.2 wv := by
        unfold holdW
        rw [hw]
        rfl
      have hal : (ts.take (i + 1)).all (holdW N ns) = holdT q.2.1 q.2.2 wv := by
        rw [take_add hq, List.all_append, hall, List.all_cons, List.all_nil, hW, Bool.true_and, Bool.and_true]
      refine ⟨t1, _, rfl, SqT.of (s2 _ _ hpt), rfl, _, _, rfl, _, _, rfl, _, _, rfl, rfl, ?_⟩
      dsimp only [gName, List.set]
      have fin : ∀ b, holdT q.2.1 q.2.2 wv = b → (if (!b) = true then tRet (tC (V.bl false)) { nx := (fun σ H'' => ∃ c4 c5 c6 c7, σ = [some (.ref na), some (.ref t), some (.ref u), some (.ref p), c4, c5, c6, c7] ∧ H'' = H' ∧ (ts.take (i + 1)).all (holdW N ns) = true), rt := Q } [some (V.ref na), some (.ref t), some (.ref u), some (.ref p), some (.str q.1), some (.str q.2.1), some (.int q.2.2), c7] H' else (∃ d4 d5 d6 d7, [some (V.ref na), some (.ref t), some (.ref u), some (.ref p), some (V.str q.1), some (.str q.2.1), some (.int q.2.2), c7] = [some (.ref na), some (.ref t), some (.ref u), some (.ref p), d4, d5, d6, d7] ∧ H' = H' ∧ (ts.take (i + 1)).all (holdW N ns) = true)) := by
        intro b hb
        cases b with
        | true => exact iteF ⟨_, _, _, _, rfl, rfl, by rw [hal, hb]⟩
        | false =>
          refine iteT ?_
          have : allHold N ts ns = false := by
            have e : ts = ts.take (i + 1) ++ ts.drop (i + 1) := (List.take_append_drop ..).symm
            unfold allHold
            rw [e, List.all_append, hal, hb]
            rfl
          have k2 := k _ s2
          rw [this] at k2
          exact k2
      obtain ⟨q1, sg, num⟩ := q
      dsimp only at *
      refine ⟨_, rfl, rfl, _, rfl, ?_⟩
      by_cases e1 : sg = "<"
      · rw [decide_eq_true (show V.str sg = V.str "<" by rw [e1])]
        refine iteT ⟨_, rfl, _, rfl, _, _, rfl, hdg, _, rfl, _, _, rfl, rfl, _, rfl, ?_⟩
        exact fin _ (by unfold holdT; rw [if_pos e1])
      rw [decide_eq_false (fun z : V.str sg = V.str "<" => e1 (by injection z))]
      refine iteF ⟨_, rfl, rfl, _, rfl, ?_⟩
      by_cases e2 : sg = ">"
      · rw [decide_eq_true (show V.str sg = V.str ">" by rw [e2])]
        refine iteT ⟨_, rfl, _, rfl, _, _, rfl, hdg, _, rfl, _, _, rfl, rfl, _, rfl, ?_⟩
        exact fin _ (by unfold holdT; rw [if_neg e1, if_pos e2])
      rw [decide_eq_false (fun z : V.str sg = V.str ">" => e2 (by injection z))]
      refine iteF ⟨_, rfl, _, rfl, _, _, rfl, hdg, _, rfl, rfl, _, rfl, ?_⟩
      refine fin _ ?_
      unfold holdT
      rw [if_neg e1, if_neg e2]
      by_cases z : wv = num
      · rw [decide_eq_true z, decide_eq_true (by rw [z])]
      · rw [decide_eq_false z, decide_eq_false (fun y => z (by injection y))]
    · rintro σ H' ⟨c4, c5, c6, c7, rfl, rfl, hall⟩
      rw [List.length_map, hp.length, List.take_length] at hall
      have k2 := k _ s2
      rw [show allHold N ts ns = true from hall] at k2
      exact k2
abbrev s__law_first : Stmt := top 44
theorem sc__law_first : FnScope ["net"] ["net"] (defScope s__law_first) := ⟨rfl, rfl, rfl, by decide +kernel, rfl, by decide +kernel, by decide +kernel⟩
theorem ok_lfirst {f : Addr} {fd : FuncData} (F : Fun K "_law_first" "_law_first" s__law_first f fd) (T : Tx mg) : FnOk P w K mg base CX0 1 f fd ["net"] sp_first := by
  refine F.ok sc__law_first (fun vs H Q E h => ?_) (fun cdv A outer s H vs Q E hr h => ?_)
  · obtain ⟨v, N, rfl, _⟩ := h
    rfl
  · obtain ⟨v, N, rfl, hv, hN, k⟩ := h
    refine ⟨_, (pss_one (ps_ret (pe_tup (pa_cons (pe_callTy call_tuple_of (by rfl) T.n_tuple (by decide +kernel) (pa_cons (pe_op op_cat (pe_lst (pa_cons pe_int pa_nil)) (pe_op op_rep (pe_lst (pa_cons pe_int pa_nil)) (pe_op op_sub (pe_callB call_len (by rfl) T.n_len (by decide +kernel) (pa_cons (pe_ix ix_tup (pv 0) pe_int (fun _ _ => rfl)) pa_nil)) pe_int))) pa_nil)) (pa_cons (pe_callTy call_tuple_of (by rfl) T.n_tuple (by decide +kernel) (pa_cons (pe_op op_rep (pe_lst (pa_cons pe_int pa_nil)) (pe_callB call_len (by rfl) T.n_len (by decide +kernel) (pa_cons (pe_ix ix_tup (pv 0) pe_int (fun _ _ => rfl)) pa_nil))) pa_nil)) pa_nil))))), ?_⟩
    obtain ⟨na, np, nn, nt, sx, rfl, h0, h1, ⟨ts', e2, hp2⟩, h3, h4⟩ := hv
    have l2 : ts'.length = N.notes.length := hp2.length
    have pl := hN.pl
    have pl2 := hN.pl2
    have nt2 := hN.nt
    refine ⟨line_le 1 (by decide), fun p0 z0 => ⟨line_le 1 (by decide), fun p1 z1 => ?_⟩⟩
    have s0 := same_upd (o := .lst [.int 1]) z0
    have b0 := @upd_same H p0 (.lst [.int 1])
    generalize upd H p0 (.lst [.int 1]) = H0 at s0 b0 z1 ⊢
    have s1 := s0.trans (same_upd (o := .lst [.int 0]) z1)
    have c0 := same_upd (o := .lst [.int 0]) z1 _ _ b0
    have b1 := @upd_same H0 p1 (.lst [.int 0])
    generalize upd H0 p1 (.lst [.int 0]) = H1 at s1 b1 c0 ⊢
    refine ⟨_, rfl, na, _, 1, _, rfl, rfl, SqT.of (s1 _ _ h0), rfl, .ref np, N.places.length, rfl, .inr ⟨_, SqT.of (s1 _ _ h1), by rw [List.length_map]⟩, _, _, rfl, rfl, p1, _, _, rfl, rfl, b1, by omega, by omega, line_le _ (show 1 * _ ≤ 16777216 by omega), fun p2 z2 => ?_⟩
    have e1 : ((List.replicate (((N.places.length : Nat) : Int) - 1).toNat [V.int 0]).flatten) = List.replicate (N.places.length - 1) (V.int 0) := by
      rw [flat_rep]
      exact congrArg (List.replicate · (V.int 0)) (by omega)
    rw [e1] at *
    have s2 := s1.trans (same_upd (o := .lst (List.replicate (N.places.length - 1) (V.int 0))) z2)
    have c1 := same_upd (o := .lst (List.replicate (N.places.length - 1) (V.int 0))) z2 _ _ c0
    have b2 := @upd_same H1 p2 (.lst (List.replicate (N.places.length - 1) (V.int 0)))
    generalize upd H1 p2 (.lst (List.replicate (N.places.length - 1) (V.int 0))) = H2 at s2 b2 c1 ⊢
    refine ⟨p0, p2, _, _, rfl, rfl, c1, b2, line_le _ ?_, fun p3 z3 => ?_⟩
    · rw [List.length_replicate]
      show 1 + _ ≤ _
      omega
    have s3 := s2.trans (same_upd (o := .lst ([V.int 1] ++ List.replicate (N.places.length - 1) (V.int 0))) z3)
    have b3 := @upd_same H2 p3 (.lst ([V.int 1] ++ List.replicate (N.places.length - 1) (V.int 0)))
    generalize upd H2 p3 (.lst ([V.int 1] ++ List.replicate (N.places.length - 1) (V.int 0))) = H3 at s3 b3 ⊢
    refine ⟨p3, _, rfl, .inl ⟨SqL.of b3, fun p4 z4 => ?_⟩⟩
    have s4 := s3.trans (same_upd (o := .tup ([V.int 1] ++ List.replicate (N.places.length - 1) (V.int 0))) z4)
    have b4 := @upd_same H3 p4 (.tup ([V.int 1] ++ List.replicate (N.places.length - 1) (V.int 0)))
    generalize upd H3 p4 (.tup ([V.int 1] ++ List.replicate (N.places.length - 1) (V.int 0))) = H4 at s4 b4 ⊢
    refine ⟨line_le 1 (by decide), fun p5 z5 => ?_⟩
    have s45 := same_upd (o := .lst [.int 0]) z5
    have b5 := @upd_same H4 p5 (.lst [.int 0])
    generalize upd H4 p5 (.lst [.int 0]) = H5 at s45 b5 ⊢
    have s5 := s4.trans s45
    refine ⟨_, rfl, na, _, 2, _, rfl, rfl, SqT.of (s5 _ _ h0), rfl, .ref nn, N.notes.length, rfl, .inr ⟨_, SqT.of (s5 _ _ e2), by rw [List.length_map, l2]⟩, p5, _, _, rfl, rfl, b5, by omega, by omega, line_le _ (show 1 * _ ≤ 16777216 by omega), fun p6 z6 => ?_⟩
    have e3 : ((List.replicate ((N.notes.length : Nat) : Int).toNat [V.int 0]).flatten) = List.replicate N.notes.length (V.int 0) := by
      rw [flat_rep]
      exact congrArg (List.replicate · (V.int 0)) (by omega)
    rw [e3] at *
    have s6 := s45.trans (same_upd (o := .lst (List.replicate N.notes.length (V.int 0))) z6)
    have b6 := @upd_same H5 p6 (.lst (List.replicate N.notes.length (V.int 0)))
    generalize upd H5 p6 (.lst (List.replicate N.notes.length (V.int 0))) = H6 at s6 b6 ⊢
    refine ⟨p6, _, rfl, .inl ⟨SqL.of b6, fun p7 z7 => ?_⟩⟩
    have s7 := s6.trans (same_upd (o := .tup (List.replicate N.notes.length (V.int 0))) z7)
    have b7 := @upd_same H6 p7 (.tup (List.replicate N.notes.length (V.int 0)))
    generalize upd H6 p7 (.tup (List.replicate N.notes.length (V.int 0))) = H7 at s7 b7 ⊢
    refine ⟨line_le 2 (by decide), fun p8 z8 => ?_⟩
    refine k _ _ (Same.trans (Same.trans s4 s7) (same_upd z8)) ⟨p4, p7, upd_same, ?_, ?_⟩
    · rw [upd_ne (ne_of_none (s7 _ _ b4) z8), s7 _ _ b4]
      show _ = some (HO.tup (V.int 1 :: List.map V.int (List.replicate (N.places.length - 1) 0)))
      rw [List.map_replicate]
      rfl
    · rw [upd_ne (ne_of_none b7 z8), b7]
      show _ = some (HO.tup (List.map V.int (List.replicate N.notes.length 0)))
      rw [List.map_replicate]
abbrev s__law_may : Stmt := top 45
theorem sc__law_may : FnScope ["net", "state", "index", "step", "has", "needs"] ["net", "state", "index"] (defScope s__law_may) := ⟨rfl, rfl, rfl, by decide +kernel, rfl, by decide +kernel, by decide +kernel⟩
theorem ok_lmay {f f__law_holds f__law_counts : Addr} {fd fd1 fd2 : FuncData} (F : Fun K "_law_may" "_law_may" s__law_may f fd) (T : Tx mg) (d__law_holds : Ok1 P w K mg base CX0 1 "_law_holds" ["net", "tests", "values"] sp_allhold f__law_holds fd1) (d__law_counts : Ok1 P w K mg base CX0 1 "_law_counts" ["net", "some"] sp_counts f__law_counts fd2) : FnOk P w K mg base CX0 2 f fd ["net", "state", "index"] sp_may := by
  refine F.ok sc__law_may (fun vs H Q E h => ?_) (fun cdv A outer s H vs Q E hr h => ?_)
  · obtain ⟨v, N, a, S, i, rfl, _⟩ := h
    rfl
  · obtain ⟨v, N, a, S, i, rfl, hv, hN, hS, hSO, hi, k⟩ := h
    refine ⟨_, (pss_cons (ps_set (i := 3) sc__law_may.nd rfl (Or.inl rfl) (pe_ix ix_tup (pe_ix ix_tup (pv 0) pe_int (fun _ _ => rfl)) (pv 2) (fun _ _ => rfl)))
      (pss_one (ps_ret (pe_and (pe_call d__law_holds.ok (hr.mono (by decide)) rfl d__law_holds.g d__law_holds.kp d__law_holds.b .nil pass0 (pa_cons (pv 0) (pa_cons (pe_ix ix_tup (pv 3) pe_int (fun _ _ => rfl)) (pa_cons (pe_ix ix_tup (pv 1) pe_int (fun _ _ => rfl)) pa_nil)))) (pe_one (pe_cmpR (op_eqLE hr.units0) (pe_lc (own := [("has", 4), ("needs", 5)]) (g := (gTup K 2 (gCons (gName 4) (gCons (gName 5) gNil)))) (tt := (tTest (tOp (rI0 fun i j => V.bl (decide (i < j))) (tVar 4) (tVar 5)))) (te := (tC (V.int 1))) rfl sc__law_may.nd (ZipN.pi_zip2 (by rfl) T.n_zip (pa_cons (pe_ix ix_tup (pv 1) pe_int (fun _ _ => rfl)) (pa_cons (pe_call d__law_counts.ok (hr.mono (by decide)) rfl d__law_counts.g d__law_counts.kp d__law_counts.b .nil pass0 (pa_cons (pv 0) (pa_cons (pe_ix ix_tup (pv 3) pe_int (fun _ _ => rfl)) pa_nil))) pa_nil))) (blkOk_by (N := ["net", "state", "index", "step", "has", "needs"]) (sc := defScope s__law_may) (by decide +kernel)) (fun _ _ _ _ _ => by exact pg_tup rfl (pgs_cons (pg_name (i := 4) sc__law_may.nd rfl (Or.inl rfl)) (pgs_cons (pg_name (i := 5) sc__law_may.nd rfl (Or.inl rfl)) pgs_nil))) (fun _ _ _ _ _ => by exact pts_one (pt_cmpR op_lt (pv 4) (pv 5) (nomark _))) (fun _ _ _ _ _ => by exact pe_int)) (pe_lst pa_nil) (nomark _))))))), ?_⟩
    obtain ⟨na, np, nn, nt, sx, rfl, h0, h1, h2, h3, h4⟩ := id hv
    obtain ⟨t1, t2, ha, ht1, ht2⟩ := hS
    have hst : N.steps[i]? = some N.steps[i] := List.getElem?_eq_getElem hi
    generalize N.steps[i] = s1 at hst
    obtain ⟨sv, hsv, sa, si, so, st, se, rfl, g0, g1, g2, g3, g4⟩ := paired_get h4 hst
    have hm : s1 ∈ N.steps := List.mem_of_getElem? hst
    obtain ⟨z1, z2, z3, z4, z5⟩ := hN.tst s1 hm
    have hM : mayI N S i = mayB N S s1 := by
      unfold mayI
      rw [hst]
    rw [hM] at k
    have lc := cnts_len N s1.ins
    have ls := hSO.l1
    have pl2 := hN.pl2
    refine ⟨_, rfl, na, _, 3, _, rfl, rfl, SqT.of h0, rfl, _, rfl, nt, _, _, _, rfl, rfl, SqT.of h3, atI_nat hsv, ?_⟩
    refine ⟨_, rfl, _, rfl, sa, _, 4, _, rfl, rfl, SqT.of g0, rfl, _, rfl, a, _, 1, _, rfl, rfl, SqT.of ha, rfl, .ref na, N, st, t2, s1.tests, S.2, rfl, hv, hN, g3, z1, z5, ht2, hSO.l2, fun H1 e1 => ?_⟩
    refine ⟨_, rfl, ?_⟩
    cases eA : allHold N s1.tests S.2 with
    | false =>
      refine iteF ?_
      have : mayB N S s1 = false := by
        unfold mayB
        rw [eA]
        rfl
      rw [this] at k
      exact k _ e1
    | true =>
      refine iteT ?_
      have : mayB N S s1 = enough S.1 (cnts N s1.ins) := by
        unfold mayB
        rw [eA]
        rfl
      rw [this] at k
      refine ⟨_, rfl, a, _, 0, _, rfl, rfl, SqT.of (e1 _ _ ha), rfl, _, rfl, _, rfl, sa, _, 2, _, rfl, rfl, SqT.of (e1 _ _ g0), rfl, .ref na, N, si, s1.ins, rfl, hv.same e1, hN, g1.same e1, fun H2 p e2 hn hp => ?_⟩
      have e12 := e1.trans e2
      refine ⟨false, true, t1, p, _, _, rfl, SqT.of (e12 _ _ ht1), SqL.of hp, fun D hD => ?_⟩
      refine lc_it (ZipN.walk_zip2 (K := K) (n := S.1.length) (by rw [List.length_map]) (by rw [List.length_map, lc, ls])) (fun i H' => Fill H2 D ((((S.1.zip (cnts N s1.ins)).take i).filter fun q => decide (q.1 < q.2)).map fun _ => V.int 1) H') (.start hD) (fun i H' _ fl => ⟨SqT.of (fl.same _ _ (e12 _ _ ht1)), SqL.of (fl.same _ _ hp)⟩) ?_ ?_
      · intro j x H3 H4 hj fl hy
        obtain ⟨T, x1, x2, rfl, hT, rfl, y1, y2⟩ := hy
        obtain ⟨n1, hn1, rfl⟩ := map_at y1
        obtain ⟨n2, hn2, rfl⟩ := map_at y2
        have fl2 := fl.ext (same_upd (o := .tup [.int n1, .int n2]) hT)
        refine ⟨T, _, rfl, SqT.of upd_same, rfl, _, _, rfl, _, _, rfl, rfl, wipe2 (by decide) (by decide), _, rfl, _, rfl, _, _, rfl, rfl, _, rfl, ?_⟩
        have ht : ((S.1.zip (cnts N s1.ins)).take (j + 1)).filter (fun q => decide (q.1 < q.2)) = ((S.1.zip (cnts N s1.ins)).take j).filter (fun q => decide (q.1 < q.2)) ++ (if decide (n1 < n2) = true then [(n1, n2)] else []) := by
          rw [take_add (zip_at hn1 hn2), List.filter_append, List.filter_cons, List.filter_nil]
        cases hlt : decide (n1 < n2) with
        | false =>
          rw [hlt, if_neg (by decide), List.append_nil] at ht
          refine iteF ?_
          rw [ht]
          exact fl2
        | true =>
          rw [hlt, if_pos rfl] at ht
          refine iteT ⟨_, fl2.at_, ?_, fl2.add ?_⟩
          · refine small ?_
            have := List.length_filter_le (fun q : Int × Int => decide (q.1 < q.2)) ((S.1.zip (cnts N s1.ins)).take j)
            rw [List.length_take] at this
            rw [List.length_map]
            omega
          · rw [ht, List.map_append]
            rfl
      · intro H3 fl
        rw [List.take_of_length_le (by rw [List.length_zip]; omega)] at fl
        refine ⟨Nat.zero_le _, fun p0 hp0 => ?_⟩
        have s3 := same_upd (o := .lst []) hp0
        refine ⟨D, p0, _, rfl, rfl, SqL.of (s3 _ _ fl.at_), SqL.of upd_same, ?_⟩
        have k2 := k _ ((e12.trans fl.same).trans s3)
        have e5 : ((((S.1.zip (cnts N s1.ins)).filter fun q => decide (q.1 < q.2)).map fun _ => V.int 1)).isEmpty = enough S.1 (cnts N s1.ins) := by
          unfold enough
          generalize S.1.zip (cnts N s1.ins) = l
          induction l with
          | nil => rfl
          | cons q l ih =>
            rw [List.filter_cons, List.all_cons]
            by_cases hq : q.1 < q.2
            · rw [decide_eq_true hq, if_pos rfl, decide_eq_false (by omega)]
              rfl
            · rw [decide_eq_false hq, if_neg (by decide), decide_eq_true (by omega), ih, Bool.true_and]
        rw [e5]
        exact k2
abbrev s__law_led : Stmt := top 46
theorem sc__law_led : FnScope ["net", "state", "index", "step", "tokens", "told", "has", "less", "more", "note", "most", "value"] ["net", "state", "index"] (defScope s__law_led) := ⟨rfl, rfl, rfl, by decide +kernel, rfl, by decide +kernel, by decide +kernel⟩
theorem ok_lled {f f__law_counts : Addr} {fd fd2 : FuncData} (F : Fun K "_law_led" "_law_led" s__law_led f fd) (T : Tx mg) (d__law_counts : Ok1 P w K mg base CX0 1 "_law_counts" ["net", "some"] sp_counts f__law_counts fd2) : FnOk P w K mg base CX0 2 f fd ["net", "state", "index"] sp_behind := by
  refine F.ok sc__law_led (fun vs H Q E h => ?_) (fun cdv A outer s H vs Q E hr h => ?_)
  · obtain ⟨v, N, a, S, i, rfl, _⟩ := h
    rfl
  · obtain ⟨v, N, a, S, i, rfl, hv, hN, hS, hSO, hi, k⟩ := h
    refine ⟨_, (pss_cons (ps_set (i := 3) sc__law_led.nd rfl (Or.inl rfl) (pe_ix ix_tup (pe_ix ix_tup (pv 0) pe_int (fun _ _ => rfl)) (pv 2) (fun _ _ => rfl)))
      (pss_cons (ps_setLc (i := 4) (own := [("has", 6), ("less", 7), ("more", 8)]) (g := (gTup K 3 (gCons (gName 6) (gCons (gName 7) (gCons (gName 8) gNil))))) (tt := tYes) rfl sc__law_led.nd rfl rfl (sw_true rfl rfl rfl (by decide +kernel)) (ZipN.pi_zip3 (by rfl) T.n_zip (pa_cons (pe_ix ix_tup (pv 1) pe_int (fun _ _ => rfl)) (pa_cons (pe_call d__law_counts.ok (hr.mono (by decide)) rfl d__law_counts.g d__law_counts.kp d__law_counts.b .nil pass0 (pa_cons (pv 0) (pa_cons (pe_ix ix_tup (pv 3) pe_int (fun _ _ => rfl)) pa_nil))) (pa_cons (pe_call d__law_counts.ok (hr.mono (by decide)) rfl d__law_counts.g d__law_counts.kp d__law_counts.b .nil pass0 (pa_cons (pv 0) (pa_cons (pe_ix ix_tup (pv 3) pe_int (fun _ _ => rfl)) pa_nil))) pa_nil)))) (blkOk_by (N := ["net", "state", "index", "step", "tokens", "told", "has", "less", "more", "note", "most", "value"]) (sc := defScope s__law_led) (by decide +kernel)) (fun _ _ _ _ _ => by exact pg_tup rfl (pgs_cons (pg_name (i := 6) sc__law_led.nd rfl (Or.inl rfl)) (pgs_cons (pg_name (i := 7) sc__law_led.nd rfl (Or.inl rfl)) (pgs_cons (pg_name (i := 8) sc__law_led.nd rfl (Or.inl rfl)) pgs_nil)))) (fun _ _ _ _ _ => pts_nil) (fun _ _ _ _ _ => (pe_op op_add (pe_op op_sub (pv 6) (pv 7)) (pv 8))))
      (pss_cons (ps_set (i := 5) sc__law_led.nd rfl (Or.inr rfl) (pe_callTy (DicT.call_dictF rfl) (by rfl) T.n_dict (by decide +kernel) (pa_cons (pe_ix ix_tup (pv 3) pe_int (fun _ _ => rfl)) pa_nil)))
      (pss_one (ps_ret (pe_tup (pa_cons (pe_callTy call_tuple_of (by rfl) T.n_tuple (by decide +kernel) (pa_cons (pv 4) pa_nil)) (pa_cons (pe_callTy call_tuple_of (by rfl) T.n_tuple (by decide +kernel) (pa_cons (pe_lc (own := [("note", 9), ("most", 10), ("value", 11)]) (g := (gTup K 2 (gCons (gTup K 2 (gCons (gName 9) (gCons (gName 10) gNil))) (gCons (gName 11) gNil)))) (tt := tYes) rfl sc__law_led.nd (ZipN.pi_zip2 (by rfl) T.n_zip (pa_cons (pe_ix ix_tup (pv 0) pe_int (fun _ _ => rfl)) (pa_cons (pe_ix ix_tup (pv 1) pe_int (fun _ _ => rfl)) pa_nil))) (blkOk_by (N := ["net", "state", "index", "step", "tokens", "told", "has", "less", "more", "note", "most", "value"]) (sc := defScope s__law_led) (by decide +kernel)) (fun _ _ _ _ _ => by exact pg_tup rfl (pgs_cons (pg_tup rfl (pgs_cons (pg_name (i := 9) sc__law_led.nd rfl (Or.inl rfl)) (pgs_cons (pg_name (i := 10) sc__law_led.nd rfl (Or.inl rfl)) pgs_nil))) (pgs_cons (pg_name (i := 11) sc__law_led.nd rfl (Or.inl rfl)) pgs_nil))) (fun _ _ _ _ _ => pts_nil) (fun _ _ _ _ _ => (pe_dget2 (hu_of hr) (pv 5) (pv 9) (pv 11) ⟨rfl, rfl, rfl, rfl⟩))) pa_nil)) pa_nil)))))))), ?_⟩
    obtain ⟨na, np, nn, nt, sx, rfl, h0, h1, h2, h3, h4⟩ := id hv
    obtain ⟨t1, t2, ha, ht1, ht2⟩ := hS
    have hst : N.steps[i]? = some N.steps[i] := List.getElem?_eq_getElem hi
    generalize N.steps[i] = s1 at hst
    obtain ⟨sv, hsv, sa, si, so, st, se, rfl, g0, g1, g2, g3, g4⟩ := paired_get h4 hst
    have hM : ledI N S i = ledS N S s1 := by
      unfold ledI
      rw [hst]
    rw [hM] at k
    have lc := cnts_len N s1.ins
    have lo := cnts_len N s1.outs
    have ls := hSO.l1
    have lv := hSO.l2
    have pl2 := hN.pl2
    have nt2 := hN.nt
    refine ⟨_, rfl, na, _, 3, _, rfl, rfl, SqT.of h0, rfl, _, rfl, nt, _, _, _, rfl, rfl, SqT.of h3, atI_nat hsv, ?_⟩
    refine ⟨_, rfl, a, _, 0, _, rfl, rfl, SqT.of ha, rfl, _, rfl, _, rfl, sa, _, 2, _, rfl, rfl, SqT.of g0, rfl, .ref na, N, si, s1.ins, rfl, hv, hN, g1, fun H1 p1 e1 n1 hp1 => ?_⟩
    refine ⟨_, rfl, _, rfl, sa, _, 3, _, rfl, rfl, SqT.of (e1 _ _ g0), rfl, .ref na, N, so, s1.outs, rfl, hv.same e1, hN, g2.same e1, fun H2 p2 e2 n2 hp2 => ?_⟩
    have e12 := e1.trans e2
    have g1p := e2 _ _ hp1
    refine ⟨false, true, true, t1, p1, p2, _, _, _, rfl, SqT.of (e12 _ _ ht1), SqL.of g1p, SqL.of hp2, fun D hD => ?_⟩
    refine lc_it (ZipN.walk_zip3 (K := K) (n := S.1.length) (by rw [List.length_map]) (by rw [List.length_map, lc, ls]) (by rw [List.length_map, lo, ls])) (fun i H' => Fill H2 D (((z3 S.1 (cnts N s1.ins) (cnts N s1.outs)).take i).map V.int) H') (.start hD) (fun i H' _ fl => ⟨SqT.of (fl.same _ _ (e12 _ _ ht1)), SqL.of (fl.same _ _ g1p), SqL.of (fl.same _ _ hp2)⟩) ?_ ?_
    · intro j x H3 H4 hj fl hy
      obtain ⟨T, x1, x2, x3, rfl, hT, rfl, y1, y2, y3⟩ := hy
      obtain ⟨n1, hn1, rfl⟩ := map_at y1
      obtain ⟨n2, hn2, rfl⟩ := map_at y2
      obtain ⟨n3, hn3, rfl⟩ := map_at y3
      have fl2 := fl.ext (same_upd (o := .tup [.int n1, .int n2, .int n3]) hT)
      refine ⟨T, _, rfl, SqT.of upd_same, rfl, _, _, rfl, _, _, rfl, _, _, rfl, rfl, wipe3 (by decide) (by decide) (by decide), _, rfl, _, rfl, _, _, rfl, rfl, _, rfl, _, _, rfl, rfl, _, fl2.at_, ?_, fl2.add ?_⟩
      · refine small ?_
        rw [List.length_map, List.length_take]
        omega
      · rw [take_add (z3_at hn1 hn2 hn3), List.map_append]
        rfl
    intro H3 fl
    rw [List.take_of_length_le (by rw [z3_len (by omega) (by omega)]; exact Nat.le_refl _)] at fl
    have e3 := e12.trans fl.same
    obtain ⟨o5, ts5, ha5, hd5, hq5⟩ := CnT.same g4 e3
    dsimp only [gName, List.set]
    refine ⟨_, rfl, sa, _, 5, _, rfl, rfl, SqT.of (e3 _ _ g0), rfl, se, o5, ts5, s1.sets.map entS, rfl, ha5, hd5, pairs_sq hq5, fun p5 n5 => ?_⟩
    have e5 := e3.trans (same_upd (o := .dK (mergeK [] (s1.sets.map entS))) n5)
    have hp5 := @upd_same H3 p5 (.dK (mergeK [] (s1.sets.map entS)))
    have hD5 := same_upd (o := .dK (mergeK [] (s1.sets.map entS))) n5 _ _ fl.at_
    generalize upd H3 p5 (.dK (mergeK [] (s1.sets.map entS))) = H5 at e5 hp5 hD5 ⊢
    dsimp only [gName, List.set]
    refine ⟨_, rfl, D, _, rfl, .inl ⟨SqL.of hD5, fun p3 n3 => ?_⟩⟩
    have e6 := e5.trans (same_upd (o := .tup ((z3 S.1 (cnts N s1.ins) (cnts N s1.outs)).map V.int)) n3)
    have hp3 := @upd_same H5 p3 (.tup ((z3 S.1 (cnts N s1.ins) (cnts N s1.outs)).map V.int))
    have hp56 := same_upd (o := .tup ((z3 S.1 (cnts N s1.ins) (cnts N s1.outs)).map V.int)) n3 _ _ hp5
    generalize upd H5 p3 (.tup ((z3 S.1 (cnts N s1.ins) (cnts N s1.outs)).map V.int)) = H6 at e6 hp3 hp56 ⊢
    obtain ⟨tn, hn0, hnp⟩ := h2
    have ln : tn.length = N.notes.length := hnp.length
    refine ⟨_, rfl, na, _, 2, _, rfl, rfl, SqT.of (e6 _ _ h0), rfl, _, rfl, a, _, 1, _, rfl, rfl, SqT.of (e6 _ _ ha), rfl, false, false, nn, t2, _, _, rfl, SqT.of (e6 _ _ hn0), SqT.of (e6 _ _ ht2), fun D2 hD2 => ?_⟩
    refine lc_it (ZipN.walk_zip2 (K := K) (n := S.2.length) (by rw [List.length_map, ln, lv]) (by rw [List.length_map])) (fun i H' => Fill H6 D2 ((((N.notes.zip S.2).map (setV s1)).take i).map V.int) H') (.start hD2) (fun i H' _ fl => ⟨SqT.of (fl.same _ _ (e6 _ _ hn0)), SqT.of (fl.same _ _ (e6 _ _ ht2))⟩) ?_ ?_
    · intro j x H7 H8 hj f6 hy
      obtain ⟨T, x1, x2, rfl, hT, rfl, y1, y2⟩ := hy
      obtain ⟨tt, htt, rfl⟩ := map_at y1
      obtain ⟨n2, hn2, rfl⟩ := map_at y2
      obtain ⟨nq, hnq, hpt⟩ := paired_getL hnp htt
      have sx := same_upd (o := .tup [.ref tt, .int n2]) hT
      have f7 := f6.ext sx
      have hd := f7.same _ _ hp56
      have hdg : DGet (upd H7 T (.tup [.ref tt, .int n2])) p5 (.str nq.1) ((lastO s1.sets nq.1).map V.int) := by
        rw [← valV_of]
        exact DGet.k (k := Sum.inr nq.1) hd
      refine ⟨T, _, rfl, SqT.of upd_same, rfl, _, _, rfl, tt, _, rfl, SqT.of (sx _ _ (f6.same _ _ (e6 _ _ hpt))), rfl, _, _, rfl, _, _, rfl, rfl, _, _, rfl, rfl, wipe3 (by decide) (by decide) (by decide), _, rfl, p5, rfl, .inl ⟨_, .inl hd⟩, _, rfl, _, rfl, _, hdg, _, f7.at_, ?_, f7.add ?_⟩
      · refine small ?_
        rw [List.length_map, List.length_take]
        omega
      · rw [take_add (show ((N.notes.zip S.2).map (setV s1))[j]? = some (setV s1 (nq, n2)) by rw [List.getElem?_map, zip_at hnq hn2]; rfl), List.map_append]
        refine congrArg (_ ++ ·) ?_
        show [V.int ((lastO s1.sets nq.1).getD n2)] = _
        cases lastO s1.sets nq.1 <;> rfl
    intro H7 f6
    rw [List.take_of_length_le (by rw [List.length_map, List.length_zip]; omega)] at f6
    refine ⟨D2, _, rfl, .inl ⟨SqL.of f6.at_, fun p6 n6 => ?_⟩⟩
    refine ⟨line_le 2 (by decide), fun p7 n7 => ?_⟩
    have e7 := (e6.trans f6.same).trans (same_upd (o := .tup (((N.notes.zip S.2).map (setV s1)).map V.int)) n6)
    have hp6 := @upd_same H7 p6 (.tup (((N.notes.zip S.2).map (setV s1)).map V.int))
    have hp36 : upd H7 p6 (.tup (((N.notes.zip S.2).map (setV s1)).map V.int)) p3 = some (.tup ((z3 S.1 (cnts N s1.ins) (cnts N s1.outs)).map V.int)) := by
      rw [upd_ne (ne_of_none (f6.same _ _ hp3) n6)]
      exact f6.same _ _ hp3
    refine k _ _ (e7.trans (same_upd n7)) ⟨p3, p6, upd_same, ?_, ?_⟩
    · rw [upd_ne (ne_of_none hp36 n7)]
      exact hp36
    · rw [upd_ne (ne_of_none hp6 n7)]
      exact hp6
abbrev s__law_doable : Stmt := top 47
theorem sc__law_doable : FnScope ["net", "state", "index"] ["net", "state"] (defScope s__law_doable) := ⟨rfl, rfl, rfl, by decide +kernel, rfl, by decide +kernel, by decide +kernel⟩
theorem ok_ldoable {f f__law_may : Addr} {fd fd1 : FuncData} (F : Fun K "_law_doable" "_law_doable" s__law_doable f fd) (T : Tx mg) (d__law_may : Ok1 P w K mg base CX0 2 "_law_may" ["net", "state", "index"] sp_may f__law_may fd1) : FnOk P w K mg base CX0 3 f fd ["net", "state"] sp_ldoable := by
  refine F.ok sc__law_doable (fun vs H Q E h => ?_) (fun cdv A outer s H vs Q E hr h => ?_)
  · obtain ⟨v, N, a, S, rfl, _⟩ := h
    rfl
  · obtain ⟨v, N, a, S, rfl, hv, hN, hS, hSO, k⟩ := h
    refine ⟨_, (pss_one (ps_ret (pe_lc (own := [("index", 2)]) (g := gName 2) (tt := (tB (tCall sp_may [] E0 (tCons (tVar 0) (tCons (tVar 1) (tCons (tVar 2) tNil)))))) (te := (tVar 2)) rfl sc__law_doable.nd (pi_range1 (by rfl) T.n_range (pa_cons (pe_callB call_len (by rfl) T.n_len (by decide +kernel) (pa_cons (pe_ix ix_tup (pv 0) pe_int (fun _ _ => rfl)) pa_nil)) pa_nil)) (blkOk_by (N := ["net", "state", "index"]) (sc := defScope s__law_doable) (by decide +kernel)) (fun _ _ _ _ _ => pg_name (i := 2) sc__law_doable.nd rfl (Or.inl rfl)) (fun _ _ _ _ _ => by exact pts_one (pt_val (pe_call d__law_may.ok (hr.mono (by decide)) rfl d__law_may.g d__law_may.kp d__law_may.b .nil pass0 (pa_cons (pv 0) (pa_cons (pv 1) (pa_cons (pv 2) pa_nil)))))) (fun _ _ _ _ _ => by exact (pv 2))))), ?_⟩
    obtain ⟨na, np, nn, nt, sx, rfl, h0, h1, h2, h3, h4⟩ := id hv
    have hst := hN.st
    refine ⟨_, rfl, na, _, 3, _, rfl, rfl, SqT.of h0, rfl, .ref nt, N.steps.length, rfl, .inr ⟨_, SqT.of h3, h4.length.symm⟩, ?_⟩
    refine ⟨_, rfl, by omega, by omega, fun D hD => ?_⟩
    refine lc_it walk_range (fun i H' => Fill H D (intsV ((List.range i).filter (mayI N S))) H') (.start hD) (fun i H' _ fl => trivial) ?_ ?_
    · intro j x H3 H4 hj fl hy
      obtain ⟨rfl, rfl⟩ := hy
      have hj2 : j < N.steps.length := by omega
      refine ⟨rfl, _, rfl, _, rfl, _, rfl, .ref na, N, a, S, j, congrArg (fun z => [V.ref na, V.ref a, V.int z]) (Int.zero_add _), hv.same fl.same, hN, hS.same fl.same, hSO, hj2, fun H5 e5 => ?_⟩
      have fl5 := fl.ext e5
      have hr1 : (List.range (j + 1)).filter (mayI N S) = (List.range j).filter (mayI N S) ++ (if mayI N S j = true then [j] else []) := by
        rw [List.range_succ, List.filter_append, List.filter_cons, List.filter_nil]
      cases eM : mayI N S j with
      | false =>
        rw [eM, if_neg (by decide), List.append_nil] at hr1
        refine ⟨_, rfl, iteF ?_⟩
        rw [hr1]
        exact fl5
      | true =>
        rw [eM, if_pos rfl] at hr1
        refine ⟨_, rfl, iteT ⟨_, rfl, _, fl5.at_, ?_, fl5.add ?_⟩⟩
        · refine small ?_
          have := List.length_filter_le (mayI N S) (List.range j)
          rw [List.length_range] at this
          unfold intsV
          rw [List.length_map]
          omega
        · rw [hr1]
          unfold intsV
          rw [List.map_append]
          exact congrArg (fun z => _ ++ [V.int z]) (Int.zero_add _).symm
    · intro H3 fl
      rw [Int.toNat_natCast] at fl
      exact k _ D fl.same hD fl.at_
abbrev s__law_is_ended : Stmt := top 48
theorem sc__law_is_ended : FnScope ["state"] ["state"] (defScope s__law_is_ended) := ⟨rfl, rfl, rfl, by decide +kernel, rfl, by decide +kernel, by decide +kernel⟩
theorem ok_lended {f : Addr} {fd : FuncData} (F : Fun K "_law_is_ended" "_law_is_ended" s__law_is_ended f fd) (T : Tx mg) : FnOk P w K mg base CX0 1 f fd ["state"] sp_lended := by
  refine F.ok sc__law_is_ended (fun vs H Q E h => ?_) (fun cdv A outer s H vs Q E hr h => ?_)
  · obtain ⟨a, S, rfl, _⟩ := h
    rfl
  · obtain ⟨a, S, rfl, hS, hSn, hSl, k⟩ := h
    refine ⟨_, (pss_one (ps_ret (pe_and (pe_cmpR op_eq (pe_ix ix_tup (pe_ix ix_tup (pv 0) pe_int (fun _ _ => rfl)) (pe_un un_neg pe_int) (fun _ _ => rfl)) pe_int (nomark _)) (pe_one (pe_cmpR op_eq (pe_callB (SumT.cr_sumT rfl) (by rfl) T.n_sum (by decide +kernel) (pa_cons (pe_ix ix_tup (pv 0) pe_int (fun _ _ => rfl)) pa_nil)) pe_int (nomark _)))))), ?_⟩
    obtain ⟨t1, t2, ha, ht1, ht2⟩ := hS
    obtain ⟨toks, vals⟩ := S
    rcases List.eq_nil_or_concat toks with rfl | ⟨as, x, hx⟩
    · exact absurd rfl hSn
    rw [List.concat_eq_append] at hx
    subst hx
    change H t1 = some (.tup ((as ++ [x]).map V.int)) at ht1
    have hat : atI ((as ++ [x]).map V.int) (-1) = some (.int x) := by
      rw [List.map_append]
      exact atI_last _ _
    have hE : endL (as ++ [x], vals) = (decide (x = 1) && decide ((as ++ [x]).sum = 1)) := by
      show (decide ((as ++ [x]).getLast? = some 1) && _) = _
      rw [List.getLast?_concat]
      have : decide (some x = some 1) = decide (x = 1) := by
        by_cases z : x = 1
        · rw [decide_eq_true z, decide_eq_true (by rw [z])]
        · rw [decide_eq_false z, decide_eq_false (fun y => z (by injection y))]
      rw [this]
    rw [hE] at k
    refine ⟨_, rfl, a, _, 0, _, rfl, rfl, SqT.of ha, rfl, _, rfl, t1, _, -1, _, rfl, rfl, SqT.of ht1, hat, rfl, decide (x = 1), congrArg V.bl ?_, ?_⟩
    · by_cases z : x = 1
      · rw [decide_eq_true z, decide_eq_true (by rw [z])]
      · rw [decide_eq_false z, decide_eq_false (fun y => z (by injection y))]
    by_cases z : x = 1
    · rw [decide_eq_true z] at k ⊢
      refine iteT ⟨_, rfl, a, _, 0, _, rfl, rfl, SqT.of ha, rfl, t1, as ++ [x], rfl, SqT.of ht1, rfl, ?_⟩
      have e3 : decide (V.int (as ++ [x]).sum = V.int 1) = decide ((as ++ [x]).sum = 1) := by
        by_cases z : (as ++ [x]).sum = 1
        · rw [decide_eq_true z, decide_eq_true (by rw [z])]
        · rw [decide_eq_false z, decide_eq_false (fun y => z (by injection y))]
      rw [e3]
      exact k _ (fun _ _ e => e)
    · rw [decide_eq_false z] at k ⊢
      exact iteF (k _ (fun _ _ e => e))
end
end Net
namespace Net
open PySem PySem.Spec PyProof.Rows L2 SDx NetR LamX LamO
def sp_lmet : Sp := fun vs H Q _ => ∃ (v : V) (N : NetT), vs = [v] ∧ IsNet H v N ∧ NOk N ∧ (metS N = none → ∀ H', Same H H' → Q .non H') ∧ (∀ M, metS N = some M → ∀ H' p A, Same H H' → H p = none → H' p = some (.lst (rfs A)) → Sts H' A → sts A = M → Q (.ref p) H')
def TTlway : List V → (V → Hp → VK → Prop) → Hp → VK → Prop := fun vs tl H Q => ∃ (v : V) (N : NetT) (M : List Sta) (p : Sta → Bool), vs = [v] ∧ IsNet H v N ∧ NOk N ∧ Clo N M ∧ fstS N ∈ M ∧ M.length ≤ 200 ∧
  (∀ (H' : Hp) (b : Addr) (T : Sta), Same H H' → IsS H' b T → SOk N T → ∀ Q' : VK, (∀ H'', Same H' H'' → Q' (.bl (p T)) H'') → tl (.ref b) H' Q') ∧
  (wayF N p (fstS N) = none → ∀ H', Same H H' → Q .non H') ∧ (∀ l, wayF N p (fstS N) = some l → ∀ H' r, Same H H' → H' r = some (.tup (intsV l)) → Q (.ref r) H')
def sp_lhome : Sp := fun vs H Q _ => ∃ (v : V) (a : Addr) (N : NetT) (S : Sta) (M : List Sta), vs = [v, .ref a] ∧ IsNet H v N ∧ NOk N ∧ IsS H a S ∧ Clo N M ∧ S ∈ M ∧ M.length ≤ 200 ∧
  (wayF N endL S = none → ∀ H', Same H H' → Q .non H') ∧ (∀ l, wayF N endL S = some l → ∀ H' r, Same H H' → H' r = some (.tup (intsV l)) → Q (.ref r) H')
section
variable {P : Program} {w : World} {K : PySem.W.Frag} {mg : Str → Option Value} {base : Heap}
def WLM (P : Program) (w : World) (H0 : Hp) (v : V) (N : NetT) : Nat → L2.St → Hp → Prop := fun n σ H => ∃ (fd lv sd : Addr) (c4 c5 c6 c7 : Option V) (Fa A L : AS), σ = [some v, some (.ref fd), some (.ref lv), some (.ref sd), c4, c5, c6, c7] ∧ Same H0 H ∧ FA H0 H fd Fa ∧ FA H0 H lv A ∧ FD P w H0 H sd L ∧ sts L = sts Fa ∧
  bfs N n (sts L) (sts A) = metS N ∧ (2003 ≤ L.length + n ∨ (A = [] ∧ 1 ≤ n)) ∧ L.length ≤ 2000 ∧ A.length ≤ 2000 ∧ oks N (sts A)
abbrev s__law_met : Stmt := top 49
theorem sc__law_met : FnScope ["net", "found", "level", "seen", "later", "state", "index", "there"] ["net"] (defScope s__law_met) := ⟨rfl, rfl, rfl, by decide +kernel, rfl, by decide +kernel, by decide +kernel⟩
theorem ok_lmet {f f__law_first f__law_doable f__law_led : Addr} {fd fd1 fd2 fd3 : FuncData} (F : Fun K "_law_met" "_law_met" s__law_met f fd) (T : Tx mg) (d__law_first : Ok1 P w K mg base CX0 1 "_law_first" ["net"] sp_first f__law_first fd1) (d__law_doable : Ok1 P w K mg base CX0 3 "_law_doable" ["net", "state"] sp_ldoable f__law_doable fd2) (d__law_led : Ok1 P w K mg base CX0 2 "_law_led" ["net", "state", "index"] sp_behind f__law_led fd3) : FnOk P w K mg base CX0 4 f fd ["net"] sp_lmet := by
  refine F.ok sc__law_met (fun vs H Q E h => ?_) (fun cdv A outer s H vs Q E hr h => ?_)
  · obtain ⟨v, N, rfl, _⟩ := h
    rfl
  · obtain ⟨v, N, rfl, hv, hN, k0, k1⟩ := h
    refine ⟨_, (pss_cons (ps_par (i := 1) (j := 2) (by rfl) sc__law_met.nd rfl rfl (by decide) rfl rfl (pa_cons (pe_lst (pa_cons (pe_call d__law_first.ok (hr.mono (by decide)) rfl d__law_first.g d__law_first.kp d__law_first.b .nil pass0 (pa_cons (pv 0) pa_nil)) pa_nil)) (pa_cons (pe_lst (pa_cons (pe_call d__law_first.ok (hr.mono (by decide)) rfl d__law_first.g d__law_first.kp d__law_first.b .nil pass0 (pa_cons (pv 0) pa_nil)) pa_nil)) pa_nil)) (by rfl))
      (pss_cons (ps_set (i := 3) sc__law_met.nd rfl (Or.inl rfl) (SDx.pe_dispS hr.units (pe_ix ix_list (pv 1) pe_int (fun _ _ => rfl)) pe_bl))
      (pss_cons (ps_while PassesOwn.never (pt_cmpR (op_neLE hr.units0) (pv 2) (pe_lst pa_nil) (nomark _)) (pss_cons (ps_set (i := 4) sc__law_met.nd rfl (Or.inl rfl) (pe_lst pa_nil))
      (pss_cons (ps_for PassesOwn.never rfl (pi_list (pv 2)) (pg_name (i := 5) sc__law_met.nd rfl (Or.inl rfl)) (pss_one (ps_for PassesOwn.never rfl (pi_list (pe_call d__law_doable.ok (hr.mono (by decide)) rfl d__law_doable.g d__law_doable.kp d__law_doable.b .nil pass0 (pa_cons (pv 0) (pa_cons (pv 5) pa_nil)))) (pg_name (i := 6) sc__law_met.nd rfl (Or.inl rfl)) (pss_cons (ps_set (i := 7) sc__law_met.nd rfl (Or.inl rfl) (pe_call d__law_led.ok (hr.mono (by decide)) rfl d__law_led.g d__law_led.kp d__law_led.b .nil pass0 (pa_cons (pv 0) (pa_cons (pv 5) (pa_cons (pv 6) pa_nil)))))
      (pss_one (ps_if (pt_cmpR (SDx.op_notInS hr.units) (pv 7) (pv 3) (by rfl)) (pss_cons (SDx.ps_putS hr.units (pv 3) (pv 7) pe_bl rfl)
      (pss_one (ps_expr (pe_bm PySem.F.plainAttrs_list PySem.F.slot_list_append PySem.F.type_list_append mt_append (pv 4) (pa_cons (pv 7) pa_nil))))) pss_nil))))))
      (pss_cons (ps_par (i := 1) (j := 2) (by rfl) sc__law_met.nd rfl rfl (by decide) rfl rfl (pa_cons (pe_op op_cat (pv 1) (pv 4)) (pa_cons (pv 4) pa_nil)) (by rfl))
      (pss_one (ps_if (pt_cmpR op_gt (pe_callB call_len (by rfl) T.n_len (by decide +kernel) (pa_cons (pv 1) pa_nil)) pe_int (nomark _)) (pss_one (ps_ret pe_non)) pss_nil))))))
      (pss_one (ps_ret (pv 1)))))), ?_⟩
    refine ⟨_, rfl, v, N, rfl, hv, hN, fun H1 a1 e1 ha1 => ⟨line_le 1 (by decide), fun f0 hf0 => ?_⟩⟩
    have ef := e1.trans (same_upd (o := .lst [.ref a1]) hf0)
    refine ⟨_, rfl, v, N, rfl, hv.same ef, hN, fun H3 a3 e3 ha3 => ⟨line_le 1 (by decide), fun l0 hl0 => ⟨_, _, rfl, ?_⟩⟩⟩
    have fa1 := FA.put (C := [(a1, fstS N)]) (FA.start e1 hf0) (Sts.one (ha1.same (same_upd hf0)))
    rw [upd_upd] at fa1
    have s3 := ef.trans e3
    have fa3 := FA.put (C := [(a3, fstS N)]) (FA.start s3 hl0) (Sts.one (ha3.same (same_upd hl0)))
    rw [upd_upd] at fa3
    have fa1' := (fa1.ext e3).ext (same_upd (o := .lst ([] ++ [.ref a3])) hl0)
    have s4 := s3.trans (same_upd (o := .lst ([] ++ [.ref a3])) hl0)
    have ha1' : IsS (upd H3 l0 (.lst ([] ++ [.ref a3]))) a1 (fstS N) := ((ha1.same (same_upd (o := .lst [.ref a1]) hf0)).same e3).same (same_upd hl0)
    refine fun F0 hF0 => ?_
    have s40 := same_upd (o := SDO P w F0 []) hF0
    refine ⟨_, rfl, f0, _, 0, _, rfl, rfl, SqL.of (s40 _ _ fa1'.at_), rfl, a1, fstS N, rfl, rfl, ha1'.same s40, upd_same, ?_⟩
    have fd5 : FD P w H (upd (upd (upd H3 l0 (.lst ([] ++ [.ref a3]))) F0 (SDO P w F0 [])) F0 (SDO P w F0 [(a1, fstS N)])) F0 [(a1, fstS N)] := FD.put (L := []) ⟨s4.free hF0, upd_same, fun _ x => by cases x⟩ (ha1'.same s40)
    have s5 : Same H (upd (upd (upd H3 l0 (.lst ([] ++ [.ref a3]))) F0 (SDO P w F0 [])) F0 (SDO P w F0 [(a1, fstS N)])) := Same.own (s4.trans s40) (s4.free hF0)
    have s45 : Same (upd H3 l0 (.lst ([] ++ [.ref a3]))) (upd (upd (upd H3 l0 (.lst ([] ++ [.ref a3]))) F0 (SDO P w F0 [])) F0 (SDO P w F0 [(a1, fstS N)])) := Same.own s40 hF0
    have fa15 := fa1'.ext s45
    have fa35 := fa3.ext s45
    dsimp only [gName, L2.start, List.set, List.replicate, List.map, List.length]
    refine seq_join (t := tWhile _ _) (fun σ' H' => ∃ (fd lv sd : Addr) (c4 c5 c6 c7 : Option V) (Fa : AS), σ' = [some v, some (.ref fd), some (.ref lv), some (.ref sd), c4, c5, c6, c7] ∧ Same H H' ∧ FA H H' fd Fa ∧ metS N = some (sts Fa)) (fun D hD => ?_) ?_
    · refine ⟨WLM P w H v N, ⟨3000, f0, l0, F0, none, none, none, none, _, _, _, rfl, s5, fa15, fa35, fd5, rfl, rfl, ?_, ?_, ?_, ?_⟩, ?_⟩
      · refine .inl ?_
        show 2003 ≤ 1 + 3000
        omega
      · show 1 ≤ 2000
        omega
      · show 1 ≤ 2000
        omega
      · intro S hS
        rcases List.mem_cons.mp hS with rfl | hS
        · exact SOk.fst hN
        · cases hS
      rintro n σ H50 ⟨fd, lv, sd, c4, c5, c6, c7, Fa, A, L, rfl, sm, fF, fA, fD, eF, hb, hn, hL, hA, hok⟩
      obtain ⟨n, rfl⟩ : ∃ n', n = n' + 1 := ⟨n - 1, by rcases hn with hn | hn <;> omega⟩
      refine ⟨_, rfl, Nat.zero_le _, fun p0 hp0 => ?_⟩
      have s50 := same_upd (o := .lst []) hp0
      refine ⟨lv, p0, _, rfl, rfl, SqL.of (s50 _ _ fA.at_), SqL.of upd_same, !(rfs A).isEmpty, rfl, ?_⟩
      replace sm := sm.trans s50
      replace fF := fF.ext s50
      replace fA := fA.ext s50
      replace fD := fD.ext s50
      generalize upd H50 p0 (.lst []) = H6 at sm fF fA fD ⊢
      by_cases hAe : A = []
      · subst hAe
        refine iteF (hD _ _ ⟨fd, lv, sd, _, _, _, _, Fa, rfl, sm, fF, ?_⟩)
        rw [← hb, ← eF]
        rfl
      have hne : (!(rfs A).isEmpty) = true := by
        cases A with
        | nil => exact absurd rfl hAe
        | cons _ _ => rfl
      rw [hne]
      refine iteT ⟨WLM P w H v N n, fun σ' H' p => ⟨n, Nat.lt_succ_self n, p⟩, ?_⟩
      refine ⟨Nat.zero_le _, fun lt hlt => ?_⟩
      dsimp only [gName, List.set]
      have slt := same_upd (o := .lst []) hlt
      have ne1 : lt ≠ lv := (ne_of_none fA.at_ hlt).symm
      have ne2 : lt ≠ fd := (ne_of_none fF.at_ hlt).symm
      have hnlt : H lt = none := sm.free hlt
      refine ⟨_, rfl, lv, rfl, ⟨_, SqL.of (slt _ _ fA.at_)⟩, ?_⟩
      refine for_list (K := K) (a := lv) (xs := rfs A) (fun i σ H' => ∃ (c5 c6 c7 : Option V) (C L2 : AS), σ = [some v, some (.ref fd), some (.ref lv), some (.ref sd), some (.ref lt), c5, c6, c7] ∧ Same H H' ∧ FA H H' fd Fa ∧ FA H H' lv A ∧ FA H H' lt C ∧ FD P w H H' sd L2 ∧ sts L2 = sts L ++ sts C ∧ sts C = news (sts L) (((sts A).take i).flatMap (nxts N))) ⟨_, _, _, [], L, rfl, sm.trans slt, fF.ext slt, fA.ext slt, FA.start sm hlt, fD.ext slt, (List.append_nil _).symm, rfl⟩ (fun i σ H' _ ⟨_, _, _, _, _, _, _, _, fA, _⟩ => SqL.of fA.at_) ?_ ?_
      · rintro i x σ H7 hx ⟨c5, c6, c7, C, L2, rfl, sm, fF, fA, fC, fD, eL, eC⟩
        obtain ⟨⟨a, S⟩, hi, rfl⟩ := map_at hx
        have hiA := (List.getElem?_eq_some_iff.mp hi).1
        have hSa : IsS H7 a S := fA.sts _ (List.mem_of_getElem? hi)
        have hSO : SOk N S := hok S (List.mem_map.mpr ⟨_, List.mem_of_getElem? hi, rfl⟩)
        have hiS : (sts A)[i]? = some S := by
          unfold sts
          rw [List.getElem?_map, hi]
          rfl
        dsimp only [gName, List.set]
        refine ⟨_, rfl, _, rfl, v, N, a, S, rfl, hv.same sm, hN, hSa, hSO, fun H8 pw e8 n8 hpw => ?_⟩
        refine ⟨pw, rfl, ⟨_, SqL.of hpw⟩, ?_⟩
        have nDp : sd ≠ pw := ne_of_none fD.at_ n8
        have nCp : lt ≠ pw := ne_of_none fC.at_ n8
        refine for_list (K := K) (a := pw) (xs := intsV (doab N S)) (fun j σ H' => ∃ (c6 c7 : Option V) (C L2 : AS), σ = [some v, some (.ref fd), some (.ref lv), some (.ref sd), some (.ref lt), some (.ref a), c6, c7] ∧ Same H H' ∧ FA H H' fd Fa ∧ FA H H' lv A ∧ FA H H' lt C ∧ FD P w H H' sd L2 ∧ H' pw = some (.lst (intsV (doab N S))) ∧ IsS H' a S ∧ sts L2 = sts L ++ sts C ∧ sts C = news (sts L) (((sts A).take i).flatMap (nxts N) ++ (nxts N S).take j)) ⟨_, _, C, L2, rfl, sm.trans e8, fF.ext e8, fA.ext e8, fC.ext e8, fD.ext e8, hpw, hSa.same e8, eL, by rw [List.take_zero, List.append_nil]; exact eC⟩ (fun j σ H' _ ⟨_, _, _, _, _, _, _, _, _, _, hpw, _⟩ => SqL.of hpw) ?_ ?_
        · rintro j y σ H9 hy ⟨c6, c7, C, L2, rfl, sm, fF, fA, fC, fD, hpw, hSa, eL, eC⟩
          obtain ⟨r, hr2, rfl⟩ := map_at hy
          have hrl : r < N.steps.length := List.mem_range.mp (List.mem_filter.mp (List.mem_of_getElem? hr2)).1
          have hst1 : (nxts N S)[j]? = some (ledI N S r) := by
            unfold nxts
            rw [List.getElem?_map, hr2]
            rfl
          dsimp only [gName, List.set]
          refine ⟨_, rfl, _, rfl, _, rfl, v, N, a, S, r, rfl, hv.same sm, hN, hSa, hSO, hrl, fun H10 b e10 hb2 => ?_⟩
          dsimp only [gName, List.set]
          replace sm := sm.trans e10
          replace fF := fF.ext e10
          replace fA := fA.ext e10
          replace fC := fC.ext e10
          replace fD := fD.ext e10
          replace hpw := e10 _ _ hpw
          replace hSa := IsS.same hSa e10
          have hnew := news_one (sts L) (((sts A).take i).flatMap (nxts N) ++ (nxts N S).take j) (ledI N S r)
          rw [List.append_assoc, ← take_add hst1, ← eC, ← eL] at hnew
          have hCl : C.length ≤ 300000 := by
            have h1 := news_len (sts L) (((sts A).take i).flatMap (nxts N) ++ (nxts N S).take j)
            have h2 := flat_len ((sts A).take i) hN
            have h3 := nxts_len S hN
            rw [← eC, sts_len, List.length_append, List.length_take] at h1
            rw [List.length_take, sts_len] at h2
            omega
          have hL2 : L2.length ≤ 310000 := by
            have h4 := sts_len L2
            rw [eL, List.length_append, sts_len, sts_len] at h4
            omega
          refine ⟨_, rfl, _, rfl, b, sd, ledI N S r, L2, rfl, rfl, hb2, fD.at_, fD.sts, _, rfl, ?_⟩
          by_cases hm : ledI N S r ∈ sts L2
          · rw [if_pos hm] at hnew
            rw [show (!decide (ledI N S r ∈ List.map (fun x => x.2) L2)) = false by rw [decide_eq_true (show ledI N S r ∈ List.map (fun x => x.2) L2 from hm)]; rfl]
            exact iteF ⟨_, _, C, L2, rfl, sm, fF, fA, fC, fD, hpw, hSa, eL, hnew.symm⟩
          · rw [if_neg hm] at hnew
            rw [show (!decide (ledI N S r ∈ List.map (fun x => x.2) L2)) = true by rw [decide_eq_false (show ¬ ledI N S r ∈ List.map (fun x => x.2) L2 from hm)]; rfl]
            refine iteT ⟨_, rfl, _, rfl, sd, b, ledI N S r, L2, rfl, rfl, rfl, hb2, fD.at_, fD.sts, hm, small (by omega), ?_⟩
            have hx1 := (fC.upd (o' := SDO P w sd (L2 ++ [(b, ledI N S r)])) fD.at_ nt_sdo (fC.ne fD))
            have hx2 := (fF.upd (o' := SDO P w sd (L2 ++ [(b, ledI N S r)])) fD.at_ nt_sdo (fF.ne fD))
            have hx3 := (fA.upd (o' := SDO P w sd (L2 ++ [(b, ledI N S r)])) fD.at_ nt_sdo (fA.ne fD))
            have hx4 := fD.put hb2
            have hx5 := Same.own (o := SDO P w sd (L2 ++ [(b, ledI N S r)])) sm fD.new
            have hx6 : upd H10 sd (SDO P w sd (L2 ++ [(b, ledI N S r)])) pw = some (.lst (intsV (doab N S))) := by rw [upd_ne nDp.symm]; exact hpw
            have hx7 := IsS.sk hSa (SK.sdo (o' := SDO P w sd (L2 ++ [(b, ledI N S r)])) fD.at_)
            refine ⟨_, rfl, .inl ⟨rfl, _, SqL.of hx1.at_⟩, _, rfl, lt, _, _, rfl, rfl, hx1.at_, ?_, ?_⟩
            · rw [rfs_len]
              exact small (by omega)
            have hS5 : IsS (upd H10 sd (SDO P w sd (L2 ++ [(b, ledI N S r)]))) b (ledI N S r) := hx4.sts (b, ledI N S r) (List.mem_append_right _ (List.mem_cons_self ..))
            refine ⟨_, _, C ++ [(b, ledI N S r)], L2 ++ [(b, ledI N S r)], rfl, Same.own hx5 fC.new, hx2.upd hx1.at_ nt_lst ne2.symm, hx3.upd hx1.at_ nt_lst ne1.symm, hx1.put (Sts.one hS5), hx4.upd hx1.at_ nt_lst (fC.ne fD).symm, ?_, IsS.sk hx7 (SK.lst hx1.at_), ?_, ?_⟩
            · rw [upd_ne nCp.symm]
              exact hx6
            · rw [sts_app, sts_app, eL, List.append_assoc]
            · rw [sts_app]
              exact hnew.symm
        · rintro σ H9 ⟨c6, c7, C, L2, rfl, sm, fF, fA, fC, fD, hpw, hSa, eL, eC⟩
          refine ⟨_, _, _, C, L2, rfl, sm, fF, fA, fC, fD, eL, ?_⟩
          rw [eC, take_add hiS, List.flatMap_append, List.flatMap_singleton]
          rw [show (intsV (doab N S)).length = (nxts N S).length by unfold nxts intsV; rw [List.length_map, List.length_map], List.take_length]
      · rintro σ H7 ⟨c5, c6, c7, C, L2, rfl, sm, fF, fA, fC, fD, eL, eC⟩
        rw [rfs_len, ← sts_len, List.take_length] at eC
        have hnb : bfs N (n + 1) (sts L) (sts A) = if (sts L ++ news (sts L) ((sts A).flatMap (nxts N))).length > 2000 then none else bfs N n (sts L ++ news (sts L) ((sts A).flatMap (nxts N))) (news (sts L) ((sts A).flatMap (nxts N))) := by
          show (if sts A = [] then some (sts L) else _) = _
          rw [if_neg (fun e : sts A = [] => hAe (List.map_eq_nil_iff.mp e))]
        rw [← eC, ← eL, sts_len, hb] at hnb
        have hFl : Fa.length = L.length := by rw [← sts_len, ← eF, sts_len]
        have hL2l : L2.length = Fa.length + C.length := by
          have := sts_len L2
          rw [eL, List.length_append, sts_len, sts_len] at this
          omega
        have hCl : C.length ≤ 300000 := by
          have h1 := news_len (sts L) ((sts A).flatMap (nxts N))
          have h2 := flat_len (sts A) hN
          rw [← eC, sts_len] at h1
          rw [sts_len] at h2
          omega
        refine ⟨_, rfl, _, rfl, fd, lt, _, _, rfl, rfl, fF.at_, fC.at_, ?_, fun pf hpf => ⟨_, rfl, _, _, rfl, ?_⟩⟩
        · rw [rfs_len, rfs_len]
          exact line_le _ (by omega)
        dsimp only [gName, List.set]
        have spf := same_upd (o := .lst (rfs Fa ++ rfs C)) hpf
        have fFn : FA H (upd H7 pf (.lst (rfs Fa ++ rfs C))) pf (Fa ++ C) := ⟨sm.free hpf, by rw [upd_same, rfs_app], (Sts.app fF.sts fC.sts).same spf⟩
        have fCn := fC.ext spf
        have fDn := fD.ext spf
        refine ⟨_, rfl, .ref pf, (rfs (Fa ++ C)).length, rfl, .inl ⟨_, SqL.of fFn.at_, rfl⟩, _, _, rfl, rfl, _, rfl, ?_⟩
        rw [rfs_len, List.length_append]
        by_cases hbig : L2.length > 2000
        · rw [if_pos hbig] at hnb
          rw [decide_eq_true (show (2000 : Int) < ((Fa.length + C.length : Nat) : Int) by omega)]
          exact iteT (k0 hnb _ (sm.trans spf))
        · rw [if_neg hbig] at hnb
          rw [decide_eq_false (show ¬ (2000 : Int) < ((Fa.length + C.length : Nat) : Int) by omega)]
          refine iteF ⟨pf, lt, sd, _, _, _, _, Fa ++ C, C, L2, rfl, sm.trans spf, fFn, fCn, fDn, ?_, hnb.symm, ?_, by omega, by omega, ?_⟩
          · rw [sts_app, eL, eF]
          · have hn2 : 2003 ≤ L.length + (n + 1) := by
              rcases hn with hn | hn
              · exact hn
              · exact absurd hn.1 hAe
            by_cases hC0 : C = []
            · exact .inr ⟨hC0, by omega⟩
            · have : 0 < C.length := List.length_pos_iff.mpr hC0
              exact .inl (by omega)
          · intro S hS
            rw [eC] at hS
            obtain ⟨S', h3, h4⟩ := List.mem_flatMap.mp (news_mem hS)
            exact nxts_ok (hok S' h3) h4
    · rintro σ H5 ⟨fd, lv, sd, c4, c5, c6, c7, Fa, rfl, sm, fF, hM⟩
      exact ⟨_, rfl, k1 _ hM _ fd Fa sm fF.new fF.at_ fF.sts rfl⟩
abbrev s__law_home : Stmt := top 61
theorem sc__law_home : FnScope ["net", "state", "seen", "level", "good", "longer", "way", "here", "index", "there"] ["net", "state"] (defScope s__law_home) := ⟨rfl, rfl, rfl, by decide +kernel, rfl, by decide +kernel, by decide +kernel⟩
theorem ok_lhome {f f__law_is_ended f__law_doable f__law_led : Addr} {fd fd1 fd2 fd3 : FuncData} (F : Fun K "_law_home" "_law_home" s__law_home f fd) (T : Tx mg) (d__law_is_ended : Ok1 P w K mg base CX0 1 "_law_is_ended" ["state"] sp_lended f__law_is_ended fd1) (d__law_doable : Ok1 P w K mg base CX0 3 "_law_doable" ["net", "state"] sp_ldoable f__law_doable fd2) (d__law_led : Ok1 P w K mg base CX0 2 "_law_led" ["net", "state", "index"] sp_behind f__law_led fd3) : FnOk P w K mg base CX0 4 f fd ["net", "state"] sp_lhome := by
  refine F.ok sc__law_home (fun vs H Q E h => ?_) (fun cdv A outer s H vs Q E hr h => ?_)
  · obtain ⟨v, a, N, S, M, rfl, _⟩ := h
    rfl
  · obtain ⟨v, a, N, S, M, rfl, hv, hN, hS, hM, hSM, hMl, k0, k1⟩ := h
    refine ⟨_, (pss_cons (ps_par (i := 2) (j := 3) (by rfl) sc__law_home.nd rfl rfl (by decide) rfl rfl (pa_cons (SDx.pe_dispS hr.units (pv 1) pe_bl) (pa_cons (pe_lst (pa_cons (pe_tup (pa_cons (pe_tup pa_nil) (pa_cons (pv 1) pa_nil))) pa_nil)) pa_nil)) (by rfl))
      (pss_cons (ps_while PassesOwn.never (pt_cmpR (op_neLE hr.units0) (pv 3) (pe_lst pa_nil) (nomark _)) (pss_cons (ps_setLc (i := 4) (own := [("way", 6), ("here", 7)]) (g := (gTup K 2 (gCons (gName 6) (gCons (gName 7) gNil)))) (tt := (tB (tCall sp_lended [] E0 (tCons (tVar 7) tNil)))) (te := (tVar 6)) rfl sc__law_home.nd rfl rfl (sw_true rfl rfl rfl (by decide +kernel)) (pi_list (pv 3)) (blkOk_by (N := ["net", "state", "seen", "level", "good", "longer", "way", "here", "index", "there"]) (sc := defScope s__law_home) (by decide +kernel)) (fun _ _ _ _ _ => by exact pg_tup rfl (pgs_cons (pg_name (i := 6) sc__law_home.nd rfl (Or.inl rfl)) (pgs_cons (pg_name (i := 7) sc__law_home.nd rfl (Or.inl rfl)) pgs_nil))) (fun _ _ _ _ _ => by exact pts_one (pt_val (pe_call d__law_is_ended.ok (hr.mono (by decide)) rfl d__law_is_ended.g d__law_is_ended.kp d__law_is_ended.b .nil pass0 (pa_cons (pv 7) pa_nil)))) (fun _ _ _ _ _ => by exact (pv 6)))
      (pss_cons (ps_if (pt_cmpR (op_neLE hr.units0) (pv 4) (pe_lst pa_nil) (nomark _)) (pss_one (ps_ret (pe_ix ix_list (pv 4) pe_int (fun _ _ => rfl)))) pss_nil)
      (pss_cons (ps_set (i := 5) sc__law_home.nd rfl (Or.inl rfl) (pe_lst pa_nil))
      (pss_cons (ps_for PassesOwn.never rfl (pi_list (pv 3)) (pg_tup rfl (pgs_cons (pg_name (i := 6) sc__law_home.nd rfl (Or.inl rfl)) (pgs_cons (pg_name (i := 7) sc__law_home.nd rfl (Or.inl rfl)) pgs_nil))) (pss_one (ps_for PassesOwn.never rfl (pi_list (pe_call d__law_doable.ok (hr.mono (by decide)) rfl d__law_doable.g d__law_doable.kp d__law_doable.b .nil pass0 (pa_cons (pv 0) (pa_cons (pv 7) pa_nil)))) (pg_name (i := 8) sc__law_home.nd rfl (Or.inl rfl)) (pss_cons (ps_set (i := 9) sc__law_home.nd rfl (Or.inl rfl) (pe_call d__law_led.ok (hr.mono (by decide)) rfl d__law_led.g d__law_led.kp d__law_led.b .nil pass0 (pa_cons (pv 0) (pa_cons (pv 7) (pa_cons (pv 8) pa_nil)))))
      (pss_one (ps_if (pt_cmpR (SDx.op_notInS hr.units) (pv 9) (pv 2) (by rfl)) (pss_cons (SDx.ps_putS hr.units (pv 2) (pv 9) pe_bl rfl)
      (pss_one (ps_expr (pe_bm PySem.F.plainAttrs_list PySem.F.slot_list_append PySem.F.type_list_append mt_append (pv 5) (pa_cons (pe_tup (pa_cons (pe_op op_catA (pv 6) (pe_tup (pa_cons (pv 8) pa_nil))) (pa_cons (pv 9) pa_nil))) pa_nil))))) pss_nil))))))
      (pss_one (ps_set (i := 3) sc__law_home.nd rfl (Or.inl rfl) (pv 5))))))))
      (pss_one (ps_ret pe_non)))), ?_⟩
    have hSO := hM.ok S hSM
    refine fun F0 hF0 => ?_
    have s0 := same_upd (o := SDO P w F0 []) hF0
    refine ⟨_, rfl, a, S, rfl, rfl, hS.same s0, upd_same, ?_⟩
    have fd1 : FD P w H (upd (upd H F0 (SDO P w F0 [])) F0 (SDO P w F0 [(a, S)])) F0 [(a, S)] := FD.put (L := []) ⟨hF0, upd_same, fun _ x => by cases x⟩ (hS.same s0)
    have s2 : Same H (upd (upd H F0 (SDO P w F0 [])) F0 (SDO P w F0 [(a, S)])) := Same.own s0 hF0
    refine ⟨Nat.zero_le _, fun t1 ht1 => ⟨_, rfl, line_le 2 (by decide), fun t2 ht2 => ⟨line_le 1 (by decide), fun l0 hl0 => ⟨_, _, rfl, ?_⟩⟩⟩⟩
    have e1 := same_upd (o := .tup []) ht1
    have e2 := same_upd (o := .tup [.ref t1, .ref a]) ht2
    have e3 := same_upd (o := .lst [.ref t2]) hl0
    have s5 := ((s2.trans e1).trans e2).trans e3
    have fd5 := ((fd1.ext e1).ext e2).ext e3
    have hl5 := @upd_same (upd (upd (upd (upd H F0 (SDO P w F0 [])) F0 (SDO P w F0 [(a, S)])) t1 (.tup [])) t2 (.tup [.ref t1, .ref a])) l0 (.lst [.ref t2])
    have hnl0 : H l0 = none := ((s2.trans e1).trans e2).free hl0
    have hwy : IsWy (upd (upd (upd (upd (upd H F0 (SDO P w F0 [])) F0 (SDO P w F0 [(a, S)])) t1 (.tup [])) t2 (.tup [.ref t1, .ref a])) l0 (.lst [.ref t2])) (.ref t2) ([], S) := ⟨t2, t1, a, rfl, e3 _ _ upd_same, e3 _ _ (e2 _ _ upd_same), hS.same s5⟩
    have hpe : ∃ p : Sta → Bool, p = endL := ⟨_, rfl⟩
    obtain ⟨p, hpe⟩ := hpe
    rw [← hpe] at k0 k1
    dsimp only [L2.start, List.set, List.replicate, List.map, List.length]
    refine seq_join (t := tWhile _ _) (fun σ' H' => Same H H' ∧ wayF N p S = none) (fun D hD => ?_) ?_
    · refine ⟨fun n σ H' => ∃ (F lv : Addr) (c4 c5 c6 c7 c8 c9 : Option V) (L : AS) (xs : List V) (lvl : List WS), σ = [some v, some (.ref a), some (.ref F), some (.ref lv), c4, c5, c6, c7, c8, c9] ∧ Same H H' ∧ FD P w H H' F L ∧ H lv = none ∧ H' lv = some (.lst xs) ∧ Paired (IsWy H') xs lvl ∧
        wbfs N p n (sts L) lvl = wayF N p S ∧ (202 ≤ L.length + n ∨ (lvl = [] ∧ 1 ≤ n)) ∧ (sts L).Nodup ∧ (∀ x ∈ sts L, x ∈ M) ∧ (∀ q ∈ lvl, q.2 ∈ M) ∧ lvl.length ≤ 200 ∧ (∀ q ∈ lvl, q.1.length + n ≤ 300), ⟨300, F0, l0, none, none, none, none, none, none, _, _, [([], S)], rfl, s5, fd5, hnl0, hl5, .cons hwy .nil, rfl, ?_, ?_, ?_, ?_, ?_, ?_⟩, ?_⟩
      · exact .inl (show 202 ≤ 1 + 300 by omega)
      · show [S].Nodup
        simp
      · intro x hx
        rw [List.mem_singleton.mp hx]
        exact hSM
      · intro x hx
        rw [List.mem_singleton.mp hx]
        exact hSM
      · show 1 ≤ 200
        omega
      · intro x hx
        rw [List.mem_singleton.mp hx]
        exact Nat.le_refl _
      rintro n σ H50 ⟨F, lv, c4, c5, c6, c7, c8, c9, L, xs, lvl, rfl, sm, fD, nlv, hlv, hP, hb, hn, hnd, hin, hlin, hll, hwl0⟩
      have hLl : L.length ≤ 200 := by
        have := nodup_len hnd hin
        rw [sts_len] at this
        omega
      obtain ⟨n, rfl⟩ : ∃ n', n = n' + 1 := ⟨n - 1, by rcases hn with hn | hn <;> omega⟩
      have hxl : xs.length = lvl.length := hP.length
      refine ⟨_, rfl, Nat.zero_le _, fun p0 hp0 => ?_⟩
      have s50 := same_upd (o := .lst []) hp0
      refine ⟨lv, p0, _, rfl, rfl, SqL.of (s50 _ _ hlv), SqL.of upd_same, !xs.isEmpty, rfl, ?_⟩
      replace sm := sm.trans s50
      replace fD := fD.ext s50
      replace hlv := s50 _ _ hlv
      replace hP := pm hP fun _ _ z => IsWy.sk z (SK.of s50)
      generalize upd H50 p0 (.lst []) = H5 at sm fD hlv hP ⊢
      by_cases hAe : lvl = []
      · subst hAe
        cases hP
        refine iteF (hD _ _ ⟨sm, ?_⟩)
        rw [← hb]
        rfl
      have hne : (!xs.isEmpty) = true := by
        cases hP with
        | nil => exact absurd rfl hAe
        | cons _ _ => rfl
      rw [hne]
      have hbn : wayF N p S = match lvl.filter (fun q => p q.2) with
          | q :: _ => some q.1
          | [] => wbfs N p n (sts L ++ (wnx N (sts L) lvl).map (·.2)) (wnx N (sts L) lvl) := by
        rw [← hb]
        show (if lvl = [] then none else _) = _
        rw [if_neg hAe]
        all_goals rfl
      refine iteT ⟨_, fun σ' H' q => ⟨n, Nat.lt_succ_self n, q⟩, ?_⟩
      refine ⟨_, rfl, lv, rfl, ⟨_, SqL.of hlv⟩, fun D1 hD1 => ?_⟩
      refine lc_list (K := K) (a := lv) (xs := xs) (fun i H' => ∃ ys : List V, Fill H5 D1 ys H' ∧ Paired (fun v (q : WS) => ∃ b, v = .ref b ∧ H5 b = some (.tup (intsV q.1))) ys ((lvl.take i).filter fun q => p q.2)) ⟨[], .start hD1, .nil⟩ (fun i H' _ ⟨ys, fl, _⟩ => SqL.of (fl.same _ _ hlv)) ?_ ?_
      · rintro i x H' hx ⟨ys, fl, hY⟩
        obtain ⟨q, hq, t, b, c, rfl, hw1, hw2, hw3⟩ := paired_getL hP hx
        have hqM := hlin q (List.mem_of_getElem? hq)
        have hil := (List.getElem?_eq_some_iff.mp hq).1
        have sm' := sm.trans fl.same
        have hqO := hM.ok _ hqM
        have hql1 := hqO.l1
        have hpl1 := hN.pl
        have hpl2 := hN.pl2
        refine ⟨t, _, rfl, SqT.of (fl.same _ _ hw1), rfl, _, _, rfl, _, _, rfl, rfl, wipe2 (by decide) (by decide), ?_⟩
        refine ⟨_, rfl, c, q.2, rfl, hw3.same fl.same, (fun e => by rw [e] at hql1; change 0 = _ at hql1; omega), by omega, fun H6 e6 => ?_⟩
        rw [← hpe]
        refine ⟨_, rfl, ?_⟩
        have fl6 := fl.ext e6
        have hyl := hY.length
        have hfl := List.length_filter_le (fun q : WS => p q.2) (lvl.take i)
        rw [List.length_take] at hfl
        have ht : (lvl.take (i + 1)).filter (fun q => p q.2) = (lvl.take i).filter (fun q => p q.2) ++ (if p q.2 = true then [q] else []) := by
          rw [take_add hq, List.filter_append, List.filter_cons, List.filter_nil]
        cases hpq : p q.2 with
        | false =>
          rw [hpq, if_neg (by decide), List.append_nil] at ht
          refine iteF ⟨ys, fl6, ?_⟩
          rw [ht]
          exact hY
        | true =>
          rw [hpq, if_pos rfl] at ht
          refine iteT ⟨_, rfl, _, fl6.at_, small (by omega), _, fl6.put, ?_⟩
          rw [ht]
          exact paired_add hY ⟨b, rfl, hw2⟩
      rintro H60 ⟨ys, f6, hY⟩
      rw [hxl, List.take_length] at hY
      dsimp only [gName, List.set]
      refine ⟨_, rfl, Nat.zero_le _, fun p1 hp1 => ?_⟩
      replace f6 := f6.ext (same_upd (o := .lst []) hp1)
      refine ⟨D1, p1, _, rfl, rfl, SqL.of f6.at_, SqL.of upd_same, !ys.isEmpty, rfl, ?_⟩
      generalize upd H60 p1 (.lst []) = H6 at f6 ⊢
      have sm6 := sm.trans f6.same
      have hy0 := f6.at_
      generalize lvl.filter (fun q => p q.2) = gl at hbn hY
      cases hY with
      | cons hw hrest =>
        rename_i y ys' q gl'
        obtain ⟨b, rfl, hbq⟩ := hw
        exact iteT ⟨_, rfl, D1, _, 0, _, rfl, rfl, SqL.of hy0, atI_nat (j := 0) rfl, k1 _ hbn _ b sm6 (f6.same _ _ hbq)⟩
      | nil =>
      refine iteF ?_
      have hbn : wayF N p S = wbfs N p n (sts L ++ (wnx N (sts L) lvl).map (·.2)) (wnx N (sts L) lvl) := hbn
      refine ⟨Nat.zero_le _, fun lt hlt => ?_⟩
      dsimp only [gName, List.set]
      have slt := same_upd (o := .lst []) hlt
      have s7 := sm6.trans slt
      have hnlt : H lt = none := sm6.free hlt
      have hlv7 := slt _ _ (f6.same _ _ hlv)
      have nlt : lt ≠ lv := (ne_of_none (f6.same _ _ hlv) hlt).symm
      have hP7 := pm hP fun _ _ z => IsWy.sk z (SK.of (f6.same.trans slt))
      have fD7 := (fD.ext f6.same).ext slt
      have hsz : (lvl.flatMap (stp1 N)).length ≤ 20000 := by
        have := flatw_len lvl hN
        omega
      refine ⟨_, rfl, lv, rfl, ⟨_, SqL.of hlv7⟩, ?_⟩
      refine for_list (K := K) (a := lv) (xs := xs) (fun i σ H' => ∃ (c6 c7 c8 c9 : Option V) (C : AS) (zs : List V) (L2' : List WS), σ = [some v, some (.ref a), some (.ref F), some (.ref lv), some (.ref D1), some (.ref lt), c6, c7, c8, c9] ∧ Same H H' ∧ FD P w H H' F C ∧ H' lv = some (.lst xs) ∧ H' lt = some (.lst zs) ∧ Paired (IsWy H') xs lvl ∧ Paired (IsWy H') zs L2' ∧
        sts C = sts L ++ L2'.map (·.2) ∧ L2' = wnews (sts L) ((lvl.take i).flatMap (stp1 N))) ⟨_, _, _, _, L, [], [], rfl, s7, fD7, hlv7, upd_same, hP7, .nil, (List.append_nil _).symm, rfl⟩ (fun i σ H' _ ⟨_, _, _, _, _, _, _, _, _, _, hlv, _⟩ => SqL.of hlv) ?_ ?_
      · rintro i x σ H8 hx ⟨c6, c7, c8, c9, C, zs, L2', rfl, sm, fD, hlv, hlt, hP, hZ, eC, eL⟩
        obtain ⟨q, hq, t, b, c, rfl, hw1, hw2, hw3⟩ := paired_getL hP hx
        have hqM := hlin q (List.mem_of_getElem? hq)
        have hil := (List.getElem?_eq_some_iff.mp hq).1
        refine ⟨t, _, rfl, SqT.of hw1, rfl, _, _, rfl, _, _, rfl, rfl, ?_⟩
        dsimp only [gName, List.set]
        refine ⟨_, rfl, _, rfl, v, N, c, q.2, rfl, hv.same sm, hN, hw3, hM.ok _ hqM, fun H9 pw e9 n9 hpw => ?_⟩
        refine ⟨pw, rfl, ⟨_, SqL.of hpw⟩, ?_⟩
        have nFp : F ≠ pw := ne_of_none fD.at_ n9
        have nlp : lt ≠ pw := ne_of_none hlt n9
        refine for_list (K := K) (a := pw) (xs := intsV (doab N q.2)) (fun j σ H' => ∃ (c8 c9 : Option V) (C : AS) (zs : List V) (L2' : List WS), σ = [some v, some (.ref a), some (.ref F), some (.ref lv), some (.ref D1), some (.ref lt), some (.ref b), some (.ref c), c8, c9] ∧ Same H H' ∧ FD P w H H' F C ∧ H' lv = some (.lst xs) ∧ H' pw = some (.lst (intsV (doab N q.2))) ∧ H' lt = some (.lst zs) ∧ Paired (IsWy H') xs lvl ∧ Paired (IsWy H') zs L2' ∧ H' b = some (.tup (intsV q.1)) ∧ IsS H' c q.2 ∧
          sts C = sts L ++ L2'.map (·.2) ∧ L2' = wnews (sts L) ((lvl.take i).flatMap (stp1 N) ++ (stp1 N q).take j)) ⟨_, _, C, zs, L2', rfl, sm.trans e9, fD.ext e9, e9 _ _ hlv, hpw, e9 _ _ hlt, pm hP fun _ _ z => IsWy.sk z (SK.of e9), pm hZ fun _ _ z => IsWy.sk z (SK.of e9), e9 _ _ hw2, hw3.same e9, eC, by rw [List.take_zero, List.append_nil]; exact eL⟩ (fun j σ H' _ ⟨_, _, _, _, _, _, _, _, _, hpw, _⟩ => SqL.of hpw) ?_ ?_
        · rintro j y σ H10 hy ⟨c8, c9, C, zs, L2', rfl, sm, fD, hlv, hpw, hlt, hP, hZ, hbw, hcS, eC, eL⟩
          obtain ⟨r, hr2, rfl⟩ := map_at hy
          have hrl : r < N.steps.length := List.mem_range.mp (List.mem_filter.mp (List.mem_of_getElem? hr2)).1
          have hst1 : (stp1 N q)[j]? = some (q.1 ++ [r], ledI N q.2 r) := by
            unfold stp1 waysS
            rw [List.map_map, List.getElem?_map, hr2]
            rfl
          dsimp only [gName, List.set]
          refine ⟨_, rfl, _, rfl, _, rfl, v, N, c, q.2, r, rfl, hv.same sm, hN, hcS, hM.ok _ hqM, hrl, fun H11 b2 e11 hb2 => ?_⟩
          dsimp only [gName, List.set]
          replace sm := sm.trans e11
          replace fD := fD.ext e11
          replace hlv := e11 _ _ hlv
          replace hpw := e11 _ _ hpw
          replace hlt := e11 _ _ hlt
          replace hP := pm hP fun _ _ z => IsWy.sk z (SK.of e11)
          replace hZ := pm hZ fun _ _ z => IsWy.sk z (SK.of e11)
          replace hbw := e11 _ _ hbw
          replace hcS := IsS.same hcS e11
          have hone := wnews_one (sts L) ((lvl.take i).flatMap (stp1 N) ++ (stp1 N q).take j) (q.1 ++ [r], ledI N q.2 r)
          rw [List.append_assoc, ← take_add hst1, ← eL, ← eC] at hone
          refine ⟨_, rfl, _, rfl, b2, F, ledI N q.2 r, C, rfl, rfl, hb2, fD.at_, fD.sts, _, rfl, ?_⟩
          have hCl : C.length ≤ 30000 := by
            have h1 := wnews_len (sts L) ((lvl.take i).flatMap (stp1 N) ++ (stp1 N q).take j)
            have h2 := flatw_len (lvl.take i) hN
            have h3 := stp1_len q hN
            have h4 := sts_len C
            rw [eC, List.length_append, List.length_map, sts_len] at h4
            rw [← eL, List.length_append, List.length_take] at h1
            rw [List.length_take] at h2
            omega
          have hzl : zs.length ≤ 30000 := by
            have h4 := sts_len C
            rw [eC, List.length_append, List.length_map] at h4
            have h5 : zs.length = L2'.length := hZ.length
            omega
          by_cases hm : ledI N q.2 r ∈ sts C
          · rw [if_pos hm] at hone
            rw [show (!decide (ledI N q.2 r ∈ List.map (fun x => x.2) C)) = false by rw [decide_eq_true (show ledI N q.2 r ∈ List.map (fun x => x.2) C from hm)]; rfl]
            exact iteF ⟨_, _, C, zs, L2', rfl, sm, fD, hlv, hpw, hlt, hP, hZ, hbw, hcS, eC, hone.symm⟩
          · rw [if_neg hm] at hone
            rw [show (!decide (ledI N q.2 r ∈ List.map (fun x => x.2) C)) = true by rw [decide_eq_false (show ¬ ledI N q.2 r ∈ List.map (fun x => x.2) C from hm)]; rfl]
            refine iteT ⟨_, rfl, _, rfl, F, b2, ledI N q.2 r, C, rfl, rfl, rfl, hb2, fD.at_, fD.sts, hm, small (by omega), ?_⟩
            have hq1 := hwl0 q (List.mem_of_getElem? hq)
            have nlF : lv ≠ F := fun e => by
              rw [e, fD.at_] at hlv
              cases hlv
            have ntF : lt ≠ F := fun e => by
              rw [e, fD.at_] at hlt
              cases hlt
            have fD1 := fD.put hb2
            have sF : SK H11 (upd H11 F (SDO P w F (C ++ [(b2, ledI N q.2 r)]))) := SK.sdo fD.at_
            have smF : Same H (upd H11 F (SDO P w F (C ++ [(b2, ledI N q.2 r)]))) := Same.own sm fD.new
            have hlv1 : upd H11 F (SDO P w F (C ++ [(b2, ledI N q.2 r)])) lv = some (.lst xs) := by rw [upd_ne nlF]; exact hlv
            have hlt1 : upd H11 F (SDO P w F (C ++ [(b2, ledI N q.2 r)])) lt = some (.lst zs) := by rw [upd_ne ntF]; exact hlt
            have hpw1 : upd H11 F (SDO P w F (C ++ [(b2, ledI N q.2 r)])) pw = some (.lst (intsV (doab N q.2))) := by rw [upd_ne nFp.symm]; exact hpw
            have hb3 := IsS.sk hb2 sF
            refine ⟨_, rfl, .inl ⟨rfl, _, SqL.of hlt1⟩, _, rfl, _, rfl, line_le 1 (by decide), fun t0 z0 => ?_⟩
            have st0 := same_upd (o := .tup [V.int ((r : Nat) : Int)]) z0
            refine cat_new (st0 _ _ (sF.tup hbw)) upd_same ?_ fun H12 t1 e12 ht1 => ⟨_, rfl, line_le 2 (by decide), fun t2 z2 => ⟨lt, zs, .ref t2, rfl, rfl, ?_, small (by omega), ?_⟩⟩
            · refine line_le _ ?_
              unfold intsV
              rw [List.length_map]
              show q.1.length + 1 ≤ _
              omega
            · exact same_upd z2 _ _ (e12 _ _ (st0 _ _ hlt1))
            have sa := (st0.trans e12).trans (same_upd (o := .tup [.ref t1, .ref b2]) z2)
            have hta := same_upd (o := .tup [.ref t1, .ref b2]) z2 _ _ ht1
            have htb := @upd_same H12 t2 (.tup [.ref t1, .ref b2])
            have hltc := sa _ _ hlt1
            have sl : SK _ (upd (upd H12 t2 (.tup [.ref t1, .ref b2])) lt (.lst (zs ++ [.ref t2]))) := SK.lst hltc
            have hall := (sF.trans (SK.of sa)).trans sl
            refine ⟨_, _, C ++ [(b2, ledI N q.2 r)], zs ++ [.ref t2], L2' ++ [(q.1 ++ [r], ledI N q.2 r)], rfl, Same.own (smF.trans sa) hnlt, (fD1.ext sa).upd hltc nt_lst ntF.symm, ?_, ?_, upd_same, pm hP fun _ _ z => IsWy.sk z hall, paired_add (pm hZ fun _ _ z => IsWy.sk z hall) ⟨t2, t1, b2, rfl, sl.tup htb, ?_, ?_⟩, hall.tup hbw, IsS.sk hcS hall, ?_, hone.symm⟩
            · rw [upd_ne nlt.symm]
              exact sa _ _ hlv1
            · rw [upd_ne nlp.symm]
              exact sa _ _ hpw1
            · have := sl.tup hta
              unfold intsV at this ⊢
              rw [List.map_append]
              exact this
            · exact IsS.sk (IsS.same hb3 sa) sl
            · rw [sts_app, eC, List.map_append, List.append_assoc]
              rfl
        · rintro σ H10 ⟨c8, c9, C, zs, L2', rfl, sm, fD, hlv, hpw, hlt, hP, hZ, hbw, hcS, eC, eL⟩
          refine ⟨_, _, _, _, C, zs, L2', rfl, sm, fD, hlv, hlt, hP, hZ, eC, ?_⟩
          rw [eL, take_add hq, List.flatMap_append, List.flatMap_singleton]
          rw [show (intsV (doab N q.2)).length = (stp1 N q).length by unfold stp1 waysS intsV; rw [List.length_map, List.length_map, List.length_map], List.take_length]
      · rintro σ H8 ⟨c6, c7, c8, c9, C, zs, L2', rfl, sm, fD, hlv, hlt, hP, hZ, eC, eL⟩
        rw [hxl, List.take_length] at eL
        have eL2 : L2' = wnx N (sts L) lvl := eL
        rw [← eL2, ← eC] at hbn
        have hnd2 : (sts C).Nodup := by
          rw [eC, eL]
          exact wnews_nodup hnd
        have hin2 : ∀ x ∈ sts C, x ∈ M := fun x hx => by
          rw [eC] at hx
          rcases List.mem_append.mp hx with hx | hx
          · exact hin x hx
          · obtain ⟨y, hy, rfl⟩ := List.mem_map.mp hx
            rw [eL2] at hy
            exact wnx_in hM hlin y hy
        have hCl := nodup_len hnd2 hin2
        have hC2 := sts_len C
        rw [eC, List.length_append, List.length_map, sts_len] at hC2
        rw [sts_len] at hCl
        refine ⟨_, rfl, F, lt, _, _, _, _, _, _, C, zs, L2', rfl, sm, fD, hnlt, hlt, hZ, hbn.symm, ?_, hnd2, hin2, ?_, by omega, ?_⟩
        · by_cases h0 : L2' = []
          · refine .inr ⟨h0, ?_⟩
            rcases hn with hn | hn
            · omega
            · exact absurd hn.1 hAe
          · have := List.length_pos_iff.mpr h0
            refine .inl ?_
            rcases hn with hn | hn
            · omega
            · exact absurd hn.1 hAe
        · intro y hy
          rw [eL2] at hy
          exact wnx_in hM hlin y hy
        · intro y hy
          rw [eL] at hy
          obtain ⟨x, hx, hy2⟩ := List.mem_flatMap.mp (wnews_mem hy)
          have h1 := hwl0 x hx
          obtain ⟨r, _, rfl⟩ := List.mem_map.mp hy2
          show (x.1 ++ [r.1]).length + n ≤ 300
          rw [List.length_append]
          show x.1.length + 1 + n ≤ 300
          omega
    · rintro σ H5 ⟨s', hW⟩
      exact k0 hW _ s'
end
section
variable {X : Cx}
abbrev s__law_way : Stmt := top 50
theorem sc__law_way : FnScope ["net", "fits", "seen", "level", "good", "later", "way", "state", "index", "there"] ["net", "fits"] (defScope s__law_way) := ⟨rfl, rfl, rfl, by decide +kernel, rfl, by decide +kernel, by decide +kernel⟩
theorem lway_gives {q : Str} {g f__law_first f__law_doable f__law_led : Addr} {cdg : Value} {fd1 fd2 fd3 : FuncData} (T : Tx X.mg) (d1 : Ok1 X.prog X.w X.K X.mg X.base C8.CX0 1 "_law_first" ["net"] sp_first f__law_first fd1) (d2 : Ok1 X.prog X.w X.K X.mg X.base C8.CX0 3 "_law_doable" ["net", "state"] sp_ldoable f__law_doable fd2) (d3 : Ok1 X.prog X.w X.K X.mg X.base C8.CX0 2 "_law_led" ["net", "state", "index"] sp_behind f__law_led fd3) :
    GivesTo1 X 6 3 ["net", "fits", "seen", "level", "good", "later", "way", "state", "index", "there"] "_law_way" (defScope s__law_way) g cdg (defBody s__law_way) "fits" q TTlway := by
  intro B f c' s H Q vs tl m hb hz hr act hc h
  have d__law_first : Ok1 X.prog X.w X.K X.mg B C8.CX0 1 "_law_first" ["net"] sp_first f__law_first fd1 := ⟨d1.g, d1.kp, d1.b, fn_base d1.ok m hb hz⟩
  have d__law_doable : Ok1 X.prog X.w X.K X.mg B C8.CX0 3 "_law_doable" ["net", "state"] sp_ldoable f__law_doable fd2 := ⟨d2.g, d2.kp, d2.b, fn_base d2.ok m hb hz⟩
  have d__law_led : Ok1 X.prog X.w X.K X.mg B C8.CX0 2 "_law_led" ["net", "state", "index"] sp_behind f__law_led fd3 := ⟨d3.g, d3.kp, d3.b, fn_base d3.ok m hb hz⟩
  obtain ⟨v, N, M, p, rfl, hv, hN, hM, hSM, hMl, hp, k0, k1⟩ := h
  refine ⟨_, (pss_cons (ps_par (i := 2) (j := 3) (by rfl) sc__law_way.nd rfl rfl (by decide) rfl rfl (pa_cons (SDx.pe_dispS hr.units (pe_call d__law_first.ok (hr.mono (by decide)) rfl d__law_first.g d__law_first.kp d__law_first.b .nil pass0 (pa_cons (pv 0) pa_nil)) pe_bl) (pa_cons (pe_lst (pa_cons (pe_tup (pa_cons (pe_tup pa_nil) (pa_cons (pe_call d__law_first.ok (hr.mono (by decide)) rfl d__law_first.g d__law_first.kp d__law_first.b .nil pass0 (pa_cons (pv 0) pa_nil)) pa_nil))) pa_nil)) pa_nil)) (by rfl))
      (pss_cons (ps_while PassesOwn.never (pt_cmpR (op_neLE hr.units0) (pv 3) (pe_lst pa_nil) (nomark _)) (pss_cons (ps_setLc (i := 4) (own := [("way", 6), ("state", 7)]) (g := (gTup (Cx.K X) 2 (gCons (gName 6) (gCons (gName 7) gNil)))) (tt := (tB (fun σZ HZ Q => σZ[1]? = some (some (.ref f)) ∧ tVar 7 σZ HZ fun v H1 => H1 c' = some (CodeO c' q) ∧ tl v H1 Q))) (te := (tVar 6)) rfl sc__law_way.nd rfl rfl (sw_true rfl rfl rfl (by decide +kernel)) (pi_list (pv 3)) (blkOk_by (N := ["net", "fits", "seen", "level", "good", "later", "way", "state", "index", "there"]) (sc := defScope s__law_way) (by decide +kernel)) (fun _ _ _ _ _ => by exact pg_tup rfl (pgs_cons (pg_name (i := 6) sc__law_way.nd rfl (Or.inl rfl)) (pgs_cons (pg_name (i := 7) sc__law_way.nd rfl (Or.inl rfl)) pgs_nil))) (fun _ _ _ _ _ => by exact pts_one (pt_val (act _ _ (tVar 7) _ _ 1 rfl rfl rfl rfl rfl (hr.mono (by decide)) (pv 7) rfl (.inr (.inl rfl)) rfl rfl))) (fun _ _ _ _ _ => by exact (pv 6)))
      (pss_cons (ps_if (pt_cmpR (op_neLE hr.units0) (pv 4) (pe_lst pa_nil) (nomark _)) (pss_one (ps_ret (pe_ix ix_list (pv 4) pe_int (fun _ _ => rfl)))) pss_nil)
      (pss_cons (ps_set (i := 5) sc__law_way.nd rfl (Or.inl rfl) (pe_lst pa_nil))
      (pss_cons (ps_for PassesOwn.never rfl (pi_list (pv 3)) (pg_tup rfl (pgs_cons (pg_name (i := 6) sc__law_way.nd rfl (Or.inl rfl)) (pgs_cons (pg_name (i := 7) sc__law_way.nd rfl (Or.inl rfl)) pgs_nil))) (pss_one (ps_for PassesOwn.never rfl (pi_list (pe_call d__law_doable.ok (hr.mono (by decide)) rfl d__law_doable.g d__law_doable.kp d__law_doable.b .nil pass0 (pa_cons (pv 0) (pa_cons (pv 7) pa_nil)))) (pg_name (i := 8) sc__law_way.nd rfl (Or.inl rfl)) (pss_cons (ps_set (i := 9) sc__law_way.nd rfl (Or.inl rfl) (pe_call d__law_led.ok (hr.mono (by decide)) rfl d__law_led.g d__law_led.kp d__law_led.b .nil pass0 (pa_cons (pv 0) (pa_cons (pv 7) (pa_cons (pv 8) pa_nil)))))
      (pss_one (ps_if (pt_cmpR (SDx.op_notInS hr.units) (pv 9) (pv 2) (by rfl)) (pss_cons (SDx.ps_putS hr.units (pv 2) (pv 9) pe_bl rfl)
      (pss_one (ps_expr (pe_bm PySem.F.plainAttrs_list PySem.F.slot_list_append PySem.F.type_list_append mt_append (pv 5) (pa_cons (pe_tup (pa_cons (pe_op op_catA (pv 6) (pe_tup (pa_cons (pv 8) pa_nil))) (pa_cons (pv 9) pa_nil))) pa_nil))))) pss_nil))))))
      (pss_one (ps_set (i := 3) sc__law_way.nd rfl (Or.inl rfl) (pv 5))))))))
      (pss_one (ps_ret pe_non)))), ?_⟩
  have hSO := hM.ok _ hSM
  refine fun F0 hF0 => ?_
  have s0 := same_upd (o := SDO X.prog X.w F0 []) hF0
  refine ⟨_, rfl, v, N, rfl, hv.same s0, hN, fun H1 a1 e1 ha1 => ?_⟩
  have hF1 := e1 _ _ (upd_same (H := H) (a := F0) (o := SDO X.prog X.w F0 []))
  refine ⟨a1, fstS N, rfl, rfl, ha1, hF1, ?_⟩
  have s1 : Same H H1 := s0.trans e1
  have fd1 : FD X.prog X.w H (upd H1 F0 (SDO X.prog X.w F0 [(a1, fstS N)])) F0 [(a1, fstS N)] := FD.put (L := []) ⟨hF0, hF1, fun _ x => by cases x⟩ ha1
  have s2 : Same H (upd H1 F0 (SDO X.prog X.w F0 [(a1, fstS N)])) := Same.own s1 hF0
  refine ⟨Nat.zero_le _, fun t1 ht1 => ?_⟩
  have e1' := same_upd (o := .tup []) ht1
  refine ⟨_, rfl, v, N, rfl, hv.same (s2.trans e1'), hN, fun H3 a3 e3 ha3 => ⟨line_le 2 (by decide), fun t2 ht2 => ⟨line_le 1 (by decide), fun l0 hl0 => ⟨_, _, rfl, ?_⟩⟩⟩⟩
  have e4 := same_upd (o := .tup [.ref t1, .ref a3]) ht2
  have e5 := same_upd (o := .lst [.ref t2]) hl0
  have s5 := (((s2.trans e1').trans e3).trans e4).trans e5
  have fd5 := (((fd1.ext e1').ext e3).ext e4).ext e5
  have hl5 := @upd_same (upd H3 t2 (.tup [.ref t1, .ref a3])) l0 (.lst [.ref t2])
  have hnl0 : H l0 = none := (((s2.trans e1').trans e3).trans e4).free hl0
  have u1 : upd (upd H1 F0 (SDO X.prog X.w F0 [(a1, fstS N)])) t1 (.tup []) t1 = some (.tup []) := upd_same
  have hwy : IsWy (upd (upd H3 t2 (.tup [.ref t1, .ref a3])) l0 (.lst [.ref t2])) (.ref t2) ([], fstS N) := ⟨t2, t1, a3, rfl, e5 _ _ upd_same, e5 _ _ (e4 _ _ (e3 _ _ u1)), (ha3.same e4).same e5⟩
  generalize fstS N = S at *
  dsimp only [L2.start, List.set, List.replicate, List.map, List.length]
  refine seq_join (t := tWhile _ _) (fun σ' H' => Same H H' ∧ wayF N p S = none) (fun D hD => ?_) ?_
  · refine ⟨fun n σ H' => ∃ (F lv : Addr) (c4 c5 c6 c7 c8 c9 : Option V) (L : AS) (xs : List V) (lvl : List WS), σ = [some v, some (.ref f), some (.ref F), some (.ref lv), c4, c5, c6, c7, c8, c9] ∧ Same H H' ∧ FD X.prog X.w H H' F L ∧ H lv = none ∧ H' lv = some (.lst xs) ∧ Paired (IsWy H') xs lvl ∧
      wbfs N p n (sts L) lvl = wayF N p S ∧ (202 ≤ L.length + n ∨ (lvl = [] ∧ 1 ≤ n)) ∧ (sts L).Nodup ∧ (∀ x ∈ sts L, x ∈ M) ∧ (∀ q ∈ lvl, q.2 ∈ M) ∧ lvl.length ≤ 200 ∧ (∀ q ∈ lvl, q.1.length + n ≤ 300), ⟨300, F0, l0, none, none, none, none, none, none, _, _, [([], S)], rfl, s5, fd5, hnl0, hl5, .cons hwy .nil, rfl, ?_, ?_, ?_, ?_, ?_, ?_⟩, ?_⟩
    · exact .inl (show 202 ≤ 1 + 300 by omega)
    · show [S].Nodup
      simp
    · intro x hx
      rw [List.mem_singleton.mp hx]
      exact hSM
    · intro x hx
      rw [List.mem_singleton.mp hx]
      exact hSM
    · show 1 ≤ 200
      omega
    · intro x hx
      rw [List.mem_singleton.mp hx]
      exact Nat.le_refl _
    rintro n σ H50 ⟨F, lv, c4, c5, c6, c7, c8, c9, L, xs, lvl, rfl, sm, fD, nlv, hlv, hP, hb, hn, hnd, hin, hlin, hll, hwl0⟩
    have hLl : L.length ≤ 200 := by
      have := nodup_len hnd hin
      rw [sts_len] at this
      omega
    obtain ⟨n, rfl⟩ : ∃ n', n = n' + 1 := ⟨n - 1, by rcases hn with hn | hn <;> omega⟩
    have hxl : xs.length = lvl.length := hP.length
    refine ⟨_, rfl, Nat.zero_le _, fun p0 hp0 => ?_⟩
    have s50 := same_upd (o := .lst []) hp0
    refine ⟨lv, p0, _, rfl, rfl, SqL.of (s50 _ _ hlv), SqL.of upd_same, !xs.isEmpty, rfl, ?_⟩
    replace sm := sm.trans s50
    replace fD := fD.ext s50
    replace hlv := s50 _ _ hlv
    replace hP := pm hP fun _ _ z => IsWy.sk z (SK.of s50)
    generalize upd H50 p0 (.lst []) = H5 at sm fD hlv hP ⊢
    by_cases hAe : lvl = []
    · subst hAe
      cases hP
      refine iteF (hD _ _ ⟨sm, ?_⟩)
      rw [← hb]
      rfl
    have hne : (!xs.isEmpty) = true := by
      cases hP with
      | nil => exact absurd rfl hAe
      | cons _ _ => rfl
    rw [hne]
    have hbn : wayF N p S = match lvl.filter (fun q => p q.2) with
        | q :: _ => some q.1
        | [] => wbfs N p n (sts L ++ (wnx N (sts L) lvl).map (·.2)) (wnx N (sts L) lvl) := by
      rw [← hb]
      show (if lvl = [] then none else _) = _
      rw [if_neg hAe]
      all_goals rfl
    refine iteT ⟨_, fun σ' H' q => ⟨n, Nat.lt_succ_self n, q⟩, ?_⟩
    refine ⟨_, rfl, lv, rfl, ⟨_, SqL.of hlv⟩, fun D1 hD1 => ?_⟩
    refine lc_list (K := X.K) (a := lv) (xs := xs) (fun i H' => ∃ ys : List V, Fill H5 D1 ys H' ∧ Paired (fun v (q : WS) => ∃ b, v = .ref b ∧ H5 b = some (.tup (intsV q.1))) ys ((lvl.take i).filter fun q => p q.2)) ⟨[], .start hD1, .nil⟩ (fun i H' _ ⟨ys, fl, _⟩ => SqL.of (fl.same _ _ hlv)) ?_ ?_
    · rintro i x H' hx ⟨ys, fl, hY⟩
      obtain ⟨q, hq, t, b, c, rfl, hw1, hw2, hw3⟩ := paired_getL hP hx
      have hqM := hlin q (List.mem_of_getElem? hq)
      have hil := (List.getElem?_eq_some_iff.mp hq).1
      have sm' := sm.trans fl.same
      have hqO := hM.ok _ hqM
      have hql1 := hqO.l1
      have hpl1 := hN.pl
      have hpl2 := hN.pl2
      refine ⟨t, _, rfl, SqT.of (fl.same _ _ hw1), rfl, _, _, rfl, _, _, rfl, rfl, wipe2 (by decide) (by decide), ?_⟩
      refine ⟨rfl, _, rfl, sm' _ _ hc, hp H' c q.2 sm' (hw3.same fl.same) (hM.ok _ hqM) _ fun H6 e6 => ⟨_, rfl, ?_⟩⟩
      have fl6 := fl.ext e6
      have hyl := hY.length
      have hfl := List.length_filter_le (fun q : WS => p q.2) (lvl.take i)
      rw [List.length_take] at hfl
      have ht : (lvl.take (i + 1)).filter (fun q => p q.2) = (lvl.take i).filter (fun q => p q.2) ++ (if p q.2 = true then [q] else []) := by
        rw [take_add hq, List.filter_append, List.filter_cons, List.filter_nil]
      cases hpq : p q.2 with
      | false =>
        rw [hpq, if_neg (by decide), List.append_nil] at ht
        refine iteF ⟨ys, fl6, ?_⟩
        rw [ht]
        exact hY
      | true =>
        rw [hpq, if_pos rfl] at ht
        refine iteT ⟨_, rfl, _, fl6.at_, small (by omega), _, fl6.put, ?_⟩
        rw [ht]
        exact paired_add hY ⟨b, rfl, hw2⟩
    rintro H60 ⟨ys, f6, hY⟩
    rw [hxl, List.take_length] at hY
    dsimp only [gName, List.set]
    refine ⟨_, rfl, Nat.zero_le _, fun p1 hp1 => ?_⟩
    replace f6 := f6.ext (same_upd (o := .lst []) hp1)
    refine ⟨D1, p1, _, rfl, rfl, SqL.of f6.at_, SqL.of upd_same, !ys.isEmpty, rfl, ?_⟩
    generalize upd H60 p1 (.lst []) = H6 at f6 ⊢
    have sm6 := sm.trans f6.same
    have hy0 := f6.at_
    generalize lvl.filter (fun q => p q.2) = gl at hbn hY
    cases hY with
    | cons hw hrest =>
      rename_i y ys' q gl'
      obtain ⟨b, rfl, hbq⟩ := hw
      exact iteT ⟨_, rfl, D1, _, 0, _, rfl, rfl, SqL.of hy0, atI_nat (j := 0) rfl, k1 _ hbn _ b sm6 (f6.same _ _ hbq)⟩
    | nil =>
    refine iteF ?_
    have hbn : wayF N p S = wbfs N p n (sts L ++ (wnx N (sts L) lvl).map (·.2)) (wnx N (sts L) lvl) := hbn
    refine ⟨Nat.zero_le _, fun lt hlt => ?_⟩
    dsimp only [gName, List.set]
    have slt := same_upd (o := .lst []) hlt
    have s7 := sm6.trans slt
    have hnlt : H lt = none := sm6.free hlt
    have hlv7 := slt _ _ (f6.same _ _ hlv)
    have nlt : lt ≠ lv := (ne_of_none (f6.same _ _ hlv) hlt).symm
    have hP7 := pm hP fun _ _ z => IsWy.sk z (SK.of (f6.same.trans slt))
    have fD7 := (fD.ext f6.same).ext slt
    have hsz : (lvl.flatMap (stp1 N)).length ≤ 20000 := by
      have := flatw_len lvl hN
      omega
    refine ⟨_, rfl, lv, rfl, ⟨_, SqL.of hlv7⟩, ?_⟩
    refine for_list (K := X.K) (a := lv) (xs := xs) (fun i σ H' => ∃ (c6 c7 c8 c9 : Option V) (C : AS) (zs : List V) (L2' : List WS), σ = [some v, some (.ref f), some (.ref F), some (.ref lv), some (.ref D1), some (.ref lt), c6, c7, c8, c9] ∧ Same H H' ∧ FD X.prog X.w H H' F C ∧ H' lv = some (.lst xs) ∧ H' lt = some (.lst zs) ∧ Paired (IsWy H') xs lvl ∧ Paired (IsWy H') zs L2' ∧
      sts C = sts L ++ L2'.map (·.2) ∧ L2' = wnews (sts L) ((lvl.take i).flatMap (stp1 N))) ⟨_, _, _, _, L, [], [], rfl, s7, fD7, hlv7, upd_same, hP7, .nil, (List.append_nil _).symm, rfl⟩ (fun i σ H' _ ⟨_, _, _, _, _, _, _, _, _, _, hlv, _⟩ => SqL.of hlv) ?_ ?_
    · rintro i x σ H8 hx ⟨c6, c7, c8, c9, C, zs, L2', rfl, sm, fD, hlv, hlt, hP, hZ, eC, eL⟩
      obtain ⟨q, hq, t, b, c, rfl, hw1, hw2, hw3⟩ := paired_getL hP hx
      have hqM := hlin q (List.mem_of_getElem? hq)
      have hil := (List.getElem?_eq_some_iff.mp hq).1
      refine ⟨t, _, rfl, SqT.of hw1, rfl, _, _, rfl, _, _, rfl, rfl, ?_⟩
      dsimp only [gName, List.set]
      refine ⟨_, rfl, _, rfl, v, N, c, q.2, rfl, hv.same sm, hN, hw3, hM.ok _ hqM, fun H9 pw e9 n9 hpw => ?_⟩
      refine ⟨pw, rfl, ⟨_, SqL.of hpw⟩, ?_⟩
      have nFp : F ≠ pw := ne_of_none fD.at_ n9
      have nlp : lt ≠ pw := ne_of_none hlt n9
      refine for_list (K := X.K) (a := pw) (xs := intsV (doab N q.2)) (fun j σ H' => ∃ (c8 c9 : Option V) (C : AS) (zs : List V) (L2' : List WS), σ = [some v, some (.ref f), some (.ref F), some (.ref lv), some (.ref D1), some (.ref lt), some (.ref b), some (.ref c), c8, c9] ∧ Same H H' ∧ FD X.prog X.w H H' F C ∧ H' lv = some (.lst xs) ∧ H' pw = some (.lst (intsV (doab N q.2))) ∧ H' lt = some (.lst zs) ∧ Paired (IsWy H') xs lvl ∧ Paired (IsWy H') zs L2' ∧ H' b = some (.tup (intsV q.1)) ∧ IsS H' c q.2 ∧
        sts C = sts L ++ L2'.map (·.2) ∧ L2' = wnews (sts L) ((lvl.take i).flatMap (stp1 N) ++ (stp1 N q).take j)) ⟨_, _, C, zs, L2', rfl, sm.trans e9, fD.ext e9, e9 _ _ hlv, hpw, e9 _ _ hlt, pm hP fun _ _ z => IsWy.sk z (SK.of e9), pm hZ fun _ _ z => IsWy.sk z (SK.of e9), e9 _ _ hw2, hw3.same e9, eC, by rw [List.take_zero, List.append_nil]; exact eL⟩ (fun j σ H' _ ⟨_, _, _, _, _, _, _, _, _, hpw, _⟩ => SqL.of hpw) ?_ ?_
      · rintro j y σ H10 hy ⟨c8, c9, C, zs, L2', rfl, sm, fD, hlv, hpw, hlt, hP, hZ, hbw, hcS, eC, eL⟩
        obtain ⟨r, hr2, rfl⟩ := map_at hy
        have hrl : r < N.steps.length := List.mem_range.mp (List.mem_filter.mp (List.mem_of_getElem? hr2)).1
        have hst1 : (stp1 N q)[j]? = some (q.1 ++ [r], ledI N q.2 r) := by
          unfold stp1 waysS
          rw [List.map_map, List.getElem?_map, hr2]
          rfl
        dsimp only [gName, List.set]
        refine ⟨_, rfl, _, rfl, _, rfl, v, N, c, q.2, r, rfl, hv.same sm, hN, hcS, hM.ok _ hqM, hrl, fun H11 b2 e11 hb2 => ?_⟩
        dsimp only [gName, List.set]
        replace sm := sm.trans e11
        replace fD := fD.ext e11
        replace hlv := e11 _ _ hlv
        replace hpw := e11 _ _ hpw
        replace hlt := e11 _ _ hlt
        replace hP := pm hP fun _ _ z => IsWy.sk z (SK.of e11)
        replace hZ := pm hZ fun _ _ z => IsWy.sk z (SK.of e11)
        replace hbw := e11 _ _ hbw
        replace hcS := IsS.same hcS e11
        have hone := wnews_one (sts L) ((lvl.take i).flatMap (stp1 N) ++ (stp1 N q).take j) (q.1 ++ [r], ledI N q.2 r)
        rw [List.append_assoc, ← take_add hst1, ← eL, ← eC] at hone
        refine ⟨_, rfl, _, rfl, b2, F, ledI N q.2 r, C, rfl, rfl, hb2, fD.at_, fD.sts, _, rfl, ?_⟩
        have hCl : C.length ≤ 30000 := by
          have h1 := wnews_len (sts L) ((lvl.take i).flatMap (stp1 N) ++ (stp1 N q).take j)
          have h2 := flatw_len (lvl.take i) hN
          have h3 := stp1_len q hN
          have h4 := sts_len C
          rw [eC, List.length_append, List.length_map, sts_len] at h4
          rw [← eL, List.length_append, List.length_take] at h1
          rw [List.length_take] at h2
          omega
        have hzl : zs.length ≤ 30000 := by
          have h4 := sts_len C
          rw [eC, List.length_append, List.length_map] at h4
          have h5 : zs.length = L2'.length := hZ.length
          omega
        by_cases hm : ledI N q.2 r ∈ sts C
        · rw [if_pos hm] at hone
          rw [show (!decide (ledI N q.2 r ∈ List.map (fun x => x.2) C)) = false by rw [decide_eq_true (show ledI N q.2 r ∈ List.map (fun x => x.2) C from hm)]; rfl]
          exact iteF ⟨_, _, C, zs, L2', rfl, sm, fD, hlv, hpw, hlt, hP, hZ, hbw, hcS, eC, hone.symm⟩
        · rw [if_neg hm] at hone
          rw [show (!decide (ledI N q.2 r ∈ List.map (fun x => x.2) C)) = true by rw [decide_eq_false (show ¬ ledI N q.2 r ∈ List.map (fun x => x.2) C from hm)]; rfl]
          refine iteT ⟨_, rfl, _, rfl, F, b2, ledI N q.2 r, C, rfl, rfl, rfl, hb2, fD.at_, fD.sts, hm, small (by omega), ?_⟩
          have hq1 := hwl0 q (List.mem_of_getElem? hq)
          have nlF : lv ≠ F := fun e => by
            rw [e, fD.at_] at hlv
            cases hlv
          have ntF : lt ≠ F := fun e => by
            rw [e, fD.at_] at hlt
            cases hlt
          have fD1 := fD.put hb2
          have sF : SK H11 (upd H11 F (SDO X.prog X.w F (C ++ [(b2, ledI N q.2 r)]))) := SK.sdo fD.at_
          have smF : Same H (upd H11 F (SDO X.prog X.w F (C ++ [(b2, ledI N q.2 r)]))) := Same.own sm fD.new
          have hlv1 : upd H11 F (SDO X.prog X.w F (C ++ [(b2, ledI N q.2 r)])) lv = some (.lst xs) := by rw [upd_ne nlF]; exact hlv
          have hlt1 : upd H11 F (SDO X.prog X.w F (C ++ [(b2, ledI N q.2 r)])) lt = some (.lst zs) := by rw [upd_ne ntF]; exact hlt
          have hpw1 : upd H11 F (SDO X.prog X.w F (C ++ [(b2, ledI N q.2 r)])) pw = some (.lst (intsV (doab N q.2))) := by rw [upd_ne nFp.symm]; exact hpw
          have hb3 := IsS.sk hb2 sF
          refine ⟨_, rfl, .inl ⟨rfl, _, SqL.of hlt1⟩, _, rfl, _, rfl, line_le 1 (by decide), fun t0 z0 => ?_⟩
          have st0 := same_upd (o := .tup [V.int ((r : Nat) : Int)]) z0
          refine cat_new (st0 _ _ (sF.tup hbw)) upd_same ?_ fun H12 t1 e12 ht1 => ⟨_, rfl, line_le 2 (by decide), fun t2 z2 => ⟨lt, zs, .ref t2, rfl, rfl, ?_, small (by omega), ?_⟩⟩
          · refine line_le _ ?_
            unfold intsV
            rw [List.length_map]
            show q.1.length + 1 ≤ _
            omega
          · exact same_upd z2 _ _ (e12 _ _ (st0 _ _ hlt1))
          have sa := (st0.trans e12).trans (same_upd (o := .tup [.ref t1, .ref b2]) z2)
          have hta := same_upd (o := .tup [.ref t1, .ref b2]) z2 _ _ ht1
          have htb := @upd_same H12 t2 (.tup [.ref t1, .ref b2])
          have hltc := sa _ _ hlt1
          have sl : SK _ (upd (upd H12 t2 (.tup [.ref t1, .ref b2])) lt (.lst (zs ++ [.ref t2]))) := SK.lst hltc
          have hall := (sF.trans (SK.of sa)).trans sl
          refine ⟨_, _, C ++ [(b2, ledI N q.2 r)], zs ++ [.ref t2], L2' ++ [(q.1 ++ [r], ledI N q.2 r)], rfl, Same.own (smF.trans sa) hnlt, (fD1.ext sa).upd hltc nt_lst ntF.symm, ?_, ?_, upd_same, pm hP fun _ _ z => IsWy.sk z hall, paired_add (pm hZ fun _ _ z => IsWy.sk z hall) ⟨t2, t1, b2, rfl, sl.tup htb, ?_, ?_⟩, hall.tup hbw, IsS.sk hcS hall, ?_, hone.symm⟩
          · rw [upd_ne nlt.symm]
            exact sa _ _ hlv1
          · rw [upd_ne nlp.symm]
            exact sa _ _ hpw1
          · have := sl.tup hta
            unfold intsV at this ⊢
            rw [List.map_append]
            exact this
          · exact IsS.sk (IsS.same hb3 sa) sl
          · rw [sts_app, eC, List.map_append, List.append_assoc]
            rfl
      · rintro σ H10 ⟨c8, c9, C, zs, L2', rfl, sm, fD, hlv, hpw, hlt, hP, hZ, hbw, hcS, eC, eL⟩
        refine ⟨_, _, _, _, C, zs, L2', rfl, sm, fD, hlv, hlt, hP, hZ, eC, ?_⟩
        rw [eL, take_add hq, List.flatMap_append, List.flatMap_singleton]
        rw [show (intsV (doab N q.2)).length = (stp1 N q).length by unfold stp1 waysS intsV; rw [List.length_map, List.length_map, List.length_map], List.take_length]
    · rintro σ H8 ⟨c6, c7, c8, c9, C, zs, L2', rfl, sm, fD, hlv, hlt, hP, hZ, eC, eL⟩
      rw [hxl, List.take_length] at eL
      have eL2 : L2' = wnx N (sts L) lvl := eL
      rw [← eL2, ← eC] at hbn
      have hnd2 : (sts C).Nodup := by
        rw [eC, eL]
        exact wnews_nodup hnd
      have hin2 : ∀ x ∈ sts C, x ∈ M := fun x hx => by
        rw [eC] at hx
        rcases List.mem_append.mp hx with hx | hx
        · exact hin x hx
        · obtain ⟨y, hy, rfl⟩ := List.mem_map.mp hx
          rw [eL2] at hy
          exact wnx_in hM hlin y hy
      have hCl := nodup_len hnd2 hin2
      have hC2 := sts_len C
      rw [eC, List.length_append, List.length_map, sts_len] at hC2
      rw [sts_len] at hCl
      refine ⟨_, rfl, F, lt, _, _, _, _, _, _, C, zs, L2', rfl, sm, fD, hnlt, hlt, hZ, hbn.symm, ?_, hnd2, hin2, ?_, by omega, ?_⟩
      · by_cases h0 : L2' = []
        · refine .inr ⟨h0, ?_⟩
          rcases hn with hn | hn
          · omega
          · exact absurd hn.1 hAe
        · have := List.length_pos_iff.mpr h0
          refine .inl ?_
          rcases hn with hn | hn
          · omega
          · exact absurd hn.1 hAe
      · intro y hy
        rw [eL2] at hy
        exact wnx_in hM hlin y hy
      · intro y hy
        rw [eL] at hy
        obtain ⟨x, hx, hy2⟩ := List.mem_flatMap.mp (wnews_mem hy)
        have h1 := hwl0 x hx
        obtain ⟨r, _, rfl⟩ := List.mem_map.mp hy2
        show (x.1 ++ [r.1]).length + n ≤ 300
        rw [List.length_append]
        show x.1.length + 1 + n ≤ 300
        omega
  · rintro σ H5 ⟨s', hW⟩
    exact k0 hW _ s'
end
end Net
namespace Net
open PySem PySem.Spec PyProof.Rows L2 SDx NetR
theorem paired_perm {α β : Type} {F : α → β → Prop} {l l' : List α} (p : l'.Perm l) : ∀ {m : List β}, Paired F l m → ∃ m', Paired F l' m' ∧ m'.Perm m := by
  induction p with
  | nil => exact fun h => ⟨_, h, List.Perm.refl _⟩
  | cons x _ ih =>
    intro m h
    cases h with
    | cons r t =>
      obtain ⟨m', h1, h2⟩ := ih t
      exact ⟨_, .cons r h1, h2.cons _⟩
  | swap x y l =>
    intro m h
    cases h with
    | cons r t =>
      cases t with
      | cons r2 t2 => exact ⟨_, .cons r2 (.cons r t2), List.Perm.swap _ _ _⟩
  | trans _ _ ih1 ih2 =>
    intro m h
    obtain ⟨m2, h1, h2⟩ := ih2 h
    obtain ⟨m3, h3, h4⟩ := ih1 h1
    exact ⟨m3, h3, h4.trans h2⟩
theorem seq_nat {n j : Nat} (hj : j < n) : seqIndex? (j : Int) n = some j := by
  refine (ixN_seq (i := (j : Int)) ?_).1
  unfold ixN
  rw [if_pos (by omega), if_pos (by omega)]
  rfl
theorem erase_perm {α : Type} : ∀ {l : List α} {i : Nat} (h : i < l.length), (l[i] :: l.eraseIdx i).Perm l
  | x :: l, 0, _ => List.Perm.refl _
  | x :: l, i + 1, h => by
    have hi : i < l.length := Nat.lt_of_succ_lt_succ h
    have ih := erase_perm hi
    show (l[i] :: x :: l.eraseIdx i).Perm (x :: l)
    exact (List.Perm.swap _ _ _).trans (ih.cons x)
theorem perm_le1 {α : Type} {l l' : List α} (p : l'.Perm l) (h : l.length ≤ 1) : l' = l := by
  match l, h with
  | [], _ => exact List.perm_nil.mp p
  | [x], _ => exact List.perm_singleton.mp p
  | _ :: _ :: _, h =>
    rw [List.length_cons, List.length_cons] at h
    omega
def sp_mixed : Sp := fun vs H Q _ => ∃ (b a : Addr) (xs : List V), vs = [.ref b, .ref a] ∧ BagI H b ∧ a ≠ b ∧ H a = some (.lst xs) ∧ xs.length ≤ 1000 ∧ ∀ H' p ys, SB b H H' → BagI H' b → H p = none → H' p = some (.lst ys) → ys.Perm xs → Q (.ref p) H'
def LsP (H : Hp) (a : Addr) (c : List (Str × Int)) : Prop := ∃ ts : List Addr, H a = some (.lst (ts.map V.ref)) ∧ Paired (PairT H) ts c
def LsT (H : Hp) (a : Addr) (c : List (Str × Str × Int)) : Prop := ∃ ts : List Addr, H a = some (.lst (ts.map V.ref)) ∧ Paired (TrpT H) ts c
def sp_lstep : Sp := fun vs H Q _ => ∃ (nm : Str) (role : Option Str) (i o t e : Addr) (ci co : List (Str × Int)) (ct : List (Str × Str × Int)) (ce : List (Str × Int)) (d : Int), vs = [.str nm, roV role, .ref i, .ref o, .ref t, .ref e, .int d] ∧
  LsP H i ci ∧ LsP H o co ∧ LsT H t ct ∧ LsP H e ce ∧ (ci.map (·.1)).Nodup ∧ (co.map (·.1)).Nodup ∧ ct.length ≤ 1 ∧ ce.length ≤ 1 ∧
  ∀ H' p (s : Stp), Same H H' → IsStp H' (.ref p) s → s.nm = nm → s.ins.Perm ci → s.outs.Perm co → s.tests = ct → s.sets = ce → Q (.ref p) H'
def sp_role : Sp := fun vs H Q _ => ∃ (b : Addr), vs = [.ref b] ∧ BagI H b ∧ ∀ H' (r : Option Str), SB b H H' → BagI H' b → Q (roV r) H'
section
variable {P : Program} {w : World} {K : PySem.W.Frag} {mg : Str → Option Value} {base : Heap}
abbrev s__law_mixed : Stmt := top 40
theorem sc__law_mixed : FnScope ["bag", "things", "left", "found"] ["bag", "things"] (defScope s__law_mixed) := ⟨rfl, rfl, rfl, by decide +kernel, rfl, by decide +kernel, by decide +kernel⟩
theorem ok_mixed {f f__law_take : Addr} {fd fd1 : FuncData} (F : Fun K "_law_mixed" "_law_mixed" s__law_mixed f fd) (T : Tx mg) (d__law_take : Ok1 P w K mg base CX0 1 "_law_take" ["bag", "many"] sp_take f__law_take fd1) : FnOk P w K mg base CX0 2 f fd ["bag", "things"] sp_mixed := by
  refine F.ok sc__law_mixed (fun vs H Q E h => ?_) (fun cdv A outer s H vs Q E hr h => ?_)
  · obtain ⟨b, a, xs, rfl, _⟩ := h
    rfl
  · obtain ⟨b, a, xs, rfl, hB, hab, ha, hl, k⟩ := h
    refine ⟨_, (pss_cons (ps_par (i := 2) (j := 3) (by rfl) sc__law_mixed.nd rfl rfl (by decide) rfl rfl (pa_cons (pe_callTy call_list_of (by rfl) T.n_list (by decide +kernel) (pa_cons (pv 1) pa_nil)) (pa_cons (pe_lst pa_nil) pa_nil)) (by rfl))
      (pss_cons (ps_while PassesOwn.never (pt_cmpR (op_neLE hr.units0) (pv 2) (pe_lst pa_nil) (nomark _)) (pss_one (ps_expr (pe_bm PySem.F.plainAttrs_list PySem.F.slot_list_append PySem.F.type_list_append mt_append (pv 3) (pa_cons (pe_bm PySem.F.plainAttrs_list PySem.F.slot_list_pop PySem.F.type_list_pop mt_popAt (pv 2) (pa_cons (pe_call d__law_take.ok (hr.mono (by decide)) rfl d__law_take.g d__law_take.kp d__law_take.b .nil pass0 (pa_cons (pv 0) (pa_cons (pe_callB call_len (by rfl) T.n_len (by decide +kernel) (pa_cons (pv 2) pa_nil)) pa_nil))) pa_nil)) pa_nil)))))
      (pss_one (ps_ret (pv 3))))), ?_⟩
    obtain ⟨_, _, _, _, _, hbl, _⟩ := id hB
    refine ⟨_, rfl, a, xs, rfl, .inl (SqL.of ha), fun lf hlf => ⟨Nat.zero_le _, fun f0 hf0 => ⟨_, _, rfl, ?_⟩⟩⟩
    have s1 := same_upd (o := .lst xs) hlf
    have s2 := same_upd (o := .lst []) hf0
    have nlb : lf ≠ b := (ne_of_none hbl hlf).symm
    have nfb : f0 ≠ b := (ne_of_none (s1 _ _ hbl) hf0).symm
    have nlf : lf ≠ f0 := ne_of_none upd_same hf0
    have hnl : H lf = none := hlf
    have hnf : H f0 = none := s1.free hf0
    dsimp only [L2.start, List.set, List.replicate, List.map, List.length]
    refine seq_join (t := tWhile _ _) (fun σ' H' => σ' = [some (.ref b), some (.ref a), some (.ref lf), some (.ref f0)] ∧ ∃ ys, SB b H H' ∧ BagI H' b ∧ H' f0 = some (.lst ys) ∧ ys.Perm xs) (fun D hD => ?_) ?_
    · refine ⟨fun m σ H' => ∃ (lx fx : List V), σ = [some (.ref b), some (.ref a), some (.ref lf), some (.ref f0)] ∧ SB b H H' ∧ BagI H' b ∧ H' lf = some (.lst lx) ∧ H' f0 = some (.lst fx) ∧ (fx ++ lx).Perm xs ∧ m = lx.length, ⟨_, xs, [], rfl, SB.of (s1.trans s2), hB.same (s1.trans s2), s2 _ _ upd_same, upd_same, List.Perm.refl _, rfl⟩, ?_⟩
      rintro m σ H1 ⟨lx, fx, rfl, sb, hB1, hlx, hfx, hpm, rfl⟩
      refine ⟨_, rfl, Nat.zero_le _, fun p0 hp0 => ?_⟩
      have s3 := same_upd (o := .lst []) hp0
      refine ⟨lf, p0, lx, rfl, rfl, SqL.of (s3 _ _ hlx), SqL.of upd_same, !lx.isEmpty, rfl, ?_⟩
      replace sb := sb.trans (SB.of s3)
      replace hB1 := hB1.same s3
      replace hlx := s3 _ _ hlx
      replace hfx := s3 _ _ hfx
      generalize upd H1 p0 (.lst []) = H2 at sb hB1 hlx hfx ⊢
      cases lx with
      | nil =>
        rw [List.append_nil] at hpm
        exact iteF (hD _ _ ⟨rfl, fx, sb, hB1, hfx, hpm⟩)
      | cons l0 lr =>
      have hln := hpm.length_eq
      rw [List.length_append, List.length_cons] at hln
      refine iteT ⟨fun σ' H' => ∃ (lx fx : List V), σ' = [some (.ref b), some (.ref a), some (.ref lf), some (.ref f0)] ∧ SB b H H' ∧ BagI H' b ∧ H' lf = some (.lst lx) ∧ H' f0 = some (.lst fx) ∧ (fx ++ lx).Perm xs ∧ lr.length = lx.length, fun σ' H' ⟨lx, fx, h1, h2, h3, h4, h5, h6, h7⟩ => ⟨lr.length, Nat.lt_succ_self _, lx, fx, h1, h2, h3, h4, h5, h6, h7⟩, ?_⟩
      refine ⟨_, rfl, .inl ⟨rfl, _, SqL.of hfx⟩, _, rfl, .inl ⟨rfl, _, SqL.of hlx⟩, _, rfl, _, rfl, .ref lf, (l0 :: lr).length, rfl, .inl ⟨_, SqL.of hlx, rfl⟩, b, _, rfl, hB1, ?_, ?_, fun H3 n sb3 hB3 h0 h1 => ?_⟩
      · rw [List.length_cons]
        omega
      · rw [List.length_cons]
        omega
      have hk : n.toNat < (l0 :: lr).length := by omega
      have hlx3 := sb3.at_ hlx nlb
      have hfx3 := sb3.at_ hfx nfb
      refine ⟨lf, _, n, n.toNat, _, rfl, rfl, hlx3, by omega, by rw [List.length_cons] at h1; omega, ?_, List.getElem?_eq_getElem hk, f0, fx, _, rfl, rfl, ?_, small (by omega), ?_⟩
      · have := seq_nat hk
        rw [Int.toNat_of_nonneg h0] at this
        exact this
      · rw [upd_ne nlf.symm]
        exact hfx3
      · have sbf := ((sb.trans sb3).own (o := .lst ((l0 :: lr).eraseIdx n.toNat)) hnl).own (o := .lst (fx ++ [(l0 :: lr)[n.toNat]])) hnf
        refine ⟨(l0 :: lr).eraseIdx n.toNat, fx ++ [(l0 :: lr)[n.toNat]], rfl, sbf, sbf.bag hB, ?_, upd_same, ?_, ?_⟩
        · rw [upd_ne nlf]
          exact upd_same
        · refine List.Perm.trans ?_ hpm
          rw [List.append_assoc]
          exact List.Perm.append_left _ (erase_perm hk)
        · rw [List.length_eraseIdx_of_lt hk]
          rfl
    · rintro σ' H' ⟨rfl, ys, sb, hB', hys, hp⟩
      exact ⟨_, rfl, k _ f0 ys sb hB' hnf hys hp⟩
abbrev s__law_step : Stmt := top 52
theorem sc__law_step : FnScope ["name", "role", "inputs", "outputs", "tests", "sets", "days"] ["name", "role", "inputs", "outputs", "tests", "sets", "days"] (defScope s__law_step) := ⟨rfl, rfl, rfl, by decide +kernel, rfl, by decide +kernel, by decide +kernel⟩
theorem ok_lstep {f : Addr} {fd : FuncData} (F : Fun K "_law_step" "_law_step" s__law_step f fd) (T : Tx mg) : FnOk P w K mg base CX0 1 f fd ["name", "role", "inputs", "outputs", "tests", "sets", "days"] sp_lstep := by
  refine F.ok sc__law_step (fun vs H Q E h => ?_) (fun cdv A outer s H vs Q E hr h => ?_)
  · obtain ⟨nm, role, i, o, t, e, ci, co, ct, ce, d, rfl, _⟩ := h
    rfl
  · obtain ⟨nm, role, i, o, t, e, ci, co, ct, ce, d, rfl, hi, ho, ht, he, ni, no, lt, le, k⟩ := h
    refine ⟨_, (pss_one (ps_ret (pe_tup (pa_cons (pv 0) (pa_cons (pv 1) (pa_cons (pe_callTy DicT.call_tupF (by rfl) T.n_tuple (by decide +kernel) (pa_cons (pe_callB SrtS.cr_sortedX (by rfl) T.n_sorted (by decide +kernel) (pa_cons (pv 2) pa_nil)) pa_nil)) (pa_cons (pe_callTy DicT.call_tupF (by rfl) T.n_tuple (by decide +kernel) (pa_cons (pe_callB SrtS.cr_sortedX (by rfl) T.n_sorted (by decide +kernel) (pa_cons (pv 3) pa_nil)) pa_nil)) (pa_cons (pe_callTy DicT.call_tupF (by rfl) T.n_tuple (by decide +kernel) (pa_cons (pe_callB SrtS.cr_sortedX (by rfl) T.n_sorted (by decide +kernel) (pa_cons (pv 4) pa_nil)) pa_nil)) (pa_cons (pe_callTy DicT.call_tupF (by rfl) T.n_tuple (by decide +kernel) (pa_cons (pe_callB SrtS.cr_sortedX (by rfl) T.n_sorted (by decide +kernel) (pa_cons (pv 5) pa_nil)) pa_nil)) (pa_cons (pe_ifExp (pt_cmpR op_isN (pv 1) pe_non (nomark _)) (pv 6) pe_int) pa_nil)))))))))), ?_⟩
    obtain ⟨ti, hi, pi⟩ := hi
    obtain ⟨to, ho, po⟩ := ho
    obtain ⟨tt, ht, pt⟩ := ht
    obtain ⟨te, he, pe⟩ := he
    refine ⟨_, rfl, _, rfl, _, rfl, i, ti, rfl, SqL.of hi, .inr ⟨ci, pi, ni⟩, fun p1 t1 m1 h1 => ⟨p1, _, rfl, SqL.of upd_same, fun q1 o1 z1 y1 => ?_⟩⟩
    have e1 := (same_upd (o := .lst (t1.map V.ref)) h1).trans (same_upd (o := .frz o1 (.tup (t1.map V.ref))) z1)
    have g1 := @upd_same (upd H p1 (.lst (t1.map V.ref))) q1 (.frz o1 (.tup (t1.map V.ref)))
    generalize upd (upd H p1 (.lst (t1.map V.ref))) q1 (.frz o1 (.tup (t1.map V.ref))) = H1 at e1 g1 ⊢
    refine ⟨_, rfl, o, to, rfl, SqL.of (e1 _ _ ho), .inr ⟨co, pm po fun _ _ x => e1 _ _ x, no⟩, fun p2 t2 m2 h2 => ⟨p2, _, rfl, SqL.of upd_same, fun q2 o2 z2 y2 => ?_⟩⟩
    have e2 := (same_upd (o := .lst (t2.map V.ref)) h2).trans (same_upd (o := .frz o2 (.tup (t2.map V.ref))) z2)
    have g2 := @upd_same (upd H1 p2 (.lst (t2.map V.ref))) q2 (.frz o2 (.tup (t2.map V.ref)))
    generalize upd (upd H1 p2 (.lst (t2.map V.ref))) q2 (.frz o2 (.tup (t2.map V.ref))) = H2 at e2 g2 ⊢
    have e12 := e1.trans e2
    refine ⟨_, rfl, t, tt, rfl, SqL.of (e12 _ _ ht), .inl (by rw [pt.length]; exact lt), fun p3 t3 m3 h3 => ⟨p3, _, rfl, SqL.of upd_same, fun q3 o3 z3 y3 => ?_⟩⟩
    have e3 := (same_upd (o := .lst (t3.map V.ref)) h3).trans (same_upd (o := .frz o3 (.tup (t3.map V.ref))) z3)
    have g3 := @upd_same (upd H2 p3 (.lst (t3.map V.ref))) q3 (.frz o3 (.tup (t3.map V.ref)))
    generalize upd (upd H2 p3 (.lst (t3.map V.ref))) q3 (.frz o3 (.tup (t3.map V.ref))) = H3 at e3 g3 ⊢
    have e13 := e12.trans e3
    refine ⟨_, rfl, e, te, rfl, SqL.of (e13 _ _ he), .inl (by rw [pe.length]; exact le), fun p4 t4 m4 h4 => ⟨p4, _, rfl, SqL.of upd_same, fun q4 o4 z4 y4 => ?_⟩⟩
    have e4 := (same_upd (o := .lst (t4.map V.ref)) h4).trans (same_upd (o := .frz o4 (.tup (t4.map V.ref))) z4)
    have g4 := @upd_same (upd H3 p4 (.lst (t4.map V.ref))) q4 (.frz o4 (.tup (t4.map V.ref)))
    generalize upd (upd H3 p4 (.lst (t4.map V.ref))) q4 (.frz o4 (.tup (t4.map V.ref))) = H4 at e4 g4 ⊢
    have e14 := e13.trans e4
    obtain ⟨ci', pi', ri⟩ := paired_perm m1 pi
    obtain ⟨co', po', ro⟩ := paired_perm m2 po
    have ht3 : t3 = tt := perm_le1 m3 (by rw [pt.length]; exact lt)
    have he4 : t4 = te := perm_le1 m4 (by rw [pe.length]; exact le)
    subst ht3
    subst he4
    have fin : ∀ (z : Int) (p : Addr), H4 p = none → Q (.ref p) (upd H4 p (.tup [.str nm, roV role, .ref q1, .ref q2, .ref q3, .ref q4, .int z])) := fun z p hp => by
      have s5 := same_upd (o := .tup [.str nm, roV role, .ref q1, .ref q2, .ref q3, .ref q4, .int z]) hp
      have sa := e14.trans s5
      refine k _ p ⟨nm, role, ci', co', ct, ce, z⟩ sa ⟨p, q1, q2, q3, q4, rfl, upd_same, ⟨o1, t1, ?_, y1, pm pi' fun _ _ x => sa _ _ x⟩, ⟨o2, t2, ?_, y2, pm po' fun _ _ x => sa _ _ x⟩, ⟨o3, t3, ?_, pm pt fun _ _ x => sa _ _ x⟩, ⟨o4, t4, ?_, y4, pm pe fun _ _ x => sa _ _ x⟩⟩ rfl ri ro rfl rfl
      · exact s5 _ _ (e4 _ _ (e3 _ _ (e2 _ _ g1)))
      · exact s5 _ _ (e4 _ _ (e3 _ _ g2))
      · exact s5 _ _ (e4 _ _ g3)
      · exact s5 _ _ g4
    refine ⟨_, rfl, rfl, _, rfl, ?_⟩
    cases role with
    | none => exact iteT ⟨_, rfl, line_le 7 (by decide), fun p hp => fin d p hp⟩
    | some r => exact iteF ⟨line_le 7 (by decide), fun p hp => fin 0 p hp⟩
abbrev s__law_role : Stmt := top 53
theorem sc__law_role : FnScope ["bag"] ["bag"] (defScope s__law_role) := ⟨rfl, rfl, rfl, by decide +kernel, rfl, by decide +kernel, by decide +kernel⟩
theorem ok_role {f f__law_some : Addr} {fd fd1 : FuncData} (F : Fun K "_law_role" "_law_role" s__law_role f fd) (T : Tx mg) (d__law_some : Ok1 P w K mg base CX0 2 "_law_some" ["bag", "things"] sp_some f__law_some fd1) : FnOk P w K mg base CX0 3 f fd ["bag"] sp_role := by
  refine F.ok sc__law_role (fun vs H Q E h => ?_) (fun cdv A outer s H vs Q E hr h => ?_)
  · obtain ⟨b, rfl, _⟩ := h
    rfl
  · obtain ⟨b, rfl, hB, k⟩ := h
    refine ⟨_, (pss_one (ps_ret (pe_call d__law_some.ok (hr.mono (by decide)) rfl d__law_some.g d__law_some.kp d__law_some.b .nil pass0 (pa_cons (pv 0) (pa_cons (pe_lst (pa_cons pe_str (pa_cons pe_str (pa_cons pe_str (pa_cons pe_str (pa_cons pe_str (pa_cons pe_non pa_nil))))))) pa_nil))))), ?_⟩
    obtain ⟨_, _, _, _, _, hbl, _⟩ := id hB
    refine ⟨_, rfl, line_le 6 (by decide), fun p hp => ?_⟩
    have s1 := same_upd (o := .lst [V.str "clerk", V.str "boss", V.str "clerk", V.str "boss", V.str "judge", V.non]) hp
    refine ⟨b, p, _, rfl, hB.same s1, (ne_of_none hbl hp).symm, upd_same, List.cons_ne_nil _ _, by show 6 < 1073741824; omega, fun H' v sb hB' hv => ?_⟩
    have h2 : ∃ r, v = roV r := by
      rcases List.mem_cons.mp hv with rfl | hv
      · exact ⟨some "clerk", rfl⟩
      rcases List.mem_cons.mp hv with rfl | hv
      · exact ⟨some "boss", rfl⟩
      rcases List.mem_cons.mp hv with rfl | hv
      · exact ⟨some "clerk", rfl⟩
      rcases List.mem_cons.mp hv with rfl | hv
      · exact ⟨some "boss", rfl⟩
      rcases List.mem_cons.mp hv with rfl | hv
      · exact ⟨some "judge", rfl⟩
      rw [List.mem_singleton.mp hv]
      exact ⟨none, rfl⟩
    obtain ⟨r, rfl⟩ := h2
    exact k _ r ((SB.of s1).trans sb) hB'
end
end Net
namespace Net
open PySem PySem.Spec PyProof.Rows L2 NetR SDx
def Co (b l : Addr) (H : Hp) : Hp := dlt (dlt H b) l
section
variable {b l x : Addr} {H H' : Hp} {o : HO}
theorem co_at (e : H x = some o) (h1 : x ≠ b) (h2 : x ≠ l) : Co b l H x = some o := dlt_at (dlt_at e h1) h2
theorem co_of (e : Co b l H x = some o) : H x = some o := dlt_same _ _ _ _ (dlt_same _ _ _ _ e)
theorem co_same (s : Same H H') : Same (Co b l H) (Co b l H') := dlt_mono (dlt_mono s)
theorem co_sb (s : SB b H H') : Same (Co b l H) (Co b l H') := dlt_mono s.s
theorem co_ne (e : Co b l H x = some o) : x ≠ b ∧ x ≠ l := ⟨dlt_some (dlt_same _ _ _ _ e), dlt_some e⟩
theorem co_new {l' : Addr} (s : Same H H') (h : H l' = none) (e : Co b l H x = some o) : Co b l' H' x = some o := co_at (s _ _ (co_of e)) (co_ne e).1 (ne_of_none (co_of e) h)
theorem co_news {l' : Addr} (s : Same H H') (h : H l' = none) : Same (Co b l H) (Co b l' H') := fun _ _ e => co_new s h e
theorem co_put : Co b l (upd H l o) = Co b l H := by
  show dlt (dlt (upd H l o) b) l = dlt (dlt H b) l
  rw [dlt_dlt, dlt_upd, dlt_dlt]
end
abbrev Rc := Str × List Str × List Str
def Stn (G : Hp) (v : V) (r : Rc) : Prop := ∃ s i o : Addr, v = .ref s ∧ G s = some (.lst [.str r.1, .ref i, .ref o]) ∧ G i = some (.lst (r.2.1.map V.str)) ∧ G o = some (.lst (r.2.2.map V.str))
theorem Stn.same {G G' : Hp} {v : V} {r : Rc} (h : Stn G v r) (s : Same G G') : Stn G' v r := by
  obtain ⟨a, i, o, rfl, h1, h2, h3⟩ := h
  exact ⟨a, i, o, rfl, s _ _ h1, s _ _ h2, s _ _ h3⟩
theorem paired_take {α β : Type} {F : α → β → Prop} {l : List α} {m : List β} (h : Paired F l m) : ∀ n : Nat, Paired F (l.take n) (m.take n) := by
  induction h with
  | nil => intro n; cases n <;> exact .nil
  | cons r t ih =>
    intro n
    cases n with
    | zero => exact .nil
    | succ n => exact .cons r (ih n)
theorem paired_drop {α β : Type} {F : α → β → Prop} {l : List α} {m : List β} (h : Paired F l m) : ∀ n : Nat, Paired F (l.drop n) (m.drop n) := by
  induction h with
  | nil => intro n; cases n <;> exact .nil
  | cons r t ih =>
    intro n
    cases n with
    | zero => exact .cons r t
    | succ n => exact ih n
theorem paired_app {α β : Type} {F : α → β → Prop} {l l2 : List α} {m m2 : List β} (h : Paired F l m) (h2 : Paired F l2 m2) : Paired F (l ++ l2) (m ++ m2) := by
  induction h with
  | nil => exact h2
  | cons r t ih => exact .cons r ih
structure Bk (H0 : Hp) (b l : Addr) : Prop where
  b : ∃ o, H0 b = some o
  l : ∃ o, H0 l = some o
theorem Bk.ne {H0 H : Hp} {b l p : Addr} (h : Bk H0 b l) (s : Same H0 H) (hp : H p = none) : p ≠ b ∧ p ≠ l := by
  obtain ⟨⟨o, e⟩, ⟨o2, e2⟩⟩ := h
  exact ⟨(ne_of_none (s _ _ e) hp).symm, (ne_of_none (s _ _ e2) hp).symm⟩
def StE (σ : L2.St) (H0 : Hp) (te : TE) (s : Str) : Prop := ∀ (H1 : Hp) (Q : VK), Same H0 H1 → Q (.str s) H1 → te σ H1 Q
def LsE (σ : L2.St) (H0 : Hp) (b l : Addr) (te : TE) (a : List Str) : Prop := ∀ (H1 : Hp) (Q : VK), Same H0 H1 → (∀ H2 p, Same H1 H2 → Co b l H2 p = some (.lst (a.map V.str)) → Q (.ref p) H2) → te σ H1 Q
def SnE (σ : L2.St) (H0 : Hp) (b l : Addr) (te : TE) (r : Rc) : Prop := ∀ (H1 : Hp) (Q : VK), Same H0 H1 → (∀ H2 v, Same H1 H2 → Stn (Co b l H2) v r → Q v H2) → te σ H1 Q
def MlE (σ : L2.St) (H0 : Hp) (b l : Addr) (te : TE) (rs : List Rc) : Prop := ∀ (H1 : Hp) (Q : VK), Same H0 H1 → (∀ H2 p vs, Same H1 H2 → H1 p = none → H2 p = some (.lst vs) → Paired (Stn (Co b l H2)) vs rs → Q (.ref p) H2) → te σ H1 Q
section
variable {σ : L2.St} {H0 : Hp} {b l : Addr} {t1 t2 t3 : TE}
theorem StE.var {i : Nat} {s : Str} (h : σ[i]? = some (some (.str s))) : StE σ H0 (tVar i) s := fun _ _ _ q => ⟨_, h, q⟩
theorem LsE.var {i : Nat} {p : Addr} {a : List Str} (h : σ[i]? = some (some (.ref p))) (e : Co b l H0 p = some (.lst (a.map V.str))) : LsE σ H0 b l (tVar i) a := fun H1 _ s q => ⟨_, h, q H1 p (Same.refl _) (co_same s _ _ e)⟩
theorem LsE.one {x : Str} (bk : Bk H0 b l) (h : StE σ H0 t1 x) : LsE σ H0 b l (tLst (tCons t1 tNil)) [x] := fun H1 _ s q =>
  h H1 _ s ⟨line_le 1 (by decide), fun p hp => q _ p (same_upd hp) (co_at upd_same (bk.ne s hp).1 (bk.ne s hp).2)⟩
theorem LsE.two {x y : Str} (bk : Bk H0 b l) (h : StE σ H0 t1 x) (h2 : StE σ H0 t2 y) : LsE σ H0 b l (tLst (tCons t1 (tCons t2 tNil))) [x, y] := fun H1 _ s q =>
  h H1 _ s (h2 H1 _ s ⟨line_le 2 (by decide), fun p hp => q _ p (same_upd hp) (co_at upd_same (bk.ne s hp).1 (bk.ne s hp).2)⟩)
theorem SnE.mk {x : Str} {y z : List Str} (bk : Bk H0 b l) (h1 : StE σ H0 t1 x) (h2 : LsE σ H0 b l t2 y) (h3 : LsE σ H0 b l t3 z) : SnE σ H0 b l (tLst (tCons t1 (tCons t2 (tCons t3 tNil)))) (x, y, z) := fun H1 _ s q =>
  h1 H1 _ s (h2 H1 _ s fun H2 p2 s2 e2 => h3 H2 _ (s.trans s2) fun H3 p3 s3 e3 => ⟨line_le 3 (by decide), fun p hp =>
    have n := bk.ne ((s.trans s2).trans s3) hp
    q _ _ ((s2.trans s3).trans (same_upd hp)) ⟨p, p2, p3, rfl, co_at upd_same n.1 n.2, co_same (s3.trans (same_upd hp)) _ _ e2, co_same (same_upd hp) _ _ e3⟩⟩)
theorem MlE.one {r : Rc} (h1 : SnE σ H0 b l t1 r) : MlE σ H0 b l (tLst (tCons t1 tNil)) [r] := fun H1 _ s q =>
  h1 H1 _ s fun H2 v s2 e2 => ⟨line_le 1 (by decide), fun p hp => q _ _ _ (s2.trans (same_upd hp)) (s2.free hp) upd_same (.cons (e2.same (co_same (same_upd hp))) .nil)⟩
theorem MlE.two {r r2 : Rc} (h1 : SnE σ H0 b l t1 r) (h2 : SnE σ H0 b l t2 r2) : MlE σ H0 b l (tLst (tCons t1 (tCons t2 tNil))) [r, r2] := fun H1 _ s q =>
  h1 H1 _ s fun H2 v s2 e2 => h2 H2 _ (s.trans s2) fun H3 v3 s3 e3 => ⟨line_le 2 (by decide), fun p hp => q _ _ _ ((s2.trans s3).trans (same_upd hp)) ((s2.trans s3).free hp) upd_same
    (.cons (e2.same (co_same (s3.trans (same_upd hp)))) (.cons (e3.same (co_same (same_upd hp))) .nil))⟩
theorem MlE.three {r r2 r3 : Rc} (h1 : SnE σ H0 b l t1 r) (h2 : SnE σ H0 b l t2 r2) (h3 : SnE σ H0 b l t3 r3) : MlE σ H0 b l (tLst (tCons t1 (tCons t2 (tCons t3 tNil)))) [r, r2, r3] := fun H1 _ s q =>
  h1 H1 _ s fun H2 v s2 e2 => h2 H2 _ (s.trans s2) fun H3 v3 s3 e3 => h3 H3 _ ((s.trans s2).trans s3) fun H4 v4 s4 e4 => ⟨line_le 3 (by decide), fun p hp => q _ _ _ (((s2.trans s3).trans s4).trans (same_upd hp)) (((s2.trans s3).trans s4).free hp) upd_same
    (.cons (e2.same (co_same ((s3.trans s4).trans (same_upd hp)))) (.cons (e3.same (co_same (s4.trans (same_upd hp)))) (.cons (e4.same (co_same (same_upd hp))) .nil)))⟩
theorem MlE.var {i : Nat} {p : Addr} {vs : List V} {rs : List Rc} (h : σ[i]? = some (some (.ref p))) (e : H0 p = some (.lst vs)) (hp : Paired (Stn (Co b l H0)) vs rs) : ∀ (Q : VK), (∀ H2 p vs, Same H0 H2 → H2 p = some (.lst vs) → Paired (Stn (Co b l H2)) vs rs → Q (.ref p) H2) → tVar i σ H0 Q := fun Q q => ⟨_, h, q H0 p vs (Same.refl _) e hp⟩
theorem MlE.hm {rs : List Rc} {tm : TE} (h : MlE σ H0 b l tm rs) : ∀ (H1 : Hp) (Q : VK), Same H0 H1 → (∀ H2 p vs, Same H1 H2 → H2 p = some (.lst vs) → Paired (Stn (Co b l H2)) vs rs → Q (.ref p) H2) → tm σ H1 Q := fun H1 Q s q => h H1 Q s fun H2 p vs s2 _ e P => q H2 p vs s2 e P
theorem tcat3 {K : PySem.W.Frag} {st : Addr} {xs : List V} {rs ms : List Rc} {te tm : TE} {p1 p2 : TO} {n1 n2 : Nat} (bk : Bk H0 b l) (hst : Co b l H0 st = some (.lst xs)) (hP : Paired (Stn (Co b l H0)) xs rs)
    (hte : ∀ H Q, Q (.ref st) H → te σ H Q) (h1 : ∀ H Q, Q (some ((n1 : Nat) : Int)) H → p1 σ H Q) (h2 : ∀ H Q, Q (some ((n2 : Nat) : Int)) H → p2 σ H Q)
    (hm : ∀ (H1 : Hp) (Q : VK), Same H0 H1 → (∀ H2 p vs, Same H1 H2 → H2 p = some (.lst vs) → Paired (Stn (Co b l H2)) vs ms → Q (.ref p) H2) → tm σ H1 Q) (hz : rs.length ≤ 100) (hz2 : ms.length ≤ 100)
    {Q : VK} (q : ∀ H p vs, Same H0 H → H0 p = none → H p = some (.lst vs) → Paired (Stn (Co b l H)) vs (rs.take n1 ++ ms ++ rs.drop n2) → Q (.ref p) H) :
    tOp rCat (tOp rCat (tSl (rSlL K) te tNoPart p1) tm) (tSl (rSlL K) te p2 tNoPart) σ H0 Q := by
  have hxl := hP.length
  have hbig := sl_big
  refine hte _ _ (h1 _ _ ⟨st, xs, rfl, SqL.of (co_of hst), fun pa ha => ?_⟩)
  rw [cut_take]
  have s1 := same_upd (o := .lst (xs.take n1)) ha
  refine hm _ _ s1 fun H2 pq vs s2 hm2 hP2 => ⟨pa, pq, _, _, rfl, rfl, s2 _ _ upd_same, hm2, ?_, fun pb hb => ?_⟩
  · rw [hP2.length, List.length_take]
    omega
  have s3 := same_upd (o := .lst (xs.take n1 ++ vs)) hb
  have s123 := (s1.trans s2).trans s3
  refine hte _ _ (h2 _ _ ⟨st, xs, rfl, SqL.of (s123 _ _ (co_of hst)), fun pc hc => ?_⟩)
  rw [cut_drop]
  have s4 := same_upd (o := .lst (xs.drop n2)) hc
  refine ⟨pb, pc, _, _, rfl, rfl, s4 _ _ upd_same, upd_same, ?_, fun pd hd => ?_⟩
  · rw [List.length_append, hP2.length, List.length_take, List.length_drop]
    omega
  have s5 := same_upd (o := .lst (xs.take n1 ++ vs ++ xs.drop n2)) hd
  have sa := (s123.trans s4).trans s5
  have hPa := pm hP fun _ _ z => Stn.same z (co_same sa)
  exact q _ _ _ sa ((s123.trans s4).free hd) upd_same (paired_app (paired_app (paired_take hPa n1) (pm hP2 fun _ _ z => Stn.same z (co_same ((s3.trans s4).trans s5)))) (paired_drop hPa n2))
theorem tcat3A {g : TG} {D : Ends} {K : PySem.W.Frag} {st : Addr} {xs : List V} {rs ms : List Rc} {te tm : TE} {p1 p2 : TO} {n1 n2 : Nat} (bk : Bk H0 b l) (hst : Co b l H0 st = some (.lst xs)) (hP : Paired (Stn (Co b l H0)) xs rs)
    (hte : ∀ H Q, Q (.ref st) H → te σ H Q) (h1 : ∀ H Q, Q (some ((n1 : Nat) : Int)) H → p1 σ H Q) (h2 : ∀ H Q, Q (some ((n2 : Nat) : Int)) H → p2 σ H Q)
    (hm : ∀ (H1 : Hp) (Q : VK), Same H0 H1 → (∀ H2 p vs, Same H1 H2 → H2 p = some (.lst vs) → Paired (Stn (Co b l H2)) vs ms → Q (.ref p) H2) → tm σ H1 Q) (hz : rs.length ≤ 100) (hz2 : ms.length ≤ 100)
    (q : ∀ H p vs, Same H0 H → H0 p = none → H p = some (.lst vs) → Paired (Stn (Co b l H)) vs (rs.take n1 ++ ms ++ rs.drop n2) → g (.ref p) σ H D.nx) :
    tAsg (tOp rCat (tOp rCat (tSl (rSlL K) te tNoPart p1) tm) (tSl (rSlL K) te p2 tNoPart)) g D σ H0 := tcat3 bk hst hP hte h1 h2 hm hz hz2 (Q := fun x H => g x σ H D.nx) q
theorem LsE.three {x y z : Str} (bk : Bk H0 b l) (h : StE σ H0 t1 x) (h2 : StE σ H0 t2 y) (h3 : StE σ H0 t3 z) : LsE σ H0 b l (tLst (tCons t1 (tCons t2 (tCons t3 tNil)))) [x, y, z] := fun H1 _ s q =>
  h H1 _ s (h2 H1 _ s (h3 H1 _ s ⟨line_le 3 (by decide), fun p hp => q _ p (same_upd hp) (co_at upd_same (bk.ne s hp).1 (bk.ne s hp).2)⟩))
theorem MlE.asg {rs : List Rc} {te : TE} {g : TG} {D : Ends} (h : MlE σ H0 b l te rs) (q : ∀ H2 p vs, Same H0 H2 → H0 p = none → H2 p = some (.lst vs) → Paired (Stn (Co b l H2)) vs rs → g (.ref p) σ H2 D.nx) : tAsg te g D σ H0 := h H0 _ (Same.refl _) q
theorem StE.cat {r : R2} {x y : Str} {te : TE} (hr : ∀ (H : Hp) (Q : VK), Q (.str (x ++ y)) H → r (.str x) (.str y) H Q) (h : StE σ H0 te x) : StE σ H0 (tOp r te (tC (.str y))) (x ++ y) := fun H1 _ s q => h H1 _ s (hr H1 _ q)
theorem tpl {g : TG} {D : Ends} {K : PySem.W.Frag} {pl : Addr} {ps ys : List Str} {te tm : TE} (hpl : H0 pl = some (.lst (ps.map V.str))) (hte : ∀ H Q, Q (.ref pl) H → te σ H Q) (hm : LsE σ H0 b l tm ys) (hz : ps.length ≤ 100) (hz2 : ys.length ≤ 100)
    (q : ∀ H p, Same H0 H → H0 p = none → H p = some (.lst ((ps.take 1 ++ ys ++ ps.drop 1).map V.str)) → g (.ref p) σ H D.nx) :
    tAsg (tOp rCat (tOp rCat (tSl (rSlL K) te tNoPart (tPart (tC (.int 1)))) tm) (tSl (rSlL K) te (tPart (tC (.int 1))) tNoPart)) g D σ H0 := by
  have hbig := sl_big
  refine hte _ _ ⟨1, rfl, pl, _, rfl, SqL.of hpl, fun pa ha => ?_⟩
  rw [show (some (1 : Int)) = some ((1 : Nat) : Int) from rfl, cut_take]
  have s1 := same_upd (o := .lst ((ps.map V.str).take 1)) ha
  refine hm _ _ s1 fun H2 pq s2 hm2 => ⟨pa, pq, _, _, rfl, rfl, s2 _ _ upd_same, co_of hm2, ?_, fun pb hb => ?_⟩
  · rw [List.length_map, List.length_take, List.length_map]
    omega
  have s3 := same_upd (o := .lst ((ps.map V.str).take 1 ++ ys.map V.str)) hb
  have s123 := (s1.trans s2).trans s3
  refine hte _ _ ⟨1, rfl, pl, _, rfl, SqL.of (s123 _ _ hpl), fun pc hc => ?_⟩
  rw [show (some (1 : Int)) = some ((1 : Nat) : Int) from rfl, cut_drop]
  have s4 := same_upd (o := .lst ((ps.map V.str).drop 1)) hc
  refine ⟨pb, pc, _, _, rfl, rfl, s4 _ _ upd_same, upd_same, ?_, fun pd hd => ?_⟩
  · rw [List.length_append, List.length_map, List.length_take, List.length_drop, List.length_map]
    omega
  have e : (ps.map V.str).take 1 ++ ys.map V.str ++ (ps.map V.str).drop 1 = ((ps.take 1 ++ ys ++ ps.drop 1).map V.str) := by
    rw [List.map_append, List.map_append, List.map_take, List.map_drop]
  have s5 := same_upd (o := .lst ((ps.map V.str).take 1 ++ ys.map V.str ++ (ps.map V.str).drop 1)) hd
  exact q _ _ ((s123.trans s4).trans s5) ((s123.trans s4).free hd) (by rw [← e]; exact upd_same)
theorem tIf_and {t u : TT} {A B : TS} {D : Ends} {a x : Bool} (ht : ∀ Q : Bool → Hp → Prop, Q a H0 → t σ H0 Q) (hu : ∀ Q : Bool → Hp → Prop, Q x H0 → u σ H0 Q) (q : if (a && x) = true then A D σ H0 else B D σ H0) : tIfS (tAnd t u) A B D σ H0 := ht _ (by
  cases a with
  | true => exact iteT (hu _ q)
  | false => exact iteF q)
end
theorem flat_strs : ∀ l : List Str, (l.map V.str).all flatV = true
  | [] => rfl
  | x :: l => by
    rw [List.map_cons, List.all_cons, flat_strs l]
    rfl
def abc : Str := "abcdefghijklmnop"
def letr (j : Nat) : Str := ⟨#[abc.cps.toList.getD j 0]⟩
theorem abcV {j : Nat} (h : j < 16) : (abc.cps.toList.map fun c => V.str ⟨#[c]⟩)[j]? = some (V.str (letr j)) := by
  rw [List.getElem?_map]
  have hl : j < abc.cps.toList.length := by
    have : abc.cps.toList.length = 16 := by decide +kernel
    omega
  rw [List.getElem?_eq_getElem hl]
  show some (V.str ⟨#[_]⟩) = some (V.str ⟨#[abc.cps.toList.getD j 0]⟩)
  rw [List.getD_eq_getElem?_getD, List.getElem?_eq_getElem hl]
  rfl
def sN (j : Nat) : Str := ("s" : Str) ++ letr j
def pN (j : Nat) : Str := ("p" : Str) ++ letr j
theorem sN_inj' : ∀ j : Fin 16, ∀ k : Fin 16, sN j = sN k → j = k := by decide +kernel
theorem sN_inj {j k : Nat} (hj : j < 16) (hk : k < 16) (h : sN j = sN k) : j = k := by
  have := sN_inj' ⟨j, hj⟩ ⟨k, hk⟩ h
  exact congrArg Fin.val this
theorem sN_ne' : ∀ j : Fin 16, sN j ≠ "zed" ∧ sN j ≠ "newa" ∧ sN j ≠ "newb" ∧ (sN j).length = 2 := by decide +kernel
theorem sN_ne {j : Nat} (hj : j < 16) : sN j ≠ "zed" ∧ sN j ≠ "newa" ∧ sN j ≠ "newb" ∧ (sN j).length = 2 := sN_ne' ⟨j, hj⟩
theorem pN_ne' : ∀ j : Fin 16, pN j ≠ pN j ++ ("r" : Str) ∧ pN j ++ ("l" : Str) ≠ pN j ++ ("r" : Str) ∧ (pN j).length = 2 := by decide +kernel
theorem pN_ne {j : Nat} (hj : j < 16) : pN j ≠ pN j ++ ("r" : Str) ∧ pN j ++ ("l" : Str) ≠ pN j ++ ("r" : Str) ∧ (pN j).length = 2 := pN_ne' ⟨j, hj⟩
def Io (r : Rc) : Prop := (r.2.1.Nodup ∧ r.2.1.length ≤ 2) ∧ r.2.2.Nodup ∧ r.2.2.length ≤ 2
structure Wv (i : Nat) (rs : List Rc) : Prop where
  len : rs.length ≤ 1 + 2 * i
  pos : 1 ≤ rs.length
  nd : (rs.map (·.1)).Nodup
  nm : ∀ r ∈ rs, ∃ j, j < rs.length ∧ r.1 = sN j
  io : ∀ r ∈ rs, Io r
theorem Wv.start : Wv 0 [("sa", ["inx"], ["outx"])] := by
  refine ⟨by show 1 ≤ 1; omega, by show 1 ≤ 1; omega, ?_, ?_, ?_⟩
  · show (["sa"] : List Str).Nodup
    decide
  · intro r hr
    rw [List.mem_singleton.mp hr]
    exact ⟨0, by show 0 < 1; omega, by decide⟩
  · intro r hr
    rw [List.mem_singleton.mp hr]
    exact ⟨⟨by show (["inx"] : List Str).Nodup; decide, by show 1 ≤ 2; omega⟩, by show (["outx"] : List Str).Nodup; decide, by show 1 ≤ 2; omega⟩
theorem Wv.step {i : Nat} {A B ns : List Rc} {r r0 : Rc} (h : Wv i (A ++ r :: B)) (hi : i ≤ 3) (e : r0.1 = r.1) (hn : (∃ x y, ns = [x, y] ∧ x.1 = sN (A ++ r :: B).length ∧ y.1 = sN ((A ++ r :: B).length + 1)) ∨ ∃ x, ns = [x] ∧ x.1 = sN (A ++ r :: B).length) (hio : ∀ x ∈ r0 :: ns, Io x) : Wv (i + 1) (A ++ [r0] ++ (ns ++ B)) := by
  have hlen := h.len
  have hL : (A ++ r :: B).length = A.length + (B.length + 1) := by rw [List.length_append, List.length_cons]
  generalize hLd : (A ++ r :: B).length = L at *
  have hns : ns.length = 1 ∨ ns.length = 2 := by
    rcases hn with ⟨x, y, rfl, _⟩ | ⟨x, rfl, _⟩
    · exact .inr rfl
    · exact .inl rfl
  have hlen2 : (A ++ [r0] ++ (ns ++ B)).length = L + ns.length := by
    rw [List.length_append, List.length_append, List.length_append, List.length_singleton]
    omega
  have hnew : ∀ x ∈ ns, ∃ j, L ≤ j ∧ j < L + ns.length ∧ x.1 = sN j := by
    rcases hn with ⟨x, y, rfl, hx, hy⟩ | ⟨x, rfl, hx⟩
    · intro z hz
      rcases List.mem_cons.mp hz with rfl | hz
      · exact ⟨L, Nat.le_refl _, by show L < L + 2; omega, hx⟩
      · rw [List.mem_singleton.mp hz]
        exact ⟨L + 1, by omega, by show L + 1 < L + 2; omega, hy⟩
    · intro z hz
      rw [List.mem_singleton.mp hz]
      exact ⟨L, Nat.le_refl _, by show L < L + 1; omega, hx⟩
  have hnd2 : (ns.map (·.1)).Nodup := by
    rcases hn with ⟨x, y, rfl, hx, hy⟩ | ⟨x, rfl, hx⟩
    · show [x.1, y.1].Nodup
      rw [hx, hy]
      refine List.nodup_cons.mpr ⟨fun hm => ?_, List.nodup_cons.mpr ⟨fun hm => (by cases hm), List.nodup_nil⟩⟩
      have := sN_inj (by omega) (by omega) (List.mem_singleton.mp hm)
      omega
    · show [x.1].Nodup
      exact List.nodup_cons.mpr ⟨fun hm => (by cases hm), List.nodup_nil⟩
  refine ⟨by rw [hlen2]; omega, by rw [hlen2]; omega, ?_, ?_, ?_⟩
  · have hp : ((A ++ [r0] ++ (ns ++ B)).map (·.1)).Perm (ns.map (·.1) ++ (A ++ r :: B).map (·.1)) := by
      have e1 : (A ++ r :: B).map (·.1) = (A ++ [r0]).map (·.1) ++ B.map (·.1) := by
        rw [List.map_append, List.map_append, List.map_cons, List.append_assoc]
        show _ ++ r.1 :: _ = _ ++ ([r0.1] ++ _)
        rw [e]
        rfl
      rw [e1, List.map_append, List.map_append]
      rw [List.map_append, ← List.append_assoc, ← List.append_assoc (ns.map _)]
      exact List.Perm.append_right _ List.perm_append_comm
    refine hp.nodup_iff.mpr (List.nodup_append.mpr ⟨hnd2, h.nd, ?_⟩)
    intro a ha c hc eac
    obtain ⟨x, hx, rfl⟩ := List.mem_map.mp ha
    obtain ⟨y, hy, rfl⟩ := List.mem_map.mp hc
    obtain ⟨j, hj1, hj2, hj⟩ := hnew x hx
    obtain ⟨k, hk1, hk⟩ := h.nm y hy
    rw [hLd] at hk1
    rw [hj, hk] at eac
    have := sN_inj (by omega) (by omega) eac
    omega
  · intro x hx
    rw [hlen2]
    rcases List.mem_append.mp hx with hx | hx
    · rcases List.mem_append.mp hx with hx | hx
      · obtain ⟨k, hk1, hk⟩ := h.nm x (List.mem_append_left _ hx)
        exact ⟨k, by omega, hk⟩
      · rw [List.mem_singleton.mp hx, e]
        obtain ⟨k, hk1, hk⟩ := h.nm r (List.mem_append_right _ (List.mem_cons_self ..))
        exact ⟨k, by omega, hk⟩
    · rcases List.mem_append.mp hx with hx | hx
      · obtain ⟨j, hj1, hj2, hj⟩ := hnew x hx
        exact ⟨j, hj2, hj⟩
      · obtain ⟨k, hk1, hk⟩ := h.nm x (List.mem_append_right _ (List.mem_cons_of_mem _ hx))
        exact ⟨k, by omega, hk⟩
  · intro x hx
    rcases List.mem_append.mp hx with hx | hx
    · rcases List.mem_append.mp hx with hx | hx
      · exact h.io x (List.mem_append_left _ hx)
      · rw [List.mem_singleton.mp hx]
        exact hio _ (List.mem_cons_self ..)
    · rcases List.mem_append.mp hx with hx | hx
      · exact hio _ (List.mem_cons_of_mem _ hx)
      · exact h.io x (List.mem_append_right _ (List.mem_cons_of_mem _ hx))
theorem cut_at {rs : List Rc} {n : Nat} {r : Rc} (h : rs[n]? = some r) : rs = rs.take n ++ r :: rs.drop (n + 1) := by
  obtain ⟨hl, e⟩ := List.getElem?_eq_some_iff.mp h
  rw [← e, ← List.drop_eq_getElem_cons, List.take_append_drop]
theorem Wv.go {i kk : Nat} {rs ns : List Rc} {r r0 : Rc} (h : Wv i rs) (hr : rs[kk]? = some r) (hi : i ≤ 3) (e : r0.1 = r.1) (hn : (∃ x y, ns = [x, y] ∧ x.1 = sN rs.length ∧ y.1 = sN (rs.length + 1)) ∨ ∃ x, ns = [x] ∧ x.1 = sN rs.length) (hio : ∀ x ∈ r0 :: ns, Io x) : Wv (i + 1) (rs.take kk ++ (r0 :: ns) ++ rs.drop (kk + 1)) := by
  have hc := cut_at hr
  have h2 : Wv i (rs.take kk ++ r :: rs.drop (kk + 1)) := hc ▸ h
  have h3 := Wv.step (r0 := r0) (ns := ns) h2 hi e (by rw [← hc]; exact hn) hio
  have e2 : rs.take kk ++ (r0 :: ns) ++ rs.drop (kk + 1) = rs.take kk ++ [r0] ++ (ns ++ rs.drop (kk + 1)) := by
    rw [List.append_assoc, List.append_assoc]
    rfl
  rw [e2]
  exact h3
theorem Wv.go1 {i kk : Nat} {rs ns : List Rc} {r : Rc} (h : Wv i rs) (hr : rs[kk]? = some r) (hi : i ≤ 3) (hn : (∃ x y, ns = [x, y] ∧ x.1 = sN rs.length ∧ y.1 = sN (rs.length + 1)) ∨ ∃ x, ns = [x] ∧ x.1 = sN rs.length) (hio : ∀ x ∈ ns, Io x) : Wv (i + 1) (rs.take (kk + 1) ++ ns ++ rs.drop (kk + 1)) := by
  have h3 := Wv.go (r0 := r) (ns := ns) h hr hi rfl hn (fun x hx => by
    rcases List.mem_cons.mp hx with rfl | hx
    · exact h.io _ (List.mem_of_getElem? hr)
    · exact hio x hx)
  rw [take_add hr]
  have e2 : rs.take kk ++ [r] ++ ns ++ rs.drop (kk + 1) = rs.take kk ++ (r :: ns) ++ rs.drop (kk + 1) := by
    rw [List.append_assoc (rs.take kk)]
    rfl
  rw [e2]
  exact h3
theorem all1 {α : Type} {p : α → Prop} {a : α} (h : p a) : ∀ x ∈ [a], p x := fun x hx => by rw [List.mem_singleton.mp hx]; exact h
theorem all2 {α : Type} {p : α → Prop} {a b : α} (h : p a) (h2 : p b) : ∀ x ∈ [a, b], p x := fun x hx => by
  rcases List.mem_cons.mp hx with rfl | hx
  · exact h
  · exact all1 h2 x hx
theorem all3 {α : Type} {p : α → Prop} {a b c : α} (h : p a) (h2 : p b) (h3 : p c) : ∀ x ∈ [a, b, c], p x := fun x hx => by
  rcases List.mem_cons.mp hx with rfl | hx
  · exact h
  · exact all2 h2 h3 x hx
theorem nd1 {x : Str} : [x].Nodup ∧ [x].length ≤ 2 := ⟨List.nodup_cons.mpr ⟨fun h => (by cases h), List.nodup_nil⟩, by show 1 ≤ 2; omega⟩
theorem nd2 {x y : Str} (h : x ≠ y) : [x, y].Nodup ∧ [x, y].length ≤ 2 := ⟨List.nodup_cons.mpr ⟨fun z => h (List.mem_singleton.mp z), nd1.1⟩, by show 2 ≤ 2; omega⟩
theorem ins_map (ps : List Str) (x : Str) : (ps.map V.str).take 1 ++ [V.str x] ++ (ps.map V.str).drop 1 = ((ps.take 1 ++ [x] ++ ps.drop 1).map V.str) := by
  rw [List.map_append, List.map_append, List.map_take, List.map_drop]
  rfl
theorem ins_len {ps : List Str} {ys : List Str} (h : 2 ≤ ps.length) : (ps.take 1 ++ ys ++ ps.drop 1).length = ps.length + ys.length := by
  rw [List.length_append, List.length_append, List.length_take, List.length_drop]
  omega
theorem LsP.same {H H' : Hp} {a : Addr} {c : List (Str × Int)} (h : LsP H a c) (s : Same H H') : LsP H' a c := by
  obtain ⟨ts, e, p⟩ := h
  exact ⟨ts, s _ _ e, pm p fun _ _ x => s _ _ x⟩
def ones (a : List Str) : List (Str × Int) := a.map fun x => (x, 1)
theorem ones_fst : ∀ a : List Str, (ones a).map (·.1) = a
  | [] => rfl
  | x :: a => by
    show x :: (ones a).map (·.1) = _
    rw [ones_fst a]
theorem ones_nn {a : List Str} : ∀ q ∈ ones a, 0 ≤ q.2 := fun q h => by
  obtain ⟨x, _, rfl⟩ := List.mem_map.mp h
  exact (by decide : (0 : Int) ≤ 1)
theorem tc_ones {K : PySem.W.Frag} {σ : L2.St} {H : Hp} {Q : VK} {k j : Nat} {ia : Addr} {a : List Str} (iv : σ[k]? = some (some (.ref ia))) (hj : j < σ.length) (h : H ia = some (.lst (a.map V.str))) (hl : a.length ≤ 1000) (q : ∀ H' p, Same H H' → LsP H' p (ones a) → Q (.ref p) H') :
    tLc (iList K (tVar k)) (gName j) tYes (tTup (tCons (tVar j) (tCons (tC (V.int 1)) tNil))) [j] σ H Q := by
  refine ⟨_, iv, ia, rfl, ⟨_, SqL.of h⟩, fun D hD => lc_list (K := K) (a := ia) (xs := a.map V.str) (fun i H' => ∃ ts : List Addr, Fill H D (ts.map V.ref) H' ∧ Paired (PairT H') ts (ones (a.take i))) ⟨[], .start hD, .nil⟩ (fun i H' _ ⟨ts, fl, _⟩ => SqL.of (fl.same _ _ h)) ?_ ?_⟩
  · rintro i x H' hx ⟨ts, fl, hP⟩
    obtain ⟨z, hz, rfl⟩ := map_at hx
    refine ⟨wipe1 (List.mem_singleton.mpr rfl), _, List.getElem?_set_self (by rw [wipe_length]; exact hj), line_le 2 (by decide), fun p hp => ?_⟩
    have s1 := same_upd (o := .tup [V.str z, V.int 1]) hp
    have f1 := fl.ext s1
    have hln := hP.length
    unfold ones at hln
    rw [List.length_map, List.length_take] at hln
    refine ⟨_, f1.at_, small (by rw [List.length_map]; omega), ts ++ [p], ?_, ?_⟩
    · rw [List.map_append]
      exact f1.put
    · have ne : D ≠ p := ne_of_none fl.at_ hp
      have sk : SK (upd H' p (.tup [V.str z, V.int 1])) (upd (upd H' p (.tup [V.str z, V.int 1])) D (.lst (ts.map V.ref ++ [V.ref p]))) := SK.lst f1.at_
      have e : ones (a.take (i + 1)) = ones (a.take i) ++ [(z, 1)] := by
        rw [take_add hz]
        exact List.map_append
      rw [e]
      refine paired_add (pm hP fun _ _ y => sk.tup (s1 _ _ y)) ?_
      exact sk.tup upd_same
  · rintro H' ⟨ts, fl, hP⟩
    rw [List.length_map, List.take_length] at hP
    exact q H' D fl.same ⟨ts, fl.at_, hP⟩
theorem sk_co {H : Hp} {b l : Addr} {x y : List V} (hb : H b = some (.lst x)) (hl : H l = some (.lst y)) : SK H (Co b l H) := fun a o e t => co_at e (fun z => by
  rw [z, hb] at e
  cases e
  rcases t with ⟨_, w⟩ | ⟨_, _, w⟩ <;> cases w) (fun z => by
  rw [z, hl] at e
  cases e
  rcases t with ⟨_, w⟩ | ⟨_, _, w⟩ <;> cases w)
end Net
namespace Net
open PySem PySem.Spec PyProof.Rows L2 SDx NetR SumT
structure Good (N : NetT) : Prop where
  ok : NOk N
  nn : ∀ s ∈ N.steps, ∀ q ∈ s.outs, 0 ≤ q.2
  nd : (N.steps.map (·.nm)).Nodup
  nz : ("zed" : Str) ∉ N.steps.map (·.nm)
  p2 : 2 ≤ N.places.length
  p20 : N.places.length ≤ 20
  s1 : 1 ≤ N.steps.length
  s20 : N.steps.length ≤ 20
structure GoodN (N : NetT) : Prop where
  g : Good N
  na : ("newa" : Str) ∉ N.steps.map (·.nm)
  nb : ("newb" : Str) ∉ N.steps.map (·.nm)
  s10 : N.steps.length ≤ 10
def WvI (H0 : Hp) (b : Addr) (m : Int) (i : Nat) (σ : L2.St) (H : Hp) : Prop := ∃ (nl pl st : Addr) (c5 c6 c7 c8 c9 c10 c11 c12 c13 c14 : Option V) (ps : List Str) (xs : List V) (rs : List Rc),
  σ = [some (.ref b), some (.int m), some (.ref nl), some (.ref pl), some (.ref st), c5, c6, c7, c8, c9, c10, c11, c12, c13, c14, none, none, none, none] ∧ SB b H0 H ∧ BagI H b ∧ H0 pl = none ∧ pl ≠ b ∧ H pl = some (.lst (ps.map V.str)) ∧
  2 ≤ ps.length ∧ ps.length ≤ 2 + 3 * i ∧ Co b pl H nl = some (.lst (abc.cps.toList.map fun c => V.str ⟨#[c]⟩)) ∧ Co b pl H st = some (.lst xs) ∧ Paired (Stn (Co b pl H)) xs rs ∧ Wv i rs
theorem wv_fin {H0 H7 H8 : Hp} {b nl pl st' : Addr} {m : Int} {i : Nat} {c5 c6 c7 c8 c9 c10 c11 c12 c13 c14 : Option V} {ps : List Str} {vs : List V} {rs : List Rc} (sb : SB b H0 H7) (hB : BagI H7 b) (npl : H0 pl = none) (npb : pl ≠ b) (hpl : H7 pl = some (.lst (ps.map V.str)))
    (hp2 : 2 ≤ ps.length) (hp3 : ps.length ≤ 2 + 3 * (i + 1)) (hnl : Co b pl H7 nl = some (.lst (abc.cps.toList.map fun c => V.str ⟨#[c]⟩))) (s : Same H7 H8) (n0 : H7 st' = none) (e : H8 st' = some (.lst vs)) (hP : Paired (Stn (Co b pl H8)) vs rs) (W : Wv (i + 1) rs) :
    WvI H0 b m (i + 1) [some (.ref b), some (.int m), some (.ref nl), some (.ref pl), some (.ref st'), c5, c6, c7, c8, c9, c10, c11, c12, c13, c14, none, none, none, none] H8 := by
  obtain ⟨_, _, _, _, _, hbl, _⟩ := id hB
  exact ⟨nl, pl, st', c5, c6, c7, c8, c9, c10, c11, c12, c13, c14, ps, vs, rs, rfl, sb.trans (SB.of s), hB.same s, npl, npb, s _ _ hpl, hp2, hp3, co_same s _ _ hnl, co_at e (ne_of_none hbl n0).symm (ne_of_none hpl n0).symm, hP, W⟩
structure OkS (s : Stp) (r : Rc) : Prop where
  nm : s.nm = r.1
  nn : ∀ q ∈ s.outs, 0 ≤ q.2
  li : s.ins.length ≤ 2
  lo : s.outs.length ≤ 2
  te : s.tests = []
  se : s.sets = []
def WmI (H0 : Hp) (b : Addr) (m : Int) (nl pl st md : Addr) (c5 c6 c7 c8 c12 c13 c14 : Option V) (ps : List Str) (xs : List V) (rs : List Rc) (i : Nat) (σ : L2.St) (H : Hp) : Prop := ∃ (c9 c10 c11 c16 c17 : Option V) (ms : List V) (ss : List Stp),
  σ = [some (.ref b), some (.int m), some (.ref nl), some (.ref pl), some (.ref st), c5, c6, c7, c8, c9, c10, c11, c12, c13, c14, some (.ref md), c16, c17, none] ∧ SB b H0 H ∧ BagI H b ∧ H md = some (.lst ms) ∧ H pl = some (.lst (ps.map V.str)) ∧
  Co b md H st = some (.lst xs) ∧ Paired (Stn (Co b md H)) xs rs ∧ Paired (IsStp (Co b md H)) ms ss ∧ Paired OkS ss (rs.take i)
def sp_net : Sp := fun vs H Q _ => ∃ (b : Addr), vs = [.ref b] ∧ BagI H b ∧ ∀ H' v N, SB b H H' → BagI H' b → IsNet (dlt H' b) v N → GoodN N → Q v H'
def sp_woven : Sp := fun vs H Q _ => ∃ (b : Addr) (m : Int), vs = [.ref b, .int m] ∧ BagI H b ∧ 0 ≤ m ∧ m ≤ 4 ∧ ∀ H' v N, SB b H H' → BagI H' b → IsNet (dlt H' b) v N → GoodN N → Q v H'
section
variable {P : Program} {w : World} {K : PySem.W.Frag} {mg : Str → Option Value} {base : Heap}
abbrev s__law_woven : Stmt := top 54
theorem sc__law_woven : FnScope ["bag", "many", "names", "places", "steps", "turn", "at", "way", "fresh", "name", "ins", "outs", "other", "last", "split", "made", "role", "days", "place"] ["bag", "many"] (defScope s__law_woven) := ⟨rfl, rfl, rfl, by decide +kernel, rfl, by decide +kernel, by decide +kernel⟩
theorem ok_woven {f f__law_take f__law_role f__law_step f__law_mixed : Addr} {fd fd1 fd2 fd3 fd4 : FuncData} (F : Fun K "_law_woven" "_law_woven" s__law_woven f fd) (T : Tx mg) (d__law_take : Ok1 P w K mg base CX0 1 "_law_take" ["bag", "many"] sp_take f__law_take fd1) (d__law_role : Ok1 P w K mg base CX0 3 "_law_role" ["bag"] sp_role f__law_role fd2) (d__law_step : Ok1 P w K mg base CX0 1 "_law_step" ["name", "role", "inputs", "outputs", "tests", "sets", "days"] sp_lstep f__law_step fd3) (d__law_mixed : Ok1 P w K mg base CX0 2 "_law_mixed" ["bag", "things"] sp_mixed f__law_mixed fd4) : FnOk P w K mg base CX0 4 f fd ["bag", "many"] sp_woven := by
  refine F.ok sc__law_woven (fun vs H Q E h => ?_) (fun cdv A outer s H vs Q E hr h => ?_)
  · obtain ⟨b, m, rfl, _⟩ := h
    rfl
  · obtain ⟨b, m, rfl, hB, hm0, hm4, k⟩ := h
    refine ⟨_, (pss_cons (ps_set (i := 2) sc__law_woven.nd rfl (Or.inl rfl) (pe_callTy (SumT.call_listS rfl) (by rfl) T.n_list (by decide +kernel) (pa_cons pe_str pa_nil)))
      (pss_cons (ps_par (i := 3) (j := 4) (by rfl) sc__law_woven.nd rfl rfl (by decide) rfl rfl (pa_cons (pe_lst (pa_cons pe_str (pa_cons pe_str pa_nil))) (pa_cons (pe_lst (pa_cons (pe_lst (pa_cons pe_str (pa_cons (pe_lst (pa_cons pe_str pa_nil)) (pa_cons (pe_lst (pa_cons pe_str pa_nil)) pa_nil)))) pa_nil)) pa_nil)) (by rfl))
      (pss_cons (ps_for PassesOwn.never rfl (pi_range1 (by rfl) T.n_range (pa_cons (pv 1) pa_nil)) (pg_name (i := 5) sc__law_woven.nd rfl (Or.inl rfl)) (pss_cons (ps_par3 (i := 6) (j := 7) (l := 8) (by rfl) sc__law_woven.nd rfl rfl rfl (by decide) (by decide) (by decide) rfl rfl rfl (pa_cons (pe_call d__law_take.ok (hr.mono (by decide)) rfl d__law_take.g d__law_take.kp d__law_take.b .nil pass0 (pa_cons (pv 0) (pa_cons (pe_callB call_len (by rfl) T.n_len (by decide +kernel) (pa_cons (pv 4) pa_nil)) pa_nil))) (pa_cons (pe_call d__law_take.ok (hr.mono (by decide)) rfl d__law_take.g d__law_take.kp d__law_take.b .nil pass0 (pa_cons (pv 0) (pa_cons pe_int pa_nil))) (pa_cons (pe_op op_add_str pe_str (pe_ix ix_list (pv 2) (pv 5) (fun _ _ => rfl))) pa_nil))) (by rfl))
      (pss_cons (ps_asg (pe_ix ix_list (pv 4) (pv 6) (fun _ _ => rfl)) (pg_unl rfl (pgs_cons (pg_name (i := 9) sc__law_woven.nd rfl (Or.inl rfl)) (pgs_cons (pg_name (i := 10) sc__law_woven.nd rfl (Or.inl rfl)) (pgs_cons (pg_name (i := 11) sc__law_woven.nd rfl (Or.inl rfl)) pgs_nil)))))
      (pss_cons (ps_par (i := 12) (j := 13) (by rfl) sc__law_woven.nd rfl rfl (by decide) rfl rfl (pa_cons (pe_op op_add_str pe_str (pe_ix ix_list (pv 2) (pe_callB call_len (by rfl) T.n_len (by decide +kernel) (pa_cons (pv 4) pa_nil)) (fun _ _ => rfl))) (pa_cons (pe_op op_add_str pe_str (pe_ix ix_list (pv 2) (pe_op op_add (pe_callB call_len (by rfl) T.n_len (by decide +kernel) (pa_cons (pv 4) pa_nil)) pe_int) (fun _ _ => rfl))) pa_nil)) (by rfl))
      (pss_one (ps_if (pt_cmpR op_eq (pv 7) pe_int (nomark _)) (pss_cons (ps_expr (pe_bm PySem.F.plainAttrs_list PySem.F.slot_list_insert PySem.F.type_list_insert mt_insert (pv 3) (pa_cons pe_int (pa_cons (pv 8) pa_nil))))
      (pss_one (ps_set (i := 4) sc__law_woven.nd rfl (Or.inl rfl) (pe_op op_cat (pe_op op_cat (pe_slice sl_list (pv 4) po_none (po_some (pv 6))) (pe_lst (pa_cons (pe_lst (pa_cons (pv 9) (pa_cons (pv 10) (pa_cons (pe_lst (pa_cons (pv 8) pa_nil)) pa_nil)))) (pa_cons (pe_lst (pa_cons (pv 12) (pa_cons (pe_lst (pa_cons (pv 8) pa_nil)) (pa_cons (pv 11) pa_nil)))) pa_nil)))) (pe_slice sl_list (pv 4) (po_some (pe_op op_add (pv 6) pe_int)) po_none))))) (pss_one (ps_if (pt_cmpR op_eq (pv 7) pe_int (nomark _)) (pss_one (ps_set (i := 4) sc__law_woven.nd rfl (Or.inl rfl) (pe_op op_cat (pe_op op_cat (pe_slice sl_list (pv 4) po_none (po_some (pe_op op_add (pv 6) pe_int))) (pe_lst (pa_cons (pe_lst (pa_cons (pv 12) (pa_cons (pv 10) (pa_cons (pv 11) pa_nil)))) pa_nil))) (pe_slice sl_list (pv 4) (po_some (pe_op op_add (pv 6) pe_int)) po_none)))) (pss_one (ps_if (PW.pt (pw_and (pt_cmpR op_eq (pv 7) pe_int (nomark _)) (pw_and1 (pt_cmpR op_lt (pe_callB call_len (by rfl) T.n_len (by decide +kernel) (pa_cons (pv 3) pa_nil)) pe_int (nomark _))))) (pss_cons (ps_set (i := 3) sc__law_woven.nd rfl (Or.inl rfl) (pe_op op_cat (pe_op op_cat (pe_slice sl_list (pv 3) po_none (po_some pe_int)) (pe_lst (pa_cons (pv 8) (pa_cons (pe_op op_add_str (pv 8) pe_str) (pa_cons (pe_op op_add_str (pv 8) pe_str) pa_nil))))) (pe_slice sl_list (pv 3) (po_some pe_int) po_none)))
      (pss_cons (ps_set (i := 14) sc__law_woven.nd rfl (Or.inl rfl) (pe_lst (pa_cons (pe_lst (pa_cons (pv 9) (pa_cons (pv 10) (pa_cons (pe_lst (pa_cons (pv 8) (pa_cons (pe_op op_add_str (pv 8) pe_str) pa_nil))) pa_nil)))) (pa_cons (pe_lst (pa_cons (pv 12) (pa_cons (pe_lst (pa_cons (pv 8) pa_nil)) (pa_cons (pe_lst (pa_cons (pe_op op_add_str (pv 8) pe_str) pa_nil)) pa_nil)))) (pa_cons (pe_lst (pa_cons (pv 13) (pa_cons (pe_lst (pa_cons (pe_op op_add_str (pv 8) pe_str) (pa_cons (pe_op op_add_str (pv 8) pe_str) pa_nil))) (pa_cons (pv 11) pa_nil)))) pa_nil)))))
      (pss_one (ps_set (i := 4) sc__law_woven.nd rfl (Or.inl rfl) (pe_op op_cat (pe_op op_cat (pe_slice sl_list (pv 4) po_none (po_some (pv 6))) (pv 14)) (pe_slice sl_list (pv 4) (po_some (pe_op op_add (pv 6) pe_int)) po_none)))))) (pss_one (ps_if (PW.pt (pw_and (pt_cmpR op_eq (pv 7) pe_int (nomark _)) (pw_and1 (pt_cmpR op_notIn_seq pe_str (pv 10) (by rfl))))) (pss_cons (ps_expr (pe_bm PySem.F.plainAttrs_list PySem.F.slot_list_insert PySem.F.type_list_insert mt_insert (pv 3) (pa_cons pe_int (pa_cons (pv 8) pa_nil))))
      (pss_one (ps_set (i := 4) sc__law_woven.nd rfl (Or.inl rfl) (pe_op op_cat (pe_op op_cat (pe_slice sl_list (pv 4) po_none (po_some (pe_op op_add (pv 6) pe_int))) (pe_lst (pa_cons (pe_lst (pa_cons (pv 12) (pa_cons (pv 10) (pa_cons (pe_lst (pa_cons (pv 8) pa_nil)) pa_nil)))) (pa_cons (pe_lst (pa_cons (pv 13) (pa_cons (pe_lst (pa_cons (pv 8) pa_nil)) (pa_cons (pv 10) pa_nil)))) pa_nil)))) (pe_slice sl_list (pv 4) (po_some (pe_op op_add (pv 6) pe_int)) po_none))))) (pss_cons (ps_expr (pe_bm PySem.F.plainAttrs_list PySem.F.slot_list_insert PySem.F.type_list_insert mt_insert (pv 3) (pa_cons pe_int (pa_cons (pv 8) pa_nil))))
      (pss_one (ps_set (i := 4) sc__law_woven.nd rfl (Or.inl rfl) (pe_op op_cat (pe_op op_cat (pe_slice sl_list (pv 4) po_none (po_some (pv 6))) (pe_lst (pa_cons (pe_lst (pa_cons (pv 9) (pa_cons (pv 10) (pa_cons (pe_lst (pa_cons (pv 8) pa_nil)) pa_nil)))) (pa_cons (pe_lst (pa_cons (pv 12) (pa_cons (pe_lst (pa_cons (pv 8) pa_nil)) (pa_cons (pe_lst (pa_cons (pv 8) pa_nil)) pa_nil)))) (pa_cons (pe_lst (pa_cons (pv 13) (pa_cons (pe_lst (pa_cons (pv 8) pa_nil)) (pa_cons (pv 11) pa_nil)))) pa_nil))))) (pe_slice sl_list (pv 4) (po_some (pe_op op_add (pv 6) pe_int)) po_none)))))))))))))))))
      (pss_cons (ps_set (i := 15) sc__law_woven.nd rfl (Or.inl rfl) (pe_lst pa_nil))
      (pss_cons (ps_for PassesOwn.never rfl (pi_list (pv 4)) (pg_unl rfl (pgs_cons (pg_name (i := 9) sc__law_woven.nd rfl (Or.inl rfl)) (pgs_cons (pg_name (i := 10) sc__law_woven.nd rfl (Or.inl rfl)) (pgs_cons (pg_name (i := 11) sc__law_woven.nd rfl (Or.inl rfl)) pgs_nil)))) (pss_cons (ps_par (i := 16) (j := 17) (by rfl) sc__law_woven.nd rfl rfl (by decide) rfl rfl (pa_cons (pe_call d__law_role.ok (hr.mono (by decide)) rfl d__law_role.g d__law_role.kp d__law_role.b .nil pass0 (pa_cons (pv 0) pa_nil)) (pa_cons (pe_op op_add pe_int (pe_call d__law_take.ok (hr.mono (by decide)) rfl d__law_take.g d__law_take.kp d__law_take.b .nil pass0 (pa_cons (pv 0) (pa_cons pe_int pa_nil)))) pa_nil)) (by rfl))
      (pss_one (ps_expr (pe_bm PySem.F.plainAttrs_list PySem.F.slot_list_append PySem.F.type_list_append mt_append (pv 15) (pa_cons (pe_call d__law_step.ok (hr.mono (by decide)) rfl d__law_step.g d__law_step.kp d__law_step.b .nil pass0 (pa_cons (pv 9) (pa_cons (pv 16) (pa_cons (pe_lc (own := [("place", 18)]) (g := gName 18) (tt := tYes) rfl sc__law_woven.nd (pi_list (pv 10)) (blkOk_by (N := ["bag", "many", "names", "places", "steps", "turn", "at", "way", "fresh", "name", "ins", "outs", "other", "last", "split", "made", "role", "days", "place"]) (sc := defScope s__law_woven) (by decide +kernel)) (fun _ _ _ _ _ => pg_name (i := 18) sc__law_woven.nd rfl (Or.inl rfl)) (fun _ _ _ _ _ => pts_nil) (fun _ _ _ _ _ => (pe_tup (pa_cons (pv 18) (pa_cons pe_int pa_nil))))) (pa_cons (pe_lc (own := [("place", 18)]) (g := gName 18) (tt := tYes) rfl sc__law_woven.nd (pi_list (pv 11)) (blkOk_by (N := ["bag", "many", "names", "places", "steps", "turn", "at", "way", "fresh", "name", "ins", "outs", "other", "last", "split", "made", "role", "days", "place"]) (sc := defScope s__law_woven) (by decide +kernel)) (fun _ _ _ _ _ => pg_name (i := 18) sc__law_woven.nd rfl (Or.inl rfl)) (fun _ _ _ _ _ => pts_nil) (fun _ _ _ _ _ => (pe_tup (pa_cons (pv 18) (pa_cons pe_int pa_nil))))) (pa_cons (pe_lst pa_nil) (pa_cons (pe_lst pa_nil) (pa_cons (pv 17) pa_nil)))))))) pa_nil))))))
      (pss_one (ps_ret (pe_tup (pa_cons pe_str (pa_cons (pe_callTy call_tuple_of (by rfl) T.n_tuple (by decide +kernel) (pa_cons (pv 3) pa_nil)) (pa_cons (pe_tup pa_nil) (pa_cons (pe_callTy call_tuple_of (by rfl) T.n_tuple (by decide +kernel) (pa_cons (pe_call d__law_mixed.ok (hr.mono (by decide)) rfl d__law_mixed.g d__law_mixed.kp d__law_mixed.b .nil pass0 (pa_cons (pv 0) (pa_cons (pv 15) pa_nil))) pa_nil)) pa_nil)))))))))))), ?_⟩
    have hbig := sl_big
    obtain ⟨_, _, _, _, _, hbl, _⟩ := id hB
    refine ⟨abc, rfl, by decide, fun nl hnl => ?_⟩
    have s1 := same_upd (o := .lst (abc.cps.toList.map fun c => V.str ⟨#[c]⟩)) hnl
    have g1 := @upd_same H nl (.lst (abc.cps.toList.map fun c => V.str ⟨#[c]⟩))
    generalize upd H nl (.lst (abc.cps.toList.map fun c => V.str ⟨#[c]⟩)) = H1 at s1 g1 ⊢
    refine ⟨line_le 2 (by decide), fun pl hpl => ?_⟩
    have s2 := same_upd (o := .lst [V.str "inx", V.str "outx"]) hpl
    have g2 := @upd_same H1 pl (.lst [V.str "inx", V.str "outx"])
    generalize upd H1 pl (.lst [V.str "inx", V.str "outx"]) = H2 at s2 g2 ⊢
    have bk : Bk H2 b pl := ⟨⟨_, s2 _ _ (s1 _ _ hbl)⟩, ⟨_, g2⟩⟩
    dsimp only [L2.start, List.set, List.replicate, List.map, List.length]
    refine MlE.one (SnE.mk bk (x := "sa") (fun _ _ _ q => q) (LsE.one bk (x := "inx") fun _ _ _ q => q) (LsE.one bk (x := "outx") fun _ _ _ q => q)) H2 _ (Same.refl _) fun H3 st xs s3 hst0 hst hP => ⟨_, _, rfl, ?_⟩
    have npb : pl ≠ b := (ne_of_none (s1 _ _ hbl) hpl).symm
    have nnb : nl ≠ b := (ne_of_none hbl hnl).symm
    have nnp : nl ≠ pl := ne_of_none g1 hpl
    have nsb : st ≠ b := (bk.ne (Same.refl _) hst0).1
    have nsp : st ≠ pl := (bk.ne (Same.refl _) hst0).2
    have s13 := (s1.trans s2).trans s3
    refine seq_join (t := tFor _ _ _) (fun σ' H' => WvI H b m m.toNat σ' H') (fun D hD => ?_) ?_
    · refine ⟨_, rfl, m, rfl, by omega, by omega, for_range (lo := 0) (n := m.toNat) (fun i σ' H' => WvI H b m i σ' H') ?_ ?_ ?_⟩
      · exact ⟨nl, pl, st, none, none, none, none, none, none, none, none, none, none, ["inx", "outx"], xs, _, rfl, SB.of s13, hB.same s13, (s1.free hpl), npb, s3 _ _ g2, by decide, by decide, co_at (s3 _ _ (s2 _ _ g1)) nnb nnp, co_at hst nsb nsp, hP, Wv.start⟩
      · rintro i σ' H4 hi ⟨nl, pl, st, c5, c6, c7, c8, c9, c10, c11, c12, c13, c14, ps, xs, rs, rfl, sb, hB4, npl, npb, hpl, hp2, hp3, hnl, hst, hP, hW⟩
        have him : i ≤ 3 := by omega
        have hlen := hP.length
        have hwl := hW.len
        have hwp := hW.pos
        rw [show (0 : Int) + ((i : Nat) : Int) = ((i : Nat) : Int) from Int.zero_add _]
        refine ⟨_, rfl, _, rfl, .ref st, xs.length, rfl, .inl ⟨_, SqL.of (co_of hst), rfl⟩, b, _, rfl, hB4, by omega, by omega, fun H5 n sb5 hB5 n0 n1 => ?_⟩
        refine ⟨_, rfl, b, 5, rfl, hB5, by decide, by decide, fun H6 wy sb6 hB6 w0 w5 => ?_⟩
        have sb56 := sb5.trans sb6
        have c56 := co_sb (b := b) (l := pl) sb56
        replace hnl := c56 _ _ hnl
        replace hst := c56 _ _ hst
        replace hP := pm hP fun _ _ z => Stn.same z c56
        replace hpl := sb56.at_ hpl npb
        replace sb := sb.trans sb56
        obtain ⟨kk, rfl⟩ : ∃ kk : Nat, n = (kk : Nat) := ⟨n.toNat, by omega⟩
        have hk : kk < rs.length := by omega
        obtain ⟨⟨rn, ri, ro⟩, hr⟩ : ∃ r, rs[kk]? = some r := ⟨_, List.getElem?_eq_getElem hk⟩
        obtain ⟨v, hv, sa, ia, oa, rfl, hs, hia, hoa⟩ := paired_get hP hr
        dsimp only at hs hia hoa
        refine ⟨_, rfl, _, rfl, nl, _, ((i : Nat) : Int), _, rfl, rfl, SqL.of (co_of hnl), atI_nat (abcV (by omega)), _, _, rfl, rfl, line_le 2 (by decide), _, _, _, rfl, ?_⟩
        refine ⟨_, rfl, _, rfl, st, xs, _, _, rfl, rfl, SqL.of (co_of hst), atI_nat hv, sa, _, rfl, SqL.of (co_of hs), rfl, _, _, rfl, _, _, rfl, _, _, rfl, rfl, ?_⟩
        refine ⟨_, rfl, _, rfl, .ref st, xs.length, rfl, .inl ⟨_, SqL.of (co_of hst), rfl⟩, nl, _, _, _, rfl, rfl, SqL.of (co_of hnl), atI_nat (abcV (by omega)), _, _, rfl, rfl, line_le 2 (by decide), ?_⟩
        refine ⟨_, rfl, _, rfl, .ref st, xs.length, rfl, .inl ⟨_, SqL.of (co_of hst), rfl⟩, _, _, rfl, rfl, nl, _, ((xs.length + 1 : Nat) : Int), _, rfl, by rw [Int.natCast_add]; rfl, SqL.of (co_of hnl), atI_nat (abcV (by omega)), _, _, rfl, rfl, line_le 2 (by decide), _, _, rfl, ?_⟩
        dsimp only [gName, List.set]
        rw [show ("p" : Str) ++ letr i = pN i from rfl, show ("s" : Str) ++ letr xs.length = sN xs.length from rfl, show ("s" : Str) ++ letr (xs.length + 1) = sN (xs.length + 1) from rfl]
        have s7sb := sb.own (o := .lst ((ps.take 1 ++ [pN i] ++ ps.drop 1).map V.str)) npl
        have hz1 : (ps.map V.str).length < sizeLine := small (by rw [List.length_map]; omega)
        have c7 : Co b pl (upd H6 pl (.lst ((ps.take 1 ++ [pN i] ++ ps.drop 1).map V.str))) = Co b pl H6 := co_put
        have b7 := s7sb.bag hB
        have hpl7 := @upd_same H6 pl (.lst ((ps.take 1 ++ [pN i] ++ ps.drop 1).map V.str))
        have hio := hW.io _ (List.mem_of_getElem? hr)
        have hpn := pN_ne (j := i) (by omega)
        have pl2 : 2 ≤ (ps.take 1 ++ [pN i] ++ ps.drop 1).length := by rw [ins_len hp2]; omega
        have pl3 : (ps.take 1 ++ [pN i] ++ ps.drop 1).length ≤ 2 + 3 * (i + 1) := by rw [ins_len hp2, List.length_singleton]; omega
        have hxl : sN xs.length = sN rs.length := by rw [hlen]
        have hxl2 : sN (xs.length + 1) = sN (rs.length + 1) := by rw [hlen]
        refine ⟨_, rfl, rfl, _, rfl, ?_⟩
        generalize decide (V.int wy = V.int 0) = w0
        cases w0 with
        | true =>
          refine iteT ⟨_, rfl, .inl ⟨rfl, _, SqL.of hpl⟩, _, rfl, pl, _, 1, _, rfl, rfl, hpl, hz1, by decide, by decide, ?_⟩
          rw [show ((1 : Int).toNat) = 1 from rfl, ins_map]
          generalize upd H6 pl (.lst ((ps.take 1 ++ [pN i] ++ ps.drop 1).map V.str)) = H7 at s7sb c7 b7 hpl7 ⊢
          rw [← c7] at hnl hst hP hia hoa
          obtain ⟨_, _, _, _, _, hb7, _⟩ := id b7
          have bk7 : Bk H7 b pl := ⟨⟨_, hb7⟩, ⟨_, hpl7⟩⟩
          dsimp only
          refine tcat3A (n1 := kk) (n2 := kk + 1) (ms := [(rn, ri, [pN i]), (sN xs.length, [pN i], ro)]) bk7 hst hP ?_ ?_ ?_ ?_ (by omega) (by show 2 ≤ 100; omega) fun H8 st8 vs8 s8 n8 e8 P8 => ?_
          · exact fun _ _ q => ⟨_, rfl, q⟩
          · exact fun _ _ q => ⟨_, rfl, ((kk : Nat) : Int), rfl, q⟩
          · exact fun _ _ q => ⟨_, rfl, _, _, rfl, rfl, ((kk + 1 : Nat) : Int), rfl, q⟩
          · exact MlE.hm (MlE.two (SnE.mk bk7 (StE.var rfl) (LsE.var rfl hia) (LsE.one bk7 (StE.var rfl))) (SnE.mk bk7 (StE.var rfl) (LsE.one bk7 (StE.var rfl)) (LsE.var rfl hoa)))
          exact wv_fin s7sb b7 npl npb hpl7 pl2 pl3 hnl s8 n8 e8 P8 (hW.go hr him rfl (.inr ⟨_, rfl, hxl⟩) (all2 ⟨hio.1, nd1⟩ ⟨nd1, hio.2⟩))
        | false =>
        refine iteF ⟨_, rfl, rfl, _, rfl, ?_⟩
        generalize decide (V.int wy = V.int 1) = w1
        cases w1 with
        | true =>
          refine iteT ?_
          obtain ⟨_, _, _, _, _, hb6, _⟩ := id hB6
          have bk7 : Bk H6 b pl := ⟨⟨_, hb6⟩, ⟨_, hpl⟩⟩
          refine tcat3A (n1 := kk + 1) (n2 := kk + 1) (ms := [(sN xs.length, ri, ro)]) bk7 hst hP ?_ ?_ ?_ ?_ (by omega) (by show 1 ≤ 100; omega) fun H8 st8 vs8 s8 n8 e8 P8 => ?_
          · exact fun _ _ q => ⟨_, rfl, q⟩
          · exact fun _ _ q => ⟨_, rfl, _, _, rfl, rfl, ((kk + 1 : Nat) : Int), rfl, q⟩
          · exact fun _ _ q => ⟨_, rfl, _, _, rfl, rfl, ((kk + 1 : Nat) : Int), rfl, q⟩
          · exact MlE.hm (MlE.one (SnE.mk bk7 (StE.var rfl) (LsE.var rfl hia) (LsE.var rfl hoa)))
          exact wv_fin sb hB6 npl npb hpl hp2 (by omega) hnl s8 n8 e8 P8 (hW.go1 hr him (.inr ⟨_, rfl, hxl⟩) (all1 hio))
        | false =>
        refine iteF ?_
        refine tIf_and (a := decide (V.int wy = V.int 2)) (x := decide (((ps.map V.str).length : Int) < 10)) (fun _ q => ⟨_, rfl, rfl, _, rfl, q⟩) (fun _ q => ⟨_, rfl, .ref pl, (ps.map V.str).length, rfl, .inl ⟨_, SqL.of hpl, rfl⟩, _, _, rfl, rfl, _, rfl, q⟩) ?_
        generalize (decide (V.int wy = V.int 2) && decide (((ps.map V.str).length : Int) < 10)) = w2
        cases w2 with
        | true =>
          refine iteT ?_
          obtain ⟨_, _, _, _, _, hb6, _⟩ := id hB6
          have bk6 : Bk H6 b pl := ⟨⟨_, hb6⟩, ⟨_, hpl⟩⟩
          have hcat : ∀ (y : Str), y.length = 1 → ∀ (H : Hp) (Q : VK), Q (.str (pN i ++ y)) H → ∃ i' j', V.str (pN i) = V.str i' ∧ V.str y = V.str j' ∧ i'.length + j'.length ≤ sizeLine ∧ Q (.str (i' ++ j')) H := fun y hy H Q q => ⟨_, _, rfl, rfl, by rw [hpn.2.2, hy]; omega, q⟩
          refine tpl (b := b) (l := pl) (ps := ps) (ys := [pN i, pN i ++ ("l" : Str), pN i ++ ("r" : Str)]) hpl (fun _ _ q => ⟨_, rfl, q⟩) (LsE.three bk6 (StE.var rfl) (StE.cat (hcat "l" rfl) (StE.var rfl)) (StE.cat (hcat "r" rfl) (StE.var rfl))) (by omega) (by show 3 ≤ 100; omega) fun H7 pl7 s7 n7 hpl7 => ?_
          have npl7b := (bk6.ne (Same.refl _) n7).1
          have cn := co_news (b := b) (l := pl) s7 n7
          replace hnl := cn _ _ hnl
          replace hst := cn _ _ hst
          replace hia := cn _ _ hia
          replace hoa := cn _ _ hoa
          replace hP := pm hP fun _ _ z => Stn.same z cn
          have hB7 := hB6.same s7
          obtain ⟨_, _, _, _, _, hb7, _⟩ := id hB7
          have bk7 : Bk H7 b pl7 := ⟨⟨_, hb7⟩, ⟨_, hpl7⟩⟩
          dsimp only [gName, List.set]
          refine MlE.asg (b := b) (l := pl7) (rs := [(rn, ri, [pN i, pN i ++ ("r" : Str)]), (sN xs.length, [pN i], [pN i ++ ("l" : Str)]), (sN (xs.length + 1), [pN i ++ ("l" : Str), pN i ++ ("r" : Str)], ro)]) (MlE.three (SnE.mk bk7 (StE.var rfl) (LsE.var rfl hia) (LsE.two bk7 (StE.var rfl) (StE.cat (hcat "r" rfl) (StE.var rfl)))) (SnE.mk bk7 (StE.var rfl) (LsE.one bk7 (StE.var rfl)) (LsE.one bk7 (StE.cat (hcat "l" rfl) (StE.var rfl)))) (SnE.mk bk7 (StE.var rfl) (LsE.two bk7 (StE.cat (hcat "l" rfl) (StE.var rfl)) (StE.cat (hcat "r" rfl) (StE.var rfl))) (LsE.var rfl hoa))) fun H8 sp8 vp8 t8 m8 f8 F8 => ?_
          have ct := co_same (b := b) (l := pl7) t8
          replace hnl := ct _ _ hnl
          replace hst := ct _ _ hst
          replace hP := pm hP fun _ _ z => Stn.same z ct
          have bk8 : Bk H8 b pl7 := ⟨⟨_, t8 _ _ hb7⟩, ⟨_, t8 _ _ hpl7⟩⟩
          dsimp only [gName, List.set]
          refine tcat3A (n1 := kk) (n2 := kk + 1) (ms := [(rn, ri, [pN i, pN i ++ ("r" : Str)]), (sN xs.length, [pN i], [pN i ++ ("l" : Str)]), (sN (xs.length + 1), [pN i ++ ("l" : Str), pN i ++ ("r" : Str)], ro)]) bk8 hst hP ?_ ?_ ?_ ?_ (by omega) (by show 3 ≤ 100; omega) fun H9 st9 vs9 s9 n9 e9 P9 => ?_
          · exact fun _ _ q => ⟨_, rfl, q⟩
          · exact fun _ _ q => ⟨_, rfl, ((kk : Nat) : Int), rfl, q⟩
          · exact fun _ _ q => ⟨_, rfl, _, _, rfl, rfl, ((kk + 1 : Nat) : Int), rfl, q⟩
          · exact fun H1 Q s q => ⟨_, rfl, q H1 _ _ (Same.refl _) (s _ _ f8) (pm F8 fun _ _ z => Stn.same z (co_same s))⟩
          exact wv_fin (sb.trans (SB.of (s7.trans t8))) (hB7.same t8) (sb.free n7 npl7b) npl7b (t8 _ _ hpl7) (by rw [ins_len hp2]; omega) (by rw [ins_len hp2]; show ps.length + 3 ≤ _; omega) hnl s9 n9 e9 P9 (hW.go hr him rfl (.inl ⟨_, _, rfl, hxl, hxl2⟩) (all3 ⟨hio.1, nd2 hpn.1⟩ ⟨nd1, nd1⟩ ⟨nd2 hpn.2.1, hio.2⟩))
        | false =>
        refine iteF ?_
        refine tIf_and (a := decide (V.int wy = V.int 3)) (x := !inV (.str "inx") (ri.map V.str)) (fun _ q => ⟨_, rfl, rfl, _, rfl, q⟩) (fun _ q => ⟨_, rfl, ia, _, rfl, .inl (SqL.of (co_of hia)), rfl, flat_strs ri, _, rfl, q⟩) ?_
        generalize (decide (V.int wy = V.int 3) && !inV (.str "inx") (ri.map V.str)) = w3
        cases w3 with
        | true =>
          refine iteT ⟨_, rfl, .inl ⟨rfl, _, SqL.of hpl⟩, _, rfl, pl, _, 1, _, rfl, rfl, hpl, hz1, by decide, by decide, ?_⟩
          rw [show ((1 : Int).toNat) = 1 from rfl, ins_map]
          generalize upd H6 pl (.lst ((ps.take 1 ++ [pN i] ++ ps.drop 1).map V.str)) = H7 at s7sb c7 b7 hpl7 ⊢
          rw [← c7] at hnl hst hP hia hoa
          obtain ⟨_, _, _, _, _, hb7, _⟩ := id b7
          have bk7 : Bk H7 b pl := ⟨⟨_, hb7⟩, ⟨_, hpl7⟩⟩
          dsimp only
          refine tcat3A (n1 := kk + 1) (n2 := kk + 1) (ms := [(sN xs.length, ri, [pN i]), (sN (xs.length + 1), [pN i], ri)]) bk7 hst hP ?_ ?_ ?_ ?_ (by omega) (by show 2 ≤ 100; omega) fun H8 st8 vs8 s8 n8 e8 P8 => ?_
          · exact fun _ _ q => ⟨_, rfl, q⟩
          · exact fun _ _ q => ⟨_, rfl, _, _, rfl, rfl, ((kk + 1 : Nat) : Int), rfl, q⟩
          · exact fun _ _ q => ⟨_, rfl, _, _, rfl, rfl, ((kk + 1 : Nat) : Int), rfl, q⟩
          · exact MlE.hm (MlE.two (SnE.mk bk7 (StE.var rfl) (LsE.var rfl hia) (LsE.one bk7 (StE.var rfl))) (SnE.mk bk7 (StE.var rfl) (LsE.one bk7 (StE.var rfl)) (LsE.var rfl hia)))
          exact wv_fin s7sb b7 npl npb hpl7 pl2 pl3 hnl s8 n8 e8 P8 (hW.go1 hr him (.inl ⟨_, _, rfl, hxl, hxl2⟩) (all2 ⟨hio.1, nd1⟩ ⟨nd1, hio.1⟩))
        | false =>
          refine iteF ⟨_, rfl, .inl ⟨rfl, _, SqL.of hpl⟩, _, rfl, pl, _, 1, _, rfl, rfl, hpl, hz1, by decide, by decide, ?_⟩
          rw [show ((1 : Int).toNat) = 1 from rfl, ins_map]
          generalize upd H6 pl (.lst ((ps.take 1 ++ [pN i] ++ ps.drop 1).map V.str)) = H7 at s7sb c7 b7 hpl7 ⊢
          rw [← c7] at hnl hst hP hia hoa
          obtain ⟨_, _, _, _, _, hb7, _⟩ := id b7
          have bk7 : Bk H7 b pl := ⟨⟨_, hb7⟩, ⟨_, hpl7⟩⟩
          dsimp only
          refine tcat3A (n1 := kk) (n2 := kk + 1) (ms := [(rn, ri, [pN i]), (sN xs.length, [pN i], [pN i]), (sN (xs.length + 1), [pN i], ro)]) bk7 hst hP ?_ ?_ ?_ ?_ (by omega) (by show 3 ≤ 100; omega) fun H8 st8 vs8 s8 n8 e8 P8 => ?_
          · exact fun _ _ q => ⟨_, rfl, q⟩
          · exact fun _ _ q => ⟨_, rfl, ((kk : Nat) : Int), rfl, q⟩
          · exact fun _ _ q => ⟨_, rfl, _, _, rfl, rfl, ((kk + 1 : Nat) : Int), rfl, q⟩
          · exact MlE.hm (MlE.three (SnE.mk bk7 (StE.var rfl) (LsE.var rfl hia) (LsE.one bk7 (StE.var rfl))) (SnE.mk bk7 (StE.var rfl) (LsE.one bk7 (StE.var rfl)) (LsE.one bk7 (StE.var rfl))) (SnE.mk bk7 (StE.var rfl) (LsE.one bk7 (StE.var rfl)) (LsE.var rfl hoa)))
          exact wv_fin s7sb b7 npl npb hpl7 pl2 pl3 hnl s8 n8 e8 P8 (hW.go hr him rfl (.inl ⟨_, _, rfl, hxl, hxl2⟩) (all3 ⟨hio.1, nd1⟩ ⟨nd1, nd1⟩ ⟨nd1, hio.2⟩))
      · rintro σ' H' hW
        exact hD _ _ hW
    · rintro σ' H4 hW
      obtain ⟨nl, pl, st, c5, c6, c7, c8, c9, c10, c11, c12, c13, c14, ps, xs, rs, rfl, sb, hB4, npl, npb, hpl, hp2, hp3, hnl, hst, hP, hW⟩ := hW
      obtain ⟨_, _, _, _, _, hb4, _⟩ := id hB4
      refine ⟨Nat.zero_le _, fun md hmd => ?_⟩
      have nmb : md ≠ b := (ne_of_none hb4 hmd).symm
      have nmp : md ≠ pl := (ne_of_none hpl hmd).symm
      have hm0' : H md = none := sb.free hmd nmb
      have s5 := same_upd (o := .lst []) hmd
      have cn := co_news (b := b) (l := pl) s5 hmd
      replace hst := cn _ _ hst
      replace hP := pm hP fun _ _ z => Stn.same z cn
      have hpl5 := s5 _ _ hpl
      have sb5 := sb.trans (SB.of s5)
      have hB5 := hB4.same s5
      have hmd5 := @upd_same H4 md (.lst [])
      generalize upd H4 md (.lst []) = H5 at s5 hst hP hpl5 sb5 hB5 hmd5 ⊢
      dsimp only [gName, List.set]
      have hwl := hW.len
      have hlen := hP.length
      refine seq_join (t := tFor _ _ _) (fun σ' H' => WmI H b m nl pl st md c5 c6 c7 c8 c12 c13 c14 ps xs rs xs.length σ' H') (fun D hD => ?_) ?_
      · refine ⟨_, rfl, st, rfl, ⟨_, SqL.of (co_of hst)⟩, for_list (K := K) (a := st) (xs := xs) (fun i σ' H' => WmI H b m nl pl st md c5 c6 c7 c8 c12 c13 c14 ps xs rs i σ' H') ⟨c9, c10, c11, none, none, [], [], rfl, sb5, hB5, hmd5, hpl5, hst, hP, .nil, .nil⟩ (fun i σ' H' _ ⟨_, _, _, _, _, _, _, _, _, _, _, _, h, _⟩ => SqL.of (co_of h)) ?_ (fun σ' H' h => hD _ _ h)⟩
        rintro i x σ' H6 hx ⟨c9, c10, c11, c16, c17, ms, ss, rfl, sb6, hB6, hmd6, hpl6, hst6, hP6, hM6, hO6⟩
        obtain ⟨⟨rn, ri, ro⟩, hr, sa, ia, oa, rfl, hs, hia, hoa⟩ := paired_getL hP6 hx
        dsimp only at hs hia hoa
        have hio := hW.io _ (List.mem_of_getElem? hr)
        have hil := (List.getElem?_eq_some_iff.mp hr).1
        have hml := hM6.length
        have hol := hO6.length
        rw [List.length_take] at hol
        refine ⟨sa, _, rfl, SqL.of (co_of hs), rfl, _, _, rfl, _, _, rfl, _, _, rfl, rfl, ?_⟩
        refine ⟨_, rfl, b, rfl, hB6, fun H7 rv sb7 hB7 => ⟨_, rfl, b, 4, rfl, hB7, by decide, by decide, fun H8 d sb8 hB8 d0 d4 => ⟨_, _, rfl, rfl, _, _, rfl, ?_⟩⟩⟩
        have sb78 := sb7.trans sb8
        have c8 := co_sb (b := b) (l := md) sb78
        replace hst6 := c8 _ _ hst6
        replace hP6 := pm hP6 fun _ _ z => Stn.same z c8
        replace hM6 := pm hM6 fun _ _ z => IsStp.same z c8
        replace hia := c8 _ _ hia
        replace hoa := c8 _ _ hoa
        replace hmd6 := sb78.at_ hmd6 nmb
        replace hpl6 := sb78.at_ hpl6 npb
        replace sb6 := sb6.trans sb78
        dsimp only [gName, List.set]
        refine ⟨_, rfl, .inl ⟨rfl, _, SqL.of hmd6⟩, _, rfl, _, rfl, ?_⟩
        refine tc_ones rfl (by show 18 < 19; omega) (co_of hia) (Nat.le_trans hio.1.2 (by decide)) fun H9 q9 s9 l9 => ?_
        refine tc_ones rfl (by show 18 < 19; omega) (s9 _ _ (co_of hoa)) (Nat.le_trans hio.2.2 (by decide)) fun H10 q10 s10 l10 => ?_
        refine ⟨Nat.zero_le _, fun q11 n11 => ⟨Nat.zero_le _, fun q12 n12 => ?_⟩⟩
        have s11 := same_upd (o := .lst []) n11
        have s12 := same_upd (o := .lst []) n12
        have g12 := @upd_same (upd H10 q11 (.lst [])) q12 (.lst [])
        have g11 := s12 _ _ (@upd_same H10 q11 (.lst []))
        generalize upd (upd H10 q11 (.lst [])) q12 (.lst []) = H12 at s12 g11 g12 ⊢
        have s1012 := s11.trans s12
        refine ⟨_, rfl, rn, rv, q9, q10, q11, q12, ones ri, ones ro, [], [], _, rfl, (l9.same s10).same s1012, l10.same s1012, ⟨[], g11, .nil⟩, ⟨[], g12, .nil⟩, by rw [ones_fst]; exact hio.1.1, by rw [ones_fst]; exact hio.2.1, by decide, by decide, fun H13 p st3 s13 hS e1 e2 e3 e4 e5 => ?_⟩
        have sall := ((s9.trans s10).trans s1012).trans s13
        have hmd13 := sall _ _ hmd6
        have cs := co_same (b := b) (l := md) sall
        refine ⟨md, ms, _, rfl, rfl, hmd13, small (by omega), ?_⟩
        have cp : Co b md (upd H13 md (.lst (ms ++ [.ref p]))) = Co b md H13 := co_put
        have hB13 := hB8.same sall
        obtain ⟨_, _, _, _, _, hb13, _⟩ := id hB13
        have hSk := hS.sk (sk_co hb13 hmd13)
        have sbn := (sb6.trans (SB.of sall)).own (o := .lst (ms ++ [.ref p])) hm0'
        refine ⟨some (.str rn), some (.ref ia), some (.ref oa), some (roV rv), _, ms ++ [.ref p], ss ++ [st3], rfl, sbn, sbn.bag hB, upd_same, ?_, ?_, ?_, ?_, ?_⟩
        · rw [upd_ne nmp.symm]
          exact sall _ _ hpl6
        · rw [cp]
          exact cs _ _ hst6
        · rw [cp]
          exact pm hP6 fun _ _ z => Stn.same z cs
        · rw [cp]
          exact paired_add (pm hM6 fun _ _ z => IsStp.same z cs) hSk
        · rw [take_add hr]
          refine paired_add hO6 ⟨e1, fun q hq => ones_nn q (e3.mem_iff.mp hq), ?_, ?_, e4, e5⟩
          · rw [e2.length_eq]
            show ((ri.map _).length) ≤ 2
            rw [List.length_map]
            exact hio.1.2
          · rw [e3.length_eq]
            show ((ro.map _).length) ≤ 2
            rw [List.length_map]
            exact hio.2.2
      · rintro σ' H6 ⟨c9, c10, c11, c16, c17, ms, ss, rfl, sb6, hB6, hmd6, hpl6, hst6, hP6, hM6, hO6⟩
        rw [hlen, List.take_length] at hO6
        obtain ⟨_, _, _, _, _, hb6, _⟩ := id hB6
        have hml := hM6.length
        have hol := hO6.length
        refine ⟨_, rfl, pl, _, rfl, .inl ⟨SqL.of hpl6, fun p1 n1 => ?_⟩⟩
        refine ⟨Nat.zero_le _, fun p2 n2 => ?_⟩
        have s1 := same_upd (o := .tup (ps.map V.str)) n1
        have g1 := @upd_same H6 p1 (.tup (ps.map V.str))
        have s2 := same_upd (o := .tup []) n2
        have g2 := @upd_same (upd H6 p1 (.tup (ps.map V.str))) p2 (.tup [])
        replace g1 := s2 _ _ g1
        have m1 : p1 ≠ b := (ne_of_none hb6 n1).symm
        have m2 : p2 ≠ b := (ne_of_none (s1 _ _ hb6) n2).symm
        generalize upd (upd H6 p1 (.tup (ps.map V.str))) p2 (.tup []) = H7 at s2 g1 g2 ⊢
        have s12 := s1.trans s2
        refine ⟨_, rfl, _, rfl, b, md, ms, rfl, hB6.same s12, nmb, s12 _ _ hmd6, by omega, fun H8 p3 ys sb8 hB8 n3 h3 hperm => ?_⟩
        refine ⟨p3, _, rfl, .inl ⟨SqL.of h3, fun p4 n4 => ⟨line_le 4 (by decide), fun p5 n5 => ?_⟩⟩⟩
        have s4 := same_upd (o := .tup ys) n4
        have g4 := @upd_same H8 p4 (.tup ys)
        have s5' := same_upd (o := .tup [V.str "woven", .ref p1, .ref p2, .ref p4]) n5
        have g5 := @upd_same (upd H8 p4 (.tup ys)) p5 (.tup [V.str "woven", .ref p1, .ref p2, .ref p4])
        replace g4 := s5' _ _ g4
        obtain ⟨_, _, _, _, _, hb8, _⟩ := id hB8
        have m4 : p4 ≠ b := (ne_of_none hb8 n4).symm
        have m5 : p5 ≠ b := (ne_of_none (s4 _ _ hb8) n5).symm
        have s45 := s4.trans s5'
        have sbz := ((sb6.trans (SB.of s12)).trans sb8).trans (SB.of s45)
        have sd : Same (dlt H7 b) (dlt (upd (upd H8 p4 (.tup ys)) p5 (.tup [V.str "woven", .ref p1, .ref p2, .ref p4])) b) := (sb8.trans (SB.of s45)).s
        have sd6 : Same (Co b md H6) (dlt (upd (upd H8 p4 (.tup ys)) p5 (.tup [V.str "woven", .ref p1, .ref p2, .ref p4])) b) := (dlt_same _ _).trans ((dlt_mono s12).trans sd)
        have hBz := hB8.same s45
        generalize upd (upd H8 p4 (.tup ys)) p5 (.tup [V.str "woven", .ref p1, .ref p2, .ref p4]) = H9 at s5' g4 g5 s45 sbz sd sd6 hBz ⊢
        obtain ⟨ss', hss, hsp⟩ := paired_perm hperm (pm hM6 fun _ _ z => IsStp.same z sd6)
        obtain ⟨rs', hrs, hrp⟩ := paired_perm hsp hO6
        have hnm : ss'.map (·.nm) = rs'.map (·.1) := by
          clear hss hsp hrp
          induction hrs with
          | nil => rfl
          | cons o _ ih => rw [List.map_cons, List.map_cons, ih, o.nm]
        have hln : ss'.length = rs'.length := hrs.length
        have hll : rs'.length = rs.length := hrp.length_eq
        have hall : ∀ x ∈ ss', ∃ r ∈ rs, OkS x r := fun x hx => by
          obtain ⟨r, hr, o⟩ := SrtS.pair_mem hrs hx
          exact ⟨r, hrp.mem_iff.mp hr, o⟩
        have hnn : ∀ z ∈ ss'.map (·.nm), ∃ j, j < 16 ∧ z = sN j := fun z hz => by
          rw [hnm] at hz
          obtain ⟨r, hr, rfl⟩ := List.mem_map.mp hz
          obtain ⟨j, hj, e⟩ := hW.nm r (hrp.mem_iff.mp hr)
          exact ⟨j, by omega, e⟩
        have hp16 : ps.length ≤ 14 := by omega
        refine k H9 (.ref p5) ⟨"woven", ps, [], ss'⟩ sbz hBz ⟨p5, p1, p2, p4, ys, rfl, dlt_at g5 m5, sd _ _ (dlt_at g1 m1), ⟨[], sd _ _ (dlt_at g2 m2), .nil⟩, dlt_at g4 m4, hss⟩ ⟨⟨⟨by show 1 ≤ ps.length; omega, by show ps.length ≤ 100; omega, by show 0 ≤ 100; omega, by show ss'.length ≤ 100; omega, ?_⟩, ?_, ?_, ?_, hp2, by show ps.length ≤ 20; omega, ?_, ?_⟩, ?_, ?_, ?_⟩
        · intro x hx
          obtain ⟨r, hr, o⟩ := hall x hx
          have h1 := o.li
          have h2 := o.lo
          rw [o.te, o.se]
          exact ⟨by decide, by omega, by omega, by decide, fun t ht => by cases ht⟩
        · intro x hx
          obtain ⟨r, hr, o⟩ := hall x hx
          exact o.nn
        · show (ss'.map (·.nm)).Nodup
          rw [hnm]
          exact (hrp.map _).nodup_iff.mpr hW.nd
        · intro hz
          obtain ⟨j, hj, e⟩ := hnn _ hz
          exact (sN_ne hj).1 e.symm
        · show 1 ≤ ss'.length
          have := hW.pos
          omega
        · show ss'.length ≤ 20
          omega
        · intro hz
          obtain ⟨j, hj, e⟩ := hnn _ hz
          exact (sN_ne hj).2.1 e.symm
        · intro hz
          obtain ⟨j, hj, e⟩ := hnn _ hz
          exact (sN_ne hj).2.2.1 e.symm
        · show ss'.length ≤ 10
          omega
end
end Net
namespace Net
open PySem PySem.Spec PyProof.Rows L2 NetR SDx
structure BH (b : Addr) (H H' : Hp) : Prop where
  sb : SB b H H'
  bag : BagI H' b
theorem BH.trans {b : Addr} {H H1 H2 : Hp} (h : BH b H H1) (g : BH b H1 H2) : BH b H H2 := ⟨h.sb.trans g.sb, g.bag⟩
theorem BH.same {b : Addr} {H H1 H2 : Hp} (h : BH b H H1) (s : Same H1 H2) : BH b H H2 := ⟨h.sb.trans (SB.of s), h.bag.same s⟩
theorem BH.of {b : Addr} {H H1 : Hp} (h : BagI H b) (s : Same H H1) : BH b H H1 := ⟨SB.of s, h.same s⟩
theorem BH.at_ {b : Addr} {H H1 : Hp} (h : BH b H H1) : Same (dlt H b) (dlt H1 b) := h.sb.s
theorem bag_at {H : Hp} {b : Addr} (h : BagI H b) : ∃ l, H b = some (.lst l) := by
  obtain ⟨_, _, _, _, _, e, _⟩ := h
  exact ⟨_, e⟩
theorem bag_ne {H : Hp} {b p : Addr} (h : BagI H b) (e : H p = none) : p ≠ b := by
  obtain ⟨l, hb⟩ := bag_at h
  exact (ne_of_none hb e).symm
def L1 (c : List (Str × Int)) : Prop := c.length ≤ 1 ∧ ∀ q ∈ c, 0 ≤ q.2
def T1 (tn : List Str) (c : List (Str × Str × Int)) : Prop := c.length ≤ 1 ∧ ∀ q ∈ c, q.1 ∈ tn
structure OkT (tn : List Str) (s : Stp) : Prop where
  li : s.ins.length ≤ 1
  lo : s.outs.length ≤ 1
  nn : ∀ q ∈ s.outs, 0 ≤ q.2
  te : T1 tn s.tests
  se : s.sets.length ≤ 1
def IxE (σ : L2.St) (b : Addr) (te : TE) (Z : Int → Prop) : Prop := ∀ (H1 : Hp) (Q : VK), BagI H1 b → (∀ H2 z, BH b H1 H2 → Z z → Q (.int z) H2) → te σ H1 Q
def LpE (σ : L2.St) (b : Addr) (te : TE) : Prop := ∀ (H1 : Hp) (Q : VK), BagI H1 b → (∀ H2 p c, BH b H1 H2 → L1 c → LsP (dlt H2 b) p c → Q (.ref p) H2) → te σ H1 Q
def LtE (σ : L2.St) (b : Addr) (tn : List Str) (te : TE) : Prop := ∀ (H1 : Hp) (Q : VK), BagI H1 b → (∀ H2 p c, BH b H1 H2 → T1 tn c → LsT (dlt H2 b) p c → Q (.ref p) H2) → te σ H1 Q
def StpE (σ : L2.St) (b : Addr) (te : TE) (p : Stp → Prop) : Prop := ∀ (H1 : Hp) (Q : VK), BagI H1 b → (∀ H2 v s, BH b H1 H2 → IsStp (dlt H2 b) v s → p s → Q v H2) → te σ H1 Q
theorem LsT.same {H H' : Hp} {a : Addr} {c : List (Str × Str × Int)} (h : LsT H a c) (s : Same H H') : LsT H' a c := by
  obtain ⟨ts, e, p⟩ := h
  exact ⟨ts, s _ _ e, pm p fun _ _ x => s _ _ x⟩
theorem nd_le1 {α : Type} {l : List α} (h : l.length ≤ 1) : l.Nodup := by
  match l, h with
  | [], _ => exact List.nodup_nil
  | [x], _ => exact List.nodup_cons.mpr ⟨fun h => (by cases h), List.nodup_nil⟩
  | _ :: _ :: _, h =>
    rw [List.length_cons, List.length_cons] at h
    omega
section
variable {σ : L2.St} {b : Addr}
theorem IxE.c {z : Int} {Z : Int → Prop} (h : Z z) : IxE σ b (tC (.int z)) Z := fun H1 _ hB q => q H1 z (BH.of hB (Same.refl _)) h
theorem IxE.var {i : Nat} {z : Int} {Z : Int → Prop} (e : σ[i]? = some (some (.int z))) (h : Z z) : IxE σ b (tVar i) Z := fun H1 _ hB q => ⟨_, e, q H1 z (BH.of hB (Same.refl _)) h⟩
theorem LpE.nil : LpE σ b (tLst tNil) := fun H1 _ hB q => ⟨Nat.zero_le _, fun p hp => q _ p [] (BH.of hB (same_upd hp)) ⟨Nat.zero_le _, fun x hx => by cases hx⟩ ⟨[], dlt_at upd_same (bag_ne hB hp), .nil⟩⟩
theorem LtE.nil {tn : List Str} : LtE σ b tn (tLst tNil) := fun H1 _ hB q => ⟨Nat.zero_le _, fun p hp => q _ p [] (BH.of hB (same_upd hp)) ⟨Nat.zero_le _, fun x hx => by cases hx⟩ ⟨[], dlt_at upd_same (bag_ne hB hp), .nil⟩⟩
theorem LpE.one {k : Str} {tn : TE} (h : IxE σ b tn fun z => 0 ≤ z) : LpE σ b (tLst (tCons (tTup (tCons (tC (.str k)) (tCons tn tNil))) tNil)) := fun H1 _ hB q =>
  h H1 _ hB fun H2 z bh hz => ⟨line_le 2 (by decide), fun p hp => ⟨line_le 1 (by decide), fun p2 hp2 => by
    have s1 := same_upd (o := .tup [V.str k, V.int z]) hp
    have s2 := same_upd (o := .lst [V.ref p]) hp2
    have b1 := bh.same s1
    have b2 := b1.same s2
    exact q _ p2 [(k, z)] b2 ⟨Nat.le_refl 1, all1 hz⟩ ⟨[p], dlt_at upd_same (bag_ne b1.bag hp2), .cons (dlt_at (s2 _ _ upd_same) (bag_ne bh.bag hp)) .nil⟩⟩⟩
theorem LtE.one {k sg : Str} {z : Int} {tn : List Str} (h : k ∈ tn) : LtE σ b tn (tLst (tCons (tTup (tCons (tC (.str k)) (tCons (tC (.str sg)) (tCons (tC (.int z)) tNil)))) tNil)) := fun H1 _ hB q =>
  ⟨line_le 3 (by decide), fun p hp => ⟨line_le 1 (by decide), fun p2 hp2 => by
    have s1 := same_upd (o := .tup [V.str k, V.str sg, V.int z]) hp
    have s2 := same_upd (o := .lst [V.ref p]) hp2
    have b1 := BH.of hB s1
    have b2 := b1.same s2
    exact q _ p2 [(k, sg, z)] b2 ⟨Nat.le_refl 1, all1 h⟩ ⟨[p], dlt_at upd_same (bag_ne b1.bag hp2), .cons (dlt_at (s2 _ _ upd_same) (bag_ne hB hp)) .nil⟩⟩⟩
theorem StpE.mk {nm : Str} {tn : List Str} {tr ti to tt te td : TE} (hr : ∃ r, ∀ (H : Hp) (Q : VK), Q (roV r) H → tr σ H Q) (h1 : LpE σ b ti) (h2 : LpE σ b to) (h3 : LtE σ b tn tt) (h4 : LpE σ b te) (h5 : IxE σ b td fun _ => True) :
    StpE σ b (tCall sp_lstep [] E0 (tCons (tC (.str nm)) (tCons tr (tCons ti (tCons to (tCons tt (tCons te (tCons td tNil)))))))) fun s => s.nm = nm ∧ OkT tn s := fun H1 _ hB q => by
  obtain ⟨r, hr⟩ := hr
  refine hr _ _ (h1 _ _ hB fun H2 p2 c2 b2 o2 l2 => h2 _ _ b2.bag fun H3 p3 c3 b3 o3 l3 => h3 _ _ b3.bag fun H4 p4 c4 b4 o4 l4 => h4 _ _ b4.bag fun H5 p5 c5 b5 o5 l5 => h5 _ _ b5.bag fun H6 z b6 _ => ?_)
  have l2' := (l2.same (((b3.trans b4).trans b5).trans b6).at_).same (dlt_same _ _)
  have l3' := (l3.same ((b4.trans b5).trans b6).at_).same (dlt_same _ _)
  have l4' := (l4.same (b5.trans b6).at_).same (dlt_same _ _)
  have l5' := (l5.same b6.at_).same (dlt_same _ _)
  refine ⟨nm, r, p2, p3, p4, p5, c2, c3, c4, c5, z, rfl, l2', l3', l4', l5', nd_le1 (by rw [List.length_map]; exact o2.1), nd_le1 (by rw [List.length_map]; exact o3.1), o4.1, o5.1, fun H7 p s s7 hS e1 e2 e3 e4 e5 => ?_⟩
  have b7 := ((((b2.trans b3).trans b4).trans b5).trans b6).same s7
  obtain ⟨x, hb⟩ := bag_at b7.bag
  refine q _ _ s b7 (hS.sk fun a o e t => dlt_at e fun z => ?_) ⟨e1, ?_, ?_, fun y hy => o3.2 y (e3.mem_iff.mp hy), ?_, ?_⟩
  · rw [z, hb] at e
    cases e
    rcases t with ⟨_, w⟩ | ⟨_, _, w⟩ <;> cases w
  · rw [e2.length_eq]; exact o2.1
  · rw [e3.length_eq]; exact o3.1
  · rw [e4]; exact o4
  · rw [e5]; exact o5.1
end
structure StI (tn : List Str) (H0 : Hp) (b st : Addr) (nms : List Str) (H : Hp) : Prop where
  bh : BH b H0 H
  b0 : BagI H0 b
  new : H0 st = none
  ne : st ≠ b
  ls : ∃ (ms : List V) (ss : List Stp), H st = some (.lst ms) ∧ Paired (IsStp (dlt H b)) ms ss ∧ ss.map (·.nm) = nms ∧ ∀ s ∈ ss, OkT tn s
theorem StI.start {σ : L2.St} {b : Addr} {tn : List Str} {nm : Str} {te : TE} {g : TG} {D : Ends} {H0 H : Hp} (b0 : BagI H0 b) (bh : BH b H0 H) (h : StpE σ b te fun s => s.nm = nm ∧ OkT tn s) (k : ∀ H' st, StI tn H0 b st [nm] H' → g (.ref st) σ H' D.nx) : tAsg (tLst (tCons te tNil)) g D σ H :=
  h H _ bh.bag fun H2 v s b2 hS ⟨e, o⟩ => ⟨line_le 1 (by decide), fun p hp => by
    have s1 := same_upd (o := .lst [v]) hp
    have bz := (bh.trans b2).same s1
    have n := bag_ne b2.bag hp
    exact k _ p ⟨bz, b0, (bh.trans b2).sb.free hp n, n, [v], [s], upd_same, .cons (hS.same (dlt_mono s1)) .nil, by rw [← e]; rfl, all1 o⟩⟩
theorem StI.bh2 {tn : List Str} {H0 H H2 : Hp} {b st : Addr} {nms : List Str} (h : StI tn H0 b st nms H) (g : BH b H H2) : StI tn H0 b st nms H2 := by
  obtain ⟨ms, ss, e, p, n, o⟩ := h.ls
  exact ⟨h.bh.trans g, h.b0, h.new, h.ne, ms, ss, g.sb.at_ e h.ne, pm p fun _ _ z => IsStp.same z g.at_, n, o⟩
theorem StI.add {K : PySem.W.Frag} {σ : L2.St} {b st : Addr} {i : Nat} {tn : List Str} {nms : List Str} {nm : Str} {te : TE} {D : Ends} {H0 H : Hp} (h : StI tn H0 b st nms H) (hi : σ[i]? = some (some (.ref st))) (hs : StpE σ b te fun s => s.nm = nm ∧ OkT tn s) (hl : nms.length ≤ 100)
    (k : ∀ H', StI tn H0 b st (nms ++ [nm]) H' → D.nx σ H') : tDrop (tBM K "list" rAppend (tVar i) (tCons te tNil)) D σ H := by
  obtain ⟨ms, ss, e, p, n, o⟩ := h.ls
  refine ⟨_, hi, .inl ⟨rfl, _, SqL.of e⟩, hs H _ h.bh.bag fun H2 v s b2 hS ⟨e1, o1⟩ => ?_⟩
  have e2 := b2.sb.at_ e h.ne
  have hml := p.length
  have hnl : nms.length = ss.length := by rw [← n, List.length_map]
  refine ⟨st, ms, v, rfl, rfl, e2, small (by omega), ?_⟩
  have bz := h.bh.trans b2
  have sb := bz.sb.own (o := .lst (ms ++ [v])) h.new
  have sk : SK (dlt H2 b) (dlt (upd H2 st (.lst (ms ++ [v]))) b) := fun a ob ea t => by
    refine dlt_at ?_ (dlt_some ea)
    rw [upd_ne fun z => by
      rw [z] at ea
      have := dlt_same _ _ _ _ ea
      rw [e2] at this
      cases this
      rcases t with ⟨_, w⟩ | ⟨_, _, w⟩ <;> cases w]
    exact dlt_same _ _ _ _ ea
  refine k _ ⟨⟨sb, sb.bag h.b0⟩, h.b0, h.new, h.ne, ms ++ [v], ss ++ [s], upd_same, ?_, by rw [List.map_append, n, ← e1]; rfl, fun x hx => ?_⟩
  · exact paired_add (pm p fun _ _ z => (IsStp.same z b2.at_).sk sk) (hS.sk sk)
  · rcases List.mem_append.mp hx with hx | hx
    · exact o x hx
    · rw [List.mem_singleton.mp hx]
      exact o1
section
variable {σ : L2.St} {b : Addr}
theorem IxE.mono {te : TE} {Z Z' : Int → Prop} (h : IxE σ b te Z) (k : ∀ z, Z z → Z' z) : IxE σ b te Z' := fun H1 _ hB q => h H1 _ hB fun H2 z bh hz => q H2 z bh (k z hz)
theorem IxE.take1 {x m : Int} (e : σ[0]? = some (some (.ref b))) (h0 : 0 < m) (h1 : m < 1073741824) : IxE σ b (tOp (rI0 fun i j => V.int (i + j)) (tC (.int x)) (tCall sp_take [] E0 (tCons (tVar 0) (tCons (tC (.int m)) tNil)))) fun _ => True := fun H1 _ hB q =>
  ⟨_, e, b, m, rfl, hB, h0, h1, fun H2 n sb hB2 _ _ => ⟨_, _, rfl, rfl, q H2 _ ⟨sb, hB2⟩ trivial⟩⟩
theorem IxE.some2 {x m : Int} (e : σ[0]? = some (some (.ref b))) (e1 : σ[1]? = some (some (.int m))) (h0 : 0 ≤ x) (h1 : 0 ≤ m) : IxE σ b (tCall sp_some [] E0 (tCons (tVar 0) (tCons (tLst (tCons (tC (.int x)) (tCons (tVar 1) tNil))) tNil))) fun z => 0 ≤ z := fun H1 _ hB q =>
  ⟨_, e, _, e1, line_le 2 (by decide), fun p hp => ⟨b, p, _, rfl, hB.same (same_upd hp), bag_ne hB hp, upd_same, List.cons_ne_nil _ _, by show 2 < 1073741824; omega, fun H' v sb hB' hv => by
    rcases List.mem_cons.mp hv with rfl | hv
    · exact q _ x ⟨(SB.of (same_upd hp)).trans sb, hB'⟩ h0
    · rw [List.mem_singleton.mp hv]
      exact q _ m ⟨(SB.of (same_upd hp)).trans sb, hB'⟩ h1⟩⟩
end
theorem good_of {nm : Str} {ps nms : List Str} {nt : List (Str × Int)} {ss : List Stp} (hp : (ss.map (·.nm)).Perm nms) (ho : ∀ s ∈ ss, OkT (nt.map (·.1)) s) (h2 : 2 ≤ ps.length) (h20 : ps.length ≤ 20) (hn : nt.length ≤ 1) (l1 : 1 ≤ nms.length) (l10 : nms.length ≤ 10) (nd : nms.Nodup) (hz : ("zed" : Str) ∉ nms) (ha : ("newa" : Str) ∉ nms) (hb : ("newb" : Str) ∉ nms) : GoodN ⟨nm, ps, nt, ss⟩ := by
  have hl : ss.length = nms.length := by rw [← hp.length_eq, List.length_map]
  refine ⟨⟨⟨by show 1 ≤ ps.length; omega, by show ps.length ≤ 100; omega, by show nt.length ≤ 100; omega, by show ss.length ≤ 100; omega, fun x hx => ?_⟩, fun x hx => (ho x hx).nn, hp.nodup_iff.mpr nd, fun z => hz (hp.mem_iff.mp z), h2, h20, by show 1 ≤ ss.length; omega, by show ss.length ≤ 20; omega⟩, fun z => ha (hp.mem_iff.mp z), fun z => hb (hp.mem_iff.mp z), by show ss.length ≤ 10; omega⟩
  have o := ho x hx
  have h1 := o.li
  have h2 := o.lo
  have h3 := o.se
  have h4 := o.te
  exact ⟨Nat.le_trans h4.1 (by decide), by omega, by omega, by omega, h4.2⟩
theorem net_fin {nm : Str} {ps nms : List Str} {nt : List (Str × Int)} {tn : List Str} {H0 H7 H8 : Hp} {b p1 p2 st : Addr} {ms : List V} {Q : VK} (k : ∀ H' v N, SB b H0 H' → BagI H' b → IsNet (dlt H' b) v N → GoodN N → Q v H')
    (hI : StI tn H0 b st nms H7) (g1 : dlt H7 b p1 = some (.tup (ps.map V.str))) (g2 : NtT (dlt H7 b) p2 nt) (htn : tn = nt.map (·.1)) (h2 : 2 ≤ ps.length) (h20 : ps.length ≤ 20) (hn : nt.length ≤ 1) (l1 : 1 ≤ nms.length) (l10 : nms.length ≤ 10) (nd : nms.Nodup) (hz : ("zed" : Str) ∉ nms) (ha : ("newa" : Str) ∉ nms) (hb : ("newb" : Str) ∉ nms)
    (hms : H7 st = some (.lst ms)) {ys : List V} (sb8 : SB b H7 H8) (hB8 : BagI H8 b) (hperm : ys.Perm ms) {p4 p5 : Addr} (n4 : H8 p4 = none) (n5 : upd H8 p4 (.tup ys) p5 = none) : Q (.ref p5) (upd (upd H8 p4 (.tup ys)) p5 (.tup [V.str nm, .ref p1, .ref p2, .ref p4])) := by
  obtain ⟨ms', ss, e, hM, en, ho⟩ := hI.ls
  rw [hms] at e
  cases e
  have s4 := same_upd (o := .tup ys) n4
  have g4 := @upd_same H8 p4 (.tup ys)
  have s5 := same_upd (o := .tup [V.str nm, .ref p1, .ref p2, .ref p4]) n5
  have g5 := @upd_same (upd H8 p4 (.tup ys)) p5 (.tup [V.str nm, .ref p1, .ref p2, .ref p4])
  replace g4 := s5 _ _ g4
  have m4 : p4 ≠ b := bag_ne hB8 n4
  have m5 : p5 ≠ b := bag_ne (hB8.same s4) n5
  have s45 := s4.trans s5
  have sbz := (hI.bh.sb.trans sb8).trans (SB.of s45)
  have hBz := hB8.same s45
  have sd := (sb8.trans (SB.of s45)).s
  generalize upd (upd H8 p4 (.tup ys)) p5 (.tup [V.str nm, .ref p1, .ref p2, .ref p4]) = H9 at s5 g4 g5 s45 sbz sd hBz ⊢
  obtain ⟨ss', hss, hsp⟩ := paired_perm hperm (pm hM fun _ _ z => IsStp.same z sd)
  refine k H9 (.ref p5) ⟨nm, ps, nt, ss'⟩ sbz hBz ⟨p5, p1, p2, p4, ys, rfl, dlt_at g5 m5, sd _ _ g1, g2.same sd, dlt_at g4 m4, hss⟩ (good_of (nms := nms) ?_ ?_ h2 h20 hn l1 l10 nd hz ha hb)
  · rw [← en]
    exact hsp.map _
  · intro x hx
    rw [← htn]
    exact ho x (hsp.mem_iff.mp hx)
theorem role_of2 {v : V} {x y : Option Str} (h : v ∈ [roV x, roV y]) : ∃ r, v = roV r := by
  rcases List.mem_cons.mp h with rfl | h
  · exact ⟨_, rfl⟩
  · exact ⟨_, List.mem_singleton.mp h⟩
theorem IxE.flag {σ : L2.St} {b : Addr} {m : Int} (e : σ[0]? = some (some (.ref b))) (h0 : 0 < m) (h1 : m < 1073741824) : IxE σ b (tOp (rI0 fun i j => V.int (i + j)) (tC (.int 1)) (tCB (fun xs H Q => (∃ i, xs = [V.int i] ∧ Q (V.int i) H) ∨ ∃ k, xs = [V.bl k] ∧ Q (V.int (if k = true then 1 else 0)) H) (tCons (tOp rEq (tCall sp_take [] E0 (tCons (tVar 0) (tCons (tC (.int m)) tNil))) (tC (V.int 0))) tNil))) fun z => 0 ≤ z := fun H1 _ hB q =>
  ⟨_, e, b, m, rfl, hB, h0, h1, fun H2 n sb hB2 _ _ => ⟨rfl, .inr ⟨_, rfl, _, _, rfl, rfl, q H2 _ ⟨sb, hB2⟩ (by split <;> decide)⟩⟩⟩
theorem any_pair {K : PySem.W.Frag} {σ : L2.St} {b pp : Addr} {ps ys : List Str} {lo hi : Option Int} {tl th : TO} {tn : TE} {g : TG} {D : Ends} {H1 : Hp} (hB : BagI H1 b) (hpp : dlt H1 b pp = some (.tup (ps.map V.str))) (e0 : σ[0]? = some (some (.ref b))) (e2 : σ[2]? = some (some (.ref pp)))
    (htl : ∀ (H : Hp) (Q : Option Int → Hp → Prop), Q lo H → tl σ H Q) (hth : ∀ (H : Hp) (Q : Option Int → Hp → Prop), Q hi H → th σ H Q) (hc : cutV (ps.map V.str) lo hi = ys.map V.str) (hne : ys ≠ []) (hl : ys.length ≤ 100) (hn : IxE σ b tn fun z => 0 ≤ z)
    (k : ∀ H2 p c, BH b H1 H2 → L1 c → LsP (dlt H2 b) p c → g (.ref p) σ H2 D.nx) :
    tAsg (tLst (tCons (tTup (tCons (tCall sp_some [] E0 (tCons (tVar 0) (tCons (tCB (fun xs H_1 Q => ∃ p ys, xs = [V.ref p] ∧ (SqL K H_1 p ys ∨ SqT K H_1 p ys) ∧ ∀ (l : Addr), H_1 l = none → Q (V.ref l) (upd H_1 l (HO.lst ys))) (tCons (tSl (rSlA K) (tVar 2) tl th) tNil)) tNil))) (tCons tn tNil))) tNil)) g D σ H1 := by
  refine ⟨_, e0, _, e2, htl _ _ (hth _ _ (sl_new (dlt_same _ _ _ _ hpp) fun H2 q s2 hq => ⟨q, _, rfl, .inr (SqT.of hq), fun l hl' => ?_⟩))⟩
  rw [hc]
  have b2 := (BH.of hB s2).same (same_upd (o := .lst (ys.map V.str)) hl')
  refine ⟨b, l, _, rfl, b2.bag, bag_ne (hB.same s2) hl', upd_same, fun z => hne (List.map_eq_nil_iff.mp z), by rw [List.length_map]; omega, fun H3 v sb3 hB3 hv => ?_⟩
  obtain ⟨x, _, rfl⟩ := List.mem_map.mp hv
  have b3 := b2.trans ⟨sb3, hB3⟩
  refine hn _ _ hB3 fun H4 z b4 hz => ⟨line_le 2 (by decide), fun p hp => ⟨line_le 1 (by decide), fun p2 hp2 => ?_⟩⟩
  have s5 := same_upd (o := .tup [V.str x, V.int z]) hp
  have s6 := same_upd (o := .lst [V.ref p]) hp2
  have b5 := (b3.trans b4).same s5
  have b6 := b5.same s6
  exact k _ p2 [(x, z)] b6 ⟨Nat.le_refl 1, all1 hz⟩ ⟨[p], dlt_at upd_same (bag_ne b5.bag hp2), .cons (dlt_at (s6 _ _ upd_same) (bag_ne b4.bag hp)) .nil⟩
theorem tIf_and2 {t u : TT} {A B : TS} {D : Ends} {σ : L2.St} {H1 : Hp} {R : Hp → Prop} {x : Bool} (ht : ∀ Q : Bool → Hp → Prop, (∀ H4 a, R H4 → Q a H4) → t σ H1 Q) (hu : ∀ (H4 : Hp) (Q : Bool → Hp → Prop), R H4 → Q x H4 → u σ H4 Q) (hA : x = true → ∀ H4, R H4 → A D σ H4) (hB : ∀ H4, R H4 → B D σ H4) : tIfS (tAnd t u) A B D σ H1 := ht _ fun H4 a r => by
  cases a with
  | false => exact iteF (iteF (hB _ r))
  | true =>
    refine iteT (hu _ _ r ?_)
    cases x with
    | true => exact iteT (hA rfl _ r)
    | false => exact iteF (hB _ r)
structure AnP (nt : List Str) (i : Nat) (ss : List Stp) : Prop where
  l1 : 1 ≤ ss.length
  l2 : ss.length ≤ 10 + i
  nd : (ss.map (·.nm)).Nodup
  nz : ("zed" : Str) ∉ ss.map (·.nm)
  na : i = 0 → ("newa" : Str) ∉ ss.map (·.nm)
  nb : i ≤ 1 → ("newb" : Str) ∉ ss.map (·.nm)
  nn : ∀ s ∈ ss, ∀ q ∈ s.outs, 0 ≤ q.2
  tst : ∀ s ∈ ss, s.tests.length ≤ 100 ∧ s.ins.length ≤ 100 ∧ s.outs.length ≤ 100 ∧ s.sets.length ≤ 100 ∧ ∀ t ∈ s.tests, t.1 ∈ nt
theorem AnP.of {N : NetT} (g : GoodN N) : AnP (N.notes.map (·.1)) 0 N.steps := ⟨g.g.s1, g.s10, g.g.nd, g.g.nz, fun _ => g.na, fun _ => g.nb, g.g.nn, g.g.ok.tst⟩
theorem AnP.pop {nt : List Str} {i j : Nat} {ss : List Stp} (h : AnP nt i ss) (hj : j < ss.length) (hl : 1 < ss.length) : AnP nt (i + 1) (ss.eraseIdx j) := by
  have hs := List.eraseIdx_sublist ss j
  have hm := hs.map (·.nm)
  have hlen : (ss.eraseIdx j).length + 1 = ss.length := by
    rw [List.length_eraseIdx_of_lt hj]
    omega
  have h2 := h.l2
  exact ⟨by omega, by omega, h.nd.sublist hm, fun z => h.nz (hm.subset z), fun z => by omega, fun z => fun y => h.nb (by omega) (hm.subset y), fun s hs' => h.nn s (hs.subset hs'), fun s hs' => h.tst s (hs.subset hs')⟩
def newN (i : Nat) : Str := ("new" : Str) ++ (⟨#[("ab" : Str).cps.toList.getD i 0]⟩ : Str)
theorem AnP.put {nt : List Str} {i j : Nat} {ss : List Stp} {x : Stp} (h : AnP nt i ss) (hi : i < 2) (e : x.nm = newN i) (hn : ∀ q ∈ x.outs, 0 ≤ q.2) (ht : x.tests = []) (li : x.ins.length ≤ 1) (lo : x.outs.length ≤ 1) (hs : x.sets = []) : AnP nt (i + 1) (ss.take j ++ [x] ++ ss.drop j) := by
  have hp : (ss.take j ++ [x] ++ ss.drop j).Perm (x :: ss) := by
    have h1 : (ss.take j ++ [x] ++ ss.drop j).Perm ([x] ++ ss.take j ++ ss.drop j) := List.Perm.append_right _ List.perm_append_comm
    rw [List.append_assoc [x], List.take_append_drop] at h1
    exact h1
  have hpm := hp.map (·.nm)
  rw [List.map_cons, e] at hpm
  have hlen := hp.length_eq
  rw [List.length_cons] at hlen
  have h2 := h.l2
  have hall : ∀ y ∈ ss.take j ++ [x] ++ ss.drop j, y = x ∨ y ∈ ss := fun y hy => List.mem_cons.mp (hp.mem_iff.mp hy)
  have hnew : newN i ∉ ss.map (·.nm) ∧ newN i ≠ "zed" ∧ (i = 0 → newN i ≠ "newb") := by
    match i, hi with
    | 0, _ => exact ⟨by rw [show newN 0 = "newa" from by decide]; exact h.na rfl, by decide, fun _ => by decide⟩
    | 1, _ => exact ⟨by rw [show newN 1 = "newb" from by decide]; exact h.nb (Nat.le_refl _), by decide, fun z => by omega⟩
    | _ + 2, hi => omega
  refine ⟨by omega, by omega, hpm.nodup_iff.mpr (List.nodup_cons.mpr ⟨hnew.1, h.nd⟩), fun z => ?_, fun z => by omega, fun z y => ?_, fun s hs' => ?_, fun s hs' => ?_⟩
  · rcases List.mem_cons.mp (hpm.mem_iff.mp z) with z | z
    · exact hnew.2.1 z.symm
    · exact h.nz z
  · rcases List.mem_cons.mp (hpm.mem_iff.mp y) with y | y
    · exact hnew.2.2 (by omega) y.symm
    · exact h.nb (by omega) y
  · rcases hall s hs' with rfl | hs'
    · exact hn
    · exact h.nn s hs'
  · rcases hall s hs' with rfl | hs'
    · rw [ht, hs]
      exact ⟨by decide, by omega, by omega, by decide, fun t z => by cases z⟩
    · exact h.tst s hs'
theorem AnP.good {nm : Str} {ps : List Str} {nt : List (Str × Int)} {ss : List Stp} {i : Nat} (h : AnP (nt.map (·.1)) i ss) (hi : i ≤ 2) (h2 : 2 ≤ ps.length) (h20 : ps.length ≤ 20) (hn : nt.length ≤ 100) : Good ⟨nm, ps, nt, ss⟩ := by
  have := h.l2
  exact ⟨⟨by show 1 ≤ ps.length; omega, by show ps.length ≤ 100; omega, hn, by show ss.length ≤ 100; omega, h.tst⟩, h.nn, h.nd, h.nz, h2, h20, h.l1, by show ss.length ≤ 20; omega⟩
theorem paired_erase {α β : Type} {F : α → β → Prop} {l : List α} {m : List β} (h : Paired F l m) : ∀ j : Nat, Paired F (l.eraseIdx j) (m.eraseIdx j) := by
  induction h with
  | nil => intro j; exact .nil
  | cons r t ih =>
    intro j
    cases j with
    | zero => exact t
    | succ j => exact .cons r (ih j)
theorem sk_dlt {H : Hp} {b st : Addr} {l : List V} {o : HO} (e : H st = some (.lst l)) : SK (dlt H b) (dlt (upd H st o) b) := fun a ob ea t => by
  refine dlt_at ?_ (dlt_some ea)
  rw [upd_ne fun z => by
    rw [z] at ea
    have := dlt_same _ _ _ _ ea
    rw [e] at this
    cases this
    rcases t with ⟨_, w⟩ | ⟨_, _, w⟩ <;> cases w]
  exact dlt_same _ _ _ _ ea
structure Np (G : Hp) (na pp pn pt : Addr) (N : NetT) : Prop where
  a : G na = some (.tup [.str N.nm, .ref pp, .ref pn, .ref pt])
  p : G pp = some (.tup (N.places.map V.str))
  n : NtT G pn N.notes
theorem Np.sk {G G' : Hp} {na pp pn pt : Addr} {N : NetT} (h : Np G na pp pn pt N) (s : SK G G') : Np G' na pp pn pt N := ⟨s.tup h.a, s.tup h.p, h.n.sk s⟩
def AnI (H0 : Hp) (b na pp pn pt st : Addr) (N0 : NetT) (i : Nat) (σ : L2.St) (H : Hp) : Prop := ∃ (c4 c5 c6 c7 : Option V) (ms : List V) (ss : List Stp),
  σ = [some (.ref b), some (.ref na), some (.ref pp), some (.ref st), c4, c5, c6, c7] ∧ BH b H0 H ∧ H st = some (.lst ms) ∧ Np (dlt H b) na pp pn pt N0 ∧ Paired (IsStp (dlt H b)) ms ss ∧ AnP (N0.notes.map (·.1)) i ss
theorem an_upd {H0 H6 : Hp} {b na pp pn pt st : Addr} {N0 : NetT} {i : Nat} {c4 c5 c6 c7 : Option V} {l ms : List V} {ss : List Stp} (b0 : BagI H0 b) (n0 : H0 st = none) (bh : BH b H0 H6) (e : H6 st = some (.lst l)) (np : Np (dlt H6 b) na pp pn pt N0) (hM : Paired (IsStp (dlt H6 b)) ms ss) (hA : AnP (N0.notes.map (·.1)) i ss) :
    AnI H0 b na pp pn pt st N0 i [some (.ref b), some (.ref na), some (.ref pp), some (.ref st), c4, c5, c6, c7] (upd H6 st (.lst ms)) := by
  have sk := sk_dlt (b := b) (o := .lst ms) e
  exact ⟨c4, c5, c6, c7, ms, ss, rfl, ⟨bh.sb.own n0, (bh.sb.own n0).bag b0⟩, upd_same, np.sk sk, pm hM fun _ _ z => IsStp.sk z sk, hA⟩
theorem cut_init {xs : List V} : cutV xs none (some (-1)) = xs.dropLast := by
  unfold cutV
  rw [HT.sIx_none]
  show List.take (((-1 : Int) + ((xs.length : Nat) : Int)).toNat - 0) (xs.drop 0) = _
  rw [show (((-1 : Int) + ((xs.length : Nat) : Int)).toNat - 0) = xs.length - 1 by omega, List.drop_zero, List.dropLast_eq_take]
theorem ab_at {i : Nat} (h : i < 2) : atI ("ab" : Str).cps.toList ((i : Nat) : Int) = some (("ab" : Str).cps.toList.getD i 0) := by
  match i, h with
  | 0, _ => decide
  | 1, _ => decide
  | _ + 2, h => omega
end Net
namespace Net
open PySem PySem.Spec PyProof.Rows L2 SDx NetR SumT
section
variable {P : Program} {w : World} {K : PySem.W.Frag} {mg : Str → Option Value} {base : Heap}
def sp_net0 : Sp := sp_net
abbrev s__law_heaped : Stmt := top 56
theorem sc__law_heaped : FnScope ["bag", "many", "role", "steps"] ["bag"] (defScope s__law_heaped) := ⟨rfl, rfl, rfl, by decide +kernel, rfl, by decide +kernel, by decide +kernel⟩
theorem ok_heaped {f f__law_take f__law_some f__law_step f__law_mixed : Addr} {fd fd1 fd2 fd3 fd4 : FuncData} (F : Fun K "_law_heaped" "_law_heaped" s__law_heaped f fd) (T : Tx mg) (d__law_take : Ok1 P w K mg base CX0 1 "_law_take" ["bag", "many"] sp_take f__law_take fd1) (d__law_some : Ok1 P w K mg base CX0 2 "_law_some" ["bag", "things"] sp_some f__law_some fd2) (d__law_step : Ok1 P w K mg base CX0 1 "_law_step" ["name", "role", "inputs", "outputs", "tests", "sets", "days"] sp_lstep f__law_step fd3) (d__law_mixed : Ok1 P w K mg base CX0 2 "_law_mixed" ["bag", "things"] sp_mixed f__law_mixed fd4) : FnOk P w K mg base CX0 4 f fd ["bag"] sp_net := by
  refine F.ok sc__law_heaped (fun vs H Q E h => ?_) (fun cdv A outer s H vs Q E hr h => ?_)
  · obtain ⟨b, rfl, _⟩ := h
    rfl
  · obtain ⟨b, rfl, hB, k⟩ := h
    refine ⟨_, (pss_cons (ps_par (i := 1) (j := 2) (by rfl) sc__law_heaped.nd rfl rfl (by decide) rfl rfl (pa_cons (pe_op op_add pe_int (pe_call d__law_take.ok (hr.mono (by decide)) rfl d__law_take.g d__law_take.kp d__law_take.b .nil pass0 (pa_cons (pv 0) (pa_cons pe_int pa_nil)))) (pa_cons (pe_call d__law_some.ok (hr.mono (by decide)) rfl d__law_some.g d__law_some.kp d__law_some.b .nil pass0 (pa_cons (pv 0) (pa_cons (pe_lst (pa_cons pe_str (pa_cons pe_non pa_nil))) pa_nil))) pa_nil)) (by rfl))
      (pss_cons (ps_set (i := 3) sc__law_heaped.nd rfl (Or.inl rfl) (pe_lst (pa_cons (pe_call d__law_step.ok (hr.mono (by decide)) rfl d__law_step.g d__law_step.kp d__law_step.b .nil pass0 (pa_cons pe_str (pa_cons pe_str (pa_cons (pe_lst (pa_cons (pe_tup (pa_cons pe_str (pa_cons pe_int pa_nil))) pa_nil)) (pa_cons (pe_lst (pa_cons (pe_tup (pa_cons pe_str (pa_cons (pv 1) pa_nil))) pa_nil)) (pa_cons (pe_lst pa_nil) (pa_cons (pe_lst pa_nil) (pa_cons pe_int pa_nil)))))))) pa_nil)))
      (pss_cons (ps_expr (pe_bm PySem.F.plainAttrs_list PySem.F.slot_list_append PySem.F.type_list_append mt_append (pv 3) (pa_cons (pe_call d__law_step.ok (hr.mono (by decide)) rfl d__law_step.g d__law_step.kp d__law_step.b .nil pass0 (pa_cons pe_str (pa_cons (pv 2) (pa_cons (pe_lst (pa_cons (pe_tup (pa_cons pe_str (pa_cons pe_int pa_nil))) pa_nil)) (pa_cons (pe_lst (pa_cons (pe_tup (pa_cons pe_str (pa_cons pe_int pa_nil))) pa_nil)) (pa_cons (pe_lst pa_nil) (pa_cons (pe_lst pa_nil) (pa_cons (pe_op op_add pe_int (pe_call d__law_take.ok (hr.mono (by decide)) rfl d__law_take.g d__law_take.kp d__law_take.b .nil pass0 (pa_cons (pv 0) (pa_cons pe_int pa_nil)))) pa_nil)))))))) pa_nil)))
      (pss_cons (ps_expr (pe_bm PySem.F.plainAttrs_list PySem.F.slot_list_append PySem.F.type_list_append mt_append (pv 3) (pa_cons (pe_call d__law_step.ok (hr.mono (by decide)) rfl d__law_step.g d__law_step.kp d__law_step.b .nil pass0 (pa_cons pe_str (pa_cons pe_str (pa_cons (pe_lst (pa_cons (pe_tup (pa_cons pe_str (pa_cons pe_int pa_nil))) pa_nil)) (pa_cons (pe_lst (pa_cons (pe_tup (pa_cons pe_str (pa_cons pe_int pa_nil))) pa_nil)) (pa_cons (pe_lst pa_nil) (pa_cons (pe_lst pa_nil) (pa_cons pe_int pa_nil)))))))) pa_nil)))
      (pss_cons (ps_expr (pe_bm PySem.F.plainAttrs_list PySem.F.slot_list_append PySem.F.type_list_append mt_append (pv 3) (pa_cons (pe_call d__law_step.ok (hr.mono (by decide)) rfl d__law_step.g d__law_step.kp d__law_step.b .nil pass0 (pa_cons pe_str (pa_cons pe_str (pa_cons (pe_lst (pa_cons (pe_tup (pa_cons pe_str (pa_cons (pv 1) pa_nil))) pa_nil)) (pa_cons (pe_lst (pa_cons (pe_tup (pa_cons pe_str (pa_cons pe_int pa_nil))) pa_nil)) (pa_cons (pe_lst pa_nil) (pa_cons (pe_lst pa_nil) (pa_cons pe_int pa_nil)))))))) pa_nil)))
      (pss_one (ps_ret (pe_tup (pa_cons pe_str (pa_cons (pe_tup (pa_cons pe_str (pa_cons pe_str (pa_cons pe_str (pa_cons pe_str pa_nil))))) (pa_cons (pe_tup pa_nil) (pa_cons (pe_callTy call_tuple_of (by rfl) T.n_tuple (by decide +kernel) (pa_cons (pe_call d__law_mixed.ok (hr.mono (by decide)) rfl d__law_mixed.g d__law_mixed.kp d__law_mixed.b .nil pass0 (pa_cons (pv 0) (pa_cons (pv 3) pa_nil))) pa_nil)) pa_nil)))))))))))), ?_⟩
    refine ⟨_, rfl, b, 2, rfl, hB, by decide, by decide, fun H1 n sb1 hB1 n0 n1 => ⟨_, _, rfl, rfl, _, rfl, line_le 2 (by decide), fun p hp => ⟨b, p, _, rfl, hB1.same (same_upd hp), bag_ne hB1 hp, upd_same, List.cons_ne_nil _ _, by show 2 < 1073741824; omega, fun H2 v sb2 hB2 hv => ?_⟩⟩⟩
    obtain ⟨r, rfl⟩ := role_of2 (x := some "boss") (y := none) hv
    have bh2 : BH b H H2 := ⟨(sb1.trans (SB.of (same_upd hp))).trans sb2, hB2⟩
    refine ⟨_, _, rfl, ?_⟩
    dsimp only [L2.start, List.set, List.replicate, List.map, List.length]
    refine StI.start (tn := []) (nm := "fill") hB bh2 (StpE.mk ⟨some "clerk", fun _ _ q => q⟩ (LpE.one (IxE.c (by decide))) (LpE.one (IxE.var (z := 2 + n) rfl (by omega))) LtE.nil LpE.nil (IxE.c trivial)) fun H3 st h3 => ?_
    dsimp only [gName, List.set]
    refine StI.add (nm := "move") h3 rfl (StpE.mk ⟨r, fun _ _ q => ⟨_, rfl, q⟩⟩ (LpE.one (IxE.c (by decide))) (LpE.one (IxE.c (by decide))) LtE.nil LpE.nil (IxE.take1 rfl (by decide) (by decide))) (by decide) fun H4 h4 => ?_
    refine StI.add (nm := "back") h4 rfl (StpE.mk ⟨some "boss", fun _ _ q => q⟩ (LpE.one (IxE.c (by decide))) (LpE.one (IxE.c (by decide))) LtE.nil LpE.nil (IxE.c trivial)) (by decide) fun H5 h5 => ?_
    refine StI.add (nm := "close") h5 rfl (StpE.mk ⟨some "clerk", fun _ _ q => q⟩ (LpE.one (IxE.var (z := 2 + n) rfl (by omega))) (LpE.one (IxE.c (by decide))) LtE.nil LpE.nil (IxE.c trivial)) (by decide) fun H6 h6 => ?_
    refine ⟨line_le 4 (by decide), fun p1 n1 => ⟨Nat.zero_le _, fun p2 n2 => ?_⟩⟩
    have s1 := same_upd (o := .tup [V.str "begin", V.str "heap", V.str "kept", V.str "over"]) n1
    have g1 := @upd_same H6 p1 (.tup [V.str "begin", V.str "heap", V.str "kept", V.str "over"])
    have s2 := same_upd (o := .tup []) n2
    have g2 := @upd_same (upd H6 p1 (.tup [V.str "begin", V.str "heap", V.str "kept", V.str "over"])) p2 (.tup [])
    replace g1 := s2 _ _ g1
    have m1 := bag_ne h6.bh.bag n1
    have m2 := bag_ne (h6.bh.bag.same s1) n2
    generalize upd (upd H6 p1 (.tup [V.str "begin", V.str "heap", V.str "kept", V.str "over"])) p2 (.tup []) = H7 at s2 g1 g2 ⊢
    have h7 := h6.bh2 (BH.of h6.bh.bag (s1.trans s2))
    obtain ⟨ms, ss, hms, hM, en, _⟩ := id h7.ls
    have hml := hM.length
    have hsl : ss.length = 4 := by rw [← List.length_map (f := (·.nm)), en]; rfl
    refine ⟨_, rfl, _, rfl, b, st, ms, rfl, h7.bh.bag, h7.ne, hms, by omega, fun H8 p3 ys sb8 hB8 n3 h3 hperm => ?_⟩
    refine ⟨p3, _, rfl, .inl ⟨SqL.of h3, fun p4 n4 => ⟨line_le 4 (by decide), fun p5 n5 => ?_⟩⟩⟩
    exact net_fin (ps := ["begin", "heap", "kept", "over"]) (nt := []) k h7 (dlt_at g1 m1) ⟨[], dlt_at g2 m2, .nil⟩ rfl (by decide) (by decide) (by decide) (by decide) (by decide) (by decide) (by decide) (by decide) (by decide) hms sb8 hB8 hperm n4 n5
abbrev s__law_noted : Stmt := top 55
theorem sc__law_noted : FnScope ["bag", "most", "role", "steps", "fade"] ["bag"] (defScope s__law_noted) := ⟨rfl, rfl, rfl, by decide +kernel, rfl, by decide +kernel, by decide +kernel⟩
theorem ok_noted {f f__law_take f__law_some f__law_step f__law_mixed : Addr} {fd fd1 fd2 fd3 fd4 : FuncData} (F : Fun K "_law_noted" "_law_noted" s__law_noted f fd) (T : Tx mg) (d__law_take : Ok1 P w K mg base CX0 1 "_law_take" ["bag", "many"] sp_take f__law_take fd1) (d__law_some : Ok1 P w K mg base CX0 2 "_law_some" ["bag", "things"] sp_some f__law_some fd2) (d__law_step : Ok1 P w K mg base CX0 1 "_law_step" ["name", "role", "inputs", "outputs", "tests", "sets", "days"] sp_lstep f__law_step fd3) (d__law_mixed : Ok1 P w K mg base CX0 2 "_law_mixed" ["bag", "things"] sp_mixed f__law_mixed fd4) : FnOk P w K mg base CX0 4 f fd ["bag"] sp_net := by
  refine F.ok sc__law_noted (fun vs H Q E h => ?_) (fun cdv A outer s H vs Q E hr h => ?_)
  · obtain ⟨b, rfl, _⟩ := h
    rfl
  · obtain ⟨b, rfl, hB, k⟩ := h
    refine ⟨_, (pss_cons (ps_par (i := 1) (j := 2) (by rfl) sc__law_noted.nd rfl rfl (by decide) rfl rfl (pa_cons (pe_op op_add pe_int (pe_call d__law_take.ok (hr.mono (by decide)) rfl d__law_take.g d__law_take.kp d__law_take.b .nil pass0 (pa_cons (pv 0) (pa_cons pe_int pa_nil)))) (pa_cons (pe_call d__law_some.ok (hr.mono (by decide)) rfl d__law_some.g d__law_some.kp d__law_some.b .nil pass0 (pa_cons (pv 0) (pa_cons (pe_lst (pa_cons pe_str (pa_cons pe_str pa_nil))) pa_nil))) pa_nil)) (by rfl))
      (pss_cons (ps_set (i := 3) sc__law_noted.nd rfl (Or.inl rfl) (pe_lst (pa_cons (pe_call d__law_step.ok (hr.mono (by decide)) rfl d__law_step.g d__law_step.kp d__law_step.b .nil pass0 (pa_cons pe_str (pa_cons pe_str (pa_cons (pe_lst (pa_cons (pe_tup (pa_cons pe_str (pa_cons pe_int pa_nil))) pa_nil)) (pa_cons (pe_lst (pa_cons (pe_tup (pa_cons pe_str (pa_cons pe_int pa_nil))) pa_nil)) (pa_cons (pe_lst pa_nil) (pa_cons (pe_lst pa_nil) (pa_cons pe_int pa_nil)))))))) pa_nil)))
      (pss_cons (ps_expr (pe_bm PySem.F.plainAttrs_list PySem.F.slot_list_append PySem.F.type_list_append mt_append (pv 3) (pa_cons (pe_call d__law_step.ok (hr.mono (by decide)) rfl d__law_step.g d__law_step.kp d__law_step.b .nil pass0 (pa_cons pe_str (pa_cons (pv 2) (pa_cons (pe_lst (pa_cons (pe_tup (pa_cons pe_str (pa_cons pe_int pa_nil))) pa_nil)) (pa_cons (pe_lst (pa_cons (pe_tup (pa_cons pe_str (pa_cons pe_int pa_nil))) pa_nil)) (pa_cons (pe_lst (pa_cons (pe_tup (pa_cons pe_str (pa_cons pe_str (pa_cons pe_int pa_nil)))) pa_nil)) (pa_cons (pe_lst (pa_cons (pe_tup (pa_cons pe_str (pa_cons (pe_call d__law_some.ok (hr.mono (by decide)) rfl d__law_some.g d__law_some.kp d__law_some.b .nil pass0 (pa_cons (pv 0) (pa_cons (pe_lst (pa_cons pe_int (pa_cons (pv 1) pa_nil))) pa_nil))) pa_nil))) pa_nil)) (pa_cons pe_int pa_nil)))))))) pa_nil)))
      (pss_cons (ps_set (i := 4) sc__law_noted.nd rfl (Or.inl rfl) (pe_call d__law_some.ok (hr.mono (by decide)) rfl d__law_some.g d__law_some.kp d__law_some.b .nil pass0 (pa_cons (pv 0) (pa_cons (pe_lst (pa_cons pe_non (pa_cons pe_str pa_nil))) pa_nil))))
      (pss_cons (ps_expr (pe_bm PySem.F.plainAttrs_list PySem.F.slot_list_append PySem.F.type_list_append mt_append (pv 3) (pa_cons (pe_call d__law_step.ok (hr.mono (by decide)) rfl d__law_step.g d__law_step.kp d__law_step.b .nil pass0 (pa_cons pe_str (pa_cons (pv 4) (pa_cons (pe_lst (pa_cons (pe_tup (pa_cons pe_str (pa_cons pe_int pa_nil))) pa_nil)) (pa_cons (pe_lst (pa_cons (pe_tup (pa_cons pe_str (pa_cons pe_int pa_nil))) pa_nil)) (pa_cons (pe_lst (pa_cons (pe_tup (pa_cons pe_str (pa_cons pe_str (pa_cons pe_int pa_nil)))) pa_nil)) (pa_cons (pe_lst (pa_cons (pe_tup (pa_cons pe_str (pa_cons pe_int pa_nil))) pa_nil)) (pa_cons (pe_op op_add pe_int (pe_call d__law_take.ok (hr.mono (by decide)) rfl d__law_take.g d__law_take.kp d__law_take.b .nil pass0 (pa_cons (pv 0) (pa_cons pe_int pa_nil)))) pa_nil)))))))) pa_nil)))
      (pss_cons (ps_expr (pe_bm PySem.F.plainAttrs_list PySem.F.slot_list_append PySem.F.type_list_append mt_append (pv 3) (pa_cons (pe_call d__law_step.ok (hr.mono (by decide)) rfl d__law_step.g d__law_step.kp d__law_step.b .nil pass0 (pa_cons pe_str (pa_cons pe_str (pa_cons (pe_lst (pa_cons (pe_tup (pa_cons pe_str (pa_cons pe_int pa_nil))) pa_nil)) (pa_cons (pe_lst (pa_cons (pe_tup (pa_cons pe_str (pa_cons pe_int pa_nil))) pa_nil)) (pa_cons (pe_lst (pa_cons (pe_tup (pa_cons pe_str (pa_cons pe_str (pa_cons pe_int pa_nil)))) pa_nil)) (pa_cons (pe_lst pa_nil) (pa_cons pe_int pa_nil)))))))) pa_nil)))
      (pss_cons (ps_expr (pe_bm PySem.F.plainAttrs_list PySem.F.slot_list_append PySem.F.type_list_append mt_append (pv 3) (pa_cons (pe_call d__law_step.ok (hr.mono (by decide)) rfl d__law_step.g d__law_step.kp d__law_step.b .nil pass0 (pa_cons pe_str (pa_cons pe_str (pa_cons (pe_lst (pa_cons (pe_tup (pa_cons pe_str (pa_cons pe_int pa_nil))) pa_nil)) (pa_cons (pe_lst (pa_cons (pe_tup (pa_cons pe_str (pa_cons pe_int pa_nil))) pa_nil)) (pa_cons (pe_lst (pa_cons (pe_tup (pa_cons pe_str (pa_cons pe_str (pa_cons pe_int pa_nil)))) pa_nil)) (pa_cons (pe_lst pa_nil) (pa_cons pe_int pa_nil)))))))) pa_nil)))
      (pss_one (ps_ret (pe_tup (pa_cons pe_str (pa_cons (pe_tup (pa_cons pe_str (pa_cons pe_str (pa_cons pe_str pa_nil)))) (pa_cons (pe_tup (pa_cons (pe_tup (pa_cons pe_str (pa_cons (pv 1) pa_nil))) pa_nil)) (pa_cons (pe_callTy call_tuple_of (by rfl) T.n_tuple (by decide +kernel) (pa_cons (pe_call d__law_mixed.ok (hr.mono (by decide)) rfl d__law_mixed.g d__law_mixed.kp d__law_mixed.b .nil pass0 (pa_cons (pv 0) (pa_cons (pv 3) pa_nil))) pa_nil)) pa_nil)))))))))))))), ?_⟩
    refine ⟨_, rfl, b, 3, rfl, hB, by decide, by decide, fun H1 n sb1 hB1 n0 n1 => ⟨_, _, rfl, rfl, _, rfl, line_le 2 (by decide), fun p hp => ⟨b, p, _, rfl, hB1.same (same_upd hp), bag_ne hB1 hp, upd_same, List.cons_ne_nil _ _, by show 2 < 1073741824; omega, fun H2 v sb2 hB2 hv => ?_⟩⟩⟩
    obtain ⟨r, rfl⟩ := role_of2 (x := some "clerk") (y := some "boss") hv
    have bh2 : BH b H H2 := ⟨(sb1.trans (SB.of (same_upd hp))).trans sb2, hB2⟩
    refine ⟨_, _, rfl, ?_⟩
    dsimp only [L2.start, List.set, List.replicate, List.map, List.length]
    refine StI.start (tn := ["n"]) (nm := "go") hB bh2 (StpE.mk ⟨some "clerk", fun _ _ q => q⟩ (LpE.one (IxE.c (by decide))) (LpE.one (IxE.c (by decide))) LtE.nil LpE.nil (IxE.c trivial)) fun H3 st h3 => ?_
    dsimp only [gName, List.set]
    refine StI.add (nm := "mark") h3 rfl (StpE.mk ⟨r, fun _ _ q => ⟨_, rfl, q⟩⟩ (LpE.one (IxE.c (by decide))) (LpE.one (IxE.c (by decide))) (LtE.one (List.mem_singleton.mpr rfl)) (LpE.one (IxE.some2 (m := 1 + n) rfl rfl (by decide) (by omega))) (IxE.c trivial)) (by decide) fun H4 h4 => ?_
    refine ⟨_, rfl, line_le 2 (by decide), fun q hq => ⟨b, q, _, rfl, h4.bh.bag.same (same_upd hq), bag_ne h4.bh.bag hq, upd_same, List.cons_ne_nil _ _, by show 2 < 1073741824; omega, fun H5 v sb5 hB5 hv => ?_⟩⟩
    obtain ⟨r2, rfl⟩ := role_of2 (x := none) (y := some "boss") hv
    have h5 := h4.bh2 ⟨(SB.of (same_upd hq)).trans sb5, hB5⟩
    dsimp only [gName, List.set]
    refine StI.add (nm := "fade") h5 rfl (StpE.mk ⟨r2, fun _ _ q => ⟨_, rfl, q⟩⟩ (LpE.one (IxE.c (by decide))) (LpE.one (IxE.c (by decide))) (LtE.one (List.mem_singleton.mpr rfl)) (LpE.one (IxE.c (by decide))) (IxE.take1 rfl (by decide) (by decide))) (by decide) fun H6 h6 => ?_
    refine StI.add (nm := "plain") h6 rfl (StpE.mk ⟨some "clerk", fun _ _ q => q⟩ (LpE.one (IxE.c (by decide))) (LpE.one (IxE.c (by decide))) (LtE.one (List.mem_singleton.mpr rfl)) LpE.nil (IxE.c trivial)) (by decide) fun H7 h7 => ?_
    refine StI.add (nm := "well") h7 rfl (StpE.mk ⟨some "boss", fun _ _ q => q⟩ (LpE.one (IxE.c (by decide))) (LpE.one (IxE.c (by decide))) (LtE.one (List.mem_singleton.mpr rfl)) LpE.nil (IxE.c trivial)) (by decide) fun H8 h8 => ?_
    refine ⟨line_le 3 (by decide), fun p1 n1 => ⟨_, rfl, line_le 2 (by decide), fun p2 n2 => ⟨line_le 1 (by decide), fun p3 n3 => ?_⟩⟩⟩
    have s1 := same_upd (o := .tup [V.str "firstx", V.str "mid", V.str "end"]) n1
    have g1 := @upd_same H8 p1 (.tup [V.str "firstx", V.str "mid", V.str "end"])
    have s2 := same_upd (o := .tup [V.str "n", V.int (1 + n)]) n2
    have g2 := @upd_same (upd H8 p1 (.tup [V.str "firstx", V.str "mid", V.str "end"])) p2 (.tup [V.str "n", V.int (1 + n)])
    have s3 := same_upd (o := .tup [V.ref p2]) n3
    have g3 := @upd_same (upd (upd H8 p1 (.tup [V.str "firstx", V.str "mid", V.str "end"])) p2 (.tup [V.str "n", V.int (1 + n)])) p3 (.tup [V.ref p2])
    replace g1 := s3 _ _ (s2 _ _ g1)
    replace g2 := s3 _ _ g2
    have m1 := bag_ne h8.bh.bag n1
    have m2 := bag_ne (h8.bh.bag.same s1) n2
    have m3 := bag_ne ((h8.bh.bag.same s1).same s2) n3
    generalize upd (upd (upd H8 p1 (.tup [V.str "firstx", V.str "mid", V.str "end"])) p2 (.tup [V.str "n", V.int (1 + n)])) p3 (.tup [V.ref p2]) = H9 at s3 g1 g2 g3 ⊢
    have h9 := h8.bh2 (BH.of h8.bh.bag ((s1.trans s2).trans s3))
    obtain ⟨ms, ss, hms, hM, en, _⟩ := id h9.ls
    have hml := hM.length
    have hsl : ss.length = 5 := by rw [← List.length_map (f := (·.nm)), en]; rfl
    refine ⟨_, rfl, _, rfl, b, st, ms, rfl, h9.bh.bag, h9.ne, hms, by omega, fun H10 p4 ys sb8 hB8 n4 h4 hperm => ?_⟩
    refine ⟨p4, _, rfl, .inl ⟨SqL.of h4, fun p5 n5 => ⟨line_le 4 (by decide), fun p6 n6 => ?_⟩⟩⟩
    exact net_fin (ps := ["firstx", "mid", "end"]) (nt := [("n", 1 + n)]) k h9 (dlt_at g1 m1) ⟨[p2], dlt_at g3 m3, .cons (dlt_at g2 m2) .nil⟩ rfl (by decide) (by decide) (by show 1 ≤ 1; omega) (by decide) (by decide) (by decide) (by decide) (by decide) (by decide) hms sb8 hB8 hperm n5 n6
abbrev s__law_net : Stmt := top 57
theorem sc__law_net : FnScope ["bag", "way"] ["bag"] (defScope s__law_net) := ⟨rfl, rfl, rfl, by decide +kernel, rfl, by decide +kernel, by decide +kernel⟩
theorem ok_net {f f__law_take f__law_woven f__law_noted f__law_heaped : Addr} {fd fd1 fd2 fd3 fd4 : FuncData} (F : Fun K "_law_net" "_law_net" s__law_net f fd) (T : Tx mg) (d__law_take : Ok1 P w K mg base CX0 1 "_law_take" ["bag", "many"] sp_take f__law_take fd1) (d__law_woven : Ok1 P w K mg base CX0 4 "_law_woven" ["bag", "many"] sp_woven f__law_woven fd2) (d__law_noted : Ok1 P w K mg base CX0 4 "_law_noted" ["bag"] sp_net f__law_noted fd3) (d__law_heaped : Ok1 P w K mg base CX0 4 "_law_heaped" ["bag"] sp_net f__law_heaped fd4) : FnOk P w K mg base CX0 5 f fd ["bag"] sp_net := by
  refine F.ok sc__law_net (fun vs H Q E h => ?_) (fun cdv A outer s H vs Q E hr h => ?_)
  · obtain ⟨b, rfl, _⟩ := h
    rfl
  · obtain ⟨b, rfl, hB, k⟩ := h
    refine ⟨_, (pss_cons (ps_set (i := 1) sc__law_net.nd rfl (Or.inl rfl) (pe_call d__law_take.ok (hr.mono (by decide)) rfl d__law_take.g d__law_take.kp d__law_take.b .nil pass0 (pa_cons (pv 0) (pa_cons pe_int pa_nil))))
      (pss_cons (ps_if (pt_cmpR op_lt (pv 1) pe_int (nomark _)) (pss_one (ps_ret (pe_call d__law_woven.ok (hr.mono (by decide)) rfl d__law_woven.g d__law_woven.kp d__law_woven.b .nil pass0 (pa_cons (pv 0) (pa_cons (pe_op op_add pe_int (pe_call d__law_take.ok (hr.mono (by decide)) rfl d__law_take.g d__law_take.kp d__law_take.b .nil pass0 (pa_cons (pv 0) (pa_cons pe_int pa_nil)))) pa_nil))))) pss_nil)
      (pss_one (ps_ret (pe_ifExp (pt_cmpR op_eq (pv 1) pe_int (nomark _)) (pe_call d__law_noted.ok (hr.mono (by decide)) rfl d__law_noted.g d__law_noted.kp d__law_noted.b .nil pass0 (pa_cons (pv 0) pa_nil)) (pe_call d__law_heaped.ok (hr.mono (by decide)) rfl d__law_heaped.g d__law_heaped.kp d__law_heaped.b .nil pass0 (pa_cons (pv 0) pa_nil))))))), ?_⟩
    refine ⟨_, rfl, b, 6, rfl, hB, by decide, by decide, fun H1 n sb1 hB1 n0 n1 => ?_⟩
    dsimp only [L2.start, gName, List.set, List.replicate, List.map, List.length]
    refine ⟨_, rfl, _, _, rfl, rfl, _, rfl, ?_⟩
    cases decide (n < 4) with
    | true =>
      exact iteT ⟨_, rfl, _, rfl, b, 4, rfl, hB1, by decide, by decide, fun H2 z sb2 hB2 z0 z1 => ⟨_, _, rfl, rfl, b, 1 + z, rfl, hB2, by omega, by omega, fun H3 v N sb3 hB3 hN hG => k H3 v N ((sb1.trans sb2).trans sb3) hB3 hN hG⟩⟩
    | false =>
      refine iteF ⟨_, rfl, rfl, _, rfl, ?_⟩
      have fin : sp_net ([V.ref b] ++ []) H1 Q E0 := ⟨b, rfl, hB1, fun H3 v N sb3 hB3 hN hG => k H3 v N (sb1.trans sb3) hB3 hN hG⟩
      cases decide (V.int n = V.int 4) with
      | true => exact iteT ⟨_, rfl, fin⟩
      | false => exact iteF ⟨_, rfl, fin⟩
end
end Net
namespace Net
open PySem PySem.Spec PyProof.Rows L2 SDx
def Nn (S : Sta) : Prop := ∀ x ∈ S.1, 0 ≤ x
def NnO (N : NetT) : Prop := ∀ s ∈ N.steps, ∀ q ∈ s.outs, 0 ≤ q.2
theorem sum_nn : ∀ {l : List Int}, (∀ x ∈ l, 0 ≤ x) → 0 ≤ l.sum
  | [], _ => Int.le_refl _
  | x :: l, h => by
    rw [List.sum_cons]
    have h1 := h x (List.mem_cons_self ..)
    have h2 := sum_nn fun y hy => h y (List.mem_cons_of_mem _ hy)
    omega
theorem sum_zero : ∀ {l : List Int}, (∀ x ∈ l, 0 ≤ x) → (decide (l.sum = 0) = !(l.any fun n => decide (n ≠ 0)))
  | [], _ => rfl
  | x :: l, h => by
    have h1 := h x (List.mem_cons_self ..)
    have h2 := sum_nn fun y hy => h y (List.mem_cons_of_mem _ hy)
    have ih := sum_zero fun y hy => h y (List.mem_cons_of_mem _ hy)
    rw [List.sum_cons, List.any_cons]
    by_cases hx : x = 0
    · subst hx
      rw [Int.zero_add, ih]
      simp
    · rw [decide_eq_false (by omega), decide_eq_true hx]
      rfl
theorem sum_app : ∀ (a b : List Int), (a ++ b).sum = a.sum + b.sum
  | [], b => by simp
  | x :: a, b => by
    rw [List.cons_append, List.sum_cons, List.sum_cons, sum_app a b]
    omega
theorem end_eq {S : Sta} (h : Nn S) : endL S = endB S := by
  obtain ⟨l, l2⟩ := S
  unfold endL endB
  dsimp only
  by_cases hl : l.getLast? = some 1
  · rw [decide_eq_true hl, Bool.true_and, Bool.true_and]
    obtain ⟨ys, rfl⟩ := List.getLast?_eq_some_iff.mp hl
    rw [List.dropLast_concat, ← sum_zero fun y hy => h y (List.mem_append_left _ hy), sum_app]
    congr 1
    refine propext ⟨fun e => ?_, fun e => ?_⟩
    · have : ([1] : List Int).sum = 1 := rfl
      omega
    · rw [e]
      rfl
  · rw [decide_eq_false hl]
    rfl
theorem nn_fst (N : NetT) : Nn (fstS N) := fun x hx => by
  rcases List.mem_cons.mp hx with rfl | hx
  · decide
  · rw [List.eq_of_mem_replicate hx]
    decide
theorem lastO_nn : ∀ {c : List (Str × Int)} {k : Str} {z : Int}, (∀ q ∈ c, 0 ≤ q.2) → lastO c k = some z → 0 ≤ z
  | q :: c, k, z, h, e => by
    rw [lastO_cons] at e
    cases hc : lastO c k with
    | some y =>
      rw [hc] at e
      cases (Option.some.inj e)
      exact lastO_nn (fun x hx => h x (List.mem_cons_of_mem _ hx)) hc
    | none =>
      rw [hc] at e
      dsimp only at e
      by_cases hq : q.1 = k
      · rw [if_pos hq] at e
        cases (Option.some.inj e)
        exact h q (List.mem_cons_self ..)
      · rw [if_neg hq] at e
        cases e
theorem cnts_nn {N : NetT} {c : List (Str × Int)} (h : ∀ q ∈ c, 0 ≤ q.2) : ∀ x ∈ cnts N c, 0 ≤ x := fun x hx => by
  obtain ⟨p, _, rfl⟩ := List.mem_map.mp hx
  cases hc : lastO c p with
  | none => exact Int.le_refl _
  | some z => exact lastO_nn h hc
theorem z3_nn : ∀ {a b c : List Int}, enough a b = true → (∀ x ∈ c, 0 ≤ x) → ∀ x ∈ z3 a b c, 0 ≤ x
  | x :: a, y :: b, z :: c, h, hc => by
    unfold enough at h
    rw [List.zip_cons_cons, List.all_cons, Bool.and_eq_true] at h
    have h1 := of_decide_eq_true h.1
    have h2 := hc z (List.mem_cons_self ..)
    dsimp only at h1
    intro u hu
    unfold z3 at hu
    rcases List.mem_cons.mp hu with rfl | hu
    · omega
    · exact z3_nn h.2 (fun v hv => hc v (List.mem_cons_of_mem _ hv)) u hu
  | [], _, _, _, _ => fun x hx => by unfold z3 at hx; cases hx
  | _ :: _, [], _, _, _ => fun x hx => by unfold z3 at hx; cases hx
  | _ :: _, _ :: _, [], _, _ => fun x hx => by unfold z3 at hx; cases hx
theorem led_nn {N : NetT} {S : Sta} {i : Nat} (hN : NnO N) (m : mayI N S i = true) : Nn (ledI N S i) := by
  unfold mayI at m
  unfold ledI
  cases e : N.steps[i]? with
  | none =>
    rw [e] at m
    cases m
  | some s =>
    rw [e] at m
    unfold mayB at m
    rw [Bool.and_eq_true] at m
    exact z3_nn m.2 (cnts_nn (hN s (List.mem_of_getElem? e)))
theorem doab_may {N : NetT} {S : Sta} {i : Nat} : i ∈ doab N S ↔ mayI N S i = true := by
  unfold doab
  rw [List.mem_filter, List.mem_range]
  exact ⟨fun h => h.2, fun h => ⟨mayI_lt h, h⟩⟩
theorem nxts_nn {N : NetT} {S T : Sta} (hN : NnO N) (h : T ∈ nxts N S) : Nn T := by
  obtain ⟨i, hi, rfl⟩ := List.mem_map.mp h
  exact led_nn hN (doab_may.mp hi)
theorem filter_end {l : List WS} (h : ∀ q ∈ l, Nn q.2) : l.filter (fun q => endL q.2) = l.filter (fun q => endB q.2) := List.filter_congr fun q hq => end_eq (h q hq)
theorem wnx_nn {N : NetT} (hN : NnO N) {found : List Sta} {level : List WS} : ∀ q ∈ wnx N found level, Nn q.2 := fun q hq => by
  obtain ⟨r, hr, hq2⟩ := List.mem_flatMap.mp (wnews_mem hq)
  have : q.2 ∈ (stp1 N r).map (·.2) := List.mem_map_of_mem hq2
  rw [stp1_snd] at this
  exact nxts_nn hN this
theorem wbfs_end {N : NetT} (hN : NnO N) : ∀ (n : Nat) (found : List Sta) (level : List WS), (∀ q ∈ level, Nn q.2) → wbfs N endL n found level = wbfs N endB n found level
  | 0, _, _, _ => rfl
  | n + 1, found, level, h => by
    unfold wbfs
    rw [filter_end h]
    by_cases e : level = []
    · rw [if_pos e, if_pos e]
    · rw [if_neg e, if_neg e]
      cases level.filter (fun q => endB q.2) with
      | nil => exact wbfs_end hN n _ _ (wnx_nn hN)
      | cons q r => rfl
theorem way_end {N : NetT} {S : Sta} (hN : NnO N) (h : Nn S) : wayF N endL S = wayF N endB S := wbfs_end hN _ _ _ fun q hq => by
  rw [List.mem_singleton.mp hq]
  exact h
structure MetOk (N : NetT) (M : List Sta) : Prop where
  clo : Clo N M
  fst : fstS N ∈ M
  nn : ∀ S ∈ M, Nn S
  len : M.length ≤ 2000
theorem news_in {seen l : List Sta} {t : Sta} (h : t ∈ l) : t ∈ seen ++ news seen l := by
  induction l generalizing seen with
  | nil => cases h
  | cons x l ih =>
    rw [news_cons]
    by_cases hx : x ∈ seen
    · rw [if_pos hx]
      rcases List.mem_cons.mp h with rfl | h
      · exact List.mem_append_left _ hx
      · exact ih h
    · rw [if_neg hx]
      rcases List.mem_cons.mp h with rfl | h
      · exact List.mem_append_right _ (List.mem_cons_self ..)
      · have := ih (seen := seen ++ [x]) h
        rw [List.append_assoc] at this
        exact this
theorem bfs_ok {N : NetT} (hO : NOk N) (hN : NnO N) : ∀ (n : Nat) (found level M : List Sta), oks N found → (∀ S ∈ found, Nn S) → fstS N ∈ found → found.length ≤ 2000 → (∀ S ∈ level, S ∈ found) → (∀ S ∈ found, S ∈ level ∨ ∀ T ∈ nxts N S, T ∈ found) → bfs N n found level = some M → MetOk N M ∧ ∃ r, M = found ++ r
  | 0, _, _, _, _, _, _, _, _, _, h => by cases h
  | n + 1, found, level, M, h1, h2, h3, h4, h5, h6, h => by
    unfold bfs at h
    by_cases e : level = []
    · rw [if_pos e] at h
      cases (Option.some.inj h)
      subst e
      refine ⟨⟨⟨h1, fun S hS T hT => ?_⟩, h3, h2, h4⟩, [], (List.append_nil _).symm⟩
      rcases h6 S hS with h | h
      · cases h
      · exact h T hT
    · rw [if_neg e] at h
      by_cases hl : (found ++ news found (level.flatMap (nxts N))).length > 2000
      · rw [if_pos hl] at h
        cases h
      · rw [if_neg hl] at h
        have hnw : ∀ T ∈ news found (level.flatMap (nxts N)), ∃ S ∈ level, T ∈ nxts N S := fun T hT => by
          obtain ⟨S, hS, hT⟩ := List.mem_flatMap.mp (news_mem hT)
          exact ⟨S, hS, hT⟩
        obtain ⟨m, r, hr⟩ := bfs_ok hO hN n _ _ M (fun S hS => by
            rcases List.mem_append.mp hS with hS | hS
            · exact h1 S hS
            · obtain ⟨U, hU, hS⟩ := hnw S hS
              exact nxts_ok (h1 U (h5 U hU)) hS) (fun S hS => by
            rcases List.mem_append.mp hS with hS | hS
            · exact h2 S hS
            · obtain ⟨U, hU, hS⟩ := hnw S hS
              exact nxts_nn hN hS) (List.mem_append_left _ h3) (by omega) (fun S hS => List.mem_append_right _ hS) (fun S hS => by
            rcases List.mem_append.mp hS with hS | hS
            · rcases h6 S hS with hS2 | hS2
              · exact .inr fun T hT => news_in (List.mem_flatMap.mpr ⟨S, hS2, hT⟩)
              · exact .inr fun T hT => List.mem_append_left _ (hS2 T hT)
            · exact .inl hS) h
        exact ⟨m, news found (level.flatMap (nxts N)) ++ r, by rw [hr, List.append_assoc]⟩
theorem met_ok {N : NetT} {M : List Sta} (hO : NOk N) (hN : NnO N) (h : metS N = some M) : MetOk N M := by
  refine (bfs_ok hO hN 3000 [fstS N] [fstS N] M ?_ ?_ (List.mem_singleton.mpr rfl) (by show 1 ≤ 2000; omega) (fun S hS => hS) (fun S hS => .inl hS) h).1
  · intro S hS
    rw [List.mem_singleton.mp hS]
    exact SOk.fst hO
  · intro S hS
    rw [List.mem_singleton.mp hS]
    exact nn_fst N
theorem wnews_snd (seen : List Sta) (a : List WS) : (wnews seen a).map (·.2) = news seen (a.map (·.2)) := by
  induction a generalizing seen with
  | nil => rfl
  | cons q a ih =>
    rw [wnews_cons, List.map_cons, news_cons]
    by_cases h : q.2 ∈ seen
    · rw [if_pos h, if_pos h, ih]
    · rw [if_neg h, if_neg h, List.map_cons, ih]
theorem stp_flat (N : NetT) (lvl : List WS) : (lvl.flatMap (stp1 N)).map (·.2) = (lvl.map (·.2)).flatMap (nxts N) := by
  induction lvl with
  | nil => rfl
  | cons q l ih => rw [List.flatMap_cons, List.map_append, List.map_cons, List.flatMap_cons, ih, stp1_snd]
theorem way_find {N : NetT} (hO : NOk N) (hN : NnO N) {M : List Sta} {S : Sta} (hS : S ∈ M) : ∀ (n m : Nat) (found level : List Sta) (lvl : List WS), bfs N n found level = some M → lvl.map (·.2) = level → (S ∈ found → S ∈ level) → M.length < found.length + m → (∃ r, M = found ++ r) →
    ∃ l, wbfs N (fun T => decide (T = S)) m found lvl = some l
  | 0, _, _, _, _, h, _, _, _, _ => by cases h
  | n + 1, m, found, level, lvl, h, hl, hf, hm, hr => by
    obtain ⟨r, hr⟩ := hr
    have hfl : found.length ≤ M.length := by rw [hr, List.length_append]; omega
    obtain ⟨m, rfl⟩ : ∃ m', m = m' + 1 := ⟨m - 1, by omega⟩
    unfold bfs at h
    unfold wbfs
    by_cases e : level = []
    · rw [if_pos e] at h
      cases (Option.some.inj h)
      have := hf hS
      rw [e] at this
      cases this
    · rw [if_neg e] at h
      have e2 : lvl ≠ [] := fun z => e (by rw [← hl, z]; rfl)
      rw [if_neg e2]
      cases hg : lvl.filter (fun q => decide (q.2 = S)) with
      | cons q rr => exact ⟨q.1, rfl⟩
      | nil =>
        have hSl : S ∉ level := fun hS => by
          rw [← hl] at hS
          obtain ⟨q, hq, e⟩ := List.mem_map.mp hS
          have : q ∈ lvl.filter (fun q => decide (q.2 = S)) := List.mem_filter.mpr ⟨hq, decide_eq_true e⟩
          rw [hg] at this
          cases this
        have hSf : S ∉ found := fun z => hSl (hf z)
        by_cases hz : (found ++ news found (level.flatMap (nxts N))).length > 2000
        · rw [if_pos hz] at h
          cases h
        rw [if_neg hz] at h
        have hw : (wnx N found lvl).map (·.2) = news found (level.flatMap (nxts N)) := by
          unfold wnx
          rw [wnews_snd, stp_flat, hl]
        dsimp only
        rw [hw]
        have hpre : ∃ r, M = (found ++ news found (level.flatMap (nxts N))) ++ r := by
          clear hm hf hSl hSf hg hw hz hfl hr r
          generalize found ++ news found (level.flatMap (nxts N)) = fo at h
          generalize news found (level.flatMap (nxts N)) = le at h
          clear hl e e2 lvl
          induction n generalizing fo le with
          | zero => cases h
          | succ n ih =>
            unfold bfs at h
            by_cases e : le = []
            · rw [if_pos e] at h
              exact ⟨[], by rw [List.append_nil]; exact (Option.some.inj h).symm⟩
            · rw [if_neg e] at h
              by_cases hz : (fo ++ news fo (le.flatMap (nxts N))).length > 2000
              · rw [if_pos hz] at h
                cases h
              · rw [if_neg hz] at h
                obtain ⟨r, hr⟩ := ih _ _ h
                exact ⟨news fo (le.flatMap (nxts N)) ++ r, by rw [hr, List.append_assoc]⟩
        have hne : news found (level.flatMap (nxts N)) ≠ [] := fun z => by
          rw [z, List.append_nil] at h
          cases n with
          | zero => cases h
          | succ n =>
            unfold bfs at h
            rw [if_pos rfl] at h
            cases (Option.some.inj h)
            exact hSf hS
        have hpos : 1 ≤ (news found (level.flatMap (nxts N))).length := by
          cases hq : news found (level.flatMap (nxts N)) with
          | nil => exact absurd hq hne
          | cons _ _ => rw [List.length_cons]; omega
        exact way_find hO hN hS n m _ _ _ h hw (fun z => by
          rcases List.mem_append.mp z with z | z
          · exact absurd z hSf
          · exact z) (by rw [List.length_append]; omega) hpre
theorem way_met {N : NetT} {M : List Sta} {S : Sta} (hO : NOk N) (hN : NnO N) (h : metS N = some M) (hS : S ∈ M) (hl : M.length ≤ 200) : ∃ l, wayF N (fun T => decide (T = S)) (fstS N) = some l := by
  refine way_find hO hN hS 3000 300 [fstS N] [fstS N] [([], fstS N)] h rfl (fun z => z) (by show M.length < 1 + 300; omega) ?_
  obtain ⟨_, r, hr⟩ := bfs_ok hO hN 3000 [fstS N] [fstS N] M (fun S hS => by rw [List.mem_singleton.mp hS]; exact SOk.fst hO) (fun S hS => by rw [List.mem_singleton.mp hS]; exact nn_fst N) (List.mem_singleton.mpr rfl) (by show 1 ≤ 2000; omega) (fun S hS => hS) (fun S hS => .inl hS) h
  exact ⟨r, hr⟩
theorem nmAt_of {N : NetT} {i : Nat} {s : Stp} (h : N.steps[i]? = some s) : nmAt N i = s.nm := by
  unfold nmAt
  rw [h]
theorem isNm_iff {N : NetT} {z : Str} {i : Nat} (hi : i < N.steps.length) : isNm N (some z) i = decide (nmAt N i = z) := by
  have h := List.getElem?_eq_getElem hi
  rw [isNm_some h, nmAt_of h]
theorem names_at (N : NetT) {i : Nat} (hi : i < N.steps.length) : (N.steps.map (·.nm))[i]? = some (nmAt N i) := by
  have h := List.getElem?_eq_getElem hi
  rw [List.getElem?_map, h, nmAt_of h]
  rfl
theorem filter_range_one {p : Nat → Bool} {n i : Nat} (hi : i < n) (h : p i = true) (u : ∀ j, j < n → p j = true → j = i) : (List.range n).filter p = [i] := by
  induction n with
  | zero => omega
  | succ n ih =>
    rw [List.range_succ, List.filter_append]
    by_cases e : i = n
    · subst e
      have : (List.range i).filter p = [] := List.filter_eq_nil_iff.mpr fun j hj hp => by
        have h1 := List.mem_range.mp hj
        have := u j (by omega) hp
        omega
      rw [this, List.filter_cons, if_pos h]
      rfl
    · have hp : ¬ p n = true := fun z => by
        have := u n (by omega) z
        omega
      rw [ih (by omega) (fun j hj => u j (by omega)), List.filter_cons, if_neg hp]
      rfl
theorem step_nm {N : NetT} (hd : (N.steps.map (·.nm)).Nodup) {i : Nat} (hi : i < N.steps.length) : stepO N (some (nmAt N i)) = some i := by
  unfold stepO nameds
  rw [filter_range_one hi (by rw [isNm_iff hi]; exact decide_eq_true rfl) (fun j hj hp => by
    rw [isNm_iff hj] at hp
    have e := of_decide_eq_true hp
    exact (List.getElem?_inj (by rw [List.length_map]; exact hj) hd).mp (by rw [names_at N hj, names_at N hi, e]))]
  rfl
theorem step_none (N : NetT) : stepO N none = none := by
  unfold stepO nameds
  rw [List.filter_eq_nil_iff.mpr fun j _ hp => by rw [isNm_none] at hp; cases hp]
  rfl
theorem step_no {N : NetT} {z : Str} (h : z ∉ N.steps.map (·.nm)) : stepO N (some z) = none := by
  unfold stepO nameds
  rw [List.filter_eq_nil_iff.mpr fun j hj hp => by
    have hl := List.mem_range.mp hj
    rw [isNm_iff hl] at hp
    exact h (List.mem_of_getElem? (i := j) (by rw [names_at N hl, of_decide_eq_true hp]))]
  rfl
def nmsO (N : NetT) (l : List Nat) : List (Option Str) := l.map fun i => some (nmAt N i)
theorem nmsO_v (N : NetT) (l : List Nat) : (nmsO N l).map nmV = namesV N l := by
  unfold nmsO namesV
  rw [List.map_map, List.map_map]
  rfl
inductive Led (N : NetT) : Sta → List Nat → List Sta → Sta → Prop
  | nil (S : Sta) : Led N S [] [S] S
  | cons {S T : Sta} {i : Nat} {l : List Nat} {Ss : List Sta} : mayI N S i = true → Led N (ledI N S i) l Ss T → Led N S (i :: l) (S :: Ss) T
theorem Led.snoc {N : NetT} {S T : Sta} {l : List Nat} {Ss : List Sta} {i : Nat} (h : Led N S l Ss T) (m : mayI N T i = true) : Led N S (l ++ [i]) (Ss ++ [ledI N T i]) (ledI N T i) := by
  induction h with
  | nil S => exact .cons m (.nil _)
  | cons m1 _ ih => exact .cons m1 (ih m)
theorem Led.len {N : NetT} {S T : Sta} {l : List Nat} {Ss : List Sta} (h : Led N S l Ss T) : Ss.length = l.length + 1 := by
  induction h with
  | nil S => rfl
  | cons _ _ ih => rw [List.length_cons, List.length_cons, ih]
theorem Led.last {N : NetT} {S T : Sta} {l : List Nat} {Ss : List Sta} (h : Led N S l Ss T) : Ss.getLast? = some T := by
  induction h with
  | nil S => rfl
  | cons _ t ih =>
    cases t with
    | nil _ => rfl
    | cons _ _ => exact ih
theorem Led.lt {N : NetT} {S T : Sta} {l : List Nat} {Ss : List Sta} (h : Led N S l Ss T) : ∀ i ∈ l, i < N.steps.length := by
  induction h with
  | nil S => intro i hi; cases hi
  | cons m _ ih =>
    intro i hi
    rcases List.mem_cons.mp hi with rfl | hi
    · exact mayI_lt m
    · exact ih i hi
theorem Led.all {N : NetT} {S T : Sta} {l : List Nat} {Ss : List Sta} (h : Led N S l Ss T) (p : Sta → Prop) (h0 : p S) (hs : ∀ S i, p S → mayI N S i = true → p (ledI N S i)) : p T ∧ ∀ U ∈ Ss, p U := by
  induction h with
  | nil S => exact ⟨h0, fun U hU => by rw [List.mem_singleton.mp hU]; exact h0⟩
  | cons m _ ih =>
    have := ih (hs _ _ h0 m)
    refine ⟨this.1, fun U hU => ?_⟩
    rcases List.mem_cons.mp hU with rfl | hU
    · exact h0
    · exact this.2 U hU
theorem go_led {N : NetT} (hd : (N.steps.map (·.nm)).Nodup) {S T : Sta} {l : List Nat} {Ss : List Sta} (h : Led N S l Ss T) (os : List (Option Str)) : ∃ pre, Ss = pre ++ [T] ∧ goF N S (nmsO N l ++ os) = (pre ++ (goF N T os).1, (goF N T os).2) := by
  induction h with
  | nil S => exact ⟨[], rfl, rfl⟩
  | cons m _ ih =>
    obtain ⟨pre, rfl, e⟩ := ih
    refine ⟨_ :: pre, rfl, ?_⟩
    show goF N _ (some (nmAt N _) :: (nmsO N _ ++ os)) = _
    rw [goF_go (step_nm hd (mayI_lt m)) m, e]
    rfl
theorem go_run {N : NetT} (hd : (N.steps.map (·.nm)).Nodup) {S T : Sta} {l : List Nat} {Ss : List Sta} (h : Led N S l Ss T) : goF N S (nmsO N l) = (Ss, none) := by
  obtain ⟨pre, rfl, e⟩ := go_led hd h []
  rw [List.append_nil] at e
  rw [e]
  rfl
theorem go_no {N : NetT} (hd : (N.steps.map (·.nm)).Nodup) {S T : Sta} {l : List Nat} {Ss : List Sta} (h : Led N S l Ss T) {o : Option Str} {os : List (Option Str)} (ho : stepO N o = none) : goF N S (nmsO N l ++ o :: os) = (Ss, some (.nn o)) := by
  obtain ⟨pre, rfl, e⟩ := go_led hd h (o :: os)
  rw [e, goF_no ho]
theorem go_bad {N : NetT} (hd : (N.steps.map (·.nm)).Nodup) {S T : Sta} {l : List Nat} {Ss : List Sta} (h : Led N S l Ss T) {i : Nat} (hi : i < N.steps.length) (m : mayI N T i = false) : goF N S (nmsO N l ++ [some (nmAt N i)]) = (Ss, some .st) := by
  obtain ⟨pre, rfl, e⟩ := go_led hd h [some (nmAt N i)]
  rw [e, goF_bad (step_nm hd hi) m]
end Net
namespace Net
open PySem PySem.Spec PyProof.Rows L2 SDx NetR SumT
section
variable {P : Program} {w : World} {K : PySem.W.Frag} {mg : Str → Option Value} {base : Heap}
def sp_any : Sp := fun vs H Q _ => ∃ (b : Addr), vs = [.ref b] ∧ BagI H b ∧ ∀ H' v N, SB b H H' → BagI H' b → IsNet (dlt H' b) v N → Good N → Q v H'
abbrev s__law_any_net : Stmt := top 58
theorem sc__law_any_net : FnScope ["bag", "net", "places", "steps", "turn", "ins", "outs", "fresh"] ["bag"] (defScope s__law_any_net) := ⟨rfl, rfl, rfl, by decide +kernel, rfl, by decide +kernel, by decide +kernel⟩
theorem ok_any {f f__law_take f__law_some f__law_step f__law_role f__law_net : Addr} {fd fd1 fd2 fd3 fd4 fd5 : FuncData} (F : Fun K "_law_any_net" "_law_any_net" s__law_any_net f fd) (T : Tx mg) (d__law_take : Ok1 P w K mg base CX0 1 "_law_take" ["bag", "many"] sp_take f__law_take fd1) (d__law_some : Ok1 P w K mg base CX0 2 "_law_some" ["bag", "things"] sp_some f__law_some fd2) (d__law_step : Ok1 P w K mg base CX0 1 "_law_step" ["name", "role", "inputs", "outputs", "tests", "sets", "days"] sp_lstep f__law_step fd3) (d__law_role : Ok1 P w K mg base CX0 3 "_law_role" ["bag"] sp_role f__law_role fd4) (d__law_net : Ok1 P w K mg base CX0 5 "_law_net" ["bag"] sp_net f__law_net fd5) : FnOk P w K mg base CX0 6 f fd ["bag"] sp_any := by
  refine F.ok sc__law_any_net (fun vs H Q E h => ?_) (fun cdv A outer s H vs Q E hr h => ?_)
  · obtain ⟨b, rfl, _⟩ := h
    rfl
  · obtain ⟨b, rfl, hB, k⟩ := h
    refine ⟨_, (pss_cons (ps_set (i := 1) sc__law_any_net.nd rfl (Or.inl rfl) (pe_call d__law_net.ok (hr.mono (by decide)) rfl d__law_net.g d__law_net.kp d__law_net.b .nil pass0 (pa_cons (pv 0) pa_nil)))
      (pss_cons (ps_par (i := 2) (j := 3) (by rfl) sc__law_any_net.nd rfl rfl (by decide) rfl rfl (pa_cons (pe_ix ix_tup (pv 1) pe_int (fun _ _ => rfl)) (pa_cons (pe_callTy call_list_of (by rfl) T.n_list (by decide +kernel) (pa_cons (pe_ix ix_tup (pv 1) pe_int (fun _ _ => rfl)) pa_nil)) pa_nil)) (by rfl))
      (pss_cons (ps_for PassesOwn.never rfl (pi_range1 (by rfl) T.n_range (pa_cons (pe_call d__law_take.ok (hr.mono (by decide)) rfl d__law_take.g d__law_take.kp d__law_take.b .nil pass0 (pa_cons (pv 0) (pa_cons pe_int pa_nil))) pa_nil)) (pg_name (i := 4) sc__law_any_net.nd rfl (Or.inl rfl)) (pss_one (ps_if (PW.pt (pw_and (pt_cmpR op_eq (pe_call d__law_take.ok (hr.mono (by decide)) rfl d__law_take.g d__law_take.kp d__law_take.b .nil pass0 (pa_cons (pv 0) (pa_cons pe_int pa_nil))) pe_int (nomark _)) (pw_and1 (pt_cmpR op_gt (pe_callB call_len (by rfl) T.n_len (by decide +kernel) (pa_cons (pv 3) pa_nil)) pe_int (nomark _))))) (pss_one (ps_expr (pe_bm PySem.F.plainAttrs_list PySem.F.slot_list_pop PySem.F.type_list_pop mt_popAt (pv 3) (pa_cons (pe_call d__law_take.ok (hr.mono (by decide)) rfl d__law_take.g d__law_take.kp d__law_take.b .nil pass0 (pa_cons (pv 0) (pa_cons (pe_callB call_len (by rfl) T.n_len (by decide +kernel) (pa_cons (pv 3) pa_nil)) pa_nil))) pa_nil)))) (pss_cons (ps_set (i := 5) sc__law_any_net.nd rfl (Or.inl rfl) (pe_lst (pa_cons (pe_tup (pa_cons (pe_call d__law_some.ok (hr.mono (by decide)) rfl d__law_some.g d__law_some.kp d__law_some.b .nil pass0 (pa_cons (pv 0) (pa_cons (pe_callTy call_list_of (by rfl) T.n_list (by decide +kernel) (pa_cons (pe_slice sl_tupA (pv 2) po_none (po_some (pe_un un_neg pe_int))) pa_nil)) pa_nil))) (pa_cons (pe_op op_add pe_int (pe_callTy call_int1 (by rfl) T.n_int (by decide +kernel) (pa_cons (pe_cmpR op_eq (pe_call d__law_take.ok (hr.mono (by decide)) rfl d__law_take.g d__law_take.kp d__law_take.b .nil pass0 (pa_cons (pv 0) (pa_cons pe_int pa_nil))) pe_int (nomark _)) pa_nil))) pa_nil))) pa_nil)))
      (pss_cons (ps_set (i := 6) sc__law_any_net.nd rfl (Or.inl rfl) (pe_lst (pa_cons (pe_tup (pa_cons (pe_call d__law_some.ok (hr.mono (by decide)) rfl d__law_some.g d__law_some.kp d__law_some.b .nil pass0 (pa_cons (pv 0) (pa_cons (pe_callTy call_list_of (by rfl) T.n_list (by decide +kernel) (pa_cons (pe_slice sl_tupA (pv 2) (po_some pe_int) po_none) pa_nil)) pa_nil))) (pa_cons (pe_op op_add pe_int (pe_callTy call_int1 (by rfl) T.n_int (by decide +kernel) (pa_cons (pe_cmpR op_eq (pe_call d__law_take.ok (hr.mono (by decide)) rfl d__law_take.g d__law_take.kp d__law_take.b .nil pass0 (pa_cons (pv 0) (pa_cons pe_int pa_nil))) pe_int (nomark _)) pa_nil))) pa_nil))) pa_nil)))
      (pss_cons (ps_set (i := 7) sc__law_any_net.nd rfl (Or.inl rfl) (pe_call d__law_step.ok (hr.mono (by decide)) rfl d__law_step.g d__law_step.kp d__law_step.b .nil pass0 (pa_cons (pe_op op_add_str pe_str (pe_ix ix_str pe_str (pv 4) (fun _ _ => rfl))) (pa_cons (pe_call d__law_role.ok (hr.mono (by decide)) rfl d__law_role.g d__law_role.kp d__law_role.b .nil pass0 (pa_cons (pv 0) pa_nil)) (pa_cons (pv 5) (pa_cons (pv 6) (pa_cons (pe_lst pa_nil) (pa_cons (pe_lst pa_nil) (pa_cons pe_int pa_nil)))))))))
      (pss_one (ps_expr (pe_bm PySem.F.plainAttrs_list PySem.F.slot_list_insert PySem.F.type_list_insert mt_insert (pv 3) (pa_cons (pe_call d__law_take.ok (hr.mono (by decide)) rfl d__law_take.g d__law_take.kp d__law_take.b .nil pass0 (pa_cons (pv 0) (pa_cons (pe_op op_add (pe_callB call_len (by rfl) T.n_len (by decide +kernel) (pa_cons (pv 3) pa_nil)) pe_int) pa_nil))) (pa_cons (pv 7) pa_nil)))))))))))
      (pss_one (ps_ret (pe_tup (pa_cons (pe_ix ix_tup (pv 1) pe_int (fun _ _ => rfl)) (pa_cons (pv 2) (pa_cons (pe_ix ix_tup (pv 1) pe_int (fun _ _ => rfl)) (pa_cons (pe_callTy call_tuple_of (by rfl) T.n_tuple (by decide +kernel) (pa_cons (pv 3) pa_nil)) pa_nil)))))))))), ?_⟩
    have hbig := sl_big
    refine ⟨_, rfl, b, rfl, hB, fun H1 v N0 sb1 hB1 hv hG => ?_⟩
    obtain ⟨ok0, np2, np20⟩ : NOk N0 ∧ 2 ≤ N0.places.length ∧ N0.places.length ≤ 20 := ⟨hG.g.ok, hG.g.p2, hG.g.p20⟩
    have hP0 := AnP.of hG
    obtain ⟨na, pp, pn, pt, sx, rfl, h0, h1, h2, h3, h4⟩ := hv
    have hsl := h4.length
    have hss := hG.s10
    refine ⟨_, rfl, na, _, 1, _, rfl, rfl, SqT.of (dlt_same _ _ _ _ h0), rfl, _, rfl, na, _, 3, _, rfl, rfl, SqT.of (dlt_same _ _ _ _ h0), rfl, pt, sx, rfl, .inr (SqT.of (dlt_same _ _ _ _ h3)), fun st nst => ⟨_, _, rfl, ?_⟩⟩
    have s2 := same_upd (o := .lst sx) nst
    have g2 := @upd_same H1 st (.lst sx)
    have nsb := bag_ne hB1 nst
    have hst0 : H st = none := sb1.free nst nsb
    generalize upd H1 st (.lst sx) = H2 at s2 g2 ⊢
    have bh2 : BH b H H2 := (BH.mk sb1 hB1).same s2
    have d2 := dlt_mono (b := b) s2
    have np : Np (dlt H2 b) na pp pn pt N0 := ⟨d2 _ _ h0, d2 _ _ h1, h2.same d2⟩
    replace h4 := pm h4 fun _ _ z => IsStp.same z d2
    dsimp only [L2.start, gName, List.set, List.replicate, List.map, List.length]
    refine seq_join (t := tFor _ _ _) (fun σ' H' => ∃ i, i ≤ 2 ∧ AnI H b na pp pn pt st N0 i σ' H') (fun D hD => ?_) ?_
    · refine ⟨_, rfl, b, 3, rfl, bh2.bag, by decide, by decide, fun H3 m sb3 hB3 m0 m3 => ⟨m, rfl, by omega, by omega, for_range (lo := 0) (n := m.toNat) (fun i σ' H' => AnI H b na pp pn pt st N0 i σ' H') ?_ ?_ ?_⟩⟩
      · exact ⟨none, none, none, none, sx, N0.steps, rfl, bh2.trans ⟨sb3, hB3⟩, sb3.at_ g2 nsb, np.sk (SK.of sb3.s), pm h4 fun _ _ z => IsStp.same z sb3.s, hP0⟩
      · rintro i σ' H4 hi ⟨c4, c5, c6, c7, ms, ss, rfl, bh4, hst, np4, hM, hA⟩
        have hi2 : i < 2 := by omega
        have hml := hM.length
        have ha1 := hA.l1
        have ha2 := hA.l2
        rw [show (0 : Int) + ((i : Nat) : Int) = ((i : Nat) : Int) from Int.zero_add _]
        dsimp only [gName, List.set]
        refine tIf_and2 (R := fun H5 => BH b H4 H5) (x := decide (1 < ms.length)) ?_ ?_ ?_ ?_
        · exact fun Q q => ⟨_, rfl, b, 3, rfl, bh4.bag, by decide, by decide, fun H5 z sb5 hB5 _ _ => ⟨rfl, _, rfl, q _ _ ⟨sb5, hB5⟩⟩⟩
        · intro H5 Q bh5 q
          refine ⟨_, rfl, .ref st, ms.length, rfl, .inl ⟨_, SqL.of (bh5.sb.at_ hst nsb), rfl⟩, _, _, rfl, rfl, _, rfl, ?_⟩
          have e : decide ((1 : Int) < ((ms.length : Nat) : Int)) = decide (1 < ms.length) := by
            congr 1
            exact propext ⟨fun z => by omega, fun z => by omega⟩
          rw [e]
          exact q
        · intro hx H5 bh5
          have hx := of_decide_eq_true hx
          have hst5 := bh5.sb.at_ hst nsb
          refine ⟨_, rfl, .inl ⟨rfl, _, SqL.of hst5⟩, _, rfl, _, rfl, .ref st, ms.length, rfl, .inl ⟨_, SqL.of hst5, rfl⟩, b, _, rfl, bh5.bag, by omega, by omega, fun H6 n sb6 hB6 n0 n1 => ?_⟩
          have b6 := bh5.trans ⟨sb6, hB6⟩
          have hst6 := sb6.at_ hst5 nsb
          obtain ⟨j, rfl⟩ : ∃ j : Nat, n = (j : Nat) := ⟨n.toNat, by omega⟩
          have hj : j < ms.length := by omega
          refine ⟨st, ms, _, j, _, rfl, rfl, hst6, by omega, by omega, seq_nat hj, List.getElem?_eq_getElem hj, ?_⟩
          exact an_upd hB hst0 (bh4.trans b6) hst6 (np4.sk (SK.of b6.at_)) (paired_erase (pm hM fun _ _ z => IsStp.same z b6.at_) j) (hA.pop (by omega) (by omega))
        · intro H5 bh5
          refine any_pair (lo := none) (hi := some (-1)) (ys := N0.places.dropLast) bh5.bag (np4.sk (SK.of bh5.at_)).p rfl rfl (fun _ _ q => q) (fun _ _ q => ⟨_, rfl, _, rfl, q⟩) (by rw [cut_init, List.map_dropLast]) (fun z => ?_) (by rw [List.length_dropLast]; omega) (IxE.flag rfl (by decide) (by decide)) fun H6 p5 c5 b6 o5 l5 => ?_
          · have := congrArg List.length z
            rw [List.length_dropLast, List.length_nil] at this
            omega
          have b56 := bh5.trans b6
          dsimp only [gName, List.set]
          refine any_pair (lo := some 1) (hi := none) (ys := N0.places.drop 1) b6.bag (np4.sk (SK.of b56.at_)).p rfl rfl (fun _ _ q => ⟨_, rfl, q⟩) (fun _ _ q => q) (by rw [show (some (1 : Int)) = some ((1 : Nat) : Int) from rfl, cut_drop, List.map_drop]) (fun z => ?_) (by rw [List.length_drop]; omega) (IxE.flag rfl (by decide) (by decide)) fun H7 p6 c6 b7 o6 l6 => ?_
          · have := congrArg List.length z
            rw [List.length_drop, List.length_nil] at this
            omega
          dsimp only [gName, List.set]
          refine ⟨_, rfl, "ab", ((i : Nat) : Int), _, rfl, rfl, line_le 2 (by decide), ab_at hi2, _, _, rfl, rfl, line_le 4 (by decide), _, rfl, b, rfl, b7.bag, fun H8 rv sb8 hB8 => ⟨_, rfl, _, rfl, Nat.zero_le _, fun q11 n11 => ⟨Nat.zero_le _, fun q12 n12 => ?_⟩⟩⟩
          have s11 := same_upd (o := .lst []) n11
          have s12 := same_upd (o := .lst []) n12
          have g12 := @upd_same (upd H8 q11 (.lst [])) q12 (.lst [])
          have g11 := s12 _ _ (@upd_same H8 q11 (.lst []))
          generalize upd (upd H8 q11 (.lst [])) q12 (.lst []) = H9 at s12 g11 g12 ⊢
          have b8 : BH b H7 H8 := ⟨sb8, hB8⟩
          have b9 := b8.same (s11.trans s12)
          have l5' := (l5.same (b7.trans b9).at_).same (dlt_same _ _)
          have l6' := (l6.same b9.at_).same (dlt_same _ _)
          refine ⟨newN i, rv, p5, p6, q11, q12, c5, c6, [], [], 2, rfl, l5', l6', ⟨[], g11, .nil⟩, ⟨[], g12, .nil⟩, nd_le1 (by rw [List.length_map]; exact o5.1), nd_le1 (by rw [List.length_map]; exact o6.1), by decide, by decide, fun H10 p s3 s10 hS e1 e2 e3 e4 e5 => ?_⟩
          have b10 := ((b56.trans b7).trans b9).same s10
          have hst10 := b10.sb.at_ hst nsb
          dsimp only [gName, List.set]
          refine ⟨_, rfl, .inl ⟨rfl, _, SqL.of hst10⟩, _, rfl, _, rfl, .ref st, ms.length, rfl, .inl ⟨_, SqL.of hst10, rfl⟩, _, _, rfl, rfl, b, _, rfl, b10.bag, by omega, by omega, fun H11 n sb11 hB11 n0 n1 => ?_⟩
          have b11 := b10.trans ⟨sb11, hB11⟩
          have hst11 := sb11.at_ hst10 nsb
          refine ⟨_, rfl, st, ms, n, _, rfl, rfl, hst11, small (by omega), n0, by omega, ?_⟩
          have hM11 := pm hM fun _ _ z => IsStp.same z b11.at_
          obtain ⟨xb, hxb⟩ := bag_at b10.bag
          have hS11 : IsStp (dlt H11 b) (.ref p) s3 := (hS.sk fun a o e t => dlt_at e fun z => by
            rw [z, hxb] at e
            cases e
            rcases t with ⟨_, w⟩ | ⟨_, _, w⟩ <;> cases w).same sb11.s
          exact an_upd hB hst0 (bh4.trans b11) hst11 (np4.sk (SK.of b11.at_)) (paired_app (paired_add (paired_take hM11 _) hS11) (paired_drop hM11 _)) (hA.put hi2 e1 (fun q hq => o6.2 q (e3.mem_iff.mp hq)) e4 (by rw [e2.length_eq]; exact o5.1) (by rw [e3.length_eq]; exact o6.1) e5)
      · exact fun σ' H' h => hD _ _ ⟨_, by omega, h⟩
    · rintro σ' H3 ⟨i, hi2, c4, c5, c6, c7, ms, ss, rfl, bh3, hst, np3, hM, hA⟩
      have hml := hM.length
      have ha2 := hA.l2
      refine ⟨_, rfl, na, _, 0, _, rfl, rfl, SqT.of (dlt_same _ _ _ _ np3.a), rfl, _, rfl, _, rfl, na, _, 2, _, rfl, rfl, SqT.of (dlt_same _ _ _ _ np3.a), rfl, _, rfl, st, ms, rfl, .inl ⟨SqL.of hst, fun p4 n4 => ⟨line_le 4 (by decide), fun p5 n5 => ?_⟩⟩⟩
      have s4 := same_upd (o := .tup ms) n4
      have g4 := @upd_same H3 p4 (.tup ms)
      have s5 := same_upd (o := .tup [V.str N0.nm, .ref pp, .ref pn, .ref p4]) n5
      have g5 := @upd_same (upd H3 p4 (.tup ms)) p5 (.tup [V.str N0.nm, .ref pp, .ref pn, .ref p4])
      replace g4 := s5 _ _ g4
      have m4 := bag_ne bh3.bag n4
      have m5 := bag_ne (bh3.bag.same s4) n5
      have b5 := bh3.same (s4.trans s5)
      have sd := dlt_mono (b := b) (s4.trans s5)
      exact k _ (.ref p5) ⟨N0.nm, N0.places, N0.notes, ss⟩ b5.sb b5.bag ⟨p5, pp, pn, p4, ms, rfl, dlt_at g5 m5, sd _ _ np3.p, np3.n.same sd, dlt_at g4 m4, pm hM fun _ _ z => IsStp.same z sd⟩ (hA.good hi2 np2 np20 ok0.nt)
abbrev s__law_run : Stmt := top 59
theorem sc__law_run : FnScope ["bag", "net", "many", "state", "way", "states", "turn", "some", "index"] ["bag", "net", "many"] (defScope s__law_run) := ⟨rfl, rfl, rfl, by decide +kernel, rfl, by decide +kernel, by decide +kernel⟩
def sp_run : Sp := fun vs H Q _ => ∃ (b : Addr) (v : V) (m : Int) (N : NetT), vs = [.ref b, v, .int m] ∧ BagI H b ∧ IsNet (dlt H b) v N ∧ NOk N ∧ 0 ≤ m ∧ m ≤ 8 ∧ ∀ H' p t sl l T (A : AS), BH b H H' → dlt H' b p = some (.tup [.ref t, .ref sl]) → dlt H' b t = some (.tup (intsV l)) → dlt H' b sl = some (.lst (rfs A)) → Sts (dlt H' b) A → Led N (fstS N) l (sts A) T → l.length ≤ 8 → Q (.ref p) H'
def RnI (H0 : Hp) (b sl : Addr) (v : V) (m : Int) (N : NetT) (i : Nat) (σ : L2.St) (H : Hp) : Prop := ∃ (sa t : Addr) (A : AS) (l : List Nat) (T : Sta) (c6 c7 c8 : Option V), σ = [some (.ref b), some v, some (.int m), some (.ref sa), some (.ref t), some (.ref sl), c6, c7, c8] ∧ BH b H0 H ∧ H sl = some (.lst (rfs A)) ∧ Sts (dlt H b) A ∧ dlt H b t = some (.tup (intsV l)) ∧ IsS (dlt H b) sa T ∧ IsNet (dlt H b) v N ∧ Led N (fstS N) l (sts A) T ∧ l.length ≤ i ∧ SOk N T
theorem ok_run {f f__law_some f__law_first f__law_doable f__law_led : Addr} {fd fd1 fd2 fd3 fd4 : FuncData} (F : Fun K "_law_run" "_law_run" s__law_run f fd) (T : Tx mg) (d__law_some : Ok1 P w K mg base CX0 2 "_law_some" ["bag", "things"] sp_some f__law_some fd1) (d__law_first : Ok1 P w K mg base CX0 1 "_law_first" ["net"] sp_first f__law_first fd2) (d__law_doable : Ok1 P w K mg base CX0 3 "_law_doable" ["net", "state"] sp_ldoable f__law_doable fd3) (d__law_led : Ok1 P w K mg base CX0 2 "_law_led" ["net", "state", "index"] sp_behind f__law_led fd4) : FnOk P w K mg base CX0 4 f fd ["bag", "net", "many"] sp_run := by
  refine F.ok sc__law_run (fun vs H Q E h => ?_) (fun cdv A outer s H vs Q E hr h => ?_)
  · obtain ⟨b, v, m, N, rfl, _⟩ := h
    rfl
  · obtain ⟨b, v, m, N, rfl, hB, hv, hN, hm0, hm8, k⟩ := h
    refine ⟨_, (pss_cons (ps_par3 (i := 3) (j := 4) (l := 5) (by rfl) sc__law_run.nd rfl rfl rfl (by decide) (by decide) (by decide) rfl rfl rfl (pa_cons (pe_call d__law_first.ok (hr.mono (by decide)) rfl d__law_first.g d__law_first.kp d__law_first.b .nil pass0 (pa_cons (pv 1) pa_nil)) (pa_cons (pe_tup pa_nil) (pa_cons (pe_lst (pa_cons (pe_call d__law_first.ok (hr.mono (by decide)) rfl d__law_first.g d__law_first.kp d__law_first.b .nil pass0 (pa_cons (pv 1) pa_nil)) pa_nil)) pa_nil))) (by rfl))
      (pss_cons (ps_for PassesOwn.never rfl (pi_range1 (by rfl) T.n_range (pa_cons (pv 2) pa_nil)) (pg_name (i := 6) sc__law_run.nd rfl (Or.inl rfl)) (pss_cons (ps_set (i := 7) sc__law_run.nd rfl (Or.inl rfl) (pe_call d__law_doable.ok (hr.mono (by decide)) rfl d__law_doable.g d__law_doable.kp d__law_doable.b .nil pass0 (pa_cons (pv 1) (pa_cons (pv 3) pa_nil))))
      (pss_cons (ps_if (pt_cmpR (op_eqLE hr.units0) (pv 7) (pe_lst pa_nil) (nomark _)) (pss_one ps_break) pss_nil)
      (pss_cons (ps_set (i := 8) sc__law_run.nd rfl (Or.inl rfl) (pe_call d__law_some.ok (hr.mono (by decide)) rfl d__law_some.g d__law_some.kp d__law_some.b .nil pass0 (pa_cons (pv 0) (pa_cons (pv 7) pa_nil))))
      (pss_cons (ps_par (i := 4) (j := 3) (by rfl) sc__law_run.nd rfl rfl (by decide) rfl rfl (pa_cons (pe_op op_catA (pv 4) (pe_tup (pa_cons (pv 8) pa_nil))) (pa_cons (pe_call d__law_led.ok (hr.mono (by decide)) rfl d__law_led.g d__law_led.kp d__law_led.b .nil pass0 (pa_cons (pv 1) (pa_cons (pv 3) (pa_cons (pv 8) pa_nil)))) pa_nil)) (by rfl))
      (pss_one (ps_expr (pe_bm PySem.F.plainAttrs_list PySem.F.slot_list_append PySem.F.type_list_append mt_append (pv 5) (pa_cons (pv 3) pa_nil)))))))))
      (pss_one (ps_ret (pe_tup (pa_cons (pv 4) (pa_cons (pv 5) pa_nil))))))), ?_⟩
    have hbig := sl_big
    refine ⟨_, rfl, v, N, rfl, hv.same (dlt_same _ _), hN, fun H1 sa s1 hS1 => ?_⟩
    refine ⟨Nat.zero_le _, fun t nt => ⟨_, rfl, v, N, rfl, (hv.same (dlt_same _ _)).same (s1.trans (same_upd nt)), hN, fun H2 sa2 s2 hS2 => ⟨line_le 1 (by decide), fun sl nsl => ⟨_, _, _, rfl, ?_⟩⟩⟩⟩
    have st := same_upd (o := .tup []) nt
    have gt := @upd_same H1 t (.tup [])
    have sl3 := same_upd (o := .lst [V.ref sa2]) nsl
    have gl := @upd_same H2 sl (.lst [V.ref sa2])
    have hB1 := hB.same s1
    have mt := bag_ne hB1 nt
    have hB2 := (hB1.same st).same s2
    have msl := bag_ne hB2 nsl
    have s12 := (s1.trans st).trans s2
    have nsl0 : H sl = none := s12.free nsl
    have hS := (hS1.same ((st.trans s2).trans sl3))
    have hSt := hS2.same sl3
    replace gt := sl3 _ _ (s2 _ _ gt)
    generalize upd H2 sl (.lst [V.ref sa2]) = H3 at sl3 gl hS hSt gt ⊢
    have b3 : BH b H H3 := BH.of hB (s12.trans sl3)
    obtain ⟨xb, hxb⟩ := bag_at b3.bag
    have skb : SK H3 (dlt H3 b) := fun a o e z => dlt_at e fun y => by
      rw [y, hxb] at e
      cases e
      rcases z with ⟨_, w⟩ | ⟨_, _, w⟩ <;> cases w
    dsimp only [L2.start, gName, List.set, List.replicate, List.map, List.length]
    refine seq_join (t := tFor _ _ _) (fun σ' H' => ∃ i, i ≤ 8 ∧ RnI H b sl v m N i σ' H') (fun D hD => ?_) ?_
    · refine ⟨_, rfl, m, rfl, by omega, by omega, for_range (lo := 0) (n := m.toNat) (fun i σ' H' => RnI H b sl v m N i σ' H') ?_ ?_ ?_⟩
      · exact ⟨sa, t, [(sa2, fstS N)], [], fstS N, none, none, none, rfl, b3, gl, Sts.one (IsS.sk hSt skb), dlt_at gt mt, IsS.sk hS skb, hv.same b3.at_, .nil _, Nat.le_refl _, SOk.fst hN⟩
      · rintro i σ' H4 hi ⟨sa, t, A, l, T, c6, c7, c8, rfl, bh4, hsl, hA, ht, hT, hn4, hL, hll, hO⟩
        rw [show (0 : Int) + ((i : Nat) : Int) = ((i : Nat) : Int) from Int.zero_add _]
        dsimp only [gName, List.set]
        refine ⟨_, rfl, _, rfl, v, N, sa, T, rfl, hn4.same (dlt_same _ _), hN, hT.same (dlt_same _ _), hO, fun H5 p s5 n5 h5 => ?_⟩
        refine ⟨_, rfl, Nat.zero_le _, fun p0 hp0 => ⟨p, p0, _, rfl, rfl, SqL.of (same_upd hp0 _ _ h5), SqL.of upd_same, _, rfl, ?_⟩⟩
        have s6 := same_upd (o := .lst []) hp0
        have h6 := s6 _ _ h5
        generalize upd H5 p0 (.lst []) = H6 at s6 h6 ⊢
        have b6 : BH b H4 H6 := BH.of bh4.bag (s5.trans s6)
        have mp := bag_ne bh4.bag n5
        have hdl : (doab N T).length ≤ N.steps.length := by
          have := List.length_filter_le (mayI N T) (List.range N.steps.length)
          rw [List.length_range] at this
          exact this
        have hst := hN.st
        cases hd : doab N T with
        | nil =>
          rw [hd] at h5 h6
          refine iteT (hD _ _ ⟨i, by omega, sa, t, A, l, T, _, _, _, rfl, bh4.trans b6, b6.sb.at_ hsl msl, hA.same b6.at_, b6.at_ _ _ ht, hT.same b6.at_, hn4.same b6.at_, hL, hll, hO⟩)
        | cons d0 dr =>
        rw [hd] at h5 h6
        rw [hd] at hdl
        refine iteF ⟨_, rfl, _, rfl, b, p, _, rfl, b6.bag, mp, h6, List.cons_ne_nil _ _, ?_, fun H7 v7 sb7 hB7 hv7 => ?_⟩
        · unfold intsV
          rw [List.length_map]
          omega
        unfold intsV at hv7
        obtain ⟨j, hj, rfl⟩ := List.mem_map.mp hv7
        rw [← hd] at hj
        have hmj := doab_may.mp hj
        have b7 := b6.trans ⟨sb7, hB7⟩
        have ht7 := b7.at_ _ _ ht
        have hT7 := hT.same b7.at_
        have hn7 := hn4.same b7.at_
        refine ⟨_, rfl, _, rfl, line_le 1 (by decide), fun q1 nq1 => ?_⟩
        have sq1 := same_upd (o := .tup [V.int ((j : Nat) : Int)]) nq1
        refine cat_new (sq1 _ _ (dlt_same _ _ _ _ ht7)) upd_same ?_ fun H8 q2 s8 h8 => ?_
        · unfold intsV
          rw [List.length_map]
          show l.length + 1 ≤ sizeLine
          omega
        have b8 := b7.same (sq1.trans s8)
        have hT8 := hT.same b8.at_
        have hn8 := hn4.same b8.at_
        refine ⟨_, rfl, _, rfl, _, rfl, v, N, sa, T, j, rfl, hn8.same (dlt_same _ _), hN, IsS.same hT8 (dlt_same _ _), hO, mayI_lt hmj, fun H9 q3 s9 hS9 => ⟨_, _, rfl, ?_⟩⟩
        have b9 := b8.same s9
        have hsl9 := b9.sb.at_ hsl msl
        have hAl : A.length = l.length + 1 := by
          have := hL.len
          rw [sts_len] at this
          exact this
        refine ⟨_, rfl, .inl ⟨rfl, _, SqL.of hsl9⟩, _, rfl, sl, _, _, rfl, rfl, hsl9, small (by rw [rfs_len]; omega), ?_⟩
        have sk := sk_dlt (b := b) (o := .lst (rfs A ++ [V.ref q3])) hsl9
        have bz := (bh4.trans b9).sb.own (o := .lst (rfs A ++ [V.ref q3])) nsl0
        obtain ⟨xb9, hxb9⟩ := bag_at b9.bag
        have skb9 : SK H9 (dlt H9 b) := fun a o e z => dlt_at e fun y => by
          rw [y, hxb9] at e
          cases e
          rcases z with ⟨_, w⟩ | ⟨_, _, w⟩ <;> cases w
        have hS9' : IsS (dlt (upd H9 sl (.lst (rfs A ++ [V.ref q3]))) b) q3 (ledI N T j) := IsS.sk (IsS.sk hS9 skb9) sk
        have hq2 : dlt H9 b q2 = some (.tup (intsV (l ++ [j]))) := by
          refine skb9.tup ?_
          rw [s9 _ _ h8]
          unfold intsV
          rw [List.map_append]
          rfl
        exact ⟨q3, q2, A ++ [(q3, ledI N T j)], l ++ [j], ledI N T j, _, _, _, rfl, ⟨bz, bz.bag hB⟩, by rw [upd_same, rfs_app]; rfl, Sts.app (Sts.sk (hA.same b9.at_) sk) (Sts.one hS9'), sk.tup hq2, hS9', IsNet.sk (hn4.same b9.at_) sk, by rw [sts_app]; exact hL.snoc hmj, by rw [List.length_append, List.length_singleton]; omega, hO.ledI j⟩
      · exact fun σ' H' h => hD _ _ ⟨_, by omega, h⟩
    · rintro σ' H3 ⟨i, hi2, sa, t, A, l, T, c6, c7, c8, rfl, bh, hsl, hA, ht, hT, hn4, hL, hll, hO⟩
      refine ⟨_, rfl, _, rfl, line_le 2 (by decide), fun p np => ?_⟩
      have s4 := same_upd (o := .tup [V.ref t, V.ref sl]) np
      have sd := dlt_mono (b := b) s4
      exact k _ p t sl l T A (bh.same s4) (dlt_at upd_same (bag_ne bh.bag np)) (sd _ _ ht) (sd _ _ (dlt_at hsl msl)) (hA.same sd) hL (by omega)
end
end Net
namespace Net
open PySem PySem.Spec PyProof.Rows L2 NetR LamX SDx LamO
theorem bag_tup {H : Hp} {b p : Addr} {xs : List V} (hB : BagI H b) (h : H p = some (.tup xs)) : p ≠ b := fun z => by
  obtain ⟨l, hb⟩ := bag_at hB
  rw [z, hb] at h
  cases h
theorem rp_tup {H : Hp} {b p : Addr} {xs : List V} {ds : List PyData} (hB : BagI H b) (h : H p = some (.tup xs)) (hA : RpA (dlt H b) xs ds) : Rp (dlt H b) (.ref p) (.tuple ds) := .tup (dlt_at h (bag_tup hB h)) hA
theorem TabS.sb {H H' : Hp} {b : Addr} {P : Addr} {q : Str} (hB : BagI H b) (t : TabS H P q) (s : SB b H H') : TabS H' P q := by
  obtain ⟨ps, h1, h2, h3⟩ := t
  obtain ⟨_, _, _, _, _, hb, _⟩ := hB
  have ne : ∀ {x : Addr} {o : HO}, H x = some o → (∀ l, o ≠ .lst l) → x ≠ b := fun {x o} e n z => by
    rw [z, hb] at e
    exact n _ (Option.some.inj e).symm
  refine ⟨ps, s.at_ h1 (ne h1 fun l z => by cases z), h2, fun pos cv hc => ?_⟩
  obtain ⟨c, e1, e2⟩ := h3 pos cv hc
  exact ⟨c, e1, s.at_ e2 (ne e2 fun l z => by unfold CodeO at z; cases z)⟩
theorem tabs_sb {T : List (Addr × Str)} {H H' : Hp} {b : Addr} (hB : BagI H b) (t : Tabs T H) (s : SB b H H') : Tabs T H' := fun p hp => TabS.sb hB (t p hp) s
theorem ext_bag {H H' : Hp} {b : Addr} (hB : BagI H b) (e : ExtN H H') : BagI H' b := by
  obtain ⟨x0, x1, x2, cl, cs, h1, h2, h3⟩ := hB
  exact ⟨x0, x1, x2, cl, cs, e _ _ h1 (fun l z => by cases z), e _ _ h2 (fun l z => by cases z), h3⟩
theorem ext_rp {H H' : Hp} (e : ExtN H H') {v : V} {d : PyData} (h : Rp H v d) : Rp H' v d := Rp.kp (fun b o h1 h2 => e b o h1 (fun l z => by
  subst z
  rcases h2 with ⟨_, h⟩ | ⟨_, h⟩ | ⟨_, h⟩ <;> cases h)) d v h
theorem ext_dlt {H H' : Hp} {b : Addr} (e : ExtN H H') : ExtN (dlt H b) (dlt H' b) := fun x o h n => dlt_at (e x o (dlt_same H b _ _ h) n) (dlt_some h)
structure FX (Tt : List (Addr × Str)) (b : Addr) (H H' : Hp) : Prop where
  x : ExtN (dlt H b) (dlt H' b)
  c : ∀ S : Addr → Bool, BagI (rst H S) b → BagI (rst H' S) b
  tab : BagI H b → Tabs Tt H → Tabs Tt H'
theorem FX.bag {Tt : List (Addr × Str)} {b : Addr} {H H' : Hp} (f : FX Tt b H H') (h : BagI H b) : BagI H' b := f.c (fun _ => false) h
theorem FX.refl (Tt : List (Addr × Str)) (b : Addr) (H : Hp) : FX Tt b H H := ⟨ExtN.refl _, fun _ h => h, fun _ h => h⟩
theorem FX.trans {Tt : List (Addr × Str)} {b : Addr} {H H1 H2 : Hp} (a : FX Tt b H H1) (c : FX Tt b H1 H2) : FX Tt b H H2 := ⟨a.x.trans c.x, fun S h => c.c S (a.c S h), fun h t => c.tab (a.bag h) (a.tab h t)⟩
theorem FX.sb {Tt : List (Addr × Str)} {b : Addr} {H H' : Hp} (s : SB b H H') : FX Tt b H H' := ⟨ExtN.of s.s, s.c, fun h t => tabs_sb h t s⟩
theorem FX.of {Tt : List (Addr × Str)} {b : Addr} {H H' : Hp} (s : Same H H') : FX Tt b H H' := .sb (.of s)
theorem FX.ext {Tt : List (Addr × Str)} {b : Addr} {H H' : Hp} (e : ExtN H H') (t : Tabs Tt H') : FX Tt b H H' := ⟨ext_dlt e, fun S h => ext_bag h fun x o e1 n => rst_at (e x o (rst_in e1).2 n) (rst_in e1).1, fun _ _ => t⟩
theorem FX.rp {Tt : List (Addr × Str)} {b : Addr} {H H' : Hp} {v : V} {d : PyData} (f : FX Tt b H H') (h : Rp (dlt H b) v d) : Rp (dlt H' b) v d := ext_rp f.x h
theorem FX.tup {Tt : List (Addr × Str)} {b p : Addr} {H H' : Hp} {xs : List V} (f : FX Tt b H H') (hB : BagI H b) (h : H p = some (.tup xs)) : H' p = some (.tup xs) := dlt_same H' b _ _ (f.x _ _ (dlt_at h (bag_tup hB h)) fun l z => by cases z)
theorem hear_join {Tt : List (Addr × Str)} {CN CR CB : Addr} {t : XK → TE} {σ : L2.St} {H : Hp} {Q : VK} (R : V → Hp → Prop) (hT : Tabs Tt H) (h : ∀ H1, ExtN H H1 → Tabs Tt H1 → ∀ Q' : VK, (∀ x H', R x H' → Q' x H') → t (HearE CN CR CB Q') σ H1 fun v H' => ([V.str "told", v]).length ≤ sizeLine ∧ ∀ p, H' p = none → Q' (.ref p) (upd H' p (.tup [.str "told", v]))) (k : ∀ x H', R x H' → Q x H') :
    tLam Tt (THear CN CR CB) t σ H Q := ⟨hT, fun H1 e t1 => h H1 e t1 Q k⟩
theorem nodics_ints : ∀ ns : List Int, nodics (ns.map PyData.int) = true
  | [] => rfl
  | n :: ns => by
    rw [List.map_cons, nodics, nodics_ints ns]
    rfl
theorem rp_told {H : Hp} {b p : Addr} {z y : Str} {n : Int} (hB : BagI H b) (h : H p = some (.tup [.str z, .int n, .str y])) : Rp (dlt H b) (.ref p) (.tuple [.str z, .int n, .str y]) := rp_tup hB h (.cons (.str _) (.cons (.int _) (.one (.str _))))
theorem rp_two {H : Hp} {b p : Addr} {z y : Str} (hB : BagI H b) (h : H p = some (.tup [.str z, .str y])) : Rp (dlt H b) (.ref p) (.tuple [.str z, .str y]) := rp_tup hB h (.cons (.str _) (.one (.str _)))
theorem FX.own {Tt : List (Addr × Str)} {b l : Addr} {H H' : Hp} {xs ys : List V} (f : FX Tt b H H') (hl : H l = none) (h' : H' l = some (.lst xs)) : FX Tt b H (upd H' l (.lst ys)) := by
  refine ⟨fun y o e n => ?_, fun S hS => ?_, fun hB hT => ?_⟩
  · have hy : y ≠ l := ne_of_none (dlt_same H b _ _ e) hl
    have h1 := f.x y o e n
    exact dlt_at (by rw [upd_ne hy]; exact dlt_same H' b _ _ h1) (dlt_some e)
  · have h1 : BagI (rst H fun x => decide (x = l) || S x) b := by
      refine hS.same fun x o e => ?_
      obtain ⟨e1, e2⟩ := rst_in e
      exact rst_at e2 (by rw [e1, decide_eq_false (ne_of_none e2 hl)]; rfl)
    refine (f.c _ h1).same fun x o e => ?_
    obtain ⟨e1, e2⟩ := rst_in e
    rw [Bool.or_eq_false_iff, decide_eq_false_iff_not] at e1
    exact rst_at (by rw [upd_ne e1.1]; exact e2) e1.2
  · intro p hp
    obtain ⟨ps, h1, h2, h3⟩ := f.tab hB hT p hp
    have ne : ∀ {x : Addr} {o : HO}, H' x = some o → (∀ l, o ≠ .lst l) → x ≠ l := fun {x o} e n z => by
      rw [z, h'] at e
      exact n _ (Option.some.inj e).symm
    refine ⟨ps, by rw [upd_ne (ne h1 fun l z => by cases z)]; exact h1, h2, fun pos cv hc => ?_⟩
    obtain ⟨c, e1, e2⟩ := h3 pos cv hc
    exact ⟨c, e1, by rw [upd_ne (ne e2 fun l z => by unfold CodeO at z; cases z)]; exact e2⟩
theorem FX.lst {Tt : List (Addr × Str)} {b p : Addr} {H H' : Hp} {xs : List V} (f : FX Tt b H H') (hn : p ≠ b) (h : H p = some (.lst xs)) : H' p = some (.lst xs) := dlt_same H' b _ _ (f.x _ _ (dlt_at h hn) fun l z => by cases z)
theorem u65 {A : Around} {k : Nat} (hr : Room k A) : A.units + 65 < cLine := by
  have := hr.un
  omega
theorem FX.sk {Tt : List (Addr × Str)} {b : Addr} {H H' : Hp} (f : FX Tt b H H') : SK (dlt H b) (dlt H' b) := SK.ext f.x
theorem FX.ls {Tt : List (Addr × Str)} {b p : Addr} {H H' : Hp} {xs : List V} (f : FX Tt b H H') (h : dlt H b p = some (.lst xs)) : dlt H' b p = some (.lst xs) := f.x _ _ h fun l z => by cases z
theorem FX.bh {Tt : List (Addr × Str)} {b : Addr} {H H' : Hp} (h : BH b H H') : FX Tt b H H' := .sb h.sb
theorem rpA_ints {H : Hp} (ns : List Int) : RpA H (ns.map V.int) (ns.map PyData.int) := .ints ns
theorem rp_sta {H : Hp} {a : Addr} {S : Sta} (h : IsS H a S) : Rp H (.ref a) (staD S) := by
  obtain ⟨t1, t2, h0, h1, h2⟩ := h
  exact .tup h0 (.cons (.tup h1 (.ints _)) (.one (.tup h2 (.ints _))))
theorem rp_stas {H : Hp} : ∀ {A : AS}, Sts H A → RpA H (rfs A) ((sts A).map staD)
  | [], _ => .nil
  | p :: A, h => .cons (rp_sta (h p (List.mem_cons_self ..))) (rp_stas fun q hq => h q (List.mem_cons_of_mem _ hq))
theorem sta_nodic (S : Sta) : nodic (staD S) = true := by
  unfold staD
  rw [nodic, nodics, nodics, nodics, nodic, nodic, nodics_ints, nodics_ints]
  rfl
theorem stas_nodic : ∀ L : List Sta, nodics (L.map staD) = true
  | [] => rfl
  | S :: L => by
    rw [List.map_cons, nodics, sta_nodic, stas_nodic L]
    rfl
theorem dszs_int : ∀ ns : List Int, dszs (ns.map PyData.int) = ns.length
  | [] => rfl
  | n :: ns => by
    rw [List.map_cons, dszs, dszs_int ns, List.length_cons, show dsz (PyData.int n) = 1 from rfl]
    omega
theorem sta_sz {N : NetT} {S : Sta} (hO : NOk N) (h : SOk N S) : dsz (staD S) ≤ 203 := by
  have h1 := h.l1
  have h2 := h.l2
  have h3 := hO.pl2
  have h4 := hO.nt
  unfold staD
  rw [dsz, dszs, dszs, dszs, dsz, dsz, dszs_int, dszs_int]
  omega
theorem stas_sz {N : NetT} (hO : NOk N) : ∀ {L : List Sta}, oks N L → dszs (L.map staD) ≤ 203 * L.length
  | [], _ => Nat.le_refl _
  | S :: L, h => by
    have h1 := sta_sz hO (h S (List.mem_cons_self ..))
    have h2 := stas_sz hO (L := L) fun T hT => h T (List.mem_cons_of_mem _ hT)
    rw [List.map_cons, dszs, List.length_cons]
    omega
def metD : Option (List Sta) → PyData
  | none => .none
  | some M => .tuple (M.map staD)
def MetV (G : Hp) (N : NetT) (mv : V) : Prop := (mv = .non ∧ metS N = none) ∨ ∃ (mp : Addr) (B : AS), mv = .ref mp ∧ G mp = some (.lst (rfs B)) ∧ Sts G B ∧ metS N = some (sts B)
theorem MetV.fx {Tt : List (Addr × Str)} {b : Addr} {H H' : Hp} {N : NetT} {mv : V} (h : MetV (dlt H b) N mv) (f : FX Tt b H H') : MetV (dlt H' b) N mv := by
  rcases h with h | ⟨mp, B, h1, h2, h3, h4⟩
  · exact .inl h
  · exact .inr ⟨mp, B, h1, f.ls h2, Sts.sk h3 f.sk, h4⟩
structure JN (Tt : List (Addr × Str)) (b : Addr) (H : Hp) (v : V) (N : NetT) : Prop where
  bag : BagI H b
  tab : Tabs Tt H
  net : IsNet (dlt H b) v N
  good : Good N
theorem JN.fx {Tt : List (Addr × Str)} {b : Addr} {H H' : Hp} {v : V} {N : NetT} (j : JN Tt b H v N) (f : FX Tt b H H') : JN Tt b H' v N := ⟨f.bag j.bag, f.tab j.bag j.tab, j.net.sk f.sk, j.good⟩
theorem JN.nt {Tt : List (Addr × Str)} {b : Addr} {H : Hp} {v : V} {N : NetT} (j : JN Tt b H v N) : IsNet H v N := j.net.same (dlt_same _ _)
structure JL (Tt : List (Addr × Str)) (b : Addr) (H : Hp) (v mv : V) (N : NetT) (np wp sp rp : Addr) (l : List Nat) (A : AS) (T : Sta) : Prop where
  n : JN Tt b H v N
  met : MetV (dlt H b) N mv
  nms : dlt H b np = some (.lst ((N.steps.map (·.nm)).map V.str))
  way : dlt H b wp = some (.tup (intsV l))
  st : dlt H b sp = some (.lst (rfs A))
  sts : Sts (dlt H b) A
  led : Led N (fstS N) l (Net.sts A) T
  len : l.length ≤ 8
  run : dlt H b rp = some (.tup (namesV N l))
theorem JL.fx {Tt : List (Addr × Str)} {b : Addr} {H H' : Hp} {v mv : V} {N : NetT} {np wp sp rp : Addr} {l : List Nat} {A : AS} {T : Sta} (j : JL Tt b H v mv N np wp sp rp l A T) (f : FX Tt b H H') : JL Tt b H' v mv N np wp sp rp l A T :=
  ⟨j.n.fx f, j.met.fx f, f.ls j.nms, f.sk.tup j.way, f.ls j.st, Sts.sk j.sts f.sk, j.led, j.len, f.sk.tup j.run⟩
theorem metD_sz {N : NetT} (hO : NOk N) (hN : NnO N) : dsz (metD (metS N)) ≤ 410000 := by
  cases e : metS N with
  | none => decide
  | some M =>
    have h := met_ok hO hN e
    have h1 := stas_sz hO h.clo.ok
    have h2 := h.len
    show dsz (.tuple (M.map staD)) ≤ 410000
    rw [dsz]
    omega
theorem metD_nodic (o : Option (List Sta)) : nodic (metD o) = true := by
  cases o with
  | none => rfl
  | some M => exact stas_nodic M
theorem fst_sz {N : NetT} (hO : NOk N) : dsz (staD (fstS N)) ≤ 203 := sta_sz hO (SOk.fst hO)
theorem dsz1 (d : PyData) : dszs [d] = dsz d := by
  rw [dszs, dszs]
  omega
theorem as_last {A : AS} {T : Sta} (h : (sts A).getLast? = some T) : ∃ (A0 : AS) (p : Addr), A = A0 ++ [(p, T)] := by
  obtain ⟨ys, e⟩ := List.getLast?_eq_some_iff.mp h
  unfold sts at e
  obtain ⟨A0, A1, rfl, e1, e2⟩ := List.map_eq_append_iff.mp e
  match A1, e2 with
  | [q], e2 =>
    obtain ⟨p, S⟩ := q
    have : S = T := List.head_eq_of_cons_eq e2
    exact ⟨A0, p, by rw [this]⟩
  | [], e2 => cases e2
  | _ :: _ :: _, e2 => cases e2
def nmD : Option Str → PyData
  | none => .none
  | some z => .str z
theorem rpA_nm {H : Hp} : ∀ os : List (Option Str), RpA H (os.map nmV) (os.map nmD)
  | [] => .nil
  | none :: os => .cons .non (rpA_nm os)
  | some z :: os => .cons (.str z) (rpA_nm os)
theorem nmsO_len (N : NetT) (l : List Nat) : (nmsO N l).length = l.length := List.length_map _
theorem namesV_len (N : NetT) (l : List Nat) : (namesV N l).length = l.length := by
  unfold namesV
  rw [List.length_map, List.length_map]
theorem flat_ints : ∀ l : List Nat, (intsV l).all flatV = true
  | [] => rfl
  | x :: l => by
    show (flatV (V.int _) && (intsV l).all flatV) = true
    rw [flat_ints l]
    rfl
theorem inV_ints (k : Nat) : ∀ l : List Nat, inV (.int ((k : Nat) : Int)) (intsV l) = decide (k ∈ l)
  | [] => rfl
  | x :: l => by
    show (eqV (V.int ((x : Nat) : Int)) (V.int ((k : Nat) : Int)) || inV (.int ((k : Nat) : Int)) (intsV l)) = _
    rw [inV_ints k l]
    have e : eqV (V.int ((x : Nat) : Int)) (V.int ((k : Nat) : Int)) = decide (k = x) := by
      show decide (_) = _ <;> simp [eqV] <;> omega
    rw [e]
    simp [List.mem_cons]
theorem inV_doab (N : NetT) (S : Sta) (k : Nat) : inV (.int ((k : Nat) : Int)) (intsV (doab N S)) = mayI N S k := by
  rw [inV_ints]
  cases h : mayI N S k with
  | true => exact decide_eq_true (doab_may.mpr h)
  | false => exact decide_eq_false fun z => by rw [doab_may.mp z] at h; cases h
def mayD (N : NetT) (S : Sta) : PyData := .list ((List.range N.steps.length).map fun k => .bool (mayI N S k))
def mayV (N : NetT) (S : Sta) (n : Nat) : List V := (List.range n).map fun k => V.bl (mayI N S k)
theorem mayV_add (N : NetT) (S : Sta) (n : Nat) : mayV N S (n + 1) = mayV N S n ++ [V.bl (mayI N S n)] := by
  unfold mayV
  rw [List.range_succ, List.map_append]
  rfl
theorem mayV_len (N : NetT) (S : Sta) (n : Nat) : (mayV N S n).length = n := by
  unfold mayV
  rw [List.length_map, List.length_range]
theorem rpA_bools {H : Hp} (f : Nat → Bool) : ∀ l : List Nat, RpA H (l.map fun k => V.bl (f k)) (l.map fun k => PyData.bool (f k))
  | [] => .nil
  | k :: l => .cons (.bl _) (rpA_bools f l)
theorem rp_may {H : Hp} {p : Addr} {N : NetT} {S : Sta} (h : H p = some (.lst (mayV N S N.steps.length))) : Rp H (.ref p) (mayD N S) := .lst h (rpA_bools _ _)
theorem nodics_bools (f : Nat → Bool) : ∀ l : List Nat, nodics (l.map fun k => PyData.bool (f k)) = true
  | [] => rfl
  | k :: l => by
    rw [List.map_cons, nodics, nodics_bools f l]
    rfl
theorem dszs_bools (f : Nat → Bool) : ∀ l : List Nat, dszs (l.map fun k => PyData.bool (f k)) = l.length
  | [] => rfl
  | k :: l => by
    rw [List.map_cons, dszs, dszs_bools f l, List.length_cons, show dsz (PyData.bool (f k)) = 1 from rfl]
    omega
def doD (N : NetT) (S : Sta) : PyData := .tuple ((doab N S).map fun i => .int (i : Nat))
theorem rpA_nats {H : Hp} : ∀ l : List Nat, RpA H (intsV l) (l.map fun i => PyData.int (i : Nat))
  | [] => .nil
  | k :: l => .cons (.int _) (rpA_nats l)
theorem nodics_nats : ∀ l : List Nat, nodics (l.map fun i => PyData.int (i : Nat)) = true
  | [] => rfl
  | k :: l => by
    rw [List.map_cons, nodics, nodics_nats l]
    rfl
theorem dszs_nats : ∀ l : List Nat, dszs (l.map fun i => PyData.int (i : Nat)) = l.length
  | [] => rfl
  | k :: l => by
    rw [List.map_cons, dszs, dszs_nats l, List.length_cons, show dsz (PyData.int (k : Nat)) = 1 from rfl]
    omega
theorem doab_len (N : NetT) (S : Sta) : (doab N S).length ≤ N.steps.length := by
  have := List.length_filter_le (mayI N S) (List.range N.steps.length)
  rw [List.length_range] at this
  exact this
theorem as_get {A : AS} {i : Nat} {x : V} (h : (rfs A)[i]? = some x) : ∃ p S, A[i]? = some (p, S) ∧ x = .ref p := by
  obtain ⟨q, hq, rfl⟩ := map_at h
  exact ⟨q.1, q.2, hq, rfl⟩
theorem bag_skb {H : Hp} {b : Addr} (hB : BagI H b) : SK H (dlt H b) := fun a o e z => by
  obtain ⟨xb, hxb⟩ := bag_at hB
  refine dlt_at e fun y => ?_
  rw [y, hxb] at e
  cases e
  rcases z with ⟨_, w⟩ | ⟨_, _, w⟩ <;> cases w
theorem doD_nodic (N : NetT) (S : Sta) : nodic (doD N S) = true := by
  unfold doD
  rw [nodic]
  exact nodics_nats _
theorem mayD_nodic (N : NetT) (S : Sta) : nodic (mayD N S) = true := by
  unfold mayD
  rw [nodic]
  exact nodics_bools _ _
theorem doD_sz (N : NetT) (S : Sta) : dsz (doD N S) = 1 + (doab N S).length := by
  unfold doD
  rw [dsz, dszs_nats]
theorem mayD_sz (N : NetT) (S : Sta) : dsz (mayD N S) = 1 + N.steps.length := by
  unfold mayD
  rw [dsz, dszs_bools, List.length_range]
def ledD (N : NetT) (S : Sta) (d : Option Nat) : PyData := match d with
  | some k => if mayI N S k = true then .tuple [.str "told", staD (ledI N S k)] else .tuple [.str "refused", .str "step"]
  | none => .tuple [.str "refused", .str "step"]
theorem ledD_nodic (N : NetT) (S : Sta) (d : Option Nat) : nodic (ledD N S d) = true := by
  cases d with
  | none => rfl
  | some k =>
    show nodic (if mayI N S k = true then PyData.tuple [.str "told", staD (ledI N S k)] else .tuple [.str "refused", .str "step"]) = true
    by_cases h : mayI N S k = true
    · rw [if_pos h, nodic, nodics, nodics, sta_nodic]
      rfl
    · rw [if_neg h]
      rfl
theorem ledD_sz {N : NetT} {S : Sta} (hO : NOk N) (hS : SOk N S) (d : Option Nat) : dsz (ledD N S d) ≤ 1000 := by
  cases d with
  | none => exact (by decide : (3 : Nat) ≤ 1000)
  | some k =>
    show dsz (if mayI N S k = true then PyData.tuple [.str "told", staD (ledI N S k)] else .tuple [.str "refused", .str "step"]) ≤ 1000
    by_cases h : mayI N S k = true
    · have := sta_sz hO (hS.ledI k)
      rw [if_pos h, dsz, dszs, dsz1, show dsz (PyData.str "told") = 1 from rfl]
      omega
    · rw [if_neg h]
      exact (by decide : (3 : Nat) ≤ 1000)
theorem told_rp {H : Hp} {b p x : Addr} {S : Sta} (h : H p = some (.tup [.str "told", .ref x])) (hS : IsS H x S) : Rp H (.ref p) (.tuple [.str "told", staD S]) := .tup h (.cons (.str _) (.one (rp_sta hS)))
theorem ref_rp {H : Hp} {p : Addr} {x y : Str} (h : H p = some (.tup [.str x, .str y])) : Rp H (.ref p) (.tuple [.str x, .str y]) := .tup h (.cons (.str _) (.one (.str _)))
theorem led_hear {Tt : List (Addr × Str)} {b CO CN CR : Addr} {H1 : Hp} {v : V} {N : NetT} {a : Addr} {S : Sta} {u : V} {d : PyData} {o : Option Nat} {Q' : VK} (j : JN Tt b H1 v N) (hO : NOk N) (hS : IsS H1 a S) (hSO : SOk N S) (hu : Rp H1 u d) (hd : ∀ i : Nat, d = .int i → mayI N S i = true → o = some i) (hd2 : ∀ k, o = some k → d = .int (k : Nat))
    (k : ∀ x H', Same H1 H' → Rp H' x (ledD N S o) → Q' x H') : sp_led CR ([v, .ref a, u] ++ []) H1 (fun x H' => ([V.str "told", x]).length ≤ sizeLine ∧ ∀ p, H' p = none → Q' (.ref p) (upd H' p (.tup [.str "told", x]))) (HearE CO CN CR Q') := by
  refine ⟨v, u, d, N, a, S, rfl, j.nt, hO, hS, hSO, hu, fun i e m H' p s hS' => ⟨line_le 2 (by decide), fun q hq => k _ _ (s.trans (same_upd hq)) ?_⟩, fun h H' e s h' => .inr (.inr ⟨rfl, e, _, rfl, h', fun H2 p s2 hp => k _ _ (s.trans s2) ?_⟩)⟩
  · rw [hd i e m]
    show Rp _ _ (if mayI N S i = true then PyData.tuple [.str "told", staD (ledI N S i)] else .tuple [.str "refused", .str "step"])
    rw [if_pos m]
    exact .tup upd_same (.cons (.str _) (.one (rp_sta (IsS.same hS' (same_upd hq)))))
  · have e2 : ledD N S o = .tuple [.str "refused", .str "step"] := by
      cases o with
      | none => rfl
      | some i =>
        show (if mayI N S i = true then PyData.tuple [.str "told", staD (ledI N S i)] else .tuple [.str "refused", .str "step"]) = _
        rw [h i (hd2 i rfl), if_neg (by decide)]
    rw [e2]
    exact ref_rp hp
def endO (N : NetT) (S : Sta) (i j : Nat) : Option Sta := if mayI N S i = true then (if mayI N (ledI N S i) j = true then some (ledI N (ledI N S i) j) else none) else none
def EndV (G : Hp) (v : V) (o : Option Sta) : Prop := (v = .non ∧ o = none) ∨ ∃ p S, v = .ref p ∧ o = some S ∧ IsS G p S
theorem EndV.sk {G G' : Hp} {v : V} {o : Option Sta} (h : EndV G v o) (s : SK G G') : EndV G' v o := by
  rcases h with h | ⟨p, S, h1, h2, h3⟩
  · exact .inl h
  · exact .inr ⟨p, S, h1, h2, IsS.sk h3 s⟩
def endD : Option Sta → PyData
  | none => .none
  | some S => staD S
theorem end_dp {K : PySem.W.Frag} {H : Hp} {v : V} {o : Option Sta} (h : EndV H v o) : Dp K H v (endD o) := by
  rcases h with ⟨rfl, rfl⟩ | ⟨p, S, rfl, rfl, h3⟩
  · exact .non
  · exact dp_sta h3
theorem end_lay (o : Option Sta) : (endD o).canLay0 = true ∧ (endD o).depth ≤ 4 := by
  cases o with
  | none => exact ⟨by unfold endD; rw [PyData.canLay0], by unfold endD; rw [PyData.depth]; omega⟩
  | some S =>
    refine ⟨?_, ?_⟩
    · unfold endD staD
      rw [PyData.canLay0, PyData.canLayAll0, PyData.canLayAll0, PyData.canLayAll0, PyData.canLay0, PyData.canLay0, lay_ints, lay_ints]
      rfl
    · have h1 := depth_ints S.1
      have h2 := depth_ints S.2
      unfold endD staD
      rw [PyData.depth, PyData.depthAll, PyData.depthAll, PyData.depthAll, PyData.depth, PyData.depth]
      omega
theorem end_shp (o p : Option Sta) : SeqAt.shaped (.list [endD o, endD p]) = true := by
  have h1 := end_lay o
  have h2 := end_lay p
  show ((PyData.list [endD o, endD p]).canLay0 && decide ((PyData.list [endD o, endD p]).depth ≤ 64)) = true
  rw [Bool.and_eq_true]
  refine ⟨?_, decide_eq_true ?_⟩
  · rw [PyData.canLay0, PyData.canLayAll0, PyData.canLayAll0, PyData.canLayAll0, h1.1, h2.1]
    rfl
  · rw [PyData.depth, PyData.depthAll, PyData.depthAll, PyData.depthAll]
    omega
theorem end_none (o : Option Sta) : PyData.eqv (endD o) .none = o.isNone := by
  cases o with
  | none => rfl
  | some S =>
    unfold endD staD
    rw [PyData.eqv] <;> first | rfl | (intros; simp)
theorem comm_none {N : NetT} {S : Sta} {i j : Nat} (h : ((endO N S i j).isNone || (endO N S j i).isNone) = true) : commB N S i j = false := by
  unfold endO at h
  unfold commB
  by_cases a : mayI N S i = true
  · by_cases b : mayI N S j = true
    · by_cases c : mayI N (ledI N S i) j = true
      · by_cases d : mayI N (ledI N S j) i = true
        · rw [if_pos a, if_pos b, if_pos c, if_pos d] at h
          cases h
        · simp [d]
      · simp [c]
    · simp [b]
  · simp [a]
theorem comm_some {N : NetT} {S A B : Sta} {i j : Nat} (h1 : endO N S i j = some A) (h2 : endO N S j i = some B) : commB N S i j = decide (A = B) := by
  unfold endO at h1 h2
  unfold commB
  by_cases a : mayI N S i = true
  · by_cases c : mayI N (ledI N S i) j = true
    · rw [if_pos a, if_pos c] at h1
      by_cases b : mayI N S j = true
      · by_cases d : mayI N (ledI N S j) i = true
        · rw [if_pos b, if_pos d] at h2
          rw [a, b, c, d, Option.some.inj h1, Option.some.inj h2]
          rfl
        · rw [if_pos b, if_neg d] at h2
          cases h2
      · rw [if_neg b] at h2
        cases h2
    · rw [if_pos a, if_neg c] at h1
      cases h1
  · rw [if_neg a] at h1
    cases h1
def offL (N : NetT) (S : Sta) (n : Nat) : List Nat := (List.range n).filter fun i => !mayI N S i
theorem offL_add (N : NetT) (S : Sta) (n : Nat) : offL N S (n + 1) = offL N S n ++ (if mayI N S n = true then [] else [n]) := by
  unfold offL
  rw [List.range_succ, List.filter_append, List.filter_cons, List.filter_nil]
  cases mayI N S n <;> rfl
theorem offL_len (N : NetT) (S : Sta) (n : Nat) : (offL N S n).length ≤ n := by
  have := List.length_filter_le (fun i => !mayI N S i) (List.range n)
  rw [List.length_range] at this
  exact this
theorem offL_mem {N : NetT} {S : Sta} {n i : Nat} (h : i ∈ offL N S n) : i < n ∧ mayI N S i = false := by
  unfold offL at h
  rw [List.mem_filter, List.mem_range] at h
  exact ⟨h.1, by have := h.2; cases e : mayI N S i <;> simp [e] at this ⊢⟩
theorem nms_get {N : NetT} {i : Nat} (hi : i < N.steps.length) : ((N.steps.map (·.nm)).map V.str)[i]? = some (V.str (nmAt N i)) := by
  rw [List.getElem?_map, names_at N hi]
  rfl
theorem rpA_strs {H : Hp} : ∀ l : List Str, RpA H (l.map V.str) (l.map PyData.str)
  | [] => .nil
  | z :: l => .cons (.str z) (rpA_strs l)
def namesD (N : NetT) (l : List Nat) : PyData := .tuple ((l.map (nmAt N)).map PyData.str)
theorem rp_names {H : Hp} {p : Addr} {N : NetT} {l : List Nat} (h : H p = some (.tup (namesV N l))) : Rp H (.ref p) (namesD N l) := .tup h (rpA_strs _)
theorem nodics_strs : ∀ l : List Str, nodics (l.map PyData.str) = true
  | [] => rfl
  | z :: l => by
    rw [List.map_cons, nodics, nodics_strs l]
    rfl
theorem dszs_strs : ∀ l : List Str, dszs (l.map PyData.str) = l.length
  | [] => rfl
  | z :: l => by
    rw [List.map_cons, dszs, dszs_strs l, List.length_cons, show dsz (PyData.str z) = 1 from rfl]
    omega
theorem namesD_nodic (N : NetT) (l : List Nat) : nodic (namesD N l) = true := by
  unfold namesD
  rw [nodic]
  exact nodics_strs _
theorem namesD_sz (N : NetT) (l : List Nat) : dsz (namesD N l) = 1 + l.length := by
  unfold namesD
  rw [dsz, dszs_strs, List.length_map]
def dueD (N : NetT) : Option (List Nat) → PyData
  | none => .tuple [.str "nothing"]
  | some l => .tuple [.str "told", namesD N l]
theorem dueD_nodic (N : NetT) (o : Option (List Nat)) : nodic (dueD N o) = true := by
  cases o with
  | none => rfl
  | some l =>
    unfold dueD
    rw [nodic, nodics, nodics, namesD_nodic]
    rfl
theorem dueD_sz (N : NetT) (o : Option (List Nat)) (h : ∀ l, o = some l → l.length ≤ 300) : dsz (dueD N o) ≤ 1000 := by
  cases o with
  | none => exact (by decide : (2 : Nat) ≤ 1000)
  | some l =>
    have := h l rfl
    unfold dueD
    rw [dsz, dszs, dsz1, namesD_sz, show dsz (PyData.str "told") = 1 from rfl]
    omega
def WayV (G : Hp) (v : V) : Option (List Nat) → Prop
  | none => v = .non
  | some l => ∃ r, v = .ref r ∧ G r = some (.tup (intsV l))
theorem WayV.sk {G G' : Hp} {v : V} {o : Option (List Nat)} (h : WayV G v o) (s : SK G G') : WayV G' v o := by
  cases o with
  | none => exact h
  | some l =>
    obtain ⟨r, h1, h2⟩ := h
    exact ⟨r, h1, s.tup h2⟩
end Net
namespace Net
open PySem PySem.Spec PyProof.Rows L2 SDx NetR SumT LamX LamO
def qLW : Str := "law.<locals>.<lambda>"
def sL (a b : Addr) (c2 : Option V) (v mv : V) (np wp sp rp : Addr) (c9 c10 c11 c12 c13 c14 c15 c16 c17 c18 c19 c20 c21 c22 c23 : Option V) : L2.St := [some (.ref a), some (.ref b), c2, some v, some mv, some (.ref np), some (.ref wp), some (.ref sp), some (.ref rp), c9, c10, c11, c12, c13, c14, c15, c16, c17, c18, c19, c20, c21, c22, c23, none]
def LpI (Tt : List (Addr × Str)) (a b : Addr) (σ : L2.St) (H : Hp) : Prop := ∃ (c2 c3 c4 c5 c6 c7 c8 c9 c10 c11 c12 c13 c14 c15 c16 c17 c18 c19 c20 c21 c22 c23 : Option V), σ = [some (.ref a), some (.ref b), c2, c3, c4, c5, c6, c7, c8, c9, c10, c11, c12, c13, c14, c15, c16, c17, c18, c19, c20, c21, c22, c23, none] ∧ BagI H b ∧ Tabs Tt H
theorem te_join {te : TE} {σ : L2.St} {H : Hp} {Q : VK} (R : V → Hp → Prop) (h : ∀ Q : VK, (∀ v H', R v H' → Q v H') → te σ H Q) (k : ∀ v H', R v H' → Q v H') : te σ H Q := h Q k
def sp_thelaw (K : PySem.W.Frag) (Tt : List (Addr × Str)) : Sp := fun vs H Q E => ∃ (a : Addr) (ns : List Int), vs = [.ref a] ∧ SqL K H a (ns.map V.int) ∧ Tabs Tt H ∧ ∀ H', Q (.bl true) H'
section
variable {P : Program} {w : World} {K : PySem.W.Frag} {mg : Str → Option Value} {base : Heap} {CR CN CO : Addr}
abbrev s_law : Stmt := top 62
theorem sc_law : FnScope ["script", "bag", "turn", "net", "met", "names", "way", "states", "run", "found", "state", "may", "index", "due", "bad", "one", "other", "ends", "first", "last", "here", "off", "least", "home", "step"] ["script"] (defScope s_law) := ⟨rfl, rfl, rfl, by decide +kernel, rfl, by decide +kernel, by decide +kernel⟩
theorem ok_thelaw {f c Pt fa gw f__law_bag f__law_take f__law_some f__law_alike f__law_first f__law_may f__law_led f__law_doable f__law_is_ended f__law_met f__law_names f__law_home f__law_net f__law_any_net f__law_run f_first_state f_is_ended f_may_do f_doable f_led f_met_states f_is_too_wide f_run_states f_run_state f_is_run f_last_fine f_do_commute f_way_to f_way_to_end : Addr}
    {fd fdA fdW e1 e2 e3 e4 e5 e6 e7 e8 e9 e10 e11 e12 e13 e14 e15 e16 e17 e18 e19 e20 e21 e22 e23 e24 e25 e26 e27 e28 e29 : FuncData} {Tt : List (Addr × Str)} (F : FunC K "law" "law" s_law f fd c) (T : Tx mg)
    (FA : Fun K "_law_heard" "_law_heard" s__law_heard fa fdA) (gA : mg "_law_heard" = some (.ref fa)) (bA : Binds K fdA ["act"] []) (TX : TAx K mg CO CN CR) (TB : TabB base mg c Pt) (hmT : (Pt, qLW) ∈ Tt) (hu : ∀ p ∈ Tt, p.1 = Pt → p.2 = qLW)
    (FW : Fun K "_law_way" "_law_way" s__law_way gw fdW) (gW : mg "_law_way" = some (.ref gw)) (bW : Binds K fdW ["net", "fits"] [])
    (d__law_bag : Ok1 P w K mg base CX0 1 "_law_bag" ["script"] (sp_lbag K) f__law_bag e1)
    (d__law_take : Ok1 P w K mg base CX0 1 "_law_take" ["bag", "many"] sp_take f__law_take e2)
    (d__law_some : Ok1 P w K mg base CX0 2 "_law_some" ["bag", "things"] sp_some f__law_some e3)
    (d__law_alike : Ok1 P w K mg base CX0 1 "_law_alike" ["found", "due"] sp_alike f__law_alike e4)
    (d__law_first : Ok1 P w K mg base CX0 1 "_law_first" ["net"] sp_first f__law_first e5)
    (d__law_may : Ok1 P w K mg base CX0 2 "_law_may" ["net", "state", "index"] sp_may f__law_may e6)
    (d__law_led : Ok1 P w K mg base CX0 2 "_law_led" ["net", "state", "index"] sp_behind f__law_led e7)
    (d__law_doable : Ok1 P w K mg base CX0 3 "_law_doable" ["net", "state"] sp_ldoable f__law_doable e8)
    (d__law_is_ended : Ok1 P w K mg base CX0 1 "_law_is_ended" ["state"] sp_lended f__law_is_ended e9)
    (d__law_met : Ok1 P w K mg base CX0 4 "_law_met" ["net"] sp_lmet f__law_met e10)
    (d__law_names : Ok1 P w K mg base CX0 1 "_law_names" ["net", "way"] sp_names f__law_names e11)
    (d__law_home : Ok1 P w K mg base CX0 4 "_law_home" ["net", "state"] sp_lhome f__law_home e12)
    (d__law_net : Ok1 P w K mg base CX0 5 "_law_net" ["bag"] sp_net f__law_net e13)
    (d__law_any_net : Ok1 P w K mg base CX0 6 "_law_any_net" ["bag"] sp_any f__law_any_net e14)
    (d__law_run : Ok1 P w K mg base CX0 4 "_law_run" ["bag", "net", "many"] sp_run f__law_run e15)
    (d_first_state : Ok1 P w K mg base CX0 1 "first_state" ["net"] sp_first f_first_state e16)
    (d_is_ended : Ok1 P w K mg base CX0 1 "is_ended" ["net", "state"] sp_ended f_is_ended e17)
    (d_may_do : Ok1 P w K mg base CX0 3 "may_do" ["net", "state", "index"] sp_may f_may_do e18)
    (d_doable : Ok1 P w K mg base CX0 4 "doable" ["net", "state"] sp_doable f_doable e19)
    (d_led : Ok1 P w K mg base (L2.CX P w) 4 "led" ["net", "state", "index"] (sp_led CR) f_led e20)
    (d_met_states : Ok1 P w K mg base CX0 6 "met_states" ["net"] sp_met f_met_states e21)
    (d_is_too_wide : Ok1 P w K mg base CX0 7 "is_too_wide" ["net"] sp_wide f_is_too_wide e22)
    (d_run_states : Ok1 P w K mg base (L2.CX P w) 5 "run_states" ["net", "names"] (sp_runs CR CN) f_run_states e23)
    (d_run_state : Ok1 P w K mg base (L2.CX P w) 6 "run_state" ["net", "names"] (sp_runst CR CN) f_run_state e24)
    (d_is_run : Ok1 P w K mg base CX0 6 "is_run" ["net", "thing"] sp_isrun f_is_run e25)
    (d_last_fine : Ok1 P w K mg base CX0 5 "last_fine" ["net", "names"] sp_last f_last_fine e26)
    (d_do_commute : Ok1 P w K mg base CX0 4 "do_commute" ["net", "state", "one", "other"] sp_comm f_do_commute e27)
    (d_way_to : Ok1 P w K mg base (L2.CX P w) 8 "way_to" ["net", "state"] (sp_wayto Tt CO) f_way_to e28)
    (d_way_to_end : Ok1 P w K mg base (L2.CX P w) 8 "way_to_end" ["net", "state"] (sp_wayend Tt CO) f_way_to_end e29) : FnOk P w K mg base CX0 13 f fd ["script"] (sp_thelaw K Tt) := by
  refine F.ok sc_law (fun vs H Q E h => ?_) (fun A outer s H vs Q E hr h => ?_)
  · obtain ⟨a, ns, rfl, _⟩ := h
    rfl
  · obtain ⟨a, ns, rfl, hS, hT, q⟩ := h
    obtain ⟨oc, od, kV, doc, pm, an, cdv, ct, osl, rfl, lk, hcd⟩ := FW.ex
    refine ⟨_, (pss_cons (ps_set (i := 1) sc_law.nd rfl (Or.inl rfl) (pe_call d__law_bag.ok (hr.mono (by decide)) rfl d__law_bag.g d__law_bag.kp d__law_bag.b .nil pass0 (pa_cons (pv 0) pa_nil)))
      (pss_cons (ps_for PassesOwn.never rfl (pi_range1 (by rfl) T.n_range (pa_cons pe_int pa_nil)) (pg_name (i := 2) sc_law.nd rfl (Or.inl rfl)) (pss_cons (ps_set (i := 3) sc_law.nd rfl (Or.inr rfl) (pe_ifExp (pt_cmpR op_eq (pe_call d__law_take.ok (hr.mono (by decide)) rfl d__law_take.g d__law_take.kp d__law_take.b .nil pass0 (pa_cons (pv 1) (pa_cons pe_int pa_nil))) pe_int (nomark _)) (pe_call d__law_any_net.ok (hr.mono (by decide)) rfl d__law_any_net.g d__law_any_net.kp d__law_any_net.b .nil pass0 (pa_cons (pv 1) pa_nil)) (pe_call d__law_net.ok (hr.mono (by decide)) rfl d__law_net.g d__law_net.kp d__law_net.b .nil pass0 (pa_cons (pv 1) pa_nil))))
      (pss_cons (ps_par (i := 4) (j := 5) (by rfl) sc_law.nd rfl rfl (by decide) rfl rfl (pa_cons (pe_call d__law_met.ok (hr.mono (by decide)) rfl d__law_met.g d__law_met.kp d__law_met.b .nil pass0 (pa_cons (pv 3) pa_nil)) (pa_cons (pe_lc (own := [("step", 24)]) (g := gName 24) (tt := tYes) (te := (tOp (rIxT K) (tVar 24) (tC (.int 0)))) rfl sc_law.nd (pi_tup (pe_ix ix_tup (pv 3) pe_int (fun _ _ => rfl))) (blkOk_by (N := ["script", "bag", "turn", "net", "met", "names", "way", "states", "run", "found", "state", "may", "index", "due", "bad", "one", "other", "ends", "first", "last", "here", "off", "least", "home", "step"]) (sc := defScope s_law) (by decide +kernel)) (fun _ _ _ _ _ => pg_name (i := 24) sc_law.nd rfl (Or.inl rfl)) (fun _ _ _ _ _ => pts_nil) (fun _ _ _ _ _ => by exact (pe_ix ix_tup (pv 24) pe_int (fun _ _ => rfl)))) pa_nil)) (by rfl))
      (pss_cons (ps_if (pt_not (pt_val (pe_call d__law_alike.ok (hr.mono (by decide)) rfl d__law_alike.g d__law_alike.kp d__law_alike.b .nil pass0 (pa_cons (pe_lst (pa_cons (pe_call d_first_state.ok (hr.mono (by decide)) rfl d_first_state.g d_first_state.kp d_first_state.b .nil pass0 (pa_cons (pv 3) pa_nil)) (pa_cons (pe_call d_met_states.ok (hr.mono (by decide)) rfl d_met_states.g d_met_states.kp d_met_states.b .nil pass0 (pa_cons (pv 3) pa_nil)) (pa_cons (pe_call d_is_too_wide.ok (hr.mono (by decide)) rfl d_is_too_wide.g d_is_too_wide.kp d_is_too_wide.b .nil pass0 (pa_cons (pv 3) pa_nil)) pa_nil)))) (pa_cons (pe_lst (pa_cons (pe_call d__law_first.ok (hr.mono (by decide)) rfl d__law_first.g d__law_first.kp d__law_first.b .nil pass0 (pa_cons (pv 3) pa_nil)) (pa_cons (pe_ifExp (pt_cmpR op_isN (pv 4) pe_non (nomark _)) pe_non (pe_callTy call_tuple_of (by rfl) T.n_tuple (by decide +kernel) (pa_cons (pv 4) pa_nil))) (pa_cons (pe_cmpR op_isN (pv 4) pe_non (nomark _)) pa_nil)))) pa_nil))))) (pss_one (ps_ret pe_bl)) pss_nil)
      (pss_cons (ps_asg (pe_call d__law_run.ok (hr.mono (by decide)) rfl d__law_run.g d__law_run.kp d__law_run.b .nil pass0 (pa_cons (pv 1) (pa_cons (pv 3) (pa_cons pe_int pa_nil)))) (pg_tup rfl (pgs_cons (pg_name (i := 6) sc_law.nd rfl (Or.inl rfl)) (pgs_cons (pg_name (i := 7) sc_law.nd rfl (Or.inl rfl)) pgs_nil))))
      (pss_cons (ps_set (i := 8) sc_law.nd rfl (Or.inl rfl) (pe_call d__law_names.ok (hr.mono (by decide)) rfl d__law_names.g d__law_names.kp d__law_names.b .nil pass0 (pa_cons (pv 3) (pa_cons (pv 6) pa_nil))))
      (pss_cons (ps_set (i := 9) sc_law.nd rfl (Or.inl rfl) (pe_lst (pa_cons (pe_call d_run_states.ok (hr.mono (by decide)) rfl d_run_states.g d_run_states.kp d_run_states.b .nil passL (pa_cons (pv 3) (pa_cons (pv 8) pa_nil))) (pa_cons (pe_call d_run_state.ok (hr.mono (by decide)) rfl d_run_state.g d_run_state.kp d_run_state.b .nil passL (pa_cons (pv 3) (pa_cons (pv 8) pa_nil))) (pa_cons (pe_call d_is_run.ok (hr.mono (by decide)) rfl d_is_run.g d_is_run.kp d_is_run.b .nil pass0 (pa_cons (pv 3) (pa_cons (pv 8) pa_nil))) (pa_cons (pe_call d_last_fine.ok (hr.mono (by decide)) rfl d_last_fine.g d_last_fine.kp d_last_fine.b .nil pass0 (pa_cons (pv 3) (pa_cons (pv 8) pa_nil))) (pa_cons (pe_call d_last_fine.ok (hr.mono (by decide)) rfl d_last_fine.g d_last_fine.kp d_last_fine.b .nil pass0 (pa_cons (pv 3) (pa_cons (pe_op op_catA (pv 8) (pe_tup (pa_cons pe_str (pa_cons pe_non pa_nil)))) pa_nil))) pa_nil)))))))
      (pss_cons (ps_if (pt_not (pt_val (pe_call d__law_alike.ok (hr.mono (by decide)) rfl d__law_alike.g d__law_alike.kp d__law_alike.b .nil pass0 (pa_cons (pv 9) (pa_cons (pe_lst (pa_cons (pe_callTy call_tuple_of (by rfl) T.n_tuple (by decide +kernel) (pa_cons (pv 7) pa_nil)) (pa_cons (pe_ix ix_list (pv 7) (pe_un un_neg pe_int) (fun _ _ => rfl)) (pa_cons pe_bl (pa_cons (pe_callB call_len (by rfl) T.n_len (by decide +kernel) (pa_cons (pv 8) pa_nil)) (pa_cons (pe_callB call_len (by rfl) T.n_len (by decide +kernel) (pa_cons (pv 8) pa_nil)) pa_nil)))))) pa_nil))))) (pss_one (ps_ret pe_bl)) pss_nil)
      (pss_cons (ps_for PassesOwn.never rfl (pi_list (pv 7)) (pg_name (i := 10) sc_law.nd rfl (Or.inr rfl)) (pss_cons (ps_set (i := 11) sc_law.nd rfl (Or.inr rfl) (pe_call d__law_doable.ok (hr.mono (by decide)) rfl d__law_doable.g d__law_doable.kp d__law_doable.b .nil pass0 (pa_cons (pv 3) (pa_cons (pv 10) pa_nil))))
      (pss_cons (ps_set (i := 9) sc_law.nd rfl (Or.inl rfl) (pe_lst (pa_cons (pe_call d_doable.ok (hr.mono (by decide)) rfl d_doable.g d_doable.kp d_doable.b .nil pass0 (pa_cons (pv 3) (pa_cons (pv 10) pa_nil))) (pa_cons (pe_call d_is_ended.ok (hr.mono (by decide)) rfl d_is_ended.g d_is_ended.kp d_is_ended.b .nil pass0 (pa_cons (pv 3) (pa_cons (pv 10) pa_nil))) (pa_cons (pe_lc (own := [("index", 12)]) (g := gName 12) (tt := tYes) rfl sc_law.nd (pi_range1 (by rfl) T.n_range (pa_cons (pe_callB call_len (by rfl) T.n_len (by decide +kernel) (pa_cons (pv 5) pa_nil)) pa_nil)) (blkOk_by (N := ["script", "bag", "turn", "net", "met", "names", "way", "states", "run", "found", "state", "may", "index", "due", "bad", "one", "other", "ends", "first", "last", "here", "off", "least", "home", "step"]) (sc := defScope s_law) (by decide +kernel)) (fun _ _ _ _ _ => pg_name (i := 12) sc_law.nd rfl (Or.inl rfl)) (fun _ _ _ _ _ => pts_nil) (fun _ _ _ _ _ => (pe_call d_may_do.ok (hr.mono (by decide)) rfl d_may_do.g d_may_do.kp d_may_do.b .nil pass0 (pa_cons (pv 3) (pa_cons (pv 10) (pa_cons (pv 12) pa_nil)))))) pa_nil)))))
      (pss_cons (ps_if (pt_not (pt_val (pe_call d__law_alike.ok (hr.mono (by decide)) rfl d__law_alike.g d__law_alike.kp d__law_alike.b .nil pass0 (pa_cons (pv 9) (pa_cons (pe_lst (pa_cons (pe_callTy call_tuple_of (by rfl) T.n_tuple (by decide +kernel) (pa_cons (pv 11) pa_nil)) (pa_cons (pe_call d__law_is_ended.ok (hr.mono (by decide)) rfl d__law_is_ended.g d__law_is_ended.kp d__law_is_ended.b .nil pass0 (pa_cons (pv 10) pa_nil)) (pa_cons (pe_lc (own := [("index", 12)]) (g := gName 12) (tt := tYes) (te := (tOp (rIn K false) (tVar 12) (tVar 11))) rfl sc_law.nd (pi_range1 (by rfl) T.n_range (pa_cons (pe_callB call_len (by rfl) T.n_len (by decide +kernel) (pa_cons (pv 5) pa_nil)) pa_nil)) (blkOk_by (N := ["script", "bag", "turn", "net", "met", "names", "way", "states", "run", "found", "state", "may", "index", "due", "bad", "one", "other", "ends", "first", "last", "here", "off", "least", "home", "step"]) (sc := defScope s_law) (by decide +kernel)) (fun _ _ _ _ _ => pg_name (i := 12) sc_law.nd rfl (Or.inl rfl)) (fun _ _ _ _ _ => pts_nil) (fun _ _ _ _ _ => by exact (pe_cmpR op_in_seq (pv 12) (pv 11) (by rfl)))) pa_nil)))) pa_nil))))) (pss_one (ps_ret pe_bl)) pss_nil)
      (pss_cons (ps_for PassesOwn.never rfl (pi_range1 (by rfl) T.n_range (pa_cons (pe_callB call_len (by rfl) T.n_len (by decide +kernel) (pa_cons (pv 5) pa_nil)) pa_nil)) (pg_name (i := 12) sc_law.nd rfl (Or.inr rfl)) (pss_cons (ps_set (i := 13) sc_law.nd rfl (Or.inl rfl) (pe_ifExp (pt_cmpR op_in_seq (pv 12) (pv 11) (by rfl)) (pe_tup (pa_cons pe_str (pa_cons (pe_call d__law_led.ok (hr.mono (by decide)) rfl d__law_led.g d__law_led.kp d__law_led.b .nil pass0 (pa_cons (pv 3) (pa_cons (pv 10) (pa_cons (pv 12) pa_nil)))) pa_nil))) (pe_tup (pa_cons pe_str (pa_cons pe_str pa_nil)))))
      (pss_one (ps_if (pt_not (pt_val (pe_call d__law_alike.ok (hr.mono (by decide)) rfl d__law_alike.g d__law_alike.kp d__law_alike.b .nil pass0 (pa_cons (pe_heard (k := 8) FA rfl gA bA TX TB rfl hmT hu (hr.mono (by decide)) (lamS_by (sc := defScope s_law) (by decide +kernel)) rfl (fun _ _ _ _ _ => rfl) (fun A2 outer2 s2 H2 E2 f2 c2 hr2 => (pe_call d_led.ok (hr2.mono (by decide)) rfl d_led.g d_led.kp d_led.b .nil (passes_call (takes_of rfl rfl rfl rfl) (fun _ _ _ _ h => h)) (pa_cons (pv 3) (pa_cons (pv 10) (pa_cons (pv 12) pa_nil)))))) (pa_cons (pv 13) pa_nil))))) (pss_one (ps_ret pe_bl)) pss_nil))))
      (pss_cons (ps_for PassesOwn.never rfl (pi_tup (pe_tup (pa_cons (pe_callB call_len (by rfl) T.n_len (by decide +kernel) (pa_cons (pv 5) pa_nil)) (pa_cons (pe_un un_neg pe_int) (pa_cons pe_non (pa_cons pe_bl (pa_cons pe_str pa_nil))))))) (pg_name (i := 14) sc_law.nd rfl (Or.inr rfl)) (pss_one (ps_if (pt_not (pt_val (pe_call d__law_alike.ok (hr.mono (by decide)) rfl d__law_alike.g d__law_alike.kp d__law_alike.b .nil pass0 (pa_cons (pe_heard (k := 8) FA rfl gA bA TX TB rfl hmT hu (hr.mono (by decide)) (lamS_by (sc := defScope s_law) (by decide +kernel)) rfl (fun _ _ _ _ _ => rfl) (fun A2 outer2 s2 H2 E2 f2 c2 hr2 => (pe_call d_led.ok (hr2.mono (by decide)) rfl d_led.g d_led.kp d_led.b .nil (passes_call (takes_of rfl rfl rfl rfl) (fun _ _ _ _ h => h)) (pa_cons (pv 3) (pa_cons (pv 10) (pa_cons (pv 14) pa_nil)))))) (pa_cons (pe_tup (pa_cons pe_str (pa_cons pe_str pa_nil))) pa_nil))))) (pss_one (ps_ret pe_bl)) pss_nil)))
      (pss_cons (ps_par (i := 15) (j := 16) (by rfl) sc_law.nd rfl rfl (by decide) rfl rfl (pa_cons (pe_call d__law_take.ok (hr.mono (by decide)) rfl d__law_take.g d__law_take.kp d__law_take.b .nil pass0 (pa_cons (pv 1) (pa_cons (pe_callB call_len (by rfl) T.n_len (by decide +kernel) (pa_cons (pv 5) pa_nil)) pa_nil))) (pa_cons (pe_call d__law_take.ok (hr.mono (by decide)) rfl d__law_take.g d__law_take.kp d__law_take.b .nil pass0 (pa_cons (pv 1) (pa_cons (pe_callB call_len (by rfl) T.n_len (by decide +kernel) (pa_cons (pv 5) pa_nil)) pa_nil))) pa_nil)) (by rfl))
      (pss_cons (ps_set (i := 17) sc_law.nd rfl (Or.inl rfl) (pe_lst pa_nil))
      (pss_cons (ps_for PassesOwn.never rfl (pi_tup (pe_tup (pa_cons (pe_tup (pa_cons (pv 15) (pa_cons (pv 16) pa_nil))) (pa_cons (pe_tup (pa_cons (pv 16) (pa_cons (pv 15) pa_nil))) pa_nil)))) (pg_tup rfl (pgs_cons (pg_name (i := 18) sc_law.nd rfl (Or.inl rfl)) (pgs_cons (pg_name (i := 19) sc_law.nd rfl (Or.inr rfl)) pgs_nil))) (pss_cons (ps_set (i := 20) sc_law.nd rfl (Or.inl rfl) (pe_ifExp (pt_cmpR op_in_seq (pv 18) (pv 11) (by rfl)) (pe_call d__law_led.ok (hr.mono (by decide)) rfl d__law_led.g d__law_led.kp d__law_led.b .nil pass0 (pa_cons (pv 3) (pa_cons (pv 10) (pa_cons (pv 18) pa_nil)))) pe_non))
      (pss_one (ps_expr (pe_bm PySem.F.plainAttrs_list PySem.F.slot_list_append PySem.F.type_list_append mt_append (pv 17) (pa_cons (pe_ifExp (PW.pt (pw_and (pt_cmpR op_notN (pv 20) pe_non (nomark _)) (pw_and1 (pt_val (pe_call d__law_may.ok (hr.mono (by decide)) rfl d__law_may.g d__law_may.kp d__law_may.b .nil pass0 (pa_cons (pv 3) (pa_cons (pv 20) (pa_cons (pv 19) pa_nil)))))))) (pe_call d__law_led.ok (hr.mono (by decide)) rfl d__law_led.g d__law_led.kp d__law_led.b .nil pass0 (pa_cons (pv 3) (pa_cons (pv 20) (pa_cons (pv 19) pa_nil)))) pe_non) pa_nil))))))
      (pss_one (ps_if (pt_cmpR op_ne (pe_call d_do_commute.ok (hr.mono (by decide)) rfl d_do_commute.g d_do_commute.kp d_do_commute.b .nil pass0 (pa_cons (pv 3) (pa_cons (pv 10) (pa_cons (pv 15) (pa_cons (pv 16) pa_nil))))) (pe_and (pe_cmpR (op_notInD (u65 hr)) pe_non (pv 17) (by rfl)) (pe_one (pe_cmpR (op_eqD hr.units) (pe_ix ix_list (pv 17) pe_int (fun _ _ => rfl)) (pe_ix ix_list (pv 17) pe_int (fun _ _ => rfl)) (nomark _)))) (nomark _)) (pss_one (ps_ret pe_bl)) pss_nil)))))))))))
      (pss_cons (ps_set (i := 19) sc_law.nd rfl (Or.inr rfl) (pe_ix ix_list (pv 7) (pe_un un_neg pe_int) (fun _ _ => rfl)))
      (pss_cons (ps_setLc (i := 21) (own := [("index", 12)]) (g := gName 12) (tt := (tTest (tOp (rIn K true) (tVar 12) (tCall sp_ldoable [] E0 (tCons (tVar 3) (tCons (tVar 19) tNil)))))) (te := (tVar 12)) rfl sc_law.nd rfl rfl (sw_true rfl rfl rfl (by decide +kernel)) (pi_range1 (by rfl) T.n_range (pa_cons (pe_callB call_len (by rfl) T.n_len (by decide +kernel) (pa_cons (pv 5) pa_nil)) pa_nil)) (blkOk_by (N := ["script", "bag", "turn", "net", "met", "names", "way", "states", "run", "found", "state", "may", "index", "due", "bad", "one", "other", "ends", "first", "last", "here", "off", "least", "home", "step"]) (sc := defScope s_law) (by decide +kernel)) (fun _ _ _ _ _ => pg_name (i := 12) sc_law.nd rfl (Or.inl rfl)) (fun _ _ _ _ _ => by exact pts_one (pt_cmpR op_notIn_seq (pv 12) (pe_call d__law_doable.ok (hr.mono (by decide)) rfl d__law_doable.g d__law_doable.kp d__law_doable.b .nil pass0 (pa_cons (pv 3) (pa_cons (pv 19) pa_nil))) (by rfl))) (fun _ _ _ _ _ => by exact (pv 12)))
      (pss_cons (ps_if (pt_cmpR (op_neLE hr.units0) (pv 21) (pe_lst pa_nil) (nomark _)) (pss_cons (ps_set (i := 14) sc_law.nd rfl (Or.inr rfl) (pe_op op_catA (pv 8) (pe_tup (pa_cons (pe_ix ix_list (pv 5) (pe_ix ix_list (pv 21) pe_int (fun _ _ => rfl)) (fun _ _ => rfl)) pa_nil))))
      (pss_cons (ps_set (i := 9) sc_law.nd rfl (Or.inl rfl) (pe_lst (pa_cons (pe_heard (k := 8) FA rfl gA bA TX TB rfl hmT hu (hr.mono (by decide)) (lamS_by (sc := defScope s_law) (by decide +kernel)) rfl (fun _ _ _ _ _ => rfl) (fun A2 outer2 s2 H2 E2 f2 c2 hr2 => (pe_call d_run_state.ok (hr2.mono (by decide)) rfl d_run_state.g d_run_state.kp d_run_state.b .nil (passes_call (takes_of rfl rfl rfl rfl) (fun _ _ _ _ h => h)) (pa_cons (pv 3) (pa_cons (pv 14) pa_nil))))) (pa_cons (pe_call d_is_run.ok (hr.mono (by decide)) rfl d_is_run.g d_is_run.kp d_is_run.b .nil pass0 (pa_cons (pv 3) (pa_cons (pv 14) pa_nil))) pa_nil))))
      (pss_one (ps_if (pt_not (pt_val (pe_call d__law_alike.ok (hr.mono (by decide)) rfl d__law_alike.g d__law_alike.kp d__law_alike.b .nil pass0 (pa_cons (pe_op op_cat (pv 9) (pe_lst (pa_cons (pe_call d_last_fine.ok (hr.mono (by decide)) rfl d_last_fine.g d_last_fine.kp d_last_fine.b .nil pass0 (pa_cons (pv 3) (pa_cons (pv 14) pa_nil))) pa_nil))) (pa_cons (pe_lst (pa_cons (pe_tup (pa_cons pe_str (pa_cons pe_str pa_nil))) (pa_cons pe_bl (pa_cons (pe_callB call_len (by rfl) T.n_len (by decide +kernel) (pa_cons (pv 8) pa_nil)) pa_nil)))) pa_nil))))) (pss_one (ps_ret pe_bl)) pss_nil)))) pss_nil)
      (pss_cons (ps_for PassesOwn.never rfl (pi_tup (pe_tup (pa_cons (pe_op op_catA (pv 8) (pe_tup (pa_cons pe_str pa_nil))) (pa_cons (pe_op op_catA (pe_tup (pa_cons pe_str pa_nil)) (pv 8)) pa_nil)))) (pg_name (i := 14) sc_law.nd rfl (Or.inr rfl)) (pss_cons (ps_set (i := 9) sc_law.nd rfl (Or.inl rfl) (pe_lst (pa_cons (pe_heard (k := 8) FA rfl gA bA TX TB rfl hmT hu (hr.mono (by decide)) (lamS_by (sc := defScope s_law) (by decide +kernel)) rfl (fun _ _ _ _ _ => rfl) (fun A2 outer2 s2 H2 E2 f2 c2 hr2 => (pe_call d_run_states.ok (hr2.mono (by decide)) rfl d_run_states.g d_run_states.kp d_run_states.b .nil (passes_call (takes_of rfl rfl rfl rfl) (fun _ _ _ _ h => h)) (pa_cons (pv 3) (pa_cons (pv 14) pa_nil))))) (pa_cons (pe_call d_is_run.ok (hr.mono (by decide)) rfl d_is_run.g d_is_run.kp d_is_run.b .nil pass0 (pa_cons (pv 3) (pa_cons (pv 14) pa_nil))) pa_nil))))
      (pss_one (ps_if (pt_not (pt_val (pe_call d__law_alike.ok (hr.mono (by decide)) rfl d__law_alike.g d__law_alike.kp d__law_alike.b .nil pass0 (pa_cons (pv 9) (pa_cons (pe_lst (pa_cons (pe_tup (pa_cons pe_str (pa_cons pe_str pa_nil))) (pa_cons pe_bl pa_nil))) pa_nil))))) (pss_one (ps_ret pe_bl)) pss_nil))))
      (pss_cons (ps_if (PW.pt (pw_or (pt_cmpR op_isnot_bl (pe_call d_is_run.ok (hr.mono (by decide)) rfl d_is_run.g d_is_run.kp d_is_run.b .nil pass0 (pa_cons (pv 3) (pa_cons (pe_callTy call_list_of (by rfl) T.n_list (by decide +kernel) (pa_cons (pv 8) pa_nil)) pa_nil))) pe_bl (nomark _)) (pw_or1 (pt_cmpR op_isnot_bl (pe_call d_is_run.ok (hr.mono (by decide)) rfl d_is_run.g d_is_run.kp d_is_run.b .nil pass0 (pa_cons (pv 3) (pa_cons pe_non pa_nil))) pe_bl (nomark _))))) (pss_one (ps_ret pe_bl)) pss_nil)
      (pss_one (ps_if (PW.pt (pw_and (pt_cmpR op_notN (pv 4) pe_non (nomark _)) (pw_and1 (pt_cmpR op_le (pe_callB call_len (by rfl) T.n_len (by decide +kernel) (pa_cons (pv 4) pa_nil)) pe_int (nomark _))))) (pss_cons (ps_set (i := 10) sc_law.nd rfl (Or.inr rfl) (pe_call d__law_some.ok (hr.mono (by decide)) rfl d__law_some.g d__law_some.kp d__law_some.b .nil pass0 (pa_cons (pv 1) (pa_cons (pv 4) pa_nil))))
      (pss_cons (ps_par (i := 22) (j := 23) (by rfl) sc_law.nd rfl rfl (by decide) rfl rfl (pa_cons (pe_lam1 (kc := 6) (kl := 3) (kp := 20) (pn := "here") (t := tOp (rEqD K) (tVar 20) (tVar 10)) rfl gW FW.kp lk hcd bW sc__law_way rfl (lway_gives T d__law_first d__law_doable d__law_led) TB rfl hmT hu (hr.mono (by decide)) (lamS1_by (sc := defScope s_law) (by decide +kernel)) rfl sc_law.nd (fun _ => rfl) rfl (fun _ _ _ _ _ _ => rfl) (fun A outer s H f c' hr2 => by exact pe_cmpR (op_eqD hr2.units) (pv 20) (pv 10) (nomark _)) (pv 3)) (pa_cons (pe_call d__law_home.ok (hr.mono (by decide)) rfl d__law_home.g d__law_home.kp d__law_home.b .nil pass0 (pa_cons (pv 3) (pa_cons (pv 10) pa_nil))) pa_nil)) (by rfl))
      (pss_cons (ps_set (i := 13) sc_law.nd rfl (Or.inl rfl) (pe_ifExp (pt_cmpR op_isN (pv 23) pe_non (nomark _)) (pe_tup (pa_cons pe_str pa_nil)) (pe_tup (pa_cons pe_str (pa_cons (pe_call d__law_names.ok (hr.mono (by decide)) rfl d__law_names.g d__law_names.kp d__law_names.b .nil pass0 (pa_cons (pv 3) (pa_cons (pv 23) pa_nil))) pa_nil)))))
      (pss_one (ps_if (pt_not (pt_val (pe_call d__law_alike.ok (hr.mono (by decide)) rfl d__law_alike.g d__law_alike.kp d__law_alike.b .nil pass0 (pa_cons (pe_lst (pa_cons (pe_call d_way_to.ok (hr.mono (by decide)) rfl d_way_to.g d_way_to.kp d_way_to.b .nil passL (pa_cons (pv 3) (pa_cons (pv 10) pa_nil))) (pa_cons (pe_heard (k := 8) FA rfl gA bA TX TB rfl hmT hu (hr.mono (by decide)) (lamS_by (sc := defScope s_law) (by decide +kernel)) rfl (fun _ _ _ _ _ => rfl) (fun A2 outer2 s2 H2 E2 f2 c2 hr2 => (pe_call d_way_to_end.ok (hr2.mono (by decide)) rfl d_way_to_end.g d_way_to_end.kp d_way_to_end.b .nil (passes_call (takes_of rfl rfl rfl rfl) (fun _ _ _ _ h => h)) (pa_cons (pv 3) (pa_cons (pv 10) pa_nil))))) pa_nil))) (pa_cons (pe_lst (pa_cons (pe_call d__law_names.ok (hr.mono (by decide)) rfl d__law_names.g d__law_names.kp d__law_names.b .nil pass0 (pa_cons (pv 3) (pa_cons (pv 22) pa_nil))) (pa_cons (pv 13) pa_nil))) pa_nil))))) (pss_one (ps_ret pe_bl)) pss_nil))))) pss_nil))))))))))))))))
      (pss_one (ps_ret pe_bl)))), ?_⟩
    have hbig := sl_big
    refine seq_join (t := tAsg _ _) (fun σ' H' => ∃ b, LpI Tt a b σ' H') (fun N kN => ?_) ?_
    · exact ⟨_, rfl, a, ns, rfl, hS, fun H1 b s1 hB1 _ => kN _ _ ⟨b, none, none, none, none, none, none, none, none, none, none, none, none, none, none, none, none, none, none, none, none, none, none, rfl, hB1, fun p hp => (hT p hp).ext fun y o e => s1 y o e⟩⟩
    rintro σ1 H1 ⟨b, hL1⟩
    refine seq_join (t := tFor _ _ _) (fun _ _ => True) (fun N kN => ?_) ?_
    · refine ⟨3, rfl, by omega, by omega, for_range (lo := 0) (n := (3 : Int).toNat) (fun i σ H => LpI Tt a b σ H) hL1 ?_ fun σ' H' h => kN _ _ trivial⟩
      clear hL1 hS hT kN
      rintro i σ H0 hi ⟨c2, c3, c4, c5, c6, c7, c8, c9, c10, c11, c12, c13, c14, c15, c16, c17, c18, c19, c20, c21, c22, c23, rfl, hB0, hT0⟩
      refine seq_join (t := tAsg _ _) (fun σ' H' => ∃ v N, σ' = [some (.ref a), some (.ref b), some (.int (0 + (i : Nat))), some v, c4, c5, c6, c7, c8, c9, c10, c11, c12, c13, c14, c15, c16, c17, c18, c19, c20, c21, c22, c23, none] ∧ JN Tt b H' v N) (fun N kN => ?_) ?_
      · refine ⟨_, rfl, b, 2, rfl, hB0, by decide, by decide, fun H1 z sb1 hB1 _ _ => ⟨rfl, _, rfl, ?_⟩⟩
        cases decide (V.int z = V.int 0) with
        | true => exact iteT ⟨_, rfl, b, rfl, hB1, fun H2 v N sb2 hB2 hN hG => kN _ _ ⟨v, N, rfl, hB2, tabs_sb hB0 hT0 (sb1.trans sb2), hN, hG⟩⟩
        | false => exact iteF ⟨_, rfl, b, rfl, hB1, fun H2 v N sb2 hB2 hN hG => kN _ _ ⟨v, N, rfl, hB2, tabs_sb hB0 hT0 (sb1.trans sb2), hN, hG.g⟩⟩
      clear hB0 hT0
      rintro σ H1 ⟨v, N, rfl, j1⟩
      have hO := j1.good.ok
      have hNn : NnO N := j1.good.nn
      refine seq_join (t := tPar _ _ _) (fun σ' H' => ∃ mv np, σ' = [some (.ref a), some (.ref b), some (.int (0 + (i : Nat))), some v, some mv, some (.ref np), c6, c7, c8, c9, c10, c11, c12, c13, c14, c15, c16, c17, c18, c19, c20, c21, c22, c23, none] ∧ FX Tt b H1 H' ∧ MetV (dlt H' b) N mv ∧ dlt H' b np = some (.lst ((N.steps.map (·.nm)).map V.str))) (fun N0 kN => ?_) ?_
      · refine te_join (te := tCall sp_lmet [] E0 _) (R := fun mv H' => Same H1 H' ∧ MetV (dlt H' b) N mv) (fun Q kQ => ?_) ?_
        · refine ⟨_, rfl, v, N, rfl, j1.nt, hO, fun e H' s => kQ _ _ ⟨s, .inl ⟨rfl, e⟩⟩, fun M e H' p A s n h hS hA => kQ _ _ ⟨s, .inr ⟨p, A, rfl, dlt_at h (bag_ne j1.bag n), Sts.sk hS ?_, by rw [e, hA]⟩⟩⟩
          obtain ⟨xb, hxb⟩ := bag_at (j1.bag.same s)
          exact fun a o e z => dlt_at e fun y => by
            rw [y, hxb] at e
            cases e
            rcases z with ⟨_, w⟩ | ⟨_, _, w⟩ <;> cases w
        rintro mv H2 ⟨s2, hmv⟩
        have j2 := j1.fx (FX.of s2)
        obtain ⟨na, pp, pn, pt, sx, hna, h0, h1, h2, h3, h4⟩ := j2.nt
        subst hna
        have hln := h4.length
        have hst := hO.st
        refine ⟨_, rfl, na, _, 3, _, rfl, rfl, SqT.of h0, rfl, pt, rfl, ⟨_, SqT.of h3⟩, fun D hD => lc_tup (K := K) (a := pt) (xs := sx) (fun i H' => Fill H2 D (((N.steps.take i).map (·.nm)).map V.str) H') (.start hD) (fun i H' _ fl => SqT.of (fl.same _ _ h3)) ?_ ?_⟩
        · rintro i x H' hx fl
          obtain ⟨s, hs, ta, ti, to, tt, te, rfl, g0, _⟩ := paired_getL h4 hx
          refine ⟨wipe1 (List.mem_singleton.mpr rfl), _, rfl, ta, _, 0, _, rfl, rfl, SqT.of (fl.same _ _ g0), rfl, _, fl.at_, ?_, fl.add ?_⟩
          · rw [List.length_map, List.length_map, List.length_take]
            exact Nat.lt_of_lt_of_le (by omega) sl_big
          · rw [take_add hs, List.map_append, List.map_append]
            rfl
        · rintro H' fl
          rw [hln, List.take_length] at fl
          have f3 : FX Tt b H2 H' := FX.of fl.same
          exact ⟨_, _, rfl, kN _ _ ⟨mv, D, rfl, (FX.of s2).trans f3, hmv.fx f3, dlt_at fl.at_ (bag_ne j2.bag hD)⟩⟩
      rintro σ H2 ⟨mv, np, rfl, f12, hmv, hnms⟩
      have j2 := j1.fx f12
      refine seq_join (t := tIfS _ _ _) (fun σ' H' => σ' = [some (.ref a), some (.ref b), some (.int (0 + (i : Nat))), some v, some mv, some (.ref np), c6, c7, c8, c9, c10, c11, c12, c13, c14, c15, c16, c17, c18, c19, c20, c21, c22, c23, none] ∧ FX Tt b H2 H') (fun N0 kN => ?_) ?_
      · refine ⟨_, rfl, v, N, rfl, j2.nt, hO, fun H3 p1 s3 hp1 => ?_⟩
        refine te_join (te := tCall sp_met [] E0 _) (R := fun m H' => Same H3 H' ∧ Rp H' m (metD (metS N))) (fun Q kQ => ?_) ?_
        · refine ⟨_, rfl, v, N, rfl, j2.nt.same s3, hO, fun e H' s => kQ _ _ ⟨s, by rw [e]; exact .non⟩, fun M e H' p A s h hS hA => kQ _ _ ⟨s, by rw [e, ← hA]; exact .tup h (rp_stas hS)⟩⟩
        rintro m4 H4 ⟨s4, hm4⟩
        refine ⟨_, rfl, v, N, rfl, j2.nt.same (s3.trans s4), hO, fun H5 s5 => ⟨line_le 3 (by decide), fun l1 n1 => ?_⟩⟩
        have g1 := same_upd (o := .lst [.ref p1, m4, .bl (metS N).isNone]) n1
        have h1 := @upd_same H5 l1 (.lst [.ref p1, m4, .bl (metS N).isNone])
        generalize upd H5 l1 (.lst [.ref p1, m4, .bl (metS N).isNone]) = H6 at g1 h1 ⊢
        have s26 := ((s3.trans s4).trans s5).trans g1
        refine ⟨_, rfl, v, N, rfl, j2.nt.same s26, hO, fun H7 p2 s7 hp2 => ?_⟩
        refine te_join (te := tIf _ _ _) (R := fun m H' => Same H7 H' ∧ Rp H' m (metD (metS N))) (fun Q kQ => ?_) ?_
        · refine ⟨_, rfl, rfl, _, rfl, ?_⟩
          rcases hmv with ⟨rfl, e⟩ | ⟨mp, B, rfl, hm, hB, e⟩
          · rw [decide_eq_true rfl]
            exact iteT (kQ _ _ ⟨Same.refl _, by rw [e]; exact .non⟩)
          · rw [decide_eq_false (fun z : V.ref mp = V.non => by cases z)]
            refine iteF ⟨_, rfl, mp, _, rfl, .inl ⟨SqL.of ((s26.trans s7) _ _ (dlt_same _ _ _ _ hm)), fun p np => kQ _ _ ⟨same_upd np, ?_⟩⟩⟩
            rw [e]
            exact .tup upd_same (rp_stas (Sts.same hB ((dlt_same _ _).trans ((s26.trans s7).trans (same_upd np)))))
        rintro m8 H8 ⟨s8, hm8⟩
        have e : decide (mv = V.non) = (metS N).isNone := by
          rcases hmv with ⟨rfl, e⟩ | ⟨mp, B, rfl, hm, hB, e⟩
          · rw [decide_eq_true rfl, e]
            rfl
          · rw [decide_eq_false (fun z : V.ref mp = V.non => by cases z), e]
            rfl
        refine ⟨_, rfl, rfl, line_le 3 (by decide), fun l2 n2 => ?_⟩
        rw [e]
        have g2 := same_upd (o := .lst [.ref p2, m8, .bl (metS N).isNone]) n2
        have h2 := @upd_same H8 l2 (.lst [.ref p2, m8, .bl (metS N).isNone])
        generalize upd H8 l2 (.lst [.ref p2, m8, .bl (metS N).isNone]) = H9 at g2 h2 ⊢
        have s69 := (s7.trans s8).trans g2
        have z1 := metD_sz hO hNn
        have z2 := fst_sz hO
        refine ⟨.ref l1, .ref l2, .list [staD (fstS N), metD (metS N), .bool (metS N).isNone], rfl, .lst (s69 _ _ h1) (.cons (rp_sta (IsS.same hp1 (((s4.trans s5).trans g1).trans s69))) (.cons (hm4.same ((s5.trans g1).trans s69)) (.one (.bl _)))), .lst h2 (.cons (rp_sta (IsS.same hp2 (s8.trans g2))) (.cons (hm8.same g2) (.one (.bl _)))), ?_, ?_, fun H10 s10 => ⟨_, rfl, iteF (kN _ _ ⟨rfl, FX.of ((s26.trans s69).trans s10)⟩)⟩⟩
        · rw [nodic, nodics, nodics, nodics, sta_nodic, metD_nodic]
          rfl
        · rw [dsz, dszs, dszs, dsz1, show dsz (PyData.bool (metS N).isNone) = 1 from rfl]
          omega
      rintro σ H3 ⟨rfl, f23⟩
      have j3 := j2.fx f23
      replace hmv := hmv.fx f23
      replace hnms := f23.ls hnms
      refine seq_join (t := tAsg _ _) (fun σ' H' => ∃ wp sp l A T, σ' = [some (.ref a), some (.ref b), some (.int (0 + (i : Nat))), some v, some mv, some (.ref np), some (.ref wp), some (.ref sp), c8, c9, c10, c11, c12, c13, c14, c15, c16, c17, c18, c19, c20, c21, c22, c23, none] ∧ FX Tt b H3 H' ∧ dlt H' b wp = some (.tup (intsV l)) ∧ dlt H' b sp = some (.lst (rfs A)) ∧ Sts (dlt H' b) A ∧ Led N (fstS N) l (sts A) T ∧ l.length ≤ 8) (fun N0 kN => ?_) ?_
      · exact ⟨_, rfl, _, rfl, b, v, 8, N, rfl, j3.bag, j3.net, hO, by decide, by decide, fun H4 p wp sp l T A b4 hp hw hs hA hL hl => ⟨p, _, rfl, SqT.of (dlt_same _ _ _ _ hp), rfl, _, _, rfl, _, _, rfl, rfl, kN _ _ ⟨wp, sp, l, A, T, rfl, FX.bh b4, hw, hs, hA, hL, hl⟩⟩⟩
      rintro σ H4 ⟨wp, sp, l, Aa, Tl, rfl, f34, hwp, hsp, hA, hL, hl8⟩
      have j4 := j3.fx f34
      replace hmv := hmv.fx f34
      replace hnms := f34.ls hnms
      refine seq_join (t := tAsg _ _) (fun σ' H' => ∃ rp, σ' = sL a b (some (.int (0 + (i : Nat)))) v mv np wp sp rp c9 c10 c11 c12 c13 c14 c15 c16 c17 c18 c19 c20 c21 c22 c23 ∧ JL Tt b H' v mv N np wp sp rp l Aa Tl) (fun N0 kN => ?_) ?_
      · refine ⟨_, rfl, _, rfl, v, N, wp, l, rfl, j4.nt, hO, dlt_same _ _ _ _ hwp, by omega, hL.lt, fun H5 rp s5 h5 => kN _ _ ⟨rp, rfl, ?_⟩⟩
        have f5 : FX Tt b H4 H5 := FX.of s5
        exact ⟨j4.fx f5, hmv.fx f5, f5.ls hnms, f5.sk.tup hwp, f5.ls hsp, Sts.sk hA f5.sk, hL, hl8, dlt_at h5 (bag_tup (f5.bag j4.bag) h5)⟩
      clear f12 f23 f34 hmv hnms hwp hsp hA hl8 j1 j2 j3 j4 hL
      rintro σ H5 ⟨rp, rfl, j5⟩
      have hl8 := j5.len
      have hL := j5.led
      clear H0 H1 H2 H3 H4
      have hgo := go_run j5.n.good.nd hL
      have hgz := go_no j5.n.good.nd hL (o := some "zed") (os := [none]) (step_no j5.n.good.nz)
      have hlen := hL.len
      have hrp := dlt_same _ _ _ _ j5.run
      rw [← nmsO_v] at hrp
      have hln := nmsO_len N l
      refine seq_join (t := tAsg _ _) (fun σ' H' => ∃ fl, σ' = sL a b (some (.int (0 + (i : Nat)))) v mv np wp sp rp (some (.ref fl)) c10 c11 c12 c13 c14 c15 c16 c17 c18 c19 c20 c21 c22 c23 ∧ Same H5 H' ∧ Rp H' (.ref fl) (.list [.tuple ((sts Aa).map staD), staD Tl, .bool true, .int l.length, .int l.length])) (fun N0 kN => ?_) ?_
      · refine ⟨_, rfl, _, rfl, v, N, rp, nmsO N l, rfl, j5.n.nt, hO, hrp, by omega, fun _ H6 p1 A6 s6 hp1 hS6 hA6 => ?_, fun e he => by rw [hgo] at he; cases he⟩
        refine ⟨_, rfl, _, rfl, v, N, rp, nmsO N l, rfl, j5.n.nt.same s6, hO, s6 _ _ hrp, by omega, fun _ H7 p2 S7 s7 hp2 hS7 => ?_, fun e he => by rw [hgo] at he; cases he⟩
        refine ⟨_, rfl, _, rfl, v, .ref rp, N, .tuple ((nmsO N l).map nmD), rfl, j5.n.nt.same (s6.trans s7), hO, .tup ((s6.trans s7) _ _ hrp) (rpA_nm _), .inl ⟨rp, nmsO N l, rfl, (s6.trans s7) _ _ hrp, by omega, fun H8 s8 => ?_⟩⟩
        refine ⟨_, rfl, _, rfl, v, N, rp, nmsO N l, rfl, j5.n.nt.same ((s6.trans s7).trans s8), hO, ((s6.trans s7).trans s8) _ _ hrp, by omega, fun H9 s9 => ?_⟩
        have s59 := ((s6.trans s7).trans s8).trans s9
        refine ⟨_, rfl, _, rfl, line_le 2 (by decide), fun q1 n1 => ?_⟩
        have g1 := same_upd (o := .tup [V.str "zed", .non]) n1
        refine cat_new (g1 _ _ (s59 _ _ hrp)) upd_same ?_ fun H10 q2 s10 h10 => ?_
        · rw [List.length_map]
          show (nmsO N l).length + 2 ≤ sizeLine
          omega
        have s510 := (s59.trans g1).trans s10
        refine ⟨v, N, q2, nmsO N l ++ [some ("zed" : Str), none], rfl, j5.n.nt.same s510, hO, by rw [h10, List.map_append]; rfl, by rw [List.length_append]; show (nmsO N l).length + 2 ≤ 100; omega, fun H11 s11 => ⟨line_le 5 (by decide), fun fl nf => ?_⟩⟩
        rw [hgo, hgz]
        have hl1 : ((sts Aa).length - 1 : Nat) = l.length := by omega
        rw [hl1]
        have gf := same_upd (o := .lst [.ref p1, .ref p2, .bl true, .int (l.length : Nat), .int (l.length : Nat)]) nf
        have hTl : S7 = Tl := by
          rw [hgo, hL.last] at hS7
          exact (Option.some.inj hS7).symm
        subst hTl
        have hA6' : sts A6 = sts Aa := by rw [hA6, hgo]
        have s611 := (((((s7.trans s8).trans s9).trans g1).trans s10).trans s11).trans gf
        refine kN _ _ ⟨fl, rfl, s6.trans s611, .lst upd_same (.cons (.tup (s611 _ _ hp1) (by rw [← hA6']; exact rp_stas (hS6.same s611))) (.cons (rp_sta (IsS.same hp2 (((((s8.trans s9).trans g1).trans s10).trans s11).trans gf))) (.cons (.bl _) (.cons (.int _) (.one (.int _))))))⟩
      rintro σ H6 ⟨fl, rfl, s56, hfl⟩
      refine seq_join (t := tIfS _ _ _) (fun σ' H' => σ' = sL a b (some (.int (0 + (i : Nat)))) v mv np wp sp rp (some (.ref fl)) c10 c11 c12 c13 c14 c15 c16 c17 c18 c19 c20 c21 c22 c23 ∧ FX Tt b H5 H') (fun N0 kN => ?_) ?_
      · have hsp := s56 _ _ (dlt_same _ _ _ _ j5.st)
        have hrp6 := s56 _ _ hrp
        obtain ⟨A0, pT, hA0⟩ := as_last hL.last
        refine ⟨_, rfl, _, rfl, sp, _, rfl, .inl ⟨SqL.of hsp, fun p1 n1 => ?_⟩⟩
        have g1 := same_upd (o := .tup (rfs Aa)) n1
        have h1 := @upd_same H6 p1 (.tup (rfs Aa))
        generalize upd H6 p1 (.tup (rfs Aa)) = H7 at g1 h1 ⊢
        refine ⟨_, rfl, 1, rfl, sp, _, -1, .ref pT, rfl, rfl, SqL.of (g1 _ _ hsp), ?_, ?_⟩
        · rw [hA0, rfs_app]
          exact atI_last _ _
        refine ⟨_, rfl, .ref rp, l.length, rfl, .inr ⟨_, SqT.of (g1 _ _ hrp6), by rw [List.length_map, hln]⟩, _, rfl, .ref rp, l.length, rfl, .inr ⟨_, SqT.of (g1 _ _ hrp6), by rw [List.length_map, hln]⟩, line_le 5 (by decide), fun l2 n2 => ?_⟩
        have g2 := same_upd (o := .lst [.ref p1, .ref pT, .bl true, .int (l.length : Nat), .int (l.length : Nat)]) n2
        have hS8 := j5.sts.same ((dlt_same _ _).trans ((s56.trans g1).trans g2))
        have zz := stas_sz (N := N) hO (L := sts Aa) fun S hS => (hL.all (SOk N) (SOk.fst hO) fun S i h _ => h.ledI i).2 S hS
        have zT := sta_sz hO ((hL.all (SOk N) (SOk.fst hO) fun S i h _ => h.ledI i).1)
        refine ⟨.ref fl, .ref l2, _, rfl, hfl.same (g1.trans g2), .lst upd_same (.cons (.tup (g2 _ _ h1) (rp_stas hS8)) (.cons (rp_sta (hS8 (pT, Tl) (by rw [hA0]; exact List.mem_append_right _ (List.mem_singleton.mpr rfl)))) (.cons (.bl _) (.cons (.int _) (.one (.int _)))))), ?_, ?_, fun H10 s10 => ⟨_, rfl, iteF (kN _ _ ⟨rfl, FX.of (((s56.trans g1).trans g2).trans s10)⟩)⟩⟩
        · rw [nodic, nodics, nodics, nodics, sta_nodic, nodic, stas_nodic]
          rfl
        · rw [dsz, dszs, dszs, dsz, show dszs [PyData.bool true, .int l.length, .int l.length] = 3 from rfl]
          omega
      rintro σ H6 ⟨rfl, f56⟩
      have j6 := j5.fx f56
      clear hfl hrp
      refine seq_join (t := tFor _ _ _) (fun σ' H' => ∃ (c9 c10 c11 c12 c13 c14 c15 c16 c17 c18 c19 c20 c21 c22 c23 : Option V), σ' = sL a b (some (.int (0 + (i : Nat)))) v mv np wp sp rp c9 c10 c11 c12 c13 c14 c15 c16 c17 c18 c19 c20 c21 c22 c23 ∧ FX Tt b H6 H') (fun N0 kN => ?_) ?_
      · have hsp6 := dlt_same _ _ _ _ j6.st
        refine ⟨_, rfl, sp, rfl, ⟨_, SqL.of hsp6⟩, for_list (K := K) (a := sp) (xs := rfs Aa) (fun m σ' H' => ∃ (c9 c10 c11 c12 c13 c14 c15 c16 c17 c18 c19 c20 c21 c22 c23 : Option V), σ' = sL a b (some (.int (0 + (i : Nat)))) v mv np wp sp rp c9 c10 c11 c12 c13 c14 c15 c16 c17 c18 c19 c20 c21 c22 c23 ∧ FX Tt b H6 H') ⟨_, _, _, _, _, _, _, _, _, _, _, _, _, _, _, rfl, .refl _ _ _⟩ (fun m σ' H' _ ⟨_, _, _, _, _, _, _, _, _, _, _, _, _, _, _, _, f⟩ => SqL.of (dlt_same _ _ _ _ (j6.fx f).st)) ?_ (fun σ' H' h => kN _ _ h)⟩
        clear c9 c10 c11 c12 c13 c14 c15 c16 c17 c18 c19 c20 c21 c22 c23
        rintro m x σ' H7 hx ⟨c9, c10, c11, c12, c13, c14, c15, c16, c17, c18, c19, c20, c21, c22, c23, rfl, f67⟩
        have j7 := j6.fx f67
        obtain ⟨sa, S, hS, rfl⟩ := as_get hx
        have hSm : (sa, S) ∈ Aa := List.mem_of_getElem? hS
        have hSA : S ∈ sts Aa := List.mem_map_of_mem (f := (·.2)) hSm
        have hSO := (hL.all (SOk N) (SOk.fst hO) fun S i h _ => h.ledI i).2 S hSA
        have hSn := (hL.all Nn (nn_fst N) fun S i _ hm => led_nn hNn hm).2 S hSA
        have hS7 := j7.sts _ hSm
        dsimp only at hS7
        have hdl := doab_len N S
        have hst := hO.st
        refine seq_join (t := tAsg _ _) (fun σ' H' => ∃ mp, σ' = sL a b (some (.int (0 + (i : Nat)))) v mv np wp sp rp c9 (some (.ref sa)) (some (.ref mp)) c12 c13 c14 c15 c16 c17 c18 c19 c20 c21 c22 c23 ∧ FX Tt b H7 H' ∧ dlt H' b mp = some (.lst (intsV (doab N S)))) (fun N1 kN1 => ?_) ?_
        · exact ⟨_, rfl, _, rfl, v, N, sa, S, rfl, j7.n.nt, hO, IsS.same hS7 (dlt_same _ _), hSO, fun H8 p s8 n8 h8 => kN1 _ _ ⟨p, rfl, FX.of s8, dlt_at h8 (bag_ne j7.n.bag n8)⟩⟩
        rintro σ H8 ⟨mp, rfl, f78, hmp⟩
        have j8 := j7.fx f78
        have hS8 := IsS.sk hS7 f78.sk
        refine seq_join (t := tAsg _ _) (fun σ' H' => ∃ fl, σ' = sL a b (some (.int (0 + (i : Nat)))) v mv np wp sp rp (some (.ref fl)) (some (.ref sa)) (some (.ref mp)) c12 c13 c14 c15 c16 c17 c18 c19 c20 c21 c22 c23 ∧ Same H8 H' ∧ Rp H' (.ref fl) (.list [doD N S, .bool (endB S), mayD N S])) (fun N1 kN1 => ?_) ?_
        · refine ⟨_, rfl, _, rfl, v, N, sa, S, rfl, j8.n.nt, hO, IsS.same hS8 (dlt_same _ _), hSO, fun H9 p1 s9 h9 => ?_⟩
          refine ⟨_, rfl, _, rfl, v, sa, N, S, rfl, (IsS.same hS8 (dlt_same _ _)).same s9, hSO, hO, fun H10 s10 => ?_⟩
          have s810 := s9.trans s10
          have hnp := s810 _ _ (dlt_same _ _ _ _ j8.nms)
          have hsz : ((N.steps.map (·.nm)).map V.str).length = N.steps.length := by rw [List.length_map, List.length_map]
          refine ⟨_, rfl, .ref np, N.steps.length, rfl, .inl ⟨_, SqL.of hnp, hsz.symm⟩, _, rfl, by omega, by omega, fun D hD => ?_⟩
          refine lc_range (lo := 0) (n := N.steps.length) (fun k H' => Fill H10 D (mayV N S k) H') (.start hD) ?_ ?_
          · intro k H' hk fl
            rw [Int.zero_add]
            refine ⟨rfl, _, rfl, _, rfl, _, rfl, v, N, sa, S, k, rfl, j8.n.nt.same (s810.trans fl.same), hO, (IsS.same hS8 (dlt_same _ _)).same (s810.trans fl.same), hSO, hk, fun H11 e11 => ?_⟩
            exact ⟨_, (fl.ext e11).at_, small (by rw [mayV_len]; omega), (fl.ext e11).add (mayV_add N S k)⟩
          · intro H11 fl
            refine ⟨line_le 3 (by decide), fun l1 n1 => ?_⟩
            have gf := same_upd (o := .lst [.ref p1, .bl (endB S), .ref D]) n1
            exact kN1 _ _ ⟨l1, rfl, (s810.trans fl.same).trans gf, .lst upd_same (.cons (.tup (gf _ _ (fl.same _ _ (s10 _ _ h9))) (rpA_nats _)) (.cons (.bl _) (.one (rp_may (gf _ _ fl.at_)))))⟩
        rintro σ H9 ⟨fl, rfl, s89, hfl⟩
        refine seq_join (t := tIfS _ _ _) (fun σ' H' => σ' = sL a b (some (.int (0 + (i : Nat)))) v mv np wp sp rp (some (.ref fl)) (some (.ref sa)) (some (.ref mp)) c12 c13 c14 c15 c16 c17 c18 c19 c20 c21 c22 c23 ∧ FX Tt b H8 H') (fun N1 kN1 => ?_) ?_
        · have hmp9 := s89 _ _ (dlt_same _ _ _ _ hmp)
          have hS9 := (IsS.same hS8 (dlt_same _ _)).same s89
          refine ⟨_, rfl, _, rfl, mp, _, rfl, .inl ⟨SqL.of hmp9, fun p1 n1 => ?_⟩⟩
          have g1 := same_upd (o := .tup (intsV (doab N S))) n1
          have h1 := @upd_same H9 p1 (.tup (intsV (doab N S)))
          generalize upd H9 p1 (.tup (intsV (doab N S))) = H10 at g1 h1 ⊢
          have hpl := hO.pl
          have hpl2 := hO.pl2
          have hl1 := hSO.l1
          refine ⟨_, rfl, sa, S, rfl, IsS.same hS9 g1, (fun e => by rw [e] at hl1; change 0 = _ at hl1; omega), by omega, fun H11 s11 => ?_⟩
          have s911 := g1.trans s11
          have hnp := (s89.trans s911) _ _ (dlt_same _ _ _ _ j8.nms)
          have hsz : ((N.steps.map (·.nm)).map V.str).length = N.steps.length := by rw [List.length_map, List.length_map]
          refine ⟨_, rfl, .ref np, N.steps.length, rfl, .inl ⟨_, SqL.of hnp, hsz.symm⟩, _, rfl, by omega, by omega, fun D hD => ?_⟩
          refine lc_range (lo := 0) (n := N.steps.length) (fun k H' => Fill H11 D (mayV N S k) H') (.start hD) ?_ ?_
          · intro k H' hk fl
            rw [Int.zero_add]
            refine ⟨rfl, _, rfl, _, rfl, mp, _, rfl, .inl (SqL.of (fl.same _ _ (s911 _ _ hmp9))), rfl, flat_ints _, _, fl.at_, small (by rw [mayV_len]; omega), ?_⟩
            rw [show (if false = true then !inV (V.int ((k : Nat) : Int)) (intsV (doab N S)) else inV (V.int ((k : Nat) : Int)) (intsV (doab N S))) = mayI N S k from inV_doab N S k]
            exact fl.add (mayV_add N S k)
          · intro H12 fl
            refine ⟨line_le 3 (by decide), fun l2 n2 => ?_⟩
            rw [end_eq hSn]
            have gf := same_upd (o := .lst [.ref p1, .bl (endB S), .ref D]) n2
            have sa := (s911.trans fl.same).trans gf
            refine ⟨_, .ref l2, _, rfl, hfl.same sa, .lst upd_same (.cons (.tup (gf _ _ (fl.same _ _ (s11 _ _ h1))) (rpA_nats _)) (.cons (.bl _) (.one (rp_may (gf _ _ fl.at_))))), ?_, ?_, fun H13 s13 => ⟨_, rfl, iteF (kN1 _ _ ⟨rfl, FX.of ((s89.trans sa).trans s13)⟩)⟩⟩
            · rw [nodic, nodics, nodics, nodics, doD_nodic, mayD_nodic]
              rfl
            · rw [dsz, dszs, dszs, dsz1, doD_sz, mayD_sz, show dsz (PyData.bool (endB S)) = 1 from rfl]
              omega
        rintro σ H9' ⟨rfl, f89⟩
        clear s89 hfl H9
        have j9 := j8.fx f89
        have hS9 := IsS.sk hS8 f89.sk
        replace hmp := f89.ls hmp
        have hsz : ((N.steps.map (·.nm)).map V.str).length = N.steps.length := by rw [List.length_map, List.length_map]
        refine seq_join (t := tFor _ _ _) (fun σ' H' => ∃ (c12 c13 : Option V), σ' = sL a b (some (.int (0 + (i : Nat)))) v mv np wp sp rp (some (.ref fl)) (some (.ref sa)) (some (.ref mp)) c12 c13 c14 c15 c16 c17 c18 c19 c20 c21 c22 c23 ∧ FX Tt b H9' H') (fun N1 kN1 => ?_) ?_
        · refine ⟨_, rfl, .ref np, N.steps.length, rfl, .inl ⟨_, SqL.of (dlt_same _ _ _ _ j9.nms), hsz.symm⟩, ((N.steps.length : Nat) : Int), rfl, by omega, by omega, for_range (lo := 0) (n := ((N.steps.length : Nat) : Int).toNat) (fun k σ' H' => ∃ (c12 c13 : Option V), σ' = sL a b (some (.int (0 + (i : Nat)))) v mv np wp sp rp (some (.ref fl)) (some (.ref sa)) (some (.ref mp)) c12 c13 c14 c15 c16 c17 c18 c19 c20 c21 c22 c23 ∧ FX Tt b H9' H') ⟨_, _, rfl, .refl _ _ _⟩ ?_ (fun σ' H' h => kN1 _ _ h)⟩
          rintro k σ' H10 hk ⟨c12, c13, rfl, f910⟩
          have hk : k < N.steps.length := by omega
          have j10 := j9.fx f910
          have hS10 := IsS.sk hS9 f910.sk
          have hmp10 := f910.ls hmp
          rw [Int.zero_add]
          refine seq_join (t := tAsg _ _) (fun σ' H' => ∃ dp, σ' = sL a b (some (.int (0 + (i : Nat)))) v mv np wp sp rp (some (.ref fl)) (some (.ref sa)) (some (.ref mp)) (some (.int (k : Nat))) (some (.ref dp)) c14 c15 c16 c17 c18 c19 c20 c21 c22 c23 ∧ FX Tt b H10 H' ∧ Rp (dlt H' b) (.ref dp) (ledD N S (some k))) (fun N2 kN2 => ?_) ?_
          · refine ⟨_, rfl, _, rfl, mp, _, rfl, .inl (SqL.of (dlt_same _ _ _ _ hmp10)), rfl, flat_ints _, _, rfl, ?_⟩
            rw [show (if false = true then !inV (V.int ((k : Nat) : Int)) (intsV (doab N S)) else inV (V.int ((k : Nat) : Int)) (intsV (doab N S))) = mayI N S k from inV_doab N S k]
            cases hm : mayI N S k with
            | true =>
              refine iteT ⟨_, rfl, _, rfl, _, rfl, v, N, sa, S, k, rfl, j10.n.nt, hO, IsS.same hS10 (dlt_same _ _), hSO, hk, fun H11 p s11 hS11 => ⟨line_le 2 (by decide), fun q nq => ?_⟩⟩
              have f11 : FX Tt b H10 (upd H11 q (.tup [.str "told", .ref p])) := FX.of (s11.trans (same_upd nq))
              refine kN2 _ _ ⟨q, rfl, f11, ?_⟩
              show Rp _ _ (if mayI N S k = true then PyData.tuple [.str "told", staD (ledI N S k)] else .tuple [.str "refused", .str "step"])
              rw [if_pos hm]
              exact rp_tup (f11.bag j10.n.bag) upd_same (.cons (.str _) (.one (rp_sta (IsS.sk (IsS.same hS11 (same_upd nq)) (bag_skb (f11.bag j10.n.bag))))))
            | false =>
              refine iteF ⟨line_le 2 (by decide), fun q nq => ?_⟩
              have f11 : FX Tt b H10 (upd H10 q (.tup [.str "refused", .str "step"])) := FX.of (same_upd nq)
              refine kN2 _ _ ⟨q, rfl, f11, ?_⟩
              show Rp _ _ (if mayI N S k = true then PyData.tuple [.str "told", staD (ledI N S k)] else .tuple [.str "refused", .str "step"])
              rw [hm, if_neg (by decide)]
              exact rp_two (f11.bag j10.n.bag) upd_same
          rintro σ H11 ⟨dp, rfl, f1011, hdp⟩
          have j11 := j10.fx f1011
          have hS11 := IsS.sk hS10 f1011.sk
          refine hear_join (fun y H'' => FX Tt b H11 H'' ∧ Rp H'' y (ledD N S (some k))) j11.n.tab (fun J1 x1 t1 Q' kQ => ?_) ?_
          · have fJ : FX Tt b H11 J1 := FX.ext x1 t1
            have jJ := j11.fx fJ
            exact ⟨_, rfl, _, rfl, _, rfl, led_hear jJ.n hO (IsS.same (IsS.sk hS11 fJ.sk) (dlt_same _ _)) hSO (.int _) (fun i e _ => by injection e with e; exact congrArg some (Int.ofNat.inj e)) (fun i e => by injection e with e; rw [e]) fun x H' s r => kQ _ _ ⟨fJ.trans (.of s), r⟩⟩
          rintro y J ⟨fJ, ry⟩
          exact ⟨_, rfl, y, .ref dp, _, rfl, ry, (fJ.rp hdp).same (dlt_same _ _), ledD_nodic _ _ _, Nat.le_trans (ledD_sz hO hSO _) (by decide), fun J8 s8 => ⟨_, rfl, iteF ⟨_, _, rfl, (f910.trans f1011).trans (fJ.trans (.of s8))⟩⟩⟩
        clear c12 c13
        rintro σ H10 ⟨c12, c13, rfl, f910⟩
        have j10 := j9.fx f910
        have hS10 := IsS.sk hS9 f910.sk
        replace hmp := f910.ls hmp
        refine seq_join (t := tFor _ _ _) (fun σ' H' => ∃ (c14 : Option V), σ' = sL a b (some (.int (0 + (i : Nat)))) v mv np wp sp rp (some (.ref fl)) (some (.ref sa)) (some (.ref mp)) c12 c13 c14 c15 c16 c17 c18 c19 c20 c21 c22 c23 ∧ FX Tt b H10 H') (fun N1 kN1 => ?_) ?_
        · refine ⟨_, rfl, .ref np, N.steps.length, rfl, .inl ⟨_, SqL.of (dlt_same _ _ _ _ j10.nms), hsz.symm⟩, 1, rfl, line_le 5 (by decide), fun tb m7 => ?_⟩
          have g7 := same_upd (o := .tup [.int ((N.steps.length : Nat) : Int), .int (-1), .non, .bl true, .str "0"]) m7
          have h7 := @upd_same H10 tb (.tup [.int ((N.steps.length : Nat) : Int), .int (-1), .non, .bl true, .str "0"])
          have jA := j10.fx (FX.of (Tt := Tt) (b := b) g7)
          have hSA' := IsS.sk hS10 (FX.of (Tt := Tt) (b := b) g7).sk
          have hall : ∀ x ∈ [V.int ((N.steps.length : Nat) : Int), .int (-1), .non, .bl true, .str "0"], ∃ d : PyData, (∀ G : Hp, Rp G x d) ∧ ∀ i : Nat, d = .int i → mayI N S i = false := by
            intro x hx
            simp only [List.mem_cons, List.not_mem_nil, or_false] at hx
            rcases hx with rfl | rfl | rfl | rfl | rfl
            · refine ⟨.int _, fun _ => .int _, fun i e => ?_⟩
              injection e with e
              have e := Int.ofNat.inj e
              subst e
              cases hm : mayI N S N.steps.length with
              | false => rfl
              | true => exact absurd (mayI_lt hm) (Nat.lt_irrefl _)
            · exact ⟨.int (-1), fun _ => .int _, fun i e => by injection e with e; omega⟩
            · exact ⟨.none, fun _ => .non, fun i e => by cases e⟩
            · exact ⟨.bool true, fun _ => .bl _, fun i e => by cases e⟩
            · exact ⟨.str "0", fun _ => .str _, fun i e => by cases e⟩
          generalize upd H10 tb (.tup [.int ((N.steps.length : Nat) : Int), .int (-1), .non, .bl true, .str "0"]) = G7 at g7 h7 jA hSA' ⊢
          refine ⟨tb, rfl, ⟨_, SqT.of h7⟩, for_tup (K := K) (a := tb) (xs := [.int ((N.steps.length : Nat) : Int), .int (-1), .non, .bl true, .str "0"]) (fun m σ' H' => ∃ (c14 : Option V), σ' = sL a b (some (.int (0 + (i : Nat)))) v mv np wp sp rp (some (.ref fl)) (some (.ref sa)) (some (.ref mp)) c12 c13 c14 c15 c16 c17 c18 c19 c20 c21 c22 c23 ∧ FX Tt b G7 H') ⟨_, rfl, .refl _ _ _⟩ (fun m σ' H' _ hh => ?_) (fun m x σ' H' hx hh => ?_) fun σ' H' hh => ?_⟩
          · obtain ⟨_, _, fi⟩ := hh
            exact SqT.of (fi.tup jA.n.bag h7)
          · obtain ⟨c14', rfl, fi⟩ := hh
            obtain ⟨dx, rx, hx0⟩ := hall x (List.mem_of_getElem? hx)
            have ji := jA.fx fi
            have hSi := IsS.sk hSA' fi.sk
            refine hear_join (fun y H'' => FX Tt b H' H'' ∧ Rp H'' y (ledD N S none)) ji.n.tab (fun J1 x1 t1 Q' kQ => ?_) ?_
            · have fJ : FX Tt b H' J1 := FX.ext x1 t1
              have jJ := ji.fx fJ
              exact ⟨_, rfl, _, rfl, _, rfl, led_hear jJ.n hO (IsS.same (IsS.sk hSi fJ.sk) (dlt_same _ _)) hSO (rx _) (fun i e m => by rw [hx0 i e] at m; cases m) (fun i e => by cases e) fun x H' s r => kQ _ _ ⟨fJ.trans (.of s), r⟩⟩
            rintro y J ⟨fJ, ry⟩
            refine ⟨line_le 2 (by decide), fun p8 m8 => ?_⟩
            have g8 := same_upd (o := .tup [.str "refused", .str "step"]) m8
            exact ⟨y, .ref p8, .tuple [.str "refused", .str "step"], rfl, ry.same g8, ref_rp upd_same, rfl, by decide, fun J8 s8 => ⟨_, rfl, iteF ⟨_, rfl, fi.trans (fJ.trans (.of (g8.trans s8)))⟩⟩⟩
          · obtain ⟨c14', rfl, fi⟩ := hh
            exact kN1 _ _ ⟨_, rfl, (FX.of g7).trans fi⟩
        clear c14
        rintro σ H11 ⟨c14, rfl, f1011⟩
        have j11 := j10.fx f1011
        have hS11 := IsS.sk hS10 f1011.sk
        replace hmp := f1011.ls hmp
        have hsp1 := j11.n.good.s1
        refine seq_join (t := tPar _ _ _) (fun σ' H' => ∃ (x y : Nat), σ' = sL a b (some (.int (0 + (i : Nat)))) v mv np wp sp rp (some (.ref fl)) (some (.ref sa)) (some (.ref mp)) c12 c13 c14 (some (.int (x : Nat))) (some (.int (y : Nat))) c17 c18 c19 c20 c21 c22 c23 ∧ x < N.steps.length ∧ y < N.steps.length ∧ FX Tt b H11 H') (fun N1 kN1 => ?_) ?_
        · refine ⟨_, rfl, _, rfl, .ref np, N.steps.length, rfl, .inl ⟨_, SqL.of (dlt_same _ _ _ _ j11.nms), hsz.symm⟩, b, _, rfl, j11.n.bag, by omega, by omega, fun H12 z sb12 hB12 z0 z1 => ?_⟩
          have b12 : BH b H11 H12 := ⟨sb12, hB12⟩
          have j12 := j11.fx (FX.bh b12)
          refine ⟨_, rfl, _, rfl, .ref np, N.steps.length, rfl, .inl ⟨_, SqL.of (dlt_same _ _ _ _ j12.nms), hsz.symm⟩, b, _, rfl, hB12, by omega, by omega, fun H13 z' sb13 hB13 z0' z1' => ⟨_, _, rfl, ?_⟩⟩
          obtain ⟨x, rfl⟩ : ∃ x : Nat, z = (x : Nat) := ⟨z.toNat, by omega⟩
          obtain ⟨y, rfl⟩ : ∃ y : Nat, z' = (y : Nat) := ⟨z'.toNat, by omega⟩
          exact kN1 _ _ ⟨x, y, rfl, by omega, by omega, (FX.bh b12).trans (FX.bh ⟨sb13, hB13⟩)⟩
        rintro σ H12 ⟨x, y, rfl, hx12, hy12, f1112⟩
        have j12 := j11.fx f1112
        have hS12 := IsS.sk hS11 f1112.sk
        replace hmp := f1112.ls hmp
        refine ⟨Nat.zero_le _, fun ep nep => ?_⟩
        have gep := same_upd (o := .lst []) nep
        have hep := @upd_same H12 ep (.lst [])
        have mep := bag_ne j12.n.bag nep
        dsimp only [gName]
        refine seq_join (t := tFor _ _ _) (fun σ' H' => ∃ (c18 c19 c20 : Option V) (v1 v2 : V), σ' = sL a b (some (.int (0 + (i : Nat)))) v mv np wp sp rp (some (.ref fl)) (some (.ref sa)) (some (.ref mp)) c12 c13 c14 (some (.int (x : Nat))) (some (.int (y : Nat))) (some (.ref ep)) c18 c19 c20 c21 c22 c23 ∧ FX Tt b H12 H' ∧ H' ep = some (.lst [v1, v2]) ∧ EndV (dlt H' b) v1 (endO N S x y) ∧ EndV (dlt H' b) v2 (endO N S y x)) (fun N1 kN1 => ?_) ?_
        · refine ⟨_, rfl, _, rfl, line_le 2 (by decide), fun t1 m1 => ⟨_, rfl, _, rfl, line_le 2 (by decide), fun t2 m2 => ⟨line_le 2 (by decide), fun t3 m3 => ?_⟩⟩⟩
          have g1 := same_upd (o := .tup [.int (x : Nat), .int (y : Nat)]) m1
          have h1 := @upd_same (upd H12 ep (.lst [])) t1 (.tup [.int (x : Nat), .int (y : Nat)])
          have g2 := same_upd (o := .tup [.int (y : Nat), .int (x : Nat)]) m2
          have h2 := @upd_same (upd (upd H12 ep (.lst [])) t1 (.tup [.int (x : Nat), .int (y : Nat)])) t2 (.tup [.int (y : Nat), .int (x : Nat)])
          have g3 := same_upd (o := .tup [.ref t1, .ref t2]) m3
          have h3 := @upd_same (upd (upd (upd H12 ep (.lst [])) t1 (.tup [.int (x : Nat), .int (y : Nat)])) t2 (.tup [.int (y : Nat), .int (x : Nat)])) t3 (.tup [.ref t1, .ref t2])
          have h1 := g3 _ _ (g2 _ _ h1)
          have h2 := g3 _ _ h2
          have gall := (g1.trans g2).trans g3
          have hep3 := gall _ _ hep
          have s13 := gep.trans gall
          generalize upd (upd (upd (upd H12 ep (.lst [])) t1 (.tup [.int (x : Nat), .int (y : Nat)])) t2 (.tup [.int (y : Nat), .int (x : Nat)])) t3 (.tup [.ref t1, .ref t2]) = H13 at h1 h2 h3 hep3 s13 ⊢
          have f13 : FX Tt b H12 H13 := FX.of s13
          have j13 := j12.fx f13
          have hprs : ∀ (m : Nat) (z : V), [V.ref t1, .ref t2][m]? = some z → ∃ (t : Addr) (p q : Nat), z = .ref t ∧ H13 t = some (.tup [.int (p : Nat), .int (q : Nat)]) ∧ p < N.steps.length ∧ q < N.steps.length ∧ [(x, y), (y, x)][m]? = some (p, q) := by
            intro m z hz
            match m, hz with
            | 0, hz => exact ⟨t1, x, y, (Option.some.inj hz).symm, h1, hx12, hy12, rfl⟩
            | 1, hz => exact ⟨t2, y, x, (Option.some.inj hz).symm, h2, hy12, hx12, rfl⟩
            | _ + 2, hz => cases hz
          refine ⟨t3, rfl, ⟨_, SqT.of h3⟩, for_tup (K := K) (a := t3) (xs := [.ref t1, .ref t2]) (fun m σ' H' => ∃ (c18 c19 c20 : Option V) (vs : List V), σ' = sL a b (some (.int (0 + (i : Nat)))) v mv np wp sp rp (some (.ref fl)) (some (.ref sa)) (some (.ref mp)) c12 c13 c14 (some (.int (x : Nat))) (some (.int (y : Nat))) (some (.ref ep)) c18 c19 c20 c21 c22 c23 ∧ FX Tt b H12 H' ∧ SK H13 H' ∧ H' ep = some (.lst vs) ∧ Paired (EndV (dlt H' b)) vs (([(x, y), (y, x)].take m).map fun q => endO N S q.1 q.2)) ⟨_, _, _, [], rfl, f13, SK.refl _, hep3, .nil⟩ (fun m σ' H' _ hh => ?_) (fun m z σ' H' hz hh => ?_) fun σ' H' hh => ?_⟩
          · obtain ⟨_, _, _, _, _, _, fi, _⟩ := hh
            exact SqT.of (SK.tup fi h3)
          · obtain ⟨c18', c19', c20', vs, rfl, f0, fi, hepi, hvs⟩ := hh
            obtain ⟨t, p, q, rfl, ht, hp, hq, hm⟩ := hprs m z hz
            have hti := SK.tup fi ht
            have ji := j12.fx f0
            have hSi := IsS.sk hS12 f0.sk
            have hmpi := f0.ls hmp
            refine ⟨t, _, rfl, SqT.of hti, rfl, _, _, rfl, _, _, rfl, rfl, ?_⟩
            refine seq_join (t := tAsg _ _) (fun σ' H2 => ∃ hv, σ' = sL a b (some (.int (0 + (i : Nat)))) v mv np wp sp rp (some (.ref fl)) (some (.ref sa)) (some (.ref mp)) c12 c13 c14 (some (.int (x : Nat))) (some (.int (y : Nat))) (some (.ref ep)) (some (.int (p : Nat))) (some (.int (q : Nat))) (some hv) c21 c22 c23 ∧ Same H' H2 ∧ EndV (dlt H2 b) hv (if mayI N S p = true then some (ledI N S p) else none)) (fun N2 kN2 => ?_) ?_
            · refine ⟨_, rfl, _, rfl, mp, _, rfl, .inl (SqL.of (dlt_same _ _ _ _ hmpi)), rfl, flat_ints _, _, rfl, ?_⟩
              rw [show (if false = true then !inV (V.int ((p : Nat) : Int)) (intsV (doab N S)) else inV (V.int ((p : Nat) : Int)) (intsV (doab N S))) = mayI N S p from inV_doab N S p]
              cases hmy : mayI N S p with
              | true =>
                exact iteT ⟨_, rfl, _, rfl, _, rfl, v, N, sa, S, p, rfl, ji.n.nt, hO, IsS.same hSi (dlt_same _ _), hSO, hp, fun H2 pp s2 hS2 => kN2 _ _ ⟨.ref pp, rfl, s2, .inr ⟨pp, ledI N S p, rfl, if_pos hmy, IsS.sk hS2 (bag_skb (ji.n.bag.same s2))⟩⟩⟩
              | false => exact iteF (kN2 _ _ ⟨.non, rfl, Same.refl _, .inl ⟨rfl, by rw [hmy]; exact if_neg (by decide)⟩⟩)
            rintro σ H2 ⟨hv, rfl, s2, hhv⟩
            have f2 : FX Tt b H' H2 := FX.of s2
            have j2' := ji.fx f2
            have hep2 := s2 _ _ hepi
            have hlv := hvs.length
            have hlv2 : vs.length ≤ 2 := by
              rw [hlv, List.length_map, List.length_take]
              show min m 2 ≤ 2
              omega
            refine ⟨_, rfl, .inl ⟨rfl, _, SqL.of hep2⟩, ?_⟩
            refine te_join (te := tIf _ _ _) (R := fun ev H3 => Same H2 H3 ∧ EndV (dlt H3 b) ev (endO N S p q)) (fun Q kQ => ?_) ?_
            · rcases hhv with ⟨rfl, e⟩ | ⟨pp, S2, rfl, e, hS2⟩
              · have hmf : ¬ mayI N S p = true := fun z => by
                  rw [if_pos z] at e
                  cases e
                refine ⟨_, rfl, rfl, _, rfl, ?_⟩
                rw [decide_eq_true rfl]
                exact iteF (iteF (kQ _ _ ⟨Same.refl _, .inl ⟨rfl, if_neg hmf⟩⟩))
              · have hmt : mayI N S p = true := by
                  by_cases z : mayI N S p = true
                  · exact z
                  · rw [if_neg z] at e
                    cases e
                rw [if_pos hmt] at e
                cases (Option.some.inj e)
                refine ⟨_, rfl, rfl, _, rfl, ?_⟩
                rw [decide_eq_false (fun z : V.ref pp = V.non => by cases z)]
                refine iteT ⟨_, rfl, _, rfl, _, rfl, v, N, pp, _, q, rfl, j2'.n.nt, hO, IsS.same hS2 (dlt_same _ _), hSO.ledI p, hq, fun H4 s4 => ⟨_, rfl, ?_⟩⟩
                cases hmq : mayI N (ledI N S p) q with
                | true =>
                  refine iteT ⟨_, rfl, _, rfl, _, rfl, v, N, pp, _, q, rfl, j2'.n.nt.same s4, hO, (IsS.same hS2 (dlt_same _ _)).same s4, hSO.ledI p, hq, fun H5 r s5 hS5 => kQ _ _ ⟨s4.trans s5, .inr ⟨r, _, rfl, ?_, IsS.sk hS5 (bag_skb (j2'.n.bag.same (s4.trans s5)))⟩⟩⟩
                  unfold endO
                  rw [if_pos hmt, if_pos hmq]
                | false =>
                  refine iteF (kQ _ _ ⟨s4, .inl ⟨rfl, ?_⟩⟩)
                  unfold endO
                  rw [if_pos hmt, hmq]
                  rfl
            rintro ev H3 ⟨s3, hev⟩
            refine ⟨ep, vs, ev, rfl, rfl, s3 _ _ hep2, small (by omega), ?_⟩
            have hep3' := s3 _ _ hep2
            have sk3 := sk_dlt (b := b) (o := .lst (vs ++ [ev])) hep3'
            have hsub : [(x, y), (y, x)].take (m + 1) = [(x, y), (y, x)].take m ++ [(p, q)] := take_add hm
            refine ⟨_, _, _, vs ++ [ev], rfl, FX.own (f0.trans (FX.of (s2.trans s3))) nep hep3', SK.trans fi (SK.trans (SK.of (s2.trans s3)) (SK.lst hep3')), upd_same, ?_⟩
            rw [hsub, List.map_append]
            exact paired_add (Net.pm hvs fun _ _ z => EndV.sk z (SK.trans (FX.of (Tt := Tt) (b := b) (s2.trans s3)).sk sk3)) (hev.sk sk3)
          · obtain ⟨c18', c19', c20', vs, rfl, f0, fi, hepi, hvs⟩ := hh
            cases hvs with
            | cons r1 t =>
              cases t with
              | cons r2 t =>
                cases t
                exact kN1 _ _ ⟨_, _, _, _, _, rfl, f0, hepi, r1, r2⟩
        clear c18 c19 c20
        rintro σ H13 ⟨c18, c19, c20, v1, v2, rfl, f1213, hep13, hv1, hv2⟩
        have j13 := j12.fx f1213
        have hS13 := IsS.sk hS12 f1213.sk
        refine ⟨_, rfl, _, rfl, _, rfl, _, rfl, v, N, sa, S, x, y, rfl, j13.n.nt, hO, IsS.same hS13 (dlt_same _ _), hSO, hx12, hy12, fun H14 s14 => ?_⟩
        have hep14 := s14 _ _ hep13
        have w1 : EndV H14 v1 (endO N S x y) := hv1.sk (SK.of ((dlt_same _ _).trans s14))
        have w2 : EndV H14 v2 (endO N S y x) := hv2.sk (SK.of ((dlt_same _ _).trans s14))
        have hany : ([endD (endO N S x y), endD (endO N S y x)].any fun z => PyData.eqv z .none) = ((endO N S x y).isNone || (endO N S y x).isNone) := by
          show (PyData.eqv (endD (endO N S x y)) .none || (PyData.eqv (endD (endO N S y x)) .none || false)) = _
          rw [end_none, end_none, Bool.or_false]
        have fin : FX Tt b H6 H14 := ((((((f67.trans f78).trans f89).trans f910).trans f1011).trans f1112).trans f1213).trans (FX.of s14)
        refine ⟨_, rfl, .none, [endD (endO N S x y), endD (endO N S y x)], .non, .lst (SqL.of hep14) (.cons (end_dp w1) (.cons (end_dp w2) .nil)), rfl, end_shp _ _, _, rfl, ?_⟩
        rw [hany]
        cases hor : ((endO N S x y).isNone || (endO N S y x).isNone) with
        | true =>
          refine iteF ⟨rfl, _, rfl, ?_⟩
          rw [comm_none hor, decide_eq_true rfl]
          exact iteF ⟨_, _, _, _, _, _, _, _, _, _, _, _, _, _, _, rfl, fin⟩
        | false =>
          rw [Bool.or_eq_false_iff] at hor
          rcases w1 with ⟨_, e⟩ | ⟨q1, S1, rfl, e1, hS1⟩
          · rw [e] at hor
            cases hor.1
          rcases w2 with ⟨_, e⟩ | ⟨q2, S2, rfl, e2, hS2⟩
          · rw [e] at hor
            cases hor.2
          refine iteT ⟨_, rfl, ep, _, 0, _, rfl, rfl, SqL.of hep14, rfl, _, rfl, ep, _, 1, _, rfl, rfl, SqL.of hep14, rfl, eq_sta hS1 hS2 ⟨rfl, _, rfl, ?_⟩⟩
          rw [comm_some e1 e2, decide_eq_true rfl]
          exact iteF ⟨_, _, _, _, _, _, _, _, _, _, _, _, _, _, _, rfl, fin⟩
      clear c9 c10 c11 c12 c13 c14 c15 c16 c17 c18 c19 c20 c21 c22 c23
      rintro σ H7 ⟨c9, c10, c11, c12, c13, c14, c15, c16, c17, c18, c19, c20, c21, c22, c23, rfl, f67⟩
      have j7 := j6.fx f67
      obtain ⟨A0, pT, hA0⟩ := as_last hL.last
      have hTO := (hL.all (SOk N) (SOk.fst hO) fun S i h _ => h.ledI i).1
      have hlen := hL.len
      have hln := nmsO_len N l
      have hpTm : (pT, Tl) ∈ Aa := by
        rw [hA0]
        exact List.mem_append_right _ (List.mem_singleton.mpr rfl)
      have hsz : ((N.steps.map (·.nm)).map V.str).length = N.steps.length := by rw [List.length_map, List.length_map]
      have hst := hO.st
      refine ⟨_, rfl, 1, rfl, sp, _, -1, .ref pT, rfl, rfl, SqL.of (dlt_same _ _ _ _ j7.st), by rw [hA0, rfs_app]; exact atI_last _ _, ?_⟩
      dsimp only [gName]
      refine seq_join (t := tAsg _ _) (fun σ' H' => ∃ op, σ' = sL a b (some (.int (0 + (i : Nat)))) v mv np wp sp rp c9 c10 c11 c12 c13 c14 c15 c16 c17 c18 (some (.ref pT)) c20 (some (.ref op)) c22 c23 ∧ FX Tt b H7 H' ∧ dlt H' b op = some (.lst (intsV (offL N Tl N.steps.length)))) (fun N1 kN1 => ?_) ?_
      · refine ⟨_, rfl, .ref np, N.steps.length, rfl, .inl ⟨_, SqL.of (dlt_same _ _ _ _ j7.nms), hsz.symm⟩, _, rfl, by omega, by omega, fun D hD => ?_⟩
        refine lc_range (lo := 0) (n := N.steps.length) (fun k H' => Fill H7 D (intsV (offL N Tl k)) H') (.start hD) ?_ ?_
        · intro k H' hk fl
          rw [Int.zero_add]
          refine ⟨rfl, _, rfl, _, rfl, _, rfl, v, N, pT, Tl, rfl, j7.n.nt.same fl.same, hO, IsS.same (j7.sts _ hpTm) ((dlt_same _ _).trans fl.same), hTO, fun H8 p s8 n8 h8 => ?_⟩
          refine ⟨p, _, rfl, .inl (SqL.of h8), rfl, flat_ints _, _, rfl, ?_⟩
          have fl8 := fl.ext s8
          have ho := offL_len N Tl k
          rw [show (if true = true then !inV (V.int ((k : Nat) : Int)) (intsV (doab N Tl)) else inV (V.int ((k : Nat) : Int)) (intsV (doab N Tl))) = !mayI N Tl k from congrArg (!·) (inV_doab N Tl k)]
          have hadd := offL_add N Tl k
          cases hm : mayI N Tl k with
          | true =>
            rw [hm, if_pos rfl, List.append_nil] at hadd
            refine iteF ?_
            rw [hadd]
            exact fl8
          | false =>
            rw [hm, if_neg (by decide)] at hadd
            refine iteT ⟨_, rfl, _, fl8.at_, small (by unfold intsV; rw [List.length_map]; omega), fl8.add ?_⟩
            rw [hadd]
            unfold intsV
            rw [List.map_append]
            rfl
        · intro H8 fl
          exact kN1 _ _ ⟨D, rfl, FX.of fl.same, dlt_at fl.at_ (bag_ne j7.n.bag hD)⟩
      rintro σ H8 ⟨op, rfl, f78, hop⟩
      have j8 := j7.fx f78
      refine seq_join (t := tIfS _ _ _) (fun σ' H' => ∃ (c9 c14 : Option V), σ' = sL a b (some (.int (0 + (i : Nat)))) v mv np wp sp rp c9 c10 c11 c12 c13 c14 c15 c16 c17 c18 (some (.ref pT)) c20 (some (.ref op)) c22 c23 ∧ FX Tt b H8 H') (fun N1 kN1 => ?_) ?_
      · refine ⟨_, rfl, Nat.zero_le _, fun p0 hp0 => ⟨op, p0, _, rfl, rfl, SqL.of (same_upd hp0 _ _ (dlt_same _ _ _ _ hop)), SqL.of upd_same, _, rfl, ?_⟩⟩
        have f0 : FX Tt b H8 (upd H8 p0 (.lst [])) := FX.of (same_upd hp0)
        have hop1 := f0.ls hop
        generalize upd H8 p0 (.lst []) = H9 at f0 hop1 ⊢
        have j9 := j8.fx f0
        cases hof : offL N Tl N.steps.length with
        | nil => exact iteF (kN1 _ _ ⟨_, _, rfl, f0⟩)
        | cons o os =>
          rw [hof] at hop1
          have hoo := offL_mem (N := N) (S := Tl) (n := N.steps.length) (i := o) (by rw [hof]; exact List.mem_cons_self ..)
          have hgb := go_bad j9.n.good.nd hL hoo.1 hoo.2
          refine iteT ?_
          refine seq_join (t := tAsg _ _) (fun σ' H' => ∃ bp, σ' = sL a b (some (.int (0 + (i : Nat)))) v mv np wp sp rp c9 c10 c11 c12 c13 (some (.ref bp)) c15 c16 c17 c18 (some (.ref pT)) c20 (some (.ref op)) c22 c23 ∧ FX Tt b H9 H' ∧ dlt H' b bp = some (.tup ((nmsO N l ++ [some (nmAt N o)]).map nmV))) (fun N2 kN2 => ?_) ?_
          · refine ⟨_, rfl, _, rfl, _, rfl, op, _, 0, _, rfl, rfl, SqL.of (dlt_same _ _ _ _ hop1), atI_nat (j := 0) rfl, np, _, ((o : Nat) : Int), _, rfl, rfl, SqL.of (dlt_same _ _ _ _ j9.nms), atI_nat (nms_get hoo.1), line_le 1 (by decide), fun q1 n1 => ?_⟩
            have g1 := same_upd (o := .tup [V.str (nmAt N o)]) n1
            refine cat_new (g1 _ _ (dlt_same _ _ _ _ j9.run)) upd_same ?_ fun H10 q2 s10 h10 => ?_
            · rw [namesV_len]
              show l.length + 1 ≤ sizeLine
              omega
            have f10 : FX Tt b H9 H10 := FX.of (g1.trans s10)
            refine kN2 _ _ ⟨q2, rfl, f10, dlt_at ?_ (bag_tup (f10.bag j9.n.bag) h10)⟩
            rw [h10, List.map_append, nmsO_v]
            rfl
          rintro σ H10 ⟨bp, rfl, f910, hbp⟩
          have j10 := j9.fx f910
          have hbl : (nmsO N l ++ [some (nmAt N o)]).length ≤ 100 := by
            rw [List.length_append, List.length_singleton]
            omega
          refine seq_join (t := tAsg _ _) (fun σ' H' => ∃ fl y, σ' = sL a b (some (.int (0 + (i : Nat)))) v mv np wp sp rp (some (.ref fl)) c10 c11 c12 c13 (some (.ref bp)) c15 c16 c17 c18 (some (.ref pT)) c20 (some (.ref op)) c22 c23 ∧ FX Tt b H10 H' ∧ H' fl = some (.lst [y, .bl false]) ∧ Rp H' y (.tuple [.str "refused", .str "step"])) (fun N2 kN2 => ?_) ?_
          · refine hear_join (fun y H'' => FX Tt b H10 H'' ∧ Rp H'' y (.tuple [.str "refused", .str "step"])) j10.n.tab (fun J1 x1 t1 Q' kQ => ?_) ?_
            · have fJ : FX Tt b H10 J1 := FX.ext x1 t1
              have jJ := j10.fx fJ
              refine ⟨_, rfl, _, rfl, v, N, bp, _, rfl, jJ.n.nt, hO, dlt_same _ _ _ _ (fJ.sk.tup hbp), hbl, (fun e => by rw [hgb] at e; cases e), fun e he => ?_⟩
              rw [hgb] at he
              cases (Option.some.inj he)
              exact fun H' e s h => .inr (.inr ⟨rfl, e, _, rfl, h, fun H2 p s2 hp => kQ _ _ ⟨fJ.trans (.of (s.trans s2)), ref_rp hp⟩⟩)
            rintro y J ⟨fJ, ry⟩
            have jJ := j10.fx fJ
            have hbJ := dlt_same _ _ _ _ (fJ.sk.tup hbp)
            refine ⟨_, rfl, _, rfl, v, .ref bp, N, .tuple ((nmsO N l ++ [some (nmAt N o)]).map nmD), rfl, jJ.n.nt, hO, .tup hbJ (rpA_nm _), .inl ⟨bp, _, rfl, hbJ, hbl, fun J2 s2 => ⟨line_le 2 (by decide), fun fl nf => ?_⟩⟩⟩
            rw [hgb]
            have gf := same_upd (o := .lst [y, .bl false]) nf
            exact kN2 _ _ ⟨fl, y, rfl, fJ.trans (.of (s2.trans gf)), upd_same, ry.same (s2.trans gf)⟩
          rintro σ H11 ⟨fl, y, rfl, f1011, hfl, hy⟩
          have j11 := j10.fx f1011
          have hbp11 := dlt_same _ _ _ _ (f1011.sk.tup hbp)
          refine ⟨_, rfl, _, rfl, _, rfl, v, N, bp, _, rfl, j11.n.nt, hO, hbp11, hbl, fun H12 s12 => ⟨line_le 1 (by decide), fun l1 n1 => ?_⟩⟩
          rw [hgb]
          have hl1 : ((sts Aa).length - 1 : Nat) = l.length := by omega
          dsimp only
          rw [hl1]
          have g1 := same_upd (o := .lst [.int ((l.length : Nat) : Int)]) n1
          refine ⟨fl, l1, _, _, rfl, rfl, g1 _ _ (s12 _ _ hfl), upd_same, line_le 3 (by decide), fun l2 n2 => ?_⟩
          have g2 := same_upd (o := .lst ([y, .bl false] ++ [.int ((l.length : Nat) : Int)])) n2
          have h2 := @upd_same (upd H12 l1 (.lst [.int ((l.length : Nat) : Int)])) l2 (.lst ([y, .bl false] ++ [.int ((l.length : Nat) : Int)]))
          have s2 := (s12.trans g1).trans g2
          generalize upd (upd H12 l1 (.lst [.int ((l.length : Nat) : Int)])) l2 (.lst ([y, .bl false] ++ [.int ((l.length : Nat) : Int)])) = H13 at h2 s2 ⊢
          refine ⟨line_le 2 (by decide), fun t3 n3 => ⟨_, rfl, .ref rp, l.length, rfl, .inr ⟨_, SqT.of (same_upd n3 _ _ (s2 _ _ (dlt_same _ _ _ _ j11.run))), (namesV_len N l).symm⟩, line_le 3 (by decide), fun l4 n4 => ?_⟩⟩
          have g3 := same_upd (o := .tup [.str "refused", .str "step"]) n3
          have g4 := same_upd (o := .lst [.ref t3, .bl false, .int ((l.length : Nat) : Int)]) n4
          refine ⟨.ref l2, .ref l4, .list [.tuple [.str "refused", .str "step"], .bool false, .int l.length], rfl, .lst ((g3.trans g4) _ _ h2) (.cons (hy.same (s2.trans (g3.trans g4))) (.cons (.bl _) (.one (.int _)))), .lst upd_same (.cons (ref_rp (g4 _ _ upd_same)) (.cons (.bl _) (.one (.int _)))), rfl, by show 6 ≤ 1000000; omega, fun H14 s14 => ⟨_, rfl, iteF (kN1 _ _ ⟨_, _, rfl, (f0.trans f910).trans (f1011.trans (.of (s2.trans ((g3.trans g4).trans s14))))⟩)⟩⟩
      clear c9 c14
      rintro σ H9 ⟨c9, c14, rfl, f89⟩
      have j9 := j8.fx f89
      refine seq_join (t := tFor _ _ _) (fun σ' H' => ∃ (c9 c14 : Option V), σ' = sL a b (some (.int (0 + (i : Nat)))) v mv np wp sp rp c9 c10 c11 c12 c13 c14 c15 c16 c17 c18 (some (.ref pT)) c20 (some (.ref op)) c22 c23 ∧ FX Tt b H9 H') (fun N1 kN1 => ?_) ?_
      · have hrp := dlt_same _ _ _ _ j9.run
        rw [← nmsO_v] at hrp
        refine ⟨_, rfl, line_le 1 (by decide), fun q1 n1 => ?_⟩
        have g1 := same_upd (o := .tup [V.str "zed"]) n1
        refine cat_new (g1 _ _ hrp) upd_same ?_ fun H10 r1 s10 h10 => ?_
        · rw [List.length_map]
          show (nmsO N l).length + 1 ≤ sizeLine
          omega
        refine ⟨line_le 1 (by decide), fun q2 n2 => ⟨_, rfl, ?_⟩⟩
        have g2 := same_upd (o := .tup [V.str "zed"]) n2
        refine cat_new upd_same (((g1.trans s10).trans g2) _ _ hrp) ?_ fun H11 r2 s11 h11 => ?_
        · rw [List.length_map]
          show 1 + (nmsO N l).length ≤ sizeLine
          omega
        refine ⟨line_le 2 (by decide), fun tb n3 => ?_⟩
        have g3 := same_upd (o := .tup [.ref r1, .ref r2]) n3
        have h3 := @upd_same H11 tb (.tup [.ref r1, .ref r2])
        have k1 := (((g2.trans s11).trans g3) _ _ h10)
        have k2 := g3 _ _ h11
        have sall := ((((g1.trans s10).trans g2).trans s11).trans g3)
        have jA := j9.fx (FX.of (Tt := Tt) (b := b) sall)
        generalize upd H11 tb (.tup [.ref r1, .ref r2]) = G at g3 h3 k1 k2 sall jA ⊢
        have hall : ∀ x ∈ [V.ref r1, .ref r2], ∃ (r : Addr) (os : List (Option Str)), x = .ref r ∧ G r = some (.tup (os.map nmV)) ∧ os.length ≤ 100 ∧ (goF N (fstS N) os).2 = some (.nn (some "zed")) := by
          intro x hx
          simp only [List.mem_cons, List.not_mem_nil, or_false] at hx
          rcases hx with rfl | rfl
          · refine ⟨r1, nmsO N l ++ [some ("zed" : Str)], rfl, ?_, ?_, ?_⟩
            · rw [k1, List.map_append]
              rfl
            · rw [List.length_append, List.length_singleton]
              omega
            · rw [go_no jA.n.good.nd hL (step_no jA.n.good.nz)]
          · refine ⟨r2, some ("zed" : Str) :: nmsO N l, rfl, ?_, ?_, ?_⟩
            · rw [k2]
              rfl
            · rw [List.length_cons]
              omega
            · rw [goF_no (step_no jA.n.good.nz)]
        refine ⟨tb, rfl, ⟨_, SqT.of h3⟩, for_tup (K := K) (a := tb) (xs := [.ref r1, .ref r2]) (fun m σ' H' => ∃ (c9 c14 : Option V), σ' = sL a b (some (.int (0 + (i : Nat)))) v mv np wp sp rp c9 c10 c11 c12 c13 c14 c15 c16 c17 c18 (some (.ref pT)) c20 (some (.ref op)) c22 c23 ∧ FX Tt b G H') ⟨_, _, rfl, .refl _ _ _⟩ (fun m σ' H' _ hh => ?_) (fun m x σ' H' hx hh => ?_) fun σ' H' hh => ?_⟩
        · obtain ⟨_, _, _, fi⟩ := hh
          exact SqT.of (fi.tup jA.n.bag h3)
        · obtain ⟨c9', c14', rfl, fi⟩ := hh
          obtain ⟨r, os, rfl, hr, hos, hgo⟩ := hall x (List.mem_of_getElem? hx)
          have ji := jA.fx fi
          have hri := fi.tup jA.n.bag hr
          refine seq_join (t := tAsg _ _) (fun σ' H2 => ∃ fl, σ' = sL a b (some (.int (0 + (i : Nat)))) v mv np wp sp rp (some (.ref fl)) c10 c11 c12 c13 (some (.ref r)) c15 c16 c17 c18 (some (.ref pT)) c20 (some (.ref op)) c22 c23 ∧ FX Tt b H' H2 ∧ Rp H2 (.ref fl) (.list [.tuple [.str "no name", .str "zed"], .bool false])) (fun N2 kN2 => ?_) ?_
          · refine hear_join (fun y H'' => FX Tt b H' H'' ∧ Rp H'' y (.tuple [.str "no name", .str "zed"])) ji.n.tab (fun J1 x1 t1 Q' kQ => ?_) ?_
            · have fJ : FX Tt b H' J1 := FX.ext x1 t1
              have jJ := ji.fx fJ
              refine ⟨_, rfl, _, rfl, v, N, r, os, rfl, jJ.n.nt, hO, fJ.tup ji.n.bag hri, hos, (fun e => by rw [hgo] at e; cases e), fun e he => ?_⟩
              rw [hgo] at he
              cases (Option.some.inj he)
              exact fun H' e s h => .inr (.inl ⟨rfl, e, _, rfl, h, fun H2 p s2 hp => kQ _ _ ⟨fJ.trans (.of (s.trans s2)), ref_rp hp⟩⟩)
            rintro y J ⟨fJ, ry⟩
            have jJ := ji.fx fJ
            have hbJ := fJ.tup ji.n.bag hri
            refine ⟨_, rfl, _, rfl, v, .ref r, N, .tuple (os.map nmD), rfl, jJ.n.nt, hO, .tup hbJ (rpA_nm _), .inl ⟨r, os, rfl, hbJ, hos, fun J2 s2 => ⟨line_le 2 (by decide), fun fl nf => ?_⟩⟩⟩
            rw [hgo]
            have gf := same_upd (o := .lst [y, .bl false]) nf
            exact kN2 _ _ ⟨fl, rfl, fJ.trans (.of (s2.trans gf)), .lst upd_same (.cons (ry.same (s2.trans gf)) (.one (.bl _)))⟩
          rintro σ H2 ⟨fl, rfl, f2, hfl⟩
          refine ⟨_, rfl, line_le 2 (by decide), fun t3 n3 => ⟨line_le 2 (by decide), fun l4 n4 => ?_⟩⟩
          have g3 := same_upd (o := .tup [.str "no name", .str "zed"]) n3
          have g4 := same_upd (o := .lst [.ref t3, .bl false]) n4
          exact ⟨.ref fl, .ref l4, _, rfl, hfl.same (g3.trans g4), .lst upd_same (.cons (ref_rp (g4 _ _ upd_same)) (.one (.bl _))), rfl, by show 5 ≤ 1000000; omega, fun H14 s14 => ⟨_, rfl, iteF ⟨_, _, rfl, (fi.trans f2).trans (.of ((g3.trans g4).trans s14))⟩⟩⟩
        · obtain ⟨c9', c14', rfl, fi⟩ := hh
          exact kN1 _ _ ⟨_, _, rfl, (FX.of sall).trans fi⟩
      clear c9 c14
      rintro σ H10 ⟨c9, c14, rfl, f910⟩
      have j10 := j9.fx f910
      refine seq_join (t := tIfS _ _ _) (fun σ' H' => σ' = sL a b (some (.int (0 + (i : Nat)))) v mv np wp sp rp c9 c10 c11 c12 c13 c14 c15 c16 c17 c18 (some (.ref pT)) c20 (some (.ref op)) c22 c23 ∧ FX Tt b H10 H') (fun N1 kN1 => ?_) ?_
      · have hrp := dlt_same _ _ _ _ j10.run
        rw [← nmsO_v] at hrp
        refine ⟨_, rfl, _, rfl, rp, _, rfl, .inr (SqT.of hrp), fun lp n1 => ?_⟩
        have g1 := same_upd (o := .lst ((nmsO N l).map nmV)) n1
        refine ⟨v, .ref lp, N, .list ((nmsO N l).map nmD), rfl, j10.n.nt.same g1, hO, .lst upd_same (rpA_nm _), .inr ⟨fun ds e => (by cases e), false, false, rfl, rfl, _, rfl, ?_⟩⟩
        refine iteF ⟨_, rfl, v, .non, N, .none, rfl, j10.n.nt.same g1, hO, .non, .inr ⟨fun ds e => (by cases e), false, false, rfl, rfl, _, rfl, ?_⟩⟩
        exact iteF (kN1 _ _ ⟨rfl, FX.of g1⟩)
      rintro σ H11 ⟨rfl, f1011⟩
      have j11 := j10.fx f1011
      have fin : ∀ (c9 c10 c11 c12 c13 c14 c15 c16 c17 c18 c19 c20 c21 c22 c23 : Option V) (H' : Hp), FX Tt b H11 H' → LpI Tt a b (sL a b (some (.int (0 + (i : Nat)))) v mv np wp sp rp c9 c10 c11 c12 c13 c14 c15 c16 c17 c18 c19 c20 c21 c22 c23) H' := fun c9 c10 c11 c12 c13 c14 c15 c16 c17 c18 c19 c20 c21 c22 c23 H' f => ⟨_, _, _, _, _, _, _, _, _, _, _, _, _, _, _, _, _, _, _, _, _, _, rfl, f.bag j11.n.bag, f.tab j11.n.bag j11.n.tab⟩
      refine ⟨_, rfl, rfl, _, rfl, ?_⟩
      rcases j11.met with ⟨rfl, _⟩ | ⟨mp, B, rfl, hmp, hB, e⟩
      · rw [decide_eq_true rfl]
        exact iteF (iteF (fin _ _ _ _ _ _ _ _ _ _ _ _ _ _ _ _ (.refl _ _ _)))
      rw [decide_eq_false (fun z : V.ref mp = V.non => by cases z)]
      refine iteT ⟨_, rfl, .ref mp, (rfs B).length, rfl, .inl ⟨_, SqL.of (dlt_same _ _ _ _ hmp), rfl⟩, _, _, rfl, rfl, _, rfl, ?_⟩
      by_cases hB200 : (((rfs B).length : Nat) : Int) ≤ 200
      case neg =>
        rw [decide_eq_false hB200]
        exact iteF (fin _ _ _ _ _ _ _ _ _ _ _ _ _ _ _ _ (.refl _ _ _))
      rw [decide_eq_true hB200]
      have hM := met_ok hO hNn e
      have hMl : (sts B).length ≤ 200 := by
        rw [sts_len]
        rw [rfs_len] at hB200
        omega
      have hBne : rfs B ≠ [] := fun z => by
        have h0 := hM.fst
        have : B = [] := List.map_eq_nil_iff.mp z
        rw [this] at h0
        cases h0
      refine iteT ⟨_, rfl, _, rfl, b, mp, _, rfl, j11.n.bag, dlt_some hmp, dlt_same _ _ _ _ hmp, hBne, by omega, fun H12 sv sb12 hB12 hsv => ?_⟩
      obtain ⟨⟨sa, S⟩, hSB, rfl⟩ := List.mem_map.mp hsv
      have f1112 : FX Tt b H11 H12 := .sb sb12
      have j12 := j11.fx f1112
      have hS12 := IsS.sk (hB _ hSB) f1112.sk
      have hSM : S ∈ sts B := List.mem_map_of_mem (f := (·.2)) hSB
      have hSn := hM.nn S hSM
      dsimp only at hS12
      obtain ⟨lw, hlw⟩ := way_met hO hNn e hSM hMl
      dsimp only [gName]
      refine seq_join (t := tPar _ _ _) (fun σ' H' => ∃ r hv, σ' = sL a b (some (.int (0 + (i : Nat)))) v (.ref mp) np wp sp rp c9 (some (.ref sa)) c11 c12 c13 c14 c15 c16 c17 c18 (some (.ref pT)) c20 (some (.ref op)) (some (.ref r)) (some hv) ∧ FX Tt b H12 H' ∧ dlt H' b r = some (.tup (intsV lw)) ∧ WayV (dlt H' b) hv (wayF N endB S)) (fun N1 kN1 => ?_) ?_
      · refine te_join (te := tL1 _ _ _ _ _) (R := fun y H' => ∃ r, y = .ref r ∧ FX Tt b H12 H' ∧ dlt H' b r = some (.tup (intsV lw))) (fun Q kQ => ?_) ?_
        · refine ⟨_, rfl, j12.n.tab, fun H13 x13 t13 => ?_⟩
          have f13 : FX Tt b H12 H13 := FX.ext x13 t13
          have j13 := j12.fx f13
          have hS13 := IsS.sk hS12 f13.sk
          refine ⟨v, N, sts B, fun T => decide (T = S), rfl, j13.n.nt, hO, hM.clo, hM.fst, hMl, fun H' bb T s hbb hTO Q' q => ?_, fun z => ?_, fun l' hl' H' r s hr => ?_⟩
          · exact ⟨_, rfl, _, rfl, eq_sta hbb (IsS.same hS13 ((dlt_same _ _).trans s)) (q H' (Same.refl _))⟩
          · rw [hlw] at z
            cases z
          · rw [hlw] at hl'
            cases (Option.some.inj hl')
            have fr := f13.trans (FX.of (Tt := Tt) (b := b) s)
            exact kQ _ _ ⟨r, rfl, fr, dlt_at hr (bag_tup (fr.bag j12.n.bag) hr)⟩
        rintro y H13 ⟨r, rfl, f13, hr⟩
        have j13 := j12.fx f13
        have hS13 := IsS.sk hS12 f13.sk
        refine te_join (te := tCall sp_lhome _ _ _) (R := fun y H' => Same H13 H' ∧ WayV (dlt H' b) y (wayF N endB S)) (fun Q kQ => ?_) ?_
        · refine ⟨_, rfl, _, rfl, v, sa, N, S, sts B, rfl, j13.n.nt, hO, IsS.same hS13 (dlt_same _ _), hM.clo, hSM, hMl, fun z H' s => kQ _ _ ⟨s, ?_⟩, fun l' hl' H' r' s hr' => kQ _ _ ⟨s, ?_⟩⟩
          · rw [← way_end hNn hSn, z]
            rfl
          · rw [← way_end hNn hSn, hl']
            exact ⟨r', rfl, dlt_at hr' (bag_tup (j13.n.bag.same s) hr')⟩
        rintro hv H14 ⟨s14, hhv⟩
        have f14 : FX Tt b H13 H14 := FX.of s14
        exact ⟨_, _, rfl, kN1 _ _ ⟨r, hv, rfl, f13.trans f14, f14.sk.tup hr, hhv⟩⟩
      rintro σ H13 ⟨r, hv, rfl, f1213, hr, hhv⟩
      have j13 := j12.fx f1213
      have hS13 := IsS.sk hS12 f1213.sk
      refine seq_join (t := tAsg _ _) (fun σ' H' => ∃ dp, σ' = sL a b (some (.int (0 + (i : Nat)))) v (.ref mp) np wp sp rp c9 (some (.ref sa)) c11 c12 (some (.ref dp)) c14 c15 c16 c17 c18 (some (.ref pT)) c20 (some (.ref op)) (some (.ref r)) (some hv) ∧ FX Tt b H13 H' ∧ Rp (dlt H' b) (.ref dp) (dueD N (wayF N endB S))) (fun N1 kN1 => ?_) ?_
      · refine ⟨_, rfl, rfl, _, rfl, ?_⟩
        cases hw : wayF N endB S with
        | none =>
          rw [hw] at hhv
          subst hhv
          rw [decide_eq_true rfl]
          refine iteT ⟨line_le 1 (by decide), fun q nq => ?_⟩
          have f14 : FX Tt b H13 (upd H13 q (.tup [.str "nothing"])) := FX.of (same_upd nq)
          refine kN1 _ _ ⟨q, rfl, f14, ?_⟩
          rw [hw]
          exact rp_tup (f14.bag j13.n.bag) upd_same (.one (.str _))
        | some lh =>
          rw [hw] at hhv
          obtain ⟨rh, rfl, hrh⟩ := hhv
          have hwo := wayF_ok hw
          rw [decide_eq_false (fun z : V.ref rh = V.non => by cases z)]
          refine iteF ⟨_, rfl, _, rfl, v, N, rh, lh, rfl, j13.n.nt, hO, dlt_same _ _ _ _ hrh, by omega, hwo.2, fun H14 p s14 hp => ⟨line_le 2 (by decide), fun q nq => ?_⟩⟩
          have g14 := same_upd (o := .tup [.str "told", .ref p]) nq
          have f14 : FX Tt b H13 (upd H14 q (.tup [.str "told", .ref p])) := FX.of (s14.trans g14)
          have hB14 := f14.bag j13.n.bag
          refine kN1 _ _ ⟨q, rfl, f14, ?_⟩
          rw [hw]
          exact rp_tup hB14 upd_same (.cons (.str _) (.one (rp_names (dlt_at (g14 _ _ hp) (bag_tup hB14 (g14 _ _ hp))))))
      rintro σ H14 ⟨dp, rfl, f1314, hdp⟩
      have j14 := j13.fx f1314
      have hS14 := IsS.sk hS13 f1314.sk
      have hr14 := f1314.sk.tup hr
      refine te_join (te := tCall (sp_wayto _ _) _ _ _) (R := fun y H' => FX Tt b H14 H' ∧ ∃ p, y = .ref p ∧ dlt H' b p = some (.tup (namesV N lw))) (fun Q kQ => ?_) ?_
      · refine ⟨_, rfl, _, rfl, v, N, sa, S, sts B, rfl, j14.n.nt, hO, IsS.same hS14 (dlt_same _ _), hM.clo, hM.fst, hMl, j14.n.tab, fun l' hl' H' p x t hp => ?_, fun z => ?_⟩
        · rw [hlw] at hl'
          cases (Option.some.inj hl')
          have f : FX Tt b H14 H' := FX.ext x t
          exact kQ _ _ ⟨f, p, rfl, dlt_at hp (bag_tup (f.bag j14.n.bag) hp)⟩
        · rw [hlw] at z
          cases z
      rintro y H15 ⟨f1415, p, rfl, hp⟩
      have j15 := j14.fx f1415
      have hS15 := IsS.sk hS14 f1415.sk
      refine hear_join (fun y H'' => FX Tt b H15 H'' ∧ Rp H'' y (dueD N (wayF N endB S))) j15.n.tab (fun J1 x1 t1 Q' kQ => ?_) ?_
      · have fJ : FX Tt b H15 J1 := FX.ext x1 t1
        have jJ := j15.fx fJ
        refine ⟨_, rfl, _, rfl, v, N, sa, S, sts B, rfl, jJ.n.nt, hO, IsS.same (IsS.sk hS15 fJ.sk) (dlt_same _ _), hM.clo, hSM, hMl, jJ.n.tab, fun l' hl' H' p x t hp => ⟨line_le 2 (by decide), fun q nq => ?_⟩, fun z H' x t => .inl ⟨rfl, fun H2 p s hp => ?_⟩⟩
        · have g := same_upd (o := .tup [.str "told", .ref p]) nq
          refine kQ _ _ ⟨fJ.trans ((FX.ext x t).trans (.of g)), ?_⟩
          rw [hl']
          exact .tup upd_same (.cons (.str _) (.one (rp_names (g _ _ hp))))
        · refine kQ _ _ ⟨fJ.trans ((FX.ext x t).trans (.of s)), ?_⟩
          rw [z]
          exact .tup hp (.one (.str _))
      rintro y J ⟨fJ, ry⟩
      have jJ := j15.fx fJ
      have hwo := wayF_ok hlw
      refine ⟨line_le 2 (by decide), fun l1 n1 => ?_⟩
      have g1 := same_upd (o := .lst [.ref p, y]) n1
      have h1 := @upd_same J l1 (.lst [.ref p, y])
      generalize upd J l1 (.lst [.ref p, y]) = J1 at g1 h1 ⊢
      have hpJ := dlt_same _ _ _ _ (fJ.sk.tup hp)
      have hrJ := dlt_same _ _ _ _ ((f1415.trans fJ).sk.tup hr14)
      refine ⟨_, rfl, _, rfl, v, N, r, lw, rfl, jJ.n.nt.same g1, hO, g1 _ _ hrJ, by omega, hwo.2, fun J2 p2 s2 hp2 => ⟨_, rfl, line_le 2 (by decide), fun l2 n2 => ?_⟩⟩
      have g2 := same_upd (o := .lst [.ref p2, .ref dp]) n2
      have hdJ := ((f1415.trans fJ).rp hdp).same ((dlt_same _ _).trans (g1.trans (s2.trans g2)))
      have zd := dueD_sz N (wayF N endB S) fun l hl => (wayF_ok hl).1
      refine ⟨.ref l1, .ref l2, .list [namesD N lw, dueD N (wayF N endB S)], rfl, .lst ((s2.trans g2) _ _ h1) (.cons (rp_names ((g1.trans (s2.trans g2)) _ _ hpJ)) (.one (ry.same (g1.trans (s2.trans g2))))), .lst upd_same (.cons (rp_names (g2 _ _ hp2)) (.one hdJ)), ?_, ?_, fun J3 s3 => ⟨_, rfl, iteF (fin _ _ _ _ _ _ _ _ _ _ _ _ _ _ _ _ ((((f1112.trans f1213).trans f1314).trans f1415).trans (fJ.trans (.of (g1.trans (s2.trans (g2.trans s3)))))))⟩⟩
      · rw [nodic, nodics, nodics, namesD_nodic, dueD_nodic]
        rfl
      · rw [dsz, dszs, dsz1, namesD_sz]
        omega
    · rintro σ1 H1 _
      exact q H1
end
end Net
namespace Net
open PySem PySem.Spec PyProof.Rows L2 NetR LamX LamO SDx SumT
theorem all_mk {l : PySem.W.OpenLaw} {w : World} {K : PySem.W.Frag} {h : Heap} {mg : Str → Option Value} {fa : Addr} (X : K.In h) (G : h.Ns mainGlobals mg) (hfa : mg "law" = some (.ref fa))
    {CR fCR ccCR cdCR NCR CN fCN ccCN cdCN NCN CO f_is_integer f_is_within f_is_string f_does_hold f_counts_of f_do_all_hold f_first_state f_is_ended f_may_do f_doable f_behind f_led f_ways_from f_met_states f_is_too_wide f_step_named f_run_states f_run_state f_is_run f_last_fine f_names_of f_do_commute f_way_between f_way_to f_way_to_end f__law_take f__law_some f__law_bag f__law_mixed f__law_alike f__law_counts f__law_holds f__law_first f__law_may f__law_led f__law_doable f__law_is_ended f__law_met f__law_way f__law_names f__law_step f__law_role f__law_woven f__law_noted f__law_heaped f__law_net f__law_any_net f__law_run f__law_heard f__law_home f_law c1 Q1 c2 Q2 c3 Q3 : Addr} {t_MOST_STATES : Tok}
    {nmCR qnCR : Str} {bsCR bmCR subCR : List Value} {snCR : List Str} {abCR : Bool} {colCR : Option Bool} {ddCR : Option Addr} {m0CR m1CR m2CR m3CR m5CR : Option Value} {ocCR kVCR dcCR pmCR ctCR clCR cclCR : Value} {odCR anCR cldCR cddCR : Option Addr} {slCR cslCR ccsCR : Array (Option Value)} {vsCR : Array Value} {flCR : Str} {tfCR : Tok}
    {nmCN qnCN : Str} {bsCN bmCN subCN : List Value} {snCN : List Str} {abCN : Bool} {colCN : Option Bool} {ddCN : Option Addr} {m0CN m1CN m2CN m3CN m5CN : Option Value} {ocCN kVCN dcCN pmCN ctCN clCN cclCN : Value} {odCN anCN cldCN cddCN : Option Addr} {slCN cslCN ccsCN : Array (Option Value)} {vsCN : Array Value} {flCN : Str} {tfCN : Tok}
    {oc_is_integer kV_is_integer dc_is_integer pm_is_integer cd_is_integer ct_is_integer : Value} {od_is_integer an_is_integer : Option Addr} {sl_is_integer : Array (Option Value)}
    {oc_is_within kV_is_within dc_is_within pm_is_within cd_is_within ct_is_within : Value} {od_is_within an_is_within : Option Addr} {sl_is_within : Array (Option Value)}
    {oc_is_string kV_is_string dc_is_string pm_is_string cd_is_string ct_is_string : Value} {od_is_string an_is_string : Option Addr} {sl_is_string : Array (Option Value)}
    {oc_does_hold kV_does_hold dc_does_hold pm_does_hold cd_does_hold ct_does_hold : Value} {od_does_hold an_does_hold : Option Addr} {sl_does_hold : Array (Option Value)}
    {oc_counts_of kV_counts_of dc_counts_of pm_counts_of cd_counts_of ct_counts_of : Value} {od_counts_of an_counts_of : Option Addr} {sl_counts_of : Array (Option Value)}
    {oc_do_all_hold kV_do_all_hold dc_do_all_hold pm_do_all_hold cd_do_all_hold ct_do_all_hold : Value} {od_do_all_hold an_do_all_hold : Option Addr} {sl_do_all_hold : Array (Option Value)}
    {oc_first_state kV_first_state dc_first_state pm_first_state cd_first_state ct_first_state : Value} {od_first_state an_first_state : Option Addr} {sl_first_state : Array (Option Value)}
    {oc_is_ended kV_is_ended dc_is_ended pm_is_ended cd_is_ended ct_is_ended : Value} {od_is_ended an_is_ended : Option Addr} {sl_is_ended : Array (Option Value)}
    {oc_may_do kV_may_do dc_may_do pm_may_do cd_may_do ct_may_do : Value} {od_may_do an_may_do : Option Addr} {sl_may_do : Array (Option Value)}
    {oc_doable kV_doable dc_doable pm_doable cd_doable ct_doable : Value} {od_doable an_doable : Option Addr} {sl_doable : Array (Option Value)}
    {oc_behind kV_behind dc_behind pm_behind cd_behind ct_behind : Value} {od_behind an_behind : Option Addr} {sl_behind : Array (Option Value)}
    {oc_led kV_led dc_led pm_led cd_led ct_led : Value} {od_led an_led : Option Addr} {sl_led : Array (Option Value)}
    {oc_ways_from kV_ways_from dc_ways_from pm_ways_from cd_ways_from ct_ways_from : Value} {od_ways_from an_ways_from : Option Addr} {sl_ways_from : Array (Option Value)}
    {oc_met_states kV_met_states dc_met_states pm_met_states cd_met_states ct_met_states : Value} {od_met_states an_met_states : Option Addr} {sl_met_states : Array (Option Value)}
    {oc_is_too_wide kV_is_too_wide dc_is_too_wide pm_is_too_wide cd_is_too_wide ct_is_too_wide : Value} {od_is_too_wide an_is_too_wide : Option Addr} {sl_is_too_wide : Array (Option Value)}
    {oc_step_named kV_step_named dc_step_named pm_step_named cd_step_named ct_step_named : Value} {od_step_named an_step_named : Option Addr} {sl_step_named : Array (Option Value)}
    {oc_run_states kV_run_states dc_run_states pm_run_states cd_run_states ct_run_states : Value} {od_run_states an_run_states : Option Addr} {sl_run_states : Array (Option Value)}
    {oc_run_state kV_run_state dc_run_state pm_run_state cd_run_state ct_run_state : Value} {od_run_state an_run_state : Option Addr} {sl_run_state : Array (Option Value)}
    {oc_is_run kV_is_run dc_is_run pm_is_run cd_is_run ct_is_run : Value} {od_is_run an_is_run : Option Addr} {sl_is_run : Array (Option Value)}
    {oc_last_fine kV_last_fine dc_last_fine pm_last_fine cd_last_fine ct_last_fine : Value} {od_last_fine an_last_fine : Option Addr} {sl_last_fine : Array (Option Value)}
    {oc_names_of kV_names_of dc_names_of pm_names_of cd_names_of ct_names_of : Value} {od_names_of an_names_of : Option Addr} {sl_names_of : Array (Option Value)}
    {oc_do_commute kV_do_commute dc_do_commute pm_do_commute cd_do_commute ct_do_commute : Value} {od_do_commute an_do_commute : Option Addr} {sl_do_commute : Array (Option Value)}
    {oc_way_between kV_way_between dc_way_between pm_way_between cd_way_between ct_way_between : Value} {od_way_between an_way_between : Option Addr} {sl_way_between : Array (Option Value)}
    {oc_way_to kV_way_to dc_way_to pm_way_to ct_way_to : Value} {od_way_to an_way_to : Option Addr} {sl_way_to : Array (Option Value)}
    {oc_way_to_end kV_way_to_end dc_way_to_end pm_way_to_end ct_way_to_end : Value} {od_way_to_end an_way_to_end : Option Addr} {sl_way_to_end : Array (Option Value)}
    {oc__law_take kV__law_take dc__law_take pm__law_take cd__law_take ct__law_take : Value} {od__law_take an__law_take : Option Addr} {sl__law_take : Array (Option Value)}
    {oc__law_some kV__law_some dc__law_some pm__law_some cd__law_some ct__law_some : Value} {od__law_some an__law_some : Option Addr} {sl__law_some : Array (Option Value)}
    {oc__law_bag kV__law_bag dc__law_bag pm__law_bag cd__law_bag ct__law_bag : Value} {od__law_bag an__law_bag : Option Addr} {sl__law_bag : Array (Option Value)}
    {oc__law_mixed kV__law_mixed dc__law_mixed pm__law_mixed cd__law_mixed ct__law_mixed : Value} {od__law_mixed an__law_mixed : Option Addr} {sl__law_mixed : Array (Option Value)}
    {oc__law_alike kV__law_alike dc__law_alike pm__law_alike cd__law_alike ct__law_alike : Value} {od__law_alike an__law_alike : Option Addr} {sl__law_alike : Array (Option Value)}
    {oc__law_counts kV__law_counts dc__law_counts pm__law_counts cd__law_counts ct__law_counts : Value} {od__law_counts an__law_counts : Option Addr} {sl__law_counts : Array (Option Value)}
    {oc__law_holds kV__law_holds dc__law_holds pm__law_holds cd__law_holds ct__law_holds : Value} {od__law_holds an__law_holds : Option Addr} {sl__law_holds : Array (Option Value)}
    {oc__law_first kV__law_first dc__law_first pm__law_first cd__law_first ct__law_first : Value} {od__law_first an__law_first : Option Addr} {sl__law_first : Array (Option Value)}
    {oc__law_may kV__law_may dc__law_may pm__law_may cd__law_may ct__law_may : Value} {od__law_may an__law_may : Option Addr} {sl__law_may : Array (Option Value)}
    {oc__law_led kV__law_led dc__law_led pm__law_led cd__law_led ct__law_led : Value} {od__law_led an__law_led : Option Addr} {sl__law_led : Array (Option Value)}
    {oc__law_doable kV__law_doable dc__law_doable pm__law_doable cd__law_doable ct__law_doable : Value} {od__law_doable an__law_doable : Option Addr} {sl__law_doable : Array (Option Value)}
    {oc__law_is_ended kV__law_is_ended dc__law_is_ended pm__law_is_ended cd__law_is_ended ct__law_is_ended : Value} {od__law_is_ended an__law_is_ended : Option Addr} {sl__law_is_ended : Array (Option Value)}
    {oc__law_met kV__law_met dc__law_met pm__law_met cd__law_met ct__law_met : Value} {od__law_met an__law_met : Option Addr} {sl__law_met : Array (Option Value)}
    {oc__law_way kV__law_way dc__law_way pm__law_way cd__law_way ct__law_way : Value} {od__law_way an__law_way : Option Addr} {sl__law_way : Array (Option Value)}
    {oc__law_names kV__law_names dc__law_names pm__law_names cd__law_names ct__law_names : Value} {od__law_names an__law_names : Option Addr} {sl__law_names : Array (Option Value)}
    {oc__law_step kV__law_step dc__law_step pm__law_step cd__law_step ct__law_step : Value} {od__law_step an__law_step : Option Addr} {sl__law_step : Array (Option Value)}
    {oc__law_role kV__law_role dc__law_role pm__law_role cd__law_role ct__law_role : Value} {od__law_role an__law_role : Option Addr} {sl__law_role : Array (Option Value)}
    {oc__law_woven kV__law_woven dc__law_woven pm__law_woven cd__law_woven ct__law_woven : Value} {od__law_woven an__law_woven : Option Addr} {sl__law_woven : Array (Option Value)}
    {oc__law_noted kV__law_noted dc__law_noted pm__law_noted cd__law_noted ct__law_noted : Value} {od__law_noted an__law_noted : Option Addr} {sl__law_noted : Array (Option Value)}
    {oc__law_heaped kV__law_heaped dc__law_heaped pm__law_heaped cd__law_heaped ct__law_heaped : Value} {od__law_heaped an__law_heaped : Option Addr} {sl__law_heaped : Array (Option Value)}
    {oc__law_net kV__law_net dc__law_net pm__law_net cd__law_net ct__law_net : Value} {od__law_net an__law_net : Option Addr} {sl__law_net : Array (Option Value)}
    {oc__law_any_net kV__law_any_net dc__law_any_net pm__law_any_net cd__law_any_net ct__law_any_net : Value} {od__law_any_net an__law_any_net : Option Addr} {sl__law_any_net : Array (Option Value)}
    {oc__law_run kV__law_run dc__law_run pm__law_run cd__law_run ct__law_run : Value} {od__law_run an__law_run : Option Addr} {sl__law_run : Array (Option Value)}
    {oc__law_heard kV__law_heard dc__law_heard pm__law_heard cd__law_heard ct__law_heard : Value} {od__law_heard an__law_heard : Option Addr} {sl__law_heard : Array (Option Value)}
    {oc__law_home kV__law_home dc__law_home pm__law_home cd__law_home ct__law_home : Value} {od__law_home an__law_home : Option Addr} {sl__law_home : Array (Option Value)}
    {oc_law kV_law dc_law pm_law ct_law : Value} {od_law an_law : Option Addr} {sl_law : Array (Option Value)}
    {ovq1 : Value} {dvq1 : Option Addr} {vq1 : Array Value} {svq1 : Array (Option Value)}
    {ovq2 : Value} {dvq2 : Option Addr} {vq2 : Array Value} {svq2 : Array (Option Value)}
    {ovq3 : Value} {dvq3 : Option Addr} {vq3 : Array Value} {svq3 : Array (Option Value)}
    (b_len : PySem.W.nsIn K mainGlobals "len" = some none)
    (b_isinstance : PySem.W.nsIn K mainGlobals "isinstance" = some none)
    (b_all : PySem.W.nsIn K mainGlobals "all" = some none)
    (b_any : PySem.W.nsIn K mainGlobals "any" = some none)
    (b_sum : PySem.W.nsIn K mainGlobals "sum" = some none)
    (b_tuple : PySem.W.nsIn K mainGlobals "tuple" = some none)
    (b_list : PySem.W.nsIn K mainGlobals "list" = some none)
    (b_dict : PySem.W.nsIn K mainGlobals "dict" = some none)
    (b_sorted : PySem.W.nsIn K mainGlobals "sorted" = some none)
    (b_enumerate : PySem.W.nsIn K mainGlobals "enumerate" = some none)
    (b_range : PySem.W.nsIn K mainGlobals "range" = some none)
    (b_zip : PySem.W.nsIn K mainGlobals "zip" = some none)
    (b_int : PySem.W.nsIn K mainGlobals "int" = some none)
    (b_bool : PySem.W.nsIn K mainGlobals "bool" = some none)
    (b_str : PySem.W.nsIn K mainGlobals "str" = some none)
    (b_abs : PySem.W.nsIn K mainGlobals "abs" = some none)
    (k_MOST_STATES : PySem.W.nsIn K mainGlobals "MOST_STATES" = some (some (.int 2000 t_MOST_STATES)))
    (a_Refused : PySem.W.nsIn K mainGlobals "Refused" = some (some (.ref CR)))
    (x_Refused : K.lookup CR = some (excClassObj nmCR qnCR CR NCR bsCR bmCR true snCR subCR abCR colCR ddCR m0CR m1CR m2CR m3CR m5CR "ValueError.__new__"))
    (r_Refused : PySem.HandSPX.refsVE bmCR = true)
    (sa_Refused : PySem.W.findIn K (.ref CR) "__setattr__" = some (some (.builtin "object.__setattr__")))
    (ex_Refused : PySem.W.subIn K (.ref CR) (.type "BaseException") = some true)
    (ty_Refused : PySem.W.typeIn K (.ref CR) = some (.type "type"))
    (kc_Refused : PySem.W.keepIn K (.ref CR) = true)
    (i_Refused : PySem.W.findIn K (.ref CR) "__init__" = some (some (.ref fCR)))
    (ti_Refused : PySem.W.typeIn K (.ref fCR) = some (.type "function"))
    (l_Refused : K.lookup fCR = some ⟨ocCR, odCR, .func (PySem.W.ksFn "__init__" "Refused.__init__" (defArgs sRF) (defBody sRF) (defScope sRF) .none kVCR dcCR pmCR anCR (.ref cdCR) ctCR ccCR), slCR⟩)
    (c_Refused : PySem.W.codeIn K (.ref cdCR) "Refused.__init__" = true)
    (lc_Refused : K.lookup cdCR = some ⟨cclCR, cddCR, .fields vsCR, ccsCR⟩)
    (v_Refused : vsCR[2]? = some (.str flCR tfCR))
    (fl_Refused : ((l.prog.main.file : Str) == flCR) = true)
    (cel_Refused : K.lookup ccCR = some ⟨clCR, cldCR, .cell (some (.ref CR)), cslCR⟩)
    (slf_Refused : PySem.W.mroIn K CR (.ref CR) = some true)
    (sup_Refused : PySem.W.ks_superIn K CR CR "__init__" = some (some (.builtin "ValueError.__init__")))
    (isV_Refused : PySem.W.subIn K (.ref CR) (.type "ValueError") = some true)
    (ga_Refused : PySem.W.findIn K (.ref CR) "__getattribute__" = some (some (.builtin "BaseException.__getattribute__")))
    (gg_Refused : PySem.W.findIn K (.ref CR) "__getattr__" = some none)
    (hd_Refused : PySem.W.hasDictIn K CR = true)
    (a_NoName : PySem.W.nsIn K mainGlobals "NoName" = some (some (.ref CN)))
    (x_NoName : K.lookup CN = some (excClassObj nmCN qnCN CN NCN bsCN bmCN true snCN subCN abCN colCN ddCN m0CN m1CN m2CN m3CN m5CN "ValueError.__new__"))
    (r_NoName : PySem.HandSPX.refsVE bmCN = true)
    (sa_NoName : PySem.W.findIn K (.ref CN) "__setattr__" = some (some (.builtin "object.__setattr__")))
    (ex_NoName : PySem.W.subIn K (.ref CN) (.type "BaseException") = some true)
    (ty_NoName : PySem.W.typeIn K (.ref CN) = some (.type "type"))
    (kc_NoName : PySem.W.keepIn K (.ref CN) = true)
    (i_NoName : PySem.W.findIn K (.ref CN) "__init__" = some (some (.ref fCN)))
    (ti_NoName : PySem.W.typeIn K (.ref fCN) = some (.type "function"))
    (l_NoName : K.lookup fCN = some ⟨ocCN, odCN, .func (PySem.W.ksFn "__init__" "NoName.__init__" (defArgs sNN) (defBody sNN) (defScope sNN) .none kVCN dcCN pmCN anCN (.ref cdCN) ctCN ccCN), slCN⟩)
    (c_NoName : PySem.W.codeIn K (.ref cdCN) "NoName.__init__" = true)
    (lc_NoName : K.lookup cdCN = some ⟨cclCN, cddCN, .fields vsCN, ccsCN⟩)
    (v_NoName : vsCN[2]? = some (.str flCN tfCN))
    (fl_NoName : ((l.prog.main.file : Str) == flCN) = true)
    (cel_NoName : K.lookup ccCN = some ⟨clCN, cldCN, .cell (some (.ref CN)), cslCN⟩)
    (slf_NoName : PySem.W.mroIn K CN (.ref CN) = some true)
    (sup_NoName : PySem.W.ks_superIn K CN CN "__init__" = some (some (.builtin "ValueError.__init__")))
    (isV_NoName : PySem.W.subIn K (.ref CN) (.type "ValueError") = some true)
    (ga_NoName : PySem.W.findIn K (.ref CN) "__getattribute__" = some (some (.builtin "BaseException.__getattribute__")))
    (gg_NoName : PySem.W.findIn K (.ref CN) "__getattr__" = some none)
    (hd_NoName : PySem.W.hasDictIn K CN = true)
    (n_why : PySem.W.findIn K (.ref CR) "why" = some none)
    (n_name : PySem.W.findIn K (.ref CN) "name" = some none)
    (opq : PySem.W.nsIn K PySem.cStatics "thirdparty.any" = some none)
    (mgS : PySem.W.nsIn K mainGlobals "super" = some none)
    (mgC : (l.prog.main.scope.names.lookup ("super" : Str)).isSome = false)
    (a_Nothing : PySem.W.nsIn K mainGlobals "Nothing" = some (some (.ref CO)))
    (x_Nothing : PySem.W.excIn K CO [.type "ValueError", .type "Exception", .type "BaseException", .type "object"] "ValueError.__new__" = true)
    (k_Nothing : PySem.W.keepIn K (.ref CO) = true)
    (b_Nothing : PySem.W.subIn K (.ref CO) (.type "BaseException") = some true)
    (t_Nothing : PySem.W.typeIn K (.ref CO) = some (.type "type"))
    (m_oo : PySem.W.exmOne K (.ref CO) (.ref CO) = some true)
    (m_no : PySem.W.exmOne K (.ref CN) (.ref CO) = some false)
    (m_nn : PySem.W.exmOne K (.ref CN) (.ref CN) = some true)
    (m_ro : PySem.W.exmOne K (.ref CR) (.ref CO) = some false)
    (m_rn : PySem.W.exmOne K (.ref CR) (.ref CN) = some false)
    (m_rr : PySem.W.exmOne K (.ref CR) (.ref CR) = some true)
    (g_is_integer : PySem.W.nsIn K mainGlobals "is_integer" = some (some (.ref f_is_integer)))
    (l_is_integer : K.lookup f_is_integer = some ⟨oc_is_integer, od_is_integer, .func (PySem.W.fnOf "is_integer" "is_integer" (defArgs s_is_integer) (defBody s_is_integer) (defScope s_is_integer) .none kV_is_integer dc_is_integer pm_is_integer an_is_integer cd_is_integer ct_is_integer), sl_is_integer⟩)
    (c_is_integer : PySem.W.codeIn K cd_is_integer "is_integer" = true)
    (k_is_integer : PySem.W.keepIn K (.ref f_is_integer) = true)
    (g_is_within : PySem.W.nsIn K mainGlobals "is_within" = some (some (.ref f_is_within)))
    (l_is_within : K.lookup f_is_within = some ⟨oc_is_within, od_is_within, .func (PySem.W.fnOf "is_within" "is_within" (defArgs s_is_within) (defBody s_is_within) (defScope s_is_within) .none kV_is_within dc_is_within pm_is_within an_is_within cd_is_within ct_is_within), sl_is_within⟩)
    (c_is_within : PySem.W.codeIn K cd_is_within "is_within" = true)
    (k_is_within : PySem.W.keepIn K (.ref f_is_within) = true)
    (g_is_string : PySem.W.nsIn K mainGlobals "is_string" = some (some (.ref f_is_string)))
    (l_is_string : K.lookup f_is_string = some ⟨oc_is_string, od_is_string, .func (PySem.W.fnOf "is_string" "is_string" (defArgs s_is_string) (defBody s_is_string) (defScope s_is_string) .none kV_is_string dc_is_string pm_is_string an_is_string cd_is_string ct_is_string), sl_is_string⟩)
    (c_is_string : PySem.W.codeIn K cd_is_string "is_string" = true)
    (k_is_string : PySem.W.keepIn K (.ref f_is_string) = true)
    (g_does_hold : PySem.W.nsIn K mainGlobals "does_hold" = some (some (.ref f_does_hold)))
    (l_does_hold : K.lookup f_does_hold = some ⟨oc_does_hold, od_does_hold, .func (PySem.W.fnOf "does_hold" "does_hold" (defArgs s_does_hold) (defBody s_does_hold) (defScope s_does_hold) .none kV_does_hold dc_does_hold pm_does_hold an_does_hold cd_does_hold ct_does_hold), sl_does_hold⟩)
    (c_does_hold : PySem.W.codeIn K cd_does_hold "does_hold" = true)
    (k_does_hold : PySem.W.keepIn K (.ref f_does_hold) = true)
    (g_counts_of : PySem.W.nsIn K mainGlobals "counts_of" = some (some (.ref f_counts_of)))
    (l_counts_of : K.lookup f_counts_of = some ⟨oc_counts_of, od_counts_of, .func (PySem.W.fnOf "counts_of" "counts_of" (defArgs s_counts_of) (defBody s_counts_of) (defScope s_counts_of) .none kV_counts_of dc_counts_of pm_counts_of an_counts_of cd_counts_of ct_counts_of), sl_counts_of⟩)
    (c_counts_of : PySem.W.codeIn K cd_counts_of "counts_of" = true)
    (k_counts_of : PySem.W.keepIn K (.ref f_counts_of) = true)
    (g_do_all_hold : PySem.W.nsIn K mainGlobals "do_all_hold" = some (some (.ref f_do_all_hold)))
    (l_do_all_hold : K.lookup f_do_all_hold = some ⟨oc_do_all_hold, od_do_all_hold, .func (PySem.W.fnOf "do_all_hold" "do_all_hold" (defArgs s_do_all_hold) (defBody s_do_all_hold) (defScope s_do_all_hold) .none kV_do_all_hold dc_do_all_hold pm_do_all_hold an_do_all_hold cd_do_all_hold ct_do_all_hold), sl_do_all_hold⟩)
    (c_do_all_hold : PySem.W.codeIn K cd_do_all_hold "do_all_hold" = true)
    (k_do_all_hold : PySem.W.keepIn K (.ref f_do_all_hold) = true)
    (g_first_state : PySem.W.nsIn K mainGlobals "first_state" = some (some (.ref f_first_state)))
    (l_first_state : K.lookup f_first_state = some ⟨oc_first_state, od_first_state, .func (PySem.W.fnOf "first_state" "first_state" (defArgs s_first_state) (defBody s_first_state) (defScope s_first_state) .none kV_first_state dc_first_state pm_first_state an_first_state cd_first_state ct_first_state), sl_first_state⟩)
    (c_first_state : PySem.W.codeIn K cd_first_state "first_state" = true)
    (k_first_state : PySem.W.keepIn K (.ref f_first_state) = true)
    (g_is_ended : PySem.W.nsIn K mainGlobals "is_ended" = some (some (.ref f_is_ended)))
    (l_is_ended : K.lookup f_is_ended = some ⟨oc_is_ended, od_is_ended, .func (PySem.W.fnOf "is_ended" "is_ended" (defArgs s_is_ended) (defBody s_is_ended) (defScope s_is_ended) .none kV_is_ended dc_is_ended pm_is_ended an_is_ended cd_is_ended ct_is_ended), sl_is_ended⟩)
    (c_is_ended : PySem.W.codeIn K cd_is_ended "is_ended" = true)
    (k_is_ended : PySem.W.keepIn K (.ref f_is_ended) = true)
    (g_may_do : PySem.W.nsIn K mainGlobals "may_do" = some (some (.ref f_may_do)))
    (l_may_do : K.lookup f_may_do = some ⟨oc_may_do, od_may_do, .func (PySem.W.fnOf "may_do" "may_do" (defArgs s_may_do) (defBody s_may_do) (defScope s_may_do) .none kV_may_do dc_may_do pm_may_do an_may_do cd_may_do ct_may_do), sl_may_do⟩)
    (c_may_do : PySem.W.codeIn K cd_may_do "may_do" = true)
    (k_may_do : PySem.W.keepIn K (.ref f_may_do) = true)
    (g_doable : PySem.W.nsIn K mainGlobals "doable" = some (some (.ref f_doable)))
    (l_doable : K.lookup f_doable = some ⟨oc_doable, od_doable, .func (PySem.W.fnOf "doable" "doable" (defArgs s_doable) (defBody s_doable) (defScope s_doable) .none kV_doable dc_doable pm_doable an_doable cd_doable ct_doable), sl_doable⟩)
    (c_doable : PySem.W.codeIn K cd_doable "doable" = true)
    (k_doable : PySem.W.keepIn K (.ref f_doable) = true)
    (g_behind : PySem.W.nsIn K mainGlobals "behind" = some (some (.ref f_behind)))
    (l_behind : K.lookup f_behind = some ⟨oc_behind, od_behind, .func (PySem.W.fnOf "behind" "behind" (defArgs s_behind) (defBody s_behind) (defScope s_behind) .none kV_behind dc_behind pm_behind an_behind cd_behind ct_behind), sl_behind⟩)
    (c_behind : PySem.W.codeIn K cd_behind "behind" = true)
    (k_behind : PySem.W.keepIn K (.ref f_behind) = true)
    (g_led : PySem.W.nsIn K mainGlobals "led" = some (some (.ref f_led)))
    (l_led : K.lookup f_led = some ⟨oc_led, od_led, .func (PySem.W.fnOf "led" "led" (defArgs s_led) (defBody s_led) (defScope s_led) .none kV_led dc_led pm_led an_led cd_led ct_led), sl_led⟩)
    (c_led : PySem.W.codeIn K cd_led "led" = true)
    (k_led : PySem.W.keepIn K (.ref f_led) = true)
    (g_ways_from : PySem.W.nsIn K mainGlobals "ways_from" = some (some (.ref f_ways_from)))
    (l_ways_from : K.lookup f_ways_from = some ⟨oc_ways_from, od_ways_from, .func (PySem.W.fnOf "ways_from" "ways_from" (defArgs s_ways_from) (defBody s_ways_from) (defScope s_ways_from) .none kV_ways_from dc_ways_from pm_ways_from an_ways_from cd_ways_from ct_ways_from), sl_ways_from⟩)
    (c_ways_from : PySem.W.codeIn K cd_ways_from "ways_from" = true)
    (k_ways_from : PySem.W.keepIn K (.ref f_ways_from) = true)
    (g_met_states : PySem.W.nsIn K mainGlobals "met_states" = some (some (.ref f_met_states)))
    (l_met_states : K.lookup f_met_states = some ⟨oc_met_states, od_met_states, .func (PySem.W.fnOf "met_states" "met_states" (defArgs s_met_states) (defBody s_met_states) (defScope s_met_states) .none kV_met_states dc_met_states pm_met_states an_met_states cd_met_states ct_met_states), sl_met_states⟩)
    (c_met_states : PySem.W.codeIn K cd_met_states "met_states" = true)
    (k_met_states : PySem.W.keepIn K (.ref f_met_states) = true)
    (g_is_too_wide : PySem.W.nsIn K mainGlobals "is_too_wide" = some (some (.ref f_is_too_wide)))
    (l_is_too_wide : K.lookup f_is_too_wide = some ⟨oc_is_too_wide, od_is_too_wide, .func (PySem.W.fnOf "is_too_wide" "is_too_wide" (defArgs s_is_too_wide) (defBody s_is_too_wide) (defScope s_is_too_wide) .none kV_is_too_wide dc_is_too_wide pm_is_too_wide an_is_too_wide cd_is_too_wide ct_is_too_wide), sl_is_too_wide⟩)
    (c_is_too_wide : PySem.W.codeIn K cd_is_too_wide "is_too_wide" = true)
    (k_is_too_wide : PySem.W.keepIn K (.ref f_is_too_wide) = true)
    (g_step_named : PySem.W.nsIn K mainGlobals "step_named" = some (some (.ref f_step_named)))
    (l_step_named : K.lookup f_step_named = some ⟨oc_step_named, od_step_named, .func (PySem.W.fnOf "step_named" "step_named" (defArgs s_step_named) (defBody s_step_named) (defScope s_step_named) .none kV_step_named dc_step_named pm_step_named an_step_named cd_step_named ct_step_named), sl_step_named⟩)
    (c_step_named : PySem.W.codeIn K cd_step_named "step_named" = true)
    (k_step_named : PySem.W.keepIn K (.ref f_step_named) = true)
    (g_run_states : PySem.W.nsIn K mainGlobals "run_states" = some (some (.ref f_run_states)))
    (l_run_states : K.lookup f_run_states = some ⟨oc_run_states, od_run_states, .func (PySem.W.fnOf "run_states" "run_states" (defArgs s_run_states) (defBody s_run_states) (defScope s_run_states) .none kV_run_states dc_run_states pm_run_states an_run_states cd_run_states ct_run_states), sl_run_states⟩)
    (c_run_states : PySem.W.codeIn K cd_run_states "run_states" = true)
    (k_run_states : PySem.W.keepIn K (.ref f_run_states) = true)
    (g_run_state : PySem.W.nsIn K mainGlobals "run_state" = some (some (.ref f_run_state)))
    (l_run_state : K.lookup f_run_state = some ⟨oc_run_state, od_run_state, .func (PySem.W.fnOf "run_state" "run_state" (defArgs s_run_state) (defBody s_run_state) (defScope s_run_state) .none kV_run_state dc_run_state pm_run_state an_run_state cd_run_state ct_run_state), sl_run_state⟩)
    (c_run_state : PySem.W.codeIn K cd_run_state "run_state" = true)
    (k_run_state : PySem.W.keepIn K (.ref f_run_state) = true)
    (g_is_run : PySem.W.nsIn K mainGlobals "is_run" = some (some (.ref f_is_run)))
    (l_is_run : K.lookup f_is_run = some ⟨oc_is_run, od_is_run, .func (PySem.W.fnOf "is_run" "is_run" (defArgs s_is_run) (defBody s_is_run) (defScope s_is_run) .none kV_is_run dc_is_run pm_is_run an_is_run cd_is_run ct_is_run), sl_is_run⟩)
    (c_is_run : PySem.W.codeIn K cd_is_run "is_run" = true)
    (k_is_run : PySem.W.keepIn K (.ref f_is_run) = true)
    (g_last_fine : PySem.W.nsIn K mainGlobals "last_fine" = some (some (.ref f_last_fine)))
    (l_last_fine : K.lookup f_last_fine = some ⟨oc_last_fine, od_last_fine, .func (PySem.W.fnOf "last_fine" "last_fine" (defArgs s_last_fine) (defBody s_last_fine) (defScope s_last_fine) .none kV_last_fine dc_last_fine pm_last_fine an_last_fine cd_last_fine ct_last_fine), sl_last_fine⟩)
    (c_last_fine : PySem.W.codeIn K cd_last_fine "last_fine" = true)
    (k_last_fine : PySem.W.keepIn K (.ref f_last_fine) = true)
    (g_names_of : PySem.W.nsIn K mainGlobals "names_of" = some (some (.ref f_names_of)))
    (l_names_of : K.lookup f_names_of = some ⟨oc_names_of, od_names_of, .func (PySem.W.fnOf "names_of" "names_of" (defArgs s_names_of) (defBody s_names_of) (defScope s_names_of) .none kV_names_of dc_names_of pm_names_of an_names_of cd_names_of ct_names_of), sl_names_of⟩)
    (c_names_of : PySem.W.codeIn K cd_names_of "names_of" = true)
    (k_names_of : PySem.W.keepIn K (.ref f_names_of) = true)
    (g_do_commute : PySem.W.nsIn K mainGlobals "do_commute" = some (some (.ref f_do_commute)))
    (l_do_commute : K.lookup f_do_commute = some ⟨oc_do_commute, od_do_commute, .func (PySem.W.fnOf "do_commute" "do_commute" (defArgs s_do_commute) (defBody s_do_commute) (defScope s_do_commute) .none kV_do_commute dc_do_commute pm_do_commute an_do_commute cd_do_commute ct_do_commute), sl_do_commute⟩)
    (c_do_commute : PySem.W.codeIn K cd_do_commute "do_commute" = true)
    (k_do_commute : PySem.W.keepIn K (.ref f_do_commute) = true)
    (g_way_between : PySem.W.nsIn K mainGlobals "way_between" = some (some (.ref f_way_between)))
    (l_way_between : K.lookup f_way_between = some ⟨oc_way_between, od_way_between, .func (PySem.W.fnOf "way_between" "way_between" (defArgs s_way_between) (defBody s_way_between) (defScope s_way_between) .none kV_way_between dc_way_between pm_way_between an_way_between cd_way_between ct_way_between), sl_way_between⟩)
    (c_way_between : PySem.W.codeIn K cd_way_between "way_between" = true)
    (k_way_between : PySem.W.keepIn K (.ref f_way_between) = true)
    (g_way_to : PySem.W.nsIn K mainGlobals "way_to" = some (some (.ref f_way_to)))
    (l_way_to : K.lookup f_way_to = some ⟨oc_way_to, od_way_to, .func (PySem.W.fnOf "way_to" "way_to" (defArgs s_way_to) (defBody s_way_to) (defScope s_way_to) .none kV_way_to dc_way_to pm_way_to an_way_to (.ref c1) ct_way_to), sl_way_to⟩)
    (c_way_to : PySem.W.codeIn K (.ref c1) "way_to" = true)
    (k_way_to : PySem.W.keepIn K (.ref f_way_to) = true)
    (g_way_to_end : PySem.W.nsIn K mainGlobals "way_to_end" = some (some (.ref f_way_to_end)))
    (l_way_to_end : K.lookup f_way_to_end = some ⟨oc_way_to_end, od_way_to_end, .func (PySem.W.fnOf "way_to_end" "way_to_end" (defArgs s_way_to_end) (defBody s_way_to_end) (defScope s_way_to_end) .none kV_way_to_end dc_way_to_end pm_way_to_end an_way_to_end (.ref c2) ct_way_to_end), sl_way_to_end⟩)
    (c_way_to_end : PySem.W.codeIn K (.ref c2) "way_to_end" = true)
    (k_way_to_end : PySem.W.keepIn K (.ref f_way_to_end) = true)
    (g__law_take : PySem.W.nsIn K mainGlobals "_law_take" = some (some (.ref f__law_take)))
    (l__law_take : K.lookup f__law_take = some ⟨oc__law_take, od__law_take, .func (PySem.W.fnOf "_law_take" "_law_take" (defArgs s__law_take) (defBody s__law_take) (defScope s__law_take) .none kV__law_take dc__law_take pm__law_take an__law_take cd__law_take ct__law_take), sl__law_take⟩)
    (c__law_take : PySem.W.codeIn K cd__law_take "_law_take" = true)
    (k__law_take : PySem.W.keepIn K (.ref f__law_take) = true)
    (g__law_some : PySem.W.nsIn K mainGlobals "_law_some" = some (some (.ref f__law_some)))
    (l__law_some : K.lookup f__law_some = some ⟨oc__law_some, od__law_some, .func (PySem.W.fnOf "_law_some" "_law_some" (defArgs s__law_some) (defBody s__law_some) (defScope s__law_some) .none kV__law_some dc__law_some pm__law_some an__law_some cd__law_some ct__law_some), sl__law_some⟩)
    (c__law_some : PySem.W.codeIn K cd__law_some "_law_some" = true)
    (k__law_some : PySem.W.keepIn K (.ref f__law_some) = true)
    (g__law_bag : PySem.W.nsIn K mainGlobals "_law_bag" = some (some (.ref f__law_bag)))
    (l__law_bag : K.lookup f__law_bag = some ⟨oc__law_bag, od__law_bag, .func (PySem.W.fnOf "_law_bag" "_law_bag" (defArgs s__law_bag) (defBody s__law_bag) (defScope s__law_bag) .none kV__law_bag dc__law_bag pm__law_bag an__law_bag cd__law_bag ct__law_bag), sl__law_bag⟩)
    (c__law_bag : PySem.W.codeIn K cd__law_bag "_law_bag" = true)
    (k__law_bag : PySem.W.keepIn K (.ref f__law_bag) = true)
    (g__law_mixed : PySem.W.nsIn K mainGlobals "_law_mixed" = some (some (.ref f__law_mixed)))
    (l__law_mixed : K.lookup f__law_mixed = some ⟨oc__law_mixed, od__law_mixed, .func (PySem.W.fnOf "_law_mixed" "_law_mixed" (defArgs s__law_mixed) (defBody s__law_mixed) (defScope s__law_mixed) .none kV__law_mixed dc__law_mixed pm__law_mixed an__law_mixed cd__law_mixed ct__law_mixed), sl__law_mixed⟩)
    (c__law_mixed : PySem.W.codeIn K cd__law_mixed "_law_mixed" = true)
    (k__law_mixed : PySem.W.keepIn K (.ref f__law_mixed) = true)
    (g__law_alike : PySem.W.nsIn K mainGlobals "_law_alike" = some (some (.ref f__law_alike)))
    (l__law_alike : K.lookup f__law_alike = some ⟨oc__law_alike, od__law_alike, .func (PySem.W.fnOf "_law_alike" "_law_alike" (defArgs s__law_alike) (defBody s__law_alike) (defScope s__law_alike) .none kV__law_alike dc__law_alike pm__law_alike an__law_alike cd__law_alike ct__law_alike), sl__law_alike⟩)
    (c__law_alike : PySem.W.codeIn K cd__law_alike "_law_alike" = true)
    (k__law_alike : PySem.W.keepIn K (.ref f__law_alike) = true)
    (g__law_counts : PySem.W.nsIn K mainGlobals "_law_counts" = some (some (.ref f__law_counts)))
    (l__law_counts : K.lookup f__law_counts = some ⟨oc__law_counts, od__law_counts, .func (PySem.W.fnOf "_law_counts" "_law_counts" (defArgs s__law_counts) (defBody s__law_counts) (defScope s__law_counts) .none kV__law_counts dc__law_counts pm__law_counts an__law_counts cd__law_counts ct__law_counts), sl__law_counts⟩)
    (c__law_counts : PySem.W.codeIn K cd__law_counts "_law_counts" = true)
    (k__law_counts : PySem.W.keepIn K (.ref f__law_counts) = true)
    (g__law_holds : PySem.W.nsIn K mainGlobals "_law_holds" = some (some (.ref f__law_holds)))
    (l__law_holds : K.lookup f__law_holds = some ⟨oc__law_holds, od__law_holds, .func (PySem.W.fnOf "_law_holds" "_law_holds" (defArgs s__law_holds) (defBody s__law_holds) (defScope s__law_holds) .none kV__law_holds dc__law_holds pm__law_holds an__law_holds cd__law_holds ct__law_holds), sl__law_holds⟩)
    (c__law_holds : PySem.W.codeIn K cd__law_holds "_law_holds" = true)
    (k__law_holds : PySem.W.keepIn K (.ref f__law_holds) = true)
    (g__law_first : PySem.W.nsIn K mainGlobals "_law_first" = some (some (.ref f__law_first)))
    (l__law_first : K.lookup f__law_first = some ⟨oc__law_first, od__law_first, .func (PySem.W.fnOf "_law_first" "_law_first" (defArgs s__law_first) (defBody s__law_first) (defScope s__law_first) .none kV__law_first dc__law_first pm__law_first an__law_first cd__law_first ct__law_first), sl__law_first⟩)
    (c__law_first : PySem.W.codeIn K cd__law_first "_law_first" = true)
    (k__law_first : PySem.W.keepIn K (.ref f__law_first) = true)
    (g__law_may : PySem.W.nsIn K mainGlobals "_law_may" = some (some (.ref f__law_may)))
    (l__law_may : K.lookup f__law_may = some ⟨oc__law_may, od__law_may, .func (PySem.W.fnOf "_law_may" "_law_may" (defArgs s__law_may) (defBody s__law_may) (defScope s__law_may) .none kV__law_may dc__law_may pm__law_may an__law_may cd__law_may ct__law_may), sl__law_may⟩)
    (c__law_may : PySem.W.codeIn K cd__law_may "_law_may" = true)
    (k__law_may : PySem.W.keepIn K (.ref f__law_may) = true)
    (g__law_led : PySem.W.nsIn K mainGlobals "_law_led" = some (some (.ref f__law_led)))
    (l__law_led : K.lookup f__law_led = some ⟨oc__law_led, od__law_led, .func (PySem.W.fnOf "_law_led" "_law_led" (defArgs s__law_led) (defBody s__law_led) (defScope s__law_led) .none kV__law_led dc__law_led pm__law_led an__law_led cd__law_led ct__law_led), sl__law_led⟩)
    (c__law_led : PySem.W.codeIn K cd__law_led "_law_led" = true)
    (k__law_led : PySem.W.keepIn K (.ref f__law_led) = true)
    (g__law_doable : PySem.W.nsIn K mainGlobals "_law_doable" = some (some (.ref f__law_doable)))
    (l__law_doable : K.lookup f__law_doable = some ⟨oc__law_doable, od__law_doable, .func (PySem.W.fnOf "_law_doable" "_law_doable" (defArgs s__law_doable) (defBody s__law_doable) (defScope s__law_doable) .none kV__law_doable dc__law_doable pm__law_doable an__law_doable cd__law_doable ct__law_doable), sl__law_doable⟩)
    (c__law_doable : PySem.W.codeIn K cd__law_doable "_law_doable" = true)
    (k__law_doable : PySem.W.keepIn K (.ref f__law_doable) = true)
    (g__law_is_ended : PySem.W.nsIn K mainGlobals "_law_is_ended" = some (some (.ref f__law_is_ended)))
    (l__law_is_ended : K.lookup f__law_is_ended = some ⟨oc__law_is_ended, od__law_is_ended, .func (PySem.W.fnOf "_law_is_ended" "_law_is_ended" (defArgs s__law_is_ended) (defBody s__law_is_ended) (defScope s__law_is_ended) .none kV__law_is_ended dc__law_is_ended pm__law_is_ended an__law_is_ended cd__law_is_ended ct__law_is_ended), sl__law_is_ended⟩)
    (c__law_is_ended : PySem.W.codeIn K cd__law_is_ended "_law_is_ended" = true)
    (k__law_is_ended : PySem.W.keepIn K (.ref f__law_is_ended) = true)
    (g__law_met : PySem.W.nsIn K mainGlobals "_law_met" = some (some (.ref f__law_met)))
    (l__law_met : K.lookup f__law_met = some ⟨oc__law_met, od__law_met, .func (PySem.W.fnOf "_law_met" "_law_met" (defArgs s__law_met) (defBody s__law_met) (defScope s__law_met) .none kV__law_met dc__law_met pm__law_met an__law_met cd__law_met ct__law_met), sl__law_met⟩)
    (c__law_met : PySem.W.codeIn K cd__law_met "_law_met" = true)
    (k__law_met : PySem.W.keepIn K (.ref f__law_met) = true)
    (g__law_way : PySem.W.nsIn K mainGlobals "_law_way" = some (some (.ref f__law_way)))
    (l__law_way : K.lookup f__law_way = some ⟨oc__law_way, od__law_way, .func (PySem.W.fnOf "_law_way" "_law_way" (defArgs s__law_way) (defBody s__law_way) (defScope s__law_way) .none kV__law_way dc__law_way pm__law_way an__law_way cd__law_way ct__law_way), sl__law_way⟩)
    (c__law_way : PySem.W.codeIn K cd__law_way "_law_way" = true)
    (k__law_way : PySem.W.keepIn K (.ref f__law_way) = true)
    (g__law_names : PySem.W.nsIn K mainGlobals "_law_names" = some (some (.ref f__law_names)))
    (l__law_names : K.lookup f__law_names = some ⟨oc__law_names, od__law_names, .func (PySem.W.fnOf "_law_names" "_law_names" (defArgs s__law_names) (defBody s__law_names) (defScope s__law_names) .none kV__law_names dc__law_names pm__law_names an__law_names cd__law_names ct__law_names), sl__law_names⟩)
    (c__law_names : PySem.W.codeIn K cd__law_names "_law_names" = true)
    (k__law_names : PySem.W.keepIn K (.ref f__law_names) = true)
    (g__law_step : PySem.W.nsIn K mainGlobals "_law_step" = some (some (.ref f__law_step)))
    (l__law_step : K.lookup f__law_step = some ⟨oc__law_step, od__law_step, .func (PySem.W.fnOf "_law_step" "_law_step" (defArgs s__law_step) (defBody s__law_step) (defScope s__law_step) .none kV__law_step dc__law_step pm__law_step an__law_step cd__law_step ct__law_step), sl__law_step⟩)
    (c__law_step : PySem.W.codeIn K cd__law_step "_law_step" = true)
    (k__law_step : PySem.W.keepIn K (.ref f__law_step) = true)
    (g__law_role : PySem.W.nsIn K mainGlobals "_law_role" = some (some (.ref f__law_role)))
    (l__law_role : K.lookup f__law_role = some ⟨oc__law_role, od__law_role, .func (PySem.W.fnOf "_law_role" "_law_role" (defArgs s__law_role) (defBody s__law_role) (defScope s__law_role) .none kV__law_role dc__law_role pm__law_role an__law_role cd__law_role ct__law_role), sl__law_role⟩)
    (c__law_role : PySem.W.codeIn K cd__law_role "_law_role" = true)
    (k__law_role : PySem.W.keepIn K (.ref f__law_role) = true)
    (g__law_woven : PySem.W.nsIn K mainGlobals "_law_woven" = some (some (.ref f__law_woven)))
    (l__law_woven : K.lookup f__law_woven = some ⟨oc__law_woven, od__law_woven, .func (PySem.W.fnOf "_law_woven" "_law_woven" (defArgs s__law_woven) (defBody s__law_woven) (defScope s__law_woven) .none kV__law_woven dc__law_woven pm__law_woven an__law_woven cd__law_woven ct__law_woven), sl__law_woven⟩)
    (c__law_woven : PySem.W.codeIn K cd__law_woven "_law_woven" = true)
    (k__law_woven : PySem.W.keepIn K (.ref f__law_woven) = true)
    (g__law_noted : PySem.W.nsIn K mainGlobals "_law_noted" = some (some (.ref f__law_noted)))
    (l__law_noted : K.lookup f__law_noted = some ⟨oc__law_noted, od__law_noted, .func (PySem.W.fnOf "_law_noted" "_law_noted" (defArgs s__law_noted) (defBody s__law_noted) (defScope s__law_noted) .none kV__law_noted dc__law_noted pm__law_noted an__law_noted cd__law_noted ct__law_noted), sl__law_noted⟩)
    (c__law_noted : PySem.W.codeIn K cd__law_noted "_law_noted" = true)
    (k__law_noted : PySem.W.keepIn K (.ref f__law_noted) = true)
    (g__law_heaped : PySem.W.nsIn K mainGlobals "_law_heaped" = some (some (.ref f__law_heaped)))
    (l__law_heaped : K.lookup f__law_heaped = some ⟨oc__law_heaped, od__law_heaped, .func (PySem.W.fnOf "_law_heaped" "_law_heaped" (defArgs s__law_heaped) (defBody s__law_heaped) (defScope s__law_heaped) .none kV__law_heaped dc__law_heaped pm__law_heaped an__law_heaped cd__law_heaped ct__law_heaped), sl__law_heaped⟩)
    (c__law_heaped : PySem.W.codeIn K cd__law_heaped "_law_heaped" = true)
    (k__law_heaped : PySem.W.keepIn K (.ref f__law_heaped) = true)
    (g__law_net : PySem.W.nsIn K mainGlobals "_law_net" = some (some (.ref f__law_net)))
    (l__law_net : K.lookup f__law_net = some ⟨oc__law_net, od__law_net, .func (PySem.W.fnOf "_law_net" "_law_net" (defArgs s__law_net) (defBody s__law_net) (defScope s__law_net) .none kV__law_net dc__law_net pm__law_net an__law_net cd__law_net ct__law_net), sl__law_net⟩)
    (c__law_net : PySem.W.codeIn K cd__law_net "_law_net" = true)
    (k__law_net : PySem.W.keepIn K (.ref f__law_net) = true)
    (g__law_any_net : PySem.W.nsIn K mainGlobals "_law_any_net" = some (some (.ref f__law_any_net)))
    (l__law_any_net : K.lookup f__law_any_net = some ⟨oc__law_any_net, od__law_any_net, .func (PySem.W.fnOf "_law_any_net" "_law_any_net" (defArgs s__law_any_net) (defBody s__law_any_net) (defScope s__law_any_net) .none kV__law_any_net dc__law_any_net pm__law_any_net an__law_any_net cd__law_any_net ct__law_any_net), sl__law_any_net⟩)
    (c__law_any_net : PySem.W.codeIn K cd__law_any_net "_law_any_net" = true)
    (k__law_any_net : PySem.W.keepIn K (.ref f__law_any_net) = true)
    (g__law_run : PySem.W.nsIn K mainGlobals "_law_run" = some (some (.ref f__law_run)))
    (l__law_run : K.lookup f__law_run = some ⟨oc__law_run, od__law_run, .func (PySem.W.fnOf "_law_run" "_law_run" (defArgs s__law_run) (defBody s__law_run) (defScope s__law_run) .none kV__law_run dc__law_run pm__law_run an__law_run cd__law_run ct__law_run), sl__law_run⟩)
    (c__law_run : PySem.W.codeIn K cd__law_run "_law_run" = true)
    (k__law_run : PySem.W.keepIn K (.ref f__law_run) = true)
    (g__law_heard : PySem.W.nsIn K mainGlobals "_law_heard" = some (some (.ref f__law_heard)))
    (l__law_heard : K.lookup f__law_heard = some ⟨oc__law_heard, od__law_heard, .func (PySem.W.fnOf "_law_heard" "_law_heard" (defArgs s__law_heard) (defBody s__law_heard) (defScope s__law_heard) .none kV__law_heard dc__law_heard pm__law_heard an__law_heard cd__law_heard ct__law_heard), sl__law_heard⟩)
    (c__law_heard : PySem.W.codeIn K cd__law_heard "_law_heard" = true)
    (k__law_heard : PySem.W.keepIn K (.ref f__law_heard) = true)
    (g__law_home : PySem.W.nsIn K mainGlobals "_law_home" = some (some (.ref f__law_home)))
    (l__law_home : K.lookup f__law_home = some ⟨oc__law_home, od__law_home, .func (PySem.W.fnOf "_law_home" "_law_home" (defArgs s__law_home) (defBody s__law_home) (defScope s__law_home) .none kV__law_home dc__law_home pm__law_home an__law_home cd__law_home ct__law_home), sl__law_home⟩)
    (c__law_home : PySem.W.codeIn K cd__law_home "_law_home" = true)
    (k__law_home : PySem.W.keepIn K (.ref f__law_home) = true)
    (g_law : PySem.W.nsIn K mainGlobals "law" = some (some (.ref f_law)))
    (l_law : K.lookup f_law = some ⟨oc_law, od_law, .func (PySem.W.fnOf "law" "law" (defArgs s_law) (defBody s_law) (defScope s_law) .none kV_law dc_law pm_law an_law (.ref c3) ct_law), sl_law⟩)
    (c_law : PySem.W.codeIn K (.ref c3) "law" = true)
    (k_law : PySem.W.keepIn K (.ref f_law) = true)
    (lk_c1 : K.lookup c1 = some ⟨ovq1, dvq1, .fields vq1, svq1⟩)
    (v_c1 : vq1[11]? = some (.ref Q1))
    (h_c1 : PySem.W.codeHdIn K c1 Q1 = true)
    (e_c1 : h.get? Q1 = some (PySem.W.tabObj #[]))
    (nl_c1 : K.lookup Q1 = none)
    (lk_c2 : K.lookup c2 = some ⟨ovq2, dvq2, .fields vq2, svq2⟩)
    (v_c2 : vq2[11]? = some (.ref Q2))
    (h_c2 : PySem.W.codeHdIn K c2 Q2 = true)
    (e_c2 : h.get? Q2 = some (PySem.W.tabObj #[]))
    (nl_c2 : K.lookup Q2 = none)
    (lk_c3 : K.lookup c3 = some ⟨ovq3, dvq3, .fields vq3, svq3⟩)
    (v_c3 : vq3[11]? = some (.ref Q3))
    (h_c3 : PySem.W.codeHdIn K c3 Q3 = true)
    (e_c3 : h.get? Q3 = some (PySem.W.tabObj #[]))
    (nl_c3 : K.lookup Q3 = none)
    (nQ12 : Q1 ≠ Q2)
    (nQ13 : Q1 ≠ Q3)
    (nQ23 : Q2 ≠ Q3) :
    LawAtS l w K CX0 13 63 "script" mg fa h := by
  have e := hfa.symm.trans (PySem.W.mg_of X G g_law)
  cases e
  have T : Tx mg := by
    exact ⟨PySem.W.mg_none_of X G b_len, PySem.W.mg_none_of X G b_isinstance, PySem.W.mg_none_of X G b_all, PySem.W.mg_none_of X G b_any, PySem.W.mg_none_of X G b_sum, PySem.W.mg_none_of X G b_tuple, PySem.W.mg_none_of X G b_list, PySem.W.mg_none_of X G b_dict, PySem.W.mg_none_of X G b_sorted, PySem.W.mg_none_of X G b_enumerate, PySem.W.mg_none_of X G b_range, PySem.W.mg_none_of X G b_zip, PySem.W.mg_none_of X G b_int, PySem.W.mg_none_of X G b_bool, PySem.W.mg_none_of X G b_str, PySem.W.mg_none_of X G b_abs, ⟨_, PySem.W.mg_of X G k_MOST_STATES⟩⟩
  have xCR : ExTxt l.prog K mg CR fCR ccCR "Refused.__init__" sRF := { oex := { cls := ⟨_, _, _, _, _, _, _, _, _, _, _, _, _, _, _, x_Refused, r_Refused⟩, sa := sa_Refused, exC := ex_Refused, tyC := ty_Refused, kC := kc_Refused }, ini := i_Refused, tyI := ti_Refused, fn := ⟨_, _, _, _, _, _, _, _, _, _, _, _, _, _, _, l_Refused, c_Refused, lc_Refused, v_Refused, fl_Refused⟩, cel := ⟨_, _, _, cel_Refused⟩, slf := slf_Refused, sup := sup_Refused, isV := isV_Refused, opq := opq, mgS := PySem.W.mg_none_of X G mgS, mgC := mgC }
  have xCN : ExTxt l.prog K mg CN fCN ccCN "NoName.__init__" sNN := { oex := { cls := ⟨_, _, _, _, _, _, _, _, _, _, _, _, _, _, _, x_NoName, r_NoName⟩, sa := sa_NoName, exC := ex_NoName, tyC := ty_NoName, kC := kc_NoName }, ini := i_NoName, tyI := ti_NoName, fn := ⟨_, _, _, _, _, _, _, _, _, _, _, _, _, _, _, l_NoName, c_NoName, lc_NoName, v_NoName, fl_NoName⟩, cel := ⟨_, _, _, cel_NoName⟩, slf := slf_NoName, sup := sup_NoName, isV := isV_NoName, opq := opq, mgS := PySem.W.mg_none_of X G mgS, mgC := mgC }
  have TE : Tex l.prog K mg CR fCR ccCR CN fCN ccCN CO := { g_Refused := PySem.W.mg_of X G a_Refused, xRF := xCR, nRF := n_why, g_NoName := PySem.W.mg_of X G a_NoName, xNN := xCN, nNN := n_name, g_Nothing := PySem.W.mg_of X G a_Nothing, xN := x_Nothing, kN := k_Nothing, bN := b_Nothing, tN := t_Nothing }
  have TY : Tey K CR CN CO := { oo := m_oo, no := m_no, nn := m_nn, ro := m_ro, rn := m_rn, rr := m_rr, xR := ⟨ga_Refused, gg_Refused, ex_Refused, hd_Refused⟩, xNm := ⟨ga_NoName, gg_NoName, ex_NoName, hd_NoName⟩ }
  have TX : TAx K mg CO CN CR := { gO := PySem.W.mg_of X G a_Nothing, gN := PySem.W.mg_of X G a_NoName, gR := PySem.W.mg_of X G a_Refused, oo := m_oo, no := m_no, nn := m_nn, ro := m_ro, rn := m_rn, rr := m_rr, xR := ⟨ga_Refused, gg_Refused, ex_Refused, hd_Refused⟩, xN := ⟨ga_NoName, gg_NoName, ex_NoName, hd_NoName⟩, fR := n_why, fN := n_name }
  have hu1 : ∀ p ∈ ([(Q1, qWT), (Q2, qWE), (Q3, qLW)] : List (Addr × Str)), p.1 = Q1 → p.2 = qWT := fun p hp e => by
    simp only [List.mem_cons, List.not_mem_nil, or_false] at hp
    rcases hp with rfl | rfl | rfl
    · rfl
    · exact (nQ12 e.symm).elim
    · exact (nQ13 e.symm).elim
  have hu2 : ∀ p ∈ ([(Q1, qWT), (Q2, qWE), (Q3, qLW)] : List (Addr × Str)), p.1 = Q2 → p.2 = qWE := fun p hp e => by
    simp only [List.mem_cons, List.not_mem_nil, or_false] at hp
    rcases hp with rfl | rfl | rfl
    · exact (nQ12 e).elim
    · rfl
    · exact (nQ23 e.symm).elim
  have hu3 : ∀ p ∈ ([(Q1, qWT), (Q2, qWE), (Q3, qLW)] : List (Addr × Str)), p.1 = Q3 → p.2 = qLW := fun p hp e => by
    simp only [List.mem_cons, List.not_mem_nil, or_false] at hp
    rcases hp with rfl | rfl | rfl
    · exact (nQ13 e).elim
    · exact (nQ23 e).elim
    · rfl
  have F_is_integer := fun_mk (st := s_is_integer) l_is_integer c_is_integer k_is_integer
  have B_is_integer := F_is_integer.binds (ps := ["thing"]) fun _ _ _ _ _ _ us hl => match us, hl with | [_], _ => rfl
  have G_is_integer := PySem.W.mg_of X G g_is_integer
  have F_is_within := fun_mk (st := s_is_within) l_is_within c_is_within k_is_within
  have B_is_within := F_is_within.binds (ps := ["thing", "least", "most"]) fun _ _ _ _ _ _ us hl => match us, hl with | [_, _, _], _ => rfl
  have G_is_within := PySem.W.mg_of X G g_is_within
  have F_is_string := fun_mk (st := s_is_string) l_is_string c_is_string k_is_string
  have B_is_string := F_is_string.binds (ps := ["thing"]) fun _ _ _ _ _ _ us hl => match us, hl with | [_], _ => rfl
  have G_is_string := PySem.W.mg_of X G g_is_string
  have F_does_hold := fun_mk (st := s_does_hold) l_does_hold c_does_hold k_does_hold
  have B_does_hold := F_does_hold.binds (ps := ["test", "worth"]) fun _ _ _ _ _ _ us hl => match us, hl with | [_, _], _ => rfl
  have G_does_hold := PySem.W.mg_of X G g_does_hold
  have F_counts_of := fun_mk (st := s_counts_of) l_counts_of c_counts_of k_counts_of
  have B_counts_of := F_counts_of.binds (ps := ["net", "some"]) fun _ _ _ _ _ _ us hl => match us, hl with | [_, _], _ => rfl
  have G_counts_of := PySem.W.mg_of X G g_counts_of
  have F_do_all_hold := fun_mk (st := s_do_all_hold) l_do_all_hold c_do_all_hold k_do_all_hold
  have B_do_all_hold := F_do_all_hold.binds (ps := ["net", "tests", "values"]) fun _ _ _ _ _ _ us hl => match us, hl with | [_, _, _], _ => rfl
  have G_do_all_hold := PySem.W.mg_of X G g_do_all_hold
  have F_first_state := fun_mk (st := s_first_state) l_first_state c_first_state k_first_state
  have B_first_state := F_first_state.binds (ps := ["net"]) fun _ _ _ _ _ _ us hl => match us, hl with | [_], _ => rfl
  have G_first_state := PySem.W.mg_of X G g_first_state
  have F_is_ended := fun_mk (st := s_is_ended) l_is_ended c_is_ended k_is_ended
  have B_is_ended := F_is_ended.binds (ps := ["net", "state"]) fun _ _ _ _ _ _ us hl => match us, hl with | [_, _], _ => rfl
  have G_is_ended := PySem.W.mg_of X G g_is_ended
  have F_may_do := fun_mk (st := s_may_do) l_may_do c_may_do k_may_do
  have B_may_do := F_may_do.binds (ps := ["net", "state", "index"]) fun _ _ _ _ _ _ us hl => match us, hl with | [_, _, _], _ => rfl
  have G_may_do := PySem.W.mg_of X G g_may_do
  have F_doable := fun_mk (st := s_doable) l_doable c_doable k_doable
  have B_doable := F_doable.binds (ps := ["net", "state"]) fun _ _ _ _ _ _ us hl => match us, hl with | [_, _], _ => rfl
  have G_doable := PySem.W.mg_of X G g_doable
  have F_behind := fun_mk (st := s_behind) l_behind c_behind k_behind
  have B_behind := F_behind.binds (ps := ["net", "state", "index"]) fun _ _ _ _ _ _ us hl => match us, hl with | [_, _, _], _ => rfl
  have G_behind := PySem.W.mg_of X G g_behind
  have F_led := fun_mk (st := s_led) l_led c_led k_led
  have B_led := F_led.binds (ps := ["net", "state", "index"]) fun _ _ _ _ _ _ us hl => match us, hl with | [_, _, _], _ => rfl
  have G_led := PySem.W.mg_of X G g_led
  have F_ways_from := fun_mk (st := s_ways_from) l_ways_from c_ways_from k_ways_from
  have B_ways_from := F_ways_from.binds (ps := ["net", "state"]) fun _ _ _ _ _ _ us hl => match us, hl with | [_, _], _ => rfl
  have G_ways_from := PySem.W.mg_of X G g_ways_from
  have F_met_states := fun_mk (st := s_met_states) l_met_states c_met_states k_met_states
  have B_met_states := F_met_states.binds (ps := ["net"]) fun _ _ _ _ _ _ us hl => match us, hl with | [_], _ => rfl
  have G_met_states := PySem.W.mg_of X G g_met_states
  have F_is_too_wide := fun_mk (st := s_is_too_wide) l_is_too_wide c_is_too_wide k_is_too_wide
  have B_is_too_wide := F_is_too_wide.binds (ps := ["net"]) fun _ _ _ _ _ _ us hl => match us, hl with | [_], _ => rfl
  have G_is_too_wide := PySem.W.mg_of X G g_is_too_wide
  have F_step_named := fun_mk (st := s_step_named) l_step_named c_step_named k_step_named
  have B_step_named := F_step_named.binds (ps := ["net", "name"]) fun _ _ _ _ _ _ us hl => match us, hl with | [_, _], _ => rfl
  have G_step_named := PySem.W.mg_of X G g_step_named
  have F_run_states := fun_mk (st := s_run_states) l_run_states c_run_states k_run_states
  have B_run_states := F_run_states.binds (ps := ["net", "names"]) fun _ _ _ _ _ _ us hl => match us, hl with | [_, _], _ => rfl
  have G_run_states := PySem.W.mg_of X G g_run_states
  have F_run_state := fun_mk (st := s_run_state) l_run_state c_run_state k_run_state
  have B_run_state := F_run_state.binds (ps := ["net", "names"]) fun _ _ _ _ _ _ us hl => match us, hl with | [_, _], _ => rfl
  have G_run_state := PySem.W.mg_of X G g_run_state
  have F_is_run := fun_mk (st := s_is_run) l_is_run c_is_run k_is_run
  have B_is_run := F_is_run.binds (ps := ["net", "thing"]) fun _ _ _ _ _ _ us hl => match us, hl with | [_, _], _ => rfl
  have G_is_run := PySem.W.mg_of X G g_is_run
  have F_last_fine := fun_mk (st := s_last_fine) l_last_fine c_last_fine k_last_fine
  have B_last_fine := F_last_fine.binds (ps := ["net", "names"]) fun _ _ _ _ _ _ us hl => match us, hl with | [_, _], _ => rfl
  have G_last_fine := PySem.W.mg_of X G g_last_fine
  have F_names_of := fun_mk (st := s_names_of) l_names_of c_names_of k_names_of
  have B_names_of := F_names_of.binds (ps := ["net", "indexes"]) fun _ _ _ _ _ _ us hl => match us, hl with | [_, _], _ => rfl
  have G_names_of := PySem.W.mg_of X G g_names_of
  have F_do_commute := fun_mk (st := s_do_commute) l_do_commute c_do_commute k_do_commute
  have B_do_commute := F_do_commute.binds (ps := ["net", "state", "one", "other"]) fun _ _ _ _ _ _ us hl => match us, hl with | [_, _, _, _], _ => rfl
  have G_do_commute := PySem.W.mg_of X G g_do_commute
  have F_way_between := fun_mk (st := s_way_between) l_way_between c_way_between k_way_between
  have B_way_between := F_way_between.binds (ps := ["net", "state", "fits"]) fun _ _ _ _ _ _ us hl => match us, hl with | [_, _, _], _ => rfl
  have G_way_between := PySem.W.mg_of X G g_way_between
  have FC_way_to : FunC K "way_to" "way_to" s_way_to f_way_to _ c1 := ⟨⟨_, _, _, _, _, _, _, _, rfl, l_way_to, c_way_to⟩, k_way_to⟩
  have F_way_to := FC_way_to.fn
  have B_way_to := F_way_to.binds (ps := ["net", "state"]) fun _ _ _ _ _ _ us hl => match us, hl with | [_, _], _ => rfl
  have G_way_to := PySem.W.mg_of X G g_way_to
  have FC_way_to_end : FunC K "way_to_end" "way_to_end" s_way_to_end f_way_to_end _ c2 := ⟨⟨_, _, _, _, _, _, _, _, rfl, l_way_to_end, c_way_to_end⟩, k_way_to_end⟩
  have F_way_to_end := FC_way_to_end.fn
  have B_way_to_end := F_way_to_end.binds (ps := ["net", "state"]) fun _ _ _ _ _ _ us hl => match us, hl with | [_, _], _ => rfl
  have G_way_to_end := PySem.W.mg_of X G g_way_to_end
  have F__law_take := fun_mk (st := s__law_take) l__law_take c__law_take k__law_take
  have B__law_take := F__law_take.binds (ps := ["bag", "many"]) fun _ _ _ _ _ _ us hl => match us, hl with | [_, _], _ => rfl
  have G__law_take := PySem.W.mg_of X G g__law_take
  have F__law_some := fun_mk (st := s__law_some) l__law_some c__law_some k__law_some
  have B__law_some := F__law_some.binds (ps := ["bag", "things"]) fun _ _ _ _ _ _ us hl => match us, hl with | [_, _], _ => rfl
  have G__law_some := PySem.W.mg_of X G g__law_some
  have F__law_bag := fun_mk (st := s__law_bag) l__law_bag c__law_bag k__law_bag
  have B__law_bag := F__law_bag.binds (ps := ["script"]) fun _ _ _ _ _ _ us hl => match us, hl with | [_], _ => rfl
  have G__law_bag := PySem.W.mg_of X G g__law_bag
  have F__law_mixed := fun_mk (st := s__law_mixed) l__law_mixed c__law_mixed k__law_mixed
  have B__law_mixed := F__law_mixed.binds (ps := ["bag", "things"]) fun _ _ _ _ _ _ us hl => match us, hl with | [_, _], _ => rfl
  have G__law_mixed := PySem.W.mg_of X G g__law_mixed
  have F__law_alike := fun_mk (st := s__law_alike) l__law_alike c__law_alike k__law_alike
  have B__law_alike := F__law_alike.binds (ps := ["found", "due"]) fun _ _ _ _ _ _ us hl => match us, hl with | [_, _], _ => rfl
  have G__law_alike := PySem.W.mg_of X G g__law_alike
  have F__law_counts := fun_mk (st := s__law_counts) l__law_counts c__law_counts k__law_counts
  have B__law_counts := F__law_counts.binds (ps := ["net", "some"]) fun _ _ _ _ _ _ us hl => match us, hl with | [_, _], _ => rfl
  have G__law_counts := PySem.W.mg_of X G g__law_counts
  have F__law_holds := fun_mk (st := s__law_holds) l__law_holds c__law_holds k__law_holds
  have B__law_holds := F__law_holds.binds (ps := ["net", "tests", "values"]) fun _ _ _ _ _ _ us hl => match us, hl with | [_, _, _], _ => rfl
  have G__law_holds := PySem.W.mg_of X G g__law_holds
  have F__law_first := fun_mk (st := s__law_first) l__law_first c__law_first k__law_first
  have B__law_first := F__law_first.binds (ps := ["net"]) fun _ _ _ _ _ _ us hl => match us, hl with | [_], _ => rfl
  have G__law_first := PySem.W.mg_of X G g__law_first
  have F__law_may := fun_mk (st := s__law_may) l__law_may c__law_may k__law_may
  have B__law_may := F__law_may.binds (ps := ["net", "state", "index"]) fun _ _ _ _ _ _ us hl => match us, hl with | [_, _, _], _ => rfl
  have G__law_may := PySem.W.mg_of X G g__law_may
  have F__law_led := fun_mk (st := s__law_led) l__law_led c__law_led k__law_led
  have B__law_led := F__law_led.binds (ps := ["net", "state", "index"]) fun _ _ _ _ _ _ us hl => match us, hl with | [_, _, _], _ => rfl
  have G__law_led := PySem.W.mg_of X G g__law_led
  have F__law_doable := fun_mk (st := s__law_doable) l__law_doable c__law_doable k__law_doable
  have B__law_doable := F__law_doable.binds (ps := ["net", "state"]) fun _ _ _ _ _ _ us hl => match us, hl with | [_, _], _ => rfl
  have G__law_doable := PySem.W.mg_of X G g__law_doable
  have F__law_is_ended := fun_mk (st := s__law_is_ended) l__law_is_ended c__law_is_ended k__law_is_ended
  have B__law_is_ended := F__law_is_ended.binds (ps := ["state"]) fun _ _ _ _ _ _ us hl => match us, hl with | [_], _ => rfl
  have G__law_is_ended := PySem.W.mg_of X G g__law_is_ended
  have F__law_met := fun_mk (st := s__law_met) l__law_met c__law_met k__law_met
  have B__law_met := F__law_met.binds (ps := ["net"]) fun _ _ _ _ _ _ us hl => match us, hl with | [_], _ => rfl
  have G__law_met := PySem.W.mg_of X G g__law_met
  have F__law_way := fun_mk (st := s__law_way) l__law_way c__law_way k__law_way
  have B__law_way := F__law_way.binds (ps := ["net", "fits"]) fun _ _ _ _ _ _ us hl => match us, hl with | [_, _], _ => rfl
  have G__law_way := PySem.W.mg_of X G g__law_way
  have F__law_names := fun_mk (st := s__law_names) l__law_names c__law_names k__law_names
  have B__law_names := F__law_names.binds (ps := ["net", "way"]) fun _ _ _ _ _ _ us hl => match us, hl with | [_, _], _ => rfl
  have G__law_names := PySem.W.mg_of X G g__law_names
  have F__law_step := fun_mk (st := s__law_step) l__law_step c__law_step k__law_step
  have B__law_step := F__law_step.binds (ps := ["name", "role", "inputs", "outputs", "tests", "sets", "days"]) fun _ _ _ _ _ _ us hl => match us, hl with | [_, _, _, _, _, _, _], _ => rfl
  have G__law_step := PySem.W.mg_of X G g__law_step
  have F__law_role := fun_mk (st := s__law_role) l__law_role c__law_role k__law_role
  have B__law_role := F__law_role.binds (ps := ["bag"]) fun _ _ _ _ _ _ us hl => match us, hl with | [_], _ => rfl
  have G__law_role := PySem.W.mg_of X G g__law_role
  have F__law_woven := fun_mk (st := s__law_woven) l__law_woven c__law_woven k__law_woven
  have B__law_woven := F__law_woven.binds (ps := ["bag", "many"]) fun _ _ _ _ _ _ us hl => match us, hl with | [_, _], _ => rfl
  have G__law_woven := PySem.W.mg_of X G g__law_woven
  have F__law_noted := fun_mk (st := s__law_noted) l__law_noted c__law_noted k__law_noted
  have B__law_noted := F__law_noted.binds (ps := ["bag"]) fun _ _ _ _ _ _ us hl => match us, hl with | [_], _ => rfl
  have G__law_noted := PySem.W.mg_of X G g__law_noted
  have F__law_heaped := fun_mk (st := s__law_heaped) l__law_heaped c__law_heaped k__law_heaped
  have B__law_heaped := F__law_heaped.binds (ps := ["bag"]) fun _ _ _ _ _ _ us hl => match us, hl with | [_], _ => rfl
  have G__law_heaped := PySem.W.mg_of X G g__law_heaped
  have F__law_net := fun_mk (st := s__law_net) l__law_net c__law_net k__law_net
  have B__law_net := F__law_net.binds (ps := ["bag"]) fun _ _ _ _ _ _ us hl => match us, hl with | [_], _ => rfl
  have G__law_net := PySem.W.mg_of X G g__law_net
  have F__law_any_net := fun_mk (st := s__law_any_net) l__law_any_net c__law_any_net k__law_any_net
  have B__law_any_net := F__law_any_net.binds (ps := ["bag"]) fun _ _ _ _ _ _ us hl => match us, hl with | [_], _ => rfl
  have G__law_any_net := PySem.W.mg_of X G g__law_any_net
  have F__law_run := fun_mk (st := s__law_run) l__law_run c__law_run k__law_run
  have B__law_run := F__law_run.binds (ps := ["bag", "net", "many"]) fun _ _ _ _ _ _ us hl => match us, hl with | [_, _, _], _ => rfl
  have G__law_run := PySem.W.mg_of X G g__law_run
  have F__law_heard := fun_mk (st := s__law_heard) l__law_heard c__law_heard k__law_heard
  have B__law_heard := F__law_heard.binds (ps := ["act"]) fun _ _ _ _ _ _ us hl => match us, hl with | [_], _ => rfl
  have G__law_heard := PySem.W.mg_of X G g__law_heard
  have F__law_home := fun_mk (st := s__law_home) l__law_home c__law_home k__law_home
  have B__law_home := F__law_home.binds (ps := ["net", "state"]) fun _ _ _ _ _ _ us hl => match us, hl with | [_, _], _ => rfl
  have G__law_home := PySem.W.mg_of X G g__law_home
  have FC_law : FunC K "law" "law" s_law _ _ c3 := ⟨⟨_, _, _, _, _, _, _, _, rfl, l_law, c_law⟩, k_law⟩
  have F_law := FC_law.fn
  have B_law := F_law.binds (ps := ["script"]) fun _ _ _ _ _ _ us hl => match us, hl with | [_], _ => rfl
  have G_law := PySem.W.mg_of X G g_law
  refine ⟨PySem.W.fnOf "law" "law" (defArgs s_law) (defBody s_law) (defScope s_law) .none kV_law dc_law pm_law an_law (.ref c3) ct_law, [(c1, Q1), (c2, Q2), (c3, Q3)], sp_thelaw K [(Q1, qWT), (Q2, qWE), (Q3, qLW)], fun p hp => ?_, fun p hp => ?_, fun p hp => ?_, fun s u => .of_eq rfl, fun H a ns _ _ hH hS => ⟨a, ns, rfl, hS, fun p hp => ?_, fun _ => rfl⟩, fun base hb hn hTB => ?_⟩
  · simp only [List.mem_cons, List.not_mem_nil, or_false] at hp
    rcases hp with rfl | rfl | rfl
    · exact e_c1
    · exact e_c2
    · exact e_c3
  · simp only [List.mem_cons, List.not_mem_nil, or_false] at hp
    rcases hp with rfl | rfl | rfl
    · exact nl_c1
    · exact nl_c2
    · exact nl_c3
  · simp only [List.mem_cons, List.not_mem_nil, or_false] at hp
    rcases hp with rfl | rfl | rfl
    · exact PySem.W.codeHd_of_K X h_c1
    · exact PySem.W.codeHd_of_K X h_c2
    · exact PySem.W.codeHd_of_K X h_c3
  · simp only [List.mem_cons, List.not_mem_nil, or_false] at hp
    rcases hp with rfl | rfl | rfl
    · exact TabS.nil (hH (c1, Q1) (by simp))
    · exact TabS.nil (hH (c2, Q2) (by simp))
    · exact TabS.nil (hH (c3, Q3) (by simp))
  have d_is_integer : Ok1 l.prog w K mg base CX0 1 "is_integer" ["thing"] sp_is_integer f_is_integer _ := ⟨G_is_integer, k_is_integer, B_is_integer, ok_is_integer F_is_integer T⟩
  have d_is_within : Ok1 l.prog w K mg base CX0 2 "is_within" ["thing", "least", "most"] sp_is_within f_is_within _ := ⟨G_is_within, k_is_within, B_is_within, ok_is_within F_is_within T d_is_integer⟩
  have d_is_string : Ok1 l.prog w K mg base CX0 1 "is_string" ["thing"] sp_is_string f_is_string _ := ⟨G_is_string, k_is_string, B_is_string, ok_is_string F_is_string T⟩
  have d_does_hold : Ok1 l.prog w K mg base CX0 1 "does_hold" ["test", "worth"] sp_hold f_does_hold _ := ⟨G_does_hold, k_does_hold, B_does_hold, ok_hold F_does_hold T⟩
  have d_counts_of : Ok1 l.prog w K mg base CX0 1 "counts_of" ["net", "some"] sp_counts f_counts_of _ := ⟨G_counts_of, k_counts_of, B_counts_of, ok_counts F_counts_of T⟩
  have d_do_all_hold : Ok1 l.prog w K mg base CX0 2 "do_all_hold" ["net", "tests", "values"] sp_allhold f_do_all_hold _ := ⟨G_do_all_hold, k_do_all_hold, B_do_all_hold, ok_allhold F_do_all_hold T d_does_hold⟩
  have d_first_state : Ok1 l.prog w K mg base CX0 1 "first_state" ["net"] sp_first f_first_state _ := ⟨G_first_state, k_first_state, B_first_state, ok_first F_first_state T⟩
  have d_is_ended : Ok1 l.prog w K mg base CX0 1 "is_ended" ["net", "state"] sp_ended f_is_ended _ := ⟨G_is_ended, k_is_ended, B_is_ended, ok_ended F_is_ended T⟩
  have d_may_do : Ok1 l.prog w K mg base CX0 3 "may_do" ["net", "state", "index"] sp_may f_may_do _ := ⟨G_may_do, k_may_do, B_may_do, ok_may F_may_do T d_do_all_hold d_counts_of⟩
  have d_doable : Ok1 l.prog w K mg base CX0 4 "doable" ["net", "state"] sp_doable f_doable _ := ⟨G_doable, k_doable, B_doable, ok_doable F_doable T d_may_do⟩
  have d_behind : Ok1 l.prog w K mg base CX0 2 "behind" ["net", "state", "index"] sp_behind f_behind _ := ⟨G_behind, k_behind, B_behind, ok_behind F_behind T d_counts_of⟩
  have d_led : Ok1 l.prog w K mg base (L2.CX l.prog w) 4 "led" ["net", "state", "index"] (sp_led CR) f_led _ := ⟨G_led, k_led, B_led, ok_led F_led T TE d_is_within d_may_do d_behind⟩
  have d_ways_from : Ok1 l.prog w K mg base CX0 5 "ways_from" ["net", "state"] sp_ways f_ways_from _ := ⟨G_ways_from, k_ways_from, B_ways_from, ok_ways F_ways_from T d_doable d_behind⟩
  have d_met_states : Ok1 l.prog w K mg base CX0 6 "met_states" ["net"] sp_met f_met_states _ := ⟨G_met_states, k_met_states, B_met_states, ok_met F_met_states T d_first_state d_ways_from⟩
  have d_is_too_wide : Ok1 l.prog w K mg base CX0 7 "is_too_wide" ["net"] sp_wide f_is_too_wide _ := ⟨G_is_too_wide, k_is_too_wide, B_is_too_wide, ok_wide F_is_too_wide T d_met_states⟩
  have d_step_named : Ok1 l.prog w K mg base (L2.CX l.prog w) 2 "step_named" ["net", "name"] (sp_step CN) f_step_named _ := ⟨G_step_named, k_step_named, B_step_named, ok_step F_step_named T TE d_is_string⟩
  have d_run_states : Ok1 l.prog w K mg base (L2.CX l.prog w) 5 "run_states" ["net", "names"] (sp_runs CR CN) f_run_states _ := ⟨G_run_states, k_run_states, B_run_states, ok_runs F_run_states T d_first_state d_led d_step_named⟩
  have d_run_state : Ok1 l.prog w K mg base (L2.CX l.prog w) 6 "run_state" ["net", "names"] (sp_runst CR CN) f_run_state _ := ⟨G_run_state, k_run_state, B_run_state, ok_runst F_run_state T d_run_states⟩
  have d_is_run : Ok1 l.prog w K mg base CX0 6 "is_run" ["net", "thing"] sp_isrun f_is_run _ := ⟨G_is_run, k_is_run, B_is_run, ok_isrun F_is_run T TE TY d_run_states⟩
  have d_last_fine : Ok1 l.prog w K mg base CX0 5 "last_fine" ["net", "names"] sp_last f_last_fine _ := ⟨G_last_fine, k_last_fine, B_last_fine, ok_last F_last_fine T TE TY d_first_state d_led d_step_named⟩
  have d_names_of : Ok1 l.prog w K mg base CX0 1 "names_of" ["net", "indexes"] sp_names f_names_of _ := ⟨G_names_of, k_names_of, B_names_of, ok_names F_names_of T⟩
  have d_do_commute : Ok1 l.prog w K mg base CX0 4 "do_commute" ["net", "state", "one", "other"] sp_comm f_do_commute _ := ⟨G_do_commute, k_do_commute, B_do_commute, ok_comm F_do_commute T d_may_do d_behind⟩
  have d_way_to : Ok1 l.prog w K mg base (L2.CX l.prog w) 8 "way_to" ["net", "state"] (sp_wayto [(Q1, qWT), (Q2, qWE), (Q3, qLW)] CO) f_way_to _ := ⟨G_way_to, k_way_to, B_way_to, ok_wayto FC_way_to T TE F_way_between G_way_between B_way_between (hTB (c1, Q1) (by simp)) (by simp) hu1 d_first_state d_names_of d_ways_from⟩
  have d_way_to_end : Ok1 l.prog w K mg base (L2.CX l.prog w) 8 "way_to_end" ["net", "state"] (sp_wayend [(Q1, qWT), (Q2, qWE), (Q3, qLW)] CO) f_way_to_end _ := ⟨G_way_to_end, k_way_to_end, B_way_to_end, ok_wayend FC_way_to_end T TE F_way_between G_way_between B_way_between (hTB (c2, Q2) (by simp)) (by simp) hu2 d_is_ended d_names_of d_ways_from⟩
  have d__law_take : Ok1 l.prog w K mg base CX0 1 "_law_take" ["bag", "many"] sp_take f__law_take _ := ⟨G__law_take, k__law_take, B__law_take, ok_take F__law_take T⟩
  have d__law_some : Ok1 l.prog w K mg base CX0 2 "_law_some" ["bag", "things"] sp_some f__law_some _ := ⟨G__law_some, k__law_some, B__law_some, ok_some F__law_some T d__law_take⟩
  have d__law_bag : Ok1 l.prog w K mg base CX0 1 "_law_bag" ["script"] (sp_lbag K) f__law_bag _ := ⟨G__law_bag, k__law_bag, B__law_bag, ok_lbag F__law_bag T⟩
  have d__law_mixed : Ok1 l.prog w K mg base CX0 2 "_law_mixed" ["bag", "things"] sp_mixed f__law_mixed _ := ⟨G__law_mixed, k__law_mixed, B__law_mixed, ok_mixed F__law_mixed T d__law_take⟩
  have d__law_alike : Ok1 l.prog w K mg base CX0 1 "_law_alike" ["found", "due"] sp_alike f__law_alike _ := ⟨G__law_alike, k__law_alike, B__law_alike, ok_alike F__law_alike T⟩
  have d__law_counts : Ok1 l.prog w K mg base CX0 1 "_law_counts" ["net", "some"] sp_counts f__law_counts _ := ⟨G__law_counts, k__law_counts, B__law_counts, ok_lcounts F__law_counts T⟩
  have d__law_holds : Ok1 l.prog w K mg base CX0 1 "_law_holds" ["net", "tests", "values"] sp_allhold f__law_holds _ := ⟨G__law_holds, k__law_holds, B__law_holds, ok_lholds F__law_holds T⟩
  have d__law_first : Ok1 l.prog w K mg base CX0 1 "_law_first" ["net"] sp_first f__law_first _ := ⟨G__law_first, k__law_first, B__law_first, ok_lfirst F__law_first T⟩
  have d__law_may : Ok1 l.prog w K mg base CX0 2 "_law_may" ["net", "state", "index"] sp_may f__law_may _ := ⟨G__law_may, k__law_may, B__law_may, ok_lmay F__law_may T d__law_holds d__law_counts⟩
  have d__law_led : Ok1 l.prog w K mg base CX0 2 "_law_led" ["net", "state", "index"] sp_behind f__law_led _ := ⟨G__law_led, k__law_led, B__law_led, ok_lled F__law_led T d__law_counts⟩
  have d__law_doable : Ok1 l.prog w K mg base CX0 3 "_law_doable" ["net", "state"] sp_ldoable f__law_doable _ := ⟨G__law_doable, k__law_doable, B__law_doable, ok_ldoable F__law_doable T d__law_may⟩
  have d__law_is_ended : Ok1 l.prog w K mg base CX0 1 "_law_is_ended" ["state"] sp_lended f__law_is_ended _ := ⟨G__law_is_ended, k__law_is_ended, B__law_is_ended, ok_lended F__law_is_ended T⟩
  have d__law_met : Ok1 l.prog w K mg base CX0 4 "_law_met" ["net"] sp_lmet f__law_met _ := ⟨G__law_met, k__law_met, B__law_met, ok_lmet F__law_met T d__law_first d__law_doable d__law_led⟩
  have d__law_names : Ok1 l.prog w K mg base CX0 1 "_law_names" ["net", "way"] sp_names f__law_names _ := ⟨G__law_names, k__law_names, B__law_names, ok_lnames F__law_names T⟩
  have d__law_step : Ok1 l.prog w K mg base CX0 1 "_law_step" ["name", "role", "inputs", "outputs", "tests", "sets", "days"] sp_lstep f__law_step _ := ⟨G__law_step, k__law_step, B__law_step, ok_lstep F__law_step T⟩
  have d__law_role : Ok1 l.prog w K mg base CX0 3 "_law_role" ["bag"] sp_role f__law_role _ := ⟨G__law_role, k__law_role, B__law_role, ok_role F__law_role T d__law_some⟩
  have d__law_woven : Ok1 l.prog w K mg base CX0 4 "_law_woven" ["bag", "many"] sp_woven f__law_woven _ := ⟨G__law_woven, k__law_woven, B__law_woven, ok_woven F__law_woven T d__law_take d__law_role d__law_step d__law_mixed⟩
  have d__law_noted : Ok1 l.prog w K mg base CX0 4 "_law_noted" ["bag"] sp_net f__law_noted _ := ⟨G__law_noted, k__law_noted, B__law_noted, ok_noted F__law_noted T d__law_take d__law_some d__law_step d__law_mixed⟩
  have d__law_heaped : Ok1 l.prog w K mg base CX0 4 "_law_heaped" ["bag"] sp_net f__law_heaped _ := ⟨G__law_heaped, k__law_heaped, B__law_heaped, ok_heaped F__law_heaped T d__law_take d__law_some d__law_step d__law_mixed⟩
  have d__law_net : Ok1 l.prog w K mg base CX0 5 "_law_net" ["bag"] sp_net f__law_net _ := ⟨G__law_net, k__law_net, B__law_net, ok_net F__law_net T d__law_take d__law_woven d__law_noted d__law_heaped⟩
  have d__law_any_net : Ok1 l.prog w K mg base CX0 6 "_law_any_net" ["bag"] sp_any f__law_any_net _ := ⟨G__law_any_net, k__law_any_net, B__law_any_net, ok_any F__law_any_net T d__law_take d__law_some d__law_step d__law_role d__law_net⟩
  have d__law_run : Ok1 l.prog w K mg base CX0 4 "_law_run" ["bag", "net", "many"] sp_run f__law_run _ := ⟨G__law_run, k__law_run, B__law_run, ok_run F__law_run T d__law_some d__law_first d__law_doable d__law_led⟩
  have d__law_home : Ok1 l.prog w K mg base CX0 4 "_law_home" ["net", "state"] sp_lhome f__law_home _ := ⟨G__law_home, k__law_home, B__law_home, ok_lhome F__law_home T d__law_is_ended d__law_doable d__law_led⟩
  exact ok_thelaw FC_law T F__law_heard G__law_heard B__law_heard TX (hTB (c3, Q3) (by simp)) (by simp) hu3 F__law_way G__law_way B__law_way d__law_bag d__law_take d__law_some d__law_alike d__law_first d__law_may d__law_led d__law_doable d__law_is_ended d__law_met d__law_names d__law_home d__law_net d__law_any_net d__law_run d_first_state d_is_ended d_may_do d_doable d_led d_met_states d_is_too_wide d_run_states d_run_state d_is_run d_last_fine d_do_commute d_way_to d_way_to_end
end Net
open PySem PySem.W PyProof.Rows in
set_option maxRecDepth 100000 in
set_option maxHeartbeats 0 in
theorem PySem.Challenge.cw_worknets_k22_runs_by_the_plain_meaning_holds : PySem.Challenge.rw_worknets_k22_runs_by_the_plain_meaning.Holds := by
  w_on; o_law; k_head; (case hw => w_witness2)
  k_fill
  refine LamX.walk_ofTs (l := PySem.Challenge.rw_worknets_k22_runs_by_the_plain_meaning) (n := 63) (k := 13) (x := "script") (CX := fun _ => L2.CX0) rfl (by decide) rfl ⟨rfl, by decide, by decide⟩ (fun w h Y => PySem.W.km_in_of Y) ?F fun _ _ _ _ _ z => z
  case F =>
    intro w mg fa h Y KX G hmg
    have hT8 := km_tabs_of Y
    refine' Net.all_mk KX G hmg ?b_len ?b_isinstance ?b_all ?b_any ?b_sum ?b_tuple ?b_list ?b_dict ?b_sorted ?b_enumerate ?b_range ?b_zip ?b_int ?b_bool ?b_str ?b_abs ?k_MOST_STATES ?a_Refused ?x_Refused ?r_Refused ?sa_Refused ?ex_Refused ?ty_Refused ?kc_Refused ?i_Refused ?ti_Refused ?l_Refused ?c_Refused ?lc_Refused ?v_Refused ?fl_Refused ?cel_Refused ?slf_Refused ?sup_Refused ?isV_Refused ?ga_Refused ?gg_Refused ?hd_Refused ?a_NoName ?x_NoName ?r_NoName ?sa_NoName ?ex_NoName ?ty_NoName ?kc_NoName ?i_NoName ?ti_NoName ?l_NoName ?c_NoName ?lc_NoName ?v_NoName ?fl_NoName ?cel_NoName ?slf_NoName ?sup_NoName ?isV_NoName ?ga_NoName ?gg_NoName ?hd_NoName ?n_why ?n_name ?opq ?mgS ?mgC ?a_Nothing ?x_Nothing ?k_Nothing ?b_Nothing ?t_Nothing ?m_oo ?m_no ?m_nn ?m_ro ?m_rn ?m_rr ?g_is_integer ?l_is_integer ?c_is_integer ?k_is_integer ?g_is_within ?l_is_within ?c_is_within ?k_is_within ?g_is_string ?l_is_string ?c_is_string ?k_is_string ?g_does_hold ?l_does_hold ?c_does_hold ?k_does_hold ?g_counts_of ?l_counts_of ?c_counts_of ?k_counts_of ?g_do_all_hold ?l_do_all_hold ?c_do_all_hold ?k_do_all_hold ?g_first_state ?l_first_state ?c_first_state ?k_first_state ?g_is_ended ?l_is_ended ?c_is_ended ?k_is_ended ?g_may_do ?l_may_do ?c_may_do ?k_may_do ?g_doable ?l_doable ?c_doable ?k_doable ?g_behind ?l_behind ?c_behind ?k_behind ?g_led ?l_led ?c_led ?k_led ?g_ways_from ?l_ways_from ?c_ways_from ?k_ways_from ?g_met_states ?l_met_states ?c_met_states ?k_met_states ?g_is_too_wide ?l_is_too_wide ?c_is_too_wide ?k_is_too_wide ?g_step_named ?l_step_named ?c_step_named ?k_step_named ?g_run_states ?l_run_states ?c_run_states ?k_run_states ?g_run_state ?l_run_state ?c_run_state ?k_run_state ?g_is_run ?l_is_run ?c_is_run ?k_is_run ?g_last_fine ?l_last_fine ?c_last_fine ?k_last_fine ?g_names_of ?l_names_of ?c_names_of ?k_names_of ?g_do_commute ?l_do_commute ?c_do_commute ?k_do_commute ?g_way_between ?l_way_between ?c_way_between ?k_way_between ?g_way_to ?l_way_to ?c_way_to ?k_way_to ?g_way_to_end ?l_way_to_end ?c_way_to_end ?k_way_to_end ?g__law_take ?l__law_take ?c__law_take ?k__law_take ?g__law_some ?l__law_some ?c__law_some ?k__law_some ?g__law_bag ?l__law_bag ?c__law_bag ?k__law_bag ?g__law_mixed ?l__law_mixed ?c__law_mixed ?k__law_mixed ?g__law_alike ?l__law_alike ?c__law_alike ?k__law_alike ?g__law_counts ?l__law_counts ?c__law_counts ?k__law_counts ?g__law_holds ?l__law_holds ?c__law_holds ?k__law_holds ?g__law_first ?l__law_first ?c__law_first ?k__law_first ?g__law_may ?l__law_may ?c__law_may ?k__law_may ?g__law_led ?l__law_led ?c__law_led ?k__law_led ?g__law_doable ?l__law_doable ?c__law_doable ?k__law_doable ?g__law_is_ended ?l__law_is_ended ?c__law_is_ended ?k__law_is_ended ?g__law_met ?l__law_met ?c__law_met ?k__law_met ?g__law_way ?l__law_way ?c__law_way ?k__law_way ?g__law_names ?l__law_names ?c__law_names ?k__law_names ?g__law_step ?l__law_step ?c__law_step ?k__law_step ?g__law_role ?l__law_role ?c__law_role ?k__law_role ?g__law_woven ?l__law_woven ?c__law_woven ?k__law_woven ?g__law_noted ?l__law_noted ?c__law_noted ?k__law_noted ?g__law_heaped ?l__law_heaped ?c__law_heaped ?k__law_heaped ?g__law_net ?l__law_net ?c__law_net ?k__law_net ?g__law_any_net ?l__law_any_net ?c__law_any_net ?k__law_any_net ?g__law_run ?l__law_run ?c__law_run ?k__law_run ?g__law_heard ?l__law_heard ?c__law_heard ?k__law_heard ?g__law_home ?l__law_home ?c__law_home ?k__law_home ?g_law ?l_law ?c_law ?k_law ?lk_c1 ?v_c1 ?h_c1 ?e_c1 ?nl_c1 ?lk_c2 ?v_c2 ?h_c2 ?e_c2 ?nl_c2 ?lk_c3 ?v_c3 ?h_c3 ?e_c3 ?nl_c3 ?nQ12 ?nQ13 ?nQ23
    (case b_len => k_is)
    (case b_isinstance => k_is)
    (case b_all => k_is)
    (case b_any => k_is)
    (case b_sum => k_is)
    (case b_tuple => k_is)
    (case b_list => k_is)
    (case b_dict => k_is)
    (case b_sorted => k_is)
    (case b_enumerate => k_is)
    (case b_range => k_is)
    (case b_zip => k_is)
    (case b_int => k_is)
    (case b_bool => k_is)
    (case b_str => k_is)
    (case b_abs => k_is)
    (case k_MOST_STATES => k_is)
    (case a_Refused => k_is)
    (case x_Refused => k_is)
    (case r_Refused => rfl)
    (case sa_Refused => k_is)
    (case ex_Refused => k_is)
    (case ty_Refused => k_is)
    (case kc_Refused => k_is)
    (case i_Refused => k_is)
    (case ti_Refused => k_is)
    (case l_Refused => k_is)
    (case c_Refused => k_is)
    (case lc_Refused => k_is)
    (case v_Refused => rfl)
    (case fl_Refused => kernel_rfl)
    (case cel_Refused => k_is)
    (case slf_Refused => k_is)
    (case sup_Refused => kernel_rfl)
    (case isV_Refused => k_is)
    (case ga_Refused => k_is)
    (case gg_Refused => k_is)
    (case hd_Refused => k_is)
    (case a_NoName => k_is)
    (case x_NoName => k_is)
    (case r_NoName => rfl)
    (case sa_NoName => k_is)
    (case ex_NoName => k_is)
    (case ty_NoName => k_is)
    (case kc_NoName => k_is)
    (case i_NoName => k_is)
    (case ti_NoName => k_is)
    (case l_NoName => k_is)
    (case c_NoName => k_is)
    (case lc_NoName => k_is)
    (case v_NoName => rfl)
    (case fl_NoName => kernel_rfl)
    (case cel_NoName => k_is)
    (case slf_NoName => k_is)
    (case sup_NoName => kernel_rfl)
    (case isV_NoName => k_is)
    (case ga_NoName => k_is)
    (case gg_NoName => k_is)
    (case hd_NoName => k_is)
    (case n_why => k_is)
    (case n_name => k_is)
    (case opq => k_is)
    (case mgS => k_is)
    (case mgC => rfl)
    (case a_Nothing => k_is)
    (case x_Nothing => kernel_rfl)
    (case k_Nothing => k_is)
    (case b_Nothing => k_is)
    (case t_Nothing => k_is)
    (case m_oo => kernel_rfl)
    (case m_no => kernel_rfl)
    (case m_nn => kernel_rfl)
    (case m_ro => kernel_rfl)
    (case m_rn => kernel_rfl)
    (case m_rr => kernel_rfl)
    (case g_is_integer => k_is)
    (case l_is_integer => k_is)
    (case c_is_integer => k_is)
    (case k_is_integer => k_is)
    (case g_is_within => k_is)
    (case l_is_within => k_is)
    (case c_is_within => k_is)
    (case k_is_within => k_is)
    (case g_is_string => k_is)
    (case l_is_string => k_is)
    (case c_is_string => k_is)
    (case k_is_string => k_is)
    (case g_does_hold => k_is)
    (case l_does_hold => k_is)
    (case c_does_hold => k_is)
    (case k_does_hold => k_is)
    (case g_counts_of => k_is)
    (case l_counts_of => k_is)
    (case c_counts_of => k_is)
    (case k_counts_of => k_is)
    (case g_do_all_hold => k_is)
    (case l_do_all_hold => k_is)
    (case c_do_all_hold => k_is)
    (case k_do_all_hold => k_is)
    (case g_first_state => k_is)
    (case l_first_state => k_is)
    (case c_first_state => k_is)
    (case k_first_state => k_is)
    (case g_is_ended => k_is)
    (case l_is_ended => k_is)
    (case c_is_ended => k_is)
    (case k_is_ended => k_is)
    (case g_may_do => k_is)
    (case l_may_do => k_is)
    (case c_may_do => k_is)
    (case k_may_do => k_is)
    (case g_doable => k_is)
    (case l_doable => k_is)
    (case c_doable => k_is)
    (case k_doable => k_is)
    (case g_behind => k_is)
    (case l_behind => k_is)
    (case c_behind => k_is)
    (case k_behind => k_is)
    (case g_led => k_is)
    (case l_led => k_is)
    (case c_led => k_is)
    (case k_led => k_is)
    (case g_ways_from => k_is)
    (case l_ways_from => k_is)
    (case c_ways_from => k_is)
    (case k_ways_from => k_is)
    (case g_met_states => k_is)
    (case l_met_states => k_is)
    (case c_met_states => k_is)
    (case k_met_states => k_is)
    (case g_is_too_wide => k_is)
    (case l_is_too_wide => k_is)
    (case c_is_too_wide => k_is)
    (case k_is_too_wide => k_is)
    (case g_step_named => k_is)
    (case l_step_named => k_is)
    (case c_step_named => k_is)
    (case k_step_named => k_is)
    (case g_run_states => k_is)
    (case l_run_states => k_is)
    (case c_run_states => k_is)
    (case k_run_states => k_is)
    (case g_run_state => k_is)
    (case l_run_state => k_is)
    (case c_run_state => k_is)
    (case k_run_state => k_is)
    (case g_is_run => k_is)
    (case l_is_run => k_is)
    (case c_is_run => k_is)
    (case k_is_run => k_is)
    (case g_last_fine => k_is)
    (case l_last_fine => k_is)
    (case c_last_fine => k_is)
    (case k_last_fine => k_is)
    (case g_names_of => k_is)
    (case l_names_of => k_is)
    (case c_names_of => k_is)
    (case k_names_of => k_is)
    (case g_do_commute => k_is)
    (case l_do_commute => k_is)
    (case c_do_commute => k_is)
    (case k_do_commute => k_is)
    (case g_way_between => k_is)
    (case l_way_between => k_is)
    (case c_way_between => k_is)
    (case k_way_between => k_is)
    (case g_way_to => k_is)
    (case l_way_to => k_is)
    (case c_way_to => k_is)
    (case k_way_to => k_is)
    (case g_way_to_end => k_is)
    (case l_way_to_end => k_is)
    (case c_way_to_end => k_is)
    (case k_way_to_end => k_is)
    (case g__law_take => k_is)
    (case l__law_take => k_is)
    (case c__law_take => k_is)
    (case k__law_take => k_is)
    (case g__law_some => k_is)
    (case l__law_some => k_is)
    (case c__law_some => k_is)
    (case k__law_some => k_is)
    (case g__law_bag => k_is)
    (case l__law_bag => k_is)
    (case c__law_bag => k_is)
    (case k__law_bag => k_is)
    (case g__law_mixed => k_is)
    (case l__law_mixed => k_is)
    (case c__law_mixed => k_is)
    (case k__law_mixed => k_is)
    (case g__law_alike => k_is)
    (case l__law_alike => k_is)
    (case c__law_alike => k_is)
    (case k__law_alike => k_is)
    (case g__law_counts => k_is)
    (case l__law_counts => k_is)
    (case c__law_counts => k_is)
    (case k__law_counts => k_is)
    (case g__law_holds => k_is)
    (case l__law_holds => k_is)
    (case c__law_holds => k_is)
    (case k__law_holds => k_is)
    (case g__law_first => k_is)
    (case l__law_first => k_is)
    (case c__law_first => k_is)
    (case k__law_first => k_is)
    (case g__law_may => k_is)
    (case l__law_may => k_is)
    (case c__law_may => k_is)
    (case k__law_may => k_is)
    (case g__law_led => k_is)
    (case l__law_led => k_is)
    (case c__law_led => k_is)
    (case k__law_led => k_is)
    (case g__law_doable => k_is)
    (case l__law_doable => k_is)
    (case c__law_doable => k_is)
    (case k__law_doable => k_is)
    (case g__law_is_ended => k_is)
    (case l__law_is_ended => k_is)
    (case c__law_is_ended => k_is)
    (case k__law_is_ended => k_is)
    (case g__law_met => k_is)
    (case l__law_met => k_is)
    (case c__law_met => k_is)
    (case k__law_met => k_is)
    (case g__law_way => k_is)
    (case l__law_way => k_is)
    (case c__law_way => k_is)
    (case k__law_way => k_is)
    (case g__law_names => k_is)
    (case l__law_names => k_is)
    (case c__law_names => k_is)
    (case k__law_names => k_is)
    (case g__law_step => k_is)
    (case l__law_step => k_is)
    (case c__law_step => k_is)
    (case k__law_step => k_is)
    (case g__law_role => k_is)
    (case l__law_role => k_is)
    (case c__law_role => k_is)
    (case k__law_role => k_is)
    (case g__law_woven => k_is)
    (case l__law_woven => k_is)
    (case c__law_woven => k_is)
    (case k__law_woven => k_is)
    (case g__law_noted => k_is)
    (case l__law_noted => k_is)
    (case c__law_noted => k_is)
    (case k__law_noted => k_is)
    (case g__law_heaped => k_is)
    (case l__law_heaped => k_is)
    (case c__law_heaped => k_is)
    (case k__law_heaped => k_is)
    (case g__law_net => k_is)
    (case l__law_net => k_is)
    (case c__law_net => k_is)
    (case k__law_net => k_is)
    (case g__law_any_net => k_is)
    (case l__law_any_net => k_is)
    (case c__law_any_net => k_is)
    (case k__law_any_net => k_is)
    (case g__law_run => k_is)
    (case l__law_run => k_is)
    (case c__law_run => k_is)
    (case k__law_run => k_is)
    (case g__law_heard => k_is)
    (case l__law_heard => k_is)
    (case c__law_heard => k_is)
    (case k__law_heard => k_is)
    (case g__law_home => k_is)
    (case l__law_home => k_is)
    (case c__law_home => k_is)
    (case k__law_home => k_is)
    (case g_law => k_is)
    (case l_law => k_is)
    (case c_law => k_is)
    (case k_law => k_is)
    (case lk_c1 => k_is)
    (case v_c1 => rfl)
    (case h_c1 => kernel_rfl)
    (case e_c1 => exact hT8 _ (by k_mem))
    (case nl_c1 => kernel_rfl)
    (case lk_c2 => k_is)
    (case v_c2 => rfl)
    (case h_c2 => kernel_rfl)
    (case e_c2 => exact hT8 _ (by k_mem))
    (case nl_c2 => kernel_rfl)
    (case lk_c3 => k_is)
    (case v_c3 => rfl)
    (case h_c3 => kernel_rfl)
    (case e_c3 => exact hT8 _ (by k_mem))
    (case nl_c3 => kernel_rfl)
    (case nQ12 => decide)
    (case nQ13 => decide)
    (case nQ23 => decide)
#print axioms PySem.Challenge.cw_worknets_k22_runs_by_the_plain_meaning_holds
