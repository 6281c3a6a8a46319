import PyProof.Rows.All
import HandS.ForMost
import HandS.ForExc
import HandS.TryMany
import HandS.ExcField
import HandS.ExcInit
import HandS.Lambda
import HandS.IsInst
import HandS.ExcSuper
import KE.KExcSuper
import PySem.Challenge.RW_worknets_k43_data_packed_into_pages_and
import HandS.Small
import HandS.Walk
import HandS.CallLocal
import HandS.TupAny
import HandS.Style
import HandS.Replace
import HandS.Star
import HandS.Codes
import HandS.Zip0
import HandS.Iter
import PyProof.EnumMake
import PyProof.EnumStmt
import HandS.DictTup
import HandS.DictEq
import HandS.SortRule
import HandS.More
import PyProof.DictUpdate
import KE.LtData
import KE.SortData
import HandS.OwnEq
import HandS.Zip
import HandS.TupMul
import KE.GoesEnum
import KE.GoesMore
import KE.KDictZip
import KE.KDictList
import PyProof.ListNew
import PyProof.StrOps2
import HandS.TupLe
import HandS.TupSets
import HandS.ListItems
import PyProof.P3Eq
import HandS.EndTab
import KE.KNestM
set_option Elab.async false
set_option linter.all false
set_option maxRecDepth 100000
set_option maxHeartbeats 4000000
namespace Net
open PySem PySem.W PySem.Calls PyProof.Rows PySem.HandSPX
theorem wrap_call {prog : Program} {w : World} {A : Around} {E : Value → Shared → Prop} {h : Heap} {g : Array GenState} {d : Drawn} {t : Nat} {os : OsState}
    {nm q : Str} {C N : Addr} {bs bm : List Value} {hdct : Bool} {sn : List Str} {sub : List Value} {ab : Bool} {col : Option Bool} {dd : Option Addr} {k0 k1 k2 k3 k5 : Option Value}
    {u e t0 : Addr} {rest : List Value} {Q : Value → Shared → Prop}
    (cC : h.get? C = some (excClassObj nm q C N bs bm hdct sn sub ab col dd k0 k1 k2 k3 k5 "ValueError.__new__"))
    (ce : h.get? e = some (excO C t0)) (cu : h.get? u = some (kxs_mw "ValueError.__init__" e)) (cr : rest.length ≤ sizeLine)
    (cq : ∀ h' t1, (∀ b o, b ≠ e → h.get? b = some o → h'.get? b = some o) → h'.get? e = some (excO C t1) → Q .none ⟨h', g, d, t, os⟩) :
    wpAny (model prog w) A (call (.ref u) rest) Q E ⟨h, g, d, t, os⟩ := by
  refine wpAny_call (codeAny_of_tree ?_)
  show wpAny _ A.in1 (callAny (.ref u) ⟨rest, []⟩) _ _ _
  simp only [callAny]
  refine wpAny_bind (wpAny_load cu ?_)
  have hm : (Value.type "method-wrapper" == Value.type "method" || Value.type "method-wrapper" == Value.type "builtin_function_or_method" || Value.type "method-wrapper" == Value.type "method-wrapper") = true := by decide
  simp only [kxs_mw, hm, if_true]
  refine KFB.if_so (by decide) ?_
  refine wpAny_bind (PySem.ESX.check_bound F.excBase_ValueError cC ce rfl ?_)
  refine wpAny_bind (wpAny_pure (wpAny_pure ?_))
  refine ⟨Code.quiet_builtin _ (by decide +kernel), codeAny_builtin F.excBase_ValueError.initEntry ?_⟩
  rw [Around.under_plainId F.excBase_ValueError.init.plain _]
  wp_walk
  refine cq _ h.objs.size (fun b o hb ho => ?_) ?_
  · exact (Heap.get?_update_other _ _ (Ne.symm hb)).trans (Heap.get?_push_of_some _ ho)
  · exact Heap.get?_update_self _ (Heap.get?_push_of_some _ ce) rfl
structure ExTxt (P : Program) (K : Frag) (mg : Str → Option Value) (C fI cc : Addr) (qual : Str) (st : Stmt) : Prop where
  oex : L2.OexC K C
  ini : findIn K (.ref C) "__init__" = some (some (.ref fI))
  tyI : typeIn K (.ref fI) = some (.type "function")
  fn : ∃ (oc : Value) (od : Option Addr) (osl : Array (Option Value)) (kV doc pm : Value) (an : Option Addr) (ct : Value) (cda : Addr) (ccl : Value) (cdd : Option Addr) (vs : Array Value) (ccs : Array (Option Value)) (file : Str) (tf : Tok),
    K.lookup fI = some ⟨oc, od, .func (ksFn "__init__" qual (L2.defArgs st) (L2.defBody st) (L2.defScope st) .none kV doc pm an (.ref cda) ct cc), osl⟩ ∧ codeIn K (.ref cda) qual = true ∧
    K.lookup cda = some ⟨ccl, cdd, .fields vs, ccs⟩ ∧ vs[2]? = some (.str file tf) ∧ ((P.main.file : Str) == file) = true
  cel : ∃ (cl : Value) (cld : Option Addr) (csl : Array (Option Value)), K.lookup cc = some ⟨cl, cld, .cell (some (.ref C)), csl⟩
  slf : mroIn K C (.ref C) = some true
  sup : ks_superIn K C C "__init__" = some (some (.builtin "ValueError.__init__"))
  isV : subIn K (.ref C) (.type "ValueError") = some true
  opq : nsIn K cStatics "thirdparty.any" = some none
  mgS : mg "super" = none
  mgC : (P.main.scope.names.lookup ("super" : Str)).isSome = false
section
variable {P : Program} {w : World} {K : Frag} {mg : Str → Option Value} {C fI cc : Addr} {qual : Str} {st : Stmt}
theorem super_row {A : Around} {E : Value → Shared → Prop} {body : List Stmt} {hp : Heap} {g : Array GenState} {d : Drawn} {t : Nat} {os : OsState} {L x t0 : Addr} {m : Str → Option Value} {cda : Addr} {es : List Expr} {us : List Value} {p0 p1 p2 p3 p4 : Pos} {Q : Flow → Shared → Prop}
    {oc : Value} {od : Option Addr} {osl : Array (Option Value)} {kV doc pm : Value} {an : Option Addr} {ct : Value} {ccl : Value} {cdd : Option Addr} {vs : Array Value} {ccs : Array (Option Value)} {file : Str} {tf : Tok} {ar : Arg}
    (T : ExTxt P K mg C fI cc qual st) (X : K.In hp) (M : L2.Mod K mg hp) (hf : K.lookup fI = some ⟨oc, od, .func (ksFn "__init__" qual (L2.defArgs st) (L2.defBody st) (L2.defScope st) .none kV doc pm an (.ref cda) ct cc), osl⟩)
    (hco : K.lookup cda = some ⟨ccl, cdd, .fields vs, ccs⟩) (hvs : vs[2]? = some (.str file tf)) (hfile : ((P.main.file : Str) == file) = true)
    (hx : hp.get? x = some (excO C t0)) (hL : hp.Ns L m) (hslf : m ar.arg = some (.ref x)) (har : ((L2.defArgs st).posonlyargs ++ (L2.defArgs st).args).head? = some ar)
    (hks : (L2.defScope st).names.lookup ("super" : Str) = some .globalImplicit) (hkc : (L2.defScope st).names.lookup ("__class__" : Str) = some .free) (hka : (L2.defScope st).names.lookup ar.arg = some .local) (hk : (L2.defScope st).kind = .function)
    (hlen : us.length ≤ sizeLine) (xL : x ≠ L)
    (hes : ∀ (h2 : Heap) (t2 : Nat) (u : Addr) (Q2 : Args → Shared → Prop), h2.Ns L m → (∀ t3, Q2 ⟨us, []⟩ ⟨h2, g, d, t3, os⟩) → wpAny (model P w) A (evalArgs (.ref u) true (backTo p3 (starEach es (ksEnv qual (L2.defScope st) L fI (.ref cda) cc))) []) Q2 E ⟨h2, g, d, t2, os⟩)
    (hst : (backTo p3 (starEach es (ksEnv qual (L2.defScope st) L fI (.ref cda) cc))).any (·.1) = false)
    (hq : ∀ h' t' t1, (∀ b o, b ≠ x → hp.get? b = some o → h'.get? b = some o) → h'.get? x = some (excO C t1) → Q .next ⟨h', g, d, t', os⟩)
    {pl : Sem Bool} (hsw : swapsWith (.Call (.Attribute (.Call (.Name "super" p0) [] [] p1) "__init__" p2) es [] p3) none p4.line (ksEnv qual (L2.defScope st) L fI (.ref cda) cc) = pure false)
    (he : eval (.Call (.Attribute (.Call (.Name "super" p0) [] [] p1) "__init__" p2) es [] p3) (ksEnv qual (L2.defScope st) L fI (.ref cda) cc) = (do
      let ov ← attributeBase (.Call (.Name "super" p0) [] [] p1) "__init__" (ksEnv qual (L2.defScope st) L fI (.ref cda) cc) (eval (.Call (.Name "super" p0) [] [] p1) (ksEnv qual (L2.defScope st) L fI (.ref cda) cc))
      standAt p2.atName
      let (f, first) ← holding [ov] (getMethod ov "__init__" pl)
      callWith p3 f first (backTo p3 (starEach es (ksEnv qual (L2.defScope st) L fI (.ref cda) cc))) [])) :
    _root_.PySem.wpAt (model P w) A (.func body (ksEnv qual (L2.defScope st) L fI (.ref cda) cc)) (exec (.Expr (.Call (.Attribute (.Call (.Name "super" p0) [] [] p1) "__init__" p2) es [] p3) p4) (ksEnv qual (L2.defScope st) L fI (.ref cda) cc)) Q E ⟨hp, g, d, t, os⟩ := by
  obtain ⟨nm, qn, N, bs, bm, sn, sub, ab, col, dd, k0, k1, k2, k3, k5, hC, hbm⟩ := T.oex.cls
  obtain ⟨mb, b1, b2⟩ := M.blt
  obtain ⟨cl, cld, csl, hcel⟩ := T.cel
  have xC : x ≠ C := by
    rintro rfl
    have e1 := X _ _ hC
    rw [hx] at e1
    cases e1
  refine ks_wpAt_Expr_any (ks_wpAt_MethodCall ?_ he) (by simp [interactive, hk]) hsw
  refine ks_wpAt_super_base (env := ksEnv qual (L2.defScope st) L fI (.ref cda) cc) hks hkc (by decide) rfl (X _ _ hf) rfl har rfl (X _ _ hco) rfl hvs hfile T.mgC ?_
  refine ks_loadName_global hk hks (loadGlobal_builtin (env := ksEnv qual (L2.defScope st) L fI (.ref cda) cc) M.glob T.mgS b1 ((b2 _ (by decide)).trans (show bootBuiltins "super" = some (.type "super") by first | rfl | kernel_rfl)) ⟨rfl, ?_⟩)
  refine wpAny_loadName_free hk hkc rfl ⟨_, X _ _ hcel, rfl⟩ ?_
  refine wpAny_loadName_local hk hka hL hslf ?_
  refine ks_wpAny_isType_cls (X _ _ hC) rfl ⟨rfl, ?_⟩
  refine ks_wpAny_call_super (X _ _ hC) rfl hx rfl (fun c e => nomatch e) (looks_mroIn X T.slf) (fun h1 e1 kk => ?_)
  have X1 : K.In h1 := X.keeps kk
  have hcl : clsIn K C = some { name := nm, bases := bs, mro := .ref C :: bm, ns := N, qualname := qn, hasDict := true, slotNames := sn, subclasses := sub, abstract := ab, collection := col, hasDel := false } := by
    unfold clsIn
    rw [hC] <;> rfl
  have I1 : InstAt h1 x (excO C t0) C none := ⟨kk _ _ hx, rfl, rfl, trivial⟩
  have hsup := T.sup
  unfold ks_superIn at hsup
  rw [hcl] at hsup
  refine kxs_getMethod kxs_ValueError e1 (looks_opaque X1 T.opq) (fun A Q E s k q => wpAny_bind ((looks_clsIn X1 hcl) A _ E s k (wpAny_pure q))) rfl X1 hsup (I1.type.andThen (looks_subIn X1 T.isV)) xC (by decide) ?_
  have kp : ∀ b o, h1.get? b = some o → (h1.push (kxs_mw "ValueError.__init__" x)).get? b = some o := fun b o e => Heap.get?_push_of_some _ e
  have hu : (h1.push (kxs_mw "ValueError.__init__" x)).get? h1.objs.size = some (kxs_mw "ValueError.__init__" x) := Heap.get?_push_at rfl rfl
  refine kxs_callWith (i := "ValueError.__init__") (x := x) hst ?_
  refine hes _ _ _ _ ((hL.keeps kk).keeps kp) fun t3 => ⟨hu, ?_⟩
  refine wrap_call (X1.keeps kp _ _ hC) (kp _ _ (kk _ _ hx)) hu hlen fun h2 t1 k2 hx2 => ?_
  exact hq h2 _ t1 (fun b o hb e => k2 b o hb (kp _ _ (kk _ _ e))) hx2
end
end Net
namespace Net
open PySem PySem.W PySem.Calls PyProof.Rows PySem.HandSPX
def top (i : Nat) : Stmt := PySem.Challenge.pw_worknets_k43_data_packed_into_pages_and.main.body.getD i (.Pass ⟨0, 0, 0, 0⟩)
abbrev sBB : Stmt := L2.inClass (top 2) 0
abbrev sRF : Stmt := L2.inClass (top 3) 0
structure Laid (h h' : Heap) (x C dx t1 : Addr) (fm : Str → Option Value) : Prop where
  keep : ∀ b o, b ≠ x → h.get? b = some o → h'.get? b = some o
  obj : h'.get? x = some { cls := .ref C, dict := some dx, data := .fields #[.ref t1, .none, .none, .none, .bool false, .none] }
  big : h.objs.size ≤ dx
  ne : dx ≠ x
  ns : h'.Ns1 dx fm
section
variable {P : Program} {w : World} {K : Frag} {mg : Str → Option Value} {C fI cc : Addr} {qual : Str} {st : Stmt}
theorem in_but {K : Frag} {h h' : Heap} {x : Addr} (X : K.In h) (hx : K.lookup x = none) (k : ∀ b o, b ≠ x → h.get? b = some o → h'.get? b = some o) : K.In h' := fun a o e =>
  k a o (fun z => by rw [z, hx] at e; cases e) (X a o e)
theorem ns_but {h h' : Heap} {x L : Addr} {m : Str → Option Value} (n : h.Ns L m) (xL : x ≠ L) (k : ∀ b o, b ≠ x → h.get? b = some o → h'.get? b = some o) : h'.Ns L m := by
  obtain ⟨o, es, ep, e, r⟩ := n
  exact ⟨o, es, ep, k _ _ (Ne.symm xL) e, r⟩
theorem ns_lt {h : Heap} {L : Addr} {m : Str → Option Value} (n : h.Ns L m) : L < h.objs.size := by
  obtain ⟨o, es, ep, e, r⟩ := n
  exact Heap.lt_size e
theorem lay_one {A : Around} {E : Value → Shared → Prop} {hp : Heap} {g : Array GenState} {d : Drawn} {t : Nat} {os : OsState} {x t0 : Addr} {f : Str} {v : Value} {Q : Unit → Shared → Prop} (T : ExTxt P K mg C fI cc qual st) (X : K.In hp) (hx : hp.get? x = some (excO C t0))
    (hno : findIn K (.ref C) f = some none) (hq : ∀ h' t' dx, Laid hp h' x C dx t0 (fun y => if y = f then some v else none) → Q () ⟨h', g, d, t', os⟩) : wpAny (model P w) A (setAttr (.ref x) f v) Q E ⟨hp, g, d, t, os⟩ := by
  obtain ⟨nm, qn, N, bs, bm, sn, sub, ab, col, dd, k0, k1, k2, k3, k5, hC, hbm⟩ := T.oex.cls
  have hcl : clsIn K C = some { name := nm, bases := bs, mro := .ref C :: bm, ns := N, qualname := qn, hasDict := true, slotNames := sn, subclasses := sub, abstract := ab, collection := col, hasDel := false } := by
    unfold clsIn
    rw [hC] <;> rfl
  refine set_plain X (ox := excO C t0) (od := none) ⟨hx, rfl, rfl, trivial⟩ T.oex.sa ?_
  exact exc_osa X hx hcl (show refsVE (.ref C :: bm) = true from hbm) rfl hno fun h' tk' dx kk dn dne hx' hn => hq h' tk' dx ⟨kk, hx', dn, dne, hn⟩
theorem lay_more {A : Around} {E : Value → Shared → Prop} {h0 hp : Heap} {g : Array GenState} {d : Drawn} {t : Nat} {os : OsState} {x dx t0 : Addr} {f : Str} {v : Value} {fm : Str → Option Value} {ns : List Str} {Q : Unit → Shared → Prop} (T : ExTxt P K mg C fI cc qual st) (X : K.In hp)
    (hl : Laid h0 hp x C dx t0 fm) (hw : Within fm ns) (hz : ns.length ≤ 1000) (hno : findIn K (.ref C) f = some none)
    (hq : ∀ h' t', Laid h0 h' x C dx t0 (fun y => if y = f then some v else fm y) → Q () ⟨h', g, d, t', os⟩) : wpAny (model P w) A (setAttr (.ref x) f v) Q E ⟨hp, g, d, t, os⟩ := by
  obtain ⟨nm, qn, N, bs, bm, sn, sub, ab, col, dd, k0, k1, k2, k3, k5, hC, hbm⟩ := T.oex.cls
  have hcl : clsIn K C = some { name := nm, bases := bs, mro := .ref C :: bm, ns := N, qualname := qn, hasDict := true, slotNames := sn, subclasses := sub, abstract := ab, collection := col, hasDel := false } := by
    unfold clsIn
    rw [hC] <;> rfl
  obtain ⟨oD, esD, epD, hoD, hdD, _⟩ := hl.ns.count hw
  refine set_plain X (ox := { cls := .ref C, dict := some dx, data := .fields #[.ref t0, .none, .none, .none, .bool false, .none] }) (od := some oD) ⟨hl.obj, rfl, rfl, hoD⟩ T.oex.sa ?_
  refine PySem.OEX.osa_old X hl.obj hl.ns hw hz hcl (show refsVE (.ref C :: bm) = true from hbm) rfl hno fun h' tk' kk hn => hq h' tk' ⟨fun b o hb e => kk b o ?_ (hl.keep b o hb e), kk _ _ (Ne.symm hl.ne) hl.obj, hl.big, hl.ne, hn⟩
  exact Nat.ne_of_lt (Nat.lt_of_lt_of_le (Heap.lt_size e) hl.big)
theorem rf_init {A : Around} {R : Result → Shared → Prop} {s : Shared} {x t0 : Addr} {v : Value} (T : ExTxt P K mg C fI cc qual sRF) (M : L2.Mod K mg s.heap) (hx : s.heap.get? x = some (excO C t0)) (hroom : A.depth < recursionLimit)
    (hnx : K.lookup x = none) (hno : findIn K (.ref C) "why" = some none)
    (hq : ∀ h' t' dx t1, Laid s.heap h' x C dx t1 (fun y => if y = "why" then some v else none) → R (.ok (.ret .none)) { s with heap := h', toks := t' }) :
    codeAny (model P w) A (.call (.ref fI) ⟨[.ref x, v], []⟩) R s := by
  obtain ⟨oc, od, osl, kV, doc, pm, an, ct, cda, ccl, cdd, vs, ccs, file, tf, hf, hcd, hco, hvs, hfile⟩ := T.fn
  have X : K.In s.heap := M.kin
  refine ks_codeAny_call_defAt (binds := [("self", .ref x), ("why", v)]) hroom (X _ _ hf) rfl M.nolimit (codeRec_of X hcd) rfl (BindsTo.of_eq (by first | rfl | with_unfolding_all rfl)) (show ∀ y ∈ (L2.defScope sRF).names, y.2 ≠ .cell by decide +kernel) (fun y hy => ?_) (fun h1 hns kk => ?_) rfl rfl rfl
  · rcases List.mem_cons.mp hy with rfl | hy
    · exact (show (L2.defScope sRF).names.lookup ("self" : Str) = some .local by decide +kernel)
    · rcases List.mem_cons.mp hy with rfl | hy
      · exact (show (L2.defScope sRF).names.lookup ("why" : Str) = some .local by decide +kernel)
      · cases hy
  obtain ⟨hp, g, d, t, os⟩ := s
  have M1 : L2.Mod K mg h1 := ⟨X.keeps kk, M.glob.keeps kk, by obtain ⟨mb, b1, b2⟩ := M.blt; exact ⟨mb, b1.keeps kk, b2⟩, M.nolimit.keeps kk⟩
  have xL : x ≠ hp.objs.size := Nat.ne_of_lt (Heap.lt_size hx)
  refine ks_wpAt_execs_cons ?_
  have one : [v].length ≤ sizeLine := by
    rw [sizeLine_eq]
    exact (by decide : 1 ≤ 16777216)
  refine super_row (t0 := t0) (har := rfl) T M1.kin M1 hf hco hvs hfile (kk _ _ hx) hns rfl (by decide +kernel) (by decide +kernel) (by decide +kernel) rfl (us := [v]) one xL (fun h2 t2 u Q2 hn2 q2 => ?_) (by rfl) (fun h2 t2 t1 k2 hx2 => ?_) (by rfl) (by rfl)
  · refine evalArgs_plain (spliced_cons (PySem.ESX.ldL hn2 (v := v) (by rfl) (spliced_nil (q2 _)) rfl (by rfl)))
  · have X2 : K.In h2 := in_but M1.kin hnx k2
    have hn2 := ns_but hns xL k2
    refine wpAt_of_wpAny (wpAny_execs_cons (plainObj_wpAny_Assign_Attribute (PySem.ESX.ldL hn2 (v := v) (by rfl) (PySem.ESX.ldL hn2 (v := .ref x) (by rfl) (lay_one T X2 hx2 hno fun h3 t3 dx hl => ?_) rfl (by rfl)) rfl (by rfl))))
    have z : hp.objs.size ≤ dx := Nat.le_trans (Nat.le_of_lt (ns_lt hn2)) hl.big
    exact wpAny_execs_nil (hq h3 t3 dx t1 ⟨fun b o hb e => hl.keep b o hb (k2 b o hb (kk b o e)), hl.obj, z, hl.ne, hl.ns⟩)
theorem bb_init {A : Around} {R : Result → Shared → Prop} {s : Shared} {x t0 : Addr} {v u : Value} (T : ExTxt P K mg C fI cc qual sBB) (M : L2.Mod K mg s.heap) (hx : s.heap.get? x = some (excO C t0)) (hroom : A.depth < recursionLimit)
    (hnx : K.lookup x = none) (hnA : findIn K (.ref C) "at" = some none) (hnF : findIn K (.ref C) "fault" = some none)
    (hq : ∀ h' t' dx t1, Laid s.heap h' x C dx t1 (fun y => if y = "fault" then some u else if y = "at" then some v else none) → R (.ok (.ret .none)) { s with heap := h', toks := t' }) :
    codeAny (model P w) A (.call (.ref fI) ⟨[.ref x, v, u], []⟩) R s := by
  obtain ⟨oc, od, osl, kV, doc, pm, an, ct, cda, ccl, cdd, vs, ccs, file, tf, hf, hcd, hco, hvs, hfile⟩ := T.fn
  have X : K.In s.heap := M.kin
  refine ks_codeAny_call_defAt (binds := [("self", .ref x), ("at", v), ("fault", u)]) hroom (X _ _ hf) rfl M.nolimit (codeRec_of X hcd) rfl (BindsTo.of_eq (by first | rfl | with_unfolding_all rfl)) (show ∀ y ∈ (L2.defScope sBB).names, y.2 ≠ .cell by decide +kernel) (fun y hy => ?_) (fun h1 hns kk => ?_) rfl rfl rfl
  · rcases List.mem_cons.mp hy with rfl | hy
    · exact (show (L2.defScope sBB).names.lookup ("self" : Str) = some .local by decide +kernel)
    · rcases List.mem_cons.mp hy with rfl | hy
      · exact (show (L2.defScope sBB).names.lookup ("at" : Str) = some .local by decide +kernel)
      · rcases List.mem_cons.mp hy with rfl | hy
        · exact (show (L2.defScope sBB).names.lookup ("fault" : Str) = some .local by decide +kernel)
        · cases hy
  obtain ⟨hp, g, d, t, os⟩ := s
  have M1 : L2.Mod K mg h1 := ⟨X.keeps kk, M.glob.keeps kk, by obtain ⟨mb, b1, b2⟩ := M.blt; exact ⟨mb, b1.keeps kk, b2⟩, M.nolimit.keeps kk⟩
  have xL : x ≠ hp.objs.size := Nat.ne_of_lt (Heap.lt_size hx)
  refine ks_wpAt_execs_cons ?_
  have two : [v, u].length ≤ sizeLine := by
    rw [sizeLine_eq]
    exact (by decide : 2 ≤ 16777216)
  refine super_row (t0 := t0) (har := rfl) T M1.kin M1 hf hco hvs hfile (kk _ _ hx) hns rfl (by decide +kernel) (by decide +kernel) (by decide +kernel) rfl (us := [v, u]) two xL (fun h2 t2 u2 Q2 hn2 q2 => ?_) (by rfl) (fun h2 t2 t1 k2 hx2 => ?_) (by rfl) (by rfl)
  · exact evalArgs_plain (spliced_cons (PySem.ESX.ldL hn2 (v := v) (by rfl) (spliced_cons (PySem.ESX.ldL hn2 (v := u) (by rfl) (spliced_nil (q2 _)) rfl (by rfl))) rfl (by rfl)))
  · have X2 : K.In h2 := in_but M1.kin hnx k2
    have hn2 := ns_but hns xL k2
    refine wpAt_of_wpAny (wpAny_execs_cons (plainObj_wpAny_Assign_Attribute (PySem.ESX.ldL hn2 (v := v) (by rfl) (PySem.ESX.ldL hn2 (v := .ref x) (by rfl) (lay_one T X2 hx2 hnA fun h3 t3 dx hl => ?_) rfl (by rfl)) rfl (by rfl))))
    have X3 : K.In h3 := in_but X2 hnx hl.keep
    have hn3 := ns_but hn2 xL hl.keep
    refine wpAny_execs_cons (plainObj_wpAny_Assign_Attribute (PySem.ESX.ldL hn3 (v := u) (by rfl) (PySem.ESX.ldL hn3 (v := .ref x) (by rfl) (lay_more (ns := ["at"]) T X3 hl (fun y hy => ?_) (by decide) hnF fun h4 t4 hl4 => ?_) rfl (by rfl)) rfl (by rfl)))
    · by_cases e : y = "at"
      · rw [e]
        exact List.mem_cons_self
      · exact absurd (if_neg e) hy
    have z : hp.objs.size ≤ dx := Nat.le_trans (Nat.le_of_lt (ns_lt hn2)) hl.big
    exact wpAny_execs_nil (hq h4 t4 dx t1 ⟨fun b o hb e => hl4.keep b o hb (k2 b o hb (kk b o e)), hl4.obj, z, hl4.ne, hl4.ns⟩)
end
end Net
namespace Net
open PySem PySem.W PySem.Calls PyProof.Rows PySem.HandSPX
structure Made (h h' : Heap) (e C d : Addr) (fm : Str → Option Value) : Prop where
  keep : ∀ b o, h.get? b = some o → h'.get? b = some o
  new : h.objs.size ≤ e
  obj : ∃ oe vs, h'.get? e = some oe ∧ oe.cls = .ref C ∧ oe.dict = some d ∧ oe.data = .fields vs ∧ vs[1]? = some .none
  big : h.objs.size ≤ d
  ne : d ≠ e
  ns : h'.Ns1 d fm
section
variable {P : Program} {w : World} {K : Frag} {mg : Str → Option Value} {C fI cc : Addr} {qual : Str} {st : Stmt}
theorem made_of {A : Around} {R : Result → Shared → Prop} {hp : Heap} {g : Array GenState} {dr : Drawn} {tk : Nat} {os : OsState} {us : List Value} {fm : Str → Option Value} (T : ExTxt P K mg C fI cc qual st) (M : L2.Mod K mg hp) (hus : us.length ≤ sizeLine)
    (ini : ∀ (A : Around) (h : Heap) (x t0 : Addr) (R : Result → Shared → Prop), A.depth < recursionLimit → L2.Mod K mg h → h.get? x = some (excO C t0) → K.lookup x = none → (∀ h' t' dx t1, Laid h h' x C dx t1 fm → R (.ok (.ret .none)) ⟨h', g, dr, t', os⟩) → codeAny (model P w) A (.call (.ref fI) ⟨.ref x :: us, []⟩) R ⟨h, g, dr, tk, os⟩)
    (hroom : A.depth + 1 < recursionLimit)
    (hq : ∀ h' t' e d, Made hp h' e C d fm → R (.ok (.ret (.ref e))) ⟨h', g, dr, t', os⟩) : codeAny (model P w) A (.call (.ref C) ⟨us, []⟩) R ⟨hp, g, dr, tk, os⟩ := by
  obtain ⟨nm, qn, N, bs, bm, sn, sub, ab, col, dd, k0, k1, k2, k3, k5, hC, hbm⟩ := T.oex.cls
  have k : ∀ b o, hp.get? b = some o → ((hp.push (kdv_tup us)).push (excO C hp.objs.size)).get? b = some o := fun b o e => Heap.get?_push_of_some _ (Heap.get?_push_of_some _ e)
  have hget : ((hp.push (kdv_tup us)).push (excO C hp.objs.size)).get? (hp.objs.size + 1) = some (excO C hp.objs.size) := by heap_get
  have hnx : K.lookup (hp.objs.size + 1) = none := by
    cases e : K.lookup (hp.objs.size + 1) with
    | none => rfl
    | some o => exact absurd (Nat.lt_of_succ_lt (Heap.lt_size (M.kin _ _ e))) (Nat.lt_irrefl _)
  have M1 : L2.Mod K mg ((hp.push (kdv_tup us)).push (excO C hp.objs.size)) := ⟨M.kin.keeps k, M.glob.keeps k, by obtain ⟨mb, b1, b2⟩ := M.blt; exact ⟨mb, b1.keeps k, b2⟩, M.nolimit.keeps k⟩
  refine call_own F.excBase_ValueError (fun Y => refsVE_contains Y bm hbm) (M.kin _ _ hC) (looks_findIn M.kin T.ini) (fun self => bind_fn M.kin self T.tyI) hus ?_
  refine ini _ _ _ hp.objs.size _ ?_ M1 hget hnx fun h' t' dx t1 hl => ?_
  · show A.depth + 1 < recursionLimit
    exact hroom
  · have old : ∀ b o, hp.get? b = some o → h'.get? b = some o := fun b o e => hl.keep b o (Nat.ne_of_lt (Nat.lt_succ_of_lt (Heap.lt_size e))) (k b o e)
    have z : hp.objs.size ≤ dx := by
      have q := hl.big
      rw [Heap.size_push, Heap.size_push] at q
      omega
    exact ⟨rfl, hq h' t' _ dx ⟨old, Nat.le_succ _, ⟨_, _, hl.obj, rfl, rfl, rfl, rfl⟩, z, hl.ne, hl.ns⟩⟩
end
end Net
namespace Net
open PySem PySem.Spec PyProof.Rows L2
section
variable {X : Cx} {C fI cc : Addr} {qual : Str} {st : Stmt}
theorem mkp_of {pins : List (Addr × Obj)} {σ : L2.St} {H : Hp} {Q : XK} {hp h' : Heap} {g : Array GenState} {dr : Drawn} {tk tk' : Nat} {os : OsState} {e d : Addr} {fm : Str → Option Value} {fs : List (Str × V)} (T : ExTxt X.prog X.K X.mg C fI cc qual st) (I : Inv X pins σ H ⟨hp, g, dr, tk, os⟩)
    (M : Made hp h' e C d fm) (rel : ∀ f, RelO (fs.lookup f) (fm f)) (q : ∀ d, H d = none → Q (.ref C) (some d) (upd H d (.xd fs))) : MkP X pins σ Q (.ref e) ⟨h', g, dr, tk', os⟩ := by
  obtain ⟨oe, fv, hoe, hc, hd, hdat, h1⟩ := M.obj
  obtain ⟨G', g1, g2⟩ := restrict h' fun b => decide (b ≠ e)
  have gk : ∀ b, b ≠ e → G'.get? b = h'.get? b := fun b hb => g1 b (decide_eq_true hb)
  have ge : G'.get? e = none := g2 e (by simp)
  have old : ∀ b o, hp.get? b = some o → G'.get? b = some o := fun b o q => (gk b (Nat.ne_of_lt (Nat.lt_of_lt_of_le (Heap.lt_size q) M.new))).trans (M.keep b o q)
  have ob : ObjOk X.prog X.w (upd H d (.xd fs)) G' d (.xd fs) := ⟨fm, M.ns.at (fun o q => (gk d M.ne).trans q), rel⟩
  have J : Inv X pins σ (upd H d (.xd fs)) ⟨G', g, dr, tk', os⟩ := I.laid (t' := tk') old M.big ob
  refine ⟨e, oe, fv, ⟨G', g, dr, tk', os⟩, _, .ref C, some d, rfl, J, fun b o q => ?_, ge, hoe, ⟨hc, hd⟩, hdat, h1, ?_, rfl, I.bare, raises_own T.oex.exC T.oex.tyC, q d (I.hok.fresh M.big)⟩
  · by_cases hb : b = e
    · have q' : G'.get? b = some o := q
      rw [hb, ge] at q'
      cases q'
    · exact (gk b hb).symm.trans q
  · rw [upd_ne (Ne.symm M.ne)]
    exact I.hok.fresh M.new
theorem rel_one {f : Str} {v : V} {u : Value} (r : RelV v u) (g : Str) : RelO (List.lookup g [(f, v)]) (if g = f then some u else none) := relO_put (fs := []) (mA := fun _ => none) r (fun _ => True.intro) g
def tMkRf (C : Addr) (ta : TA) : L2.St → Hp → XK → Prop := fun σ H Q => ta σ H fun vs H1 => ∃ v, vs = [v] ∧ ∀ d, H1 d = none → Q (.ref C) (some d) (upd H1 d (.xd [(("why" : Str), v)]))
theorem pmk_rf {a : Expr} {ta : TA} {p pos : Pos} {k : Nat} (T : ExTxt X.prog X.K X.mg C fI cc qual sRF) (gC : X.mg "Refused" = some (.ref C)) (hno : PySem.W.findIn X.K (.ref C) "why" = some none) (hr : Room k X.A) (hk : 1 ≤ k) (ha : PA X [a] ta) (hg : Gl X "Refused" := by rfl)
    (he : starEach (a :: []) X.env = (false, eval a X.env) :: starEach [] X.env := by rfl) (hpl : (backTo pos (starEach [] X.env)).any (·.1) = false := by rfl) :
    PMk X (.Call (.Name "Refused" p) [a] [] pos) (tMkRf C ta) := by
  intro pins s σ H Q I h
  refine wpAny_Call_Name_kw (ld_glob I hg gC ?_)
  refine PySem.W.callWith_K (h₀ := X.base) I.ok.mod.kin T.oex.kC (thn (ha.run pos pins s σ H _ I h) fun us s1 hh => ?_) he hpl
  obtain ⟨vs, H1, I1, r1, v, ev, q1⟩ := hh
  subst ev
  refine ⟨I1.kIn, ?_⟩
  cases r1 with
  | cons rv rn =>
    rename_i v' us'
    cases rn
    show wpAny _ _ (call (.ref C) [v']) _ _ _
    have M1 : Mod X.K X.mg s1.heap := ⟨I1.kIn, I1.mod.glob.keeps I1.bk, by obtain ⟨mb, b1, b2⟩ := I1.mod.blt; exact ⟨mb, b1.keeps I1.bk, b2⟩, I1.nolimit⟩
    obtain ⟨hp, g, dr, tk, os⟩ := s1
    have one : [v'].length ≤ sizeLine := by
      rw [sizeLine_eq]
      exact (by decide : 1 ≤ 16777216)
    refine wpAny_call (made_of T M1 one (fun A h x t0 R hd M hx hn hq => rf_init T M hx hd hn hno fun h' t' dx t1 hl => hq h' t' dx t1 hl) (by have := hr.dp; omega) fun h' tk' e d M => ?_)
    exact mkp_of T I1 M (rel_one rv) q1
def tMkBB (C : Addr) (ta : TA) : L2.St → Hp → XK → Prop := fun σ H Q => ta σ H fun vs H1 => ∃ v u, vs = [v, u] ∧ ∀ d, H1 d = none → Q (.ref C) (some d) (upd H1 d (.xd [(("fault" : Str), u), (("at" : Str), v)]))
theorem pmk_bb {a b : Expr} {ta : TA} {p pos : Pos} {k : Nat} (T : ExTxt X.prog X.K X.mg C fI cc qual sBB) (gC : X.mg "BadBytes" = some (.ref C)) (hnA : PySem.W.findIn X.K (.ref C) "at" = some none) (hnF : PySem.W.findIn X.K (.ref C) "fault" = some none) (hr : Room k X.A) (hk : 1 ≤ k) (ha : PA X [a, b] ta) (hg : Gl X "BadBytes" := by rfl)
    (he : starEach (a :: [b]) X.env = (false, eval a X.env) :: starEach [b] X.env := by rfl) (hpl : (backTo pos (starEach [b] X.env)).any (·.1) = false := by rfl) :
    PMk X (.Call (.Name "BadBytes" p) [a, b] [] pos) (tMkBB C ta) := by
  intro pins s σ H Q I h
  refine wpAny_Call_Name_kw (ld_glob I hg gC ?_)
  refine PySem.W.callWith_K (h₀ := X.base) I.ok.mod.kin T.oex.kC (thn (ha.run pos pins s σ H _ I h) fun us s1 hh => ?_) he hpl
  obtain ⟨vs, H1, I1, r1, v, u, ev, q1⟩ := hh
  subst ev
  refine ⟨I1.kIn, ?_⟩
  cases r1 with
  | cons rv rn =>
    rename_i v' us'
    cases rn with
    | cons ru rn =>
      rename_i u' us'
      cases rn
      show wpAny _ _ (call (.ref C) [v', u']) _ _ _
      have M1 : Mod X.K X.mg s1.heap := ⟨I1.kIn, I1.mod.glob.keeps I1.bk, by obtain ⟨mb, b1, b2⟩ := I1.mod.blt; exact ⟨mb, b1.keeps I1.bk, b2⟩, I1.nolimit⟩
      obtain ⟨hp, g, dr, tk, os⟩ := s1
      have two : [v', u'].length ≤ sizeLine := by
        rw [sizeLine_eq]
        exact (by decide : 2 ≤ 16777216)
      refine wpAny_call (made_of T M1 two (fun A h x t0 R hd M hx hn hq => bb_init T M hx hd hn hnA hnF fun h' t' dx t1 hl => hq h' t' dx t1 hl) (by have := hr.dp; omega) fun h' tk' e d M => ?_)
      exact mkp_of T I1 M (fun g => relO_put (fs := [(("at" : Str), v)]) ru (rel_one rv) g) q1
theorem pmk_own0 {bmB : List Value} {B newId initId : String} {x : Str} {p pos : Pos} (F : ExcBaseFacts B newId initId bmB) (q : PySem.W.excIn X.K C bmB newId = true) (gC : X.mg x = some (.ref C))
    (kC : PySem.W.keepIn X.K (.ref C) = true) (r : Raises X (.ref C)) (hg : Gl X x := by rfl) (hdb : (x == ("__debug__" : Str)) = false := by decide) :
    PMk X (.Call (.Name x p) [] [] pos) (fun _ H Q => Q (.ref C) none H) := by
  intro pins s σ H Q I h
  refine wpAny_Call_Name_kw (ld_glob I hg gC ?_ hdb)
  refine PySem.W.callWith_K0 I.kIn kC ?_
  show wpAny _ _ (call (.ref C) []) _ _ _
  obtain ⟨bm, N, nm, qn, bs, hdct, sn, sub, ab, col, dd, k0, k1, k2, k3, k5, mN, hC, hN, hni, T⟩ := exc_obj I.kIn q
  refine wpAny_call_exc_subT F T hC hN hni (fun h' e hm => ?_) (Nat.zero_le _)
  exact mk_of I hm r h (I.hok.gone hm.new)
end
end Net
namespace Net
open PySem PySem.Spec PyProof.Rows L2
structure Ok1 (P : Program) (w : World) (K : PySem.W.Frag) (mg : Str → Option Value) (base : Heap) (CX : CXT) (k : Nat) (x : Str) (ps : List Str) (sp : Sp) (f : Addr) (fd : FuncData) : Prop where
  g : mg x = some (.ref f)
  kp : PySem.W.keepIn K (.ref f) = true
  b : Binds K fd ps []
  ok : FnOk P w K mg base CX k f fd ps sp
theorem same_upd {H : Hp} {p : Addr} {o : HO} (h : H p = none) : Same H (upd H p o) := fun b x e => by
  rw [upd_ne (ne_of_none e h)]
  exact e
mutual
inductive Rp (H : Hp) : V → PyData → Prop
  | non : Rp H .non .none
  | bl (b : Bool) : Rp H (.bl b) (.bool b)
  | int (i : Int) : Rp H (.int i) (.int i)
  | str (x : Str) : Rp H (.str x) (.str x)
  | lst {a : Addr} {xs : List V} {ds : List PyData} : H a = some (.lst xs) → RpA H xs ds → Rp H (.ref a) (.list ds)
  | tup {a : Addr} {xs : List V} {ds : List PyData} : H a = some (.tup xs) → RpA H xs ds → Rp H (.ref a) (.tuple ds)
  | dic {a : Addr} {kvs : List (Key × V)} : H a = some (.dK kvs) → Rp H (.ref a) (.dict [])
inductive RpA (H : Hp) : List V → List PyData → Prop
  | nil : RpA H [] []
  | cons {v : V} {vs : List V} {d : PyData} {ds : List PyData} : Rp H v d → RpA H vs ds → RpA H (v :: vs) (d :: ds)
end
def Kp (H H' : Hp) : Prop := ∀ b o, H b = some o → ((∃ xs, o = .lst xs) ∨ (∃ xs, o = .tup xs) ∨ (∃ kvs, o = .dK kvs)) → H' b = some o
theorem Kp.of {H H' : Hp} (s : Same H H') : Kp H H' := fun b o e _ => s b o e
mutual
theorem Rp.kp {H H' : Hp} (s : Kp H H') : ∀ (d : PyData) (v : V), Rp H v d → Rp H' v d
  | .none, _, h => by cases h; exact .non
  | .bool b, _, h => by cases h; exact .bl b
  | .int i, _, h => by cases h; exact .int i
  | .str x, _, h => by cases h; exact .str x
  | .list ds, _, h => by
    cases h with
    | lst e a => exact .lst (s _ _ e (.inl ⟨_, rfl⟩)) (RpA.kp s ds _ a)
  | .tuple ds, _, h => by
    cases h with
    | tup e a => exact .tup (s _ _ e (.inr (.inl ⟨_, rfl⟩))) (RpA.kp s ds _ a)
  | .dict kvs, _, h => by
    cases h with
    | dic e => exact .dic (s _ _ e (.inr (.inr ⟨_, rfl⟩)))
theorem RpA.kp {H H' : Hp} (s : Kp H H') : ∀ (ds : List PyData) (vs : List V), RpA H vs ds → RpA H' vs ds
  | [], _, h => by cases h; exact .nil
  | d :: ds, _, h => by
    cases h with
    | cons a b => exact .cons (Rp.kp s d _ a) (RpA.kp s ds _ b)
end
theorem Rp.same {H H' : Hp} {d : PyData} {v : V} (h : Rp H v d) (s : Same H H') : Rp H' v d := Rp.kp (Kp.of s) d v h
theorem RpA.same {H H' : Hp} {ds : List PyData} {vs : List V} (h : RpA H vs ds) (s : Same H H') : RpA H' vs ds := RpA.kp (Kp.of s) ds vs h
theorem RpA.len {H : Hp} : ∀ {ds : List PyData} {vs : List V}, RpA H vs ds → vs.length = ds.length
  | [], _, h => by cases h; rfl
  | d :: ds, _, h => by
    cases h with
    | cons a b => rw [List.length_cons, List.length_cons, RpA.len b]
theorem RpA.get {H : Hp} : ∀ {ds : List PyData} {vs : List V} {i : Nat} {v : V}, RpA H vs ds → vs[i]? = some v → ∃ d, ds[i]? = some d ∧ Rp H v d
  | [], _, _, _, h, e => by
    cases h
    simp at e
  | d :: ds, _, 0, v, h, e => by
    cases h with
    | cons a b =>
      have e2 := Option.some.inj e
      subst e2
      exact ⟨d, rfl, a⟩
  | d :: ds, _, i + 1, v, h, e => by
    cases h with
    | cons a b => exact RpA.get (i := i) b e
theorem RpA.getD {H : Hp} : ∀ {ds : List PyData} {vs : List V} {i : Nat} {d : PyData}, RpA H vs ds → ds[i]? = some d → ∃ v, vs[i]? = some v ∧ Rp H v d
  | [], _, _, _, h, e => by simp at e
  | d :: ds, _, 0, x, h, e => by
    cases h with
    | cons a b =>
      have e2 := Option.some.inj e
      subst e2
      exact ⟨_, rfl, a⟩
  | d :: ds, _, i + 1, x, h, e => by
    cases h with
    | cons a b => exact RpA.getD (i := i) b e
theorem RpA.app {H : Hp} : ∀ {ds es : List PyData} {vs us : List V}, RpA H vs ds → RpA H us es → RpA H (vs ++ us) (ds ++ es)
  | [], _, _, _, h, e => by
    cases h
    exact e
  | d :: ds, _, _, _, h, e => by
    cases h with
    | cons a b => exact .cons a (RpA.app b e)
theorem RpA.take {H : Hp} : ∀ (n : Nat) {ds : List PyData} {vs : List V}, RpA H vs ds → RpA H (vs.take n) (ds.take n)
  | 0, _, _, _ => .nil
  | n + 1, [], _, h => by
    cases h
    exact .nil
  | n + 1, d :: ds, _, h => by
    cases h with
    | cons a b => exact .cons a (RpA.take n b)
theorem RpA.drop {H : Hp} : ∀ (n : Nat) {ds : List PyData} {vs : List V}, RpA H vs ds → RpA H (vs.drop n) (ds.drop n)
  | 0, _, _, h => h
  | n + 1, [], _, h => by
    cases h
    exact .nil
  | n + 1, d :: ds, _, h => by
    cases h with
    | cons a b => exact RpA.drop n b
theorem RpA.rev {H : Hp} : ∀ {ds : List PyData} {vs : List V}, RpA H vs ds → RpA H vs.reverse ds.reverse
  | [], _, h => by
    cases h
    exact .nil
  | d :: ds, _, h => by
    cases h with
    | cons a b =>
      rw [List.reverse_cons, List.reverse_cons]
      exact RpA.app (RpA.rev b) (.cons a .nil)
theorem RpA.one {H : Hp} {v : V} {d : PyData} (h : Rp H v d) : RpA H [v] [d] := .cons h .nil
theorem RpA.ints {H : Hp} : ∀ ns : List Int, RpA H (ns.map V.int) (ns.map PyData.int)
  | [] => .nil
  | n :: ns => .cons (.int n) (RpA.ints ns)
theorem RpA.ints_inv {H : Hp} : ∀ {ns : List Int} {vs : List V}, RpA H vs (ns.map PyData.int) → vs = ns.map V.int
  | [], _, h => by
    cases h
    rfl
  | n :: ns, _, h => by
    cases h with
    | cons a b =>
      cases a
      rw [RpA.ints_inv b]
      rfl
def tyN : PyData → String
  | .none => "NoneType"
  | .bool _ => "bool"
  | .int _ => "int"
  | .str _ => "str"
  | .list _ => "list"
  | .tuple _ => "tuple"
  | .dict _ => "dict"
theorem Rp.ty {K : PySem.W.Frag} {H : Hp} {v : V} {d : PyData} (h : Rp H v d) : TyX K H v (.type (tyN d)) := by
  cases h with
  | non => exact .base .non
  | bl b => exact .base (.bl b)
  | int i => exact .base (.int i)
  | str x => exact .base (.str x)
  | lst e _ => exact .base (.lst e)
  | tup e _ => exact .base (.tup e)
  | dic e => exact .base (.dK e)
def isInt : PyData → Bool
  | .int _ => true
  | _ => false
def isBool : PyData → Bool
  | .bool _ => true
  | _ => false
def isStr : PyData → Bool
  | .str _ => true
  | _ => false
def isTup : PyData → Bool
  | .tuple _ => true
  | _ => false
def isLst : PyData → Bool
  | .list _ => true
  | _ => false
section
variable {K : PySem.W.Frag}
theorem kit_int (d : PyData) : PySem.W.kitOne K (.type (tyN d)) (.type "int") = some (isInt d || isBool d) := kit_ty (by cases d <;> simp only [tyN, isInt, isBool, isStr, isTup, isLst] <;> decide +kernel)
theorem kit_bool (d : PyData) : PySem.W.kitOne K (.type (tyN d)) (.type "bool") = some (isBool d) := kit_ty (by cases d <;> simp only [tyN, isInt, isBool, isStr, isTup, isLst] <;> decide +kernel)
theorem kit_str (d : PyData) : PySem.W.kitOne K (.type (tyN d)) (.type "str") = some (isStr d) := kit_ty (by cases d <;> simp only [tyN, isInt, isBool, isStr, isTup, isLst] <;> decide +kernel)
theorem kit_tup (d : PyData) : PySem.W.kitOne K (.type (tyN d)) (.type "tuple") = some (isTup d) := kit_ty (by cases d <;> simp only [tyN, isInt, isBool, isStr, isTup, isLst] <;> decide +kernel)
theorem kit_lst (d : PyData) : PySem.W.kitOne K (.type (tyN d)) (.type "list") = some (isLst d) := kit_ty (by cases d <;> simp only [tyN, isInt, isBool, isStr, isTup, isLst] <;> decide +kernel)
theorem kit_tl (d : PyData) : PySem.W.kitAny K (.type (tyN d)) [.type "tuple", .type "list"] = some (isTup d || isLst d) := by
  refine kitAny_cons (b := isTup d) (kit_tup d) (fun e => ?_) (fun e => by rw [e]; rfl)
  refine kitAny_cons (b := isLst d) (kit_lst d) (fun e2 => ?_) (fun e2 => by rw [e2, Bool.or_true])
  rw [e, e2]
  rfl
theorem cls_tl : Paired ClsV [V.ty "tuple", .ty "list"] [.type "tuple", .type "list"] := .cons (.ty _) (.cons (.ty _) .nil)
end
structure Fill (H0 : Hp) (D : Addr) (l : List V) (H : Hp) : Prop where
  same : Same H0 H
  new : H0 D = none
  at_ : H D = some (.lst l)
theorem Fill.start {H : Hp} {D : Addr} (h : H D = none) : Fill H D [] (upd H D (.lst [])) := ⟨same_upd h, h, upd_same⟩
theorem Fill.put {H0 H : Hp} {D : Addr} {l l' : List V} (f : Fill H0 D l H) : Fill H0 D l' (upd H D (.lst l')) :=
  ⟨fun b o e => by rw [upd_ne (ne_of_none e f.new)]; exact f.same b o e, f.new, upd_same⟩
theorem Fill.ext {H0 H H' : Hp} {D : Addr} {l : List V} (f : Fill H0 D l H) (s : Same H H') : Fill H0 D l H' := ⟨f.same.trans s, f.new, s _ _ f.at_⟩
theorem Fill.add {H0 H : Hp} {D : Addr} {l l' : List V} {v : V} (f : Fill H0 D l H) (e : l' = l ++ [v]) : Fill H0 D l' (upd H D (.lst (l ++ [v]))) := by
  rw [e]
  exact f.put
theorem take_add {α : Type} {l : List α} {i : Nat} {x : α} (h : l[i]? = some x) : l.take (i + 1) = l.take i ++ [x] := by
  rw [List.take_succ, h]
  rfl
theorem take_len_le {α : Type} {l : List α} {i n : Nat} (h : l.length < n) : (l.take i).length < n := Nat.lt_of_le_of_lt (by rw [List.length_take]; exact Nat.min_le_right _ _) h
mutual
def dsz : PyData → Nat
  | .list ds => 1 + dszs ds
  | .tuple ds => 1 + dszs ds
  | _ => 1
def dszs : List PyData → Nat
  | [] => 0
  | d :: ds => dsz d + dszs ds
end
theorem dsz_pos : ∀ d : PyData, 1 ≤ dsz d
  | .none => Nat.le_refl _
  | .bool _ => Nat.le_refl _
  | .int _ => Nat.le_refl _
  | .str _ => Nat.le_refl _
  | .list ds => by rw [dsz]; omega
  | .tuple ds => by rw [dsz]; omega
  | .dict _ => Nat.le_refl _
theorem dszs_len : ∀ ds : List PyData, ds.length ≤ dszs ds
  | [] => Nat.le_refl _
  | d :: ds => by
    have h1 := dsz_pos d
    have h2 := dszs_len ds
    rw [dszs, List.length_cons]
    omega
theorem dszs_app : ∀ ds es : List PyData, dszs (ds ++ es) = dszs ds + dszs es
  | [], es => by rw [List.nil_append, dszs, Nat.zero_add]
  | d :: ds, es => by
    rw [List.cons_append, dszs, dszs, dszs_app ds es]
    omega
theorem dszs_rev : ∀ ds : List PyData, dszs ds.reverse = dszs ds
  | [] => rfl
  | d :: ds => by
    rw [List.reverse_cons, dszs_app, dszs_rev ds, dszs, dszs, dszs]
    omega
def TK (H H' : Hp) : Prop := ∀ b xs, H b = some (.tup xs) → H' b = some (.tup xs)
theorem TK.refl (H : Hp) : TK H H := fun _ _ h => h
theorem TK.trans {H H1 H2 : Hp} (a : TK H H1) (b : TK H1 H2) : TK H H2 := fun c o h => b c o (a c o h)
theorem TK.of {H H' : Hp} (s : Same H H') : TK H H' := fun b xs e => s b _ e
theorem TK.lst {H : Hp} {p : Addr} {l l' : List V} (h : H p = some (.lst l)) : TK H (upd H p (.lst l')) := fun b xs e => by
  have n : b ≠ p := fun z => by
    rw [z, h] at e
    cases e
  rw [upd_ne n]
  exact e
theorem Same.own {H0 H : Hp} {p : Addr} {o : HO} (s : Same H0 H) (h : H0 p = none) : Same H0 (upd H p o) := fun b x e => by
  rw [upd_ne (ne_of_none e h)]
  exact s b x e
theorem last_rev {α : Type} (v : α) (vs : List α) : (v :: vs).reverse[(v :: vs).reverse.length - 1]? = some v := by simp
theorem drop_rev {α : Type} (v : α) (vs : List α) : (v :: vs).reverse.dropLast = vs.reverse := by simp
mutual
def dok : PyData → Bool
  | .str s => decide (s.length ≤ 60000)
  | .list ds => doks ds
  | .tuple ds => doks ds
  | _ => true
def doks : List PyData → Bool
  | [] => true
  | d :: ds => dok d && doks ds
end
mutual
def ddep : PyData → Nat
  | .tuple ds => 1 + ddeps ds
  | _ => 0
def ddeps : List PyData → Nat
  | [] => 0
  | d :: ds => max (ddep d) (ddeps ds)
end
theorem doks_app : ∀ ds es : List PyData, doks (ds ++ es) = (doks ds && doks es)
  | [], es => by rw [List.nil_append, doks, Bool.true_and]
  | d :: ds, es => by rw [List.cons_append, doks, doks, doks_app ds es, Bool.and_assoc]
theorem doks_get {ds : List PyData} {i : Nat} {d : PyData} (h : doks ds = true) (e : ds[i]? = some d) : dok d = true := by
  induction ds generalizing i with
  | nil => simp at e
  | cons x ds ih =>
    rw [doks, Bool.and_eq_true] at h
    cases i with
    | zero => cases (Option.some.inj e); exact h.1
    | succ i => exact ih h.2 e
theorem ddeps_get {ds : List PyData} {i : Nat} {d : PyData} (e : ds[i]? = some d) : ddep d ≤ ddeps ds := by
  induction ds generalizing i with
  | nil => simp at e
  | cons x ds ih =>
    rw [ddeps]
    cases i with
    | zero =>
      cases (Option.some.inj e)
      omega
    | succ i =>
      have := ih (i := i) e
      omega
end Net
namespace NetR
open PySem PySem.Spec PyProof.Rows HT L2
theorem extTup (l : Addr) (items : Array Value) (n : Nat) (b : Addr) (items2 : Array Value) (n2 : Nat) (dd : Option Addr) (sl : Array (Option Value)) (h0 : ¬(!items.isEmpty && Builtin.List.listTooLong (items.size + items2.size)) = true) (h1 : items.size ≤ sizeLine) (h2 : items.size + items2.size ≤ sizeLine + 1) :
    Meets (Builtin.«list.extend» ⟨[.ref l, .ref b], []⟩) (fun _ R s => s.heap.get? l = some { cls := .type "list", dict := none, data := .seq items n, slots := #[] } ∧ s.heap.get? b = some { cls := .type "tuple", dict := dd, data := .seq items2 n2, slots := sl } ∧
      R (.ok (.ret Value.none)) { s with heap := s.heap.update l (Obj.mapSeq fun x => x ++ items2), toks := s.toks }) :=
  .of_wp fun prog w A R s h => by
    obtain ⟨hp, g, d, tk, os⟩ := s
    obtain ⟨hl, hb, h⟩ := h
    have f1 := PySem.AutoSeq1.idx_int
    have f2 := PySem.AutoSeq1.sub_tuple_tuple
    have f3 := PySem.AutoSeq1.sub_list_list
    have f4 := PySem.AutoSeq1.sub_tuple_list
    have f5 := PySem.AutoSeq1.sub_list_tuple
    have hz' : (items ++ items2).size ≤ sizeLine + 1 := by
      rw [Array.size_append]
      exact h2
    wp_walk using (wpAny_updateSeq hl rfl (hz := h1) (_hz' := hz')), PySem.AutoSeq1.wpAny_loadPart' hl, PySem.AutoSeq1.wpAny_loadPart' hb
    exact ⟨_, rfl, h⟩
def rExtT (K : PySem.W.Frag) : V → List V → Hp → VK → Prop := fun x vs H Q => ∃ l b xs zs, x = .ref l ∧ vs = [.ref b] ∧ H l = some (.lst xs) ∧ SqT K H b zs ∧ xs.length + zs.length ≤ sizeLine ∧ Q .non (upd H l (.lst (xs ++ zs)))
section
variable {X : Cx}
theorem mt_extendT : MtR X "list.extend" (rExtT X.K) := by
  intro pins s σ H x vs v us Q I rx rv h
  obtain ⟨l, b, xs, zs, rfl, rfl, hH, hB, hz, q⟩ := h
  cases rx
  obtain ⟨u, rfl, ru⟩ := rv.one
  cases ru
  obtain ⟨z, its, n, r, hl, e⟩ := I.lstM hH
  obtain ⟨its2, r2, ht, z2⟩ := I.tuple hB
  obtain ⟨⟨cls, dd, data, sl⟩, e2, hc, n2, hd⟩ := id ht
  simp only at hc hd
  subst hc hd
  have hl2 := r2.length
  have hsz : its.toArray.size + its2.toArray.size ≤ sizeLine := by
    rw [List.size_toArray, List.size_toArray]
    omega
  have hlong : ¬ (!its.toArray.isEmpty && Builtin.List.listTooLong (its.toArray.size + its2.toArray.size)) = true := by
    rw [notLongL hsz, Bool.and_false]
    exact Bool.false_ne_true
  refine call_meets F.slot_list_extend ⟨_, e, rfl⟩ F.entry_list_extend (F.args_list_extend_2 _ _) (extTup l its.toArray n b its2.toArray n2 dd sl hlong (by rw [List.size_toArray]; omega) (by omega)) ⟨e, e2, ?_⟩
  refine ⟨.non, _, I.lset (its' := its ++ its2) hH e (by simp) (r.append r2) ?_, rfl, q⟩
  rw [List.length_append]
  omega
end
section
variable {prog : Program} {w : World} {A : Around} {E : Value → Shared → Prop} {s : Shared}
theorem adjust_rev (n : Nat) : Builtin.Slice.sliceAdjust none none (-1) (n : Int) = ((n : Int) - 1, -1) := rfl
theorem places_rev (n : Nat) : Builtin.Slice.slicePlaces ((n : Int) - 1) (-1) (-1) = n := by
  unfold Builtin.Slice.slicePlaces
  have h1 : ¬ ((-1 : Int) > 0) := by omega
  simp only [h1, if_false, Int.neg_neg, Int.ediv_one]
  split <;> omega
theorem applied_rev {sl : Addr} {vl vu vs : Value} {n : Nat} {Q : Int × Int × Nat → Shared → Prop} (hs : s.heap.IsSliceOf sl vl vu vs) (pl : IsPart vl none) (pu : IsPart vu none) (ps : IsPart vs (some (-1)))
    (h : Q ((n : Int) - 1, -1, n) s) : wpAny (model prog w) A (Builtin.Slice.sliceApplied (.ref sl) (pure (n : Int))) Q E s := by
  obtain ⟨os, hos, hcs, hds⟩ := id hs
  unfold Builtin.Slice.sliceApplied Builtin.Slice.sliceFields
  refine wpAny_bind (wpAny_bind (wpAny_field hos hds (x := vl) rfl (wpAny_bind (wpAny_field hos hds (x := vu) rfl (wpAny_bind (wpAny_field hos hds (x := vs) rfl (wpAny_pure ?_)))))))
  refine wpAny_bind (slicePart_ ps ?_)
  show wpAny _ _ (if ((-1 : Int) == 0) = true then _ else _) _ _ s
  rw [if_neg (by decide)]
  refine wpAny_bind (slicePart_ pl (wpAny_bind (slicePart_ pu (wpAny_bind (wpAny_pure ?_)))))
  show wpAny _ _ (match Builtin.Slice.sliceAdjust none none (-1) (n : Int) with | (lo, hi) => pure (lo, (-1 : Int), Builtin.Slice.slicePlaces lo hi (-1))) _ _ s
  rw [adjust_rev]
  show wpAny _ _ (pure ((n : Int) - 1, (-1 : Int), Builtin.Slice.slicePlaces ((n : Int) - 1) (-1) (-1))) _ _ s
  rw [places_rev]
  exact wpAny_pure h
theorem filterMap_some {α : Type} {f : Nat → Option α} {g : Nat → α} : ∀ L : List Nat, (∀ m ∈ L, f m = some (g m)) → L.filterMap f = L.map g
  | [], _ => rfl
  | m :: L, h => by
    rw [List.filterMap_cons, h m List.mem_cons_self, List.map_cons, filterMap_some L fun k hk => h k (List.mem_cons_of_mem _ hk)]
theorem pick_rev (xs : Array Value) : ((List.range xs.size).filterMap fun (m : Nat) => xs[(((xs.size : Int) - 1) + (m : Int) * (-1)).toNat]?).toArray = xs.toList.reverse.toArray := by
  apply congrArg
  have hl : xs.toList.length = xs.size := Array.length_toList
  rw [filterMap_some (g := fun m => xs.toList.reverse.getD m .none) (List.range xs.size) fun m hm => ?_]
  · apply List.ext_getElem?
    intro i
    rw [List.getElem?_map]
    by_cases hi : i < xs.size
    · rw [List.getElem?_range hi]
      show some (xs.toList.reverse.getD i .none) = _
      rw [List.getD_eq_getElem?_getD, List.getElem?_eq_getElem (by rw [List.length_reverse]; omega)]
      rfl
    · rw [List.getElem?_eq_none (by rw [List.length_range]; omega), List.getElem?_eq_none (by rw [List.length_reverse]; omega)]
      rfl
  · have hm' : m < xs.size := List.mem_range.mp hm
    have : (((xs.size : Int) - 1) + (m : Int) * (-1)).toNat = xs.toList.length - 1 - m := by omega
    rw [this, List.getD_eq_getElem?_getD, List.getElem?_reverse (by omega), ← Array.getElem?_toList, List.getElem?_eq_getElem (by omega)]
    rfl
theorem getItem_rev {t sl : Addr} {items : Array Value} {vl vu vs : Value} {Q : Value → Shared → Prop} (ht : IsTup s.heap t items) (hs : s.heap.IsSliceOf sl vl vu vs) (pl : IsPart vl none) (pu : IsPart vu none) (ps : IsPart vs (some (-1)))
    (h : Q (.ref s.heap.objs.size) { s with heap := s.heap.push { cls := .type "tuple", data := .seq items.toList.reverse.toArray } })
    (hsz : items.size ≤ sizeLine) : wpAny (model prog w) A (getItem (.ref t) (.ref sl)) Q E s := by
  have htake : sizeOk (.seq items.toList.reverse.toArray) := by
    show items.toList.reverse.toArray.size ≤ sizeLine
    rw [List.size_toArray, List.length_reverse, Array.length_toList]
    exact hsz
  obtain ⟨os, hos, hcs, hds⟩ := id hs
  have hTs : s.TypeIs (.ref sl) "slice" := ⟨os, hos, hcs⟩
  unfold getItem
  try with_reducible refine wpAny_holding ?_
  first | refine wpAny_bind (wpAny_pure ?_) | skip
  refine wpAny_bind (wpAny_sequenceKey ht.typeIs (by decide) ?_)
  refine wpAny_bind (wpAny_callSpecial?_slot (name := Str.ofString "__getitem__") ht.typeIs PyProof.Rows.slot_tuple_getitem
    (wpAny_call_entry PyProof.Rows.slot_tuple_getitem ht.typeIs entry_tuple_getitem ?_ (args_tuple_getitem _ _)))
  show wpAny _ _ (Builtin.Tuple.tupleItemsOf (.ref t) >>= _) _ _ s
  refine wpAny_bind (tupleItemsOf_ ht ?_)
  refine wpAny_bind (wpAny_typeOf hTs ?_)
  rw [if_pos (by decide)]
  refine wpAny_bind (applied_rev hs pl pu ps ?_)
  have hno : ¬ ((((items.size : Int) - 1) == 0 && (-1 : Int) == 1 && items.size == items.size) = true) := by
    intro q
    rw [Bool.and_eq_true, Bool.and_eq_true] at q
    exact absurd q.1.2 (by decide)
  show wpAny _ _ (if (((items.size : Int) - 1) == 0 && (-1 : Int) == 1 && items.size == items.size) = true then _ else _) _ _ s
  rw [if_neg hno, pick_rev]
  first
    | exact wpAny_bind (m := Builtin.Tuple.tupleExact _) (wpAny_newObj_type (wpAny_pure ⟨_, rfl, wpAny_pure h⟩) htake)
    | exact wpAny_bind (m := Builtin.Tuple.tupleExact _) (wpAny_newObj_type (wpAny_bind (wpAny_pure (wpAny_pure ⟨_, rfl, wpAny_pure h⟩))) htake)
    | exact wpAny_bind (wpAny_bind (m := Builtin.Tuple.tupleExact _) (wpAny_newObj_type (wpAny_pure (wpAny_pure ⟨_, rfl, wpAny_pure h⟩)) htake))
    | exact wpAny_bind (wpAny_bind (m := Builtin.Tuple.tupleExact _) (wpAny_newObj_type (wpAny_pure ⟨_, rfl, wpAny_pure h⟩) htake))
end
def tRevT (K : PySem.W.Frag) (te : TE) : TE := fun σ H Q => te σ H fun x H1 => ∃ a xs, x = .ref a ∧ SqT K H1 a xs ∧ ∀ p, H1 p = none → Q (.ref p) (upd H1 p (.tup xs.reverse))
theorem pe_revT {X : Cx} {e : Expr} {te : TE} {k : Nat} {p1 p2 p3 pos : Pos} (he : PE X e te) : PE X (.Subscript e (.Slice none none (some (.UnaryOp .USub (.Constant (.int 1) k p1) p2)) p3) pos) (tRevT X.K te) := by
  refine ⟨fun pins s σ H Q I h => ?_⟩
  refine Subscript_ (thn (he.run pins s σ H _ I h) fun v s1 ⟨x, H1, I1, r1, q1⟩ => ?_)
  obtain ⟨a, xs, ex, hx, q⟩ := q1
  subst ex
  cases r1
  have hst : PO X (some (.UnaryOp .USub (.Constant (.int 1) k p1) p2)) (tPart (tUn (rU fun i => .int (-i)) (tC (.int 1)))) := po_some (pe_un un_neg pe_int)
  refine wpAny_Slice (thn (po_none.run pins s1 σ H1 (fun o H2 => o = none ∧ H2 = H1) I1 ⟨rfl, rfl⟩) fun vl s2 ⟨l, H2, I2, pl, el, e2⟩ => ?_)
  subst el e2
  refine thn (po_none.run pins s2 σ H2 (fun o H3 => o = none ∧ H3 = H2) I2 ⟨rfl, rfl⟩) fun vu s3 ⟨u, H3, I3, pu, eu, e3⟩ => ?_
  subst eu e3
  refine thn (hst.run pins s3 σ H3 (fun o H4 => o = some (-1) ∧ H4 = H3) I3 ⟨1, rfl, -1, rfl, rfl, rfl⟩) fun vs s4 ⟨o, H4, I4, ps, eo, e4⟩ => ?_
  subst eo e4
  have I5 : Inv X pins σ H4 { s4 with heap := s4.heap.push { cls := .type "slice", data := .fields #[vl, vu, vs] } } := I4.kept (t' := s4.toks) fun b ob q => Heap.get?_push_of_some _ q
  obtain ⟨its, r, ht, hz⟩ := I5.tuple hx
  have hlen := r.length
  show wpAny (model X.prog X.w) X.A (subscriptTail e (.Slice none none (some (.UnaryOp .USub (.Constant (.int 1) k p1) p2)) p3) (.ref a) (.ref s4.heap.objs.size)) (EP X pins σ Q) X.xe { s4 with heap := s4.heap.push { cls := .type "slice", data := .fields #[vl, vu, vs] } }
  refine tail_any (ops := [.ref a, .ref s4.heap.objs.size]) ht.typeIs (PyProof.Rows.slot_tuple_getitem.lookup) ?_ (by with_unfolding_all rfl)
  refine getItem_rev ht (Heap.IsSliceOf.new _ vl vu vs) pl pu ps ?_ (by rw [List.size_toArray]; omega)
  refine ⟨.ref _, _, I5.laid (t' := s4.toks) (o := .tup xs.reverse) (fun b ob q => Heap.get?_push_of_some _ q) (Nat.le_refl _) ?_, rfl, q _ (I5.hok.fresh (Nat.le_refl _))⟩
  exact ⟨by rw [List.length_reverse]; exact hz, _, r.reverse, IsTup.new _ _⟩
def gFld (K : PySem.W.Frag) (to : TE) (f : Str) : TG := fun v σ H Q => to σ H fun x H2 => ∃ a C dx fs, x = .ref a ∧ H2 a = some (.ins C dx fs) ∧ Cls K C ∧ NoAttr K C f ∧ fs.length < 1000 ∧ Q σ (upd H2 a (.ins C dx (putF f v fs)))
theorem pg_fld {X : Cx} {o : Expr} {f : Str} {to : TE} {pos : Pos} (ho : PE X o to) : PG X (.Attribute o f pos) (gFld X.K to f) := by
  refine ⟨fun pins s σ H v u Q I r h => ?_⟩
  rw [assign_Attribute]
  refine wpAny_bind (wpAny_holding (thn (ho.run pins s σ H _ I h) fun ov s1 ⟨x, H1, I1, r1, a, C, dx, fs, ex, ea, c, n, l, q⟩ => ?_))
  subst ex
  obtain rfl : ov = Value.ref a := r1
  refine wpAny_bind (wpAny_standAt (wpAny_bind (wpAny_holding (setattr_ok I1 ea c n l r fun s3 I3 => ?_))))
  exact wpAny_release ⟨σ, _, I3, q⟩
def rEqE (K : PySem.W.Frag) : R2 := fun x y H Q => ∃ a b xs, x = .ref a ∧ y = .ref b ∧ SqT K H a xs ∧ SqT K H b [] ∧ Q (.bl xs.isEmpty) H
theorem op_eqE {X : Cx} (hu : X.A.units < cLine) : OpR X (compareOp .Eq) (rEqE X.K) := by
  intro pins s σ H x y v u Q I rx ry h
  obtain ⟨a, b, xs, rfl, rfl, ha, hb, q⟩ := h
  cases rx
  cases ry
  obtain ⟨its, r1, p1, _⟩ := I.tuple ha
  obtain ⟨its2, r2, p2, _⟩ := I.tuple hb
  cases r2
  have e : ((List.range (min its.toArray.size ([] : List Value).toArray.size)).all (fun _ => true) && its.toArray.size == ([] : List Value).toArray.size) = xs.isEmpty := by
    cases r1 <;> simp
  refine SeqAt.eq_tupleAt (e := fun _ => true) (items2 := ([] : List Value).toArray) p1 p2 hu (fun j h1 h2 => absurd h2 (by simp)) ?_
  rw [e]
  exact ⟨.bl _, H, I, rfl, q⟩
theorem cut_whole {xs : List V} {lo hi : Option Int} (h : HT.sIx xs.length 0 lo = 0 ∧ HT.sIx xs.length xs.length hi = xs.length) : cutV xs lo hi = xs := by
  unfold cutV
  rw [h.1, h.2]
  simp
theorem sl_new {K : PySem.W.Frag} {H : Hp} {Q : VK} {a : Addr} {xs : List V} {lo hi : Option Int} (ha : H a = some (.tup xs)) (q : ∀ H' p, Same H H' → H' p = some (.tup (cutV xs lo hi)) → Q (.ref p) H') : rSlA K (.ref a) lo hi H Q :=
  ⟨a, xs, rfl, .inl (.inl ha), fun w => q H a (.refl H) (by rw [cut_whole w]; exact ha), fun _ p hp => q _ p (Net.same_upd hp) upd_same⟩
theorem cat_new {K : PySem.W.Frag} {H : Hp} {Q : VK} {a b : Addr} {xs ys : List V} (ha : H a = some (.tup xs)) (hb : H b = some (.tup ys)) (hz : xs.length + ys.length ≤ sizeLine) (q : ∀ H' p, Same H H' → H' p = some (.tup (xs ++ ys)) → Q (.ref p) H') : rCatA K (.ref a) (.ref b) H Q :=
  ⟨a, b, xs, ys, rfl, rfl, .inl (.inl ha), .inl (.inl hb), hz, fun e => q H b (.refl H) (by rw [e]; exact hb), fun _ e => q H a (.refl H) (by rw [e, List.append_nil]; exact ha), fun _ _ p hp => q _ p (Net.same_upd hp) upd_same⟩
theorem cut_take (xs : List V) (k : Nat) : cutV xs none (some (k : Int)) = xs.take k := by
  unfold cutV
  rw [HT.sIx_none, HT.sIx_nat]
  show xs.take (min k xs.length - 0) = xs.take k
  rw [Nat.sub_zero]
  by_cases h : k ≤ xs.length
  · rw [Nat.min_eq_left h]
  · rw [Nat.min_eq_right (by omega), List.take_length, List.take_of_length_le (by omega)]
theorem cut_drop (xs : List V) (k : Nat) : cutV xs (some (k : Int)) none = xs.drop k := by
  unfold cutV
  rw [HT.sIx_none, HT.sIx_nat]
  by_cases h : k ≤ xs.length
  · rw [Nat.min_eq_left h, List.take_of_length_le (by rw [List.length_drop]; omega)]
  · rw [Nat.min_eq_right (by omega), List.drop_length, List.drop_of_length_le (by omega), List.take_nil]
theorem cut_mid (xs : List V) (i j : Nat) (h : i ≤ j) : cutV xs (some (i : Int)) (some (j : Int)) = (xs.drop i).take (j - i) := by
  unfold cutV
  rw [HT.sIx_nat, HT.sIx_nat]
  by_cases h1 : i ≤ xs.length
  · rw [Nat.min_eq_left h1]
    by_cases h2 : j ≤ xs.length
    · rw [Nat.min_eq_left h2]
    · rw [Nat.min_eq_right (by omega), List.take_of_length_le (by rw [List.length_drop]; omega), List.take_of_length_le (by rw [List.length_drop]; omega)]
  · have e1 : min i xs.length = xs.length := Nat.min_eq_right (by omega)
    rw [e1, List.drop_length, List.drop_of_length_le (by omega : xs.length ≤ i), List.take_nil, List.take_nil]
theorem lay_ints : ∀ ns : List Int, PyData.canLayAll0 (ns.map PyData.int) = true ∧ PyData.depthAll (ns.map PyData.int) = 0
  | [] => ⟨rfl, rfl⟩
  | n :: ns => by
    have h := lay_ints ns
    refine ⟨?_, ?_⟩
    · show (true && PyData.canLayAll0 (ns.map PyData.int)) = true
      rw [h.1]
      rfl
    · show max 0 (PyData.depthAll (ns.map PyData.int)) = 0
      rw [h.2]
      rfl
theorem shp_ints (ns : List Int) : SeqAt.shaped (.tuple (ns.map PyData.int)) = true := by
  have h := lay_ints ns
  show (PyData.canLayAll0 (ns.map PyData.int) && decide (PyData.depthAll (ns.map PyData.int) + 1 ≤ 64)) = true
  rw [h.1, h.2]
  rfl
theorem eqv_ints : ∀ ns ms : List Int, PyData.eqvAll (ns.map PyData.int) (ms.map PyData.int) = decide (ns = ms)
  | [], [] => rfl
  | [], m :: ms => rfl
  | n :: ns, [] => rfl
  | n :: ns, m :: ms => by
    show ((n == m) && PyData.eqvAll (ns.map PyData.int) (ms.map PyData.int)) = _
    rw [eqv_ints ns ms]
    by_cases h : n = m
    · subst h
      by_cases h2 : ns = ms <;> simp [h2]
    · simp [h]
theorem dp_ints {K : PySem.W.Frag} {H : Hp} : ∀ ns : List Int, DpAll K H (ns.map V.int) (ns.map PyData.int)
  | [] => .nil
  | n :: ns => .cons (.int n) (dp_ints ns)
def rNeTI (K : PySem.W.Frag) : R2 := fun x y H Q => ∃ (a b : Addr) (ns ms : List Int), x = .ref a ∧ y = .ref b ∧ SqT K H a (ns.map V.int) ∧ SqT K H b (ms.map V.int) ∧ Q (.bl (!decide (ns = ms))) H
theorem op_neTI {X : Cx} (hu : X.A.units + 64 < cLine) : OpR X (compareOp .NotEq) (rNeTI X.K) := by
  intro pins s σ H x y v u Q I rx ry h
  obtain ⟨a, b, ns, ms, rfl, rfl, ha, hb, q⟩ := h
  refine op_neD hu pins s σ H _ _ v u Q I rx ry ⟨.tuple (ns.map PyData.int), .tuple (ms.map PyData.int), .tup ha (dp_ints ns), .tup hb (dp_ints ms), shp_ints ns, shp_ints ms, ?_⟩
  have e : PyData.eqv (.tuple (ns.map PyData.int)) (.tuple (ms.map PyData.int)) = decide (ns = ms) := by
    show PyData.eqvAll _ _ = _
    exact eqv_ints ns ms
  rw [e]
  exact q
end NetR
namespace Net
open PySem PySem.Spec PyProof.Rows L2
def cs_SIGNS : Str := Str.ofString ("\n !\"#()*+" ++ ",-./" ++ "0123456789:;<=>?" ++ "abcdefghijklmnopqrstuvwxyz")
structure Tx (mg : Str → Option Value) : Prop where
  n_len : mg "len" = none
  n_isinstance : mg "isinstance" = none
  n_all : mg "all" = none
  n_sum : mg "sum" = none
  n_tuple : mg "tuple" = none
  n_list : mg "list" = none
  n_dict : mg "dict" = none
  n_sorted : mg "sorted" = none
  n_enumerate : mg "enumerate" = none
  n_range : mg "range" = none
  n_zip : mg "zip" = none
  n_int : mg "int" = none
  n_bool : mg "bool" = none
  n_str : mg "str" = none
  n_abs : mg "abs" = none
  n_min : mg "min" = none
  n_set : mg "set" = none
  c_MOST_BYTE : ∃ t, mg "MOST_BYTE" = some (.int 255 t)
  c_SIGNS : ∃ t, mg "SIGNS" = some (.str cs_SIGNS t)
  c_NUMBER : ∃ t, mg "NUMBER" = some (.int 1 t)
  c_STRING : ∃ t, mg "STRING" = some (.int 2 t)
  c_TUPLE : ∃ t, mg "TUPLE" = some (.int 3 t)
  c_BASE : ∃ t, mg "BASE" = some (.int 256 t)
  c_MOST : ∃ t, mg "MOST" = some (.int 65535 t)
  c_MOST_DEEP : ∃ t, mg "MOST_DEEP" = some (.int 20 t)
  c_SIZE : ∃ t, mg "SIZE" = some (.int 64 t)
  c_HEAD : ∃ t, mg "HEAD" = some (.int 3 t)
  c_MOST_BODY : ∃ t, mg "MOST_BODY" = some (.int 61 t)
  c_PRIME : ∃ t, mg "PRIME" = some (.int 65521 t)
  c_MOST_NUMBER : ∃ t, mg "MOST_NUMBER" = some (.int 65535 t)
def within (d : PyData) (lo hi : Int) : Bool := match d with
  | .int n => decide (lo ≤ n) && decide (n ≤ hi)
  | _ => false
def areInts : PyData → Bool
  | .tuple ds => ds.all isInt
  | _ => false
def areBytes : PyData → Bool
  | .tuple ds => ds.all fun d => within d 0 255
  | _ => false
def isTupOf (d : PyData) (n : Int) : Bool := match d with
  | .tuple ds => decide ((ds.length : Int) = n)
  | _ => false
def sp_is_integer : Sp := fun vs H Q _ => ∃ v d, vs = [v] ∧ Rp H v d ∧ Q (.bl (isInt d)) H
def sp_is_within : Sp := fun vs H Q _ => ∃ v d lo hi, vs = [v, .int lo, .int hi] ∧ Rp H v d ∧ Q (.bl (within d lo hi)) H
def sp_is_string : Sp := fun vs H Q _ => ∃ v d, vs = [v] ∧ Rp H v d ∧ Q (.bl (isStr d)) H
def sp_are_integers : Sp := fun vs H Q _ => ∃ v d, vs = [v] ∧ Rp H v d ∧ dsz d < sizeLine ∧ ∀ H', Same H H' → Q (.bl (areInts d)) H'
def sp_are_bytes : Sp := fun vs H Q _ => ∃ v d, vs = [v] ∧ Rp H v d ∧ dsz d < sizeLine ∧ ∀ H', Same H H' → Q (.bl (areBytes d)) H'
def sp_is_tuple_of : Sp := fun vs H Q _ => ∃ v d n, vs = [v, .int n] ∧ Rp H v d ∧ Q (.bl (isTupOf d n)) H
section
variable {P : Program} {w : World} {K : PySem.W.Frag} {mg : Str → Option Value} {base : Heap}
abbrev s_is_integer : Stmt := top 7
theorem sc_is_integer : FnScope ["thing"] ["thing"] (defScope s_is_integer) := ⟨rfl, rfl, rfl, by decide +kernel, rfl, by decide +kernel, by decide +kernel⟩
theorem ok_is_integer {f : Addr} {fd : FuncData} (F : Fun K "is_integer" "is_integer" s_is_integer f fd) (T : Tx mg) : FnOk P w K mg base CX0 1 f fd ["thing"] sp_is_integer := by
  refine F.ok sc_is_integer (fun vs H Q E h => ?_) (fun cdv A outer s H vs Q E hr h => ?_)
  · obtain ⟨v, d, rfl, _⟩ := h
    rfl
  · obtain ⟨v, d, rfl, hv, q⟩ := h
    refine ⟨_, (pss_one (ps_ret (pe_and (pe_callB call_isi (by rfl) T.n_isinstance (by decide +kernel) (pa_cons (pv 0) (pa_cons (pe_bltn (v := .ty "int") (by rfl) T.n_int (by decide +kernel) rfl) pa_nil))) (pe_one (pe_not (pe_callB call_isi (by rfl) T.n_isinstance (by decide +kernel) (pa_cons (pv 0) (pa_cons (pe_bltn (v := .ty "bool") (by rfl) T.n_bool (by decide +kernel) rfl) pa_nil)))))))), ?_⟩
    refine ⟨v, rfl, v, .ty "int", _, _, _, rfl, .ty _, hv.ty, kit_int d, _, rfl, ?_⟩
    cases e : (isInt d || isBool d) with
    | false =>
      refine iteF ?_
      have e1 : isInt d = false := (Bool.or_eq_false_iff.mp e).1
      show Q (.bl false) H
      rw [← e1]
      exact q
    | true =>
      refine iteT ⟨v, rfl, v, .ty "bool", _, _, _, rfl, .ty _, hv.ty, kit_bool d, _, rfl, ?_⟩
      have e1 : (!isBool d) = isInt d := by cases d <;> first | rfl | cases e
      show Q (.bl (!isBool d)) H
      rw [e1]
      exact q
abbrev s_is_within : Stmt := top 8
theorem sc_is_within : FnScope ["thing", "least", "most"] ["thing", "least", "most"] (defScope s_is_within) := ⟨rfl, rfl, rfl, by decide +kernel, rfl, by decide +kernel, by decide +kernel⟩
theorem ok_is_within {f f_is_integer : Addr} {fd fd1 : FuncData} (F : Fun K "is_within" "is_within" s_is_within f fd) (T : Tx mg) (d_is_integer : Ok1 P w K mg base CX0 1 "is_integer" ["thing"] sp_is_integer f_is_integer fd1) :
    FnOk P w K mg base CX0 2 f fd ["thing", "least", "most"] sp_is_within := by
  refine F.ok sc_is_within (fun vs H Q E h => ?_) (fun cdv A outer s H vs Q E hr h => ?_)
  · obtain ⟨v, d, lo, hi, rfl, _⟩ := h
    rfl
  · obtain ⟨v, d, lo, hi, rfl, hv, q⟩ := h
    refine ⟨_, (pss_one (ps_ret (pe_and (pe_call d_is_integer.ok (hr.mono (by decide)) rfl d_is_integer.g d_is_integer.kp d_is_integer.b .nil pass0 (pa_cons (pv 0) pa_nil)) (pe_one (pe_chain op_le op_le (pv 1) (pv 0) (pv 2)))))), ?_⟩
    refine ⟨v, rfl, v, d, rfl, hv, _, rfl, ?_⟩
    cases d with
    | int n =>
      cases hv
      refine iteT ⟨_, rfl, _, rfl, _, _, rfl, rfl, _, rfl, ?_⟩
      have e0 : Q (.bl (decide (lo ≤ n) && decide (n ≤ hi))) H := q
      cases e : decide (lo ≤ n) with
      | false =>
        rw [e] at e0
        exact iteF e0
      | true =>
        rw [e] at e0
        exact iteT ⟨_, rfl, _, _, rfl, rfl, e0⟩
    | _ => exact iteF q
abbrev s_is_string : Stmt := top 9
theorem sc_is_string : FnScope ["thing"] ["thing"] (defScope s_is_string) := ⟨rfl, rfl, rfl, by decide +kernel, rfl, by decide +kernel, by decide +kernel⟩
theorem ok_is_string {f : Addr} {fd : FuncData} (F : Fun K "is_string" "is_string" s_is_string f fd) (T : Tx mg) : FnOk P w K mg base CX0 1 f fd ["thing"] sp_is_string := by
  refine F.ok sc_is_string (fun vs H Q E h => ?_) (fun cdv A outer s H vs Q E hr h => ?_)
  · obtain ⟨v, d, rfl, _⟩ := h
    rfl
  · obtain ⟨v, d, rfl, hv, q⟩ := h
    refine ⟨_, (pss_one (ps_ret (pe_callB call_isi (by rfl) T.n_isinstance (by decide +kernel) (pa_cons (pv 0) (pa_cons (pe_bltn (v := .ty "str") (by rfl) T.n_str (by decide +kernel) rfl) pa_nil))))), ?_⟩
    exact ⟨v, rfl, v, .ty "str", _, _, _, rfl, .ty _, hv.ty, kit_str d, q⟩
def sp_are_all (fi : Addr) : Sp := fun vs H Q _ => ∃ v d, vs = [v, .ref fi] ∧ Rp H v d ∧ dsz d < sizeLine ∧ ∀ H', Same H H' → Q (.bl (areInts d)) H'
abbrev s_are_all : Stmt := top 10
theorem sc_are_all : FnScope ["thing", "fits", "member"] ["thing", "fits"] (defScope s_are_all) := ⟨rfl, rfl, rfl, by decide +kernel, rfl, by decide +kernel, by decide +kernel⟩
theorem ok_are_all {f f_is_integer : Addr} {fd fd1 : FuncData} (F : Fun K "are_all" "are_all" s_are_all f fd) (T : Tx mg) (d_is_integer : Ok1 P w K mg base CX0 1 "is_integer" ["thing"] sp_is_integer f_is_integer fd1) :
    FnOk P w K mg base CX0 2 f fd ["thing", "fits"] (sp_are_all f_is_integer) := by
  refine F.ok sc_are_all (fun vs H Q E h => ?_) (fun cdv A outer s H vs Q E hr h => ?_)
  · obtain ⟨v, d, rfl, _⟩ := h
    rfl
  · obtain ⟨v, d, rfl, hv, hsz, q⟩ := h
    refine ⟨_, (pss_one (ps_ret (pe_and (pe_callB call_isi (by rfl) T.n_isinstance (by decide +kernel) (pa_cons (pv 0) (pa_cons (pe_bltn (v := .ty "tuple") (by rfl) T.n_tuple (by decide +kernel) rfl) pa_nil))) (pe_one (pe_callB (cr_all rfl) (by rfl) T.n_all (by decide +kernel) (pa_cons (pe_lc (own := [("member", 2)]) (g := gName 2) (tt := tYes) rfl sc_are_all.nd (pi_tup (pv 0)) (blkOk_by (N := ["thing", "fits", "member"]) (sc := defScope s_are_all) (by decide +kernel)) (fun _ _ _ _ _ => pg_name (i := 2) sc_are_all.nd rfl (Or.inl rfl)) (fun _ _ _ _ _ => pts_nil) (fun _ _ _ _ _ => (pe_callL (i := 1) d_is_integer.ok hr (by rfl) (by first | exact Or.inl rfl | exact Or.inr (Or.inl rfl) | exact Or.inr (Or.inr rfl)) d_is_integer.kp d_is_integer.b .nil pass0 (pa_cons (pv 2) pa_nil)))) pa_nil)))))), ?_⟩
    refine ⟨v, rfl, v, .ty "tuple", _, _, _, rfl, .ty _, hv.ty, kit_tup d, _, rfl, ?_⟩
    cases d with
    | tuple ds =>
      cases hv with
      | @tup a xs _ ha hA =>
        have hn : ds.length < sizeLine := by
          have h1 := dszs_len ds
          rw [dsz] at hsz
          omega
        refine iteT ⟨_, rfl, a, rfl, ⟨_, .inl (.inl ha)⟩, fun D hD => lc_tup (K := K) (xs := xs) (fun i H1 => Fill H D ((ds.take i).map fun d => V.bl (isInt d)) H1) (.start hD) (fun i H1 _ f => .inl (.inl (f.same _ _ ha))) ?_ ?_⟩
        · intro i x H1 hi f
          obtain ⟨d, hd, hx⟩ := hA.get hi
          refine ⟨rfl, rfl, _, rfl, x, d, rfl, hx.same f.same, _, f.at_, ?_, f.add ?_⟩
          · rw [List.length_map]
            exact take_len_le hn
          · rw [take_add hd, List.map_append]
            rfl
        · intro H1 f
          rw [hA.len, List.take_length] at f
          refine ⟨D, ds.map isInt, rfl, ?_, ?_⟩
          · rw [List.map_map]
            exact .inl (.inl f.at_)
          · have e : ((ds.map isInt).all id) = areInts (.tuple ds) := by
              rw [List.all_map]
              rfl
            rw [e]
            exact q _ f.same
    | _ => exact iteF (q _ (.refl _))
abbrev s_are_integers : Stmt := top 11
theorem sc_are_integers : FnScope ["thing"] ["thing"] (defScope s_are_integers) := ⟨rfl, rfl, rfl, by decide +kernel, rfl, by decide +kernel, by decide +kernel⟩
theorem ok_are_integers {f f_is_integer f_are_all : Addr} {fd fd1 fd2 : FuncData} (F : Fun K "are_integers" "are_integers" s_are_integers f fd) (T : Tx mg) (d_is_integer : Ok1 P w K mg base CX0 1 "is_integer" ["thing"] sp_is_integer f_is_integer fd1)
    (d_are_all : Ok1 P w K mg base CX0 2 "are_all" ["thing", "fits"] (sp_are_all f_is_integer) f_are_all fd2) : FnOk P w K mg base CX0 3 f fd ["thing"] sp_are_integers := by
  refine F.ok sc_are_integers (fun vs H Q E h => ?_) (fun cdv A outer s H vs Q E hr h => ?_)
  · obtain ⟨v, d, rfl, _⟩ := h
    rfl
  · obtain ⟨v, d, rfl, hv, hsz, q⟩ := h
    refine ⟨_, (pss_one (ps_ret (pe_call d_are_all.ok (hr.mono (by decide)) rfl d_are_all.g d_are_all.kp d_are_all.b .nil pass0 (pa_cons (pv 0) (pa_cons (pe_glob (v := .ref f_is_integer) rfl d_is_integer.g rfl) pa_nil))))), ?_⟩
    exact ⟨v, rfl, v, d, rfl, hv, hsz, q⟩
theorem areBytes_ints : ∀ {d : PyData}, areBytes d = true → areInts d = true := fun {d} h => by
  cases d with
  | tuple ds =>
    have h1 : (ds.all fun d => within d 0 255) = true := h
    show ds.all isInt = true
    rw [List.all_eq_true] at h1 ⊢
    intro x hx
    have h2 := h1 x hx
    cases x <;> first | rfl | cases h2
  | _ => cases h
theorem areInts_of : ∀ {d : PyData}, areInts d = true → ∃ ns : List Int, d = .tuple (ns.map PyData.int) := fun {d} h => by
  cases d with
  | tuple ds =>
    have h1 : ds.all isInt = true := h
    have go : ∀ ds : List PyData, ds.all isInt = true → ∃ ns : List Int, ds = ns.map PyData.int := by
      intro ds
      induction ds with
      | nil => exact fun _ => ⟨[], rfl⟩
      | cons d ds ih =>
        intro h
        rw [List.all_cons, Bool.and_eq_true] at h
        obtain ⟨ns, e⟩ := ih h.2
        cases d with
        | int n => exact ⟨n :: ns, by rw [e]; rfl⟩
        | _ => cases h.1
    obtain ⟨ns, e⟩ := go ds h1
    exact ⟨ns, by rw [e]⟩
  | _ => cases h
def byteB (n : Int) : Bool := decide (0 ≤ n) && decide (n ≤ 255)
theorem areBytes_int (ns : List Int) : areBytes (.tuple (ns.map PyData.int)) = ns.all byteB := by
  show ((ns.map PyData.int).all fun d => within d 0 255) = _
  rw [List.all_map]
  rfl
theorem rp_ints {H : Hp} {v : V} {ns : List Int} (h : Rp H v (.tuple (ns.map PyData.int))) : ∃ a, v = .ref a ∧ H a = some (.tup (ns.map V.int)) := by
  cases h with
  | tup ha hA =>
    have e := RpA.ints_inv hA
    subst e
    exact ⟨_, rfl, ha⟩
theorem dszs_ints : ∀ ns : List Int, dszs (ns.map PyData.int) = ns.length
  | [] => rfl
  | n :: ns => by
    rw [List.map_cons, dszs, dszs_ints ns, List.length_cons]
    show 1 + ns.length = ns.length + 1
    omega
abbrev s_are_bytes : Stmt := top 12
theorem sc_are_bytes : FnScope ["thing", "one"] ["thing"] (defScope s_are_bytes) := ⟨rfl, rfl, rfl, by decide +kernel, rfl, by decide +kernel, by decide +kernel⟩
theorem ok_are_bytes {f f_are_integers : Addr} {fd fd1 : FuncData} (F : Fun K "are_bytes" "are_bytes" s_are_bytes f fd) (T : Tx mg) (d_are_integers : Ok1 P w K mg base CX0 3 "are_integers" ["thing"] sp_are_integers f_are_integers fd1) :
    FnOk P w K mg base CX0 4 f fd ["thing"] sp_are_bytes := by
  refine F.ok sc_are_bytes (fun vs H Q E h => ?_) (fun cdv A outer s H vs Q E hr h => ?_)
  · obtain ⟨v, d, rfl, _⟩ := h
    rfl
  · obtain ⟨v, d, rfl, hv, hsz, q⟩ := h
    obtain ⟨t_MOST_BYTE, c_MOST_BYTE⟩ := T.c_MOST_BYTE
    refine ⟨_, (pss_one (ps_ret (pe_and (pe_call d_are_integers.ok (hr.mono (by decide)) rfl d_are_integers.g d_are_integers.kp d_are_integers.b .nil pass0 (pa_cons (pv 0) pa_nil)) (pe_one (pe_callB (cr_all rfl) (by rfl) T.n_all (by decide +kernel) (pa_cons (pe_lc (own := [("one", 1)]) (g := gName 1) (tt := tYes) rfl sc_are_bytes.nd (pi_tup (pv 0)) (blkOk_by (N := ["thing", "one"]) (sc := defScope s_are_bytes) (by decide +kernel)) (fun _ _ _ _ _ => pg_name (i := 1) sc_are_bytes.nd rfl (Or.inl rfl)) (fun _ _ _ _ _ => pts_nil) (fun _ _ _ _ _ => (pe_chain op_le op_le pe_int (pv 1) (pe_glob (v := .int 255) rfl c_MOST_BYTE ⟨_, rfl⟩)))) pa_nil)))))), ?_⟩
    refine ⟨v, rfl, v, d, rfl, hv, hsz, fun H0 s0 => ⟨_, rfl, ?_⟩⟩
    cases e : areInts d with
    | false =>
      refine iteF ?_
      have e2 : areBytes d = false := by
        cases e3 : areBytes d with
        | false => rfl
        | true => rw [areBytes_ints e3] at e; cases e
      rw [← e2]
      exact q _ s0
    | true =>
      obtain ⟨ns, rfl⟩ := areInts_of e
      obtain ⟨a, rfl, ha⟩ := rp_ints (hv.same s0)
      have hn : ns.length < sizeLine := by
        rw [dsz, dszs_ints] at hsz
        omega
      refine iteT ⟨_, rfl, a, rfl, ⟨_, .inl (.inl ha)⟩, fun D hD => lc_tup (K := K) (xs := ns.map V.int) (fun i H1 => Fill H0 D ((ns.take i).map fun n => V.bl (byteB n)) H1) (.start hD) (fun i H1 _ f => .inl (.inl (f.same _ _ ha))) ?_ ?_⟩
      · intro i x H1 hi f
        rw [List.getElem?_map] at hi
        obtain ⟨n, hn1, rfl⟩ := Option.map_eq_some_iff.mp hi
        refine ⟨rfl, _, rfl, _, _, rfl, rfl, _, rfl, ?_⟩
        have fin : ∃ acc, H1 D = some (.lst acc) ∧ acc.length < sizeLine ∧ Fill H0 D ((ns.take (i + 1)).map fun n => V.bl (byteB n)) (upd H1 D (.lst (acc ++ [V.bl (byteB n)]))) := by
          refine ⟨_, f.at_, ?_, f.add ?_⟩
          · rw [List.length_map]
            exact take_len_le hn
          · rw [take_add hn1, List.map_append]
            rfl
        unfold byteB at fin
        cases e : decide ((0 : Int) ≤ n) with
        | false =>
          rw [e] at fin
          exact iteF fin
        | true =>
          rw [e] at fin
          exact iteT ⟨_, _, rfl, rfl, fin⟩
      · intro H1 f
        rw [List.length_map, List.take_length] at f
        refine ⟨D, ns.map byteB, rfl, ?_, ?_⟩
        · rw [List.map_map]
          exact .inl (.inl f.at_)
        · have e : ((ns.map byteB).all id) = areBytes (.tuple (ns.map PyData.int)) := by
            rw [areBytes_int, List.all_map]
            rfl
          rw [e]
          exact q _ (s0.trans f.same)
abbrev s_is_tuple_of : Stmt := top 13
theorem sc_is_tuple_of : FnScope ["thing", "many"] ["thing", "many"] (defScope s_is_tuple_of) := ⟨rfl, rfl, rfl, by decide +kernel, rfl, by decide +kernel, by decide +kernel⟩
theorem ok_is_tuple_of {f : Addr} {fd : FuncData} (F : Fun K "is_tuple_of" "is_tuple_of" s_is_tuple_of f fd) (T : Tx mg) : FnOk P w K mg base CX0 1 f fd ["thing", "many"] sp_is_tuple_of := by
  refine F.ok sc_is_tuple_of (fun vs H Q E h => ?_) (fun cdv A outer s H vs Q E hr h => ?_)
  · obtain ⟨v, d, n, rfl, _⟩ := h
    rfl
  · obtain ⟨v, d, n, rfl, hv, q⟩ := h
    refine ⟨_, (pss_one (ps_ret (pe_and (pe_callB call_isi (by rfl) T.n_isinstance (by decide +kernel) (pa_cons (pv 0) (pa_cons (pe_bltn (v := .ty "tuple") (by rfl) T.n_tuple (by decide +kernel) rfl) pa_nil))) (pe_one (pe_cmpR op_eq (pe_callB call_len (by rfl) T.n_len (by decide +kernel) (pa_cons (pv 0) pa_nil)) (pv 1) (nomark _)))))), ?_⟩
    refine ⟨v, rfl, v, .ty "tuple", _, _, _, rfl, .ty _, hv.ty, kit_tup d, _, rfl, ?_⟩
    cases d with
    | tuple ds =>
      cases hv with
      | @tup a xs _ ha hA =>
        refine iteT ⟨_, rfl, _, _, rfl, .inr ⟨_, .inl (.inl ha), rfl⟩, _, rfl, rfl, ?_⟩
        have e : decide (V.int (xs.length : Int) = V.int n) = isTupOf (.tuple ds) n := by
          show _ = decide ((ds.length : Int) = n)
          rw [hA.len]
          simp
        rw [e]
        exact q
    | _ => exact iteF q
end
end Net
namespace Net
open PySem PySem.Spec PyProof.Rows L2 NetR
def leafOk : PyData → Bool
  | .str s => decide (s.length ≤ 65535) && s.cps.toList.all fun c => decide (c ∈ cs_SIGNS.cps.toList)
  | .int n => within (.int n) 0 65535
  | _ => false
mutual
def isDat : PyData → Bool
  | .tuple ds => isDats ds
  | .str s => leafOk (.str s)
  | .int n => leafOk (.int n)
  | _ => false
def isDats : List PyData → Bool
  | [] => true
  | d :: ds => isDat d && isDats ds
end
theorem isDats_app : ∀ ds es : List PyData, isDats (ds ++ es) = (isDats ds && isDats es)
  | [], es => by rw [List.nil_append, isDats, Bool.true_and]
  | d :: ds, es => by rw [List.cons_append, isDats, isDats, isDats_app ds es, Bool.and_assoc]
theorem isDats_rev : ∀ ds : List PyData, isDats ds.reverse = isDats ds
  | [] => rfl
  | d :: ds => by rw [List.reverse_cons, isDats_app, isDats_rev ds, isDats, isDats, isDats, Bool.and_true, Bool.and_comm]
theorem isDat_leaf {d : PyData} (h : isTup d = false) : isDat d = leafOk d := by
  cases d <;> first | rfl | cases h
def sp_is_leaf : Sp := fun vs H Q _ => ∃ v d, vs = [v] ∧ Rp H v d ∧ dok d = true ∧ ∀ H', Same H H' → Q (.bl (leafOk d)) H'
def sp_is_data : Sp := fun vs H Q _ => ∃ v d, vs = [v] ∧ Rp H v d ∧ dok d = true ∧ dsz d ≤ 10000 ∧ ∀ H', Same H H' → Q (.bl (isDat d && decide (ddep d ≤ 20))) H'
def sp_two : Sp := fun vs H Q _ => ∃ n : Int, vs = [.int n] ∧ ∀ p, H p = none → Q (.ref p) (upd H p (.lst [.int (n / 256), .int (n % 256)]))
theorem len_small {s : Str} (h : dok (.str s) = true) : s.length ≤ 60000 := of_decide_eq_true h
theorem sl_big : 16777216 ≤ sizeLine := by rw [sizeLine_eq]; exact Nat.le_refl _
section
variable {P : Program} {w : World} {K : PySem.W.Frag} {mg : Str → Option Value} {base : Heap}
abbrev s_two : Stmt := top 24
theorem sc_two : FnScope ["number"] ["number"] (defScope s_two) := ⟨rfl, rfl, rfl, by decide +kernel, rfl, by decide +kernel, by decide +kernel⟩
theorem ok_two {f : Addr} {fd : FuncData} (F : Fun K "two" "two" s_two f fd) (T : Tx mg) : FnOk P w K mg base CX0 1 f fd ["number"] sp_two := by
  refine F.ok sc_two (fun vs H Q E h => ?_) (fun cdv A outer s H vs Q E hr h => ?_)
  · obtain ⟨v, rfl, _⟩ := h
    rfl
  · obtain ⟨n, rfl, q⟩ := h
    obtain ⟨t_BASE, c_BASE⟩ := T.c_BASE
    refine ⟨_, (pss_one (ps_ret (pe_lst (pa_cons (pe_op op_fdiv (pv 0) (pe_glob (v := .int 256) rfl c_BASE ⟨_, rfl⟩)) (pa_cons (pe_op op_mod (pv 0) (pe_glob (v := .int 256) rfl c_BASE ⟨_, rfl⟩)) pa_nil))))), ?_⟩
    refine ⟨_, rfl, _, _, rfl, rfl, ⟨by decide, by decide⟩, _, rfl, _, _, rfl, rfl, (by show (0 : Int) < 256; decide), (by show 2 ≤ sizeLine; decide), fun p hp => q p hp⟩
abbrev s_is_leaf : Stmt := top 22
theorem sc_is_leaf : FnScope ["thing", "sign"] ["thing"] (defScope s_is_leaf) := ⟨rfl, rfl, rfl, by decide +kernel, rfl, by decide +kernel, by decide +kernel⟩
theorem ok_is_leaf {f f_is_string f_is_within : Addr} {fd fd1 fd2 : FuncData} (F : Fun K "is_leaf" "is_leaf" s_is_leaf f fd) (T : Tx mg) (d_is_string : Ok1 P w K mg base CX0 1 "is_string" ["thing"] sp_is_string f_is_string fd1)
    (d_is_within : Ok1 P w K mg base CX0 2 "is_within" ["thing", "least", "most"] sp_is_within f_is_within fd2) : FnOk P w K mg base CX0 3 f fd ["thing"] sp_is_leaf := by
  refine F.ok sc_is_leaf (fun vs H Q E h => ?_) (fun cdv A outer s H vs Q E hr h => ?_)
  · obtain ⟨v, d, rfl, _⟩ := h
    rfl
  · obtain ⟨v, d, rfl, hv, hok, q⟩ := h
    obtain ⟨t_MOST, c_MOST⟩ := T.c_MOST
    obtain ⟨t_SIGNS, c_SIGNS⟩ := T.c_SIGNS
    refine ⟨_, (pss_cons (ps_if (pt_val (pe_call d_is_string.ok (hr.mono (by decide)) rfl d_is_string.g d_is_string.kp d_is_string.b .nil pass0 (pa_cons (pv 0) pa_nil))) (pss_one (ps_ret (pe_and (pe_cmpR op_le (pe_callB call_len (by rfl) T.n_len (by decide +kernel) (pa_cons (pv 0) pa_nil)) (pe_glob (v := .int 65535) rfl c_MOST ⟨_, rfl⟩) (nomark _)) (pe_one (pe_callB (cr_all rfl) (by rfl) T.n_all (by decide +kernel) (pa_cons (pe_lc (own := [("sign", 1)]) (g := gName 1) (tt := tYes) rfl sc_is_leaf.nd (pi_str (pv 0)) (blkOk_by (N := ["thing", "sign"]) (sc := defScope s_is_leaf) (by decide +kernel)) (fun _ _ _ _ _ => pg_name (i := 1) sc_is_leaf.nd rfl (Or.inl rfl)) (fun _ _ _ _ _ => pts_nil) (fun _ _ _ _ _ => (pe_cmpR op_in_sign (pv 1) (pe_glob (v := .str cs_SIGNS) rfl c_SIGNS ⟨_, rfl⟩) (by rfl)))) pa_nil)))))) pss_nil)
      (pss_one (ps_ret (pe_call d_is_within.ok (hr.mono (by decide)) rfl d_is_within.g d_is_within.kp d_is_within.b .nil pass0 (pa_cons (pv 0) (pa_cons pe_int (pa_cons (pe_glob (v := .int 65535) rfl c_MOST ⟨_, rfl⟩) pa_nil))))))), ?_⟩
    refine ⟨v, rfl, v, d, rfl, hv, _, rfl, ?_⟩
    cases d with
    | str z =>
      cases hv
      have hz := len_small hok
      have hz2 : z.length < sizeLine := Nat.lt_of_lt_of_le (by omega) sl_big
      refine iteT ⟨_, rfl, .str z, z.length, rfl, ⟨Nat.le_of_lt hz2, rfl⟩, _, _, rfl, rfl, _, rfl, ?_⟩
      rw [show decide ((z.length : Int) ≤ 65535) = true from decide_eq_true (by omega)]
      refine iteT ⟨_, rfl, z, rfl, fun D hD => lc_it walk_str (fun i H1 => Fill H D ((z.cps.toList.take i).map fun c => V.bl (decide (c ∈ cs_SIGNS.cps.toList))) H1) (.start hD) (fun _ _ _ _ => True.intro) ?_ ?_⟩
      · rintro i x H1 H1' hi f ⟨rfl, c, hc, rfl⟩
        have hc2 : z.cps.toList[i]? = some c := by
          rw [Array.getElem?_toList]
          exact hc
        refine ⟨rfl, _, rfl, c, _, rfl, rfl, _, f.at_, ?_, f.add ?_⟩
        · rw [List.length_map]
          exact take_len_le (by rw [Array.length_toList]; exact hz2)
        · rw [take_add hc2, List.map_append]
          rfl
      · intro H1 f
        rw [List.take_of_length_le (by rw [Array.length_toList]; exact Nat.le_refl _)] at f
        refine ⟨D, z.cps.toList.map fun c => decide (c ∈ cs_SIGNS.cps.toList), rfl, ?_, ?_⟩
        · rw [List.map_map]
          exact .inl (.inl f.at_)
        · have e : ((z.cps.toList.map fun c => decide (c ∈ cs_SIGNS.cps.toList)).all id) = leafOk (.str z) := by
            rw [List.all_map]
            show _ = (decide (z.length ≤ 65535) && z.cps.toList.all fun c => decide (c ∈ cs_SIGNS.cps.toList))
            rw [decide_eq_true (by omega : z.length ≤ 65535), Bool.true_and]
            rfl
          rw [e]
          exact q _ f.same
    | int n => exact iteF ⟨v, rfl, v, .int n, 0, 65535, rfl, hv, q _ (.refl _)⟩
    | _ => exact iteF ⟨v, rfl, v, _, 0, 65535, rfl, hv, q _ (.refl _)⟩
end
inductive Pd (H0 H : Hp) : List V → List (Nat × PyData) → Prop
  | nil : Pd H0 H [] []
  | cons {t : Addr} {v : V} {k : Nat} {vs : List V} {d : PyData} {ds : List (Nat × PyData)} : H t = some (.tup [v, .int k]) → k ≤ 20 → dok d = true → Rp H0 v d → Pd H0 H vs ds → Pd H0 H (.ref t :: vs) ((k, d) :: ds)
theorem Pd.tk {H0 H H' : Hp} {vs : List V} {ds : List (Nat × PyData)} (h : Pd H0 H vs ds) (s : TK H H') : Pd H0 H' vs ds := by
  induction h with
  | nil => exact .nil
  | cons a b c d e ih => exact .cons (s _ _ a) b c d ih
theorem Pd.app {H0 H : Hp} {vs us : List V} {ds es : List (Nat × PyData)} (h : Pd H0 H vs ds) (g : Pd H0 H us es) : Pd H0 H (vs ++ us) (ds ++ es) := by
  induction h with
  | nil => exact g
  | cons a b c d e ih => exact .cons a b c d ih
theorem Pd.rev {H0 H : Hp} {vs : List V} {ds : List (Nat × PyData)} (h : Pd H0 H vs ds) : Pd H0 H vs.reverse ds.reverse := by
  induction h with
  | nil => exact .nil
  | cons a b c d e ih =>
    rw [List.reverse_cons, List.reverse_cons]
    exact ih.app (.cons a b c d .nil)
theorem Pd.len {H0 H : Hp} {vs : List V} {ds : List (Nat × PyData)} (h : Pd H0 H vs ds) : vs.length = ds.length := by
  induction h with
  | nil => rfl
  | cons a b c d e ih => rw [List.length_cons, List.length_cons, ih]
def okP (x : Nat × PyData) : Bool := isDat x.2 && decide (x.1 + ddep x.2 ≤ 20)
theorem okP_all {k : Nat} (hk : k < 20) : ∀ cs : List PyData, ((cs.map fun c => (k + 1, c)).all okP) = (isDats cs && decide (k + 1 + ddeps cs ≤ 20))
  | [] => by
    show true = (true && decide (k + 1 + 0 ≤ 20))
    rw [decide_eq_true (by omega)]
    rfl
  | c :: cs => by
    rw [List.map_cons, List.all_cons, okP_all hk cs, isDats, ddeps]
    show ((isDat c && decide (k + 1 + ddep c ≤ 20)) && (isDats cs && decide (k + 1 + ddeps cs ≤ 20))) = (isDat c && isDats cs && decide (k + 1 + max (ddep c) (ddeps cs) ≤ 20))
    have e : decide (k + 1 + max (ddep c) (ddeps cs) ≤ 20) = (decide (k + 1 + ddep c ≤ 20) && decide (k + 1 + ddeps cs ≤ 20)) := by
      rw [← Bool.decide_and]
      congr 1
      exact propext ⟨fun h => by omega, fun h => by omega⟩
    rw [e]
    cases isDat c <;> cases isDats cs <;> cases decide (k + 1 + ddep c ≤ 20) <;> cases decide (k + 1 + ddeps cs ≤ 20) <;> rfl
def dz (ds : List (Nat × PyData)) : Nat := dszs (ds.map (·.2))
theorem dz_app (a b : List (Nat × PyData)) : dz (a ++ b) = dz a + dz b := by
  unfold dz
  rw [List.map_append, dszs_app]
theorem dz_len (ds : List (Nat × PyData)) : ds.length ≤ dz ds := by
  have := dszs_len (ds.map (·.2))
  rw [List.length_map] at this
  exact this
theorem dz_cs (k : Nat) (cs : List PyData) : dz ((cs.map fun c => (k, c)).reverse) = dszs cs := by
  unfold dz
  rw [List.map_reverse, List.map_map, dszs_rev]
  congr 1
  exact List.map_id' cs
theorem all_rev (p : Nat × PyData → Bool) (l : List (Nat × PyData)) : l.reverse.all p = l.all p := List.all_reverse
def WDat (H0 : Hp) (v : V) (l : Addr) (d : PyData) : Nat → L2.St → Hp → Prop := fun m σ H1 => ∃ a b c vs ds, σ = [some v, some (.ref l), a, b, c] ∧ Same H0 H1 ∧ H1 l = some (.lst vs.reverse) ∧ Pd H0 H1 vs ds ∧ ds.all okP = (isDat d && decide (ddep d ≤ 20)) ∧ m = dz ds ∧ dz ds ≤ 10000
section
variable {P : Program} {w : World} {K : PySem.W.Frag} {mg : Str → Option Value} {base : Heap}
abbrev s_is_data : Stmt := top 23
theorem sc_is_data : FnScope ["thing", "line", "here", "deep", "one"] ["thing"] (defScope s_is_data) := ⟨rfl, rfl, rfl, by decide +kernel, rfl, by decide +kernel, by decide +kernel⟩
theorem ok_is_data {f f_is_leaf : Addr} {fd fd1 : FuncData} (F : Fun K "is_data" "is_data" s_is_data f fd) (T : Tx mg) (d_is_leaf : Ok1 P w K mg base CX0 3 "is_leaf" ["thing"] sp_is_leaf f_is_leaf fd1) : FnOk P w K mg base CX0 4 f fd ["thing"] sp_is_data := by
  refine F.ok sc_is_data (fun vs H Q E h => ?_) (fun cdv A outer s H vs Q E hr h => ?_)
  · obtain ⟨v, d, rfl, _⟩ := h
    rfl
  · obtain ⟨v, d, rfl, hv, hok, hsz, q⟩ := h
    obtain ⟨t_MOST, c_MOST⟩ := T.c_MOST
    obtain ⟨t_MOST_DEEP, c_MOST_DEEP⟩ := T.c_MOST_DEEP
    refine ⟨_, (pss_cons (ps_set (i := 1) sc_is_data.nd rfl (Or.inl rfl) (pe_lst (pa_cons (pe_tup (pa_cons (pv 0) (pa_cons pe_int pa_nil))) pa_nil)))
      (pss_cons (ps_while PassesOwn.never (pt_truth (pv 1) (by intro _; rfl)) (pss_cons (ps_asg (pe_bm0 PySem.F.plainAttrs_list PySem.F.slot_list_pop PySem.F.type_list_pop mt_pop (pv 1)) (pg_tup rfl (pgs_cons (pg_name (i := 2) sc_is_data.nd rfl (Or.inl rfl)) (pgs_cons (pg_name (i := 3) sc_is_data.nd rfl (Or.inr rfl)) pgs_nil))))
      (pss_one (ps_if (pt_val (pe_callB call_isi (by rfl) T.n_isinstance (by decide +kernel) (pa_cons (pv 2) (pa_cons (pe_bltn (v := .ty "tuple") (by rfl) T.n_tuple (by decide +kernel) rfl) pa_nil)))) (pss_cons (ps_if (PW.pt (pw_or (pt_cmpR op_ge (pv 3) (pe_glob (v := .int 20) rfl c_MOST_DEEP ⟨_, rfl⟩) (nomark _)) (pw_or1 (pt_cmpR op_gt (pe_callB call_len (by rfl) T.n_len (by decide +kernel) (pa_cons (pv 2) pa_nil)) (pe_glob (v := .int 65535) rfl c_MOST ⟨_, rfl⟩) (nomark _))))) (pss_one (ps_ret pe_bl)) pss_nil)
      (pss_one (ps_expr (pe_bm PySem.F.plainAttrs_list PySem.F.slot_list_extend PySem.F.type_list_extend mt_extend (pv 1) (pa_cons (pe_lc (own := [("one", 4)]) (g := gName 4) (tt := tYes) rfl sc_is_data.nd (pi_tup (pv 2)) (blkOk_by (N := ["thing", "line", "here", "deep", "one"]) (sc := defScope s_is_data) (by decide +kernel)) (fun _ _ _ _ _ => pg_name (i := 4) sc_is_data.nd rfl (Or.inl rfl)) (fun _ _ _ _ _ => pts_nil) (fun _ _ _ _ _ => (pe_tup (pa_cons (pv 4) (pa_cons (pe_op op_add (pv 3) pe_int) pa_nil))))) pa_nil))))) (pss_one (ps_if (pt_not (pt_val (pe_call d_is_leaf.ok (hr.mono (by decide)) rfl d_is_leaf.g d_is_leaf.kp d_is_leaf.b .nil pass0 (pa_cons (pv 2) pa_nil)))) (pss_one (ps_ret pe_bl)) pss_nil))))))
      (pss_one (ps_ret pe_bl)))), ?_⟩
    refine ⟨_, rfl, (by show 2 ≤ sizeLine; decide), fun t ht => ⟨(by show 1 ≤ sizeLine; decide), fun l hl => ?_⟩⟩
    have s1 : Same H (upd H t (.tup [v, .int 0])) := same_upd ht
    have nl : H l = none := s1.free hl
    have s2 : Same H (upd (upd H t (.tup [v, .int 0])) l (.lst [.ref t])) := Same.own s1 nl
    have htl : t ≠ l := fun e => by
      rw [e, upd_same] at hl
      cases hl
    refine ⟨WDat H v l d, ⟨_, ⟨none, none, none, [.ref t], [(0, d)], rfl, s2, upd_same, .cons (k := 0) (by rw [upd_ne htl]; exact upd_same) (by omega) hok hv .nil, by show ((isDat d && decide (0 + ddep d ≤ 20)) && true) = _; rw [Bool.and_true, Nat.zero_add], rfl, by show dsz d + 0 ≤ 10000; omega⟩⟩, ?_⟩
    rintro m σ1 H1 ⟨a, b, c, vs, ds, rfl, sm, hL, hP, eD, rfl, hm⟩
    refine ⟨_, rfl, !vs.reverse.isEmpty, .inl ⟨_, .inl (.inl hL), rfl⟩, ?_⟩
    cases hP with
    | nil =>
      refine iteF ?_
      show Q (.bl true) H1
      have e : (isDat d && decide (ddep d ≤ 20)) = true := eD.symm
      rw [← e]
      exact q _ sm
    | @cons tt x k vs' d' ds' ht1 hk hok' hx hP' =>
      have hne : (!(V.ref tt :: vs').reverse.isEmpty) = true := by simp
      rw [hne]
      refine iteT ⟨fun σ' H' => ∃ m', m' < dz ((k, d') :: ds') ∧ WDat H v l d m' σ' H', fun _ _ h => h, ?_⟩
      refine ⟨_, rfl, .inl ⟨rfl, _, SqL.of hL⟩, l, _, .ref tt, rfl, rfl, hL, last_rev _ _, ?_⟩
      have htl1 : tt ≠ l := fun e => by
        rw [e, hL] at ht1
        cases ht1
      have ht2 : (upd H1 l (.lst (V.ref tt :: vs').reverse.dropLast)) tt = some (.tup [x, .int k]) := by
        rw [upd_ne htl1]
        exact ht1
      refine ⟨tt, _, rfl, .inl (.inl ht2), rfl, ?_⟩
      have sm2 : Same H (upd H1 l (.lst (V.ref tt :: vs').reverse.dropLast)) := Same.own sm nl
      have hx2 := hx.same sm2
      have hP2 : Pd H (upd H1 l (.lst (V.ref tt :: vs').reverse.dropLast)) vs' ds' := hP'.tk (.lst hL)
      have hL2 : (upd H1 l (.lst (V.ref tt :: vs').reverse.dropLast)) l = some (.lst vs'.reverse) := by
        rw [upd_same, drop_rev]
      generalize upd H1 l (.lst (V.ref tt :: vs').reverse.dropLast) = H2 at ht2 sm2 hx2 hP2 hL2
      have hm2 : dsz d' + dz ds' ≤ 10000 := hm
      have hpos := dsz_pos d'
      refine ⟨_, _, rfl, _, _, rfl, rfl, x, rfl, x, .ty "tuple", _, _, _, rfl, .ty _, hx2.ty, kit_tup d', _, rfl, ?_⟩
      by_cases hT : isTup d' = true
      · rw [hT]
        cases d' with
        | tuple cs =>
          cases hx with
          | @tup a2 xs _ ha0 hA =>
            have ha := sm2 _ _ ha0
            have hcs : 1 + dszs cs + dz ds' ≤ 10000 := hm2
            have hcl := dszs_len cs
            have hdl := dz_len ds'
            have hxl := hA.len
            have hvl := hP2.len
            have hbig := sl_big
            refine iteT ?_
            refine ⟨_, rfl, _, _, rfl, rfl, _, rfl, ?_⟩
            have hokp : okP (k, .tuple cs) = (isDats cs && decide (k + 1 + ddeps cs ≤ 20)) := by
              show (isDats cs && decide (k + (1 + ddeps cs) ≤ 20)) = _
              rw [Nat.add_assoc]
            rw [List.all_cons, hokp] at eD
            by_cases hk20 : 20 ≤ k
            · rw [show decide ((20 : Int) ≤ (k : Int)) = true from decide_eq_true (by omega)]
              refine iteT (iteT ?_)
              have ef : (isDat d && decide (ddep d ≤ 20)) = false := by
                rw [← eD, decide_eq_false (show ¬ k + 1 + ddeps cs ≤ 20 by omega), Bool.and_false]
                rfl
              show Q (.bl false) H2
              rw [← ef]
              exact q _ sm2
            rw [show decide ((20 : Int) ≤ (k : Int)) = false from decide_eq_false (by omega)]
            refine iteF ⟨_, rfl, _, _, rfl, .inr ⟨_, .inl (.inl ha), rfl⟩, _, _, rfl, rfl, _, rfl, ?_⟩
            rw [show decide ((65535 : Int) < (xs.length : Int)) = false from decide_eq_false (by omega)]
            refine iteF ?_
            refine ⟨_, rfl, .inl ⟨rfl, _, SqL.of hL2⟩, _, rfl, a2, rfl, ⟨_, .inl (.inl ha)⟩, fun D hD => lc_tup (K := K) (xs := xs) (fun i H3 => ∃ ps, Fill H2 D ps H3 ∧ Pd H H3 ps ((cs.take i).map fun c => (k + 1, c)) ∧ ps.length = i)
              ⟨[], .start hD, .nil, rfl⟩ (fun i H3 _ ⟨ps, f, _⟩ => .inl (.inl (f.same _ _ ha))) ?_ ?_⟩
            · rintro i y H3 hi ⟨ps, f, hps, hpl⟩
              obtain ⟨e, he, hy⟩ := hA.get hi
              have hi2 : i < xs.length := (List.getElem?_eq_some_iff.mp hi).1
              refine ⟨rfl, _, rfl, _, rfl, _, _, rfl, rfl, (by show 2 ≤ sizeLine; decide), fun t3 ht3 => ?_⟩
              have s3 : Same H3 (upd H3 t3 (.tup [y, .int ((k : Int) + 1)])) := same_upd ht3
              have f3 := f.ext s3
              refine ⟨_, f3.at_, Nat.lt_of_lt_of_le (by omega) sl_big, ps ++ [.ref t3], f3.put, ?_, by rw [List.length_append, hpl]; rfl⟩
              rw [take_add he, List.map_append]
              exact ((hps.tk (.of s3)).app (.cons (k := k + 1) upd_same (by omega) (doks_get hok' he) hy .nil)).tk (.lst f3.at_)
            · rintro H3 ⟨ps, f, hps, hpl⟩
              rw [hxl, List.take_length] at hps
              refine ⟨l, D, _, _, rfl, rfl, f.same _ _ hL2, f.at_, by rw [List.length_reverse]; omega, ?_⟩
              have hLD : l ≠ D := fun e => by
                have z := hL2
                rw [e, f.new] at z
                cases z
              refine ⟨dz ((cs.map fun c => (k + 1, c)).reverse ++ ds'), ?_, _, _, _, ps.reverse ++ vs', (cs.map fun c => (k + 1, c)).reverse ++ ds', rfl, Same.own (sm2.trans f.same) nl, ?_, ?_, ?_, rfl, ?_⟩
              · rw [dz_app, dz_cs]
                show dszs cs + dz ds' < 1 + dszs cs + dz ds'
                omega
              · rw [upd_same, List.reverse_append, List.reverse_reverse]
              · exact ((hps.rev).app (hP2.tk (.of f.same))).tk (.lst (f.same _ _ hL2))
              · rw [List.all_append, all_rev, okP_all (by omega), eD]
              · rw [dz_app, dz_cs]
                omega
        | _ => cases hT
      · have hT' : isTup d' = false := by
          cases e : isTup d' with
          | false => rfl
          | true => exact absurd e hT
        rw [hT']
        refine iteF ⟨x, rfl, x, d', rfl, hx2, hok', fun H3 s3 => ⟨_, rfl, ?_⟩⟩
        have hd0 : ddep d' = 0 := by cases d' <;> first | rfl | cases hT'
        have hokp : okP (k, d') = leafOk d' := by
          show (isDat d' && decide (k + ddep d' ≤ 20)) = _
          rw [hd0, decide_eq_true (by omega), Bool.and_true, isDat_leaf hT']
        rw [List.all_cons, hokp] at eD
        cases e : leafOk d' with
        | false =>
          rw [e, Bool.false_and] at eD
          refine iteT ?_
          show Q (.bl false) H3
          rw [eD]
          exact q _ (sm2.trans s3)
        | true =>
          rw [e, Bool.true_and] at eD
          refine iteF ⟨dz ds', ?_, _, _, _, vs', ds', rfl, sm2.trans s3, s3 _ _ hL2, hP2.tk (.of s3), eD, rfl, by omega⟩
          show dz ds' < dsz d' + dz ds'
          omega
end
end Net
namespace Net
open PySem PySem.Spec PyProof.Rows L2 NetR
def ixS (c : Nat) : Int := (cs_SIGNS.cps.toList.idxOf c : Nat)
def encS (s : Str) : List Int := 2 :: (s.length : Int) / 256 :: (s.length : Int) % 256 :: s.cps.toList.map ixS
mutual
def enc : PyData → List Int
  | .tuple ds => 3 :: (ds.length : Int) / 256 :: (ds.length : Int) % 256 :: encs ds
  | .str s => encS s
  | .int n => [1, n / 256, n % 256]
  | _ => []
def encs : List PyData → List Int
  | [] => []
  | d :: ds => enc d ++ encs ds
end
theorem encs_app : ∀ ds es : List PyData, encs (ds ++ es) = encs ds ++ encs es
  | [], es => by rw [List.nil_append, encs, List.nil_append]
  | d :: ds, es => by rw [List.cons_append, encs, encs, encs_app ds es, List.append_assoc]
mutual
theorem enc_len : ∀ d : PyData, dok d = true → (enc d).length ≤ 60003 * dsz d
  | .tuple ds, h => by
    have := encs_len ds h
    rw [enc, dsz, List.length_cons, List.length_cons, List.length_cons]
    omega
  | .str s, h => by
    have h1 : s.length ≤ 60000 := of_decide_eq_true h
    have h2 : s.cps.toList.length = s.length := Array.length_toList
    rw [enc, encS, dsz, List.length_cons, List.length_cons, List.length_cons, List.length_map, h2]
    · omega
    all_goals (intros; contradiction)
  | .int n, h => by
    show 3 ≤ 60003 * 1
    omega
  | .none, _ => Nat.zero_le _
  | .bool _, _ => Nat.zero_le _
  | .list _, _ => Nat.zero_le _
  | .dict _, _ => Nat.zero_le _
theorem encs_len : ∀ ds : List PyData, doks ds = true → (encs ds).length ≤ 60003 * dszs ds
  | [], _ => Nat.zero_le _
  | d :: ds, h => by
    rw [doks, Bool.and_eq_true] at h
    have h1 := enc_len d h.1
    have h2 := encs_len ds h.2
    rw [encs, dszs, List.length_append]
    omega
end
theorem occ_sign : ∀ c ∈ cs_SIGNS.cps.toList, (Builtin.Str.occurrences cs_SIGNS ⟨#[c]⟩ 0 cs_SIGNS.length 1).head? = some (cs_SIGNS.cps.toList.idxOf c) := by decide +kernel
theorem occ_sign2 {c : Nat} (h : c ∈ cs_SIGNS.cps.toList) : ∃ rest, Builtin.Str.occurrences cs_SIGNS ⟨#[c]⟩ 0 cs_SIGNS.length 1 = cs_SIGNS.cps.toList.idxOf c :: rest := by
  have e := occ_sign c h
  cases q : Builtin.Str.occurrences cs_SIGNS ⟨#[c]⟩ 0 cs_SIGNS.length 1 with
  | nil =>
    rw [q] at e
    cases e
  | cons x r =>
    rw [q] at e
    exact ⟨r, by rw [Option.some.inj e]⟩
def rSidx : V → List V → Hp → VK → Prop := fun x xs H Q => ∃ a b i rest, x = .str a ∧ xs = [.str b] ∧ Builtin.Str.occurrences a b 0 a.length 1 = i :: rest ∧ Q (.int (i : Nat)) H
structure Tex (P : Program) (K : PySem.W.Frag) (mg : Str → Option Value) (CR fR ccR CB fB ccB CN : Addr) : Prop where
  g_Refused : mg "Refused" = some (.ref CR)
  xRF : ExTxt P K mg CR fR ccR "Refused.__init__" sRF
  nRF : PySem.W.findIn K (.ref CR) "why" = some none
  g_BadBytes : mg "BadBytes" = some (.ref CB)
  xBB : ExTxt P K mg CB fB ccB "BadBytes.__init__" sBB
  nBA : PySem.W.findIn K (.ref CB) "at" = some none
  nBF : PySem.W.findIn K (.ref CB) "fault" = some none
  g_Nothing : mg "Nothing" = some (.ref CN)
  xN : PySem.W.excIn K CN [.type "ValueError", .type "Exception", .type "BaseException", .type "object"] "ValueError.__new__" = true
  kN : PySem.W.keepIn K (.ref CN) = true
  bN : PySem.W.subIn K (.ref CN) (.type "BaseException") = some true
  tN : PySem.W.typeIn K (.ref CN) = some (.type "type")
def RfE (CR : Addr) (H : Hp) (z : Str) (E : XK) : Prop := ∀ (H' : Hp) (e : Addr), Same H H' → H' e = some (.xd [(("why" : Str), .str z)]) → E (.ref CR) (some e) H'
def BbE (CB : Addr) (H : Hp) (n : Int) (z : Str) (E : XK) : Prop := ∀ (H' : Hp) (e : Addr), Same H H' → H' e = some (.xd [(("fault" : Str), .str z), (("at" : Str), .int n)]) → E (.ref CB) (some e) H'
def sp_packed (CR : Addr) : Sp := fun vs H Q E => ∃ v d, vs = [v] ∧ Rp H v d ∧ dok d = true ∧ dsz d ≤ 10000 ∧ (enc d).length ≤ 1000000 ∧
  ((isDat d && decide (ddep d ≤ 20)) = true → ∀ H' p, Same H H' → H' p = some (.tup ((enc d).map V.int)) → Q (.ref p) H') ∧ ((isDat d && decide (ddep d ≤ 20)) = false → RfE CR H "data" E)
def WPk (H0 : Hp) (v : V) (f l : Addr) (d : PyData) : Nat → L2.St → Hp → Prop := fun m σ H1 => ∃ a b fs vs ds, σ = [some v, some (.ref f), some (.ref l), a, b] ∧ Same H0 H1 ∧ H1 f = some (.lst (fs.map V.int)) ∧ H1 l = some (.lst vs.reverse) ∧ RpA H0 vs ds ∧
  isDats ds = true ∧ doks ds = true ∧ fs ++ encs ds = enc d ∧ m = dszs ds ∧ dszs ds ≤ 10000
section
variable {P : Program} {w : World} {K : PySem.W.Frag} {mg : Str → Option Value} {base : Heap} {CR fR ccR CB fB ccB CN : Addr}
abbrev s_packed : Stmt := top 25
theorem sc_packed : FnScope ["thing", "found", "line", "here", "sign"] ["thing"] (defScope s_packed) := ⟨rfl, rfl, rfl, by decide +kernel, rfl, by decide +kernel, by decide +kernel⟩
theorem ok_packed {f f_is_data f_is_string f_two : Addr} {fd fd1 fd2 fd3 : FuncData} (F : Fun K "packed" "packed" s_packed f fd) (T : Tx mg) (TE : Tex P K mg CR fR ccR CB fB ccB CN) (d_is_data : Ok1 P w K mg base CX0 4 "is_data" ["thing"] sp_is_data f_is_data fd1)
    (d_is_string : Ok1 P w K mg base CX0 1 "is_string" ["thing"] sp_is_string f_is_string fd2) (d_two : Ok1 P w K mg base CX0 1 "two" ["number"] sp_two f_two fd3) : FnOk P w K mg base (L2.CX P w) 5 f fd ["thing"] (sp_packed CR) := by
  refine F.okX sc_packed (fun vs H Q E h => ?_) (fun cdv A outer s H vs Q E hr h => ?_)
  · obtain ⟨v, d, rfl, _⟩ := h
    rfl
  · obtain ⟨v, d, rfl, hv, hok, hsz, hEz, qY, qN⟩ := h
    obtain ⟨t_NUMBER, c_NUMBER⟩ := T.c_NUMBER
    obtain ⟨t_SIGNS, c_SIGNS⟩ := T.c_SIGNS
    obtain ⟨t_STRING, c_STRING⟩ := T.c_STRING
    obtain ⟨t_TUPLE, c_TUPLE⟩ := T.c_TUPLE
    refine ⟨_, (pss_cons (ps_if (pt_not (pt_val (pe_call d_is_data.ok (hr.mono (by decide)) rfl d_is_data.g d_is_data.kp d_is_data.b .nil pass0 (pa_cons (pv 0) pa_nil)))) (pss_one (ps_raise rfl (takes_of rfl rfl rfl rfl) (pmk_rf TE.xRF TE.g_Refused TE.nRF hr (by decide) (pa_cons pe_str pa_nil)))) pss_nil)
      (pss_cons (ps_par (i := 1) (j := 2) (by rfl) sc_packed.nd rfl rfl (by decide) rfl rfl (pa_cons (pe_lst pa_nil) (pa_cons (pe_lst (pa_cons (pv 0) pa_nil)) pa_nil)) (by rfl))
      (pss_cons (ps_while (passes_of rfl) (pt_truth (pv 2) (by intro _; rfl)) (pss_cons (ps_set (i := 3) sc_packed.nd rfl (Or.inl rfl) (pe_bm0 PySem.F.plainAttrs_list PySem.F.slot_list_pop PySem.F.type_list_pop mt_pop (pv 2)))
      (pss_one (ps_if (pt_val (pe_callB call_isi (by rfl) T.n_isinstance (by decide +kernel) (pa_cons (pv 3) (pa_cons (pe_bltn (v := .ty "tuple") (by rfl) T.n_tuple (by decide +kernel) rfl) pa_nil)))) (pss_cons (ps_expr (pe_bm PySem.F.plainAttrs_list PySem.F.slot_list_extend PySem.F.type_list_extend mt_extend (pv 1) (pa_cons (pe_lst (pa_cons (pe_glob (v := .int 3) rfl c_TUPLE ⟨_, rfl⟩) (StX.pa_star (pe_call d_two.ok (hr.mono (by decide)) rfl d_two.g d_two.kp d_two.b .nil pass0 (pa_cons (pe_callB call_len (by rfl) T.n_len (by decide +kernel) (pa_cons (pv 3) pa_nil)) pa_nil)) pa_nil))) pa_nil)))
      (pss_one (ps_expr (pe_bm PySem.F.plainAttrs_list PySem.F.slot_list_extend PySem.F.type_list_extend mt_extendT (pv 2) (pa_cons (pe_revT (pv 3)) pa_nil))))) (pss_one (ps_if (pt_val (pe_call d_is_string.ok (hr.mono (by decide)) rfl d_is_string.g d_is_string.kp d_is_string.b .nil pass0 (pa_cons (pv 3) pa_nil))) (pss_one (ps_expr (pe_bm PySem.F.plainAttrs_list PySem.F.slot_list_extend PySem.F.type_list_extend mt_extend (pv 1) (pa_cons (pe_lst (pa_cons (pe_glob (v := .int 2) rfl c_STRING ⟨_, rfl⟩) (StX.pa_star (pe_call d_two.ok (hr.mono (by decide)) rfl d_two.g d_two.kp d_two.b .nil pass0 (pa_cons (pe_callB call_len (by rfl) T.n_len (by decide +kernel) (pa_cons (pv 3) pa_nil)) pa_nil)) (StX.pa_star (pe_lc (own := [("sign", 4)]) (g := gName 4) (tt := tYes) (te := (tBM K "str" rSidx (tC (.str cs_SIGNS)) (tCons (tVar 4) tNil))) rfl sc_packed.nd (pi_str (pv 3)) (blkOk_by (N := ["thing", "found", "line", "here", "sign"]) (sc := defScope s_packed) (by decide +kernel)) (fun _ _ _ _ _ => pg_name (i := 4) sc_packed.nd rfl (Or.inl rfl)) (fun _ _ _ _ _ => pts_nil) (fun _ _ _ _ _ => by exact (pe_bm PySem.F.plainAttrs_str PySem.F.slot_str_index PySem.F.type_str_index mt_sindex (pe_glob (v := .str cs_SIGNS) rfl c_SIGNS ⟨_, rfl⟩) (pa_cons (pv 4) pa_nil)))) pa_nil)))) pa_nil)))) (pss_one (ps_expr (pe_bm PySem.F.plainAttrs_list PySem.F.slot_list_extend PySem.F.type_list_extend mt_extend (pv 1) (pa_cons (pe_lst (pa_cons (pe_glob (v := .int 1) rfl c_NUMBER ⟨_, rfl⟩) (StX.pa_star (pe_call d_two.ok (hr.mono (by decide)) rfl d_two.g d_two.kp d_two.b .nil pass0 (pa_cons (pv 3) pa_nil)) pa_nil))) pa_nil))))))))))
      (pss_one (ps_ret (pe_callTy call_tuple_of (by rfl) T.n_tuple (by decide +kernel) (pa_cons (pv 1) pa_nil))))))), ?_⟩
    refine ⟨v, rfl, v, d, rfl, hv, hok, hsz, fun H0 s0 => ⟨_, rfl, ?_⟩⟩
    cases eB : (isDat d && decide (ddep d ≤ 20)) with
    | false => exact iteT ⟨_, rfl, fun e he => qN eB _ e (s0.trans (same_upd he)) upd_same⟩
    | true =>
      have eD : isDat d = true := (Bool.and_eq_true_iff.mp eB).1
      refine iteF ?_
      have hbig := sl_big
      have hEl : (enc d).length ≤ 16000000 := by omega
      refine ⟨Nat.zero_le _, fun f hf => ⟨_, rfl, (by show 1 ≤ sizeLine; omega), fun l hl => ⟨_, _, rfl, ?_⟩⟩⟩
      have nf : H f = none := s0.free hf
      have s1 : Same H0 (upd H0 f (.lst [])) := same_upd hf
      have nl : H l = none := s0.free (s1.free hl)
      have hfl : f ≠ l := fun e => by
        rw [e, upd_same] at hl
        cases hl
      refine ⟨WPk H v f l d, ⟨_, ⟨none, none, [], [v], [d], rfl, Same.own (Same.own s0 nf) nl, by rw [upd_ne hfl]; exact upd_same, upd_same, .one hv, by rw [isDats, eD]; rfl, by rw [doks, hok]; rfl, by rw [encs, encs, List.append_nil, List.nil_append], rfl, by show dsz d + 0 ≤ 10000; omega⟩⟩, ?_⟩
      rintro m σ1 H1 ⟨a, b, fs, vs, ds, rfl, sm, hF, hL, hA, hD, hK, hE, rfl, hm⟩
      refine ⟨_, rfl, !vs.reverse.isEmpty, .inl ⟨_, .inl (.inl hL), rfl⟩, ?_⟩
      cases hA with
      | nil =>
        refine iteF ?_
        have e : fs = enc d := by
          rw [← hE, encs, List.append_nil]
        refine ⟨_, rfl, f, _, rfl, .inl ⟨SqL.of hF, fun p hp => qY eB _ p (sm.trans (same_upd hp)) ?_⟩⟩
        rw [upd_same, e]
      | @cons x vs' d' ds' hx hA' =>
        have hne : (!(x :: vs').reverse.isEmpty) = true := by simp
        rw [hne]
        refine iteT ⟨fun σ' H' => ∃ m', m' < dszs (d' :: ds') ∧ WPk H v f l d m' σ' H', fun _ _ h => h, ?_⟩
        rw [isDats, Bool.and_eq_true] at hD
        rw [doks, Bool.and_eq_true] at hK
        rw [encs] at hE
        have hlen : fs.length + ((enc d').length + (encs ds').length) = (enc d).length := by
          rw [← hE, List.length_append, List.length_append]
        have hm2 : dsz d' + dszs ds' ≤ 10000 := hm
        have hpos := dsz_pos d'
        refine ⟨_, rfl, .inl ⟨rfl, _, SqL.of hL⟩, l, _, x, rfl, rfl, hL, last_rev _ _, ?_⟩
        have sm2 : Same H (upd H1 l (.lst (x :: vs').reverse.dropLast)) := Same.own sm nl
        have hL2 : (upd H1 l (.lst (x :: vs').reverse.dropLast)) l = some (.lst vs'.reverse) := by
          rw [upd_same, drop_rev]
        have hF2 : (upd H1 l (.lst (x :: vs').reverse.dropLast)) f = some (.lst (fs.map V.int)) := by
          rw [upd_ne hfl]
          exact hF
        generalize upd H1 l (.lst (x :: vs').reverse.dropLast) = H2 at sm2 hL2 hF2
        have hx2 := hx.same sm2
        refine ⟨x, rfl, x, .ty "tuple", _, _, _, rfl, .ty _, hx2.ty, kit_tup d', _, rfl, ?_⟩
        cases d' with
        | tuple cs =>
          cases hx with
          | @tup a2 xs _ ha0 hC =>
            have ha := sm2 _ _ ha0
            have hxl := hC.len
            have hcl := dszs_len cs
            have hdl := dszs_len ds'
            have hvl := hA'.len
            have hcs : 1 + dszs cs + dszs ds' ≤ 10000 := hm2
            have hn3 : (enc (.tuple cs)).length = (encs cs).length + 3 := by rw [enc]; rfl
            refine iteT ?_
            refine ⟨_, rfl, .inl ⟨rfl, _, SqL.of hF2⟩, _, rfl, _, _, rfl, .inr ⟨_, .inl (.inl ha), rfl⟩, _, rfl, fun p hp => ?_⟩
            have s3 : Same H2 (upd H2 p (.lst [.int ((xs.length : Int) / 256), .int ((xs.length : Int) % 256)])) := same_upd hp
            refine ⟨p, _, rfl, .inr (SqL.of upd_same), (by show 3 ≤ sizeLine; omega), fun q hq => ?_⟩
            refine ⟨f, q, _, _, rfl, rfl, by rw [upd_ne (ne_of_none (s3 _ _ hF2) hq)]; exact s3 _ _ hF2, upd_same, by rw [List.length_map]; show fs.length + 3 ≤ sizeLine; omega, ?_⟩
            have s4 := s3.trans (same_upd (o := .lst [.int 3, .int ((xs.length : Int) / 256), .int ((xs.length : Int) % 256)]) hq)
            have sm4 : Same H (upd (upd (upd H2 p (.lst [.int ((xs.length : Int) / 256), .int ((xs.length : Int) % 256)])) q (.lst [.int 3, .int ((xs.length : Int) / 256), .int ((xs.length : Int) % 256)])) f (.lst (fs.map V.int ++ [.int 3, .int ((xs.length : Int) / 256), .int ((xs.length : Int) % 256)]))) := Same.own (sm2.trans s4) nf
            have hL4 := s4 _ _ hL2
            have e4 : (fs.map V.int ++ [.int 3, .int ((xs.length : Int) / 256), .int ((xs.length : Int) % 256)]) = (fs ++ [3, (cs.length : Int) / 256, (cs.length : Int) % 256]).map V.int := by
              rw [List.map_append, hxl]
              rfl
            refine ⟨_, rfl, .inl ⟨rfl, _, SqL.of (xs := vs'.reverse) (by rw [upd_ne (Ne.symm hfl)]; exact hL4)⟩, _, rfl, a2, xs, rfl, .inl (.inl (sm4 _ _ ha0)), fun r hr2 => ?_⟩
            have s5 := same_upd (o := .tup xs.reverse) hr2
            refine ⟨l, r, vs'.reverse, xs.reverse, rfl, rfl, s5 _ _ (by rw [upd_ne (Ne.symm hfl)]; exact hL4), .inl (.inl upd_same), by rw [List.length_reverse, List.length_reverse]; omega, ?_⟩
            refine ⟨dszs (cs ++ ds'), ?_, _, _, fs ++ [3, (cs.length : Int) / 256, (cs.length : Int) % 256], xs ++ vs', cs ++ ds', rfl, Same.own (sm4.trans s5) nl, ?_, ?_, hC.app hA', ?_, ?_, ?_, rfl, ?_⟩
            · rw [dszs_app]
              show dszs cs + dszs ds' < 1 + dszs cs + dszs ds'
              omega
            · rw [upd_ne hfl]
              refine s5 _ _ (Eq.trans upd_same ?_)
              exact congrArg (fun l => some (HO.lst l)) e4
            · rw [upd_same, List.reverse_append]
            · rw [isDats_app, hD.2]
              have z := hD.1
              rw [isDat] at z
              rw [z]
              rfl
            · rw [doks_app, hK.2]
              have z := hK.1
              rw [dok] at z
              rw [z]
              rfl
            · rw [← hE, encs_app, List.append_assoc, enc]
              rfl
            · rw [dszs_app]
              omega
        | str z =>
          cases hx with
          | str _ =>
          have hz : z.length ≤ 60000 := of_decide_eq_true hK.1
          have hz2 : z.cps.toList.length = z.length := Array.length_toList
          have hn3 : (enc (.str z)).length = z.length + 3 := by
            show (encS z).length = z.length + 3
            rw [encS, List.length_cons, List.length_cons, List.length_cons, List.length_map, hz2]
          have hsg : ∀ c ∈ z.cps.toList, c ∈ cs_SIGNS.cps.toList := by
            have z1 := hD.1
            rw [isDat_leaf rfl] at z1
            have z2 : (decide (z.length ≤ 65535) && z.cps.toList.all fun c => decide (c ∈ cs_SIGNS.cps.toList)) = true := z1
            rw [Bool.and_eq_true, List.all_eq_true] at z2
            exact fun c hc => of_decide_eq_true (z2.2 c hc)
          refine iteF ⟨_, rfl, _, _, rfl, hx2, _, rfl, iteT ?_⟩
          refine ⟨_, rfl, .inl ⟨rfl, _, SqL.of hF2⟩, _, rfl, .str z, z.length, rfl, ⟨by omega, rfl⟩, _, rfl, fun p hp => ?_⟩
          have s3 : Same H2 (upd H2 p (.lst [.int ((z.length : Int) / 256), .int ((z.length : Int) % 256)])) := same_upd hp
          refine ⟨p, _, rfl, .inr (SqL.of upd_same), _, rfl, z, rfl, fun D hD2 => lc_it walk_str (fun i H3 => Fill (upd H2 p (.lst [.int ((z.length : Int) / 256), .int ((z.length : Int) % 256)])) D ((z.cps.toList.take i).map fun c => V.int (ixS c)) H3) (.start hD2) (fun _ _ _ _ => True.intro) ?_ ?_⟩
          · rintro i y H3 H3' hi fl ⟨rfl, c, hc, rfl⟩
            have hc2 : z.cps.toList[i]? = some c := by
              rw [Array.getElem?_toList]
              exact hc
            obtain ⟨rest, ho⟩ := occ_sign2 (hsg c (List.mem_of_getElem? hc2))
            refine ⟨rfl, rfl, _, rfl, cs_SIGNS, _, _, rest, rfl, rfl, ho, _, fl.at_, ?_, fl.add ?_⟩
            · rw [List.length_map]
              exact take_len_le (by omega)
            · rw [take_add hc2, List.map_append]
              rfl
          · intro H3 fl
            rw [List.take_of_length_le (by rw [Array.length_toList]; exact Nat.le_refl _)] at fl
            have e5 : (V.int 2 :: ([.int ((z.length : Int) / 256), .int ((z.length : Int) % 256)] ++ ((z.cps.toList.map fun c => V.int (ixS c)) ++ []))) = (encS z).map V.int := by
              rw [List.append_nil, encS, List.map_cons, List.map_cons, List.map_cons, List.map_map]
              rfl
            have hl5 : ((encS z).map V.int).length = z.length + 3 := by rw [List.length_map]; exact hn3
            refine ⟨D, _, rfl, .inr (SqL.of fl.at_), ?_, fun q hq => ?_⟩
            · show (V.int 2 :: ([.int ((z.length : Int) / 256), .int ((z.length : Int) % 256)] ++ ((z.cps.toList.map fun c => V.int (ixS c)) ++ []))).length ≤ sizeLine
              rw [e5, hl5]
              omega
            · have s6 := (s3.trans fl.same).trans (same_upd (o := .lst (V.int 2 :: ([.int ((z.length : Int) / 256), .int ((z.length : Int) % 256)] ++ ((z.cps.toList.map fun c => V.int (ixS c)) ++ [])))) hq)
              refine ⟨f, q, _, _, rfl, rfl, s6 _ _ hF2, upd_same, by rw [e5, List.length_map, hl5]; omega, ?_⟩
              refine ⟨dszs ds', ?_, _, _, fs ++ encS z, vs', ds', rfl, Same.own (sm2.trans s6) nf, ?_, ?_, hA', hD.2, hK.2, ?_, rfl, by omega⟩
              · show dszs ds' < 1 + dszs ds'
                omega
              · refine Eq.trans upd_same ?_
                rw [List.map_append, ← e5]
              · rw [upd_ne (Ne.symm hfl)]
                exact s6 _ _ hL2
              · rw [List.append_assoc]
                exact hE
        | int n =>
          cases hx with
          | int _ =>
          refine iteF ⟨_, rfl, _, _, rfl, hx2, _, rfl, iteF ?_⟩
          have hn3 : (enc (.int n)).length = 3 := rfl
          refine ⟨_, rfl, .inl ⟨rfl, _, SqL.of hF2⟩, _, rfl, n, rfl, fun p hp => ?_⟩
          have s3 : Same H2 (upd H2 p (.lst [.int (n / 256), .int (n % 256)])) := same_upd hp
          refine ⟨p, _, rfl, .inr (SqL.of upd_same), (by show 3 ≤ sizeLine; omega), fun q hq => ?_⟩
          have s6 := s3.trans (same_upd (o := .lst [.int 1, .int (n / 256), .int (n % 256)]) hq)
          refine ⟨f, q, _, _, rfl, rfl, s6 _ _ hF2, upd_same, by rw [List.length_map]; show fs.length + 3 ≤ sizeLine; omega, ?_⟩
          refine ⟨dszs ds', ?_, _, _, fs ++ [1, n / 256, n % 256], vs', ds', rfl, Same.own (sm2.trans s6) nf, ?_, ?_, hA', hD.2, hK.2, ?_, rfl, by omega⟩
          · show dszs ds' < 1 + dszs ds'
            omega
          · rw [upd_same, List.map_append]
            rfl
          · rw [upd_ne (Ne.symm hfl)]
            exact s6 _ _ hL2
          · rw [List.append_assoc]
            exact hE
        | _ => cases hD.1
end
end Net
namespace Net
open PySem PySem.Spec PyProof.Rows L2 NetR
inductive Out (α : Type) where
  | ok (a : α)
  | bad (n : Nat) (z : Str)
def gB (bs : List Int) (n : Nat) : Int := bs.getD n 0
def isWord (w : Int) : Bool := decide (w = 1) || (decide (w = 2) || decide (w = 3))
def rWord (bs : List Int) (n dep : Nat) : Out Int :=
  if bs.length < n + 1 then .bad bs.length "end" else if isWord (gB bs n) = false then .bad n "word" else if gB bs n = 3 ∧ dep = 20 then .bad n "deep" else .ok (gB bs n)
def rNum (bs : List Int) (n : Nat) : Out Int := if bs.length < n + 2 then .bad bs.length "end" else .ok (gB bs n * 256 + gB bs (n + 1))
def rStr (bs : List Int) (n : Nat) : Nat → Out (List Int)
  | 0 => .ok []
  | k + 1 => if bs.length < n + 1 then .bad bs.length "end" else if 55 ≤ gB bs n then .bad n "sign" else match rStr bs (n + 1) k with
    | .ok l => .ok (gB bs n :: l)
    | .bad m z => .bad m z
def sgC (b : Int) : Nat := cs_SIGNS.cps.toList.getD b.toNat 0
def strV (l : List Int) : Str := ⟨(l.map sgC).toArray⟩
def closeD : PyData → List (Nat × List PyData) → Option PyData × List (Nat × List PyData)
  | d, [] => (some d, [])
  | d, (many, ds) :: O => if ds.length + 1 < many then (none, (many, ds ++ [d]) :: O) else closeD (.tuple (ds ++ [d])) O
mutual
def pureD : PyData → Bool
  | .list _ => false
  | .dict _ => false
  | .tuple ds => pureDs ds
  | _ => true
def pureDs : List PyData → Bool
  | [] => true
  | d :: ds => pureD d && pureDs ds
end
mutual
theorem Rp.tk {H H' : Hp} (s : TK H H') : ∀ (d : PyData) (v : V), pureD d = true → Rp H v d → Rp H' v d
  | .none, _, _, h => by cases h; exact .non
  | .bool b, _, _, h => by cases h; exact .bl b
  | .int i, _, _, h => by cases h; exact .int i
  | .str x, _, _, h => by cases h; exact .str x
  | .list ds, _, p, h => by cases p
  | .tuple ds, _, p, h => by
    cases h with
    | tup e a => exact .tup (s _ _ e) (RpA.tk s ds _ p a)
  | .dict kvs, _, p, h => by cases p
theorem RpA.tk {H H' : Hp} (s : TK H H') : ∀ (ds : List PyData) (vs : List V), pureDs ds = true → RpA H vs ds → RpA H' vs ds
  | [], _, _, h => by cases h; exact .nil
  | d :: ds, _, p, h => by
    rw [pureDs, Bool.and_eq_true] at p
    cases h with
    | cons a b => exact .cons (Rp.tk s d _ p.1 a) (RpA.tk s ds _ p.2 b)
end
theorem pureDs_app : ∀ ds es : List PyData, pureDs (ds ++ es) = (pureDs ds && pureDs es)
  | [], es => by rw [List.nil_append, pureDs, Bool.true_and]
  | d :: ds, es => by rw [List.cons_append, pureDs, pureDs, pureDs_app ds es, Bool.and_assoc]
def rdF (t : Addr) (n : Nat) (l : Addr) : List (Str × V) := [("its_bytes", .ref t), ("its_at", .int (n : Int)), ("its_open", .ref l)]
theorem rdF_b (t : Addr) (n : Nat) (l : Addr) : (rdF t n l).lookup ("its_bytes" : Str) = some (.ref t) := rfl
theorem rdF_a (t : Addr) (n : Nat) (l : Addr) : (rdF t n l).lookup ("its_at" : Str) = some (.int (n : Int)) := rfl
theorem rdF_o (t : Addr) (n : Nat) (l : Addr) : (rdF t n l).lookup ("its_open" : Str) = some (.ref l) := rfl
theorem rdF_no (t : Addr) (n : Nat) (l : Addr) {m : Str} (h1 : ¬ m = "its_bytes") (h2 : ¬ m = "its_at") (h3 : ¬ m = "its_open") : (rdF t n l).lookup m = none := by
  have e1 : (m == ("its_bytes" : Str)) = false := by simpa using h1
  have e2 : (m == ("its_at" : Str)) = false := by simpa using h2
  have e3 : (m == ("its_open" : Str)) = false := by simpa using h3
  unfold rdF
  simp only [List.lookup, e1, e2, e3]
theorem rdF_put (t : Addr) (n : Nat) (l : Addr) (m : Nat) : putF "its_at" (.int (m : Int)) (rdF t n l) = rdF t m l := rfl
inductive Opn (H0 H : Hp) (l : Addr) : List V → List (Nat × List PyData) → List Addr → Prop
  | nil : Opn H0 H l [] [] []
  | cons {e m : Addr} {many : Nat} {us vs : List V} {ds : List PyData} {O : List (Nat × List PyData)} {ms : List Addr} : H e = some (.tup [.int (many : Int), .ref m]) → H m = some (.lst us) → RpA H us ds → pureDs ds = true → H0 m = none → m ≠ l → m ∉ ms →
      ds.length < many → many ≤ 65535 → Opn H0 H l vs O ms → Opn H0 H l (.ref e :: vs) ((many, ds) :: O) (m :: ms)
theorem Opn.keep {H0 H H' : Hp} {l : Addr} {vs : List V} {O : List (Nat × List PyData)} {ms : List Addr} (h : Opn H0 H l vs O ms) (s : TK H H') (k : ∀ m ∈ ms, ∀ us, H m = some (.lst us) → H' m = some (.lst us)) : Opn H0 H' l vs O ms := by
  induction h with
  | nil => exact .nil
  | cons a b c d e f g i j o ih => exact .cons (s _ _ a) (k _ List.mem_cons_self _ b) (RpA.tk s _ _ d c) d e f g i j (ih fun m hm => k m (List.mem_cons_of_mem _ hm))
theorem Opn.len {H0 H : Hp} {l : Addr} {vs : List V} {O : List (Nat × List PyData)} {ms : List Addr} (h : Opn H0 H l vs O ms) : vs.length = O.length := by
  induction h with
  | nil => rfl
  | cons a b c d e f g i j o ih => rw [List.length_cons, List.length_cons, ih]
theorem Opn.lst {H0 H : Hp} {l : Addr} {vs : List V} {O : List (Nat × List PyData)} {ms : List Addr} (h : Opn H0 H l vs O ms) : ∀ m ∈ ms, ∃ us, H m = some (.lst us) := by
  induction h with
  | nil => exact fun m hm => nomatch hm
  | cons a b c d e f g i j o ih =>
    intro m hm
    rcases List.mem_cons.mp hm with rfl | hm
    · exact ⟨_, b⟩
    · exact ih m hm
theorem Opn.ne {H0 H : Hp} {l : Addr} {vs : List V} {O : List (Nat × List PyData)} {ms : List Addr} (h : Opn H0 H l vs O ms) : ∀ m ∈ ms, m ≠ l := by
  induction h with
  | nil => exact fun m hm => nomatch hm
  | cons a b c d e f g i j o ih =>
    intro m hm
    rcases List.mem_cons.mp hm with rfl | hm
    · exact f
    · exact ih m hm
structure Rst where
  r : Addr
  dx : Addr
  t : Addr
  l : Addr
  bs : List Int
  n : Nat
  vs : List V
  O : List (Nat × List PyData)
  ms : List Addr
structure RdI (C : Addr) (H0 H : Hp) (R : Rst) : Prop where
  same : Same H0 H
  ins : H R.r = some (.ins C R.dx (rdF R.t R.n R.l))
  byt : H0 R.t = some (.tup (R.bs.map V.int))
  opn : H R.l = some (.lst R.vs.reverse)
  nr : H0 R.r = none
  nl : H0 R.l = none
  stk : Opn H0 H R.l R.vs R.O R.ms
  deep : R.O.length ≤ 20
  size : R.bs.length ≤ 100000
  bytes : ∀ b ∈ R.bs, 0 ≤ b ∧ b ≤ 255
theorem RdI.more {C : Addr} {H0 H H' : Hp} {R : Rst} (h : RdI C H0 H R) (s : Same H H') : RdI C H0 H' R :=
  ⟨h.same.trans s, s _ _ h.ins, h.byt, s _ _ h.opn, h.nr, h.nl, h.stk.keep (.of s) fun m _ us e => s _ _ e, h.deep, h.size, h.bytes⟩
theorem RdI.at_ {C : Addr} {H0 H : Hp} {R : Rst} (h : RdI C H0 H R) (m : Nat) : RdI C H0 (upd H R.r (.ins C R.dx (rdF R.t m R.l))) { R with n := m } := by
  have nrl : R.l ≠ R.r := ne_of h.opn h.ins (by intro z; cases z)
  have kt : TK H (upd H R.r (.ins C R.dx (rdF R.t m R.l))) := fun b xs e => by
    rw [upd_ne (ne_of e h.ins (by intro z; cases z))]
    exact e
  refine ⟨Same.own h.same h.nr, upd_same, h.byt, by rw [upd_ne nrl]; exact h.opn, h.nr, h.nl, h.stk.keep kt fun m hm us e => ?_, h.deep, h.size, h.bytes⟩
  rw [upd_ne (ne_of e h.ins (by intro z; cases z))]
  exact e
theorem RdI.get {C : Addr} {H0 H : Hp} {R : Rst} (h : RdI C H0 H R) {j : Nat} (hj : j < R.bs.length) : (R.bs.map V.int)[j]? = some (.int (gB R.bs j)) := by
  rw [List.getElem?_map, List.getElem?_eq_getElem hj]
  unfold gB
  rw [List.getD_eq_getElem?_getD, List.getElem?_eq_getElem hj]
  rfl
theorem gB_byte {bs : List Int} (h : ∀ b ∈ bs, 0 ≤ b ∧ b ≤ 255) (j : Nat) : 0 ≤ gB bs j ∧ gB bs j ≤ 255 := by
  unfold gB
  rw [List.getD_eq_getElem?_getD]
  cases e : bs[j]? with
  | none => exact ⟨Int.le_refl _, by decide⟩
  | some b => exact h b (List.mem_of_getElem? e)
structure OkM (P : Program) (w : World) (K : PySem.W.Frag) (mg : Str → Option Value) (base : Heap) (CX : CXT) (k : Nat) (C : Addr) (x : Str) (ps : List Str) (sp : Sp) (f : Addr) (fd : FuncData) : Prop where
  m : Meth K C x f
  b : Binds K fd ps []
  ok : FnOk P w K mg base CX k f fd ps sp
structure TRd (K : PySem.W.Frag) (mg : Str → Option Value) (C fI : Addr) : Prop where
  cl : Cls K C
  nB : NoAttr K C "its_bytes"
  nA : NoAttr K C "its_at"
  nO : NoAttr K C "its_open"
  g : mg "Reader" = some (.ref C)
  mkr : Mk K C fI
def sp_need (C CB : Addr) : Sp := fun vs H Q E => ∃ H0 R many, vs = [.ref R.r, .int (many : Nat)] ∧ RdI C H0 H R ∧ (R.n + many ≤ R.bs.length → Q .non H) ∧ (R.bs.length < R.n + many → BbE CB H0 R.bs.length "end" E)
def sp_number (C CB : Addr) : Sp := fun vs H Q E => ∃ H0 R, vs = [.ref R.r] ∧ RdI C H0 H R ∧ match rNum R.bs R.n with
  | .ok k => ∀ H', RdI C H0 H' { R with n := R.n + 2 } → Same H0 H' → Q (.int k) H'
  | .bad a z => BbE CB H0 a z E
def sp_word (C CB : Addr) : Sp := fun vs H Q E => ∃ H0 R, vs = [.ref R.r] ∧ RdI C H0 H R ∧ match rWord R.bs R.n R.O.length with
  | .ok k => ∀ H', RdI C H0 H' { R with n := R.n + 1 } → Q (.int k) H'
  | .bad a z => BbE CB H0 a z E
def sp_string (C CB : Addr) : Sp := fun vs H Q E => ∃ H0 R many, vs = [.ref R.r, .int (many : Nat)] ∧ many ≤ 65535 ∧ RdI C H0 H R ∧ match rStr R.bs R.n many with
  | .ok k => ∀ H', RdI C H0 H' { R with n := R.n + many } → Q (.str (strV k)) H'
  | .bad a z => BbE CB H0 a z E
section
variable {P : Program} {w : World} {K : PySem.W.Frag} {mg : Str → Option Value} {base : Heap} {CR fR ccR CB fB ccB CN C fI : Addr}
abbrev s_Reader_need : Stmt := inClass (top 26) 1
theorem sc_Reader_need : FnScope ["self", "many"] ["self", "many"] (defScope s_Reader_need) := ⟨rfl, rfl, rfl, by decide +kernel, rfl, by decide +kernel, by decide +kernel⟩
theorem ok_need {f : Addr} {fd : FuncData} (F : Fun K "need" "Reader.need" s_Reader_need f fd) (T : Tx mg) (TE : Tex P K mg CR fR ccR CB fB ccB CN) (TReader : TRd K mg C fI) : FnOk P w K mg base (L2.CX P w) 3 f fd ["self", "many"] (sp_need C CB) := by
  refine F.okX sc_Reader_need (fun vs H Q E h => ?_) (fun cdv A outer s H vs Q E hr h => ?_)
  · obtain ⟨H0, R, many, rfl, _⟩ := h
    rfl
  · obtain ⟨H0, R, many, rfl, hI, qY, qN⟩ := h
    refine ⟨_, (pss_one (ps_if (pt_cmpR op_gt (pe_op op_add (pe_fld (pv 0) rfl) (pv 1)) (pe_callB call_len (by rfl) T.n_len (by decide +kernel) (pa_cons (pe_fld (pv 0) rfl) pa_nil)) (nomark _)) (pss_one (ps_raise rfl (takes_of rfl rfl rfl rfl) (pmk_bb TE.xBB TE.g_BadBytes TE.nBA TE.nBF hr (by decide) (pa_cons (pe_callB call_len (by rfl) T.n_len (by decide +kernel) (pa_cons (pe_fld (pv 0) rfl) pa_nil)) (pa_cons pe_str pa_nil))))) pss_nil)), ?_⟩
    refine ⟨_, rfl, R.r, C, R.dx, _, _, rfl, hI.ins, TReader.cl, TReader.nA, rdF_a _ _ _, _, rfl, _, _, rfl, rfl, ?_⟩
    refine ⟨_, rfl, R.r, C, R.dx, _, _, rfl, hI.ins, TReader.cl, TReader.nB, rdF_b _ _ _, _, _, rfl, .inr ⟨_, .inl (.inl (hI.same _ _ hI.byt)), rfl⟩, _, _, rfl, rfl, _, rfl, ?_⟩
    rw [List.length_map]
    by_cases c : R.bs.length < R.n + many
    · rw [show decide ((R.bs.length : Int) < (R.n : Int) + (many : Int)) = true from decide_eq_true (by omega)]
      refine iteT ⟨_, rfl, R.r, C, R.dx, _, _, rfl, hI.ins, TReader.cl, TReader.nB, rdF_b _ _ _, _, _, rfl, .inr ⟨_, .inl (.inl (hI.same _ _ hI.byt)), rfl⟩, _, _, rfl, fun e he => ?_⟩
      rw [List.length_map]
      exact qN c _ e (hI.same.trans (same_upd he)) upd_same
    · rw [show decide ((R.bs.length : Int) < (R.n : Int) + (many : Int)) = false from decide_eq_false (by omega)]
      exact iteF (qY (by omega))
abbrev s_Reader_number : Stmt := inClass (top 26) 2
theorem sc_Reader_number : FnScope ["self"] ["self"] (defScope s_Reader_number) := ⟨rfl, rfl, rfl, by decide +kernel, rfl, by decide +kernel, by decide +kernel⟩
theorem ok_number {f f_need : Addr} {fd fd1 : FuncData} (F : Fun K "number" "Reader.number" s_Reader_number f fd) (T : Tx mg) (TReader : TRd K mg C fI)
    (d_Reader_need : OkM P w K mg base (L2.CX P w) 3 C "need" ["self", "many"] (sp_need C CB) f_need fd1) : FnOk P w K mg base (L2.CX P w) 4 f fd ["self"] (sp_number C CB) := by
  refine F.okX sc_Reader_number (fun vs H Q E h => ?_) (fun cdv A outer s H vs Q E hr h => ?_)
  · obtain ⟨H0, R, rfl, _⟩ := h
    rfl
  · obtain ⟨H0, R, rfl, hI, q⟩ := h
    obtain ⟨t_BASE, c_BASE⟩ := T.c_BASE
    refine ⟨_, (pss_cons (ps_expr (pe_meth (pv 0) TReader.cl d_Reader_need.m d_Reader_need.ok (hr.mono (by decide)) d_Reader_need.b .nil (passes_call (takes_of rfl rfl rfl rfl) (fun _ _ _ _ h => h)) (pa_cons pe_int pa_nil)))
      (pss_cons (ps_fldaug (pv 0) pe_int in_add)
      (pss_one (ps_ret (pe_op op_add (pe_op op_mul (pe_ix ix_tup (pe_fld (pv 0) rfl) (pe_op op_sub (pe_fld (pv 0) rfl) pe_int) (fun _ _ => rfl)) (pe_glob (v := .int 256) rfl c_BASE ⟨_, rfl⟩)) (pe_ix ix_tup (pe_fld (pv 0) rfl) (pe_op op_sub (pe_fld (pv 0) rfl) pe_int) (fun _ _ => rfl))))))), ?_⟩
    refine ⟨_, rfl, R.r, R.dx, _, rfl, hI.ins, rdF_no _ _ _ (by decide +kernel) (by decide +kernel) (by decide +kernel), H0, R, 2, rfl, hI, fun c => ?_, fun c => ?_⟩
    · have hn : rNum R.bs R.n = .ok (gB R.bs R.n * 256 + gB R.bs (R.n + 1)) := if_neg (by omega)
      rw [hn] at q
      refine ⟨_, rfl, R.r, C, R.dx, _, _, rfl, hI.ins, TReader.cl, TReader.nA, rdF_a _ _ _, _, _, rfl, rfl, _, _, hI.ins, (by show 3 < 1000; decide), ?_⟩
      have hI2 := hI.at_ (R.n + 2)
      have e2 : putF "its_at" (V.int ((R.n : Int) + 2)) (rdF R.t R.n R.l) = rdF R.t (R.n + 2) R.l := rdF_put R.t R.n R.l (R.n + 2)
      rw [e2]
      generalize (upd H R.r (.ins C R.dx (rdF R.t (R.n + 2) R.l))) = H2 at hI2
      have h0 := gB_byte hI.bytes R.n
      have h1 := gB_byte hI.bytes (R.n + 1)
      refine ⟨_, rfl, R.r, C, R.dx, _, _, rfl, hI2.ins, TReader.cl, TReader.nB, rdF_b _ _ _, _, rfl, R.r, C, R.dx, _, _, rfl, hI2.ins, TReader.cl, TReader.nA, rdF_a _ _ _, _, _, rfl, rfl, R.t, _, _, _, rfl, rfl, .inl (.inl (hI2.same _ _ hI.byt)), at_of (j := R.n) (by show ((R.n + 2 : Nat) : Int) - 2 = (R.n : Int); omega) (hI.get (by omega)), ?_⟩
      refine ⟨_, _, rfl, rfl, .inl ⟨by omega, by omega⟩, ?_⟩
      refine ⟨_, rfl, R.r, C, R.dx, _, _, rfl, hI2.ins, TReader.cl, TReader.nB, rdF_b _ _ _, _, rfl, R.r, C, R.dx, _, _, rfl, hI2.ins, TReader.cl, TReader.nA, rdF_a _ _ _, _, _, rfl, rfl, R.t, _, _, _, rfl, rfl, .inl (.inl (hI2.same _ _ hI.byt)), at_of (j := R.n + 1) (by show ((R.n + 2 : Nat) : Int) - 1 = ((R.n + 1 : Nat) : Int); omega) (hI.get (by omega)), ?_⟩
      exact ⟨_, _, rfl, rfl, q _ hI2 hI2.same⟩
    · have hn : rNum R.bs R.n = .bad R.bs.length "end" := if_pos (by omega)
      rw [hn] at q
      exact q
end
end Net
namespace Net
open PySem PySem.Spec PyProof.Rows L2 NetR
theorem isWord_in (w : Int) : inV (V.int w) [.int 1, .int 2, .int 3] = isWord w := by
  have e : ∀ a : Int, eqV (.int a) (.int w) = decide (w = a) := fun a => by
    show (a == w) = decide (w = a)
    by_cases h : w = a
    · subst h
      simp
    · have h2 : ¬ a = w := fun q => h q.symm
      simp [h, h2]
  show (eqV (.int 1) (.int w) || (eqV (.int 2) (.int w) || (eqV (.int 3) (.int w) || false))) = isWord w
  rw [e, e, e, Bool.or_false]
  rfl
def preO (ls : List Int) : Out (List Int) → Out (List Int)
  | .ok l => .ok (ls ++ l)
  | .bad n z => .bad n z
theorem rStr_end {bs : List Int} {n k : Nat} (h : bs.length < n + 1) : rStr bs n (k + 1) = .bad bs.length "end" := if_pos h
theorem rStr_sign {bs : List Int} {n k : Nat} (h : ¬ bs.length < n + 1) (h2 : 55 ≤ gB bs n) : rStr bs n (k + 1) = .bad n "sign" := (if_neg h).trans (if_pos h2)
theorem rStr_more {bs : List Int} {n k : Nat} (h : ¬ bs.length < n + 1) (h2 : ¬ 55 ≤ gB bs n) : rStr bs n (k + 1) = preO [gB bs n] (rStr bs (n + 1) k) := by
  refine ((if_neg h).trans (if_neg h2)).trans ?_
  cases rStr bs (n + 1) k <;> rfl
theorem preO_preO (a b : List Int) (o : Out (List Int)) : preO a (preO b o) = preO (a ++ b) o := by
  cases o with
  | ok l => show Out.ok (a ++ (b ++ l)) = Out.ok (a ++ b ++ l); rw [List.append_assoc]
  | bad n z => rfl
def sg1 (b : Int) : Str := ⟨#[sgC b]⟩
theorem sgn_len : cs_SIGNS.length = 55 := by decide +kernel
theorem sgn_list : cs_SIGNS.cps.toList.length = 55 := by decide +kernel
theorem joinL_one : ∀ l : List Nat, TL.joinL [] (l.map fun c => [c]) = l
  | [] => rfl
  | [c] => rfl
  | c :: d :: l => by
    show [c] ++ ([] ++ TL.joinL [] ((d :: l).map fun c => [c])) = c :: d :: l
    rw [joinL_one (d :: l)]
    rfl
theorem at_nn {α : Type} {xs : List α} {z : Int} {v : α} (h : 0 ≤ z) (e : xs[z.toNat]? = some v) : atI xs z = some v := by
  have q := atI_nat e
  rw [Int.toNat_of_nonneg h] at q
  exact q
theorem join_sg (ls : List Int) : Txt.join "" (ls.map sg1) = strV ls := by
  have e1 : ls.map sg1 = (ls.map fun b => [sgC b]).map SX.S := by
    rw [List.map_map]
    rfl
  have e2 : ls.map (fun b => [sgC b]) = (ls.map sgC).map fun c => [c] := by
    rw [List.map_map]
    rfl
  have e3 := SX.join_S [] (ls.map fun b => [sgC b])
  rw [← e1, e2, joinL_one] at e3
  exact e3
theorem sum_sg : ∀ ls : List Int, ((ls.map sg1).map (·.length)).sum = ls.length
  | [] => rfl
  | b :: ls => by
    rw [List.map_cons, List.map_cons, List.sum_cons, sum_sg ls, List.length_cons]
    show 1 + ls.length = ls.length + 1
    omega
theorem RdI.own {C : Addr} {H0 H : Hp} {R : Rst} {f : Addr} {l l' : List V} (h : RdI C H0 H R) (nf : H0 f = none) (hF : H f = some (.lst l)) (hl : f ≠ R.l) (hm : f ∉ R.ms) : RdI C H0 (upd H f (.lst l')) R := by
  refine ⟨Same.own h.same nf, ?_, h.byt, by rw [upd_ne (Ne.symm hl)]; exact h.opn, h.nr, h.nl, h.stk.keep (.lst hF) fun m hm2 us e => ?_, h.deep, h.size, h.bytes⟩
  · rw [upd_ne (ne_of h.ins hF (by intro z; cases z))]
    exact h.ins
  · rw [upd_ne (fun z => hm (by rw [← z]; exact hm2))]
    exact e
theorem RdI.apart {C : Addr} {H0 H : Hp} {R : Rst} {f : Addr} (h : RdI C H0 H R) (hf : H f = none) : f ≠ R.l ∧ f ∉ R.ms := by
  refine ⟨fun e => ?_, fun hm => ?_⟩
  · have z := h.opn
    rw [← e, hf] at z
    cases z
  · obtain ⟨us, e⟩ := h.stk.lst f hm
    rw [hf] at e
    cases e
section
variable {P : Program} {w : World} {K : PySem.W.Frag} {mg : Str → Option Value} {base : Heap} {CR fR ccR CB fB ccB CN C fI : Addr}
abbrev s_Reader_word : Stmt := inClass (top 26) 4
theorem sc_Reader_word : FnScope ["self", "word"] ["self"] (defScope s_Reader_word) := ⟨rfl, rfl, rfl, by decide +kernel, rfl, by decide +kernel, by decide +kernel⟩
theorem ok_word {f f_need : Addr} {fd fd1 : FuncData} (F : Fun K "word" "Reader.word" s_Reader_word f fd) (T : Tx mg) (TE : Tex P K mg CR fR ccR CB fB ccB CN) (TReader : TRd K mg C fI)
    (d_Reader_need : OkM P w K mg base (L2.CX P w) 3 C "need" ["self", "many"] (sp_need C CB) f_need fd1) : FnOk P w K mg base (L2.CX P w) 4 f fd ["self"] (sp_word C CB) := by
  refine F.okX sc_Reader_word (fun vs H Q E h => ?_) (fun cdv A outer s H vs Q E hr h => ?_)
  · obtain ⟨H0, R, rfl, _⟩ := h
    rfl
  · obtain ⟨H0, R, rfl, hI, q⟩ := h
    obtain ⟨t_MOST_DEEP, c_MOST_DEEP⟩ := T.c_MOST_DEEP
    obtain ⟨t_NUMBER, c_NUMBER⟩ := T.c_NUMBER
    obtain ⟨t_STRING, c_STRING⟩ := T.c_STRING
    obtain ⟨t_TUPLE, c_TUPLE⟩ := T.c_TUPLE
    refine ⟨_, (pss_cons (ps_expr (pe_meth (pv 0) TReader.cl d_Reader_need.m d_Reader_need.ok (hr.mono (by decide)) d_Reader_need.b .nil (passes_call (takes_of rfl rfl rfl rfl) (fun _ _ _ _ h => h)) (pa_cons pe_int pa_nil)))
      (pss_cons (ps_set (i := 1) sc_Reader_word.nd rfl (Or.inl rfl) (pe_ix ix_tup (pe_fld (pv 0) rfl) (pe_fld (pv 0) rfl) (fun _ _ => rfl)))
      (pss_cons (ps_if (pt_cmpR op_notIn_seq (pv 1) (pe_tup (pa_cons (pe_glob (v := .int 1) rfl c_NUMBER ⟨_, rfl⟩) (pa_cons (pe_glob (v := .int 2) rfl c_STRING ⟨_, rfl⟩) (pa_cons (pe_glob (v := .int 3) rfl c_TUPLE ⟨_, rfl⟩) pa_nil)))) (by rfl)) (pss_one (ps_raise rfl (takes_of rfl rfl rfl rfl) (pmk_bb TE.xBB TE.g_BadBytes TE.nBA TE.nBF hr (by decide) (pa_cons (pe_fld (pv 0) rfl) (pa_cons pe_str pa_nil))))) pss_nil)
      (pss_cons (ps_if (PW.pt (pw_and (pt_cmpR op_eq (pv 1) (pe_glob (v := .int 3) rfl c_TUPLE ⟨_, rfl⟩) (nomark _)) (pw_and1 (pt_cmpR op_eq (pe_callB call_len (by rfl) T.n_len (by decide +kernel) (pa_cons (pe_fld (pv 0) rfl) pa_nil)) (pe_glob (v := .int 20) rfl c_MOST_DEEP ⟨_, rfl⟩) (nomark _))))) (pss_one (ps_raise rfl (takes_of rfl rfl rfl rfl) (pmk_bb TE.xBB TE.g_BadBytes TE.nBA TE.nBF hr (by decide) (pa_cons (pe_fld (pv 0) rfl) (pa_cons pe_str pa_nil))))) pss_nil)
      (pss_cons (ps_fldaug (pv 0) pe_int in_add)
      (pss_one (ps_ret (pv 1)))))))), ?_⟩
    refine ⟨_, rfl, R.r, R.dx, _, rfl, hI.ins, rdF_no _ _ _ (by decide +kernel) (by decide +kernel) (by decide +kernel), H0, R, 1, rfl, hI, fun c => ?_, fun c => ?_⟩
    · have h0 := gB_byte hI.bytes R.n
      refine ⟨_, rfl, R.r, C, R.dx, _, _, rfl, hI.ins, TReader.cl, TReader.nB, rdF_b _ _ _, _, rfl, R.r, C, R.dx, _, _, rfl, hI.ins, TReader.cl, TReader.nA, rdF_a _ _ _, R.t, _, _, _, rfl, rfl, .inl (.inl (hI.same _ _ hI.byt)), at_of (j := R.n) rfl (hI.get (by omega)), ?_⟩
      refine ⟨_, rfl, (by show 3 ≤ sizeLine; decide), fun p hp => ⟨p, _, rfl, .inr (.inl (.inl upd_same)), rfl, rfl, _, rfl, ?_⟩⟩
      have hI1 : RdI C H0 (upd H p (.tup [.int 1, .int 2, .int 3])) R := hI.more (same_upd hp)
      generalize upd H p (.tup [.int 1, .int 2, .int 3]) = H1 at hI1
      rw [isWord_in]
      cases ew : isWord (gB R.bs R.n) with
      | false =>
        have hw : rWord R.bs R.n R.O.length = .bad R.n "word" := (if_neg (by omega)).trans (if_pos ew)
        rw [hw] at q
        refine iteT ⟨_, rfl, R.r, C, R.dx, _, _, rfl, hI1.ins, TReader.cl, TReader.nA, rdF_a _ _ _, _, _, rfl, fun e he => ?_⟩
        exact q _ e (hI1.same.trans (same_upd he)) upd_same
      | true =>
        refine iteF ⟨_, rfl, rfl, _, rfl, ?_⟩
        have fin : (¬ (gB R.bs R.n = 3 ∧ R.O.length = 20)) → (∀ H', RdI C H0 H' { R with n := R.n + 1 } → Q (.int (gB R.bs R.n)) H') := fun hd => by
          have hw : rWord R.bs R.n R.O.length = .ok (gB R.bs R.n) := (if_neg (by omega)).trans ((if_neg (by rw [ew]; exact fun z => Bool.noConfusion z)).trans (if_neg hd))
          rw [hw] at q
          exact q
        have hI2 := hI1.at_ (R.n + 1)
        by_cases c3 : gB R.bs R.n = 3
        · rw [show decide (V.int (gB R.bs R.n) = V.int 3) = true from decide_eq_true (by rw [c3])]
          refine iteT ⟨_, rfl, R.r, C, R.dx, _, _, rfl, hI1.ins, TReader.cl, TReader.nO, rdF_o _ _ _, _, _, rfl, .inl ⟨_, SqL.of hI1.opn, rfl⟩, rfl, _, rfl, ?_⟩
          rw [List.length_reverse, hI1.stk.len]
          by_cases cd : R.O.length = 20
          · rw [show decide (V.int (R.O.length : Int) = V.int 20) = true from decide_eq_true (by rw [cd]; rfl)]
            have hw : rWord R.bs R.n R.O.length = .bad R.n "deep" := (if_neg (by omega)).trans ((if_neg (by rw [ew]; exact fun z => Bool.noConfusion z)).trans (if_pos ⟨c3, cd⟩))
            rw [hw] at q
            refine iteT ⟨_, rfl, R.r, C, R.dx, _, _, rfl, hI1.ins, TReader.cl, TReader.nA, rdF_a _ _ _, _, _, rfl, fun e he => ?_⟩
            exact q _ e (hI1.same.trans (same_upd he)) upd_same
          · rw [show decide (V.int (R.O.length : Int) = V.int 20) = false from decide_eq_false (fun z => by injection z with z; omega)]
            refine iteF ⟨_, rfl, R.r, C, R.dx, _, _, rfl, hI1.ins, TReader.cl, TReader.nA, rdF_a _ _ _, _, _, rfl, rfl, _, _, hI1.ins, (by show 3 < 1000; decide), _, rfl, ?_⟩
            exact fin (fun z => cd z.2) _ hI2
        · rw [show decide (V.int (gB R.bs R.n) = V.int 3) = false from decide_eq_false (fun z => by injection z with z; exact c3 z)]
          refine iteF ⟨_, rfl, R.r, C, R.dx, _, _, rfl, hI1.ins, TReader.cl, TReader.nA, rdF_a _ _ _, _, _, rfl, rfl, _, _, hI1.ins, (by show 3 < 1000; decide), _, rfl, ?_⟩
          exact fin (fun z => c3 z.1) _ hI2
    · have hn : rWord R.bs R.n R.O.length = .bad R.bs.length "end" := if_pos (by omega)
      rw [hn] at q
      exact q
abbrev s_Reader_string : Stmt := inClass (top 26) 3
theorem sc_Reader_string : FnScope ["self", "many", "found", "turn"] ["self", "many"] (defScope s_Reader_string) := ⟨rfl, rfl, rfl, by decide +kernel, rfl, by decide +kernel, by decide +kernel⟩
theorem ok_string {f f_need : Addr} {fd fd1 : FuncData} (F : Fun K "string" "Reader.string" s_Reader_string f fd) (T : Tx mg) (TE : Tex P K mg CR fR ccR CB fB ccB CN) (TReader : TRd K mg C fI)
    (d_Reader_need : OkM P w K mg base (L2.CX P w) 3 C "need" ["self", "many"] (sp_need C CB) f_need fd1) : FnOk P w K mg base (L2.CX P w) 4 f fd ["self", "many"] (sp_string C CB) := by
  refine F.okX sc_Reader_string (fun vs H Q E h => ?_) (fun cdv A outer s H vs Q E hr h => ?_)
  · obtain ⟨H0, R, many, rfl, _⟩ := h
    rfl
  · obtain ⟨H0, R, many, rfl, hm, hI, q⟩ := h
    obtain ⟨t_SIGNS, c_SIGNS⟩ := T.c_SIGNS
    refine ⟨_, (pss_cons (ps_set (i := 2) sc_Reader_string.nd rfl (Or.inl rfl) (pe_lst pa_nil))
      (pss_cons (ps_for (passes_of rfl) rfl (pi_range1 (by rfl) T.n_range (pa_cons (pv 1) pa_nil)) (pg_name (i := 3) sc_Reader_string.nd rfl (Or.inl rfl)) (pss_cons (ps_expr (pe_meth (pv 0) TReader.cl d_Reader_need.m d_Reader_need.ok (hr.mono (by decide)) d_Reader_need.b .nil (passes_call (takes_of rfl rfl rfl rfl) (fun _ _ _ _ h => h)) (pa_cons pe_int pa_nil)))
      (pss_cons (ps_if (pt_cmpR op_ge (pe_ix ix_tup (pe_fld (pv 0) rfl) (pe_fld (pv 0) rfl) (fun _ _ => rfl)) (pe_callB call_len (by rfl) T.n_len (by decide +kernel) (pa_cons (pe_glob (v := .str cs_SIGNS) rfl c_SIGNS ⟨_, rfl⟩) pa_nil)) (nomark _)) (pss_one (ps_raise rfl (takes_of rfl rfl rfl rfl) (pmk_bb TE.xBB TE.g_BadBytes TE.nBA TE.nBF hr (by decide) (pa_cons (pe_fld (pv 0) rfl) (pa_cons pe_str pa_nil))))) pss_nil)
      (pss_cons (ps_expr (pe_bm PySem.F.plainAttrs_list PySem.F.slot_list_append PySem.F.type_list_append mt_append (pv 2) (pa_cons (pe_ix ix_str (pe_glob (v := .str cs_SIGNS) rfl c_SIGNS ⟨_, rfl⟩) (pe_ix ix_tup (pe_fld (pv 0) rfl) (pe_fld (pv 0) rfl) (fun _ _ => rfl)) (fun _ _ => rfl)) pa_nil)))
      (pss_one (ps_fldaug (pv 0) pe_int in_add))))))
      (pss_one (ps_ret (pe_join pe_str (pv 2)))))), ?_⟩
    refine ⟨Nat.zero_le _, fun f hf => ?_⟩
    have nf : H0 f = none := hI.same.free hf
    have hap := hI.apart hf
    refine ⟨_, rfl, many, rfl, by omega, by omega, for_range (lo := 0) (n := many) (fun i σ H1 => ∃ (ls : List Int) (tn : Option V), σ = [some (.ref R.r), some (.int (many : Int)), some (.ref f), tn] ∧ RdI C H0 H1 { R with n := R.n + i } ∧ H1 f = some (.lst (ls.map fun b => V.str (sg1 b))) ∧ ls.length = i ∧ rStr R.bs R.n many = preO ls (rStr R.bs (R.n + i) (many - i)))
      ⟨[], none, rfl, hI.more (same_upd hf), upd_same, rfl, ?_⟩ ?_ ?_⟩
    · show _ = preO [] (rStr R.bs R.n many)
      cases rStr R.bs R.n many <;> rfl
    · rintro i σ1 H1 hi ⟨ls, tn, rfl, hI1, hF, hl, he⟩
      obtain ⟨k, hk⟩ : ∃ k, many - i = k + 1 := ⟨many - i - 1, by omega⟩
      rw [hk] at he
      have hz : many - (i + 1) = k := by omega
      refine ⟨_, rfl, R.r, R.dx, _, rfl, hI1.ins, rdF_no _ _ _ (by decide +kernel) (by decide +kernel) (by decide +kernel), H0, { R with n := R.n + i }, 1, rfl, hI1, fun c => ?_, fun c => ?_⟩
      · have c : R.n + i + 1 ≤ R.bs.length := c
        have h0 := gB_byte hI.bytes (R.n + i)
        have hix : (R.bs.map V.int)[R.n + i]? = some (.int (gB R.bs (R.n + i))) := hI.get (by omega)
        refine ⟨_, rfl, R.r, C, R.dx, _, _, rfl, hI1.ins, TReader.cl, TReader.nB, rdF_b _ _ _, _, rfl, R.r, C, R.dx, _, _, rfl, hI1.ins, TReader.cl, TReader.nA, rdF_a _ _ _, R.t, _, _, _, rfl, rfl, .inl (.inl (hI1.same _ _ hI.byt)), at_of (j := R.n + i) rfl hix, ?_⟩
        refine ⟨_, _, rfl, ⟨by rw [sgn_len]; decide, rfl⟩, _, _, rfl, rfl, _, rfl, ?_⟩
        rw [sgn_len]
        by_cases cs : 55 ≤ gB R.bs (R.n + i)
        · rw [show decide (((55 : Nat) : Int) ≤ gB R.bs (R.n + i)) = true from decide_eq_true cs]
          rw [rStr_sign (by omega) cs] at he
          rw [he] at q
          refine iteT ⟨_, rfl, R.r, C, R.dx, _, _, rfl, hI1.ins, TReader.cl, TReader.nA, rdF_a _ _ _, _, _, rfl, fun e hne => ?_⟩
          exact q _ e (hI1.same.trans (same_upd hne)) upd_same
        · rw [show decide (((55 : Nat) : Int) ≤ gB R.bs (R.n + i)) = false from decide_eq_false cs]
          rw [rStr_more (by omega) cs, preO_preO] at he
          have hsg : cs_SIGNS.cps.toList[(gB R.bs (R.n + i)).toNat]? = some (sgC (gB R.bs (R.n + i))) := by
            unfold sgC
            have hlt : (gB R.bs (R.n + i)).toNat < cs_SIGNS.cps.toList.length := by
              rw [sgn_list]
              omega
            rw [List.getD_eq_getElem?_getD, List.getElem?_eq_getElem hlt]
            rfl
          refine iteF ⟨_, rfl, .inl ⟨rfl, _, SqL.of hF⟩, _, rfl, R.r, C, R.dx, _, _, rfl, hI1.ins, TReader.cl, TReader.nB, rdF_b _ _ _, _, rfl, R.r, C, R.dx, _, _, rfl, hI1.ins, TReader.cl, TReader.nA, rdF_a _ _ _, R.t, _, _, _, rfl, rfl, .inl (.inl (hI1.same _ _ hI.byt)), at_of (j := R.n + i) rfl hix, ?_⟩
          refine ⟨cs_SIGNS, _, _, rfl, rfl, by rw [sgn_len]; decide, at_nn h0.1 hsg, ?_⟩
          refine ⟨f, _, _, rfl, rfl, hF, ?_, ?_⟩
          · rw [List.length_map, hl]
            exact Nat.lt_of_lt_of_le (by omega) sl_big
          · have e3 : ls.map (fun b => V.str (sg1 b)) ++ [V.str ⟨#[sgC (gB R.bs (R.n + i))]⟩] = (ls ++ [gB R.bs (R.n + i)]).map fun b => V.str (sg1 b) := by
              rw [List.map_append]
              rfl
            have hI2 := hI1.own (l' := ls.map (fun b => V.str (sg1 b)) ++ [V.str ⟨#[sgC (gB R.bs (R.n + i))]⟩]) nf hF hap.1 hap.2
            have hI3 := hI2.at_ (R.n + i + 1)
            refine ⟨_, rfl, R.r, C, R.dx, _, _, rfl, hI2.ins, TReader.cl, TReader.nA, rdF_a _ _ _, _, _, rfl, rfl, _, _, hI2.ins, (by show 3 < 1000; decide), ?_⟩
            refine ⟨ls ++ [gB R.bs (R.n + i)], _, rfl, hI3, ?_, by rw [List.length_append, hl]; rfl, ?_⟩
            · refine Eq.trans (upd_ne (ne_of hF hI1.ins (by intro z; cases z))) ?_
              rw [upd_same, e3]
            · rw [hz]
              exact he
      · have c : R.bs.length < R.n + i + 1 := c
        rw [rStr_end (by omega)] at he
        rw [he] at q
        exact q
    · rintro σ1 H1 ⟨ls, tn, rfl, hI1, hF, hl, he⟩
      rw [Nat.sub_self] at he
      have he2 : rStr R.bs R.n many = .ok ls := by
        rw [he]
        show Out.ok (ls ++ []) = Out.ok ls
        rw [List.append_nil]
      rw [he2] at q
      refine ⟨⟨_, rfl⟩, _, rfl, "", f, ls.map sg1, rfl, rfl, .inl (SqL.of ?_), ?_, ?_⟩
      · rw [List.map_map]
        exact hF
      · rw [sum_sg, hl]
        show many + (ls.map sg1).length * 0 ≤ 16777216
        omega
      · rw [join_sg]
        exact q _ hI1
end
end Net
namespace Net
open PySem PySem.Spec PyProof.Rows L2 NetR
def closeN (d : PyData) (n : Nat) (O : List (Nat × List PyData)) : Option PyData × Nat × List (Nat × List PyData) := ((closeD d O).1, n, (closeD d O).2)
def rStep (bs : List Int) (n : Nat) (O : List (Nat × List PyData)) : Out (Option PyData × Nat × List (Nat × List PyData)) :=
  match rWord bs n O.length with
  | .bad a z => .bad a z
  | .ok w => match rNum bs (n + 1) with
    | .bad a z => .bad a z
    | .ok k => if w = 3 ∧ 0 < k then .ok (none, n + 3, (k.toNat, []) :: O) else if w = 1 then .ok (closeN (.int k) (n + 3) O) else if w = 2 then (match rStr bs (n + 3) k.toNat with
        | .bad a z => .bad a z
        | .ok l => .ok (closeN (.str (strV l)) (n + 3 + k.toNat) O)) else .ok (closeN (.tuple []) (n + 3) O)
def rRun (bs : List Int) : Nat → Nat → List (Nat × List PyData) → Out PyData
  | 0, _, _ => .bad 0 "fuel"
  | k + 1, n, O => match rStep bs n O with
    | .bad a z => .bad a z
    | .ok (none, n', O') => rRun bs k n' O'
    | .ok (some d, n', _) => if n' < bs.length then .bad n' "more" else .ok d
def rdAll (bs : List Int) : Out PyData := rRun bs (bs.length + 1) 0 []
def ResAt (H : Hp) (p : Addr) : Option PyData → Prop
  | none => H p = some (.tup [])
  | some d => ∃ u, H p = some (.tup [u]) ∧ Rp H u d ∧ pureD d = true
theorem closeD_len : ∀ (O : List (Nat × List PyData)) (d : PyData), (closeD d O).2.length ≤ O.length
  | [], d => Nat.le_refl _
  | (many, ds) :: O, d => by
    unfold closeD
    split
    · exact Nat.le_refl _
    · exact Nat.le_succ_of_le (closeD_len O _)
def sp_closed (C : Addr) : Sp := fun vs H Q E => ∃ H0 R v d, vs = [.ref R.r, v] ∧ RdI C H0 H R ∧ Rp H v d ∧ pureD d = true ∧
  ∀ H' p vs' ms', RdI C H0 H' { R with O := (closeD d R.O).2, vs := vs', ms := ms' } → ResAt H' p (closeD d R.O).1 → Q (.ref p) H'
def sp_step (C CB : Addr) : Sp := fun vs H Q E => ∃ H0 R, vs = [.ref R.r] ∧ RdI C H0 H R ∧ match rStep R.bs R.n R.O with
  | .ok x => ∀ H' p vs' ms', RdI C H0 H' { R with n := x.2.1, O := x.2.2, vs := vs', ms := ms' } → ResAt H' p x.1 → Q (.ref p) H'
  | .bad a z => BbE CB H0 a z E
def WCl (C : Addr) (H0 : Hp) (R : Rst) (d : PyData) : Nat → L2.St → Hp → Prop := fun m σ H1 => ∃ v a b d1 O1 vs1 ms1, σ = [some (.ref R.r), some v, a, b] ∧ RdI C H0 H1 { R with O := O1, vs := vs1, ms := ms1 } ∧ Rp H1 v d1 ∧ pureD d1 = true ∧ closeD d1 O1 = closeD d R.O ∧ m = O1.length
theorem dropLast_app {α : Type} (xs : List α) (v : α) : (xs ++ [v]).dropLast = xs := by simp
section
variable {P : Program} {w : World} {K : PySem.W.Frag} {mg : Str → Option Value} {base : Heap} {CR fR ccR CB fB ccB CN C fI : Addr}
abbrev s_Reader_closed : Stmt := inClass (top 26) 5
theorem sc_Reader_closed : FnScope ["self", "thing", "many", "members"] ["self", "thing"] (defScope s_Reader_closed) := ⟨rfl, rfl, rfl, by decide +kernel, rfl, by decide +kernel, by decide +kernel⟩
theorem ok_closed {f : Addr} {fd : FuncData} (F : Fun K "closed" "Reader.closed" s_Reader_closed f fd) (T : Tx mg) (TReader : TRd K mg C fI) : FnOk P w K mg base CX0 1 f fd ["self", "thing"] (sp_closed C) := by
  refine F.ok sc_Reader_closed (fun vs H Q E h => ?_) (fun cdv A outer s H vs Q E hr h => ?_)
  · obtain ⟨H0, R, v, d, rfl, _⟩ := h
    rfl
  · obtain ⟨H0, R, v, d, rfl, hI, hv, hp, q⟩ := h
    refine ⟨_, (pss_cons (ps_while PassesOwn.never (pt_truth (pe_fld (pv 0) rfl) (by intro _; rfl)) (pss_cons (ps_asg (pe_ix ix_list (pe_fld (pv 0) rfl) (pe_un un_neg pe_int) (fun _ _ => rfl)) (pg_tup rfl (pgs_cons (pg_name (i := 2) sc_Reader_closed.nd rfl (Or.inl rfl)) (pgs_cons (pg_name (i := 3) sc_Reader_closed.nd rfl (Or.inl rfl)) pgs_nil))))
      (pss_cons (ps_expr (pe_bm PySem.F.plainAttrs_list PySem.F.slot_list_append PySem.F.type_list_append mt_append (pv 3) (pa_cons (pv 1) pa_nil)))
      (pss_cons (ps_if (pt_cmpR op_lt (pe_callB call_len (by rfl) T.n_len (by decide +kernel) (pa_cons (pv 3) pa_nil)) (pv 2) (nomark _)) (pss_one (ps_ret (pe_tup pa_nil))) pss_nil)
      (pss_cons (ps_expr (pe_bm0 PySem.F.plainAttrs_list PySem.F.slot_list_pop PySem.F.type_list_pop mt_pop (pe_fld (pv 0) rfl)))
      (pss_one (ps_set (i := 1) sc_Reader_closed.nd rfl (Or.inl rfl) (pe_callTy call_tuple_of (by rfl) T.n_tuple (by decide +kernel) (pa_cons (pv 3) pa_nil)))))))))
      (pss_one (ps_ret (pe_tup (pa_cons (pv 1) pa_nil))))), ?_⟩
    refine ⟨WCl C H0 R d, ⟨_, ⟨v, none, none, d, R.O, R.vs, R.ms, rfl, hI, hv, hp, rfl, rfl⟩⟩, ?_⟩
    rintro m σ1 H1 ⟨v1, a, b, d1, O1, vs1, ms1, rfl, hI1, hv1, hp1, hc, rfl⟩
    refine ⟨_, rfl, R.r, C, R.dx, _, _, rfl, hI1.ins, TReader.cl, TReader.nO, rdF_o _ _ _, !vs1.reverse.isEmpty, .inl ⟨_, SqL.of hI1.opn, rfl⟩, ?_⟩
    have hS := hI1.stk
    have hL := hI1.opn
    cases hS with
    | nil =>
      refine iteF ⟨_, rfl, (by show 1 ≤ sizeLine; decide), fun p hp2 => ?_⟩
      rw [← hc] at q
      have s1 := same_upd (o := .tup [v1]) hp2
      exact q _ p [] [] (hI1.more s1) ⟨v1, upd_same, hv1.same s1, hp1⟩
    | @cons e mm many us vs' ds O' ms' he hmm hA hpd nm hml hmn hlt hmany hS' =>
      have hne : (!(V.ref e :: vs').reverse.isEmpty) = true := by simp
      rw [hne]
      refine iteT ⟨fun σ' H' => ∃ m', m' < ((many, ds) :: O').length ∧ WCl C H0 R d m' σ' H', fun _ _ h => h, ?_⟩
      have hat : atI (V.ref e :: vs').reverse (-1) = some (.ref e) := by
        rw [List.reverse_cons]
        exact atI_last _ _
      refine ⟨_, rfl, R.r, C, R.dx, _, _, rfl, hI1.ins, TReader.cl, TReader.nO, rdF_o _ _ _, 1, rfl, R.l, _, _, _, rfl, rfl, SqL.of hL, hat, ?_⟩
      refine ⟨e, _, rfl, .inl (.inl he), rfl, _, _, rfl, _, _, rfl, rfl, ?_⟩
      have hul := hA.len
      refine ⟨_, rfl, .inl ⟨rfl, _, SqL.of hmm⟩, _, rfl, mm, _, _, rfl, rfl, hmm, Nat.lt_of_lt_of_le (by omega) sl_big, ?_⟩
      have hrm : R.r ≠ mm := ne_of hI1.ins hmm (by intro z; cases z)
      have hap : RdI C H0 (upd H1 mm (.lst (us ++ [v1]))) { R with O := O', vs := vs', ms := ms' } → True := fun _ => trivial
      have tk1 : TK H1 (upd H1 mm (.lst (us ++ [v1]))) := .lst hmm
      have sm1 : Same H0 (upd H1 mm (.lst (us ++ [v1]))) := Same.own hI1.same nm
      have hS2 : Opn H0 (upd H1 mm (.lst (us ++ [v1]))) R.l vs' O' ms' := hS'.keep tk1 fun m2 hm2 us2 e2 => by
        rw [upd_ne (fun z => hmn (by rw [← z]; exact hm2))]
        exact e2
      have hins2 : (upd H1 mm (.lst (us ++ [v1]))) R.r = some (.ins C R.dx (rdF R.t R.n R.l)) := by
        rw [upd_ne hrm]
        exact hI1.ins
      have hL2 : (upd H1 mm (.lst (us ++ [v1]))) R.l = some (.lst (V.ref e :: vs').reverse) := by
        rw [upd_ne (Ne.symm hml)]
        exact hL
      have hA2 : RpA (upd H1 mm (.lst (us ++ [v1]))) (us ++ [v1]) (ds ++ [d1]) := (RpA.tk tk1 _ _ hpd hA).app (.one (Rp.tk tk1 _ _ hp1 hv1))
      have hpd2 : pureDs (ds ++ [d1]) = true := by
        rw [pureDs_app, hpd, pureDs, hp1]
        rfl
      have he2 := tk1 _ _ he
      have hm2 : (upd H1 mm (.lst (us ++ [v1]))) mm = some (.lst (us ++ [v1])) := upd_same
      generalize upd H1 mm (.lst (us ++ [v1])) = H2 at tk1 sm1 hS2 hins2 hL2 hA2 he2 hm2
      refine ⟨_, rfl, _, _, rfl, .inl ⟨_, SqL.of hm2, rfl⟩, _, rfl, _, _, rfl, rfl, _, rfl, ?_⟩
      rw [List.length_append, hul]
      by_cases c : ds.length + 1 < many
      · rw [show decide (((ds.length + [v1].length : Nat) : Int) < (many : Int)) = true from decide_eq_true (by show ((ds.length + 1 : Nat) : Int) < (many : Int); omega)]
        refine iteT ⟨Nat.zero_le _, fun p hp2 => ?_⟩
        have ec : closeD d1 ((many, ds) :: O') = (none, (many, ds ++ [d1]) :: O') := by
          rw [closeD, if_pos c]
        rw [← hc, ec] at q
        have s3 := same_upd (o := .tup []) hp2
        have hI2 : RdI C H0 H2 { R with O := (many, ds ++ [d1]) :: O', vs := .ref e :: vs', ms := mm :: ms' } :=
          ⟨sm1, hins2, hI.byt, hL2, hI.nr, hI.nl, .cons he2 hm2 hA2 hpd2 nm hml hmn (by rw [List.length_append]; exact c) hmany hS2, hI1.deep, hI.size, hI.bytes⟩
        exact q _ p _ _ (hI2.more s3) upd_same
      · rw [show decide (((ds.length + [v1].length : Nat) : Int) < (many : Int)) = false from decide_eq_false (by show ¬ ((ds.length + 1 : Nat) : Int) < (many : Int); omega)]
        have ec : closeD d1 ((many, ds) :: O') = closeD (.tuple (ds ++ [d1])) O' := by
          rw [closeD, if_neg c]
        refine iteF ⟨_, rfl, R.r, C, R.dx, _, _, rfl, hins2, TReader.cl, TReader.nO, rdF_o _ _ _, .inl ⟨rfl, _, SqL.of hL2⟩, R.l, _, _, rfl, rfl, hL2, last_rev _ _, ?_⟩
        have tk3 : TK H2 (upd H2 R.l (.lst (V.ref e :: vs').reverse.dropLast)) := .lst hL2
        have hm3 : (upd H2 R.l (.lst (V.ref e :: vs').reverse.dropLast)) mm = some (.lst (us ++ [v1])) := by
          rw [upd_ne hml]
          exact hm2
        have hI3 : RdI C H0 (upd H2 R.l (.lst (V.ref e :: vs').reverse.dropLast)) { R with O := O', vs := vs', ms := ms' } := by
          refine ⟨Same.own sm1 hI.nl, ?_, hI.byt, by rw [upd_same, drop_rev], hI.nr, hI.nl, hS2.keep tk3 fun m2 hm2' us2 e2 => ?_, Nat.le_of_succ_le hI1.deep, hI.size, hI.bytes⟩
          · rw [upd_ne (ne_of hins2 hL2 (by intro z; cases z))]
            exact hins2
          · rw [upd_ne (hS2.ne m2 hm2')]
            exact e2
        have hA3 := RpA.tk tk3 _ _ hpd2 hA2
        generalize upd H2 R.l (.lst (V.ref e :: vs').reverse.dropLast) = H3 at tk3 hm3 hI3 hA3
        refine ⟨_, rfl, mm, _, rfl, .inl ⟨SqL.of hm3, fun p hp2 => ?_⟩⟩
        have s4 := same_upd (o := .tup (us ++ [v1])) hp2
        refine ⟨O'.length, Nat.lt_succ_self _, .ref p, _, _, .tuple (ds ++ [d1]), O', vs', ms', rfl, hI3.more s4, .tup upd_same (hA3.same s4), hpd2, ?_, rfl⟩
        rw [← ec]
        exact hc
abbrev s_Reader___init__ : Stmt := inClass (top 26) 0
theorem sc_Reader___init__ : FnScope ["self", "some"] ["self", "some"] (defScope s_Reader___init__) := ⟨rfl, rfl, rfl, by decide +kernel, rfl, by decide +kernel, by decide +kernel⟩
def sp_rdinit (C : Addr) : Sp := fun vs H Q E => ∃ r dx t, vs = [.ref r, .ref t] ∧ H r = some (.ins C dx []) ∧ ∀ H' l, (∀ b o, b ≠ r → H b = some o → H' b = some o) → H l = none → H' r = some (.ins C dx (rdF t 0 l)) → H' l = some (.lst []) → Q .non H'
theorem ok_rdinit {f : Addr} {fd : FuncData} (F : Fun K "__init__" "Reader.__init__" s_Reader___init__ f fd) (TReader : TRd K mg C fI) : FnOk P w K mg base CX0 1 f fd ["self", "some"] (sp_rdinit C) := by
  refine F.ok sc_Reader___init__ (fun vs H Q E h => ?_) (fun cdv A outer s H vs Q E hr h => ?_)
  · obtain ⟨r, dx, t, rfl, _⟩ := h
    rfl
  · obtain ⟨r, dx, t, rfl, hr1, q⟩ := h
    refine ⟨_, (pss_one (ps_asg (pe_tup (pa_cons (pv 1) (pa_cons pe_int (pa_cons (pe_lst pa_nil) pa_nil)))) (pg_tup rfl (pgs_cons (pg_fld (pv 0)) (pgs_cons (pg_fld (pv 0)) (pgs_cons (pg_fld (pv 0)) pgs_nil)))))), ?_⟩
    refine ⟨_, rfl, Nat.zero_le _, fun l hl => ⟨(by show 3 ≤ sizeLine; decide), fun p hp => ?_⟩⟩
    have s1 := (same_upd (o := .lst []) hl).trans (same_upd (o := .tup [.ref t, .int 0, .ref l]) hp)
    have hp2 : (upd (upd H l (.lst [])) p (.tup [.ref t, .int 0, .ref l])) p = some (.tup [.ref t, .int 0, .ref l]) := upd_same
    have hl2 : (upd (upd H l (.lst [])) p (.tup [.ref t, .int 0, .ref l])) l = some (.lst []) := same_upd hp _ _ upd_same
    have hr2 := s1 _ _ hr1
    generalize upd (upd H l (.lst [])) p (.tup [.ref t, .int 0, .ref l]) = H2 at s1 hp2 hl2 hr2
    refine ⟨p, _, rfl, .inl (.inl hp2), rfl, _, _, rfl, _, rfl, r, C, dx, _, rfl, hr2, TReader.cl, TReader.nB, (by show 0 < 1000; decide), ?_⟩
    refine ⟨_, _, rfl, _, rfl, r, C, dx, _, rfl, upd_same, TReader.cl, TReader.nA, (by show 1 < 1000; decide), ?_⟩
    refine ⟨_, _, rfl, _, rfl, r, C, dx, _, rfl, upd_same, TReader.cl, TReader.nO, (by show 2 < 1000; decide), rfl, ?_⟩
    refine q _ l (fun b o hb e => ?_) hl upd_same ?_
    · rw [upd_ne hb, upd_ne hb, upd_ne hb]
      exact s1 _ _ e
    · have hb : l ≠ r := ne_of hl2 hr2 (by intro z; cases z)
      rw [upd_ne hb, upd_ne hb, upd_ne hb]
      exact hl2
abbrev s_Reader_step : Stmt := inClass (top 26) 6
theorem sc_Reader_step : FnScope ["self", "word", "number"] ["self"] (defScope s_Reader_step) := ⟨rfl, rfl, rfl, by decide +kernel, rfl, by decide +kernel, by decide +kernel⟩
theorem ok_step {f f1 f2 f3 f4 : Addr} {fd fd1 fd2 fd3 fd4 : FuncData} (F : Fun K "step" "Reader.step" s_Reader_step f fd) (T : Tx mg) (TReader : TRd K mg C fI)
    (d_Reader_word : OkM P w K mg base (L2.CX P w) 4 C "word" ["self"] (sp_word C CB) f1 fd1) (d_Reader_number : OkM P w K mg base (L2.CX P w) 4 C "number" ["self"] (sp_number C CB) f2 fd2)
    (d_Reader_string : OkM P w K mg base (L2.CX P w) 4 C "string" ["self", "many"] (sp_string C CB) f3 fd3) (d_Reader_closed : OkM P w K mg base CX0 1 C "closed" ["self", "thing"] (sp_closed C) f4 fd4) :
    FnOk P w K mg base (L2.CX P w) 5 f fd ["self"] (sp_step C CB) := by
  refine F.okX sc_Reader_step (fun vs H Q E h => ?_) (fun cdv A outer s H vs Q E hr h => ?_)
  · obtain ⟨H0, R, rfl, _⟩ := h
    rfl
  · obtain ⟨H0, R, rfl, hI, q⟩ := h
    obtain ⟨t_NUMBER, c_NUMBER⟩ := T.c_NUMBER
    obtain ⟨t_STRING, c_STRING⟩ := T.c_STRING
    obtain ⟨t_TUPLE, c_TUPLE⟩ := T.c_TUPLE
    refine ⟨_, (pss_cons (ps_par (i := 1) (j := 2) (by rfl) sc_Reader_step.nd rfl rfl (by decide) rfl rfl (pa_cons (pe_meth0 (pv 0) TReader.cl d_Reader_word.m d_Reader_word.ok (hr.mono (by decide)) d_Reader_word.b .nil (passes_call (takes_of rfl rfl rfl rfl) (fun _ _ _ _ h => h))) (pa_cons (pe_meth0 (pv 0) TReader.cl d_Reader_number.m d_Reader_number.ok (hr.mono (by decide)) d_Reader_number.b .nil (passes_call (takes_of rfl rfl rfl rfl) (fun _ _ _ _ h => h))) pa_nil)) (by rfl))
      (pss_cons (ps_if (PW.pt (pw_and (pt_cmpR op_eq (pv 1) (pe_glob (v := .int 3) rfl c_TUPLE ⟨_, rfl⟩) (nomark _)) (pw_and1 (pt_cmpR op_gt (pv 2) pe_int (nomark _))))) (pss_cons (ps_expr (pe_bm PySem.F.plainAttrs_list PySem.F.slot_list_append PySem.F.type_list_append mt_append (pe_fld (pv 0) rfl) (pa_cons (pe_tup (pa_cons (pv 2) (pa_cons (pe_lst pa_nil) pa_nil))) pa_nil)))
      (pss_one (ps_ret (pe_tup pa_nil)))) pss_nil)
      (pss_cons (ps_if (pt_cmpR op_eq (pv 1) (pe_glob (v := .int 1) rfl c_NUMBER ⟨_, rfl⟩) (nomark _)) (pss_one (ps_ret (pe_meth (pv 0) TReader.cl d_Reader_closed.m d_Reader_closed.ok (hr.mono (by decide)) d_Reader_closed.b .nil pass0 (pa_cons (pv 2) pa_nil)))) pss_nil)
      (pss_one (ps_ret (pe_meth (pv 0) TReader.cl d_Reader_closed.m d_Reader_closed.ok (hr.mono (by decide)) d_Reader_closed.b .nil pass0 (pa_cons (pe_ifExp (pt_cmpR op_eq (pv 1) (pe_glob (v := .int 2) rfl c_STRING ⟨_, rfl⟩) (nomark _)) (pe_meth (pv 0) TReader.cl d_Reader_string.m d_Reader_string.ok (hr.mono (by decide)) d_Reader_string.b .nil (passes_call (takes_of rfl rfl rfl rfl) (fun _ _ _ _ h => h)) (pa_cons (pv 2) pa_nil)) (pe_tup pa_nil)) pa_nil))))))), ?_⟩
    have noW : (rdF R.t R.n R.l).lookup ("word" : Str) = none := rdF_no _ _ _ (by decide +kernel) (by decide +kernel) (by decide +kernel)
    refine ⟨_, rfl, R.r, R.dx, _, rfl, hI.ins, noW, H0, R, rfl, hI, ?_⟩
    unfold rStep at q
    cases ew : rWord R.bs R.n R.O.length with
    | bad a z =>
      rw [ew] at q
      exact q
    | ok w0 =>
      rw [ew] at q
      intro H1 hI1
      have hwd : w0 = 3 → R.O.length < 20 := fun e3 => by
        have hd := hI.deep
        unfold rWord at ew
        split at ew
        · cases ew
        · split at ew
          · cases ew
          · split at ew
            · cases ew
            · rename_i h1 h2 h3
              injection ew with ew
              have : ¬ R.O.length = 20 := fun z => h3 ⟨by rw [ew, e3], z⟩
              omega
      have noN : (rdF R.t (R.n + 1) R.l).lookup ("number" : Str) = none := rdF_no _ _ _ (by decide +kernel) (by decide +kernel) (by decide +kernel)
      refine ⟨_, rfl, R.r, R.dx, _, rfl, hI1.ins, noN, H0, { R with n := R.n + 1 }, rfl, hI1, ?_⟩
      have en0 : rNum ({ R with n := R.n + 1 } : Rst).bs ({ R with n := R.n + 1 } : Rst).n = rNum R.bs (R.n + 1) := rfl
      rw [en0]
      cases en : rNum R.bs (R.n + 1) with
      | bad a z =>
        rw [en] at q
        exact q
      | ok k =>
        rw [en] at q
        intro H2 hI2 _
        have hk : 0 ≤ k ∧ k ≤ 65535 := by
          unfold rNum at en
          split at en
          · cases en
          · injection en with en
            have h1 := gB_byte hI.bytes (R.n + 1)
            have h2 := gB_byte hI.bytes (R.n + 1 + 1)
            omega
        have hI2 : RdI C H0 H2 { R with n := R.n + 3 } := hI2
        refine ⟨_, _, rfl, _, rfl, rfl, _, rfl, ?_⟩
        have closedCall : ∀ (v : V) (d : PyData) (H3 : Hp) (n' : Nat), RdI C H0 H3 { R with n := n' } → Rp H3 v d → pureD d = true → (∀ H' p vs' ms', RdI C H0 H' { R with n := n', O := (closeD d R.O).2, vs := vs', ms := ms' } → ResAt H' p (closeD d R.O).1 → Q (.ref p) H') →
            sp_closed C [.ref R.r, v] H3 Q E0 := fun v d H3 n' h1 h2 h3 h4 => ⟨H0, { R with n := n' }, v, d, rfl, h1, h2, h3, h4⟩
        have noC : ∀ n', (rdF R.t n' R.l).lookup ("closed" : Str) = none := fun n' => rdF_no _ _ _ (by decide +kernel) (by decide +kernel) (by decide +kernel)
        have noS : ∀ n', (rdF R.t n' R.l).lookup ("string" : Str) = none := fun n' => rdF_no _ _ _ (by decide +kernel) (by decide +kernel) (by decide +kernel)
        have rest : (if w0 = 1 then Out.ok (closeN (.int k) (R.n + 3) R.O) else if w0 = 2 then (match rStr R.bs (R.n + 3) k.toNat with
            | .bad a z => .bad a z
            | .ok l => .ok (closeN (.str (strV l)) (R.n + 3 + k.toNat) R.O)) else .ok (closeN (.tuple []) (R.n + 3) R.O)) = rStep R.bs R.n R.O → True := fun _ => trivial
        by_cases c3 : w0 = 3
        · rw [show decide (V.int w0 = V.int 3) = true from decide_eq_true (by rw [c3])]
          refine iteT ⟨_, rfl, _, _, rfl, rfl, _, rfl, ?_⟩
          by_cases ck : 0 < k
          · rw [show decide ((0 : Int) < k) = true from decide_eq_true ck]
            have q : ∀ H' p vs' ms', RdI C H0 H' { R with n := R.n + 3, O := (k.toNat, []) :: R.O, vs := vs', ms := ms' } → ResAt H' p none → Q (.ref p) H' := by
              have q2 := q
              dsimp only at q2
              rw [if_pos ⟨c3, ck⟩] at q2
              exact q2
            refine iteT ⟨_, rfl, R.r, C, R.dx, _, _, rfl, hI2.ins, TReader.cl, TReader.nO, rdF_o _ _ _, .inl ⟨rfl, _, SqL.of hI2.opn⟩, _, rfl, Nat.zero_le _, fun m hm => ⟨(by show 2 ≤ sizeLine; decide), fun e he => ?_⟩⟩
            have s1 := (same_upd (o := .lst []) hm).trans (same_upd (o := .tup [.int k, .ref m]) he)
            have hap := hI2.apart hm
            have nm : H0 m = none := hI2.same.free hm
            have he2 : (upd (upd H2 m (.lst [])) e (.tup [.int k, .ref m])) e = some (.tup [.int ((k.toNat : Nat) : Int), .ref m]) := by
              rw [upd_same, Int.toNat_of_nonneg hk.1]
            have hm2 : (upd (upd H2 m (.lst [])) e (.tup [.int k, .ref m])) m = some (.lst []) := same_upd he _ _ upd_same
            have hI3 := hI2.more s1
            generalize upd (upd H2 m (.lst [])) e (.tup [.int k, .ref m]) = H3 at s1 he2 hm2 hI3
            have hl20 := hwd c3
            have hvl := hI2.stk.len
            refine ⟨R.l, _, _, rfl, rfl, hI3.opn, Nat.lt_of_lt_of_le (by show R.vs.reverse.length < 16777216; rw [List.length_reverse]; have hvl : R.vs.length = R.O.length := hvl; omega) sl_big, ?_⟩
            have tk3 : TK H3 (upd H3 R.l (.lst (R.vs.reverse ++ [.ref e]))) := .lst hI3.opn
            have hI4 : RdI C H0 (upd H3 R.l (.lst (R.vs.reverse ++ [.ref e]))) { R with n := R.n + 3, O := (k.toNat, []) :: R.O, vs := .ref e :: R.vs, ms := m :: R.ms } := by
              refine ⟨Same.own hI3.same hI.nl, ?_, hI.byt, ?_, hI.nr, hI.nl, .cons (tk3 _ _ he2) ?_ .nil rfl nm hap.1 hap.2 (by show 0 < k.toNat; omega) (by omega) (hI3.stk.keep tk3 fun m2 hm2' us2 e2 => ?_), hl20, hI.size, hI.bytes⟩
              · rw [upd_ne (ne_of hI3.ins hI3.opn (by intro z; cases z))]
                exact hI3.ins
              · rw [upd_same, List.reverse_cons]
              · rw [upd_ne hap.1]
                exact hm2
              · rw [upd_ne (hI3.stk.ne m2 hm2')]
                exact e2
            refine ⟨Nat.zero_le _, fun p hp => ?_⟩
            exact q _ p _ _ (hI4.more (same_upd hp)) upd_same
          · rw [show decide ((0 : Int) < k) = false from decide_eq_false ck]
            have q : ∀ H' p vs' ms', RdI C H0 H' { R with n := R.n + 3, O := (closeD (.tuple []) R.O).2, vs := vs', ms := ms' } → ResAt H' p (closeD (.tuple []) R.O).1 → Q (.ref p) H' := by
              have q2 := q
              dsimp only at q2
              rw [if_neg (fun z => ck z.2), if_neg (by rw [c3]; decide), if_neg (by rw [c3]; decide)] at q2
              exact q2
            refine iteF ⟨_, rfl, rfl, _, rfl, ?_⟩
            rw [show decide (V.int w0 = V.int 1) = false from decide_eq_false (by rw [c3]; decide)]
            refine iteF ⟨_, rfl, R.r, R.dx, _, rfl, hI2.ins, noC _, _, rfl, rfl, _, rfl, ?_⟩
            rw [show decide (V.int w0 = V.int 2) = false from decide_eq_false (by rw [c3]; decide)]
            refine iteF ⟨Nat.zero_le _, fun p hp => ?_⟩
            exact closedCall (.ref p) (.tuple []) _ _ (hI2.more (same_upd hp)) (.tup upd_same .nil) rfl q
        · rw [show decide (V.int w0 = V.int 3) = false from decide_eq_false (fun z => by injection z with z; exact c3 z)]
          refine iteF ⟨_, rfl, rfl, _, rfl, ?_⟩
          by_cases c1 : w0 = 1
          · rw [show decide (V.int w0 = V.int 1) = true from decide_eq_true (by rw [c1])]
            have q : ∀ H' p vs' ms', RdI C H0 H' { R with n := R.n + 3, O := (closeD (.int k) R.O).2, vs := vs', ms := ms' } → ResAt H' p (closeD (.int k) R.O).1 → Q (.ref p) H' := by
              have q2 := q
              dsimp only at q2
              rw [if_neg (fun z => c3 z.1), if_pos c1] at q2
              exact q2
            exact iteT ⟨_, rfl, R.r, R.dx, _, rfl, hI2.ins, noC _, _, rfl, closedCall (.int k) (.int k) _ _ hI2 (.int k) rfl q⟩
          · rw [show decide (V.int w0 = V.int 1) = false from decide_eq_false (fun z => by injection z with z; exact c1 z)]
            refine iteF ⟨_, rfl, R.r, R.dx, _, rfl, hI2.ins, noC _, _, rfl, rfl, _, rfl, ?_⟩
            by_cases c2 : w0 = 2
            · rw [show decide (V.int w0 = V.int 2) = true from decide_eq_true (by rw [c2])]
              refine iteT ⟨_, rfl, R.r, R.dx, _, rfl, hI2.ins, noS _, _, rfl, H0, { R with n := R.n + 3 }, k.toNat, (by rw [Int.toNat_of_nonneg hk.1]; rfl), by omega, hI2, ?_⟩
              dsimp only at q ⊢
              rw [if_neg (fun z => c3 z.1), if_neg c1, if_pos c2] at q
              cases es : rStr R.bs (R.n + 3) k.toNat with
              | bad a z =>
                rw [es] at q
                exact q
              | ok l =>
                rw [es] at q
                intro H3 hI3
                exact closedCall (.str (strV l)) (.str (strV l)) _ _ hI3 (.str _) rfl q
            · rw [show decide (V.int w0 = V.int 2) = false from decide_eq_false (fun z => by injection z with z; exact c2 z)]
              have q : ∀ H' p vs' ms', RdI C H0 H' { R with n := R.n + 3, O := (closeD (.tuple []) R.O).2, vs := vs', ms := ms' } → ResAt H' p (closeD (.tuple []) R.O).1 → Q (.ref p) H' := by
                have q2 := q
                dsimp only at q2
                rw [if_neg (fun z => c3 z.1), if_neg c1, if_neg c2] at q2
                exact q2
              refine iteF ⟨Nat.zero_le _, fun p hp => ?_⟩
              exact closedCall (.ref p) (.tuple []) _ _ (hI2.more (same_upd hp)) (.tup upd_same .nil) rfl q
end
end Net
namespace Net
open PySem PySem.Spec PyProof.Rows L2 NetR
theorem rStr_n (bs : List Int) : ∀ (k n : Nat) (l : List Int), rStr bs n k = .ok l → k = 0 ∨ n + k ≤ bs.length
  | 0, n, l, _ => .inl rfl
  | k + 1, n, l, h => by
    rw [rStr] at h
    split at h
    · cases h
    · split at h
      · cases h
      · rename_i h1 h2
        cases e : rStr bs (n + 1) k with
        | bad a z =>
          rw [e] at h
          cases h
        | ok l2 =>
          rcases rStr_n bs k (n + 1) l2 e with z | z
          · exact .inr (by omega)
          · exact .inr (by omega)
theorem rNum_n {bs : List Int} {n : Nat} {k : Int} (h : rNum bs n = .ok k) : n + 2 ≤ bs.length := by
  unfold rNum at h
  split at h
  · cases h
  · omega
theorem rStep_n {bs : List Int} {n : Nat} {O : List (Nat × List PyData)} {x : Option PyData × Nat × List (Nat × List PyData)} (h : rStep bs n O = .ok x) : n + 3 ≤ x.2.1 ∧ x.2.1 ≤ bs.length := by
  unfold rStep at h
  cases ew : rWord bs n O.length with
  | bad a z =>
    rw [ew] at h
    cases h
  | ok w =>
    rw [ew] at h
    cases en : rNum bs (n + 1) with
    | bad a z =>
      rw [en] at h
      cases h
    | ok k =>
      have hn := rNum_n en
      rw [en] at h
      dsimp only at h
      split at h
      · cases h
        exact ⟨Nat.le_refl _, by show n + 3 ≤ bs.length; omega⟩
      · split at h
        · cases h
          exact ⟨Nat.le_refl _, by show n + 3 ≤ bs.length; omega⟩
        · split at h
          · cases es : rStr bs (n + 3) k.toNat with
            | bad a z =>
              rw [es] at h
              cases h
            | ok l =>
              rw [es] at h
              cases h
              have := rStr_n bs _ _ _ es
              exact ⟨by show n + 3 ≤ n + 3 + k.toNat; omega, by show n + 3 + k.toNat ≤ bs.length; omega⟩
          · cases h
            exact ⟨Nat.le_refl _, by show n + 3 ≤ bs.length; omega⟩
def endO (bs : List Int) (n : Nat) (d : PyData) : Out PyData := if n < bs.length then .bad n "more" else .ok d
def WWh (C : Addr) (H0 : Hp) (R : Rst) : Nat → L2.St → Hp → Prop := fun m σ H1 => ∃ p n O vs1 ms1, σ = [some (.ref R.r), some (.ref p)] ∧ RdI C H0 H1 { R with n := n, O := O, vs := vs1, ms := ms1 } ∧ n ≤ R.bs.length ∧
  ((∃ k, H1 p = some (.tup []) ∧ rRun R.bs k n O = rdAll R.bs ∧ R.bs.length + 1 ≤ k + n ∧ m = R.bs.length - n + 1) ∨ (∃ u d, H1 p = some (.tup [u]) ∧ Rp H1 u d ∧ pureD d = true ∧ endO R.bs n d = rdAll R.bs ∧ m = 0))
def RdEnd (CB : Addr) (H0 : Hp) (o : Out PyData) (Q : VK) (E : XK) : Prop := match o with
  | .ok d => ∀ H' u, Same H0 H' → Rp H' u d → pureD d = true → Q u H'
  | .bad a z => BbE CB H0 a z E
def sp_whole (C CB : Addr) : Sp := fun vs H Q E => ∃ H0 R, vs = [.ref R.r] ∧ RdI C H0 H R ∧ R.n = 0 ∧ R.O = [] ∧ RdEnd CB H0 (rdAll R.bs) Q E
def sp_unpacked (CB : Addr) : Sp := fun vs H Q E => ∃ v d, vs = [v] ∧ Rp H v d ∧ dsz d ≤ 100001 ∧ (areBytes d = false → BbE CB H 0 "bytes" E) ∧ (∀ bs : List Int, areBytes d = true → d = .tuple (bs.map PyData.int) → RdEnd CB H (rdAll bs) Q E)
section
variable {P : Program} {w : World} {K : PySem.W.Frag} {mg : Str → Option Value} {base : Heap} {CR fR ccR CB fB ccB CN C fI : Addr}
abbrev s_Reader_whole : Stmt := inClass (top 26) 7
theorem sc_Reader_whole : FnScope ["self", "found"] ["self"] (defScope s_Reader_whole) := ⟨rfl, rfl, rfl, by decide +kernel, rfl, by decide +kernel, by decide +kernel⟩
theorem ok_whole {f f1 : Addr} {fd fd1 : FuncData} (F : Fun K "whole" "Reader.whole" s_Reader_whole f fd) (T : Tx mg) (TE : Tex P K mg CR fR ccR CB fB ccB CN) (TReader : TRd K mg C fI)
    (d_Reader_step : OkM P w K mg base (L2.CX P w) 5 C "step" ["self"] (sp_step C CB) f1 fd1) : FnOk P w K mg base (L2.CX P w) 6 f fd ["self"] (sp_whole C CB) := by
  refine F.okX sc_Reader_whole (fun vs H Q E h => ?_) (fun cdv A outer s H vs Q E hr h => ?_)
  · obtain ⟨H0, R, rfl, _⟩ := h
    rfl
  · obtain ⟨H0, R, rfl, hI, hn0, hO0, q⟩ := h
    refine ⟨_, (pss_cons (ps_set (i := 1) sc_Reader_whole.nd rfl (Or.inl rfl) (pe_tup pa_nil))
      (pss_cons (ps_while (passes_of rfl) (pt_cmpR (op_eqE hr.units0) (pv 1) (pe_tup pa_nil) (nomark _)) (pss_one (ps_set (i := 1) sc_Reader_whole.nd rfl (Or.inl rfl) (pe_meth0 (pv 0) TReader.cl d_Reader_step.m d_Reader_step.ok (hr.mono (by decide)) d_Reader_step.b .nil (passes_call (takes_of rfl rfl rfl rfl) (fun _ _ _ _ h => h))))))
      (pss_cons (ps_if (pt_cmpR op_lt (pe_fld (pv 0) rfl) (pe_callB call_len (by rfl) T.n_len (by decide +kernel) (pa_cons (pe_fld (pv 0) rfl) pa_nil)) (nomark _)) (pss_one (ps_raise rfl (takes_of rfl rfl rfl rfl) (pmk_bb TE.xBB TE.g_BadBytes TE.nBA TE.nBF hr (by decide) (pa_cons (pe_fld (pv 0) rfl) (pa_cons pe_str pa_nil))))) pss_nil)
      (pss_one (ps_ret (pe_ix ix_tup (pv 1) pe_int (fun _ _ => rfl))))))), ?_⟩
    refine ⟨Nat.zero_le _, fun p0 hp0 => ?_⟩
    refine ⟨WWh C H0 R, ⟨_, ⟨p0, R.n, R.O, R.vs, R.ms, rfl, hI.more (same_upd hp0), by omega, .inl ⟨R.bs.length + 1, upd_same, by rw [hn0, hO0]; rfl, by omega, rfl⟩⟩⟩, ?_⟩
    rintro m σ1 H1 ⟨p, n, O, vs1, ms1, rfl, hI1, hn, hx⟩
    rcases hx with ⟨k, hp, he, hk, rfl⟩ | ⟨u, d, hp, hu, hpd, he, rfl⟩
    · refine ⟨_, rfl, Nat.zero_le _, fun e he1 => ⟨p, e, [], rfl, rfl, .inl (.inl (same_upd he1 _ _ hp)), .inl (.inl upd_same), _, rfl, ?_⟩⟩
      have hI2 := hI1.more (same_upd (o := .tup []) he1)
      generalize upd H1 e (.tup []) = H2 at hI2
      refine iteT ⟨fun σ' H' => ∃ m', m' < R.bs.length - n + 1 ∧ WWh C H0 R m' σ' H', fun _ _ h => h, ?_⟩
      obtain ⟨k', rfl⟩ : ∃ k', k = k' + 1 := ⟨k - 1, by omega⟩
      rw [rRun] at he
      have noS : (rdF R.t n R.l).lookup ("step" : Str) = none := rdF_no _ _ _ (by decide +kernel) (by decide +kernel) (by decide +kernel)
      refine ⟨_, rfl, R.r, R.dx, _, rfl, hI2.ins, noS, H0, { R with n := n, O := O, vs := vs1, ms := ms1 }, rfl, hI2, ?_⟩
      dsimp only
      cases es : rStep R.bs n O with
      | bad a z =>
        rw [es] at he
        dsimp only at he ⊢
        rw [← he] at q
        exact q
      | ok x =>
        have hxn := rStep_n es
        obtain ⟨o, n', O'⟩ := x
        rw [es] at he
        dsimp only at he hxn ⊢
        intro H3 p3 vs3 ms3 hI3 hr3
        cases o with
        | none =>
          refine ⟨R.bs.length - n' + 1, by omega, p3, n', O', vs3, ms3, rfl, hI3, hxn.2, .inl ⟨k', hr3, he, by omega, rfl⟩⟩
        | some d =>
          obtain ⟨u, h1, h2, h3⟩ := hr3
          exact ⟨0, by omega, p3, n', O', vs3, ms3, rfl, hI3, hxn.2, .inr ⟨u, d, h1, h2, h3, he, rfl⟩⟩
    · refine ⟨_, rfl, Nat.zero_le _, fun e he1 => ⟨p, e, [u], rfl, rfl, .inl (.inl (same_upd he1 _ _ hp)), .inl (.inl upd_same), _, rfl, ?_⟩⟩
      have s2 := same_upd (o := .tup []) he1
      have hI2 := hI1.more s2
      have hp2 := s2 _ _ hp
      have hu2 := hu.same s2
      generalize upd H1 e (.tup []) = H2 at hI2 hp2 hu2
      refine iteF ?_
      refine ⟨_, rfl, R.r, C, R.dx, _, _, rfl, hI2.ins, TReader.cl, TReader.nA, rdF_a _ _ _, _, rfl, R.r, C, R.dx, _, _, rfl, hI2.ins, TReader.cl, TReader.nB, rdF_b _ _ _, _, _, rfl, .inr ⟨_, .inl (.inl (hI2.same _ _ hI.byt)), rfl⟩, _, _, rfl, rfl, _, rfl, ?_⟩
      rw [List.length_map]
      unfold endO at he
      by_cases c : n < R.bs.length
      · rw [show decide ((n : Int) < (R.bs.length : Int)) = true from decide_eq_true (by omega)]
        rw [if_pos c] at he
        rw [← he] at q
        refine iteT ⟨_, rfl, R.r, C, R.dx, _, _, rfl, hI2.ins, TReader.cl, TReader.nA, rdF_a _ _ _, _, _, rfl, fun e he => ?_⟩
        exact q _ e (hI2.same.trans (same_upd he)) upd_same
      · rw [show decide ((n : Int) < (R.bs.length : Int)) = false from decide_eq_false (by omega)]
        rw [if_neg c] at he
        rw [← he] at q
        refine iteF ⟨_, rfl, p, [u], _, _, rfl, rfl, .inl (.inl hp2), at_of (j := 0) rfl rfl, ?_⟩
        exact q _ u hI2.same hu2 hpd
abbrev s_unpacked : Stmt := top 27
theorem sc_unpacked : FnScope ["some"] ["some"] (defScope s_unpacked) := ⟨rfl, rfl, rfl, by decide +kernel, rfl, by decide +kernel, by decide +kernel⟩
theorem ok_unpacked {f f_are_bytes f1 f2 : Addr} {fd fd0 fd1 fd2 : FuncData} (F : Fun K "unpacked" "unpacked" s_unpacked f fd) (T : Tx mg) (TE : Tex P K mg CR fR ccR CB fB ccB CN) (TReader : TRd K mg C f1)
    (d_are_bytes : Ok1 P w K mg base CX0 4 "are_bytes" ["thing"] sp_are_bytes f_are_bytes fd0) (d_Reader___init__ : OkM P w K mg base CX0 1 C "__init__" ["self", "some"] (sp_rdinit C) f1 fd1)
    (d_Reader_whole : OkM P w K mg base (L2.CX P w) 6 C "whole" ["self"] (sp_whole C CB) f2 fd2) : FnOk P w K mg base (L2.CX P w) 7 f fd ["some"] (sp_unpacked CB) := by
  refine F.okX sc_unpacked (fun vs H Q E h => ?_) (fun cdv A outer s H vs Q E hr h => ?_)
  · obtain ⟨v, d, rfl, _⟩ := h
    rfl
  · obtain ⟨v, d, rfl, hv, hsz, qN, qY⟩ := h
    refine ⟨_, (pss_cons (ps_if (pt_not (pt_val (pe_call d_are_bytes.ok (hr.mono (by decide)) rfl d_are_bytes.g d_are_bytes.kp d_are_bytes.b .nil pass0 (pa_cons (pv 0) pa_nil)))) (pss_one (ps_raise rfl (takes_of rfl rfl rfl rfl) (pmk_bb TE.xBB TE.g_BadBytes TE.nBA TE.nBF hr (by decide) (pa_cons pe_int (pa_cons pe_str pa_nil))))) pss_nil)
      (pss_one (ps_ret (pe_meth0 (pe_make TReader.mkr d_Reader___init__.ok (hr.mono (by decide)) rfl TReader.g d_Reader___init__.b .nil pass0 (pa_cons (pv 0) pa_nil)) TReader.cl d_Reader_whole.m d_Reader_whole.ok (hr.mono (by decide)) d_Reader_whole.b .nil (passes_call (takes_of rfl rfl rfl rfl) (fun _ _ _ _ h => h)))))), ?_⟩
    refine ⟨v, rfl, v, d, rfl, hv, Nat.lt_of_lt_of_le (by omega) sl_big, fun H1 s1 => ⟨_, rfl, ?_⟩⟩
    cases eb : areBytes d with
    | false => exact iteT ⟨_, _, rfl, fun e he => qN eb _ e (s1.trans (same_upd he)) upd_same⟩
    | true =>
      refine iteF ?_
      obtain ⟨bs, rfl⟩ := areInts_of (areBytes_ints eb)
      obtain ⟨t, rfl, ht⟩ := rp_ints (hv.same s1)
      obtain ⟨t0, e0, ht0⟩ := rp_ints hv
      cases e0
      refine ⟨_, rfl, fun x dx nx ndx nex => ?_⟩
      have sx : Same H1 (upd (upd H1 dx (.own x)) x (.ins C dx [])) := fun b o e => by
        rw [upd_ne (ne_of_none e nx), upd_ne (ne_of_none e ndx)]
        exact e
      refine ⟨x, dx, t, rfl, upd_same, fun H2 l kp nl hx2 hl2 => ⟨rfl, ?_⟩⟩
      have s2 : Same H1 H2 := fun b o e => kp b o (ne_of_none e nx) (sx b o e)
      have hb : ∀ b ∈ bs, 0 ≤ b ∧ b ≤ 255 := by
        rw [areBytes_int] at eb
        intro b hb
        have := List.all_eq_true.mp eb b hb
        unfold byteB at this
        rw [Bool.and_eq_true] at this
        exact ⟨of_decide_eq_true this.1, of_decide_eq_true this.2⟩
      have hz : bs.length ≤ 100000 := by
        rw [dsz, dszs_ints] at hsz
        omega
      have hI : RdI C H H2 { r := x, dx := dx, t := t, l := l, bs := bs, n := 0, vs := [], O := [], ms := [] } :=
        ⟨s1.trans s2, hx2, ht0, hl2, s1.free nx, s1.free (sx.free nl), .nil, Nat.zero_le _, hz, hb⟩
      have noW : (rdF t 0 l).lookup ("whole" : Str) = none := rdF_no _ _ _ (by decide +kernel) (by decide +kernel) (by decide +kernel)
      exact ⟨x, dx, _, rfl, hx2, noW, H, _, rfl, hI, rfl, rfl, qY bs eb rfl⟩
end
end Net
namespace Net
open PySem PySem.Spec PyProof.Rows L2
theorem gB_app (pre xs : List Int) (j : Nat) : gB (pre ++ xs) (pre.length + j) = gB xs j := by
  unfold gB
  rw [List.getD_eq_getElem?_getD, List.getD_eq_getElem?_getD, List.getElem?_append_right (by omega)]
  congr 2
  omega
theorem gB_app0 (pre xs : List Int) : gB (pre ++ xs) pre.length = gB xs 0 := gB_app pre xs 0
theorem rWord_ok {bs : List Int} {n dep : Nat} (h : n < bs.length) (hw : isWord (gB bs n) = true) (hd : ¬ (gB bs n = 3 ∧ dep = 20)) : rWord bs n dep = .ok (gB bs n) := by
  unfold rWord
  rw [if_neg (by omega), if_neg (by rw [hw]; exact fun z => Bool.noConfusion z), if_neg hd]
theorem rNum_ok {bs : List Int} {n : Nat} (h : n + 2 ≤ bs.length) : rNum bs n = .ok (gB bs n * 256 + gB bs (n + 1)) := if_neg (by omega)
theorem rNum_bad {bs : List Int} {n : Nat} (h : bs.length < n + 2) : rNum bs n = .bad bs.length "end" := if_pos h
theorem rStep_head {pre post : List Int} {w hi lo : Int} {O : List (Nat × List PyData)} (hw : isWord w = true) (hd : ¬ (w = 3 ∧ O.length = 20)) :
    rStep (pre ++ w :: hi :: lo :: post) pre.length O = (if w = 3 ∧ 0 < hi * 256 + lo then .ok (none, pre.length + 3, ((hi * 256 + lo).toNat, []) :: O) else if w = 1 then .ok (closeN (.int (hi * 256 + lo)) (pre.length + 3) O) else if w = 2 then (match rStr (pre ++ w :: hi :: lo :: post) (pre.length + 3) (hi * 256 + lo).toNat with
        | .bad a z => .bad a z
        | .ok l => .ok (closeN (.str (strV l)) (pre.length + 3 + (hi * 256 + lo).toNat) O)) else .ok (closeN (.tuple []) (pre.length + 3) O)) := by
  have g0 : gB (pre ++ w :: hi :: lo :: post) pre.length = w := gB_app pre _ 0
  have g1 : gB (pre ++ w :: hi :: lo :: post) (pre.length + 1) = hi := gB_app pre _ 1
  have g2 : gB (pre ++ w :: hi :: lo :: post) (pre.length + 1 + 1) = lo := gB_app pre _ 2
  have hl : (pre ++ w :: hi :: lo :: post).length = pre.length + (post.length + 3) := by rw [List.length_append]; rfl
  unfold rStep
  rw [rWord_ok (by omega) (by rw [g0]; exact hw) (by rw [g0]; exact hd), g0]
  dsimp only
  rw [rNum_ok (by omega), g1, g2]
  all_goals rfl
theorem rStep_cut {pre : List Int} {w hi : Int} {O : List (Nat × List PyData)} (hw : isWord w = true) (hd : ¬ (w = 3 ∧ O.length = 20)) : rStep (pre ++ [w, hi]) pre.length O = .bad (pre ++ [w, hi]).length "end" := by
  have g0 : gB (pre ++ [w, hi]) pre.length = w := gB_app pre _ 0
  have hl : (pre ++ [w, hi]).length = pre.length + 2 := by rw [List.length_append]; rfl
  unfold rStep
  rw [rWord_ok (by omega) (by rw [g0]; exact hw) (by rw [g0]; exact hd), g0]
  dsimp only
  rw [rNum_bad (by omega)]
theorem rStr_all : ∀ (idx pre post : List Int), (∀ b ∈ idx, b < 55) → rStr (pre ++ (idx ++ post)) pre.length idx.length = .ok idx
  | [], pre, post, _ => rfl
  | b :: idx, pre, post, h => by
    have hl : (pre ++ (b :: idx ++ post)).length = pre.length + (idx.length + 1 + post.length) := by rw [List.length_append, List.length_append, List.length_cons]
    have g0 : gB (pre ++ (b :: idx ++ post)) pre.length = b := gB_app pre _ 0
    have ih := rStr_all idx (pre ++ [b]) post fun x hx => h x (List.mem_cons_of_mem _ hx)
    have e : pre ++ [b] ++ (idx ++ post) = pre ++ (b :: idx ++ post) := by simp
    have hb := h b List.mem_cons_self
    rw [e, List.length_append] at ih
    show rStr (pre ++ (b :: idx ++ post)) pre.length (idx.length + 1) = .ok (b :: idx)
    rw [rStr_more (by omega) (by rw [g0]; omega), g0, show pre.length + 1 = pre.length + [b].length from rfl, ih]
    rfl
theorem rStr_cut : ∀ (idx pre : List Int), (∀ b ∈ idx, b < 55) → rStr (pre ++ idx) pre.length (idx.length + 1) = .bad (pre ++ idx).length "end"
  | [], pre, _ => rStr_end (by rw [List.append_nil]; omega)
  | b :: idx, pre, h => by
    have hl : (pre ++ b :: idx).length = pre.length + (idx.length + 1) := by rw [List.length_append, List.length_cons]
    have g0 : gB (pre ++ b :: idx) pre.length = b := gB_app pre _ 0
    have ih := rStr_cut idx (pre ++ [b]) fun x hx => h x (List.mem_cons_of_mem _ hx)
    have e : pre ++ [b] ++ idx = pre ++ b :: idx := by simp
    have hb := h b List.mem_cons_self
    rw [e, List.length_append] at ih
    show rStr (pre ++ b :: idx) pre.length (idx.length + 1 + 1) = _
    rw [rStr_more (by omega) (by rw [g0]; omega), g0, show pre.length + 1 = pre.length + [b].length from rfl, ih]
    rfl
theorem sgC_ixS {c : Nat} (h : c ∈ cs_SIGNS.cps.toList) : sgC (ixS c) = c := by
  unfold sgC ixS
  have hlt : cs_SIGNS.cps.toList.idxOf c < cs_SIGNS.cps.toList.length := List.idxOf_lt_length_iff.mpr h
  rw [Int.toNat_natCast, List.getD_eq_getElem?_getD, List.getElem?_eq_getElem hlt, List.getElem_idxOf hlt]
  rfl
theorem ixS_lt {c : Nat} (h : c ∈ cs_SIGNS.cps.toList) : 0 ≤ ixS c ∧ ixS c < 55 := by
  unfold ixS
  have hlt : cs_SIGNS.cps.toList.idxOf c < cs_SIGNS.cps.toList.length := List.idxOf_lt_length_iff.mpr h
  rw [sgn_list] at hlt
  omega
theorem strV_ix {s : Str} (h : ∀ c ∈ s.cps.toList, c ∈ cs_SIGNS.cps.toList) : strV (s.cps.toList.map ixS) = s := by
  have go : ∀ l : List Nat, (∀ c ∈ l, c ∈ cs_SIGNS.cps.toList) → (l.map ixS).map sgC = l := by
    intro l
    induction l with
    | nil => exact fun _ => rfl
    | cons c l ih =>
      intro h
      rw [List.map_cons, List.map_cons, sgC_ixS (h c List.mem_cons_self), ih fun x hx => h x (List.mem_cons_of_mem _ hx)]
  unfold strV
  rw [go _ h]
theorem two_back (n : Int) : n / 256 * 256 + n % 256 = n := by omega
def contO (bs : List Int) (k n : Nat) (x : Option PyData × List (Nat × List PyData)) : Out PyData := match x.1 with
  | none => rRun bs k n x.2
  | some d => endO bs n d
theorem rRun_step {bs : List Int} {k n n' : Nat} {d : PyData} {O : List (Nat × List PyData)} (h : rStep bs n O = .ok (closeN d n' O)) : rRun bs (k + 1) n O = contO bs k n' (closeD d O) := by
  rw [rRun, h]
  unfold closeN contO
  cases e : (closeD d O).1 with
  | none => rfl
  | some d => rfl
theorem signs_of {s : Str} (h : isDat (.str s) = true) : s.length ≤ 65535 ∧ ∀ c ∈ s.cps.toList, c ∈ cs_SIGNS.cps.toList := by
  have z2 : (decide (s.length ≤ 65535) && s.cps.toList.all fun c => decide (c ∈ cs_SIGNS.cps.toList)) = true := h
  rw [Bool.and_eq_true, List.all_eq_true] at z2
  exact ⟨of_decide_eq_true z2.1, fun c hc => of_decide_eq_true (z2.2 c hc)⟩
theorem str_len (s : Str) : s.cps.toList.length = s.length := Array.length_toList
mutual
theorem run_enc : ∀ (d : PyData) (pre post : List Int) (O : List (Nat × List PyData)) (k : Nat), isDat d = true → dsz d ≤ 60000 → O.length + ddep d ≤ 20 → rRun (pre ++ (enc d ++ post)) (k + dsz d) pre.length O = contO (pre ++ (enc d ++ post)) k (pre.length + (enc d).length) (closeD d O)
  | .int n, pre, post, O, k, h, hz, hd => by
    have e := rStep_head (pre := pre) (post := post) (w := 1) (hi := n / 256) (lo := n % 256) (O := O) rfl (by intro z; exact absurd z.1 (by decide))
    rw [if_neg (fun z => absurd z.1 (by decide)), if_pos rfl, two_back] at e
    exact rRun_step (k := k) e
  | .str s, pre, post, O, k, h, hz, hd => by
    obtain ⟨h1, h2⟩ := signs_of h
    have e := rStep_head (pre := pre) (post := s.cps.toList.map ixS ++ post) (w := 2) (hi := (s.length : Int) / 256) (lo := (s.length : Int) % 256) (O := O) rfl (by intro z; exact absurd z.1 (by decide))
    rw [if_neg (fun z => absurd z.1 (by decide)), if_neg (by decide), if_pos rfl, two_back, Int.toNat_natCast] at e
    have es := rStr_all (s.cps.toList.map ixS) (pre ++ [2, (s.length : Int) / 256, (s.length : Int) % 256]) post fun b hb => by
      obtain ⟨c, hc, rfl⟩ := List.mem_map.mp hb
      exact (ixS_lt (h2 c hc)).2
    have ea : pre ++ [2, (s.length : Int) / 256, (s.length : Int) % 256] ++ (s.cps.toList.map ixS ++ post) = pre ++ 2 :: (s.length : Int) / 256 :: (s.length : Int) % 256 :: (s.cps.toList.map ixS ++ post) := by simp
    rw [ea, List.length_append, List.length_map, str_len] at es
    rw [show pre.length + 3 = pre.length + [2, (s.length : Int) / 256, (s.length : Int) % 256].length from rfl, es] at e
    dsimp only at e
    rw [strV_ix h2] at e
    have hl : (enc (.str s)).length = 3 + s.length := by
      show (encS s).length = _
      rw [encS, List.length_cons, List.length_cons, List.length_cons, List.length_map, str_len]
      omega
    rw [hl, ← Nat.add_assoc]
    exact rRun_step (k := k) e
  | .tuple [], pre, post, O, k, h, hz, hd => by
    have hO : O.length ≠ 20 := by
      have : O.length + (1 + 0) ≤ 20 := hd
      omega
    have e := rStep_head (pre := pre) (post := post) (w := 3) (hi := 0) (lo := 0) (O := O) rfl (fun z => hO z.2)
    rw [if_neg (fun z => absurd z.2 (by decide)), if_neg (by decide), if_neg (by decide)] at e
    exact rRun_step (k := k) e
  | .tuple (d :: ds), pre, post, O, k, h, hz, hd => by
    have hd2 : O.length + (1 + ddeps (d :: ds)) ≤ 20 := hd
    have hlen := dszs_len (d :: ds)
    have hz2 : 1 + dszs (d :: ds) ≤ 60000 := hz
    have hlc : (d :: ds).length = ds.length + 1 := rfl
    have hO : O.length ≠ 20 := by omega
    have e := rStep_head (pre := pre) (post := encs (d :: ds) ++ post) (w := 3) (hi := ((d :: ds).length : Int) / 256) (lo := ((d :: ds).length : Int) % 256) (O := O) rfl (fun z => hO z.2)
    rw [two_back, if_pos ⟨rfl, by omega⟩, Int.toNat_natCast] at e
    have ih := run_encs (d :: ds) (pre ++ [3, ((d :: ds).length : Int) / 256, ((d :: ds).length : Int) % 256]) post O k (d :: ds).length [] h (by omega) (by omega) (by simp) (by simp)
    have ea : pre ++ [3, ((d :: ds).length : Int) / 256, ((d :: ds).length : Int) % 256] ++ (encs (d :: ds) ++ post) = pre ++ 3 :: ((d :: ds).length : Int) / 256 :: ((d :: ds).length : Int) % 256 :: (encs (d :: ds) ++ post) := by simp
    rw [ea, List.length_append, List.nil_append] at ih
    have eb : pre ++ (enc (.tuple (d :: ds)) ++ post) = pre ++ 3 :: ((d :: ds).length : Int) / 256 :: ((d :: ds).length : Int) % 256 :: (encs (d :: ds) ++ post) := by
      rw [enc]
      rfl
    have el : (enc (.tuple (d :: ds))).length = 3 + (encs (d :: ds)).length := by
      rw [enc, List.length_cons, List.length_cons, List.length_cons]
      omega
    rw [eb, el, show k + dsz (.tuple (d :: ds)) = (k + dszs (d :: ds)) + 1 by rw [dsz]; omega, rRun, e]
    dsimp only
    rw [← Nat.add_assoc]
    exact ih
  | .none, _, _, _, _, h, _, _ => by cases h
  | .bool _, _, _, _, _, h, _, _ => by cases h
  | .list _, _, _, _, _, h, _, _ => by cases h
  | .dict _, _, _, _, _, h, _, _ => by cases h
theorem run_encs : ∀ (ds : List PyData) (pre post : List Int) (O : List (Nat × List PyData)) (k many : Nat) (es : List PyData), isDats ds = true → dszs ds ≤ 60000 → O.length + 1 + ddeps ds ≤ 20 → es.length + ds.length = many → ds ≠ [] →
    rRun (pre ++ (encs ds ++ post)) (k + dszs ds) pre.length ((many, es) :: O) = contO (pre ++ (encs ds ++ post)) k (pre.length + (encs ds).length) (closeD (.tuple (es ++ ds)) O)
  | [], _, _, _, _, _, _, _, _, _, _, h => absurd rfl h
  | [d], pre, post, O, k, many, es, h, hz, hd, hm, _ => by
    rw [isDats, isDats, Bool.and_true] at h
    rw [ddeps, ddeps] at hd
    rw [dszs, dszs] at hz
    have ih := run_enc d pre post ((many, es) :: O) k h (by omega) (by rw [List.length_cons]; omega)
    have e1 : encs [d] = enc d := by rw [encs, encs, List.append_nil]
    have e2 : dszs [d] = dsz d := by rw [dszs, dszs]; omega
    rw [e1, e2, ih, closeD, if_neg (by simp at hm; omega)]
  | d :: d2 :: ds, pre, post, O, k, many, es, h, hz, hd, hm, _ => by
    rw [isDats, Bool.and_eq_true] at h
    rw [ddeps] at hd
    rw [dszs] at hz
    have ih := run_enc d pre (encs (d2 :: ds) ++ post) ((many, es) :: O) (k + dszs (d2 :: ds)) h.1 (by omega) (by rw [List.length_cons]; omega)
    have ih2 := run_encs (d2 :: ds) (pre ++ enc d) post O k many (es ++ [d]) h.2 (by omega) (by omega) (by simp at hm ⊢; omega) (by simp)
    have e1 : encs (d :: d2 :: ds) ++ post = enc d ++ (encs (d2 :: ds) ++ post) := by rw [encs, List.append_assoc]
    have e2 : k + dszs (d :: d2 :: ds) = k + dszs (d2 :: ds) + dsz d := by rw [dszs]; omega
    have e3 : pre ++ enc d ++ (encs (d2 :: ds) ++ post) = pre ++ (enc d ++ (encs (d2 :: ds) ++ post)) := List.append_assoc _ _ _
    have e4 : (encs (d :: d2 :: ds)).length = (enc d).length + (encs (d2 :: ds)).length := by rw [encs, List.length_append]
    rw [e3, List.length_append] at ih2
    rw [e1, e2, ih, e4, closeD, if_pos (by simp at hm; omega)]
    show rRun _ _ _ _ = _
    rw [ih2, ← Nat.add_assoc]
    congr 2
    simp
end
mutual
theorem enc_ge : ∀ d : PyData, isDat d = true → dsz d ≤ (enc d).length ∧ enc d ≠ []
  | .int n, _ => ⟨by show 1 ≤ 3; omega, fun z => by cases z⟩
  | .str s, h => by
    have e : enc (.str s) = encS s := rfl
    rw [e, encS]
    exact ⟨by show 1 ≤ _; rw [List.length_cons]; omega, fun z => by cases z⟩
  | .tuple ds, h => by
    have := encs_ge ds h
    rw [enc, dsz, List.length_cons, List.length_cons, List.length_cons]
    exact ⟨by omega, fun z => by cases z⟩
  | .none, h => by cases h
  | .bool _, h => by cases h
  | .list _, h => by cases h
  | .dict _, h => by cases h
theorem encs_ge : ∀ ds : List PyData, isDats ds = true → dszs ds ≤ (encs ds).length
  | [], _ => Nat.le_refl _
  | d :: ds, h => by
    rw [isDats, Bool.and_eq_true] at h
    have h1 := (enc_ge d h.1).1
    have h2 := encs_ge ds h.2
    rw [encs, dszs, List.length_append]
    omega
end
theorem read_enc {d : PyData} (h : isDat d = true) (hz : dsz d ≤ 60000) (hd : ddep d ≤ 20) (post : List Int) : rdAll (enc d ++ post) = (if post = [] then .ok d else .bad (enc d).length "more") := by
  have hg := (enc_ge d h).1
  have hl : (enc d ++ post).length = (enc d).length + post.length := List.length_append
  have e := run_enc d [] post [] ((enc d ++ post).length + 1 - dsz d) h hz (by show 0 + ddep d ≤ 20; omega)
  rw [List.nil_append, show (enc d ++ post).length + 1 - dsz d + dsz d = (enc d ++ post).length + 1 by omega] at e
  show rRun (enc d ++ post) ((enc d ++ post).length + 1) 0 [] = _
  refine Eq.trans e ?_
  show endO (enc d ++ post) (0 + (enc d).length) d = _
  unfold endO
  rw [Nat.zero_add]
  cases post with
  | nil => rw [if_neg (by rw [hl]; simp), if_pos rfl]
  | cons x r => rw [if_pos (by rw [hl, List.length_cons]; omega), if_neg (by simp)]
mutual
theorem run_cut : ∀ (d : PyData) (pre : List Int) (O : List (Nat × List PyData)) (k : Nat), isDat d = true → dsz d ≤ 60000 → O.length + ddep d ≤ 20 → rRun (pre ++ (enc d).dropLast) (k + dsz d) pre.length O = .bad (pre ++ (enc d).dropLast).length "end"
  | .int n, pre, O, k, h, hz, hd => by
    have e := rStep_cut (pre := pre) (w := 1) (hi := n / 256) (O := O) rfl (by intro z; exact absurd z.1 (by decide))
    show rRun (pre ++ [1, n / 256]) (k + 1) pre.length O = .bad (pre ++ [1, n / 256]).length "end"
    rw [rRun, e]
  | .str s, pre, O, k, h, hz, hd => by
    obtain ⟨h1, h2⟩ := signs_of h
    have hsl := str_len s
    show rRun (pre ++ (encS s).dropLast) (k + 1) pre.length O = .bad (pre ++ (encS s).dropLast).length "end"
    unfold encS
    rcases List.eq_nil_or_concat (s.cps.toList.map ixS) with e0 | ⟨L, x, e0⟩
    · rw [e0]
      have e := rStep_cut (pre := pre) (w := 2) (hi := (s.length : Int) / 256) (O := O) rfl (by intro z; exact absurd z.1 (by decide))
      show rRun (pre ++ [2, (s.length : Int) / 256]) (k + 1) pre.length O = .bad (pre ++ [2, (s.length : Int) / 256]).length "end"
      rw [rRun, e]
    · rw [List.concat_eq_append] at e0
      have hbs : ∀ b ∈ L, b < 55 := fun b hb => by
        have : b ∈ s.cps.toList.map ixS := by
          rw [e0]
          exact List.mem_append_left _ hb
        obtain ⟨c, hc, rfl⟩ := List.mem_map.mp this
        exact (ixS_lt (h2 c hc)).2
      have hL : L.length + 1 = s.length := by
        have := congrArg List.length e0
        rw [List.length_map, hsl, List.length_append] at this
        exact this.symm
      rw [e0]
      have ed : (2 :: (s.length : Int) / 256 :: (s.length : Int) % 256 :: (L ++ [x])).dropLast = 2 :: (s.length : Int) / 256 :: (s.length : Int) % 256 :: L := by
        rw [show (2 :: (s.length : Int) / 256 :: (s.length : Int) % 256 :: (L ++ [x])) = (2 :: (s.length : Int) / 256 :: (s.length : Int) % 256 :: L) ++ [x] from rfl, List.dropLast_concat]
      rw [ed]
      have e := rStep_head (pre := pre) (post := L) (w := 2) (hi := (s.length : Int) / 256) (lo := (s.length : Int) % 256) (O := O) rfl (by intro z; exact absurd z.1 (by decide))
      rw [if_neg (fun z => absurd z.1 (by decide)), if_neg (by decide), if_pos rfl, two_back, Int.toNat_natCast] at e
      have es := rStr_cut L (pre ++ [2, (s.length : Int) / 256, (s.length : Int) % 256]) hbs
      have ea : pre ++ [2, (s.length : Int) / 256, (s.length : Int) % 256] ++ L = pre ++ 2 :: (s.length : Int) / 256 :: (s.length : Int) % 256 :: L := by simp
      rw [ea, List.length_append, hL] at es
      rw [show pre.length + 3 = pre.length + [2, (s.length : Int) / 256, (s.length : Int) % 256].length from rfl, es] at e
      rw [rRun, e]
  | .tuple [], pre, O, k, h, hz, hd => by
    have hO : O.length ≠ 20 := by
      have : O.length + (1 + 0) ≤ 20 := hd
      omega
    have e := rStep_cut (pre := pre) (w := 3) (hi := 0) (O := O) rfl (fun z => hO z.2)
    show rRun (pre ++ [3, 0]) (k + 1) pre.length O = .bad (pre ++ [3, 0]).length "end"
    rw [rRun, e]
  | .tuple (d :: ds), pre, O, k, h, hz, hd => by
    have hd2 : O.length + (1 + ddeps (d :: ds)) ≤ 20 := hd
    have hlen := dszs_len (d :: ds)
    have hz2 : 1 + dszs (d :: ds) ≤ 60000 := hz
    have hlc : (d :: ds).length = ds.length + 1 := rfl
    have hO : O.length ≠ 20 := by omega
    have hne : encs (d :: ds) ≠ [] := by
      have hh : isDats (d :: ds) = true := h
      rw [isDats, Bool.and_eq_true] at hh
      rw [encs]
      intro z
      exact (enc_ge d hh.1).2 (List.append_eq_nil_iff.mp z).1
    have e := rStep_head (pre := pre) (post := (encs (d :: ds)).dropLast) (w := 3) (hi := ((d :: ds).length : Int) / 256) (lo := ((d :: ds).length : Int) % 256) (O := O) rfl (fun z => hO z.2)
    rw [two_back, if_pos ⟨rfl, by omega⟩, Int.toNat_natCast] at e
    have ih := run_cuts (d :: ds) (pre ++ [3, ((d :: ds).length : Int) / 256, ((d :: ds).length : Int) % 256]) O k (d :: ds).length [] h (by omega) (by omega) (by simp) (by simp)
    have ea : pre ++ [3, ((d :: ds).length : Int) / 256, ((d :: ds).length : Int) % 256] ++ (encs (d :: ds)).dropLast = pre ++ 3 :: ((d :: ds).length : Int) / 256 :: ((d :: ds).length : Int) % 256 :: (encs (d :: ds)).dropLast := by simp
    rw [ea, List.length_append] at ih
    have ed : (enc (.tuple (d :: ds))).dropLast = 3 :: ((d :: ds).length : Int) / 256 :: ((d :: ds).length : Int) % 256 :: (encs (d :: ds)).dropLast := by
      rw [enc]
      rw [show (3 :: ((d :: ds).length : Int) / 256 :: ((d :: ds).length : Int) % 256 :: encs (d :: ds)) = [3, ((d :: ds).length : Int) / 256, ((d :: ds).length : Int) % 256] ++ encs (d :: ds) from rfl, List.dropLast_append_of_ne_nil hne]
      rfl
    rw [ed, show k + dsz (.tuple (d :: ds)) = (k + dszs (d :: ds)) + 1 by rw [dsz]; omega, rRun, e]
    dsimp only
    exact ih
  | .none, _, _, _, h, _, _ => by cases h
  | .bool _, _, _, _, h, _, _ => by cases h
  | .list _, _, _, _, h, _, _ => by cases h
  | .dict _, _, _, _, h, _, _ => by cases h
theorem run_cuts : ∀ (ds : List PyData) (pre : List Int) (O : List (Nat × List PyData)) (k many : Nat) (es : List PyData), isDats ds = true → dszs ds ≤ 60000 → O.length + 1 + ddeps ds ≤ 20 → es.length + ds.length = many → ds ≠ [] →
    rRun (pre ++ (encs ds).dropLast) (k + dszs ds) pre.length ((many, es) :: O) = .bad (pre ++ (encs ds).dropLast).length "end"
  | [], _, _, _, _, _, _, _, _, _, h => absurd rfl h
  | [d], pre, O, k, many, es, h, hz, hd, hm, _ => by
    rw [isDats, isDats, Bool.and_true] at h
    rw [ddeps, ddeps] at hd
    rw [dszs, dszs] at hz
    have ih := run_cut d pre ((many, es) :: O) k h (by omega) (by rw [List.length_cons]; omega)
    have e1 : encs [d] = enc d := by rw [encs, encs, List.append_nil]
    have e2 : dszs [d] = dsz d := by rw [dszs, dszs]; omega
    rw [e1, e2, ih]
  | d :: d2 :: ds, pre, O, k, many, es, h, hz, hd, hm, _ => by
    rw [isDats, Bool.and_eq_true] at h
    rw [ddeps] at hd
    rw [dszs] at hz
    have hne : encs (d2 :: ds) ≠ [] := by
      have hh := h.2
      rw [isDats, Bool.and_eq_true] at hh
      rw [encs]
      intro z
      exact (enc_ge d2 hh.1).2 (List.append_eq_nil_iff.mp z).1
    have ih := run_enc d pre (encs (d2 :: ds)).dropLast ((many, es) :: O) (k + dszs (d2 :: ds)) h.1 (by omega) (by rw [List.length_cons]; omega)
    have ih2 := run_cuts (d2 :: ds) (pre ++ enc d) O k many (es ++ [d]) h.2 (by omega) (by omega) (by simp at hm ⊢; omega) (by simp)
    have e1 : (encs (d :: d2 :: ds)).dropLast = enc d ++ (encs (d2 :: ds)).dropLast := by
      rw [encs, List.dropLast_append_of_ne_nil hne]
    have e2 : k + dszs (d :: d2 :: ds) = k + dszs (d2 :: ds) + dsz d := by rw [dszs]; omega
    have e3 : pre ++ enc d ++ (encs (d2 :: ds)).dropLast = pre ++ (enc d ++ (encs (d2 :: ds)).dropLast) := List.append_assoc _ _ _
    rw [e3, List.length_append] at ih2
    rw [e1, e2, ih, closeD, if_pos (by simp at hm; omega)]
    show rRun _ _ _ _ = _
    exact ih2
end
theorem read_cut {d : PyData} (h : isDat d = true) (hz : dsz d ≤ 60000) (hd : ddep d ≤ 20) : rdAll (enc d).dropLast = .bad ((enc d).length - 1) "end" := by
  have hg := enc_ge d h
  have hl : (enc d).dropLast.length = (enc d).length - 1 := List.length_dropLast
  have h1 : 1 ≤ (enc d).length := Nat.le_trans (dsz_pos d) hg.1
  have e := run_cut d [] [] ((enc d).dropLast.length + 1 - dsz d) h hz (by show 0 + ddep d ≤ 20; omega)
  rw [List.nil_append, show (enc d).dropLast.length + 1 - dsz d + dsz d = (enc d).dropLast.length + 1 by omega] at e
  show rRun (enc d).dropLast ((enc d).dropLast.length + 1) 0 [] = _
  refine Eq.trans e ?_
  rw [hl]
theorem read_nine (bs : List Int) : rdAll (9 :: bs) = .bad 0 "word" := by
  show rRun (9 :: bs) ((9 :: bs).length + 1) 0 [] = _
  have e : rStep (9 :: bs) 0 [] = .bad 0 "word" := by
    unfold rStep rWord
    have g0 : gB (9 :: bs) 0 = 9 := rfl
    rw [if_neg (by rw [List.length_cons]; omega), g0, if_pos (by decide)]
  rw [rRun, e]
theorem read_sign : rdAll [2, 0, 1, 200] = .bad 3 "sign" := rfl
end Net
namespace NetR
open PySem
open Sem (wp)
theorem meetsT_new (l : Addr) (items : Array Value) (n : Nat) (dc1 : Option Addr) (sl : Array (Option Value)) :
    Meets (Builtin.«enumerate.__new__» ⟨[.type "enumerate", .ref l], []⟩) (fun _ R s => s.heap.get? l = some { cls := .type "tuple", dict := dc1, data := .seq items n, slots := sl } ∧
      R (.ok (.ret (.ref (s.heap.push { cls := .type "tuple_iterator", data := .fields #[.ref l, .int 0 0] }).objs.size)))
        { s with heap := (s.heap.push { cls := .type "tuple_iterator", data := .fields #[.ref l, .int 0 0] }).push { cls := .type "enumerate", data := .fields #[.none, .bool false, .ref s.heap.objs.size, rawInt 0, .none, .none] } }) :=
  .of_wp fun prog w A R s h => by
    obtain ⟨hp, g, d, tk, os⟩ := s; obtain ⟨hl, h⟩ := h
    have hsb := sub_enumerate
    have hTp : Heap.IsTuple (Shared.heap ⟨hp, g, d, tk, os⟩) l items := ⟨_, hl, rfl, n, rfl⟩
    wp_walk using PySem.AutoSeq1.wpAny_loadPart' hl
    refine wpAny_stack_any fun st => wpAny_pure ?_
    split
    · rename_i c _ _ _ _ _
      cases (c == Value.type "enumerate")
      · wp_walk using PySem.AutoSeq1.wpAny_loadPart' hl, wpAny_pyIter_tuple hTp
        exact ⟨_, rfl, h⟩
      · wp_walk using PySem.AutoSeq1.wpAny_loadPart' hl, wpAny_pyIter_tuple hTp
        exact ⟨_, rfl, h⟩
    · wp_walk using PySem.AutoSeq1.wpAny_loadPart' hl, wpAny_pyIter_tuple hTp
      exact ⟨_, rfl, h⟩
section
variable {prog : Program} {w : World} {A : Around} {E : Value → Shared → Prop} {s : Shared}
theorem callT_enum {l : Addr} {items : Array Value} {Q : Value → Shared → Prop} (hTp : s.heap.IsTuple l items)
    (h : ∀ h', IsEnum h' (s.heap.objs.size + 1) s.heap.objs.size 0 .none → h'.IsTupleIter s.heap.objs.size l 0 → h'.objs.size = s.heap.objs.size + 2 →
      (∀ b o, s.heap.get? b = some o → h'.get? b = some o) → Q (.ref (s.heap.objs.size + 1)) { s with heap := h' }) :
    wpAny (model prog w) A (call (.type "enumerate") [.ref l]) Q E s := by
  obtain ⟨⟨c, dc1, dt, sl⟩, hl, hc, n, hd⟩ := hTp
  replace hc : c = .type "tuple" := hc
  replace hd : dt = .seq items n := hd
  subst hc hd
  refine callType_new F.called_enumerate (by decide) (F.typeCall_enumerate_1 _) (F.newCall_enumerate_1 _) (fun obj => F.args_object_init_2 obj _) F.entry_enumerate_new
    (meetsT_new l items n dc1 sl) ⟨hl, ?_⟩
  have hz : (s.heap.push { cls := .type "tuple_iterator", data := .fields #[.ref l, .int 0 0] }).objs.size = s.heap.objs.size + 1 := Heap.size_push ..
  show _ ∧ _
  rw [hz]
  have he : IsEnum ((s.heap.push { cls := .type "tuple_iterator", data := .fields #[.ref l, .int 0 0] }).push
      { cls := .type "enumerate", data := .fields #[.none, .bool false, .ref s.heap.objs.size, rawInt 0, .none, .none] }) (s.heap.objs.size + 1) s.heap.objs.size 0 .none := by
    have := Heap.get?_push_size (s.heap.push { cls := .type "tuple_iterator", data := .fields #[.ref l, .int 0 0] })
      (o := { cls := .type "enumerate", data := .fields #[.none, .bool false, .ref s.heap.objs.size, rawInt 0, .none, .none] }) rfl
    rw [hz] at this; exact this
  refine ⟨⟨_, he, rfl⟩, h _ he ⟨_, Heap.get?_push_of_some _ (Heap.get?_push_size _ rfl), rfl, rfl⟩ (by rw [Heap.size_push, hz]) fun b o x => Heap.get?_push_of_some _ (Heap.get?_push_of_some _ x)⟩
theorem enumT_item {e it l : Addr} {i : Nat} {items : Array Value} {x old : Value} {Q : Value → Shared → Prop}
    (he : IsEnum s.heap e it i old) (hit : s.heap.IsTupleIter it l i) (hl : s.heap.IsTuple l items) (hx : items[i]? = some x) (hne : e ≠ it)
    (hQ : ∀ h', IsEnumOut h' e it ((i : Int) + 1) x s.heap.objs.size → h'.IsTupleIter it l (i + 1) →
      h'.get? s.heap.objs.size = some { cls := .type "tuple", data := .seq #[.int i s.toks, x] } → h'.objs.size = s.heap.objs.size + 1 →
      (∀ b o, b ≠ e → b ≠ it → s.heap.get? b = some o → h'.get? b = some o) → Q (.ref s.heap.objs.size) { s with heap := h', toks := s.toks + 1 }) :
    wpAny (model prog w) A (Builtin.«enumerate.__next__» ⟨[.ref e], []⟩) (fun fin s' => ∃ v, fin = .done (.ret v) ∧ Q v s') E s := by
  obtain ⟨hp, g, d, tk, os⟩ := s
  show wpAny _ _ (field (.ref e) 2 >>= _) _ _ _
  refine wpAny_bind (wpAny_field he rfl (x := .ref it) rfl ?_)
  refine wpAny_bind (RZ.nextOf_tuple_item hit hl hx fun w1 tw1 sw1 => ?_)
  replace sw1 : Heap.SameBut it hp w1 := sw1
  have ew1 : IsEnum w1 e it i old := (sw1.2 e hne).trans he
  show wpAny _ _ (field (.ref e) 3 >>= _) _ _ ⟨w1, g, d, tk, os⟩
  refine wpAny_bind (wpAny_field ew1 rfl (x := rawInt i) rfl ?_)
  show wpAny _ _ (field (.ref e) 4 >>= _) _ _ ⟨w1, g, d, tk, os⟩
  refine wpAny_bind (wpAny_field ew1 rfl (x := .none) rfl ?_)
  show wpAny _ _ (mkInt i >>= _) _ _ ⟨w1, g, d, tk, os⟩
  refine wpAny_bind (wpAny_mkInt ?_)
  show wpAny _ _ (setField (.ref e) 3 (rawInt ((i : Int) + 1)) >>= _) _ _ ⟨w1, g, d, tk + 1, os⟩
  refine wpAny_bind (wpAny_setField_rec ew1 (by simp) fun w2 ew2 sw2 => ?_)
  replace sw2 : Heap.SameBut e w1 w2 := sw2
  replace ew2 : IsEnum w2 e it ((i : Int) + 1) old := ew2
  show wpAny _ _ (setField (.ref e) 4 .none >>= _) _ _ ⟨w2, g, d, tk + 1, os⟩
  refine wpAny_bind (wpAny_setField_rec ew2 (by simp) fun w3 ew3 sw3 => ?_)
  replace sw3 : Heap.SameBut e w2 w3 := sw3
  replace ew3 : IsEnum w3 e it ((i : Int) + 1) old := ew3
  show wpAny _ _ (newTuple [.int i tk, x] >>= _) _ _ ⟨w3, g, d, tk + 1, os⟩
  refine wpAny_bind (wpAny_newTuple ?_)
  have ew4 : IsEnum (w3.push { cls := .type "tuple", data := .seq #[.int i tk, x] }) e it ((i : Int) + 1) old := Heap.get?_push_of_some _ ew3
  generalize hw4 : w3.push { cls := .type "tuple", data := .seq #[.int i tk, x] } = w4 at ew4
  have hsz : w3.objs.size = hp.objs.size := by rw [sw3.1, sw2.1, sw1.1]
  have hel : e < hp.objs.size := Heap.lt_size he
  have uw4 : w4.get? hp.objs.size = some { cls := .type "tuple", data := .seq #[.int i tk, x] } := by rw [← hw4, ← hsz]; exact Heap.get?_push_size _ rfl
  have zw4 : w4.objs.size = hp.objs.size + 1 := by rw [← hw4, Heap.size_push, hsz]
  have kw4 : ∀ b o, b ≠ e → b ≠ it → hp.get? b = some o → w4.get? b = some o := fun b o hbe hbi hb => by
    rw [← hw4]; exact Heap.get?_push_of_some _ (sw3.extBut b o hbe (sw2.extBut b o hbe (sw1.extBut b o hbi hb)))
  have tw4 : w4.IsTupleIter it l (i + 1) := by
    rw [← hw4]; obtain ⟨o, ho, r⟩ := (tw1.extBut sw2.extBut (Ne.symm hne)).extBut sw3.extBut (Ne.symm hne); exact ⟨o, Heap.get?_push_of_some _ ho, r⟩
  show wpAny _ _ (Builtin.SmallTypes.ownedTupleIsFree (.ref e) >>= _) _ _ ⟨w4, g, d, tk + 1, os⟩
  rw [hsz]
  clear hw4 ew3 sw3 ew2 sw2 ew1 sw1 tw1 hsz w3 w2 w1
  refine wpAny_bind ?_
  · unfold Builtin.SmallTypes.ownedTupleIsFree
    refine wpAny_bind (wpAny_field ew4 rfl (x := .none) rfl (wpAny_pure ?_))
    simp only [if_true]
    refine wpAny_bind (wpAny_rule ?_)
    refine wpAny_bind (wpAny_field ew4 rfl (x := old) rfl ?_)
    refine wpAny_bind (wpAny_setField_rec ew4 (by simp) fun w5 ew5 sw5 => ?_)
    replace sw5 : Heap.SameBut e w4 w5 := sw5
    replace ew5 : IsEnum w5 e it ((i : Int) + 1) x := ew5
    show wpAny _ _ (Builtin.SmallTypes.ownedTupleHandOut (.ref e) (.ref hp.objs.size) >>= _) _ _ ⟨w5, g, d, tk + 1, os⟩
    refine wpAny_bind ?_
    · unfold Builtin.SmallTypes.ownedTupleHandOut
      refine wpAny_bind (wpAny_setField_rec ew5 (by simp) fun w6 ew6 sw6 => ?_)
      replace sw6 : Heap.SameBut e w5 w6 := sw6
      replace ew6 : IsEnumOut w6 e it ((i : Int) + 1) x hp.objs.size := ew6
      refine wpAny_setField_rec ew6 (by simp) fun w7 ew7 sw7 => ?_
      replace sw7 : Heap.SameBut e w6 w7 := sw7
      replace ew7 : IsEnumOut w7 e it ((i : Int) + 1) x hp.objs.size := ew7
      refine wpAny_bind (wpAny_letGo (wpAny_pure ⟨_, rfl, hQ w7 ew7 ?_ ?_ ?_ ?_⟩))
      · exact ((tw4.extBut sw5.extBut (Ne.symm hne)).extBut sw6.extBut (Ne.symm hne)).extBut sw7.extBut (Ne.symm hne)
      · exact sw7.extBut _ _ (Nat.ne_of_gt hel) (sw6.extBut _ _ (Nat.ne_of_gt hel) (sw5.extBut _ _ (Nat.ne_of_gt hel) uw4))
      · rw [sw7.1, sw6.1, sw5.1, zw4]
      · exact fun b o hbe hbi hb => sw7.extBut b o hbe (sw6.extBut b o hbe (sw5.extBut b o hbe (kw4 b o hbe hbi hb)))
theorem enumT_next {e it l : Addr} {i : Nat} {items : Array Value} {x old : Value} {Q : Option Value → Shared → Prop}
    (he : IsEnum s.heap e it i old) (hit : s.heap.IsTupleIter it l i) (hl : s.heap.IsTuple l items) (hx : items[i]? = some x) (hne : e ≠ it)
    (hQ : ∀ h', IsEnumOut h' e it ((i : Int) + 1) x s.heap.objs.size → h'.IsTupleIter it l (i + 1) →
      h'.get? s.heap.objs.size = some { cls := .type "tuple", data := .seq #[.int i s.toks, x] } → h'.objs.size = s.heap.objs.size + 1 →
      (∀ b o, b ≠ e → b ≠ it → s.heap.get? b = some o → h'.get? b = some o) → Q (some (.ref s.heap.objs.size)) { s with heap := h', toks := s.toks + 1 }) :
    wpAny (model prog w) A (pyNext (.ref e)) Q E s := by
  have hT : s.TypeIs (.ref e) "enumerate" := ⟨_, he, rfl⟩
  unfold pyNext
  exact wpAny_bind (wpAny_attempt (wpAny_callSpecial?_slot (name := Str.ofString "__next__") hT F.slot_enumerate_next
    (wpAny_call_entry F.slot_enumerate_next hT F.entry_enumerate_next
      (enumT_item he hit hl hx hne fun h' a b c d k => wpAny_pure (hQ h' a b c d k)) (F.args_enumerate_next_1 _))))
theorem enumT_end {e it l : Addr} {i : Nat} {items : Array Value} {old : Value} {Q : Option Value → Shared → Prop} (hh : A.handled = none)
    (he : IsEnum s.heap e it i old) (hit : s.heap.IsTupleIter it l i) (hl : s.heap.IsTuple l items) (hx : items[i]? = none)
    (hQ : ∀ h', Heap.ExtBut it s.heap h' → Q none { s with heap := h' }) : wpAny (model prog w) A (pyNext (.ref e)) Q E s := by
  have hT : s.TypeIs (.ref e) "enumerate" := ⟨_, he, rfl⟩
  unfold pyNext
  refine wpAny_bind (wpAny_attempt (wpAny_callSpecial?_slot (name := Str.ofString "__next__") hT F.slot_enumerate_next
    (wpAny_call_entry F.slot_enumerate_next hT F.entry_enumerate_next ?_ (F.args_enumerate_next_1 _))))
  show wpAny _ _ (field (.ref e) 2 >>= _) _ _ _
  refine wpAny_bind (wpAny_field he rfl (x := .ref it) rfl ?_)
  refine wpAny_bind (RZ.nextOf_tuple_end hh hit hl hx fun h' x he' hx' => ?_)
  obtain ⟨o, ho, hc⟩ := hx'
  refine wpAny_bind (wpAny_isInstance (T := "StopIteration") (b := true) ⟨o, ho, hc⟩ isSubtype_stop ?_)
  exact wpAny_pure (hQ _ he')
end
end NetR
namespace NetR
open PySem PySem.Spec PyProof.Rows L2
def ItT (K : PySem.W.Frag) (a : Addr) : It :=
  ⟨fun i H => ∃ (xs : List V) (x : V), SqT K H a xs ∧ xs[i]? = some x, fun i H v H' => ∃ T x, v = .ref T ∧ H T = none ∧ H' = upd H T (.tup [.int (i : Nat), x]) ∧ ∀ xs, SqT K H a xs → xs[i]? = some x, fun i H => ∃ xs : List V, SqT K H a xs ∧ xs.length ≤ i⟩
theorem turn_enumT {P : Program} {w : World} {K : PySem.W.Frag} {elts : List Expr} {kk : Nat} {tpos : Pos} (a e it : Addr) :
    Turn P w K (.Tuple elts kk tpos) (ItT K a) [e, it] e (fun i h => (∃ old, IsEnum h e it ((i : Nat) : Int) old) ∧ h.IsTupleIter it a i ∧ e ≠ it) where
  mem := by simp
  obj := fun i h st b hb => by
    obtain ⟨⟨old, he⟩, ⟨o, ho, hc, hd⟩, _⟩ := st
    have e' : b = e ∨ b = it := by simpa using hb
    rcases e' with z | z
    · rw [z]; exact ⟨_, he, fun v q => nomatch q⟩
    · rw [z]; exact ⟨o, ho, fun v q => by rw [hd] at q; cases q⟩
  keep := fun i h h' st k => let ⟨⟨old, he⟩, hi, nei⟩ := st; ⟨⟨old, k e (by simp) _ he⟩, hi.at fun o q => k it (by simp) o q, nei⟩
  item := by
    intro X hP hw hK hc i pins s σ H E I hf st hg
    subst hP hw hK
    obtain ⟨⟨old, he⟩, hti, nei⟩ := st
    obtain ⟨xs, x, hq, hx⟩ := hg
    obtain ⟨its, rv, p, hz⟩ := I.tuple hq
    obtain ⟨u, hu, ru⟩ := rv.get hx
    have hel : e < s.heap.objs.size := Heap.lt_size he
    have hil : it < s.heap.objs.size := by obtain ⟨_, q, _⟩ := hti; exact Heap.lt_size q
    refine enumT_next he hti p (x := u) (by simpa using hu) nei fun h' ho hti' hT hs9 hk => ?_
    refine ⟨_, rfl, wpAny_letOwnedTupleGo_enum (s := { s with heap := h', toks := s.toks + 1 }) ho fun h'' he' sb => ?_⟩
    have hT2 : h''.get? s.heap.objs.size = some { cls := .type "tuple", data := .seq #[.int i s.toks, u] } := (sb.2 _ (Nat.ne_of_gt hel)).trans hT
    have new : ObjOk X.prog X.w (upd H s.heap.objs.size (.tup [.int (i : Nat), x])) h'' s.heap.objs.size (.tup [.int (i : Nat), x]) :=
      ⟨by show 2 ≤ sizeLine; decide, [.int i s.toks, u], .cons ⟨_, rfl⟩ (.cons ru .nil), ⟨_, hT2, rfl, _, rfl⟩⟩
    have I1 : Inv X pins σ (upd H s.heap.objs.size (.tup [.int (i : Nat), x])) { s with heap := h'', toks := s.toks + 1 } :=
      I.turnedNew (ch := [e, it]) (fun b ob hb q => (sb.2 b (fun z => hb (by simp [z]))).trans (hk b ob (fun z => hb (by simp [z])) (fun z => hb (by simp [z])) q)) hf (Nat.le_refl _) new
    refine ⟨.ref s.heap.objs.size, _, I1, rfl, ⟨_, x, rfl, I.hok.fresh (Nat.le_refl _), rfl, fun ys hy => by rw [I.tuple_inj hy hq]; exact hx⟩, ⟨⟨u, ?_⟩, hti'.at fun o q => (sb.2 it (Ne.symm nei)).trans q, nei⟩, fun b hb => ?_⟩
    · have e1 : ((i + 1 : Nat) : Int) = (i : Int) + 1 := by omega
      rw [e1]; exact he'
    · have hb' : b < s.heap.objs.size := by
        have e' : b = e ∨ b = it := by simpa using hb
        rcases e' with z | z
        · rw [z]; exact hel
        · rw [z]; exact hil
      rw [upd_ne (Nat.ne_of_lt hb')]
      exact (hf b hb).1
  done := by
    intro X hP hw hK hc i pins s σ H E I hf st hg
    subst hP hw hK
    obtain ⟨⟨old, he⟩, hti, nei⟩ := st
    obtain ⟨xs, hq, hx⟩ := hg
    obtain ⟨its, rv, p, hz⟩ := I.tuple hq
    obtain ⟨f0, f1, f2, f3, f4, f5⟩ := hf it (by simp)
    have hl := rv.length
    exact enumT_end (I.ok.hd hc) he hti p (by simp; omega) fun h' eb => ⟨rfl, I.turned (t' := s.toks) (fun b o hb q => eb b o hb q) f0 f1 f3 f4 f5⟩
  self := fun A i s Q E st h => let ⟨⟨_, he⟩, _⟩ := st; wpAny_pyIter_enum he h
def iEnumT (K : PySem.W.Frag) (ta : TA) : TI := fun σ H R => ta σ H fun vs H1 => ∃ a xs, vs = [.ref a] ∧ SqT K H1 a xs ∧ R (ItT K a) H1
theorem pi_enumT {X : Cx} {e : Expr} {ta : TA} {p pos tpos : Pos} {elts : List Expr} {kk : Nat} (hg : Gl X "enumerate") (hm : X.mg "enumerate" = none) (ha : PA X [e] ta) (hs : starEach [e] X.env = [(false, eval e X.env)] := by rfl) :
    PI X (.Tuple elts kk tpos) (.Call (.Name "enumerate" p) [e] [] pos) (iEnumT X.K ta) := by
  refine ⟨fun pins s σ H R I h => ?_⟩
  refine Call_ (ld_blt I hg hm boot_enumerate (PyProof.Rows.callWith_type1 (thn (ha.run pos pins s σ H _ I h) fun us s1 ⟨vs, H1, I1, r1, q1⟩ => ?_) hs rfl))
  obtain ⟨a, xs, ex, hq, q⟩ := q1
  subst ex
  cases r1 with
  | cons r rr =>
    cases rr
    cases r
    obtain ⟨its, rv, p', hz⟩ := I1.tuple hq
    refine callT_enum p' fun h' he hti hs9 hk => wpAny_pyIter_enum he ?_
    have I2 : Inv X pins σ H1 { s1 with heap := h' } := I1.kept (t' := s1.toks) hk
    refine ⟨s1.heap.objs.size + 1, [s1.heap.objs.size + 1, s1.heap.objs.size], _, _, H1, rfl, I2, turn_enumT a (s1.heap.objs.size + 1) s1.heap.objs.size, ⟨⟨.none, he⟩, hti, Nat.succ_ne_self _⟩, fun b hb => ?_, q⟩
    have e' : b = s1.heap.objs.size + 1 ∨ b = s1.heap.objs.size := by simpa using hb
    have hle : s1.heap.objs.size ≤ b := by
      rcases e' with z | z
      · rw [z]; exact Nat.le_add_right _ _
      · rw [z]; exact Nat.le_refl _
    exact I1.fpOk hle (I1.hok.fresh hle)
theorem walk_enumT {K : PySem.W.Frag} {a : Addr} {xs : List V} : Walk (ItT K a) xs.length (fun H => SqT K H a xs) (YPair (fun i => some (.int (i : Nat))) (fun i => xs[i]?)) := by
  refine ⟨fun i _ hi q => ⟨xs, xs[i], q, by simp [hi]⟩, fun _ q => ⟨xs, q, Nat.le_refl _⟩, fun i H v H' _ q y => ?_⟩
  obtain ⟨T, x, h1, h2, h3, h4⟩ := y
  exact ⟨T, .int (i : Nat), x, h1, h2, h3, rfl, h4 xs q⟩
end NetR
namespace Net
open PySem PySem.Spec PyProof.Rows L2 NetR
def wl : Int → List Int → List Int
  | _, [] => []
  | k, b :: r => k * b :: wl (k + 1) r
def sumB (bs : List Int) : List Int := [(wl 1 bs).sum % 65521 / 256, (wl 1 bs).sum % 65521 % 256]
def restOf (bs : List Int) : List Int := (bs.length : Int) :: (bs ++ List.replicate (61 - bs.length) 0)
def pageOf (bs : List Int) : List Int := sumB (restOf bs) ++ restOf bs
def pfault (bs : List Int) : Option (Int × Str) :=
  if bs.take 2 ≠ sumB (bs.drop 2) then some (0, "sum") else if 61 < gB bs 2 then some (2, "length") else match (List.range (64 - (3 + gB bs 2)).toNat).filter (fun j => !decide (gB bs ((3 + gB bs 2).toNat + j) = 0)) with
    | [] => none
    | j :: _ => some (3 + gB bs 2 + (j : Nat), "rest")
def intsOf : PyData → List Int
  | .tuple ds => ds.map fun d => match d with
    | .int n => n
    | _ => 0
  | _ => []
theorem intsOf_t (ns : List Int) : intsOf (.tuple (ns.map PyData.int)) = ns := by
  show (ns.map PyData.int).map _ = ns
  rw [List.map_map]
  exact List.map_id _
def pfD (d : PyData) : Option (Int × Str) := if (areBytes d && isTupOf d 64) = true then pfault (intsOf d) else some (0, "size")
theorem wl_len : ∀ (bs : List Int) (k : Int), (wl k bs).length = bs.length
  | [], _ => rfl
  | b :: r, k => by rw [wl, List.length_cons, List.length_cons, wl_len r]
theorem wl_get : ∀ (bs : List Int) (k : Int) (i : Nat) (b : Int), bs[i]? = some b → (wl k bs)[i]? = some ((k + i) * b)
  | [], _, i, b, h => by simp at h
  | c :: r, k, 0, b, h => by
    have e := Option.some.inj h
    subst e
    show some (k * c) = some ((k + (0 : Nat)) * c)
    rw [show k + ((0 : Nat) : Int) = k by omega]
  | c :: r, k, i + 1, b, h => by
    have ih := wl_get r (k + 1) i b h
    show (wl (k + 1) r)[i]? = _
    rw [ih, show k + 1 + (i : Int) = k + ((i + 1 : Nat) : Int) by omega]
def sp_sum_bytes : Sp := fun vs H Q _ => ∃ (t : Addr) (bs : List Int), vs = [.ref t] ∧ H t = some (.tup (bs.map V.int)) ∧ bs.length ≤ 1000 ∧ ∀ H' p, Same H H' → H' p = some (.tup ((sumB bs).map V.int)) → Q (.ref p) H'
def sp_sealed (CR : Addr) : Sp := fun vs H Q E => ∃ v d, vs = [v] ∧ Rp H v d ∧ dsz d ≤ 100001 ∧ ((areBytes d && decide ((intsOf d).length ≤ 61)) = false → RfE CR H "body" E) ∧
  ∀ bs : List Int, d = .tuple (bs.map PyData.int) → bs.length ≤ 61 → bs.all byteB = true → ∀ H' p, Same H H' → H' p = some (.tup ((pageOf bs).map V.int)) → Q (.ref p) H'
def FltAt (H : Hp) (u : V) : Option (Int × Str) → Prop
  | none => u = .non
  | some (n, z) => ∃ p, u = .ref p ∧ H p = some (.tup [.int n, .str z])
def sp_page_fault : Sp := fun vs H Q _ => ∃ v d, vs = [v] ∧ Rp H v d ∧ dsz d ≤ 100001 ∧ ∀ H' u, Same H H' → FltAt H' u (pfD d) → Q u H'
def sp_is_page : Sp := fun vs H Q _ => ∃ v d, vs = [v] ∧ Rp H v d ∧ dsz d ≤ 100001 ∧ ∀ H', Same H H' → Q (.bl (pfD d).isNone) H'
def sp_body_of (CB : Addr) : Sp := fun vs H Q E => ∃ v d, vs = [v] ∧ Rp H v d ∧ dsz d ≤ 100001 ∧ match pfD d with
  | some (n, z) => BbE CB H n z E
  | none => ∀ H' p, Same H H' → H' p = some (.tup ((((intsOf d).drop 3).take (gB (intsOf d) 2).toNat).map V.int)) → Q (.ref p) H'
section
variable {P : Program} {w : World} {K : PySem.W.Frag} {mg : Str → Option Value} {base : Heap} {CR fR ccR CB fB ccB CN : Addr}
abbrev s_sum_bytes : Stmt := top 33
theorem sc_sum_bytes : FnScope ["some", "at", "byte"] ["some"] (defScope s_sum_bytes) := ⟨rfl, rfl, rfl, by decide +kernel, rfl, by decide +kernel, by decide +kernel⟩
theorem ok_sum_bytes {f f_two : Addr} {fd fd1 : FuncData} (F : Fun K "sum_bytes" "sum_bytes" s_sum_bytes f fd) (T : Tx mg) (d_two : Ok1 P w K mg base CX0 1 "two" ["number"] sp_two f_two fd1) : FnOk P w K mg base CX0 2 f fd ["some"] sp_sum_bytes := by
  refine F.ok sc_sum_bytes (fun vs H Q E h => ?_) (fun cdv A outer s H vs Q E hr h => ?_)
  · obtain ⟨t, bs, rfl, _⟩ := h
    rfl
  · obtain ⟨t, bs, rfl, ht, hl, q⟩ := h
    obtain ⟨t_PRIME, c_PRIME⟩ := T.c_PRIME
    refine ⟨_, (pss_one (ps_ret (pe_callTy call_tuple_of (by rfl) T.n_tuple (by decide +kernel) (pa_cons (pe_call d_two.ok (hr.mono (by decide)) rfl d_two.g d_two.kp d_two.b .nil pass0 (pa_cons (pe_op op_mod (pe_callB (cr_sum rfl) (by rfl) T.n_sum (by decide +kernel) (pa_cons (pe_lc (own := [("at", 1), ("byte", 2)]) (g := (gTup K 2 (gCons (gName 1) (gCons (gName 2) gNil)))) (tt := tYes) rfl sc_sum_bytes.nd (pi_enumT (by rfl) T.n_enumerate (pa_cons (pv 0) pa_nil)) (blkOk_by (N := ["some", "at", "byte"]) (sc := defScope s_sum_bytes) (by decide +kernel)) (fun _ _ _ _ _ => by exact pg_tup rfl (pgs_cons (pg_name (i := 1) sc_sum_bytes.nd rfl (Or.inl rfl)) (pgs_cons (pg_name (i := 2) sc_sum_bytes.nd rfl (Or.inl rfl)) pgs_nil))) (fun _ _ _ _ _ => pts_nil) (fun _ _ _ _ _ => (pe_op op_mul (pe_op op_add (pv 1) pe_int) (pv 2)))) pa_nil)) (pe_glob (v := .int 65521) rfl c_PRIME ⟨_, rfl⟩)) pa_nil)) pa_nil)))), ?_⟩
    have hbig := sl_big
    refine ⟨_, rfl, t, _, rfl, .inl (.inl ht), fun D hD => lc_it (walk_enumT (xs := bs.map V.int)) (fun i H1 => Fill H D ((wl 1 bs).take i |>.map V.int) H1) (.start hD) (fun i H1 _ f => .inl (.inl (f.same _ _ ht))) ?_ ?_⟩
    · rintro i x H1 H1' hi f ⟨T1, y1, y2, rfl, hT, rfl, e1, e2⟩
      have e1 := Option.some.inj e1
      subst e1
      have e2 : (bs.map V.int)[i]? = some y2 := e2
      rw [List.getElem?_map] at e2
      obtain ⟨b, hb, rfl⟩ := Option.map_eq_some_iff.mp e2
      have hw := wl_get bs 1 i b hb
      have hi2 : i < bs.length := (List.getElem?_eq_some_iff.mp hb).1
      have f2 := f.ext (same_upd (o := .tup [.int ((i : Nat) : Int), .int b]) hT)
      refine ⟨T1, _, rfl, .inl (.inl upd_same), rfl, _, _, rfl, _, _, rfl, rfl, rfl, _, rfl, _, _, rfl, rfl, _, rfl, _, _, rfl, rfl, .inl ⟨by omega, by omega⟩, _, f2.at_, ?_, f2.add ?_⟩
      · rw [List.length_map]
        exact take_len_le (by rw [wl_len]; omega)
      · rw [take_add hw, List.map_append]
        show _ = _ ++ [V.int ((((i : Nat) : Int) + 1) * b)]
        rw [Int.add_comm 1 ((i : Nat) : Int)]
        rfl
    · intro H1 f
      rw [List.length_map, ← wl_len bs 1, List.take_length] at f
      refine ⟨D, wl 1 bs, rfl, SqL.of f.at_, _, _, rfl, rfl, (by show (0 : Int) < 65521; decide), _, rfl, fun p hp => ?_⟩
      refine ⟨p, _, rfl, .inl ⟨SqL.of upd_same, fun p2 hp2 => ?_⟩⟩
      exact q _ p2 (f.same.trans ((same_upd hp).trans (same_upd hp2))) upd_same
theorem sumB_len (bs : List Int) : (sumB bs).length = 2 := rfl
theorem restOf_len {bs : List Int} (h : bs.length ≤ 61) : (restOf bs).length = 62 := by
  unfold restOf
  rw [List.length_cons, List.length_append, List.length_replicate]
  omega
theorem pageOf_len {bs : List Int} (h : bs.length ≤ 61) : (pageOf bs).length = 64 := by
  unfold pageOf
  rw [List.length_append, sumB_len, restOf_len h]
theorem rep_flat (k : Nat) : (List.replicate k [V.int 0]).flatten = (List.replicate k (0 : Int)).map V.int := by
  induction k with
  | zero => rfl
  | succ k ih =>
    rw [List.replicate_succ, List.flatten_cons, ih, List.replicate_succ, List.map_cons]
    rfl
abbrev s_sealed : Stmt := top 34
theorem sc_sealed : FnScope ["body", "rest"] ["body"] (defScope s_sealed) := ⟨rfl, rfl, rfl, by decide +kernel, rfl, by decide +kernel, by decide +kernel⟩
theorem ok_sealed {f f_are_bytes f_sum_bytes : Addr} {fd fd1 fd2 : FuncData} (F : Fun K "sealed" "sealed" s_sealed f fd) (T : Tx mg) (TE : Tex P K mg CR fR ccR CB fB ccB CN) (d_are_bytes : Ok1 P w K mg base CX0 4 "are_bytes" ["thing"] sp_are_bytes f_are_bytes fd1)
    (d_sum_bytes : Ok1 P w K mg base CX0 2 "sum_bytes" ["some"] sp_sum_bytes f_sum_bytes fd2) : FnOk P w K mg base (L2.CX P w) 5 f fd ["body"] (sp_sealed CR) := by
  refine F.okX sc_sealed (fun vs H Q E h => ?_) (fun cdv A outer s H vs Q E hr h => ?_)
  · obtain ⟨v, d, rfl, _⟩ := h
    rfl
  · obtain ⟨v, d, rfl, hv, hsz, qN, qY⟩ := h
    obtain ⟨t_MOST_BODY, c_MOST_BODY⟩ := T.c_MOST_BODY
    refine ⟨_, (pss_cons (ps_if (PW.pt (pw_or (pt_not (pt_val (pe_call d_are_bytes.ok (hr.mono (by decide)) rfl d_are_bytes.g d_are_bytes.kp d_are_bytes.b .nil pass0 (pa_cons (pv 0) pa_nil)))) (pw_or1 (pt_cmpR op_gt (pe_callB call_len (by rfl) T.n_len (by decide +kernel) (pa_cons (pv 0) pa_nil)) (pe_glob (v := .int 61) rfl c_MOST_BODY ⟨_, rfl⟩) (nomark _))))) (pss_one (ps_raise rfl (takes_of rfl rfl rfl rfl) (pmk_rf TE.xRF TE.g_Refused TE.nRF hr (by decide) (pa_cons pe_str pa_nil)))) pss_nil)
      (pss_cons (ps_set (i := 1) sc_sealed.nd rfl (Or.inl rfl) (pe_tup (pa_cons (pe_callB call_len (by rfl) T.n_len (by decide +kernel) (pa_cons (pv 0) pa_nil)) (StX.pa_star (pv 0) (StX.pa_star (pe_op op_rep (pe_lst (pa_cons pe_int pa_nil)) (pe_op op_sub (pe_glob (v := .int 61) rfl c_MOST_BODY ⟨_, rfl⟩) (pe_callB call_len (by rfl) T.n_len (by decide +kernel) (pa_cons (pv 0) pa_nil)))) pa_nil)))))
      (pss_one (ps_ret (pe_tup (StX.pa_star (pe_call d_sum_bytes.ok (hr.mono (by decide)) rfl d_sum_bytes.g d_sum_bytes.kp d_sum_bytes.b .nil pass0 (pa_cons (pv 1) pa_nil)) (StX.pa_star (pv 1) pa_nil))))))), ?_⟩
    have hbig := sl_big
    refine ⟨v, rfl, v, d, rfl, hv, by omega, fun H1 s1 => ⟨_, rfl, ?_⟩⟩
    cases eb : areBytes d with
    | false => exact iteT (iteT ⟨_, rfl, fun e he => qN (by rw [eb]; rfl) _ e (s1.trans (same_upd he)) upd_same⟩)
    | true =>
    obtain ⟨bs, rfl⟩ := areInts_of (areBytes_ints eb)
    obtain ⟨t, rfl, ht⟩ := rp_ints hv
    rw [eb, intsOf_t, Bool.true_and] at qN
    have hb : bs.all byteB = true := by rw [← areBytes_int]; exact eb
    have hszb : bs.length ≤ 100000 := by
      rw [dsz, dszs_ints] at hsz
      omega
    have ht1 := s1 _ _ ht
    refine iteF ⟨_, rfl, _, _, rfl, .inr ⟨_, .inl (.inl ht1), rfl⟩, _, _, rfl, rfl, _, rfl, ?_⟩
    rw [List.length_map]
    rcases Nat.lt_or_ge 61 bs.length with hl | hl
    · rw [decide_eq_true (show (61 : Int) < (bs.length : Int) by omega)]
      exact iteT ⟨_, rfl, fun e he => qN (decide_eq_false (Nat.not_le_of_gt hl)) _ e (s1.trans (same_upd he)) upd_same⟩
    have q := qY bs rfl hl hb
    rw [show decide ((61 : Int) < (bs.length : Int)) = false from decide_eq_false (by omega)]
    refine iteF ⟨_, rfl, _, _, rfl, .inr ⟨_, .inl (.inl ht1), rfl⟩, _, rfl, t, _, rfl, .inl (.inl (.inl ht1)), (by show 1 ≤ sizeLine; omega), fun z hz => ?_⟩
    have s2 := s1.trans (same_upd (o := .lst [.int 0]) hz)
    have ht2 := s2 _ _ ht
    refine ⟨_, rfl, _, _, rfl, .inr ⟨_, .inl (.inl ht2), rfl⟩, _, _, rfl, rfl, z, _, _, rfl, rfl, upd_same, ?_, ?_, ?_, fun r hr2 => ?_⟩
    · rw [List.length_map]; omega
    · rw [List.length_map]; omega
    · rw [List.length_map]; show 1 * _ ≤ _; omega
    have s3 := s2.trans (same_upd (o := .lst (List.replicate ((61 : Int) - ((bs.map V.int).length : Int)).toNat [V.int 0]).flatten) hr2)
    have er : (V.int ((bs.map V.int).length : Int) :: (bs.map V.int ++ ((List.replicate ((61 : Int) - ((bs.map V.int).length : Int)).toNat [V.int 0]).flatten ++ []))) = (restOf bs).map V.int := by
      rw [List.append_nil, rep_flat, List.length_map, show ((61 : Int) - (bs.length : Int)).toNat = 61 - bs.length by omega]
      unfold restOf
      rw [List.map_cons, List.map_append]
    refine ⟨r, _, rfl, .inr (SqL.of upd_same), ?_, fun p hp => ?_⟩
    · show (V.int ((bs.map V.int).length : Int) :: (bs.map V.int ++ ((List.replicate ((61 : Int) - ((bs.map V.int).length : Int)).toNat [V.int 0]).flatten ++ []))).length ≤ sizeLine
      rw [er, List.length_map, restOf_len hl]
      omega
    have hp2 := @upd_same (upd (upd H1 z (.lst [.int 0])) r (.lst (List.replicate ((61 : Int) - ((bs.map V.int).length : Int)).toNat [V.int 0]).flatten)) p (.tup (V.int ((bs.map V.int).length : Int) :: (bs.map V.int ++ ((List.replicate ((61 : Int) - ((bs.map V.int).length : Int)).toNat [V.int 0]).flatten ++ []))))
    have s4 := s3.trans (same_upd (o := .tup (V.int ((bs.map V.int).length : Int) :: (bs.map V.int ++ ((List.replicate ((61 : Int) - ((bs.map V.int).length : Int)).toNat [V.int 0]).flatten ++ [])))) hp)
    refine ⟨_, rfl, p, restOf bs, rfl, Eq.trans hp2 (congrArg (fun l => some (HO.tup l)) er), by rw [restOf_len hl]; omega, fun H5 p5 s5 hp5 => ?_⟩
    refine ⟨p5, _, rfl, .inl (.inl (.inl hp5)), _, rfl, p, _, rfl, .inl (.inl (.inl (s5 _ _ hp2))), ?_, fun p6 hp6 => ?_⟩
    · show ((sumB (restOf bs)).map V.int ++ (_ ++ [])).length ≤ sizeLine
      rw [er, List.append_nil, List.length_append, List.length_map, List.length_map, restOf_len hl]
      show 2 + 62 ≤ sizeLine
      omega
    refine q _ p6 (s4.trans (s5.trans (same_upd hp6))) (Eq.trans upd_same ?_)
    refine congrArg (fun l => some (HO.tup l)) ?_
    rw [er, List.append_nil]
    unfold pageOf
    rw [List.map_append]
end
end Net
namespace Net
open PySem PySem.Spec PyProof.Rows L2 NetR
theorem gB_get {bs : List Int} {j : Nat} (hj : j < bs.length) : (bs.map V.int)[j]? = some (.int (gB bs j)) := by
  rw [List.getElem?_map, List.getElem?_eq_getElem hj]
  unfold gB
  rw [List.getD_eq_getElem?_getD, List.getElem?_eq_getElem hj]
  rfl
theorem all_byte {bs : List Int} (h : bs.all byteB = true) : ∀ b ∈ bs, 0 ≤ b ∧ b ≤ 255 := fun b hb => by
  have := List.all_eq_true.mp h b hb
  unfold byteB at this
  rw [Bool.and_eq_true] at this
  exact ⟨of_decide_eq_true this.1, of_decide_eq_true this.2⟩
section
variable {P : Program} {w : World} {K : PySem.W.Frag} {mg : Str → Option Value} {base : Heap} {CR fR ccR CB fB ccB CN : Addr}
abbrev s_page_fault : Stmt := top 35
theorem sc_page_fault : FnScope ["thing", "rest", "at"] ["thing"] (defScope s_page_fault) := ⟨rfl, rfl, rfl, by decide +kernel, rfl, by decide +kernel, by decide +kernel⟩
theorem ok_page_fault {f f_are_bytes f_is_tuple_of f_sum_bytes : Addr} {fd fd1 fd2 fd3 : FuncData} (F : Fun K "page_fault" "page_fault" s_page_fault f fd) (T : Tx mg) (d_are_bytes : Ok1 P w K mg base CX0 4 "are_bytes" ["thing"] sp_are_bytes f_are_bytes fd1)
    (d_is_tuple_of : Ok1 P w K mg base CX0 1 "is_tuple_of" ["thing", "many"] sp_is_tuple_of f_is_tuple_of fd2) (d_sum_bytes : Ok1 P w K mg base CX0 2 "sum_bytes" ["some"] sp_sum_bytes f_sum_bytes fd3) : FnOk P w K mg base CX0 5 f fd ["thing"] sp_page_fault := by
  refine F.ok sc_page_fault (fun vs H Q E h => ?_) (fun cdv A outer s H vs Q E hr h => ?_)
  · obtain ⟨v, d, rfl, _⟩ := h
    rfl
  · obtain ⟨v, d, rfl, hv, hsz, q⟩ := h
    obtain ⟨t_HEAD, c_HEAD⟩ := T.c_HEAD
    obtain ⟨t_MOST_BODY, c_MOST_BODY⟩ := T.c_MOST_BODY
    obtain ⟨t_SIZE, c_SIZE⟩ := T.c_SIZE
    refine ⟨_, (pss_cons (ps_if (PW.pt (pw_or (pt_not (pt_val (pe_call d_are_bytes.ok (hr.mono (by decide)) rfl d_are_bytes.g d_are_bytes.kp d_are_bytes.b .nil pass0 (pa_cons (pv 0) pa_nil)))) (pw_or1 (pt_not (pt_val (pe_call d_is_tuple_of.ok (hr.mono (by decide)) rfl d_is_tuple_of.g d_is_tuple_of.kp d_is_tuple_of.b .nil pass0 (pa_cons (pv 0) (pa_cons (pe_glob (v := .int 64) rfl c_SIZE ⟨_, rfl⟩) pa_nil)))))))) (pss_one (ps_ret (pe_tup (pa_cons pe_int (pa_cons pe_str pa_nil))))) pss_nil)
      (pss_cons (ps_if (pt_cmpR (op_neTI hr.units) (pe_slice sl_tupA (pv 0) po_none (po_some pe_int)) (pe_call d_sum_bytes.ok (hr.mono (by decide)) rfl d_sum_bytes.g d_sum_bytes.kp d_sum_bytes.b .nil pass0 (pa_cons (pe_slice sl_tupA (pv 0) (po_some pe_int) po_none) pa_nil)) (nomark _)) (pss_one (ps_ret (pe_tup (pa_cons pe_int (pa_cons pe_str pa_nil))))) pss_nil)
      (pss_cons (ps_if (pt_cmpR op_gt (pe_ix ix_tup (pv 0) pe_int (fun _ _ => rfl)) (pe_glob (v := .int 61) rfl c_MOST_BODY ⟨_, rfl⟩) (nomark _)) (pss_one (ps_ret (pe_tup (pa_cons pe_int (pa_cons pe_str pa_nil))))) pss_nil)
      (pss_cons (ps_setLc (i := 1) (own := [("at", 2)]) (g := gName 2) (tt := (tTest (tOp rNe (tOp (rIxT K) (tVar 0) (tVar 2)) (tC (.int 0))))) rfl sc_page_fault.nd rfl rfl (sw_true rfl rfl rfl (by decide +kernel)) (pi_range2 (by rfl) T.n_range (pa_cons (pe_op op_add (pe_glob (v := .int 3) rfl c_HEAD ⟨_, rfl⟩) (pe_ix ix_tup (pv 0) pe_int (fun _ _ => rfl))) (pa_cons (pe_glob (v := .int 64) rfl c_SIZE ⟨_, rfl⟩) pa_nil))) (blkOk_by (N := ["thing", "rest", "at"]) (sc := defScope s_page_fault) (by decide +kernel)) (fun _ _ _ _ _ => pg_name (i := 2) sc_page_fault.nd rfl (Or.inl rfl)) (fun _ _ _ _ _ => by exact pts_one (pt_cmpR op_ne (pe_ix ix_tup (pv 0) (pv 2) (fun _ _ => rfl)) pe_int (nomark _))) (fun _ _ _ _ _ => (pv 2)))
      (pss_one (ps_ret (pe_ifExp (pt_truth (pv 1) (by intro _; rfl)) (pe_tup (pa_cons (pe_ix ix_list (pv 1) pe_int (fun _ _ => rfl)) (pa_cons pe_str pa_nil))) pe_non))))))), ?_⟩
    have hbig := sl_big
    refine ⟨v, rfl, v, d, rfl, hv, by omega, fun H1 s1 => ⟨_, rfl, ?_⟩⟩
    cases eb : areBytes d with
    | false =>
      have e : pfD d = some ((0 : Int), ("size" : Str)) := by
        unfold pfD
        rw [eb]
        exact if_neg (fun z => Bool.noConfusion z)
      rw [e] at q
      exact iteT (iteT ⟨(by show 2 ≤ sizeLine; omega), fun p hp => q _ _ (s1.trans (same_upd hp)) ⟨p, rfl, upd_same⟩⟩)
    | true =>
      refine iteF ⟨v, rfl, v, d, 64, rfl, hv.same s1, _, rfl, ?_⟩
      cases et : isTupOf d 64 with
      | false =>
        have e : pfD d = some ((0 : Int), ("size" : Str)) := by
          unfold pfD
          rw [et, Bool.and_false]
          exact if_neg (fun z => Bool.noConfusion z)
        rw [e] at q
        exact iteT ⟨(by show 2 ≤ sizeLine; omega), fun p hp => q _ _ (s1.trans (same_upd hp)) ⟨p, rfl, upd_same⟩⟩
      | true =>
        obtain ⟨bs, rfl⟩ := areInts_of (areBytes_ints eb)
        have e : pfD (.tuple (bs.map PyData.int)) = pfault bs := by
          unfold pfD
          rw [et, eb, intsOf_t]
          exact if_pos rfl
        rw [e] at q
        have hl : bs.length = 64 := by
          have z : decide ((((bs.map PyData.int).length : Nat) : Int) = 64) = true := et
          rw [List.length_map] at z
          have := of_decide_eq_true z
          omega
        have hby := all_byte ((areBytes_int bs) ▸ eb)
        obtain ⟨t, rfl, ht⟩ := rp_ints (hv.same s1)
        have hlm : (bs.map V.int).length = 64 := by rw [List.length_map]; exact hl
        refine iteF ?_
        refine ⟨_, rfl, 2, rfl, sl_new ht fun H2 p2 s2 hp2 => ⟨_, rfl, 2, rfl, ?_⟩⟩
        dsimp only [tNoPart]
        refine sl_new (s2 _ _ ht) fun H3 p3 s3 hp3 => ?_
        rw [show ((2 : Int)) = ((2 : Nat) : Int) from rfl, cut_take, ← List.map_take] at hp2
        rw [show ((2 : Int)) = ((2 : Nat) : Int) from rfl, cut_drop, ← List.map_drop] at hp3
        refine ⟨p3, _, rfl, hp3, by rw [List.length_drop]; omega, fun H4 p4 s4 hp4 => ?_⟩
        have s24 := s2.trans (s3.trans s4)
        refine ⟨p2, p4, bs.take 2, sumB (bs.drop 2), rfl, rfl, .inl (.inl ((s3.trans s4) _ _ hp2)), .inl (.inl hp4), _, rfl, ?_⟩
        unfold pfault at q
        by_cases c1 : bs.take 2 = sumB (bs.drop 2)
        · rw [decide_eq_true c1]
          rw [if_neg (fun z => z c1)] at q
          have ht4 := s24 _ _ ht
          have h2 := gB_byte hby 2
          refine iteF ⟨_, rfl, t, _, _, _, rfl, rfl, .inl (.inl ht4), at_of (j := 2) rfl (gB_get (by omega)), _, _, rfl, rfl, _, rfl, ?_⟩
          by_cases c2 : 61 < gB bs 2
          · rw [decide_eq_true c2]
            rw [if_pos c2] at q
            exact iteT ⟨(by show 2 ≤ sizeLine; omega), fun p hp => q _ _ (s1.trans (s24.trans (same_upd hp))) ⟨p, rfl, upd_same⟩⟩
          · rw [decide_eq_false c2]
            rw [if_neg c2] at q
            have hn : ((64 : Int) - (3 + gB bs 2)).toNat + (3 + gB bs 2).toNat = 64 := by omega
            generalize hL : (List.range ((64 : Int) - (3 + gB bs 2)).toNat).filter (fun j => !decide (gB bs ((3 + gB bs 2).toNat + j) = 0)) = L at q
            refine iteF ⟨_, rfl, t, _, _, _, rfl, rfl, .inl (.inl ht4), at_of (j := 2) rfl (gB_get (by omega)), _, _, rfl, rfl, _, _, rfl, ⟨by omega, by omega, by omega, by omega⟩, fun D hD => lc_it (walk_range (lo := 3 + gB bs 2) (n := ((64 : Int) - (3 + gB bs 2)).toNat))
              (fun i H5 => Fill H4 D (((List.range i).filter (fun j => !decide (gB bs ((3 + gB bs 2).toNat + j) = 0))).map fun j => V.int (3 + gB bs 2 + (j : Nat))) H5) (.start hD) (fun _ _ _ _ => True.intro) ?_ ?_⟩
            · rintro i x H5 H5' hi f5 ⟨rfl, rfl⟩
              have hji : ((3 + gB bs 2).toNat + i : Nat) < bs.length := by omega
              refine ⟨rfl, _, rfl, _, rfl, t, _, _, _, rfl, rfl, .inl (.inl (f5.same _ _ ht4)), at_of (j := (3 + gB bs 2).toNat + i) (by omega) (gB_get hji), rfl, _, rfl, ?_⟩
              have er : List.range (i + 1) = List.range i ++ [i] := List.range_succ
              by_cases cz : gB bs ((3 + gB bs 2).toNat + i) = 0
              · rw [show decide (V.int (gB bs ((3 + gB bs 2).toNat + i)) = V.int 0) = true from decide_eq_true (by rw [cz])]
                refine iteF ?_
                rw [er, List.filter_append]
                have e0 : [i].filter (fun j => !decide (gB bs ((3 + gB bs 2).toNat + j) = 0)) = [] := by
                  rw [List.filter_cons_of_neg (by rw [decide_eq_true cz]; exact fun z => Bool.noConfusion z)]
                  rfl
                rw [e0, List.append_nil]
                exact f5
              · rw [show decide (V.int (gB bs ((3 + gB bs 2).toNat + i)) = V.int 0) = false from decide_eq_false (fun z => by injection z with z; exact cz z)]
                refine iteT ⟨_, rfl, _, f5.at_, ?_, f5.add ?_⟩
                · rw [List.length_map]
                  have := List.length_filter_le (fun j => !decide (gB bs ((3 + gB bs 2).toNat + j) = 0)) (List.range i)
                  rw [List.length_range] at this
                  omega
                · rw [er, List.filter_append]
                  have e0 : [i].filter (fun j => !decide (gB bs ((3 + gB bs 2).toNat + j) = 0)) = [i] := by
                    rw [List.filter_cons_of_pos (by rw [decide_eq_false cz]; rfl)]
                    rfl
                  rw [e0, List.map_append]
                  rfl
            · intro H5 f5
              rw [hL] at f5
              have sA := s1.trans (s24.trans f5.same)
              refine ⟨_, rfl, !(L.map fun j => V.int (3 + gB bs 2 + (j : Nat))).isEmpty, .inl ⟨_, SqL.of f5.at_, rfl⟩, ?_⟩
              cases L with
              | nil => exact iteF (q _ _ sA rfl)
              | cons j L' => exact iteT ⟨_, rfl, D, _, _, _, rfl, rfl, SqL.of f5.at_, at_of (j := 0) rfl rfl, (by show 2 ≤ sizeLine; omega), fun p hp => q _ _ (sA.trans (same_upd hp)) ⟨p, rfl, upd_same⟩⟩
        · rw [decide_eq_false c1]
          rw [if_pos c1] at q
          exact iteT ⟨(by show 2 ≤ sizeLine; omega), fun p hp => q _ _ (s1.trans (s24.trans (same_upd hp))) ⟨p, rfl, upd_same⟩⟩
abbrev s_is_page : Stmt := top 36
theorem sc_is_page : FnScope ["thing"] ["thing"] (defScope s_is_page) := ⟨rfl, rfl, rfl, by decide +kernel, rfl, by decide +kernel, by decide +kernel⟩
theorem ok_is_page {f f_page_fault : Addr} {fd fd1 : FuncData} (F : Fun K "is_page" "is_page" s_is_page f fd) (d_page_fault : Ok1 P w K mg base CX0 5 "page_fault" ["thing"] sp_page_fault f_page_fault fd1) : FnOk P w K mg base CX0 6 f fd ["thing"] sp_is_page := by
  refine F.ok sc_is_page (fun vs H Q E h => ?_) (fun cdv A outer s H vs Q E hr h => ?_)
  · obtain ⟨v, d, rfl, _⟩ := h
    rfl
  · obtain ⟨v, d, rfl, hv, hsz, q⟩ := h
    refine ⟨_, (pss_one (ps_ret (pe_cmpR op_isN (pe_call d_page_fault.ok (hr.mono (by decide)) rfl d_page_fault.g d_page_fault.kp d_page_fault.b .nil pass0 (pa_cons (pv 0) pa_nil)) pe_non (nomark _)))), ?_⟩
    refine ⟨v, rfl, v, d, rfl, hv, hsz, fun H1 u s1 hu => ⟨rfl, ?_⟩⟩
    have e : decide (u = V.non) = (pfD d).isNone := by
      cases ep : pfD d with
      | none =>
        rw [ep] at hu
        exact decide_eq_true hu
      | some x =>
        rw [ep] at hu
        obtain ⟨p, e, _⟩ := hu
        exact decide_eq_false (by rw [e]; exact fun z => by cases z)
    rw [e]
    exact q _ s1
abbrev s_body_of : Stmt := top 37
theorem sc_body_of : FnScope ["page", "fault"] ["page"] (defScope s_body_of) := ⟨rfl, rfl, rfl, by decide +kernel, rfl, by decide +kernel, by decide +kernel⟩
theorem ok_body_of {f f_page_fault : Addr} {fd fd1 : FuncData} (F : Fun K "body_of" "body_of" s_body_of f fd) (T : Tx mg) (TE : Tex P K mg CR fR ccR CB fB ccB CN) (d_page_fault : Ok1 P w K mg base CX0 5 "page_fault" ["thing"] sp_page_fault f_page_fault fd1) :
    FnOk P w K mg base (L2.CX P w) 6 f fd ["page"] (sp_body_of CB) := by
  refine F.okX sc_body_of (fun vs H Q E h => ?_) (fun cdv A outer s H vs Q E hr h => ?_)
  · obtain ⟨v, d, rfl, _⟩ := h
    rfl
  · obtain ⟨v, d, rfl, hv, hsz, q⟩ := h
    obtain ⟨t_HEAD, c_HEAD⟩ := T.c_HEAD
    refine ⟨_, (pss_cons (ps_set (i := 1) sc_body_of.nd rfl (Or.inl rfl) (pe_call d_page_fault.ok (hr.mono (by decide)) rfl d_page_fault.g d_page_fault.kp d_page_fault.b .nil pass0 (pa_cons (pv 0) pa_nil)))
      (pss_cons (ps_if (pt_cmpR op_notN (pv 1) pe_non (nomark _)) (pss_one (ps_raise rfl (takes_of rfl rfl rfl rfl) (pmk_bb TE.xBB TE.g_BadBytes TE.nBA TE.nBF hr (by decide) (pa_cons (pe_ix ix_tup (pv 1) pe_int (fun _ _ => rfl)) (pa_cons (pe_ix ix_tup (pv 1) pe_int (fun _ _ => rfl)) pa_nil))))) pss_nil)
      (pss_one (ps_ret (pe_slice sl_tupA (pv 0) (po_some (pe_glob (v := .int 3) rfl c_HEAD ⟨_, rfl⟩)) (po_some (pe_op op_add (pe_glob (v := .int 3) rfl c_HEAD ⟨_, rfl⟩) (pe_ix ix_tup (pv 0) pe_int (fun _ _ => rfl))))))))), ?_⟩
    refine ⟨v, rfl, v, d, rfl, hv, hsz, fun H1 u s1 hu => ?_⟩
    cases ep : pfD d with
    | some x =>
      obtain ⟨n, z⟩ := x
      rw [ep] at hu q
      obtain ⟨p, rfl, hp⟩ := hu
      refine ⟨_, rfl, rfl, _, rfl, iteT ⟨_, rfl, p, _, _, _, rfl, rfl, .inl (.inl hp), at_of (j := 0) rfl rfl, _, rfl, p, _, _, _, rfl, rfl, .inl (.inl hp), at_of (j := 1) rfl rfl, _, _, rfl, fun e he => ?_⟩⟩
      exact q _ e (s1.trans (same_upd he)) upd_same
    | none =>
      rw [ep] at hu q
      cases (show u = .non from hu)
      refine ⟨_, rfl, rfl, _, rfl, iteF ?_⟩
      have hpf := ep
      unfold pfD at hpf
      split at hpf
      · rename_i hc
        rw [Bool.and_eq_true] at hc
        obtain ⟨bs, rfl⟩ := areInts_of (areBytes_ints hc.1)
        rw [intsOf_t] at hpf q
        have hl : bs.length = 64 := by
          have z : decide ((((bs.map PyData.int).length : Nat) : Int) = 64) = true := hc.2
          rw [List.length_map] at z
          have := of_decide_eq_true z
          omega
        have hby := all_byte ((areBytes_int bs) ▸ hc.1)
        have h2 := gB_byte hby 2
        obtain ⟨t, rfl, ht⟩ := rp_ints (hv.same s1)
        refine ⟨_, rfl, 3, rfl, _, rfl, t, _, _, _, rfl, rfl, .inl (.inl ht), at_of (j := 2) rfl (gB_get (by omega)), _, _, rfl, rfl, _, rfl, ?_⟩
        refine sl_new ht fun H2 p2 s2 hp2 => ?_
        have e1 : (3 : Int) + gB bs 2 = ((3 + (gB bs 2).toNat : Nat) : Int) := by omega
        rw [e1, show ((3 : Int)) = ((3 : Nat) : Int) from rfl, cut_mid _ _ _ (by omega), ← List.map_drop, ← List.map_take, Nat.add_sub_cancel_left] at hp2
        exact q _ p2 (s1.trans s2) hp2
      · cases hpf
end
end Net
namespace NetR
open PySem PySem.W PySem.Calls PyProof.Rows SrtO
def KPair (h : Heap) (v : Value) (k : Int) (b : Addr) : Prop := ∃ (a : Addr) (t : Tok) (o : Obj) (n : Nat), v = .ref a ∧ h.get? a = some o ∧ o.cls = .type "tuple" ∧ o.data = .seq #[.int k t, .ref b] n
theorem KPair.keeps {h h' : Heap} {v : Value} {k : Int} {b : Addr} (x : KPair h v k b) (kk : ∀ c o, h.get? c = some o → o.cls = .type "tuple" → h'.get? c = some o) : KPair h' v k b := by
  obtain ⟨a, t, o, n, e, ho, hc, hd⟩ := x
  exact ⟨a, t, o, n, e, kk _ _ ho hc, hc, hd⟩
def headK (h : Heap) (v : Value) : Int := match v with
  | .ref a => match h.get? a with
    | some o => match o.data with
      | .seq xs _ => match xs[0]? with
        | some (Value.int k _) => k
        | _ => 0
      | _ => 0
    | none => 0
  | _ => 0
theorem KPair.head {h : Heap} {v : Value} {k : Int} {b : Addr} (x : KPair h v k b) : headK h v = k := by
  obtain ⟨a, t, o, n, rfl, ho, hc, hd⟩ := x
  unfold headK
  simp only [ho, hd]
  rfl
theorem swo_int (f : Value → Int) : Swo fun v u => decide (f v < f u) := by
  refine ⟨fun x y h => ?_, fun x y z h1 h2 => ?_⟩
  · have a := of_decide_eq_true h
    exact decide_eq_false (by omega)
  · have a := of_decide_eq_false h1
    have b := of_decide_eq_false h2
    exact decide_eq_false (by omega)
theorem kfirsts {h : Heap} : ∀ {vs : List Value}, (∀ v ∈ vs, ∃ k b, KPair h v k b) → ∃ fs : List Value, KatTups h vs fs ∧ fs.length = vs.length ∧ ∀ f ∈ fs, ∃ x t, f = Value.int x t
  | [], _ => ⟨[], KatTups.nil, rfl, fun f hf => nomatch hf⟩
  | v :: vs, x => by
    obtain ⟨fs, k, hl, hi⟩ := kfirsts (vs := vs) fun u hu => x u (List.mem_cons_of_mem _ hu)
    obtain ⟨y, b, a, t, o, n, rfl, ho, hc, hd⟩ := x v List.mem_cons_self
    refine ⟨.int y t :: fs, KatTups.cons ho hc hd rfl k, by rw [List.length_cons, List.length_cons, hl], fun f hf => ?_⟩
    rcases List.mem_cons.mp hf with rfl | hf
    · exact ⟨y, t, rfl⟩
    · exact hi f hf
section
variable {prog : Program} {w : World} {A : Around} {E : Value → Shared → Prop} {s : Shared}
theorem eqb_self (a : Addr) : ∀ (Q : Bool → Shared → Prop) (E : Value → Shared → Prop), Q true s → wpAny (model prog w) A (eqBool (.ref a) (.ref a)) Q E s := fun Q E h => by
  unfold eqBool
  try with_reducible refine wpAny_holding ?_
  show wpAny _ _ (if (Value.ref a == Value.ref a) = true then _ else _) Q E s
  rw [if_pos (beq_self_eq_true _)]
  exact wpAny_bind (wpAny_rule (wpAny_pure h))
theorem kp_cmp {h0 : Heap} {vs : List Value} (hp : ∀ v ∈ vs, ∃ k b, KPair s.heap v k b) (hk : ∀ v ∈ vs, headK s.heap v = headK h0 v) (inj : ∀ v ∈ vs, ∀ u ∈ vs, ∀ k b b', KPair s.heap v k b → KPair s.heap u k b' → b = b') :
    Cmp prog w A s (tuples' true) (fun p => p.1 ∈ vs) (lt2 fun v u => decide (headK h0 v < headK h0 u)) := by
  intro p q hm hm'
  obtain ⟨k, b, h1⟩ := hp _ hm
  obtain ⟨k', b', h2⟩ := hp _ hm'
  have e1 := h1.head
  have e2 := h2.head
  rw [hk _ hm] at e1
  rw [hk _ hm'] at e2
  have same : k = k' → b = b' := fun e => inj _ hm _ hm' k b b' h1 (by rw [e]; exact h2)
  show wpAny (model prog w) A (keyLt' (tuples' true) p.1 q.1) (fun r s' => s' = s ∧ r = decide (headK h0 p.1 < headK h0 q.1)) (fun _ _ => False) s
  rw [e1, e2]
  obtain ⟨a, t, o, n, e, ho, hc, hd⟩ := h1
  obtain ⟨a', t', o', n', e', ho', hc', hd'⟩ := h2
  rw [e, e']
  refine kat_lt ho hd ho' hd' ?_
  show KatLex prog w A true (decide (2 < 2)) _ [(.int k t, .int k' t'), (.ref b, .ref b')] 0 s
  refine kat_cons (SeqAt.EqAt.int_int k t k' t' prog w _ _ ?_)
  refine kat_go (fun z => ?_) (fun z => ?_)
  · have ex : k = k' := by simpa using z
    have eb := same ex
    subst eb
    refine kat_yes (kat_cons (eqb_self b _ _ ?_))
    refine kat_go (fun _ => ?_) (fun z => nomatch z)
    exact kat_yes (kat_nil ⟨rfl, by rw [ex]; exact (decide_eq_false (Int.lt_irrefl _)).symm⟩)
  · exact kat_no (oneLt_int ⟨rfl, rfl⟩)
theorem kp_sortable {a : Addr} {vs : List Value} (h0 : 0 < vs.length) (hp : ∀ v ∈ vs, ∃ k b, KPair s.heap v k b) (inj : ∀ v ∈ vs, ∀ u ∈ vs, ∀ k b b', KPair s.heap v k b → KPair s.heap u k b' → b = b') (ha : ∀ o, s.heap.get? a = some o → o.cls ≠ .type "tuple") :
    SortableO prog w A s a vs fun v u => decide (headK s.heap v < headK s.heap u) := by
  intro h' keep
  have kk : ∀ c o, s.heap.get? c = some o → o.cls = .type "tuple" → h'.get? c = some o := fun c o e z => keep c o (fun q => by subst q; exact ha o e z) e
  have hp' : ∀ v ∈ vs, ∃ k b, KPair h' v k b := fun v hm => by
    obtain ⟨k, b, x⟩ := hp v hm
    exact ⟨k, b, x.keeps kk⟩
  have val : ∀ v ∈ vs, ∀ k b, KPair h' v k b → KPair s.heap v k b := fun v hm k b x => by
    obtain ⟨k2, b2, y⟩ := hp v hm
    have y' := y.keeps kk
    obtain ⟨a1, t1, o1, n1, e1, ho1, hc1, hd1⟩ := x
    obtain ⟨a2, t2, o2, n2, e2, ho2, hc2, hd2⟩ := y'
    rw [e1] at e2
    cases e2
    rw [ho1] at ho2
    cases ho2
    rw [hd1] at hd2
    cases hd2
    exact y
  obtain ⟨fs, h1, h2, h3⟩ := kfirsts hp'
  refine ⟨tuples' true, fun Q E hq => ?_, kp_cmp (h0 := s.heap) hp' (fun v hm => ?_) fun v hm u hu k b b' x y => inj v hm u hu k b b' (val v hm k b x) (val u hu k b' y)⟩
  · refine kat_kind (T := .type "int") h1 (by omega) (fun f hm => ?_) (by rfl) ?_
    · obtain ⟨x, t, rfl⟩ := h3 f hm
      exact PySem.W.Looks.now
    · have e : (Value.type "int" != Value.type "tuple") = true := by first | decide +kernel | rfl | decide
      rw [e]
      exact hq
  · obtain ⟨k, b, x⟩ := hp v hm
    rw [x.head, (x.keeps kk).head]
end
end NetR
namespace NetR
open PySem PySem.Spec PyProof.Rows L2
section
variable {X : Cx}
def rUpdD : V → List V → Hp → VK → Prop := fun x xs H Q => ∃ (a b : Addr) (kvs more : List (Key × V)), x = .ref a ∧ xs = [.ref b] ∧ a ≠ b ∧ H a = some (.dK kvs) ∧ H b = some (.dK more) ∧ kvs.length + more.length ≤ sizeLine ∧ Q .non (upd H a (.dK (mergeK kvs more)))
theorem mt_updD : MtR X "dict.update" rUpdD := by
  intro pins s σ H x xs v us Q I rx rxs h
  obtain ⟨a, b, kvs, more, rfl, rfl, hne, ha, hb, hz, q⟩ := h
  cases rx
  obtain ⟨u, rfl, ru⟩ := rxs.one
  cases ru
  obtain ⟨z1, l1, vs1, r1, d1⟩ := dk_of I.hok ha
  obtain ⟨z2, l2, vs2, r2, d2⟩ := dk_of I.hok hb
  refine call_meetsIn F.slot_dict_update d1.typeIs F.entry_dict_update (F.args_dict_update_2 _ _) (meets_dict_update (mixKind X.prog X.w) a b hne l2) ⟨vs1, vs2, d1, d2, (by rw [← r1.length, ← r2.length]; exact hz), fun h' hd' _ hs => ?_⟩
  have hl : (mergeK kvs more).length ≤ sizeLine := Nat.le_trans (length_mergeK more kvs) hz
  obtain ⟨o, es, ep, ho, _⟩ := id hd'
  exact ⟨.non, _, I.write (t' := s.toks) (by rw [ha]; trivial) (.inl rfl) (fun c u hc e => (hs.2 c hc).trans e) ⟨o, ho⟩ (show ObjOk X.prog X.w _ _ _ (.dK (mergeK kvs more)) from ⟨hl, l1, _, KV.merge r2 r1, hd'⟩), rfl, q⟩
theorem raw_of {d : Addr} {kvs : List (Key × Value)} {h : Heap} {P : Program} {w : World} (x : h.DictOf (mixKind P w) d kvs) : ∃ es ep, DT.Raw h d es ep ∧ Pairs (mixKind P w) es.toList kvs ∧ (kvs.map (·.1)).Nodup := by
  obtain ⟨o, es, ep, ho, he, hd, _, hp, hn⟩ := x
  exact ⟨es, ep, ⟨o, ho, he, hd⟩, hp, hn⟩
def rItemsK : V → List V → Hp → VK → Prop := fun x xs H Q => ∃ (a : Addr) (kvs : List (Key × V)), x = .ref a ∧ xs = [] ∧ H a = some (.dK kvs) ∧ ∀ p, H p = none → Q (.ref p) (upd H p (L2.DX.itemsO p a))
theorem mt_itemsK : MtR X "dict.items" rItemsK := by
  intro pins s σ H x xs v us Q I rx rxs h
  obtain ⟨a, kvs, rfl, rfl, ha, q⟩ := h
  cases rx
  cases rxs
  obtain ⟨z, hd, vs, rel, dd⟩ := dk_of I.hok ha
  obtain ⟨es, ep, hr, _, _⟩ := raw_of dd
  refine DT.callItems (es := es) (ep := ep) hd hr ?_
  have hf : H s.heap.objs.size = none := I.hok.fresh (Nat.le_refl _)
  exact ⟨.ref s.heap.objs.size, upd H s.heap.objs.size (L2.DX.itemsO s.heap.objs.size a), I.laid (t' := s.toks) (fun b u e => Heap.get?_push_of_some _ e) (Nat.le_refl _) (L2.DX.itemsO_ok (Heap.get?_push_size _ rfl)), rfl, q _ hf⟩
abbrev entK (e : Int × Addr) : Key × V := (Sum.inl e.1, V.ref e.2)
def rSortK : List V → Hp → VK → Prop := fun vs H Q => ∃ (p a : Addr) (ks : List (Int × Addr)), vs = [.ref p] ∧ H p = some (L2.DX.itemsO p a) ∧ H a = some (.dK (ks.map entK)) ∧ ks.length ≤ 1000 ∧
  ∀ (H' : Hp) (l : Addr) (ps : List (Addr × Int × Addr)), (∀ b o, H b = some o → H' b = some o) → (ks.map (·.1)).Nodup → (ps.map (·.2)).Perm ks → (ps.map (·.2)).Pairwise (fun e f => e.1 ≤ f.1) → H' l = some (.lst (ps.map fun z => V.ref z.1)) →
    (∀ z ∈ ps, H' z.1 = some (.tup [.int z.2.1, .ref z.2.2])) → Q (.ref l) H'
theorem pairs_at {P : Program} {w : World} : ∀ {es : List DictEntry} {kvs : List (Key × Value)} {j : Nat} {e : DictEntry}, Pairs (mixKind P w) es kvs → es[j]? = some e → ∃ kv, kvs[j]? = some kv ∧ (mixKind P w).is kv.1 e.key = true ∧ e.val = kv.2
  | _, _, _, _, .nil, h => by simp at h
  | _, _, 0, e, .cons a b c, h => by
    have z := Option.some.inj h
    subst z
    exact ⟨_, rfl, a, b⟩
  | _, _, j + 1, e, .cons a b c, h => pairs_at (j := j) c h
theorem cr_sortedK (hc : X.calm = true) : CallR X (.builtin "sorted") rSortK := by
  intro pins s σ H xs us Q I r h
  obtain ⟨p, a, ks, rfl, hp, ha, hks, q⟩ := h
  obtain rfl := Vals.ref1 r
  have view : s.heap.IsItemsView p a := (show ObjOk X.prog X.w H s.heap p (L2.DX.itemsO p a) from I.hok p _ hp).1
  obtain ⟨z, hd, vs, rel, dd⟩ := dk_of I.hok ha
  obtain ⟨es, ep, hr, hpr, hnd⟩ := raw_of dd
  have l1 : (ks.map entK).length = vs.length := rel.length
  rw [List.length_map] at l1
  have l2 : es.size = vs.length := by rw [← hpr.length, Array.length_toList]
  have hh : X.A.handled = none := I.ok.hd hc
  have nks : (ks.map (·.1)).Nodup := by
    have e : vs.map (·.1) = ks.map fun e => (Sum.inl e.1 : Key) := by
      have go : ∀ {kl : List (Int × Addr)} {vl : List (Key × Value)}, KV (kl.map entK) vl → vl.map (·.1) = kl.map fun e => (Sum.inl e.1 : Key) := by
        intro kl
        induction kl with
        | nil =>
          intro vl h
          cases h
          rfl
        | cons e kl ih =>
          intro vl h
          cases h with
          | cons h1 h2 =>
            rw [List.map_cons, List.map_cons, ih h2]
            exact congrArg (· :: _) h1.1.symm
      exact go rel
    rw [e] at hnd
    have e2 : (ks.map fun e => (Sum.inl e.1 : Key)) = (ks.map (·.1)).map Sum.inl := by rw [List.map_map]; rfl
    rw [e2] at hnd
    exact List.Pairwise.of_map Sum.inl (fun a b h e => h (congrArg _ e)) hnd
  refine DT.sortedI (es := es) (ep := ep) hh view hr (by rw [sizeLine_eq]; omega) fun h' tk as hk hlt hl hG => ?_
  have lak : as.length = ks.length := by omega
  have nd : as.Nodup := List.Pairwise.imp (fun h => Nat.ne_of_lt h) hG.rise
  have pr : ∀ (j : Nat) (b : Addr), as[j]? = some b → ∃ (e : Int × Addr) (t : Tok), ks[j]? = some e ∧ h'.get? b = some { cls := .type "tuple", data := .seq #[.int e.1 t, Value.ref e.2] } := by
    intro j b hj
    obtain ⟨en, he, hg⟩ := hG.pairs j b hj
    rw [← Array.getElem?_toList] at he
    obtain ⟨kv, hkv, his, hv⟩ := pairs_at hpr he
    obtain ⟨e0, he0, r1, r2⟩ := L2.DX.pget rel hkv
    rw [List.getElem?_map] at he0
    obtain ⟨e, hkj, rfl⟩ := Option.map_eq_some_iff.mp he0
    have r1 : (Sum.inl e.1 : Key) = kv.1 := r1
    have r2 : kv.2 = Value.ref e.2 := r2
    rw [← r1] at his
    have his : keyIs (Sum.inl e.1) en.key = true := his
    rcases keyIs_shape his with ⟨i, t, e1, e2⟩ | ⟨x, t, e1, e2⟩
    · cases e1
      refine ⟨e, t, hkj, ?_⟩
      rw [hg, e2, hv, r2]
    · cases e1
  have hob : (h'.push { cls := .type "list", data := .seq (as.map Value.ref).toArray }).get? h'.objs.size = some (seqObj "list" (as.map Value.ref).toArray 0) := Heap.get?_push_size _ rfl
  have kb : ∀ b o, s.heap.get? b = some o → (h'.push { cls := .type "list", data := .seq (as.map Value.ref).toArray }).get? b = some o := fun b o e => Heap.get?_push_of_some _ (hk b o e)
  have ne0 : ∀ b o, h'.get? b = some o → b ≠ h'.objs.size := fun b o e => Nat.ne_of_lt (Heap.lt_size e)
  generalize hh2 : h'.push { cls := .type "list", data := .seq (as.map Value.ref).toArray } = g2 at hob kb ⊢
  have ka : ∀ b o, h'.get? b = some o → g2.get? b = some o := fun b o e => by rw [← hh2]; exact Heap.get?_push_of_some _ e
  have at_ : ∀ v ∈ as.map Value.ref, ∃ (j : Nat) (b : Addr) (e : Int × Addr), v = .ref b ∧ as[j]? = some b ∧ ks[j]? = some e ∧ KPair g2 v e.1 e.2 := by
    intro v hv'
    obtain ⟨b, hb, rfl⟩ := List.mem_map.mp hv'
    obtain ⟨j, hj⟩ := List.mem_iff_getElem?.mp hb
    obtain ⟨e, t, he, hg⟩ := pr j b hj
    exact ⟨j, b, e, rfl, hj, he, b, t, _, 0, rfl, ka _ _ hg, rfl, rfl⟩
  have kval : ∀ {v : Value} {k k' : Int} {b b' : Addr}, KPair g2 v k b → KPair g2 v k' b' → k = k' ∧ b = b' := by
    rintro v k k' b b' ⟨a1, t1, o1, n1, e1, ho1, hc1, hd1⟩ ⟨a2, t2, o2, n2, e2, ho2, hc2, hd2⟩
    rw [e1] at e2
    cases e2
    rw [ho1] at ho2
    cases ho2
    rw [hd1] at hd2
    cases hd2
    exact ⟨rfl, rfl⟩
  refine wpAny_call_entry PyProof.Rows.slot_list_sort ⟨_, hob, rfl⟩ PyProof.Rows.entry_list_sort
    (SrtO.list_sort_ord (s := { s with heap := g2, toks := tk }) (swo_int (headK g2)) hob (by rw [List.length_map, sizeLine_eq]; omega) (fun h2 => kp_sortable (s := { s with heap := g2, toks := tk }) (by omega) (fun v hv => ?_) (fun v hv u hu k b b' x y => ?_) fun o e c => ?_) fun out o1 o2 => ⟨.none, rfl, ?_⟩) (PyProof.Rows.args_list_sort _)
  · obtain ⟨j, b, e, _, _, _, x⟩ := at_ v hv
    exact ⟨_, _, x⟩
  · obtain ⟨j, c, e, _, _, j3, x1⟩ := at_ v hv
    obtain ⟨j', c', e', _, _, j3', y1⟩ := at_ u hu
    obtain ⟨k1, b1⟩ := kval x x1
    obtain ⟨k2, b2⟩ := kval y y1
    have f1 : (ks.map (·.1))[j]? = some k := by rw [List.getElem?_map, j3, k1]; rfl
    have f2 : (ks.map (·.1))[j']? = some k := by rw [List.getElem?_map, j3', k2]; rfl
    have ej : j = j' := nd_ix nks f1 f2
    subst ej
    rw [j3] at j3'
    cases j3'
    rw [b1, b2]
  · have e2 : some o = some (seqObj "list" (as.map Value.ref).toArray 0) := e.symm.trans hob
    cases e2
    exact absurd (Value.type.inj c) (by decide)
  · show EP X pins σ Q (.ref h'.objs.size) { s with heap := sortedHeap g2 h'.objs.size (as.map Value.ref) out.toArray, toks := tk }
    have ez0 : (as.zip ks).map (fun z : Addr × Int × Addr => Value.ref z.1) = as.map Value.ref := by
      have e := List.map_fst_zip (l₁ := as) (l₂ := ks) (by rw [lak]; exact Nat.le_refl _)
      conv => rhs; rw [← e]
      rw [List.map_map]
      rfl
    obtain ⟨zs, pz, ez⟩ := L2.perm_lift (fun z : Addr × Int × Addr => Value.ref z.1) o2.perm (as.zip ks) ez0
    have idx : ∀ z ∈ zs, ∃ j : Nat, as[j]? = some z.1 ∧ ks[j]? = some z.2 := by
      intro z' hz'
      obtain ⟨j, hj⟩ := List.mem_iff_getElem?.mp (pz.mem_iff.mp hz')
      exact ⟨j, List.getElem?_zip_eq_some.mp hj⟩
    have hkey : ∀ z ∈ zs, headK g2 (Value.ref z.1) = z.2.1 := by
      intro z' hz'
      obtain ⟨j, j1, j2⟩ := idx z' hz'
      obtain ⟨e, t, he, hg⟩ := pr j _ j1
      rw [j2] at he
      cases he
      exact (show KPair g2 (Value.ref z'.1) z'.2.1 z'.2.2 from ⟨z'.1, t, _, 0, rfl, ka _ _ hg, rfl, rfl⟩).head
    have hperm : (zs.map (·.2)).Perm ks := by
      have e := pz.map (·.2)
      have m2 : (as.zip ks).map (·.2) = ks := List.map_snd_zip (by rw [lak]; exact Nat.le_refl _)
      rw [m2] at e
      exact e
    have hsort : (zs.map (·.2)).Pairwise (fun e f => e.1 ≤ f.1) := by
      have o1' : List.Pairwise (fun x y => decide (headK g2 y < headK g2 x) = false) out := o1
      rw [← ez, List.pairwise_map] at o1'
      rw [List.pairwise_map]
      refine List.Pairwise.imp_of_mem (fun {x y} hx hy h => ?_) o1'
      have h2 := of_decide_eq_false h
      rw [hkey x hx, hkey y hy] at h2
      omega
    have kF : ∀ b o, b ≠ h'.objs.size → g2.get? b = some o → (sortedHeap g2 h'.objs.size (as.map Value.ref) out.toArray).get? b = some o := fun b o hb e => (PyProof.Rows.sortedHeap_old hb (Heap.lt_size e)).trans e
    have kS : ∀ b o, s.heap.get? b = some o → (sortedHeap g2 h'.objs.size (as.map Value.ref) out.toArray).get? b = some o := fun b o e => kF b o (ne0 _ _ (hk b o e)) (kb b o e)
    obtain ⟨eF, heF⟩ := PyProof.Rows.sortedHeap_at (vs := as.map Value.ref) (out := out.toArray) hob
    have I1 : Inv X pins σ H { s with heap := sortedHeap g2 h'.objs.size (as.map Value.ref) out.toArray, toks := tk } := I.kept (t' := tk) kS
    have hn0 : H h'.objs.size = none := I.hok.fresh (Nat.le_of_lt hlt)
    have hlen : (zs.map fun z => V.ref z.1).length ≤ sizeLine := by
      have e := hperm.length_eq
      rw [List.length_map] at e
      rw [List.length_map, sizeLine_eq]
      omega
    have rv : Vals (zs.map fun z => V.ref z.1) out := by
      rw [← ez]
      exact vals_maps (fun z : Addr × Int × Addr => V.ref z.1) (fun z => Value.ref z.1) zs fun _ _ => rfl
    have I2 : Inv X pins σ (upd H h'.objs.size (.lst (zs.map fun z => V.ref z.1))) { s with heap := sortedHeap g2 h'.objs.size (as.map Value.ref) out.toArray, toks := tk } :=
      I1.take (h' := sortedHeap g2 h'.objs.size (as.map Value.ref) out.toArray) (t' := tk) (fun b ob _ e => e) (I.fpOk (Nat.le_of_lt hlt) hn0) ⟨hlen, out, eF, rv, heF⟩
    obtain ⟨H2, I3, g, qt⟩ := L2.DX.takeT (P := fun b vs => ∃ (j : Nat) (e : Int × Addr), as[j]? = some b ∧ ks[j]? = some e ∧ vs = [.int e.1, .ref e.2]) I as _ I2 nd fun b hb => by
      obtain ⟨j, hj⟩ := List.mem_iff_getElem?.mp hb
      obtain ⟨e, t, he, hg⟩ := pr j b hj
      have hbl : s.heap.objs.size ≤ b := Nat.le_of_lt (hG.above b hb)
      refine ⟨hbl, ?_, [.int e.1, .ref e.2], ⟨j, e, hj, he, rfl⟩, fun H3 => ⟨(by rw [sizeLine_eq]; show 2 ≤ 16777216; omega), [Value.int e.1 t, Value.ref e.2], .cons ⟨t, rfl⟩ (.cons rfl .nil), ⟨_, kF _ _ (ne0 _ _ hg) (ka _ _ hg), rfl, 0, rfl⟩⟩⟩
      rw [upd_ne (ne0 _ _ hg)]
      exact I.hok.fresh hbl
    have gr : ∀ b o, H b = some o → H2 b = some o := fun b o e => g b o (by rw [upd_ne (ne_of_none e hn0)]; exact e)
    refine ⟨.ref h'.objs.size, H2, I3, rfl, q H2 h'.objs.size zs gr nks hperm hsort (g _ _ upd_same) fun z' hz' => ?_⟩
    obtain ⟨i, i1, i2⟩ := idx z' hz'
    obtain ⟨vs', ⟨j, e, j1, j2, ev⟩, hH⟩ := qt z'.1 (List.mem_of_getElem? i1)
    have eij : i = j := nd_ix nd i1 j1
    subst eij
    have ee : e = z'.2 := Option.some.inj (j2.symm.trans i2)
    rw [ev, ee] at hH
    exact hH
end
end NetR
namespace NetR
open PySem PySem.W PySem.Calls PyProof.Rows SrtO HT
theorem lx_asym : ∀ x y : List Int, lexLt x y = true → lexLt y x = false
  | [], [], h => by cases h
  | [], _ :: _, _ => rfl
  | _ :: _, [], h => by cases h
  | a :: x, b :: y, h => by
    rw [lexLt_cons] at h ⊢
    by_cases e : a = b
    · rw [if_pos e] at h
      rw [if_pos e.symm]
      exact lx_asym x y h
    · rw [if_neg e] at h
      rw [if_neg (fun z => e z.symm)]
      have := of_decide_eq_true h
      exact decide_eq_false (by omega)
theorem lx_tr : ∀ x y z : List Int, lexLt y x = false → lexLt z y = false → lexLt z x = false
  | [], _, [], _, _ => rfl
  | [], [], _ :: _, _, h => h
  | [], b :: y, c :: z, _, h => rfl
  | a :: x, [], _, h, _ => by cases h
  | a :: x, b :: y, [], _, h => by cases h
  | a :: x, b :: y, c :: z, h1, h2 => by
    rw [lexLt_cons] at h1 h2 ⊢
    by_cases e1 : b = a
    · by_cases e2 : c = b
      · rw [if_pos e1] at h1
        rw [if_pos e2] at h2
        rw [if_pos (e2.trans e1)]
        exact lx_tr x y z h1 h2
      · rw [if_neg e2] at h2
        have := of_decide_eq_false h2
        rw [if_neg (by omega)]
        exact decide_eq_false (by omega)
    · rw [if_neg e1] at h1
      have n1 := of_decide_eq_false h1
      by_cases e2 : c = b
      · rw [if_neg (by omega)]
        exact decide_eq_false (by omega)
      · rw [if_neg e2] at h2
        have := of_decide_eq_false h2
        rw [if_neg (by omega)]
        exact decide_eq_false (by omega)
theorem lx_anti : ∀ x y : List Int, lexLt x y = false → lexLt y x = false → x = y
  | [], [], _, _ => rfl
  | [], _ :: _, h, _ => by cases h
  | _ :: _, [], _, h => by cases h
  | a :: x, b :: y, h1, h2 => by
    rw [lexLt_cons] at h1 h2
    by_cases e : a = b
    · rw [if_pos e] at h1
      rw [if_pos e.symm] at h2
      rw [e, lx_anti x y h1 h2]
    · rw [if_neg e] at h1
      rw [if_neg (fun z => e z.symm)] at h2
      have := of_decide_eq_false h1
      have := of_decide_eq_false h2
      omega
theorem swo_lx (f : Value → List Int) : Swo fun v u => lexLt (f v) (f u) := ⟨fun x y => lx_asym _ _, fun x y z => lx_tr _ _ _⟩
theorem uniq_srt {α : Type} {le : α → α → Prop} (anti : ∀ x y, le x y → le y x → x = y) {l m : List α} (h1 : l.Pairwise le) (h2 : m.Pairwise le) (p : l.Perm m) : l = m := List.Perm.eq_of_pairwise (fun a b _ _ => anti a b) h1 h2 p
def ITup (h : Heap) (v : Value) (ns : List Int) : Prop := ∃ (a : Addr) (its : List Value), v = .ref a ∧ IsTup h a its.toArray ∧ IntsAre its.toArray.toList ns
def intsH (h : Heap) (v : Value) : List Int := match v with
  | .ref a => match h.get? a with
    | some o => match o.data with
      | .seq xs _ => xs.toList.map fun u => match u with
        | Value.int k _ => k
        | _ => 0
      | _ => []
    | none => []
  | _ => []
theorem ITup.get {h : Heap} {v : Value} {ns : List Int} (x : ITup h v ns) : intsH h v = ns := by
  obtain ⟨a, its, rfl, ⟨o, ho, hc, n, hd⟩, hi⟩ := x
  unfold intsH
  simp only [ho, hd]
  have go : ∀ {us : List Value} {ms : List Int}, IntsAre us ms → us.map (fun u => match u with
        | Value.int k _ => k
        | _ => 0) = ms := by
    intro us ms h
    induction h with
    | nil => rfl
    | cons n t h ih => rw [List.map_cons, ih]
  exact go hi
theorem ITup.keeps {h h' : Heap} {v : Value} {ns : List Int} (x : ITup h v ns) (kk : ∀ c o, h.get? c = some o → o.cls = .type "tuple" → h'.get? c = some o) : ITup h' v ns := by
  obtain ⟨a, its, e, ⟨o, ho, hc, r⟩, hi⟩ := x
  exact ⟨a, its, e, ⟨o, kk _ _ ho hc, hc, r⟩, hi⟩
section
variable {prog : Program} {w : World} {A : Around} {E : Value → Shared → Prop} {s : Shared}
theorem map_each {α β : Type} {f : α → Sem β} {g : α → β} {M : Model} : ∀ (l : List α) {Q : List β → Shared → Prop}, (∀ v ∈ l, ∀ (Q' : β → Shared → Prop), Q' (g v) s → wpAny M A (f v) Q' E s) → Q (l.map g) s → wpAny M A (l.mapM f) Q E s
  | [], _, _, h => by
    rw [List.mapM_nil]
    exact wpAny_pure h
  | x :: l, Q, hf, h => by
    rw [List.mapM_cons]
    exact wpAny_bind (hf x (.head _) _ (wpAny_bind (map_each l (Q := fun bs s' => wpAny M A (pure (g x :: bs)) Q E s') (fun v hv => hf v (.tail _ hv)) (wpAny_pure h))))
theorem kind_et {v0 : Value} {vs : List Value} (h0 : ITup s.heap v0 []) (hp : ∀ v ∈ v0 :: vs, ∃ ns, ITup s.heap v ns) (Q : SortKind → Shared → Prop) (h : Q oneType' s) : wpAny (model prog w) A (keyKind' (v0 :: vs).toArray) Q E s := by
  have look : ∀ v ∈ v0 :: vs, ∃ a its, v = .ref a ∧ IsTup s.heap a its := fun v hv => by
    obtain ⟨ns, a, its, e, ht, _⟩ := hp v hv
    exact ⟨a, _, e, ht⟩
  have ty : ∀ v ∈ v0 :: vs, ∀ (Q' : Value → Shared → Prop), Q' (.type "tuple") s → wpAny (model prog w) A (typeOf v) Q' E s := fun v hv Q' hq => by
    obtain ⟨a, its, rfl, ht⟩ := look v hv
    exact wpAny_typeOf ht.typeIs hq
  rw [keyKind'_eq, List.mapM_toArray, map_eq_pure_bind]
  let g : Value → Option Value := fun v => match v with
    | .ref a => match s.heap.get? a with
      | some o => match o.data with
        | .seq xs _ => xs[0]?
        | _ => none
      | none => none
    | _ => none
  have g0 : g v0 = none := by
    obtain ⟨a, its, rfl, ⟨o, ho, hc, n, hd⟩, hi⟩ := h0
    show (match s.heap.get? a with
      | some o => match o.data with
        | .seq xs _ => xs[0]?
        | _ => none
      | none => none) = none
    simp only [ho, hd]
    cases hi
    simp_all
  refine wpAny_bind (wpAny_bind (map_each (g := g) _ (fun v hv Q' hq => ?_) (wpAny_pure ?_)))
  · rw [kas_first_eq]
    refine wpAny_bind (ty v hv _ ?_)
    rw [if_neg (by decide)]
    obtain ⟨a, its, rfl, ⟨o, ho, hc, n, hd⟩⟩ := look v hv
    have hq' : Q' its[0]? s := by
      have e : g (.ref a) = its[0]? := by
        show (match s.heap.get? a with
          | some o => match o.data with
            | .seq xs _ => xs[0]?
            | _ => none
          | none => none) = its[0]?
        simp only [ho, hd]
      rw [← e]
      exact hq
    refine wpAny_bind (listItems_at ho hd ?_)
    exact wpAny_pure hq'
  · have e0 : ((v0 :: vs).map g).toArray[0]? = some none := by
      rw [List.map_cons, g0]
      simp
    have ea : (((v0 :: vs).map g).toArray.all fun x => x.isSome) = false := by
      rw [List.all_toArray, List.map_cons, List.all_cons, g0]
      rfl
    rw [if_neg (by rw [ea]; exact Bool.false_ne_true), if_neg (by rw [e0]; exact Bool.false_ne_true)]
    rw [oneTypeOnly'_eq, List.mapM_toArray, map_eq_pure_bind]
    refine wpAny_bind (wpAny_bind (wpAny_bind (kas_mapM (r := Value.type "tuple") _ (fun v hv Q' hq => ty v hv Q' hq) (wpAny_pure ?_))))
    have hall : ((List.map (fun _ => Value.type "tuple") (v0 :: vs)).toArray.all fun x => x == Value.type "tuple") = true := by
      simp only [List.all_toArray, List.all_map, List.all_eq_true]
      intro _ _
      rfl
    have hz : (List.map (fun _ => Value.type "tuple") (v0 :: vs)).toArray[0]? = some (Value.type "tuple") := by simp
    rw [hz]
    simp only [hall, if_true]
    exact wpAny_pure (wpAny_pure h)
theorem one_lt {x y : Value} {ns ms : List Int} (hx : ITup s.heap x ns) (hy : ITup s.heap y ms) (hu : A.units < cLine) {Q : Bool → Shared → Prop} (h : Q (lexLt ns ms) s) : wpAny (model prog w) A (oneLt' true x y) Q E s := by
  obtain ⟨a, its, rfl, hl, hi⟩ := hx
  obtain ⟨b, its2, rfl, hb, hj⟩ := hy
  rw [oneLt'_eq]
  simp only [if_true]
  obtain ⟨⟨cls, dd, data, sl⟩, ho, hc, n, hd⟩ := id hl
  obtain ⟨⟨cls2, dd2, data2, sl2⟩, ho2, hc2, n2, hd2⟩ := id hb
  simp only at hc hd hc2 hd2
  subst hc hd hc2 hd2
  refine wpAny_bind (wpAny_cRoomFor hu ?_)
  refine wpAny_bind (wpAny_callSpecialIfBound?_slot (T := "tuple") ⟨_, ho, rfl⟩ PySem.F.slot_tuple_lt (call_meets PySem.F.slot_tuple_lt ⟨_, ho, rfl⟩ PySem.F.entry_tuple_lt (PySem.F.args_tuple_lt_2 _ _) (tuple_lt_ints a b _ _ n n2 dd dd2 sl sl2 ns ms hi hj) ⟨ho, ho2, ?_⟩))
  exact wpAny_truthy_bool h
theorem it_sortable {a : Addr} {v0 : Value} {vs : List Value} (hu : A.units < cLine) (h0 : ITup s.heap v0 []) (hp : ∀ v ∈ v0 :: vs, ∃ ns, ITup s.heap v ns) (ha : ∀ o, s.heap.get? a = some o → o.cls ≠ .type "tuple") :
    SortableO prog w A s a (v0 :: vs) fun v u => lexLt (intsH s.heap v) (intsH s.heap u) := by
  intro h' keep
  have kk : ∀ c o, s.heap.get? c = some o → o.cls = .type "tuple" → h'.get? c = some o := fun c o e z => keep c o (fun q => by subst q; exact ha o e z) e
  refine ⟨oneType', fun Q E hq => kind_et (s := { s with heap := h' }) (h0.keeps kk) (fun v hv => ?_) Q hq, fun p q hm hm' => ?_⟩
  · obtain ⟨ns, x⟩ := hp v hv
    exact ⟨ns, x.keeps kk⟩
  · obtain ⟨ns, x⟩ := hp _ hm
    obtain ⟨ms, y⟩ := hp _ hm'
    show wpAny (model prog w) A (keyLt' oneType' p.1 q.1) (fun r s' => s' = { s with heap := h' } ∧ r = lexLt (intsH s.heap p.1) (intsH s.heap q.1)) (fun _ _ => False) { s with heap := h' }
    rw [keyLt'_oneType]
    exact one_lt (s := { s with heap := h' }) (x.keeps kk) (y.keeps kk) hu ⟨rfl, by rw [x.get, y.get]⟩
end
end NetR
namespace NetR
open PySem PySem.Spec PyProof.Rows L2
section
variable {X : Cx}
def rSortL : List V → Hp → VK → Prop := fun vs H Q => ∃ (a : Addr) (L : List (Addr × List Int)) (a0 : Addr) (r : List (Addr × List Int)), vs = [.ref a] ∧ H a = some (.lst (L.map fun z => V.ref z.1)) ∧ L = (a0, []) :: r ∧ (∀ z ∈ L, H z.1 = some (.tup (z.2.map V.int))) ∧
  ∀ (p : Addr) (L' : List (Addr × List Int)), L'.Perm L → (L'.map (·.2)).Pairwise (fun x y => HT.lexLt y x = false) → H p = none → Q (.ref p) (upd H p (.lst (L'.map fun z => V.ref z.1)))
theorem cr_sortedL (hu : X.A.units + 64 < cLine) : CallR X (.builtin "sorted") rSortL := by
  intro pins s σ H vs us Q I rr h
  obtain ⟨a, L, a0, r, rfl, hs, eL, hx, q⟩ := h
  obtain rfl := Vals.ref1 rr
  obtain ⟨its, rv, hl, hz⟩ := I.list (SqL.of (K := X.K) hs)
  have ei : its = L.map fun z => Value.ref z.1 := by
    have go : ∀ {M : List (Addr × List Int)} {us : List Value}, Vals (M.map fun z => V.ref z.1) us → us = M.map fun z => Value.ref z.1 := by
      intro M
      induction M with
      | nil =>
        intro us h
        cases h
        rfl
      | cons z M ih =>
        intro us h
        cases h with
        | cons h1 h2 =>
          rw [List.map_cons, ← ih h2]
          exact congrArg (· :: _) h1
    exact go rv
  have hzl : L.length ≤ sizeLine := by
    rw [List.length_map] at hz
    exact hz
  have it : ∀ z ∈ L, ITup s.heap (Value.ref z.1) z.2 := fun z hm => by
    obtain ⟨_, its2, r2, ht⟩ := (show ObjOk X.prog X.w H s.heap z.1 (.tup (z.2.map V.int)) from I.hok _ _ (hx z hm))
    exact ⟨z.1, its2, rfl, ht, intsAre_of r2⟩
  have itv : ∀ v ∈ L.map (fun z => Value.ref z.1), ∃ ns, ITup s.heap v ns := fun v hm => by
    obtain ⟨z, hz, rfl⟩ := List.mem_map.mp hm
    exact ⟨z.2, it z hz⟩
  subst ei
  refine SrtO.sorted_ord (swo_lx (intsH s.heap)) hl.isList (by rw [List.length_map]; exact hzl) (fun h2 g1 b hb kk => ?_) fun out o1 o2 => ?_
  · have kk2 : ∀ c o, s.heap.get? c = some o → o.cls = .type "tuple" → g1.get? c = some o := fun c o e _ => (kk c o e).2
    have eq : (fun v u => HT.lexLt (intsH s.heap v) (intsH s.heap u)) = fun v u => HT.lexLt (intsH s.heap v) (intsH s.heap u) := rfl
    have e0 : L.map (fun z => Value.ref z.1) = Value.ref a0 :: r.map (fun z => Value.ref z.1) := by
      rw [eL]
      rfl
    have sa := it_sortable (prog := X.prog) (w := X.w) (A := X.A.in1.in1) (s := { s with heap := g1 }) (a := b) (v0 := Value.ref a0) (vs := r.map (fun z => Value.ref z.1)) (by show X.A.units + 1 + 1 < cLine; omega)
      ((it (a0, []) (by rw [eL]; exact List.mem_cons_self)).keeps kk2) (fun v hv => by
        obtain ⟨ns, x⟩ := itv v (by rw [e0]; exact hv)
        exact ⟨ns, x.keeps kk2⟩) (fun o e c => by
        have e2 : some o = some (seqObj "list" (L.map (fun z => Value.ref z.1)).toArray 0) := e.symm.trans hb
        cases e2
        exact absurd (Value.type.inj c) (by decide))
    rw [e0]
    intro h' keep
    obtain ⟨κ, k1, k2⟩ := sa h' keep
    refine ⟨κ, k1, fun p q hm hm' => ?_⟩
    have z := k2 p q hm hm'
    obtain ⟨ns, x⟩ := itv p.1 (by rw [e0]; exact hm)
    obtain ⟨ms, y⟩ := itv q.1 (by rw [e0]; exact hm')
    have z1 : SrtO.lt2 (fun v u => HT.lexLt (intsH g1 v) (intsH g1 u)) p q = SrtO.lt2 (fun v u => HT.lexLt (intsH s.heap v) (intsH s.heap u)) p q := by
      show HT.lexLt (intsH g1 p.1) (intsH g1 q.1) = HT.lexLt (intsH s.heap p.1) (intsH s.heap q.1)
      rw [x.get, y.get, (x.keeps kk2).get, (y.keeps kk2).get]
    rw [← z1]
    exact z
  · obtain ⟨zs, pz, ez⟩ := L2.perm_lift (fun z : Addr × List Int => Value.ref z.1) o2.perm L rfl
    have hsort : (zs.map (·.2)).Pairwise (fun x y => HT.lexLt y x = false) := by
      have o1' : List.Pairwise (fun x y => HT.lexLt (intsH s.heap y) (intsH s.heap x) = false) out := o1
      rw [← ez, List.pairwise_map] at o1'
      rw [List.pairwise_map]
      refine List.Pairwise.imp_of_mem (fun {x y} hx hy h => ?_) o1'
      rw [(it x (pz.mem_iff.mp hx)).get, (it y (pz.mem_iff.mp hy)).get] at h
      exact h
    have rv2 : Vals (zs.map fun z => V.ref z.1) out := by
      rw [← ez]
      exact vals_maps (fun z : Addr × List Int => V.ref z.1) (fun z => Value.ref z.1) zs fun _ _ => rfl
    obtain ⟨n, hn⟩ := PyProof.Rows.sortedAll_at s.heap (L.map fun z => Value.ref z.1) out.toArray
    have hd : H (s.heap.objs.size + 1) = none := I.hok.fresh (Nat.le_succ _)
    refine ⟨.ref (s.heap.objs.size + 1), _, I.laid (t' := s.toks) (o := .lst (zs.map fun z => V.ref z.1)) (fun b o e => PyProof.Rows.sortedAll_old e) (Nat.le_succ _) (show _ ∧ _ from ⟨?_, out, n, rv2, hn⟩), rfl, q _ zs pz hsort hd⟩
    rw [List.length_map, pz.length_eq]
    exact hzl
abbrev entD (e : Int × Addr × List Int) : Key × V := (Sum.inl e.1, V.ref e.2.1)
def DictI (H : Hp) (a : Addr) (es : List (Int × Addr × List Int)) : Prop := H a = some (.dK (es.map entD)) ∧ ∀ e ∈ es, H e.2.1 = some (.tup (e.2.2.map V.int))
def dgetI (es : List (Int × Addr × List Int)) (k : Int) : Option (Int × Addr × List Int) := es.find? fun e => decide (e.1 = k)
def deqI (ea eb : List (Int × Addr × List Int)) : Bool := ea.length == eb.length && ea.all fun e => decide ((dgetI eb e.1).map (·.2.2) = some e.2.2)
theorem valV_ent (k : Int) : ∀ es : List (Int × Addr × List Int), valV (es.map entD) (Sum.inl k) = (dgetI es k).map fun e => V.ref e.2.1
  | [] => rfl
  | e :: es => by
    rw [List.map_cons]
    unfold dgetI
    by_cases h : e.1 = k
    · rw [valV_pos (show (entD e).1 = Sum.inl k by show (Sum.inl e.1 : Key) = _; rw [h]), List.find?_cons_of_pos (by simpa using h)]
      rfl
    · rw [valV_neg (show ¬ (entD e).1 = Sum.inl k from fun z => h (Sum.inl.inj z)), List.find?_cons_of_neg (by simpa using h)]
      exact valV_ent k es
theorem eqp_tups {pins : List (Addr × Obj)} {σ : L2.St} {H : Hp} {s : Shared} {A : Around} (I : Inv X pins σ H s) {p q : Addr} {ns ms : List Int} (hp : H p = some (.tup (ns.map V.int))) (hq : H q = some (.tup (ms.map V.int))) (hu : A.units + 64 < cLine) :
    SeqAt.EqP X.prog X.w A s (.ref p) (.ref q) (decide (ns = ms)) := by
  obtain ⟨as, r1⟩ := Dp.reads (X := X) I (.tuple (ns.map PyData.int)) (.ref p) (.ref p) (.tup (.inl (.inl hp)) (dp_ints ns)) rfl
  obtain ⟨bs, r2⟩ := Dp.reads (X := X) I (.tuple (ms.map PyData.int)) (.ref q) (.ref q) (.tup (.inl (.inl hq)) (dp_ints ms)) rfl
  have al : PySem.W.alike (.tuple (ns.map PyData.int)) (.tuple (ms.map PyData.int)) = true := PySem.W.alike_ints ns ms
  have e : PyData.eqv (.tuple (ns.map PyData.int)) (.tuple (ms.map PyData.int)) = decide (ns = ms) := by
    show PyData.eqvAll _ _ = _
    exact eqv_ints ns ms
  have dz : (PyData.tuple (ns.map PyData.int)).depth = 1 := by
    show PyData.depthAll (ns.map PyData.int) + 1 = 1
    rw [(lay_ints ns).2]
  have z := PySem.W.eqAt_alike (.tuple (ns.map PyData.int)) (.tuple (ms.map PyData.int)) A s (.ref p) (.ref q) as bs r1 r2 al (by rw [dz]; have : min 1 (PyData.tuple (ms.map PyData.int)).depth ≤ 1 := Nat.min_le_left _ _; omega)
  rw [e] at z
  exact SeqAt.EqAt.eqP z
def rEqDI : R2 := fun x y H Q => ∃ (a b : Addr) (ea eb : List (Int × Addr × List Int)), x = .ref a ∧ y = .ref b ∧ DictI H a ea ∧ DictI H b eb ∧ Q (.bl (deqI ea eb)) H
theorem op_eqDI (hu : X.A.units + 80 < cLine) : OpR X (compareOp .Eq) rEqDI := by
  intro pins s σ H x y v u Q I rx ry h
  obtain ⟨a, b, ea, eb, rfl, rfl, ⟨ha, ha2⟩, ⟨hb, hb2⟩, q⟩ := h
  cases rx
  cases ry
  obtain ⟨z1, l1, vs1, r1, d1⟩ := dk_of I.hok ha
  obtain ⟨z2, l2, vs2, r2, d2⟩ := dk_of I.hok hb
  have e1 : vs1.length = ea.length := by rw [← r1.length, List.length_map]
  have e2 : vs2.length = eb.length := by rw [← r2.length, List.length_map]
  have hits : ∀ {el : List (Int × Addr × List Int)} {vl : List (Key × Value)}, KV (el.map entD) vl → (∀ e ∈ el, H e.2.1 = some (.tup (e.2.2.map V.int))) → PySem.W.KeqHitsP X.prog X.w X.A.in1 s vs2 vl (el.all fun e => decide ((dgetI eb e.1).map (·.2.2) = some e.2.2)) := by
    intro el
    induction el with
    | nil =>
      intro vl h _
      cases h
      exact .nil
    | cons e el ih =>
      intro vl h hm
      cases h with
      | @cons _ kv _ vr h1 h2 =>
        obtain ⟨k1, k2⟩ := h1
        obtain ⟨k, vv⟩ := kv
        have k1 : (Sum.inl e.1 : Key) = k := k1
        subst k1
        obtain rfl : vv = Value.ref e.2.1 := k2
        have rv := KV.val r2 (Sum.inl e.1)
        rw [valV_ent] at rv
        rw [List.all_cons]
        cases eg : dgetI eb e.1 with
        | none =>
          rw [eg] at rv
          have hn : valueAt vs2 (Sum.inl e.1) = none := by
            cases q : valueAt vs2 (Sum.inl e.1) with
            | none => rfl
            | some x =>
              rw [q] at rv
              exact False.elim rv
          have e0 : (decide ((none : Option (Int × Addr × List Int)).map (·.2.2) = some e.2.2) && el.all fun e => decide ((dgetI eb e.1).map (·.2.2) = some e.2.2)) = false := by
            rw [decide_eq_false (by intro z; cases z), Bool.false_and]
          rw [e0]
          exact .miss hn
        | some f =>
          rw [eg] at rv
          have hf : f ∈ eb := List.mem_of_find?_eq_some eg
          obtain ⟨y, hy, ry⟩ : ∃ y, valueAt vs2 (Sum.inl e.1) = some y ∧ y = Value.ref f.2.1 := by
            cases q : valueAt vs2 (Sum.inl e.1) with
            | none =>
              rw [q] at rv
              exact False.elim rv
            | some x =>
              rw [q] at rv
              exact ⟨x, rfl, rv⟩
          subst ry
          have ed : decide ((some f).map (·.2.2) = some e.2.2) = decide (e.2.2 = f.2.2) := by
            show decide (some f.2.2 = some e.2.2) = _
            by_cases z : e.2.2 = f.2.2
            · rw [decide_eq_true z, decide_eq_true (by rw [z])]
            · rw [decide_eq_false z, decide_eq_false (fun q => z (Option.some.inj q).symm)]
          rw [ed]
          exact .hit hy (eqp_tups I (hm e List.mem_cons_self) (hb2 f hf) (by show X.A.units + 1 + 64 < cLine; omega)) (ih h2 fun e he => hm e (List.mem_cons_of_mem _ he))
  refine PySem.W.rcP_dicts l1 l2 d1 d2 (by omega) (fun _ => hits r1 ha2) _ _ ?_
  refine ⟨.bl (deqI ea eb), H, I, ?_, q⟩
  show Value.bool _ = Value.bool _
  rw [e1, e2]
  rfl
end
end NetR
namespace NetR
open PySem PySem.Spec PyProof.Rows L2
section
variable {X : Cx} {n : Nat} {CX : CXT} {C f : Addr} {fd : FuncData} {ps : List Str} {sp : Sp}
def rEqO (C : Addr) (sp : Sp) : R2 := fun x y H Q => ∃ (a dx : Addr) (fs : List (Str × V)), x = .ref a ∧ H a = some (.ins C dx fs) ∧ ((∃ b, y = .ref b ∧ ((∃ dy gs, H b = some (.ins C dy gs)) ∨ ∃ kvs, H b = some (.dK kvs))) ∨ ∃ n, y = .int n) ∧ sp [.ref a, y] H (fun v H' => ∃ k, v = .bl k ∧ Q (.bl k) H') E0
theorem op_eqO (F : FnOk X.prog X.w X.K X.mg X.base CX0 n f fd ps sp) (hr : Room n X.A) (hs : PySem.W.findIn X.K (.ref C) "__eq__" = some (some (.ref f))) (hf : PySem.W.isFn X.K (.ref f) = true) (hb : Binds X.K fd ps []) (hd : PySem.W.subIn X.K (.type "dict") (.ref C) = some false) (hi : PySem.W.subIn X.K (.type "int") (.ref C) = some false) : OpR X (compareOp .Eq) (rEqO C sp) := by
  intro pins s σ H x y v u Q I rx ry h
  obtain ⟨a, dx, fs, rfl, ha, hy, hsp⟩ := h
  cases rx
  obtain ⟨mA, J, _⟩ := ins_get I.hok ha
  obtain ⟨od, J, _⟩ := J.look
  obtain ⟨m, hF⟩ := I.fr
  have r2 : Vals [V.ref a, y] [Value.ref a, u] := .cons rfl (.cons ry .nil)
  have hl := F.len _ _ _ _ hsp
  have run : wpAny (model X.prog X.w) X.A (call (.ref f) [.ref a, u]) (PySem.W.CmpBack (EP X pins σ Q)) X.xe s := by
    refine wpAny_call (codeAny_mono (F.run X.A X.stack s H ⟨[.ref a, u], []⟩ [.ref a, u] [.ref a, y] _ E0 hr I.env0 (by
      have := hb s [.ref a, u] I.kIn (by simpa using hl)
      simpa using this) r2 hsp) fun r s' hq => ?_)
    cases r with
    | error e => exact (show False from hq).elim
    | ok fl =>
      cases fl with
      | ret w =>
        obtain ⟨z, H', I', rz, k, ez, q⟩ := I.after hq
        subst ez
        cases rz
        exact ⟨.bl k, H', I', rfl, q⟩
      | next => exact False.elim hq
      | brk => exact False.elim hq
      | cont => exact False.elim hq
  show wpAny (model X.prog X.w) X.A (richCompare .Eq (.ref a) u) (EP X pins σ Q) X.xe s
  rcases hy with ⟨b, rfl, ⟨dy, gs, hb'⟩ | ⟨kvs, hb'⟩⟩ | ⟨n, rfl⟩
  · cases ry
    obtain ⟨mB, J', _⟩ := ins_get I.hok hb'
    obtain ⟨od', J', _⟩ := J'.look
    exact PySem.W.cmp_K (op := .Eq) (tb := .ref C) hr.units0 hF I.ok.mod.kin J J'.type (by simp [PySem.W.notFirst]) hs hf run
  · cases ry
    obtain ⟨z, l, vs, rel, dd⟩ := dk_of I.hok hb'
    obtain ⟨o, es, ep, ho, hx, _⟩ := id dd
    exact PySem.W.cmp_K (op := .Eq) (tb := .type "dict") hr.units0 hF I.ok.mod.kin J ((PySem.W.Looks.ld ho).andThen (by rw [hx.1]; exact .now)) (by unfold PySem.W.notFirst; rw [hd]; rfl) hs hf run
  · obtain ⟨t, rfl⟩ := ry
    exact PySem.W.cmp_K (op := .Eq) (tb := .type "int") hr.units0 hF I.ok.mod.kin J (PySem.W.Looks.of_pure rfl) (by unfold PySem.W.notFirst; rw [hi]; rfl) hs hf run
theorem ne_special {M : Model} {A : Around} {E : Value → Shared → Prop} {s : Shared} {K : PySem.W.Frag} {x C : Addr} {ox : Obj} {od : Option Obj} {name : Str} {id : String} {args : List Value} {Q : Option Value → Shared → Prop} (X : K.In s.heap) (I : PySem.W.InstAt s.heap x ox C od) (hs : PySem.W.findIn K (.ref C) name = some (some (.builtin id)))
    (hb : ∀ self, bindSpecial (.builtin id) self = pure (.builtin id, [self])) (h : wpAny M A (call (.builtin id) (.ref x :: args)) (fun v => Q (some v)) E s) : wpAny M A (callSpecialIfBound? (.ref x) name args) Q E s := by
  simp only [callSpecialIfBound?, bindSpecialIfBound?]
  refine wpAny_holding (wpAny_bind (wpAny_bind (wpAny_bind (I.type.here ((PySem.W.looks_findIn X hs).here ?_)))))
  refine wpAny_bind (wpAny_askSetting (wpAny_ite ?_))
  have fin : wpAny M A (call (.builtin id) ([.ref x] ++ args) >>= fun v => pure (some v)) Q E s := wpAny_bind (wpAny_mono h (fun v s' h' => wpAny_pure h') fun _ _ h' => h')
  split
  · exact wpAny_bind ((PySem.W.Looks.of_pure (hb _)).here (wpAny_pure (by exact fin)))
  · exact wpAny_tryCatch (wpAny_bind ((PySem.W.Looks.of_pure (hb _)).here (wpAny_pure (by exact fin))))
open Builtin in
theorem ne_call {prog : Program} {w : World} {A : Around} {E : Value → Shared → Prop} {s : Shared} {K : PySem.W.Frag} {x C f : Addr} {ox : Obj} {od : Option Obj} {b : Value} {Q : Value → Shared → Prop} (hu : A.in1.units < cLine) (X : K.In s.heap) (I : PySem.W.InstAt s.heap x ox C od) (hm : PySem.W.mroIn K C (.type "object") = some true) (hr : PySem.W.findIn K (.ref C) "__eq__" = some (some (.ref f))) (hf : PySem.W.isFn K (.ref f) = true)
    (h : wpAny (model prog w) A.in1 (call (.ref f) [.ref x, b]) (fun v s' => ∃ k, v = .bool k ∧ Q (.bool (!k)) s') E s) : wpAny (model prog w) A (call (.builtin "object.__ne__") [.ref x, b]) Q E s := by
  refine wpAny_call (codeAny_call_builtin PySem.F.slot_object_ne.plain PySem.F.cmpEntry_ne (PySem.W.check_slot (i := "object.__ne__") (owner := "object") (n := "__ne__") PySem.F.cmpKind_ne PySem.F.cmpSplit_ne (I.type.andThen (PySem.W.looks_mroIn X hm)) (PySem.F.cmpArgs_ne _ _) ?_))
  unfold Builtin.«object.__ne__»
  refine wpAny_bind (m := slotArgs "__ne__" 1 _) (wpAny_pure ?_)
  refine wpAny_bind (m := cRoomFor _ _) (wpAny_cRoomFor hu ?_)
  refine wpAny_bind (m := callSpecialIfBound? (.ref x) (Str.ofString "__eq__") _) (PySem.W.ifBound_K X I hr hf (wpAny_mono h (fun v s' hq => ?_) fun _ _ y => y))
  obtain ⟨k, rfl, q⟩ := hq
  refine wpAny_bind (wpAny_pure ?_)
  exact wpAny_pure q
theorem cmp_ne {prog : Program} {w : World} {A : Around} {E : Value → Shared → Prop} {s : Shared} {K : PySem.W.Frag} {x C L : Addr} {h₀ : Heap} {m : Str → Option Value} {ox : Obj} {od : Option Obj} {b tb : Value} {Q : Value → Shared → Prop} (hu : A.units < cLine) (F : Fr h₀ L s.heap m) (X₀ : K.In h₀) (I : PySem.W.InstAt s.heap x ox C od) (hb : PySem.W.Looks (model prog w) s.heap (typeOf b) tb) (hn : PySem.W.notFirst K C tb = true)
    (hs : PySem.W.findIn K (.ref C) "__ne__" = some (some (.builtin "object.__ne__")))
    (h : wpAny (model prog w) A (call (.builtin "object.__ne__") [.ref x, b]) (PySem.W.CmpBack Q) E s) : wpAny (model prog w) A (richCompare .NotEq (.ref x) b) Q E s := by
  have X := X₀.keeps F.keep
  have one : wpAny (model prog w) A (tryCompare (.ref x) (cmpInfo .NotEq).2.1 b) (fun r s' => ∃ v, r = some v ∧ Q v s') E s := by
    unfold tryCompare
    refine wpAny_bind (ne_special X I hs PySem.F.slot_object_ne.bind (wpAny_mono h (fun v s' hv => ?_) fun _ _ e => e))
    cases v <;> first | exact hv.elim | exact wpAny_pure ⟨_, rfl, hv⟩
  unfold richCompare
  simp only [oneThing_ref]
  refine wpAny_holding (wpAny_bind (wpAny_cRoomFor hu ?_))
  refine wpAny_bind (I.type.here (wpAny_bind (hb.here ?_)))
  split
  · rename_i q
    have e : PySem.W.subIn K tb (.ref C) = some false := by
      rcases Bool.or_eq_true_iff.mp hn with e | e
      · rw [beq_iff_eq.mp e] at q; simp at q
      · exact beq_iff_eq.mp e
    refine wpAny_bind ((PySem.W.looks_subIn X e).here ?_)
    simp only [Bool.false_eq_true, if_false]
    refine wpAny_bind (wpAny_mono one (fun r s' z => ?_) fun _ _ e => e)
    obtain ⟨v, rfl, hq⟩ := z
    exact wpAny_pure hq
  · refine wpAny_bind (wpAny_pure ?_)
    simp only [Bool.false_eq_true, if_false]
    refine wpAny_bind (wpAny_mono one (fun r s' z => ?_) fun _ _ e => e)
    obtain ⟨v, rfl, hq⟩ := z
    exact wpAny_pure hq
def rNeO (C : Addr) (sp : Sp) : R2 := fun x y H Q => ∃ (a b dx dy : Addr) (fs gs : List (Str × V)), x = .ref a ∧ y = .ref b ∧ H a = some (.ins C dx fs) ∧ H b = some (.ins C dy gs) ∧ sp [.ref a, .ref b] H (fun v H' => ∃ k, v = .bl k ∧ Q (.bl (!k)) H') E0
theorem op_neO (F : FnOk X.prog X.w X.K X.mg X.base CX0 n f fd ps sp) (hr : Room (n + 1) X.A) (hs : PySem.W.findIn X.K (.ref C) "__ne__" = some (some (.builtin "object.__ne__"))) (he : PySem.W.findIn X.K (.ref C) "__eq__" = some (some (.ref f))) (hf : PySem.W.isFn X.K (.ref f) = true) (hb : Binds X.K fd ps []) (hm : PySem.W.mroIn X.K C (.type "object") = some true) : OpR X (compareOp .NotEq) (rNeO C sp) := by
  intro pins s σ H x y v u Q I rx ry h
  obtain ⟨a, b, dx, dy, fs, gs, rfl, rfl, ha, hb', hsp⟩ := h
  cases rx
  cases ry
  obtain ⟨mA, J, _⟩ := ins_get I.hok ha
  obtain ⟨od, J, _⟩ := J.look
  obtain ⟨mB, J', _⟩ := ins_get I.hok hb'
  obtain ⟨od', J', _⟩ := J'.look
  obtain ⟨m, hF⟩ := I.fr
  have r2 : Vals [V.ref a, V.ref b] [Value.ref a, Value.ref b] := .cons rfl (.cons rfl .nil)
  have hl := F.len _ _ _ _ hsp
  have e0 : Env0 X.prog X.w X.K X.mg X.base X.A.in1 X.stack s H := ⟨I.ok.frames, I.ok.mod, I.bs, Nat.le_trans I.ok.bsz I.sz, I.stack, I.stkFree, I.hok, I.bare⟩
  have hr1 : Room n X.A.in1 := hr.in1
  have run : wpAny (model X.prog X.w) X.A.in1 (call (.ref f) [.ref a, .ref b]) (fun v s' => ∃ k, v = .bool k ∧ PySem.W.CmpBack (EP X pins σ Q) (.bool (!k)) s') X.xe s := by
    refine wpAny_call (codeAny_mono (F.run X.A.in1 X.stack s H ⟨[.ref a, .ref b], []⟩ [.ref a, .ref b] [.ref a, .ref b] _ E0 hr1 e0 (by
      have := hb s [.ref a, .ref b] I.kIn (by simpa using hl)
      simpa using this) r2 hsp) fun r s' hq => ?_)
    cases r with
    | error e => exact (show False from hq).elim
    | ok fl =>
      cases fl with
      | ret w =>
        obtain ⟨z, H', I', rz, k, ez, q⟩ := I.after hq
        subst ez
        cases rz
        exact ⟨k, rfl, .bl (!k), H', I', rfl, q⟩
      | next => exact False.elim hq
      | brk => exact False.elim hq
      | cont => exact False.elim hq
  show wpAny (model X.prog X.w) X.A (richCompare .NotEq (.ref a) (.ref b)) (EP X pins σ Q) X.xe s
  exact cmp_ne (tb := .ref C) hr.units0 hF I.ok.mod.kin J J'.type (by simp [PySem.W.notFirst]) hs (ne_call hr1.units0 (I.ok.mod.kin.keeps hF.keep) J hm he hf run)
end
end NetR
namespace Net
open PySem PySem.Spec PyProof.Rows L2 NetR
abbrev Ent := Int × Addr × List Int
def putE (es : List Ent) (x : Ent) : List Ent := if (es.any fun e => decide (e.1 = x.1)) = true then es.map fun e => if e.1 = x.1 then x else e else es ++ [x]
def mrgE (es more : List Ent) : List Ent := more.foldl putE es
theorem putE_K (es : List Ent) (x : Ent) : putK (es.map entD) (Sum.inl x.1) (V.ref x.2.1) = (putE es x).map entD := by
  have ea : ((es.map entD).any fun kv => decide (kv.1 = Sum.inl x.1)) = es.any fun e => decide (e.1 = x.1) := by
    rw [List.any_map]
    congr 1
    funext e
    show decide ((Sum.inl e.1 : Key) = Sum.inl x.1) = decide (e.1 = x.1)
    by_cases h : e.1 = x.1
    · rw [h]
      simp
    · rw [decide_eq_false h, decide_eq_false (fun z => h (Sum.inl.inj z))]
  unfold putK putE
  rw [ea]
  split
  · rw [List.map_map, List.map_map]
    congr 1
    funext e
    show (if (Sum.inl e.1 : Key) = Sum.inl x.1 then ((Sum.inl e.1 : Key), V.ref x.2.1) else entD e) = entD (if e.1 = x.1 then x else e)
    by_cases h : e.1 = x.1
    · rw [if_pos h, if_pos (by rw [h]), h]
    · rw [if_neg h, if_neg (fun z => h (Sum.inl.inj z))]
  · rw [List.map_append]
    rfl
theorem mrgE_K : ∀ (more es : List Ent), mergeK (es.map entD) (more.map entD) = (mrgE es more).map entD
  | [], _ => rfl
  | x :: more, es => by
    show mergeK (putK (es.map entD) (entD x).1 (entD x).2) (more.map entD) = (mrgE (putE es x) more).map entD
    rw [← mrgE_K more (putE es x), ← putE_K]
theorem putE_mem {es : List Ent} {x e : Ent} (h : e ∈ putE es x) : e ∈ es ∨ e = x := by
  unfold putE at h
  split at h
  · obtain ⟨f, hf, rfl⟩ := List.mem_map.mp h
    split
    · exact .inr rfl
    · exact .inl hf
  · rcases List.mem_append.mp h with h | h
    · exact .inl h
    · exact .inr (List.mem_singleton.mp h)
theorem mrgE_mem : ∀ (more es : List Ent) (e : Ent), e ∈ mrgE es more → e ∈ es ∨ e ∈ more
  | [], es, e, h => .inl h
  | x :: more, es, e, h => by
    rcases mrgE_mem more (putE es x) e h with h | h
    · rcases putE_mem h with h | h
      · exact .inl h
      · exact .inr (by rw [h]; exact List.mem_cons_self)
    · exact .inr (List.mem_cons_of_mem _ h)
theorem putE_len (es : List Ent) (x : Ent) : (putE es x).length ≤ es.length + 1 := by
  unfold putE
  split
  · rw [List.length_map]
    omega
  · rw [List.length_append]
    exact Nat.le_refl _
theorem mrgE_len : ∀ (more es : List Ent), (mrgE es more).length ≤ es.length + more.length
  | [], es => Nat.le_refl _
  | x :: more, es => by
    have h1 := mrgE_len more (putE es x)
    have h2 := putE_len es x
    show (mrgE (putE es x) more).length ≤ _
    rw [List.length_cons]
    omega
def hasE (es : List Ent) (k : Int) : Bool := es.any fun e => decide (e.1 = k)
theorem putE_keys (es : List Ent) (x : Ent) : (putE es x).map (·.1) = if hasE es x.1 = true then es.map (·.1) else es.map (·.1) ++ [x.1] := by
  unfold putE hasE
  split
  · rw [List.map_map]
    apply List.map_congr_left
    intro e _
    show (if e.1 = x.1 then x else e).1 = e.1
    split
    · rename_i h
      exact h.symm
    · rfl
  · rw [List.map_append]
    rfl
theorem hasE_mem {es : List Ent} {k : Int} : hasE es k = true ↔ k ∈ es.map (·.1) := by
  unfold hasE
  rw [List.any_eq_true, List.mem_map]
  constructor
  · rintro ⟨e, he, h⟩
    exact ⟨e, he, of_decide_eq_true h⟩
  · rintro ⟨e, he, h⟩
    exact ⟨e, he, decide_eq_true h⟩
theorem putE_nodup {es : List Ent} {x : Ent} (h : (es.map (·.1)).Nodup) : ((putE es x).map (·.1)).Nodup := by
  rw [putE_keys]
  split
  · exact h
  · rename_i hn
    rw [List.nodup_append]
    refine ⟨h, by simp, fun a ha b hb => ?_⟩
    rw [List.mem_singleton] at hb
    subst hb
    intro e
    subst e
    exact hn (hasE_mem.mpr ha)
theorem mrgE_nodup : ∀ (more : List Ent) {es : List Ent}, (es.map (·.1)).Nodup → ((mrgE es more).map (·.1)).Nodup
  | [], _, h => h
  | x :: more, es, h => mrgE_nodup more (es := putE es x) (putE_nodup h)
theorem hasE_put {es : List Ent} {x : Ent} {k : Int} : hasE (putE es x) k = (hasE es k || decide (x.1 = k)) := by
  have e1 : ∀ b1 b2 : Bool, (b1 = true ↔ b2 = true) → b1 = b2 := by decide
  apply e1
  rw [hasE_mem (es := putE es x), putE_keys, Bool.or_eq_true, hasE_mem (es := es) (k := k), decide_eq_true_eq]
  cases h : hasE es x.1 with
  | true =>
    rw [if_pos rfl]
    constructor
    · exact fun h => .inl h
    · rintro (h1 | h1)
      · exact h1
      · rw [← h1]
        exact hasE_mem.mp h
  | false =>
    rw [if_neg Bool.false_ne_true, List.mem_append, List.mem_singleton]
    exact ⟨fun h => h.elim .inl fun z => .inr z.symm, fun h => h.elim .inl fun z => .inr z.symm⟩
theorem put_put {es : List Ent} {x y : Ent} (h : x.1 = y.1) : putE (putE es x) y = putE es y := by
  have hy : hasE (putE es x) y.1 = true := by
    rw [hasE_put, h]
    simp
  have e1 : putE (putE es x) y = (putE es x).map fun e => if e.1 = y.1 then y else e := if_pos hy
  rw [e1]
  unfold putE
  rw [h]
  split
  · rw [List.map_map]
    apply List.map_congr_left
    intro e _
    show (if (if e.1 = y.1 then x else e).1 = y.1 then y else (if e.1 = y.1 then x else e)) = if e.1 = y.1 then y else e
    by_cases z : e.1 = y.1
    · rw [if_pos z, if_pos h, if_pos z]
    · rw [if_neg z, if_neg z]
  · rename_i hn
    rw [List.map_append]
    congr 1
    · have : ∀ e ∈ es, (if e.1 = y.1 then y else e) = e := fun e he => by
        rw [if_neg]
        intro z
        exact hn (List.any_eq_true.mpr ⟨e, he, decide_eq_true z⟩)
      rw [List.map_congr_left this]
      exact List.map_id' es
    · rw [List.map_cons, if_pos h]
      rfl
theorem put_swap {es : List Ent} {x y : Ent} (h : x.1 ≠ y.1) (hx : hasE es x.1 = true) : putE (putE es y) x = putE (putE es x) y := by
  have h1 : hasE (putE es y) x.1 = true := by
    rw [hasE_put, hx]
    rfl
  have h2 : hasE (putE es x) y.1 = hasE es y.1 := by
    rw [hasE_put, decide_eq_false h, Bool.or_false]
  have e1 : putE (putE es y) x = (putE es y).map fun e => if e.1 = x.1 then x else e := if_pos h1
  have e2 : putE es x = es.map fun e => if e.1 = x.1 then x else e := if_pos hx
  rw [e1]
  cases hy : hasE es y.1 with
  | true =>
    rw [hy] at h2
    have e3 : putE (putE es x) y = (putE es x).map fun e => if e.1 = y.1 then y else e := if_pos h2
    have e4 : putE es y = es.map fun e => if e.1 = y.1 then y else e := if_pos hy
    rw [e3, e2, e4, List.map_map, List.map_map]
    apply List.map_congr_left
    intro e _
    show (if (if e.1 = y.1 then y else e).1 = x.1 then x else (if e.1 = y.1 then y else e)) = (if (if e.1 = x.1 then x else e).1 = y.1 then y else (if e.1 = x.1 then x else e))
    by_cases c1 : e.1 = y.1
    · have c2 : ¬ e.1 = x.1 := fun z => h (z.symm.trans c1)
      rw [if_pos c1, if_neg (fun z => h z.symm), if_neg c2, if_pos c1]
    · rw [if_neg c1]
      by_cases c2 : e.1 = x.1
      · rw [if_pos c2, if_neg h]
      · rw [if_neg c2, if_neg c1]
  | false =>
    rw [hy] at h2
    have e3 : putE (putE es x) y = putE es x ++ [y] := if_neg (by unfold hasE at h2; rw [h2]; exact Bool.false_ne_true)
    have e4 : putE es y = es ++ [y] := if_neg (by unfold hasE at hy; rw [hy]; exact Bool.false_ne_true)
    rw [e3, e2, e4, List.map_append, List.map_cons, if_neg (fun z => h z.symm)]
    rfl
theorem hasE_mrg {k : Int} : ∀ (more es : List Ent), hasE es k = true → hasE (mrgE es more) k = true
  | [], _, h => h
  | x :: more, es, h => hasE_mrg more (putE es x) (by rw [hasE_put, h]; rfl)
theorem put_over {x : Ent} : ∀ (more es : List Ent), hasE es x.1 = true → (∀ y ∈ more, y.1 ≠ x.1) → putE (mrgE es more) x = mrgE (putE es x) more
  | [], _, _, _ => rfl
  | y :: more, es, h, hn => by
    have ih := put_over more (putE es y) (by rw [hasE_put, h]; rfl) fun z hz => hn z (List.mem_cons_of_mem _ hz)
    show putE (mrgE (putE es y) more) x = mrgE (putE (putE es x) y) more
    rw [ih, put_swap (fun z => hn y List.mem_cons_self z.symm) h]
theorem mrg_app (es m1 m2 : List Ent) : mrgE es (m1 ++ m2) = mrgE (mrgE es m1) m2 := List.foldl_append
theorem mrg_put : ∀ (m : List Ent) (es : List Ent) (x : Ent), (m.map (·.1)).Nodup → mrgE es (putE m x) = putE (mrgE es m) x
  | m, es, x, hn => by
    cases hx : hasE m x.1 with
    | false =>
      have e : putE m x = m ++ [x] := if_neg (by unfold hasE at hx; rw [hx]; exact Bool.false_ne_true)
      rw [e, mrg_app]
      rfl
    | true =>
      have e : putE m x = m.map fun e => if e.1 = x.1 then x else e := if_pos hx
      rw [e]
      have go : ∀ (m es : List Ent), hasE m x.1 = true → (m.map (·.1)).Nodup → mrgE es (m.map fun e => if e.1 = x.1 then x else e) = putE (mrgE es m) x := by
        intro m
        induction m with
        | nil =>
          intro es h _
          cases h
        | cons y m ih =>
          intro es h hn
          rw [List.map_cons, List.nodup_cons] at hn
          by_cases c : y.1 = x.1
          · have hno : ∀ z ∈ m, z.1 ≠ x.1 := fun z hz w => hn.1 (by rw [c, ← w]; exact List.mem_map.mpr ⟨z, hz, rfl⟩)
            have em : m.map (fun e => if e.1 = x.1 then x else e) = m := by
              have : ∀ e ∈ m, (if e.1 = x.1 then x else e) = e := fun e he => if_neg (hno e he)
              rw [List.map_congr_left this]
              exact List.map_id' m
            show mrgE es ((if y.1 = x.1 then x else y) :: m.map fun e => if e.1 = x.1 then x else e) = putE (mrgE (putE es y) m) x
            rw [if_pos c, em, put_over m (putE es y) (by rw [hasE_put, c]; simp) hno, put_put c]
            rfl
          · have hm : hasE m x.1 = true := by
              unfold hasE at h ⊢
              rw [List.any_cons, decide_eq_false c, Bool.false_or] at h
              exact h
            show mrgE es ((if y.1 = x.1 then x else y) :: m.map fun e => if e.1 = x.1 then x else e) = putE (mrgE (putE es y) m) x
            rw [if_neg c]
            exact ih (putE es y) hm hn.2
      exact go m es hx hn
theorem mrg_mrg : ∀ (ps es : List Ent), mrgE es (mrgE [] ps) = mrgE es ps := by
  have go : ∀ (ps m es : List Ent), (m.map (·.1)).Nodup → mrgE es (mrgE m ps) = mrgE (mrgE es m) ps := by
    intro ps
    induction ps with
    | nil => exact fun m es _ => rfl
    | cons x ps ih =>
      intro m es h
      show mrgE es (mrgE (putE m x) ps) = mrgE (putE (mrgE es m) x) ps
      rw [ih (putE m x) es (putE_nodup h), mrg_put m es x h]
  exact fun ps es => go ps [] es List.nodup_nil
end Net
namespace Net
open PySem PySem.Spec PyProof.Rows L2 NetR
theorem u80 {k : Nat} {A : Around} (r : Room k A) : A.units + 80 < cLine := by
  have := r.un
  omega
def dkF (k l : Addr) : List (Str × V) := [("its_kept", .ref k), ("its_pending", .ref l)]
theorem dkF_k (k l : Addr) : (dkF k l).lookup ("its_kept" : Str) = some (.ref k) := rfl
theorem dkF_p (k l : Addr) : (dkF k l).lookup ("its_pending" : Str) = some (.ref l) := rfl
theorem dkF_no (k l : Addr) {m : Str} (h1 : ¬ m = "its_kept") (h2 : ¬ m = "its_pending") : (dkF k l).lookup m = none := by
  have e1 : (m == ("its_kept" : Str)) = false := by simpa using h1
  have e2 : (m == ("its_pending" : Str)) = false := by simpa using h2
  unfold dkF
  simp only [List.lookup, e1, e2]
abbrev Pnd := Addr × Int × Addr × List Int
structure Dsk where
  p : Addr
  dx : Addr
  k : Addr
  l : Addr
  es : List Ent
  pn : List Pnd
structure DkI (C : Addr) (H : Hp) (D : Dsk) : Prop where
  ins : H D.p = some (.ins C D.dx (dkF D.k D.l))
  kept : DictI H D.k D.es
  pend : H D.l = some (.lst (D.pn.map fun z => V.ref z.1))
  prs : ∀ z ∈ D.pn, H z.1 = some (.tup [.int z.2.1, .ref z.2.2.1]) ∧ H z.2.2.1 = some (.tup (z.2.2.2.map V.int))
  se : D.es.length ≤ 500
  sp : D.pn.length ≤ 100
  nd : (D.es.map (·.1)).Nodup
theorem DictI.keep {H H' : Hp} {a : Addr} {es : List Ent} (h : DictI H a es) (k : H' a = H a) (t : TK H H') : DictI H' a es := ⟨k.trans h.1, fun e he => t _ _ (h.2 e he)⟩
theorem DictI.same {H H' : Hp} {a : Addr} {es : List Ent} (h : DictI H a es) (s : Same H H') : DictI H' a es := ⟨s _ _ h.1, fun e he => s _ _ (h.2 e he)⟩
theorem DkI.more {C : Addr} {H H' : Hp} {D : Dsk} (h : DkI C H D) (s : Same H H') : DkI C H' D :=
  ⟨s _ _ h.ins, DictI.same h.kept s, s _ _ h.pend, fun z hz => ⟨s _ _ (h.prs z hz).1, s _ _ (h.prs z hz).2⟩, h.se, h.sp, h.nd⟩
theorem DkI.keep {C : Addr} {H H' : Hp} {D : Dsk} (h : DkI C H D) (t : TK H H') (h1 : H' D.p = H D.p) (h2 : H' D.k = H D.k) (h3 : H' D.l = H D.l) : DkI C H' D :=
  ⟨h1.trans h.ins, DictI.keep h.kept h2 t, h3.trans h.pend, fun z hz => ⟨t _ _ (h.prs z hz).1, t _ _ (h.prs z hz).2⟩, h.se, h.sp, h.nd⟩
def pnE (pn : List Pnd) : List Ent := pn.map (·.2)
structure TDk (K : PySem.W.Frag) (mg : Str → Option Value) (C fI : Addr) : Prop where
  cl : Cls K C
  nK : NoAttr K C "its_kept"
  nP : NoAttr K C "its_pending"
  g : mg "Disk" = some (.ref C)
  mkr : Mk K C fI
def sp_dkinit (C : Addr) : Sp := fun vs H Q E => ∃ p dx, vs = [.ref p] ∧ H p = some (.ins C dx []) ∧ ∀ H' k l, (∀ b o, b ≠ p → H b = some o → H' b = some o) → H k = none → H l = none → H' p = some (.ins C dx (dkF k l)) → H' k = some (.dK []) → H' l = some (.lst []) → Q .non H'
def sp_copied (C : Addr) : Sp := fun vs H Q E => ∃ D, vs = [.ref D.p] ∧ DkI C H D ∧ ∀ H' D', Same H H' → H D'.p = none → H D'.k = none → H D'.l = none → DkI C H' D' → D'.es = D.es → D'.pn = D.pn → Q (.ref D'.p) H'
def sp_write (C CR : Addr) : Sp := fun vs H Q E => ∃ D v d u e, vs = [.ref D.p, v, u] ∧ DkI C H D ∧ Rp H v d ∧ Rp H u e ∧ dsz e ≤ 100001 ∧ D.pn.length < 100 ∧
  (within d 0 65535 = false → RfE CR H "number" E) ∧ (within d 0 65535 = true → (pfD e).isNone = false → RfE CR H "page" E) ∧
  (∀ n a ns, d = .int n → u = .ref a → H a = some (.tup (ns.map V.int)) → within d 0 65535 = true → (pfD e).isNone = true → ∀ H' t, (∀ b o, b ≠ D.l → H b = some o → H' b = some o) → DkI C H' { D with pn := D.pn ++ [(t, n, a, ns)] } → Q .non H')
def sp_flush (C : Addr) : Sp := fun vs H Q E => ∃ D, vs = [.ref D.p] ∧ DkI C H D ∧ D.es.length + D.pn.length ≤ 500 ∧ ∀ H' l', (∀ b o, b ≠ D.p → b ≠ D.k → H b = some o → H' b = some o) → H l' = none → DkI C H' { D with l := l', es := mrgE D.es (pnE D.pn), pn := [] } → Q .non H'
section
variable {P : Program} {w : World} {K : PySem.W.Frag} {mg : Str → Option Value} {base : Heap} {CR fR ccR CB fB ccB CN C fI : Addr}
abbrev s_Disk___init__ : Stmt := inClass (top 40) 0
theorem sc_Disk___init__ : FnScope ["self"] ["self"] (defScope s_Disk___init__) := ⟨rfl, rfl, rfl, by decide +kernel, rfl, by decide +kernel, by decide +kernel⟩
theorem ok_dkinit {f : Addr} {fd : FuncData} (F : Fun K "__init__" "Disk.__init__" s_Disk___init__ f fd) (TDisk : TDk K mg C fI) : FnOk P w K mg base CX0 1 f fd ["self"] (sp_dkinit C) := by
  refine F.ok sc_Disk___init__ (fun vs H Q E h => ?_) (fun cdv A outer s H vs Q E hr h => ?_)
  · obtain ⟨r, dx, rfl, _⟩ := h
    rfl
  · obtain ⟨r, dx, rfl, hr1, q⟩ := h
    refine ⟨_, (pss_one (ps_asg (pe_tup (pa_cons pe_dnewK (pa_cons (pe_lst pa_nil) pa_nil))) (pg_tup rfl (pgs_cons (pg_fld (pv 0)) (pgs_cons (pg_fld (pv 0)) pgs_nil))))), ?_⟩
    refine fun k hk => ⟨Nat.zero_le _, fun l hl => ⟨(by show 2 ≤ sizeLine; decide), fun p hp => ?_⟩⟩
    have s1 := same_upd (o := .dK []) hk
    have s2 := s1.trans ((same_upd (o := .lst []) hl).trans (same_upd (o := .tup [.ref k, .ref l]) hp))
    have hp2 : (upd (upd (upd H k (.dK [])) l (.lst [])) p (.tup [.ref k, .ref l])) p = some (.tup [.ref k, .ref l]) := upd_same
    have hl2 : (upd (upd (upd H k (.dK [])) l (.lst [])) p (.tup [.ref k, .ref l])) l = some (.lst []) := same_upd hp _ _ upd_same
    have hk2 : (upd (upd (upd H k (.dK [])) l (.lst [])) p (.tup [.ref k, .ref l])) k = some (.dK []) := same_upd hp _ _ (same_upd hl _ _ upd_same)
    have hr2 := s2 _ _ hr1
    generalize upd (upd (upd H k (.dK [])) l (.lst [])) p (.tup [.ref k, .ref l]) = H2 at s2 hp2 hl2 hk2 hr2
    refine ⟨p, _, rfl, .inl (.inl hp2), rfl, _, _, rfl, _, rfl, r, C, dx, _, rfl, hr2, TDisk.cl, TDisk.nK, (by show 0 < 1000; decide), ?_⟩
    refine ⟨_, _, rfl, _, rfl, r, C, dx, _, rfl, upd_same, TDisk.cl, TDisk.nP, (by show 1 < 1000; decide), rfl, ?_⟩
    have kr : k ≠ r := ne_of hk2 hr2 (by intro z; cases z)
    have lr : l ≠ r := ne_of hl2 hr2 (by intro z; cases z)
    refine q _ k l (fun b o hb e => ?_) hk (s1.free hl) upd_same ?_ ?_
    · rw [upd_ne hb, upd_ne hb]
      exact s2 _ _ e
    · rw [upd_ne kr, upd_ne kr]
      exact hk2
    · rw [upd_ne lr, upd_ne lr]
      exact hl2
theorem new_disk {H H1 : Hp} {x dx k l : Addr} (nx : H x = none) (nd : H dx = none) (kp : ∀ b o, b ≠ x → (upd (upd H dx (.own x)) x (.ins C dx [])) b = some o → H1 b = some o) (hx : H1 x = some (.ins C dx (dkF k l))) (hk : H1 k = some (.dK [])) (hl : H1 l = some (.lst []))
    (nk : (upd (upd H dx (.own x)) x (.ins C dx [])) k = none) (nl : (upd (upd H dx (.own x)) x (.ins C dx [])) l = none) : Same H H1 ∧ H k = none ∧ H l = none ∧ DkI C H1 { p := x, dx := dx, k := k, l := l, es := [], pn := [] } := by
  have sx : Same H (upd (upd H dx (.own x)) x (.ins C dx [])) := fun b o e => by
    rw [upd_ne (ne_of_none e nx), upd_ne (ne_of_none e nd)]
    exact e
  exact ⟨fun b o e => kp b o (ne_of_none e nx) (sx _ _ e), sx.free nk, sx.free nl, hx, ⟨hk, fun e he => (nomatch he)⟩, hl, fun z hz => (nomatch hz), Nat.zero_le _, Nat.zero_le _, List.nodup_nil⟩
abbrev s_Disk_copied : Stmt := inClass (top 40) 2
theorem sc_Disk_copied : FnScope ["self", "other"] ["self"] (defScope s_Disk_copied) := ⟨rfl, rfl, rfl, by decide +kernel, rfl, by decide +kernel, by decide +kernel⟩
theorem ok_copied {f : Addr} {fd fd1 : FuncData} (F : Fun K "copied" "Disk.copied" s_Disk_copied f fd) (T : Tx mg) (TDisk : TDk K mg C fI) (d_Disk___init__ : OkM P w K mg base CX0 1 C "__init__" ["self"] (sp_dkinit C) fI fd1) : FnOk P w K mg base CX0 3 f fd ["self"] (sp_copied C) := by
  refine F.ok sc_Disk_copied (fun vs H Q E h => ?_) (fun cdv A outer s H vs Q E hr h => ?_)
  · obtain ⟨D, rfl, _⟩ := h
    rfl
  · obtain ⟨D, rfl, hI, q⟩ := h
    refine ⟨_, (pss_cons (ps_set (i := 1) sc_Disk_copied.nd rfl (Or.inl rfl) (pe_make0 TDisk.mkr d_Disk___init__.ok (hr.mono (by decide)) rfl TDisk.g d_Disk___init__.b .nil pass0))
      (pss_cons (ps_asg (pe_tup (pa_cons (pe_callTy call_dictD (by rfl) T.n_dict (by decide +kernel) (pa_cons (pe_fld (pv 0) rfl) pa_nil)) (pa_cons (pe_callTy call_list_of (by rfl) T.n_list (by decide +kernel) (pa_cons (pe_fld (pv 0) rfl) pa_nil)) pa_nil))) (pg_tup rfl (pgs_cons (pg_fld (pv 1)) (pgs_cons (pg_fld (pv 1)) pgs_nil))))
      (pss_one (ps_ret (pv 1))))), ?_⟩
    intro x dx nx ndx nex
    refine ⟨x, dx, rfl, upd_same, fun H1 k l kp nk nl hx hk hl => ⟨rfl, ?_⟩⟩
    obtain ⟨s1, hk0, hl0, hN⟩ := new_disk nx ndx kp hx hk hl nk nl
    have hI1 := hI.more s1
    refine ⟨_, rfl, D.p, C, D.dx, _, _, rfl, hI1.ins, TDisk.cl, TDisk.nK, dkF_k _ _, D.k, _, rfl, .inl hI1.kept.1, fun k2 nk2 => ?_⟩
    have s2 := same_upd (o := .dK (D.es.map entD)) nk2
    have hI2 := hI1.more s2
    refine ⟨_, rfl, D.p, C, D.dx, _, _, rfl, hI2.ins, TDisk.cl, TDisk.nP, dkF_p _ _, D.l, _, rfl, .inl (SqL.of hI2.pend), fun l2 nl2 => ?_⟩
    have s3 := same_upd (o := .lst (D.pn.map fun z => V.ref z.1)) nl2
    refine ⟨(by show 2 ≤ sizeLine; decide), fun p hp => ?_⟩
    have s4 := same_upd (o := .tup [.ref k2, .ref l2]) hp
    have hk4 := (s3.trans s4) _ _ (@upd_same H1 k2 (.dK (D.es.map entD)))
    have hl4 := s4 _ _ (@upd_same (upd H1 k2 (.dK (D.es.map entD))) l2 (.lst (D.pn.map fun z => V.ref z.1)))
    have hp4 := @upd_same (upd (upd H1 k2 (.dK (D.es.map entD))) l2 (.lst (D.pn.map fun z => V.ref z.1))) p (.tup [.ref k2, .ref l2])
    have s14 := s2.trans (s3.trans s4)
    have hx4 := s14 _ _ hx
    have hI4 := hI1.more s14
    generalize upd (upd (upd H1 k2 (.dK (D.es.map entD))) l2 (.lst (D.pn.map fun z => V.ref z.1))) p (.tup [.ref k2, .ref l2]) = H4 at s14 s4 hk4 hl4 hp4 hx4 hI4
    refine ⟨p, _, rfl, .inl (.inl hp4), rfl, _, _, rfl, _, rfl, x, C, dx, _, rfl, hx4, TDisk.cl, TDisk.nK, (by show 2 < 1000; decide), ?_⟩
    refine ⟨_, _, rfl, _, rfl, x, C, dx, _, rfl, upd_same, TDisk.cl, TDisk.nP, (by show 2 < 1000; decide), rfl, ?_⟩
    have kx : k2 ≠ x := ne_of hk4 hx4 (by intro z; cases z)
    have lx : l2 ≠ x := ne_of hl4 hx4 (by intro z; cases z)
    have s5 : Same H (upd (upd H4 x (.ins C dx (dkF k2 l))) x (.ins C dx (dkF k2 l2))) := Same.own (Same.own (s1.trans s14) nx) nx
    refine ⟨_, rfl, q _ { p := x, dx := dx, k := k2, l := l2, es := D.es, pn := D.pn } s5 nx (s1.free nk2) (s1.free (s2.free nl2)) ?_ rfl rfl⟩
    have hI5 := hI.more s5
    refine ⟨upd_same, ⟨?_, hI5.kept.2⟩, ?_, hI5.prs, hI5.se, hI5.sp, hI5.nd⟩
    · show upd (upd H4 x _) x _ k2 = _
      rw [upd_ne kx, upd_ne kx]
      exact hk4
    · show upd (upd H4 x _) x _ l2 = _
      rw [upd_ne lx, upd_ne lx]
      exact hl4
abbrev s_Disk_write : Stmt := inClass (top 40) 3
theorem sc_Disk_write : FnScope ["self", "number", "page"] ["self", "number", "page"] (defScope s_Disk_write) := ⟨rfl, rfl, rfl, by decide +kernel, rfl, by decide +kernel, by decide +kernel⟩
theorem ok_write {f f_is_within f_is_page : Addr} {fd fd1 fd2 : FuncData} (F : Fun K "write" "Disk.write" s_Disk_write f fd) (T : Tx mg) (TE : Tex P K mg CR fR ccR CB fB ccB CN) (TDisk : TDk K mg C fI)
    (d_is_within : Ok1 P w K mg base CX0 2 "is_within" ["thing", "least", "most"] sp_is_within f_is_within fd1) (d_is_page : Ok1 P w K mg base CX0 6 "is_page" ["thing"] sp_is_page f_is_page fd2) :
    FnOk P w K mg base (L2.CX P w) 7 f fd ["self", "number", "page"] (sp_write C CR) := by
  refine F.okX sc_Disk_write (fun vs H Q E h => ?_) (fun cdv A outer s H vs Q E hr h => ?_)
  · obtain ⟨D, v, d, u, e, rfl, _⟩ := h
    rfl
  · obtain ⟨D, v, d, u, e, rfl, hI, hv, hu, hsz, hpl, qN, qP, qY⟩ := h
    obtain ⟨t_MOST_NUMBER, c_MOST_NUMBER⟩ := T.c_MOST_NUMBER
    refine ⟨_, (pss_cons (ps_if (pt_not (pt_val (pe_call d_is_within.ok (hr.mono (by decide)) rfl d_is_within.g d_is_within.kp d_is_within.b .nil pass0 (pa_cons (pv 1) (pa_cons pe_int (pa_cons (pe_glob (v := .int 65535) rfl c_MOST_NUMBER ⟨_, rfl⟩) pa_nil)))))) (pss_one (ps_raise rfl (takes_of rfl rfl rfl rfl) (pmk_rf TE.xRF TE.g_Refused TE.nRF hr (by decide) (pa_cons pe_str pa_nil)))) pss_nil)
      (pss_cons (ps_if (pt_not (pt_val (pe_call d_is_page.ok (hr.mono (by decide)) rfl d_is_page.g d_is_page.kp d_is_page.b .nil pass0 (pa_cons (pv 2) pa_nil)))) (pss_one (ps_raise rfl (takes_of rfl rfl rfl rfl) (pmk_rf TE.xRF TE.g_Refused TE.nRF hr (by decide) (pa_cons pe_str pa_nil)))) pss_nil)
      (pss_one (ps_expr (pe_bm PySem.F.plainAttrs_list PySem.F.slot_list_append PySem.F.type_list_append mt_append (pe_fld (pv 0) rfl) (pa_cons (pe_tup (pa_cons (pv 1) (pa_cons (pv 2) pa_nil))) pa_nil)))))), ?_⟩
    refine ⟨v, rfl, v, d, 0, 65535, rfl, hv, _, rfl, ?_⟩
    cases ew : within d 0 65535 with
    | false => exact iteT ⟨_, rfl, fun e he => qN ew _ e (same_upd he) upd_same⟩
    | true =>
      refine iteF ⟨u, rfl, u, e, rfl, hu, hsz, fun H1 s1 => ⟨_, rfl, ?_⟩⟩
      cases ep : (pfD e).isNone with
      | false => exact iteT ⟨_, rfl, fun e he => qP ew ep _ e (s1.trans (same_upd he)) upd_same⟩
      | true =>
        refine iteF ?_
        obtain ⟨n, rfl⟩ : ∃ n, d = .int n := by
          cases d with
          | int n => exact ⟨n, rfl⟩
          | _ => cases ew
        cases hv
        have eb : areBytes e = true := by
          unfold pfD at ep
          split at ep
          · rename_i hc
            exact (Bool.and_eq_true_iff.mp hc).1
          · cases ep
        obtain ⟨ns, rfl⟩ := areInts_of (areBytes_ints eb)
        obtain ⟨a, rfl, ha⟩ := rp_ints hu
        have hI1 := hI.more s1
        refine ⟨_, rfl, D.p, C, D.dx, _, _, rfl, hI1.ins, TDisk.cl, TDisk.nP, dkF_p _ _, .inl ⟨rfl, _, SqL.of hI1.pend⟩, _, rfl, _, rfl, (by show 2 ≤ sizeLine; decide), fun t ht => ?_⟩
        have s2 := same_upd (o := .tup [.int n, .ref a]) ht
        have hI2 := hI1.more s2
        have ht2 := @upd_same H1 t (.tup [.int n, .ref a])
        have ha2 := (s1.trans s2) _ _ ha
        have s12 := s1.trans s2
        generalize upd H1 t (.tup [.int n, .ref a]) = H2 at s2 hI2 ht2 ha2 s12
        refine ⟨D.l, _, _, rfl, rfl, hI2.pend, Nat.lt_of_lt_of_le (by rw [List.length_map]; omega) sl_big, ?_⟩
        have tk : TK H2 (upd H2 D.l (.lst (D.pn.map (fun z => V.ref z.1) ++ [.ref t]))) := .lst hI2.pend
        refine qY n a ns rfl rfl ha ew ep _ t (fun b o hb e => by rw [upd_ne hb]; exact s12 _ _ e) ⟨?_, DictI.keep hI2.kept (upd_ne (ne_of hI2.kept.1 hI2.pend (by intro z; cases z))) tk, ?_, fun z hz => ?_, hI2.se, ?_, hI2.nd⟩
        · exact Eq.trans (upd_ne (ne_of hI2.ins hI2.pend (by intro z; cases z))) hI2.ins
        · show upd H2 D.l _ D.l = _
          rw [upd_same, List.map_append]
          rfl
        · rcases List.mem_append.mp hz with hz | hz
          · exact ⟨tk _ _ (hI2.prs z hz).1, tk _ _ (hI2.prs z hz).2⟩
          · cases List.mem_singleton.mp hz
            exact ⟨tk _ _ ht2, tk _ _ ha2⟩
        · show (D.pn ++ [_]).length ≤ 100
          rw [List.length_append]
          exact hpl
abbrev s_Disk_flush : Stmt := inClass (top 40) 4
theorem sc_Disk_flush : FnScope ["self"] ["self"] (defScope s_Disk_flush) := ⟨rfl, rfl, rfl, by decide +kernel, rfl, by decide +kernel, by decide +kernel⟩
theorem ok_flush {f : Addr} {fd : FuncData} (F : Fun K "flush" "Disk.flush" s_Disk_flush f fd) (T : Tx mg) (TDisk : TDk K mg C fI) : FnOk P w K mg base CX0 1 f fd ["self"] (sp_flush C) := by
  refine F.ok sc_Disk_flush (fun vs H Q E h => ?_) (fun cdv A outer s H vs Q E hr h => ?_)
  · obtain ⟨D, rfl, _⟩ := h
    rfl
  · obtain ⟨D, rfl, hI, hsz, q⟩ := h
    refine ⟨_, (pss_cons (ps_expr (pe_bm PySem.F.plainAttrs_dict PySem.F.slot_dict_update PySem.F.type_dict_update mt_updD (pe_fld (pv 0) rfl) (pa_cons (pe_callTy (call_dictP rfl) (by rfl) T.n_dict (by decide +kernel) (pa_cons (pe_fld (pv 0) rfl) pa_nil)) pa_nil)))
      (pss_one (ps_fld (pv 0) (pe_lst pa_nil) rfl))), ?_⟩
    refine ⟨_, rfl, D.p, C, D.dx, _, _, rfl, hI.ins, TDisk.cl, TDisk.nK, dkF_k _ _, .inr (.inr (.inl ⟨rfl, .inl ⟨_, hI.kept.1⟩⟩)), ?_⟩
    refine ⟨_, rfl, D.p, C, D.dx, _, _, rfl, hI.ins, TDisk.cl, TDisk.nP, dkF_p _ _, D.l, D.pn.map (·.1), (pnE D.pn).map entD, rfl, ?_, ?_, fun m nm => ?_⟩
    · rw [List.map_map]
      exact SqL.of hI.pend
    · have go : ∀ pn : List Pnd, (∀ z ∈ pn, H z.1 = some (.tup [.int z.2.1, .ref z.2.2.1])) → Paired (fun p kv => SqT K H p [kV kv.1, kv.2]) (pn.map (·.1)) ((pnE pn).map entD) := by
        intro pn
        induction pn with
        | nil => exact fun _ => .nil
        | cons z pn ih => exact fun h => .cons (.inl (.inl (h z List.mem_cons_self))) (ih fun y hy => h y (List.mem_cons_of_mem _ hy))
      exact go D.pn fun z hz => (hI.prs z hz).1
    have s1 := same_upd (o := .dK (mergeK [] ((pnE D.pn).map entD))) nm
    have hI1 := hI.more s1
    have em : mergeK [] ((pnE D.pn).map entD) = (mrgE [] (pnE D.pn)).map entD := mrgE_K (pnE D.pn) []
    have hm1 := @upd_same H m (.dK (mergeK [] ((pnE D.pn).map entD)))
    generalize upd H m (.dK (mergeK [] ((pnE D.pn).map entD))) = H1 at s1 hI1 hm1
    rw [em] at hm1
    have hkm : D.k ≠ m := fun z => by
      have h0 := hI.kept.1
      rw [z, nm] at h0
      cases h0
    have hpl : (pnE D.pn).length = D.pn.length := List.length_map _
    have hl1 := mrgE_len (pnE D.pn) []
    have hl2 := mrgE_len (mrgE [] (pnE D.pn)) D.es
    rw [List.length_nil] at hl1
    refine ⟨D.k, m, _, _, rfl, rfl, hkm, hI1.kept.1, hm1, ?_, ?_⟩
    · rw [List.length_map, List.length_map]
      have := sl_big
      omega
    have ek : mergeK (D.es.map entD) ((mrgE [] (pnE D.pn)).map entD) = (mrgE D.es (pnE D.pn)).map entD := by
      rw [mrgE_K, mrg_mrg]
    rw [ek]
    have tk1 : TK H1 (upd H1 D.k (.dK ((mrgE D.es (pnE D.pn)).map entD))) := fun b xs e => by
      rw [upd_ne (ne_of e hI1.kept.1 (by intro z; cases z))]
      exact e
    refine ⟨Nat.zero_le _, fun l' nl => ⟨_, rfl, D.p, C, D.dx, dkF D.k D.l, rfl, ?_, TDisk.cl, TDisk.nP, (by show 2 < 1000; decide), ?_⟩⟩
    · exact same_upd nl _ _ (Eq.trans (upd_ne (ne_of hI1.ins hI1.kept.1 (by intro z; cases z))) hI1.ins)
    have nl1 : H1 l' = none := by
      have e : l' ≠ D.k := fun z => by
        rw [z, upd_same] at nl
        cases nl
      rw [upd_ne e] at nl
      exact nl
    have lk : D.k ≠ l' := fun z => by
      have h0 := hI1.kept.1
      rw [z, nl1] at h0
      cases h0
    have lp : D.p ≠ l' := fun z => by
      have h0 := hI1.ins
      rw [z, nl1] at h0
      cases h0
    have pk : D.p ≠ D.k := ne_of hI1.ins hI1.kept.1 (by intro z; cases z)
    refine q _ l' (fun b o h1 h2 e => ?_) (s1.free nl1) ⟨upd_same, ⟨?_, fun e he => ?_⟩, ?_, fun z hz => (nomatch hz), ?_, Nat.zero_le _, mrgE_nodup _ hI.nd⟩
    · rw [upd_ne h1, upd_ne (fun z => by rw [z] at e; have := s1 _ _ e; rw [nl1] at this; cases this), upd_ne h2]
      exact s1 _ _ e
    · show upd (upd (upd H1 D.k _) l' _) D.p _ D.k = _
      rw [upd_ne (Ne.symm pk), upd_ne lk, upd_same]
    · have hc : H1 e.2.1 = some (.tup (e.2.2.map V.int)) := by
        rcases mrgE_mem (pnE D.pn) D.es e he with h | h
        · exact hI1.kept.2 e h
        · obtain ⟨z, hz, rfl⟩ := List.mem_map.mp h
          exact (hI1.prs z hz).2
      have hd := tk1 _ _ hc
      have n1 : e.2.1 ≠ D.p := ne_of hc hI1.ins (by intro z; cases z)
      have n2 : e.2.1 ≠ l' := ne_of_none hc nl1
      rw [upd_ne n1, upd_ne n2]
      exact hd
    · show upd (upd (upd H1 D.k _) l' _) D.p _ l' = _
      rw [upd_ne (Ne.symm lp), upd_same]
      rfl
    · show (mrgE D.es (pnE D.pn)).length ≤ 500
      have := mrgE_len (pnE D.pn) D.es
      omega
end
end Net
namespace Net
open PySem PySem.Spec PyProof.Rows L2 NetR
abbrev Pg := Int × List Int
def pairD (x : Pg) : PyData := .tuple [.int x.1, .tuple (x.2.map PyData.int)]
def esC (es : List Ent) : List Pg := es.map fun e => (e.1, e.2.2)
def pnC (pn : List Pnd) : List Pg := pn.map fun z => (z.2.1, z.2.2.2)
theorem lay_pairs : ∀ M : List Pg, PyData.canLayAll0 (M.map pairD) = true ∧ PyData.depthAll (M.map pairD) ≤ 2
  | [] => ⟨rfl, Nat.zero_le _⟩
  | x :: M => by
    have h := lay_pairs M
    have h1 := lay_ints x.2
    refine ⟨?_, ?_⟩
    · show ((true && (PyData.canLayAll0 (x.2.map PyData.int) && true)) && PyData.canLayAll0 (M.map pairD)) = true
      rw [h.1, h1.1]
      rfl
    · show max (max 0 (max (PyData.depthAll (x.2.map PyData.int) + 1) 0) + 1) (PyData.depthAll (M.map pairD)) ≤ 2
      rw [h1.2]
      have := h.2
      omega
theorem shp_pairs (M : List Pg) : SeqAt.shaped (.list (M.map pairD)) = true := by
  have h := lay_pairs M
  show (PyData.canLayAll0 (M.map pairD) && decide (PyData.depthAll (M.map pairD) + 1 ≤ 64)) = true
  rw [h.1, Bool.true_and]
  exact decide_eq_true (by have := h.2; omega)
theorem eqv_pairs : ∀ M N : List Pg, PyData.eqvAll (M.map pairD) (N.map pairD) = decide (M = N)
  | [], [] => rfl
  | [], _ :: _ => rfl
  | _ :: _, [] => rfl
  | x :: M, y :: N => by
    obtain ⟨a, as⟩ := x
    obtain ⟨b, bs⟩ := y
    show (((a == b) && (PyData.eqvAll (as.map PyData.int) (bs.map PyData.int) && true)) && PyData.eqvAll (M.map pairD) (N.map pairD)) = _
    rw [eqv_pairs M N, eqv_ints, Bool.and_true]
    by_cases h1 : a = b
    · subst h1
      by_cases h2 : as = bs
      · subst h2
        by_cases h3 : M = N <;> simp [h3]
      · simp [h2]
    · simp [h1]
theorem dp_pending {K : PySem.W.Frag} {H : Hp} : ∀ {pn : List Pnd}, (∀ z ∈ pn, H z.1 = some (.tup [.int z.2.1, .ref z.2.2.1]) ∧ H z.2.2.1 = some (.tup (z.2.2.2.map V.int))) → DpAll K H (pn.map fun z => V.ref z.1) ((pnC pn).map pairD)
  | [], _ => .nil
  | z :: pn, h => by
    obtain ⟨h1, h2⟩ := h z List.mem_cons_self
    exact .cons (.tup (.inl (.inl h1)) (.cons (.int _) (.cons (.tup (.inl (.inl h2)) (dp_ints _)) .nil))) (dp_pending fun y hy => h y (List.mem_cons_of_mem _ hy))
theorem rp_pending {H : Hp} : ∀ {pn : List Pnd}, (∀ z ∈ pn, H z.1 = some (.tup [.int z.2.1, .ref z.2.2.1]) ∧ H z.2.2.1 = some (.tup (z.2.2.2.map V.int))) → RpA H (pn.map fun z => V.ref z.1) ((pnC pn).map pairD)
  | [], _ => .nil
  | z :: pn, h => by
    obtain ⟨h1, h2⟩ := h z List.mem_cons_self
    exact .cons (.tup h1 (.cons (.int _) (.cons (.tup h2 (.ints _)) .nil))) (rp_pending fun y hy => h y (List.mem_cons_of_mem _ hy))
structure TDe (K : PySem.W.Frag) (C : Addr) : Prop where
  ha : PySem.W.findIn K (.ref C) "__class__" = some (some (.builtin "object.__class__"))
  hn : PySem.W.specialIn K (.builtin "object.__class__") "__get__" = some (some (.builtin "getset_descriptor.__get__"))
  htk : PySem.W.takesIn K (.builtin "object.__class__") = some true
  hm : PySem.W.mroIn K C (.type "object") = some true
  k1 : PySem.W.kitOne K (.ref C) (.ref C) = some true
  k2 : PySem.W.kitOne K (.type "dict") (.ref C) = some false
  k3 : PySem.W.kitOne K (.type "int") (.ref C) = some false
def sp_dkeq (C : Addr) : Sp := fun vs H Q E => ∃ D, (∃ b, vs = [.ref D.p, .ref b] ∧ DkI C H D ∧ ((∃ kvs, H b = some (.dK kvs)) ∧ Q (.bl false) H)) ∨ (∃ n, vs = [.ref D.p, .int n] ∧ DkI C H D ∧ Q (.bl false) H) ∨ (∃ D', vs = [.ref D.p, .ref D'.p] ∧ DkI C H D ∧ DkI C H D' ∧ Q (.bl (deqI D.es D'.es && decide (pnC D.pn = pnC D'.pn))) H)
def rdP (es : List Ent) (pn : List Pnd) (n : Int) : Option (Addr × List Int) := match pn.reverse.find? (fun z => decide (z.2.1 = n)) with
  | some z => some z.2.2
  | none => (dgetI es n).map (·.2)
def sp_read (C CN : Addr) : Sp := fun vs H Q E => ∃ D v d, vs = [.ref D.p, v] ∧ DkI C H D ∧ Rp H v d ∧ (within d 0 65535 = false → E (.ref CN) none H) ∧ ∀ n, d = .int n → within d 0 65535 = true → ∀ H', Same H H' → match rdP D.es D.pn n with
  | some x => Q (.ref x.1) H'
  | none => E (.ref CN) none H'
def sp_kept (C : Addr) : Sp := fun vs H Q E => ∃ D, vs = [.ref D.p] ∧ DkI C H D ∧ ∀ H' t (M : List Pg), Same H H' → M.Perm (esC D.es) → M.Pairwise (fun x y => x.1 ≤ y.1) → Rp H' (.ref t) (.tuple (M.map pairD)) → Q (.ref t) H'
def sp_pending (C : Addr) : Sp := fun vs H Q E => ∃ D, vs = [.ref D.p] ∧ DkI C H D ∧ ∀ H' t, Same H H' → Rp H' (.ref t) (.tuple ((pnC D.pn).map pairD)) → Q (.ref t) H'
section
variable {P : Program} {w : World} {K : PySem.W.Frag} {mg : Str → Option Value} {base : Heap} {CR fR ccR CB fB ccB CN CDisk fI : Addr}
abbrev s_Disk___eq__ : Stmt := inClass (top 40) 1
theorem sc_Disk___eq__ : FnScope ["self", "other"] ["self", "other"] (defScope s_Disk___eq__) := ⟨rfl, rfl, rfl, by decide +kernel, rfl, by decide +kernel, by decide +kernel⟩
theorem ok_dkeq {f : Addr} {fd : FuncData} (F : Fun K "__eq__" "Disk.__eq__" s_Disk___eq__ f fd) (T : Tx mg) (TDisk : TDk K mg CDisk fI) (TD : TDe K CDisk) : FnOk P w K mg base CX0 1 f fd ["self", "other"] (sp_dkeq CDisk) := by
  refine F.ok sc_Disk___eq__ (fun vs H Q E h => ?_) (fun cdv A outer s H vs Q E hr h => ?_)
  · obtain ⟨D, ⟨b, rfl, _⟩ | ⟨n, rfl, _⟩ | ⟨D', rfl, _⟩⟩ := h <;> rfl
  · refine ⟨_, (pss_cons (ps_if (pt_not (pt_val (pe_callB call_isi (by rfl) T.n_isinstance (by decide +kernel) (pa_cons (pv 1) (pa_cons (pe_glob (v := .ref CDisk) rfl TDisk.g rfl) pa_nil))))) (pss_one (ps_ret pe_bl)) pss_nil)
      (pss_one (ps_ret (pe_and (pe_cmpR (op_eqDI (u80 hr)) (pe_fld (pv 0) rfl) (pe_fld (pv 1) rfl) (nomark _)) (pe_one (pe_cmpR (op_eqD hr.units) (pe_fld (pv 0) rfl) (pe_fld (pv 1) rfl) (nomark _))))))), ?_⟩
    obtain ⟨D, ⟨b, rfl, hI, ⟨kvs, hb⟩, q⟩ | ⟨n, rfl, hI, q⟩ | ⟨D', rfl, hI, hI', q⟩⟩ := h
    · exact ⟨_, rfl, .ref b, .ref CDisk, _, _, _, rfl, .own _, .base (.dK hb), TD.k2, _, rfl, iteT q⟩
    · exact ⟨_, rfl, .int n, .ref CDisk, _, _, _, rfl, .own _, .base (.int n), TD.k3, _, rfl, iteT q⟩
    · refine ⟨_, rfl, .ref D'.p, .ref CDisk, _, _, _, rfl, .own _, .base (.ins hI'.ins TDisk.cl TD.ha TD.hn TD.htk TD.hm), TD.k1, _, rfl, iteF ?_⟩
      refine ⟨_, rfl, D.p, CDisk, D.dx, _, _, rfl, hI.ins, TDisk.cl, TDisk.nK, dkF_k _ _, _, rfl, D'.p, CDisk, D'.dx, _, _, rfl, hI'.ins, TDisk.cl, TDisk.nK, dkF_k _ _, D.k, D'.k, D.es, D'.es, rfl, rfl, hI.kept, hI'.kept, _, rfl, ?_⟩
      cases ed : deqI D.es D'.es with
      | false =>
        rw [ed, Bool.false_and] at q
        exact iteF q
      | true =>
        rw [ed, Bool.true_and] at q
        refine iteT ⟨_, rfl, D.p, CDisk, D.dx, _, _, rfl, hI.ins, TDisk.cl, TDisk.nP, dkF_p _ _, _, rfl, D'.p, CDisk, D'.dx, _, _, rfl, hI'.ins, TDisk.cl, TDisk.nP, dkF_p _ _, .list ((pnC D.pn).map pairD), .list ((pnC D'.pn).map pairD), .lst (SqL.of hI.pend) (dp_pending hI.prs), .lst (SqL.of hI'.pend) (dp_pending hI'.prs), shp_pairs _, shp_pairs _, ?_⟩
        have e : PyData.eqv (.list ((pnC D.pn).map pairD)) (.list ((pnC D'.pn).map pairD)) = decide (pnC D.pn = pnC D'.pn) := by
          show PyData.eqvAll _ _ = _
          exact eqv_pairs _ _
        rw [e]
        exact q
abbrev s_Disk_pending : Stmt := inClass (top 40) 7
theorem sc_Disk_pending : FnScope ["self"] ["self"] (defScope s_Disk_pending) := ⟨rfl, rfl, rfl, by decide +kernel, rfl, by decide +kernel, by decide +kernel⟩
theorem ok_pending {f : Addr} {fd : FuncData} (F : Fun K "pending" "Disk.pending" s_Disk_pending f fd) (T : Tx mg) (TDisk : TDk K mg CDisk fI) : FnOk P w K mg base CX0 1 f fd ["self"] (sp_pending CDisk) := by
  refine F.ok sc_Disk_pending (fun vs H Q E h => ?_) (fun cdv A outer s H vs Q E hr h => ?_)
  · obtain ⟨D, rfl, _⟩ := h
    rfl
  · obtain ⟨D, rfl, hI, q⟩ := h
    refine ⟨_, (pss_one (ps_ret (pe_callTy call_tuple_of (by rfl) T.n_tuple (by decide +kernel) (pa_cons (pe_fld (pv 0) rfl) pa_nil)))), ?_⟩
    refine ⟨_, rfl, D.p, CDisk, D.dx, _, _, rfl, hI.ins, TDisk.cl, TDisk.nP, dkF_p _ _, D.l, _, rfl, .inl ⟨SqL.of hI.pend, fun t ht => ?_⟩⟩
    have s1 := same_upd (o := .tup (D.pn.map fun z => V.ref z.1)) ht
    exact q _ t s1 (.tup upd_same (rp_pending (hI.more s1).prs))
abbrev s_Disk_kept : Stmt := inClass (top 40) 6
theorem sc_Disk_kept : FnScope ["self"] ["self"] (defScope s_Disk_kept) := ⟨rfl, rfl, rfl, by decide +kernel, rfl, by decide +kernel, by decide +kernel⟩
theorem ok_kept {f : Addr} {fd : FuncData} (F : Fun K "kept" "Disk.kept" s_Disk_kept f fd) (T : Tx mg) (TDisk : TDk K mg CDisk fI) : FnOk P w K mg base CX0 1 f fd ["self"] (sp_kept CDisk) := by
  refine F.ok sc_Disk_kept (fun vs H Q E h => ?_) (fun cdv A outer s H vs Q E hr h => ?_)
  · obtain ⟨D, rfl, _⟩ := h
    rfl
  · obtain ⟨D, rfl, hI, q⟩ := h
    refine ⟨_, (pss_one (ps_ret (pe_callTy call_tuple_of (by rfl) T.n_tuple (by decide +kernel) (pa_cons (pe_callB (cr_sortedK rfl) (by rfl) T.n_sorted (by decide +kernel) (pa_cons (pe_bm0 PySem.F.plainAttrs_dict PySem.F.slot_dict_items PySem.F.type_dict_items mt_itemsK (pe_fld (pv 0) rfl)) pa_nil)) pa_nil)))), ?_⟩
    refine ⟨_, rfl, D.p, CDisk, D.dx, _, _, rfl, hI.ins, TDisk.cl, TDisk.nK, dkF_k _ _, .inr (.inr (.inl ⟨rfl, .inl ⟨_, hI.kept.1⟩⟩)), D.k, _, rfl, rfl, hI.kept.1, fun v hv => ?_⟩
    have s1 := same_upd (o := L2.DX.itemsO v D.k) hv
    refine ⟨v, D.k, D.es.map fun e => (e.1, e.2.1), rfl, upd_same, ?_, ?_, fun H2 l ps s2 nks hp hs hl hz => ⟨l, _, rfl, .inl ⟨SqL.of hl, fun t ht => ?_⟩⟩⟩
    · rw [List.map_map]
      exact s1 _ _ hI.kept.1
    · rw [List.length_map]
      have := hI.se
      omega
    have s3 := same_upd (o := .tup (ps.map fun z => V.ref z.1)) ht
    have s13 : Same H (upd H2 t (.tup (ps.map fun z => V.ref z.1))) := s1.trans (Same.trans s2 s3)
    obtain ⟨fs, pf, ef⟩ := L2.perm_lift (fun e : Ent => (e.1, e.2.1)) hp D.es rfl
    refine q _ t (fs.map fun e => (e.1, e.2.2)) s13 (pf.map _) ?_ (.tup upd_same ?_)
    · rw [List.pairwise_map]
      rw [← ef, List.pairwise_map] at hs
      exact hs
    · have go : ∀ (ps : List (Addr × Int × Addr)) (fs : List Ent), (∀ z ∈ ps, H2 z.1 = some (.tup [.int z.2.1, .ref z.2.2])) → fs.map (fun e : Ent => (e.1, e.2.1)) = ps.map (·.2) → (∀ e ∈ fs, e ∈ D.es) → RpA (upd H2 t (.tup (D.es.map fun _ => V.non))) [] [] → RpA H2 (ps.map fun z => V.ref z.1) ((fs.map fun e => (e.1, e.2.2)).map pairD) := by
        intro ps
        induction ps with
        | nil =>
          intro fs _ e _ _
          cases fs with
          | nil => exact .nil
          | cons _ _ => cases e
        | cons z ps ih =>
          intro fs hz e hm x
          cases fs with
          | nil => cases e
          | cons y fs =>
            rw [List.map_cons, List.map_cons] at e
            obtain ⟨e1, e2⟩ := List.cons.inj e
            have h1 := hz z List.mem_cons_self
            rw [← e1] at h1
            exact .cons (.tup h1 (.cons (.int _) (.cons (.tup ((Same.trans s1 s2) _ _ (hI.kept.2 y (hm y List.mem_cons_self))) (.ints _)) .nil))) (ih fs (fun w hw => hz w (List.mem_cons_of_mem _ hw)) e2 (fun w hw => hm w (List.mem_cons_of_mem _ hw)) x)
      exact (go ps fs hz ef (fun e he => pf.mem_iff.mp he) .nil).same s3
abbrev s_Disk_read : Stmt := inClass (top 40) 5
theorem sc_Disk_read : FnScope ["self", "number", "its", "page"] ["self", "number"] (defScope s_Disk_read) := ⟨rfl, rfl, rfl, by decide +kernel, rfl, by decide +kernel, by decide +kernel⟩
theorem ok_read {f f_is_within : Addr} {fd fd1 : FuncData} (F : Fun K "read" "Disk.read" s_Disk_read f fd) (T : Tx mg) (TE : Tex P K mg CR fR ccR CB fB ccB CN) (TDisk : TDk K mg CDisk fI)
    (d_is_within : Ok1 P w K mg base CX0 2 "is_within" ["thing", "least", "most"] sp_is_within f_is_within fd1) : FnOk P w K mg base (L2.CX P w) 3 f fd ["self", "number"] (sp_read CDisk CN) := by
  refine F.okX sc_Disk_read (fun vs H Q E h => ?_) (fun cdv A outer s H vs Q E hr h => ?_)
  · obtain ⟨D, v, d, rfl, _⟩ := h
    rfl
  · obtain ⟨D, v, d, rfl, hI, hv, qN, q⟩ := h
    obtain ⟨t_MOST_NUMBER, c_MOST_NUMBER⟩ := T.c_MOST_NUMBER
    refine ⟨_, (pss_cons (ps_if (pt_not (pt_val (pe_call d_is_within.ok (hr.mono (by decide)) rfl d_is_within.g d_is_within.kp d_is_within.b .nil pass0 (pa_cons (pv 1) (pa_cons pe_int (pa_cons (pe_glob (v := .int 65535) rfl c_MOST_NUMBER ⟨_, rfl⟩) pa_nil)))))) (pss_one (ps_raise rfl (takes_of rfl rfl rfl rfl) (pmk_own0 PySem.F.excBase_ValueError TE.xN TE.g_Nothing TE.kN (raises_own TE.bN TE.tN)))) pss_nil)
      (pss_cons (ps_for (passes_of rfl) rfl (pi_list (pe_revL (pe_fld (pv 0) rfl))) (pg_tup rfl (pgs_cons (pg_name (i := 2) sc_Disk_read.nd rfl (Or.inl rfl)) (pgs_cons (pg_name (i := 3) sc_Disk_read.nd rfl (Or.inl rfl)) pgs_nil))) (pss_one (ps_if (pt_cmpR op_eq (pv 2) (pv 1) (nomark _)) (pss_one (ps_ret (pv 3))) pss_nil)))
      (pss_cons (ps_if (pt_cmp (pc_dnotin (hu_of hr) (pv 1) (pe_fld (pv 0) rfl))) (pss_one (ps_raise rfl (takes_of rfl rfl rfl rfl) (pmk_own0 PySem.F.excBase_ValueError TE.xN TE.g_Nothing TE.kN (raises_own TE.bN TE.tN)))) pss_nil)
      (pss_one (ps_ret (pe_dget (hu_of hr) (pe_fld (pv 0) rfl) (pv 1) (fun _ _ => rfl))))))), ?_⟩
    refine ⟨_, rfl, v, d, 0, 65535, rfl, hv, _, rfl, ?_⟩
    cases ew : within d 0 65535 with
    | false => exact iteT (qN ew)
    | true =>
    obtain ⟨n, rfl⟩ : ∃ n, d = .int n := by
      cases d with
      | int n => exact ⟨n, rfl⟩
      | _ => cases ew
    cases hv
    have q := q n rfl ew
    refine iteF ⟨_, rfl, D.p, CDisk, D.dx, _, _, rfl, hI.ins, TDisk.cl, TDisk.nP, dkF_p _ _, D.l, _, rfl, SqL.of hI.pend, fun r hr2 => ?_⟩
    have s1 := same_upd (o := .lst (D.pn.map fun z => V.ref z.1).reverse) hr2
    have hI1 := hI.more s1
    have hr1 := @upd_same H r (.lst (D.pn.map fun z => V.ref z.1).reverse)
    generalize upd H r (.lst (D.pn.map fun z => V.ref z.1).reverse) = H1 at s1 hI1 hr1
    have q := q H1 s1
    rw [← List.map_reverse] at hr1
    refine ⟨r, rfl, ⟨_, SqL.of hr1⟩, for_list (K := K) (a := r) (xs := D.pn.reverse.map fun z => V.ref z.1) (fun i σ H2 => H2 = H1 ∧ (∃ a b, σ = [some (.ref D.p), some (.int n), a, b]) ∧ ∀ z ∈ D.pn.reverse.take i, z.2.1 ≠ n)
      ⟨rfl, ⟨none, none, rfl⟩, fun z hz => by rw [List.take_zero] at hz; cases hz⟩ (fun i σ H2 _ ⟨e, _⟩ => by rw [e]; exact SqL.of hr1) ?_ ?_⟩
    · rintro i x σ1 H2 hi ⟨rfl, ⟨a, b, rfl⟩, hn⟩
      rw [List.getElem?_map] at hi
      obtain ⟨z, hz, rfl⟩ := Option.map_eq_some_iff.mp hi
      have hm : z ∈ D.pn := List.mem_reverse.mp (List.mem_of_getElem? hz)
      obtain ⟨p1, p2⟩ := hI1.prs z hm
      refine ⟨z.1, _, rfl, .inl (.inl p1), rfl, _, _, rfl, _, _, rfl, rfl, _, rfl, _, rfl, rfl, _, rfl, ?_⟩
      by_cases c : z.2.1 = n
      · rw [show decide (V.int z.2.1 = V.int n) = true from decide_eq_true (by rw [c])]
        have ef : D.pn.reverse.find? (fun z => decide (z.2.1 = n)) = some z := by
          have hlt := (List.getElem?_eq_some_iff.mp hz).1
          have e2 : D.pn.reverse = D.pn.reverse.take i ++ z :: D.pn.reverse.drop (i + 1) := by
            conv => lhs; rw [← List.take_append_drop i D.pn.reverse]
            rw [List.drop_eq_getElem_cons hlt, (List.getElem?_eq_some_iff.mp hz).2]
          rw [e2, List.find?_append, List.find?_eq_none.mpr (fun y hy => by rw [decide_eq_false (hn y hy)]; exact Bool.false_ne_true), List.find?_cons_of_pos (by simpa using c)]
          rfl
        have er : rdP D.es D.pn n = some z.2.2 := by
          unfold rdP
          rw [ef]
        rw [er] at q
        exact iteT ⟨_, rfl, q⟩
      · rw [show decide (V.int z.2.1 = V.int n) = false from decide_eq_false (fun w => by injection w with w; exact c w)]
        refine iteF ⟨rfl, ⟨_, _, rfl⟩, fun y hy => ?_⟩
        rw [take_add hz] at hy
        rcases List.mem_append.mp hy with hy | hy
        · exact hn y hy
        · rw [List.mem_singleton.mp hy]
          exact c
    · rintro σ1 H2 ⟨rfl, ⟨a, b, rfl⟩, hn⟩
      have ef : D.pn.reverse.find? (fun z => decide (z.2.1 = n)) = none := List.find?_eq_none.mpr (fun y hy => by
        rw [List.length_map, List.take_length] at hn
        rw [decide_eq_false (hn y hy)]
        exact Bool.false_ne_true)
      have er : rdP D.es D.pn n = (dgetI D.es n).map (·.2) := by
        unfold rdP
        rw [ef]
      rw [er] at q
      have hd : DGet H2 D.k (.int n) ((dgetI D.es n).map fun e => V.ref e.2.1) := by
        rw [← valV_ent]
        exact DGet.k (k := Sum.inl n) hI1.kept.1
      refine ⟨_, rfl, _, rfl, D.p, CDisk, D.dx, _, _, rfl, hI1.ins, TDisk.cl, TDisk.nK, dkF_k _ _, D.k, _, rfl, hd, _, rfl, ?_⟩
      cases eg : dgetI D.es n with
      | none =>
        rw [eg] at q
        exact iteT q
      | some e =>
        rw [eg] at q hd
        exact iteF ⟨_, rfl, D.p, CDisk, D.dx, _, _, rfl, hI1.ins, TDisk.cl, TDisk.nK, dkF_k _ _, _, rfl, D.k, _, rfl, hd, q⟩
end
end Net
namespace Net
open PySem PySem.Spec PyProof.Rows L2 NetR
theorem walk_zipT {K : PySem.W.Frag} {a b : Addr} {xs ys : List V} {n : Nat} (hn : n = min xs.length ys.length) : Walk (RZ.ItzT K a b) n (fun H => SqT K H a xs ∧ SqT K H b ys) (YPair (fun i => xs[i]?) (fun i => ys[i]?)) := by
  subst hn
  refine ⟨fun i _ hi q => ?_, fun _ q => ⟨xs, ys, q.1, q.2, by omega⟩, fun i H v H' _ q y => ?_⟩
  · have h1 : i < xs.length := by omega
    have h2 : i < ys.length := by omega
    exact ⟨xs, ys, xs[i], ys[i], q.1, q.2, by simp [h1], by simp [h2]⟩
  · obtain ⟨T, x, z, h1, h2, h3, h4, h5⟩ := y
    exact ⟨T, x, z, h1, h2, h3, h4 xs q.1, h5 ys q.2⟩
def inB (many : Nat) (n : Int) : Bool := decide (0 ≤ n) && decide (n < (many : Int))
def risesB (ns : List Int) : Bool := (ns.zip (ns.drop 1)).all fun p => decide (p.1 < p.2)
def lotOk (d : PyData) (many : Nat) : Bool := areInts d && ((intsOf d).all (inB many) && risesB (intsOf d))
def picks (pn : List Pnd) (ns : List Int) : List Pnd := ns.filterMap fun n => pn[n.toNat]?
def sp_cut (C CR : Addr) : Sp := fun vs H Q E => ∃ D v d, vs = [.ref D.p, v] ∧ DkI C H D ∧ Rp H v d ∧ dsz d ≤ 300 ∧ D.es.length ≤ 100 ∧ (lotOk d D.pn.length = false → RfE CR H "lot" E) ∧
  (lotOk d D.pn.length = true → ∀ H' D', Same H H' → DkI C H' D' → D'.es = mrgE D.es (pnE (picks D.pn (intsOf d))) → D'.pn = [] → Q (.ref D'.p) H')
def lotsOf : Nat → List (List Int)
  | 0 => [[]]
  | n + 1 => lotsOf n ++ (lotsOf n).map fun l => l ++ [(n : Int)]
def sp_all_lots : Sp := fun vs H Q E => ∃ n : Nat, vs = [.int (n : Int)] ∧ n ≤ 8 ∧ ∀ H' p (L : List (Addr × List Int)), Same H H' → H' p = some (.lst (L.map fun z => V.ref z.1)) → (∀ z ∈ L, H' z.1 = some (.tup (z.2.map V.int))) → (L.map (·.2)).Perm (lotsOf n) → (L.map (·.2)).Pairwise (fun x y => HT.lexLt y x = false) → Q (.ref p) H'
def sp_disk_of (C : Addr) : Sp := fun vs H Q E => ∃ (t : Addr) (ps : List Pnd), vs = [.ref t] ∧ H t = some (.tup (ps.map fun z => V.ref z.1)) ∧ ps.length ≤ 90 ∧
  (∀ z ∈ ps, (H z.1 = some (.tup [.int z.2.1, .ref z.2.2.1]) ∧ H z.2.2.1 = some (.tup (z.2.2.2.map V.int))) ∧ within (.int z.2.1) 0 65535 = true ∧ pfD (.tuple (z.2.2.2.map PyData.int)) = none) ∧
  ∀ H' D', Same H H' → DkI C H' D' → D'.es = mrgE [] (pnE ps) → D'.pn = [] → Q (.ref D'.p) H'
theorem map_int_inj : ∀ a b : List Int, a.map V.int = b.map V.int → a = b
  | [], [], _ => rfl
  | [], _ :: _, h => by cases h
  | _ :: _, [], h => by cases h
  | x :: a, y :: b, h => by
    rw [List.map_cons, List.map_cons] at h
    obtain ⟨h1, h2⟩ := List.cons.inj h
    rw [V.int.inj h1, map_int_inj a b h2]
theorem lotsOf_len : ∀ n : Nat, (lotsOf n).length = 2 ^ n
  | 0 => rfl
  | n + 1 => by
    rw [lotsOf, List.length_append, List.length_map, lotsOf_len n, Nat.pow_succ]
    omega
theorem lotsOf_head : ∀ n : Nat, ∃ r, lotsOf n = [] :: r
  | 0 => ⟨[], rfl⟩
  | n + 1 => by
    obtain ⟨r, e⟩ := lotsOf_head n
    exact ⟨r ++ (lotsOf n).map fun l => l ++ [(n : Int)], by rw [lotsOf, e]; rfl⟩
theorem pfD_len {ns : List Int} (h : pfD (.tuple (ns.map PyData.int)) = none) : ns.length = 64 := by
  unfold pfD at h
  split at h
  · rename_i hc
    have z : decide ((((ns.map PyData.int).length : Nat) : Int) = 64) = true := (Bool.and_eq_true_iff.mp hc).2
    rw [List.length_map] at z
    have := of_decide_eq_true z
    omega
  · cases h
section
variable {P : Program} {w : World} {K : PySem.W.Frag} {mg : Str → Option Value} {base : Heap} {CR fR ccR CB fB ccB CN CDisk fI : Addr}
abbrev s_disk_of : Stmt := top 42
theorem sc_disk_of : FnScope ["pages", "disk", "number", "page"] ["pages"] (defScope s_disk_of) := ⟨rfl, rfl, rfl, by decide +kernel, rfl, by decide +kernel, by decide +kernel⟩
theorem ok_disk_of {f f1 f2 : Addr} {fd fd1 fd2 fd3 : FuncData} (F : Fun K "disk_of" "disk_of" s_disk_of f fd) (T : Tx mg) (TDisk : TDk K mg CDisk fI) (d_Disk___init__ : OkM P w K mg base CX0 1 CDisk "__init__" ["self"] (sp_dkinit CDisk) fI fd1)
    (d_Disk_write : OkM P w K mg base (L2.CX P w) 7 CDisk "write" ["self", "number", "page"] (sp_write CDisk CR) f1 fd2) (d_Disk_flush : OkM P w K mg base CX0 1 CDisk "flush" ["self"] (sp_flush CDisk) f2 fd3) :
    FnOk P w K mg base (L2.CX P w) 8 f fd ["pages"] (sp_disk_of CDisk) := by
  refine F.okX sc_disk_of (fun vs H Q E h => ?_) (fun cdv A outer s H vs Q E hr h => ?_)
  · obtain ⟨t, ps, rfl, _⟩ := h
    rfl
  · obtain ⟨t, ps, rfl, ht, hpl, hps, q⟩ := h
    refine ⟨_, (pss_cons (ps_set (i := 1) sc_disk_of.nd rfl (Or.inl rfl) (pe_make0 TDisk.mkr d_Disk___init__.ok (hr.mono (by decide)) rfl TDisk.g d_Disk___init__.b .nil pass0))
      (pss_cons (ps_for (passes_of rfl) rfl (pi_tup (pv 0)) (pg_tup rfl (pgs_cons (pg_name (i := 2) sc_disk_of.nd rfl (Or.inl rfl)) (pgs_cons (pg_name (i := 3) sc_disk_of.nd rfl (Or.inl rfl)) pgs_nil))) (pss_one (ps_expr (pe_meth (pv 1) TDisk.cl d_Disk_write.m d_Disk_write.ok (hr.mono (by decide)) d_Disk_write.b .nil (passes_call (takes_of rfl rfl rfl rfl) (fun _ _ _ _ h => h)) (pa_cons (pv 2) (pa_cons (pv 3) pa_nil))))))
      (pss_cons (ps_expr (pe_meth0 (pv 1) TDisk.cl d_Disk_flush.m d_Disk_flush.ok (hr.mono (by decide)) d_Disk_flush.b .nil pass0))
      (pss_one (ps_ret (pv 1)))))), ?_⟩
    intro x dx nx ndx nex
    refine ⟨x, dx, rfl, upd_same, fun H1 k l kp nk nl hx hk hl => ⟨rfl, ?_⟩⟩
    obtain ⟨s1, hk0, hl0, hN⟩ := new_disk nx ndx kp hx hk hl nk nl
    have noW : ∀ k l, (dkF k l).lookup ("write" : Str) = none := fun k l => dkF_no _ _ (by decide +kernel) (by decide +kernel)
    have noF : ∀ k l, (dkF k l).lookup ("flush" : Str) = none := fun k l => dkF_no _ _ (by decide +kernel) (by decide +kernel)
    refine ⟨_, rfl, t, rfl, ⟨_, .inl (.inl (s1 _ _ ht))⟩, for_tup (K := K) (a := t) (xs := ps.map fun z => V.ref z.1) (fun i σ H2 => ∃ a b pn, σ = [some (.ref t), some (.ref x), a, b] ∧ Same H H2 ∧ DkI CDisk H2 { p := x, dx := dx, k := k, l := l, es := [], pn := pn } ∧ pnE pn = pnE (ps.take i))
      ⟨none, none, [], rfl, s1, hN, rfl⟩ (fun i σ H2 _ ⟨_, _, _, _, s2, _⟩ => .inl (.inl (s2 _ _ ht))) ?_ ?_⟩
    · rintro i y σ1 H2 hi ⟨a, b, pn, rfl, s2, hI, he⟩
      rw [List.getElem?_map] at hi
      obtain ⟨z, hz, rfl⟩ := Option.map_eq_some_iff.mp hi
      obtain ⟨⟨p1, p2⟩, hw, hp⟩ := hps z (List.mem_of_getElem? hz)
      have hpnl : pn.length = (ps.take i).length := by
        have := congrArg List.length he
        rw [show (pnE pn).length = pn.length from List.length_map _, show (pnE (ps.take i)).length = (ps.take i).length from List.length_map _] at this
        exact this
      have htl : (ps.take i).length ≤ ps.length := by
        rw [List.length_take]
        exact Nat.min_le_right _ _
      refine ⟨z.1, _, rfl, .inl (.inl (s2 _ _ p1)), rfl, _, _, rfl, _, _, rfl, rfl, _, rfl, x, dx, _, rfl, hI.ins, noW _ _, _, rfl, _, rfl, ?_⟩
      refine ⟨{ p := x, dx := dx, k := k, l := l, es := [], pn := pn }, .int z.2.1, .int z.2.1, .ref z.2.2.1, .tuple (z.2.2.2.map PyData.int), rfl, hI, .int _, .tup (s2 _ _ p2) (.ints _), ?_, (by show pn.length < 100; omega), fun e => ?_, fun _ e => ?_, fun n a' ns e1 e2 e3 _ _ H3 t3 k3 hI3 => ?_⟩
      · rw [dsz, dszs_ints, pfD_len hp]
        omega
      · rw [hw] at e
        cases e
      · rw [hp] at e
        cases e
      · cases e1
        cases e2
        have en : ns = z.2.2.2 := by
          have e4 := (s2 _ _ p2).symm.trans e3
          injection e4 with e4
          injection e4 with e4
          exact (map_int_inj _ _ e4).symm
        refine ⟨_, _, _, rfl, fun b' o e => k3 b' o (fun w => by rw [w, hl0] at e; cases e) (s2 _ _ e), hI3, ?_⟩
        rw [take_add hz]
        show pnE (pn ++ [(t3, z.2.1, z.2.2.1, ns)]) = pnE (ps.take i ++ [z])
        unfold pnE at he ⊢
        rw [List.map_append, List.map_append, he, en]
        rfl
    · rintro σ1 H2 ⟨a, b, pn, rfl, s2, hI, he⟩
      rw [List.length_map, List.take_length] at he
      have hpnl : pn.length = ps.length := by
        have := congrArg List.length he
        rw [show (pnE pn).length = pn.length from List.length_map _, show (pnE ps).length = ps.length from List.length_map _] at this
        exact this
      refine ⟨_, rfl, x, dx, _, rfl, hI.ins, noF _ _, { p := x, dx := dx, k := k, l := l, es := [], pn := pn }, rfl, hI, (by show 0 + pn.length ≤ 500; omega), fun H3 l' k3 nl' hI3 => ?_⟩
      refine ⟨_, rfl, q H3 _ (fun b' o e => k3 b' o (fun w => ?_) (fun w => ?_) (s2 _ _ e)) hI3 ?_ rfl⟩
      · have w : b' = x := w
        rw [w, nx] at e
        cases e
      · have w : b' = k := w
        rw [w, hk0] at e
        cases e
      · show mrgE [] (pnE pn) = _
        rw [he]
abbrev s_all_lots : Stmt := top 41
theorem sc_all_lots : FnScope ["many", "found", "at", "lot"] ["many"] (defScope s_all_lots) := ⟨rfl, rfl, rfl, by decide +kernel, rfl, by decide +kernel, by decide +kernel⟩
theorem ok_all_lots {f : Addr} {fd : FuncData} (F : Fun K "all_lots" "all_lots" s_all_lots f fd) (T : Tx mg) : FnOk P w K mg base CX0 1 f fd ["many"] sp_all_lots := by
  refine F.ok sc_all_lots (fun vs H Q E h => ?_) (fun cdv A outer s H vs Q E hr h => ?_)
  · obtain ⟨n, rfl, _⟩ := h
    rfl
  · obtain ⟨n, rfl, hn, q⟩ := h
    refine ⟨_, (pss_cons (ps_set (i := 1) sc_all_lots.nd rfl (Or.inl rfl) (pe_lst (pa_cons (pe_tup pa_nil) pa_nil)))
      (pss_cons (ps_for PassesOwn.never rfl (pi_range1 (by rfl) T.n_range (pa_cons (pv 0) pa_nil)) (pg_name (i := 2) sc_all_lots.nd rfl (Or.inr rfl)) (pss_one (ps_set (i := 1) sc_all_lots.nd rfl (Or.inl rfl) (pe_lst (StX.pa_star (pv 1) (StX.pa_star (pe_lc (own := [("lot", 3)]) (g := gName 3) (tt := tYes) (te := (tTup (StX.tStar K (tVar 3) (tCons (tVar 2) tNil)))) rfl sc_all_lots.nd (pi_list (pv 1)) (blkOk_by (N := ["many", "found", "at", "lot"]) (sc := defScope s_all_lots) (by decide +kernel)) (fun _ _ _ _ _ => pg_name (i := 3) sc_all_lots.nd rfl (Or.inl rfl)) (fun _ _ _ _ _ => pts_nil) (fun _ _ _ _ _ => by exact (pe_tup (StX.pa_star (pv 3) (pa_cons (pv 2) pa_nil))))) pa_nil))))))
      (pss_one (ps_ret (pe_callB (cr_sortedL hr.units) (by rfl) T.n_sorted (by decide +kernel) (pa_cons (pv 1) pa_nil)))))), ?_⟩
    refine ⟨Nat.zero_le _, fun e he => ⟨(by show 1 ≤ sizeLine; decide), fun p hp => ?_⟩⟩
    have s0 := (same_upd (o := .tup []) he).trans (same_upd (o := .lst [.ref e]) hp)
    have he0 := same_upd (o := .lst [.ref e]) hp _ _ (@upd_same H e (.tup []))
    have hp0 := @upd_same (upd H e (.tup [])) p (.lst [.ref e])
    generalize upd (upd H e (.tup [])) p (.lst [.ref e]) = H1 at s0 he0 hp0
    have hbig := sl_big
    refine ⟨_, rfl, (n : Int), rfl, by omega, by omega, for_range (lo := 0) (n := (n : Int).toNat) (fun i σ H2 => ∃ (f : Addr) (L : List (Addr × List Int)) (a b : Option V), σ = [some (.int (n : Int)), some (.ref f), a, b] ∧ Same H H2 ∧ H2 f = some (.lst (L.map fun z => V.ref z.1)) ∧ (∀ z ∈ L, H2 z.1 = some (.tup (z.2.map V.int))) ∧ L.map (·.2) = lotsOf i)
      ⟨p, [(e, [])], none, none, rfl, s0, hp0, fun z hz => by cases List.mem_singleton.mp hz; exact he0, rfl⟩ ?_ ?_⟩
    · rintro i σ1 H2 hi ⟨f, L, a, b, rfl, s2, hf, hL, eL⟩
      have hi : i < n := by
        rw [Int.toNat_natCast] at hi
        exact hi
      have hlen : L.length ≤ 128 := by
        have h1 := congrArg List.length eL
        rw [List.length_map, lotsOf_len] at h1
        have h2 : 2 ^ i ≤ 2 ^ 7 := Nat.pow_le_pow_right (by decide) (by omega)
        omega
      refine ⟨_, rfl, f, _, rfl, .inr (SqL.of hf), _, rfl, f, rfl, ⟨_, SqL.of hf⟩, fun D hD => lc_list (K := K) (a := f) (xs := L.map fun z => V.ref z.1) (fun j H3 => ∃ L' : List (Addr × List Int), Fill H2 D (L'.map fun z => V.ref z.1) H3 ∧ (∀ z ∈ L', H3 z.1 = some (.tup (z.2.map V.int))) ∧ L'.map (·.2) = ((L.take j).map (·.2)).map fun l => l ++ [(i : Int)])
        ⟨[], .start hD, fun z hz => (nomatch hz), rfl⟩ (fun j H3 _ ⟨L', fl, _⟩ => SqL.of (fl.same _ _ hf)) ?_ ?_⟩
      · rintro j x H3 hj ⟨L', fl, hL', eL'⟩
        rw [List.getElem?_map] at hj
        obtain ⟨z, hz, rfl⟩ := Option.map_eq_some_iff.mp hj
        have hzl := hL z (List.mem_of_getElem? hz)
        have hjl := (List.getElem?_eq_some_iff.mp hz).1
        have hl' : L'.length ≤ 128 := by
          have h1 := congrArg List.length eL'
          rw [List.length_map, List.length_map, List.length_map, List.length_take] at h1
          omega
        have hz8 : z.2.length ≤ 1000 := by
          have : z.2 ∈ lotsOf i := by
            rw [← eL]
            exact List.mem_map.mpr ⟨z, List.mem_of_getElem? hz, rfl⟩
          have go : ∀ m, ∀ l ∈ lotsOf m, l.length ≤ m := by
            intro m
            induction m with
            | zero =>
              intro l hl
              rw [List.mem_singleton.mp hl]
              exact Nat.le_refl _
            | succ m ih =>
              intro l hl
              rw [lotsOf] at hl
              rcases List.mem_append.mp hl with hl | hl
              · exact Nat.le_succ_of_le (ih l hl)
              · obtain ⟨l', h1, rfl⟩ := List.mem_map.mp hl
                rw [List.length_append]
                exact Nat.succ_le_succ (ih l' h1)
          have := go i z.2 this
          omega
        refine ⟨rfl, _, rfl, z.1, _, rfl, .inl (.inl (.inl (fl.same _ _ hzl))), _, rfl, ?_, fun t ht => ?_⟩
        · show (z.2.map V.int ++ [V.int (0 + (i : Int))]).length ≤ sizeLine
          rw [List.length_append, List.length_map]
          show z.2.length + 1 ≤ sizeLine
          omega
        · have fl2 := fl.ext (same_upd (o := .tup (z.2.map V.int ++ [V.int (0 + (i : Int))])) ht)
          refine ⟨_, fl2.at_, by rw [List.length_map]; omega, L' ++ [(t, z.2 ++ [(i : Int)])], fl2.add (by rw [List.map_append]; rfl), fun y hy => ?_, ?_⟩
          · have tk := TK.lst (l' := L'.map (fun z => V.ref z.1) ++ [V.ref t]) fl2.at_
            rcases List.mem_append.mp hy with hy | hy
            · exact tk _ _ (same_upd ht _ _ (hL' y hy))
            · cases List.mem_singleton.mp hy
              refine tk _ _ (Eq.trans upd_same ?_)
              rw [List.map_append, Int.zero_add]
              rfl
          · rw [List.map_append, eL', take_add hz, List.map_append, List.map_append]
            rfl
      · rintro H3 ⟨L', fl, hL', eL'⟩
        rw [List.length_map, List.take_length, eL] at eL'
        have hl' : L'.length ≤ 128 := by
          have h1 := congrArg List.length eL'
          have h2 := congrArg List.length eL
          rw [List.length_map, List.length_map] at h1
          rw [List.length_map] at h2
          omega
        refine ⟨D, _, rfl, .inr (SqL.of fl.at_), ?_, fun g hg => ?_⟩
        · show ((L.map (fun z : Addr × List Int => V.ref z.1)) ++ ((L'.map (fun z : Addr × List Int => V.ref z.1)) ++ [])).length ≤ sizeLine
          rw [List.append_nil, List.length_append, List.length_map, List.length_map]
          omega
        · refine ⟨g, L ++ L', _, _, rfl, s2.trans (fl.same.trans (same_upd hg)), Eq.trans upd_same ?_, fun z hz => same_upd hg _ _ ?_, ?_⟩
          · rw [List.append_nil, List.map_append]
          · rcases List.mem_append.mp hz with hz | hz
            · exact fl.same _ _ (hL z hz)
            · exact hL' z hz
          · rw [List.map_append, eL, eL']
            rfl
    · rintro σ1 H2 ⟨f, L, a, b, rfl, s2, hf, hL, eL⟩
      rw [Int.toNat_natCast] at eL
      obtain ⟨r, er⟩ := lotsOf_head n
      rw [er] at eL
      cases L with
      | nil => cases eL
      | cons z0 L0 =>
        rw [List.map_cons] at eL
        obtain ⟨e1, e2⟩ := List.cons.inj eL
        obtain ⟨z1, z2⟩ := z0
        have e1 : z2 = [] := e1
        subst e1
        refine ⟨_, rfl, f, (z1, []) :: L0, z1, L0, rfl, hf, rfl, hL, fun p L' pL' so np => ?_⟩
        have s3 := same_upd (o := .lst (L'.map fun z => V.ref z.1)) np
        refine q _ p L' (s2.trans s3) upd_same (fun z hz => s3 _ _ (hL z (pL'.mem_iff.mp hz))) ?_ so
        have := pL'.map (·.2)
        rw [List.map_cons, e2] at this
        rw [er]
        exact this
end
end Net
namespace Net
open PySem PySem.Spec PyProof.Rows L2 NetR
theorem picks_len (pn : List Pnd) (ns : List Int) : (picks pn ns).length ≤ ns.length := List.length_filterMap_le _ _
theorem picks_mem {pn : List Pnd} {ns : List Int} {z : Pnd} (h : z ∈ picks pn ns) : z ∈ pn := by
  obtain ⟨n, _, e⟩ := List.mem_filterMap.mp h
  exact List.mem_of_getElem? e
theorem picks_add {pn : List Pnd} {ns : List Int} {i : Nat} {n : Int} {z : Pnd} (h : ns[i]? = some n) (e : pn[n.toNat]? = some z) : picks pn (ns.take (i + 1)) = picks pn (ns.take i) ++ [z] := by
  unfold picks
  rw [take_add h, List.filterMap_append]
  congr 1
  rw [List.filterMap_cons, e]
  rfl
section
variable {P : Program} {w : World} {K : PySem.W.Frag} {mg : Str → Option Value} {base : Heap} {CR fR ccR CB fB ccB CN CDisk fI : Addr}
abbrev s_Disk_cut : Stmt := inClass (top 40) 8
theorem sc_Disk_cut : FnScope ["self", "lot", "many", "other", "at", "one"] ["self", "lot"] (defScope s_Disk_cut) := ⟨rfl, rfl, rfl, by decide +kernel, rfl, by decide +kernel, by decide +kernel⟩
theorem ok_cut {f f_are_integers : Addr} {fd fd1 fd2 : FuncData} (F : Fun K "cut" "Disk.cut" s_Disk_cut f fd) (T : Tx mg) (TE : Tex P K mg CR fR ccR CB fB ccB CN) (TDisk : TDk K mg CDisk fI) (d_Disk___init__ : OkM P w K mg base CX0 1 CDisk "__init__" ["self"] (sp_dkinit CDisk) fI fd1)
    (d_are_integers : Ok1 P w K mg base CX0 3 "are_integers" ["thing"] sp_are_integers f_are_integers fd2) : FnOk P w K mg base (L2.CX P w) 4 f fd ["self", "lot"] (sp_cut CDisk CR) := by
  refine F.okX sc_Disk_cut (fun vs H Q E h => ?_) (fun cdv A outer s H vs Q E hr h => ?_)
  · obtain ⟨D, v, d, rfl, _⟩ := h
    rfl
  · obtain ⟨D, v, d, rfl, hI, hv, hsz, hes, qN, qY⟩ := h
    refine ⟨_, (pss_cons (ps_set (i := 2) sc_Disk_cut.nd rfl (Or.inr rfl) (pe_callB call_len (by rfl) T.n_len (by decide +kernel) (pa_cons (pe_fld (pv 0) rfl) pa_nil)))
      (pss_cons (ps_if (PW.pt (pw_or (pt_not (pt_val (pe_call d_are_integers.ok (hr.mono (by decide)) rfl d_are_integers.g d_are_integers.kp d_are_integers.b .nil pass0 (pa_cons (pv 1) pa_nil)))) (pw_or1 (pt_not (pt_val (pe_callB (cr_all rfl) (by rfl) T.n_all (by decide +kernel) (pa_cons (pe_lc (own := [("at", 4)]) (g := gName 4) (tt := tYes) rfl sc_Disk_cut.nd (pi_tup (pv 1)) (blkOk_by (N := ["self", "lot", "many", "other", "at", "one"]) (sc := defScope s_Disk_cut) (by decide +kernel)) (fun _ _ _ _ _ => pg_name (i := 4) sc_Disk_cut.nd rfl (Or.inl rfl)) (fun _ _ _ _ _ => pts_nil) (fun _ _ _ _ _ => (pe_chain op_le op_lt pe_int (pv 4) (pv 2)))) pa_nil))))))) (pss_one (ps_raise rfl (takes_of rfl rfl rfl rfl) (pmk_rf TE.xRF TE.g_Refused TE.nRF hr (by decide) (pa_cons pe_str pa_nil)))) pss_nil)
      (pss_cons (ps_if (pt_not (pt_val (pe_callB (cr_all rfl) (by rfl) T.n_all (by decide +kernel) (pa_cons (pe_lc (own := [("one", 5), ("other", 3)]) (g := (gTup K 2 (gCons (gName 5) (gCons (gName 3) gNil)))) (tt := tYes) rfl sc_Disk_cut.nd (RZ.pi_zipA (by rfl) T.n_zip (pa_cons (pv 1) (pa_cons (pe_slice sl_tupA (pv 1) (po_some pe_int) po_none) pa_nil))) (blkOk_by (N := ["self", "lot", "many", "other", "at", "one"]) (sc := defScope s_Disk_cut) (by decide +kernel)) (fun _ _ _ _ _ => by exact pg_tup rfl (pgs_cons (pg_name (i := 5) sc_Disk_cut.nd rfl (Or.inl rfl)) (pgs_cons (pg_name (i := 3) sc_Disk_cut.nd rfl (Or.inl rfl)) pgs_nil))) (fun _ _ _ _ _ => pts_nil) (fun _ _ _ _ _ => (pe_cmpR op_lt (pv 5) (pv 3) (nomark _)))) pa_nil)))) (pss_one (ps_raise rfl (takes_of rfl rfl rfl rfl) (pmk_rf TE.xRF TE.g_Refused TE.nRF hr (by decide) (pa_cons pe_str pa_nil)))) pss_nil)
      (pss_cons (ps_set (i := 3) sc_Disk_cut.nd rfl (Or.inl rfl) (pe_make0 TDisk.mkr d_Disk___init__.ok (hr.mono (by decide)) rfl TDisk.g d_Disk___init__.b .nil pass0))
      (pss_cons (ps_fld (pv 3) (pe_callTy call_dictD (by rfl) T.n_dict (by decide +kernel) (pa_cons (pe_fld (pv 0) rfl) pa_nil)) rfl)
      (pss_cons (ps_expr (pe_bm PySem.F.plainAttrs_dict PySem.F.slot_dict_update PySem.F.type_dict_update mt_updD (pe_fld (pv 3) rfl) (pa_cons (pe_callTy (call_dictP rfl) (by rfl) T.n_dict (by decide +kernel) (pa_cons (pe_lc (own := [("at", 4)]) (g := gName 4) (tt := tYes) (te := (tOp (rIxL K) (tFld K (tVar 0) "its_pending") (tVar 4))) rfl sc_Disk_cut.nd (pi_tup (pv 1)) (blkOk_by (N := ["self", "lot", "many", "other", "at", "one"]) (sc := defScope s_Disk_cut) (by decide +kernel)) (fun _ _ _ _ _ => pg_name (i := 4) sc_Disk_cut.nd rfl (Or.inl rfl)) (fun _ _ _ _ _ => pts_nil) (fun _ _ _ _ _ => by exact (pe_ix ix_list (pe_fld (pv 0) rfl) (pv 4) (fun _ _ => rfl)))) pa_nil)) pa_nil)))
      (pss_one (ps_ret (pv 3))))))))), ?_⟩
    have hbig := sl_big
    refine ⟨_, rfl, D.p, CDisk, D.dx, _, _, rfl, hI.ins, TDisk.cl, TDisk.nP, dkF_p _ _, _, _, rfl, .inl ⟨_, SqL.of hI.pend, rfl⟩, ?_⟩
    refine ⟨v, rfl, v, d, rfl, hv, by omega, fun H1 s1 => ⟨_, rfl, ?_⟩⟩
    cases ei : areInts d with
    | false =>
      have e : lotOk d D.pn.length = false := by
        unfold lotOk
        rw [ei]
        rfl
      exact iteT (iteT ⟨_, rfl, fun e' he => qN e _ e' (s1.trans (same_upd he)) upd_same⟩)
    | true =>
      obtain ⟨ns, rfl⟩ := areInts_of ei
      obtain ⟨t, rfl, ht⟩ := rp_ints (hv.same s1)
      have hns : ns.length < 1000 := by
        rw [dsz, dszs_ints] at hsz
        omega
      have el : lotOk (.tuple (ns.map PyData.int)) D.pn.length = (ns.all (inB D.pn.length) && risesB ns) := by
        unfold lotOk
        rw [ei, intsOf_t, Bool.true_and]
      rw [el] at qN qY
      rw [intsOf_t] at qY
      refine iteF ⟨_, rfl, t, rfl, ⟨_, .inl (.inl ht)⟩, fun D1 hD => lc_tup (K := K) (xs := ns.map V.int) (fun i H2 => Fill H1 D1 ((ns.take i).map fun n => V.bl (inB D.pn.length n)) H2) (.start hD) (fun i H2 _ f => .inl (.inl (f.same _ _ ht))) ?_ ?_⟩
      · intro i x H2 hi f
        rw [List.getElem?_map] at hi
        obtain ⟨n, hn1, rfl⟩ := Option.map_eq_some_iff.mp hi
        refine ⟨rfl, _, rfl, _, _, rfl, rfl, _, rfl, ?_⟩
        have fin : ∃ acc, H2 D1 = some (.lst acc) ∧ acc.length < sizeLine ∧ Fill H1 D1 ((ns.take (i + 1)).map fun n => V.bl (inB D.pn.length n)) (upd H2 D1 (.lst (acc ++ [V.bl (inB D.pn.length n)]))) := by
          refine ⟨_, f.at_, ?_, f.add ?_⟩
          · rw [List.length_map]
            exact take_len_le (by omega)
          · rw [take_add hn1, List.map_append]
            rfl
        unfold inB at fin
        cases e : decide ((0 : Int) ≤ n) with
        | false =>
          rw [e] at fin
          exact iteF fin
        | true =>
          rw [e] at fin
          refine iteT ⟨_, rfl, _, _, rfl, rfl, ?_⟩
          rw [List.length_map]
          exact fin
      · intro H2 f
        rw [List.length_map, List.take_length] at f
        have s2 := s1.trans f.same
        have ht2 := f.same _ _ ht
        refine ⟨D1, ns.map (inB D.pn.length), rfl, by rw [List.map_map]; exact .inl (.inl f.at_), _, rfl, ?_⟩
        rw [List.all_map, show (ns.all (id ∘ inB D.pn.length)) = ns.all (inB D.pn.length) from rfl]
        cases eb : ns.all (inB D.pn.length) with
        | false => exact iteT ⟨_, rfl, fun e' he => qN (by rw [eb]; rfl) _ e' (s2.trans (same_upd he)) upd_same⟩
        | true =>
          rw [eb, Bool.true_and] at qN qY
          refine iteF ⟨_, rfl, _, rfl, 1, rfl, ?_⟩
          dsimp only [tNoPart]
          refine sl_new ht2 fun H3 t3 s3 ht3 => ?_
          rw [show ((1 : Int)) = ((1 : Nat) : Int) from rfl, cut_drop, ← List.map_drop] at ht3
          have ht23 := s3 _ _ ht2
          refine ⟨t, t3, _, _, rfl, .inr ⟨.inl (.inl ht23), .inl (.inl ht3), fun D2 hD2 => lc_it (walk_zipT (xs := ns.map V.int) (ys := (ns.drop 1).map V.int) (n := (ns.zip (ns.drop 1)).length) (by rw [List.length_zip, List.length_map, List.length_map]))
            (fun i H4 => Fill H3 D2 (((ns.zip (ns.drop 1)).take i).map fun p => V.bl (decide (p.1 < p.2))) H4) (.start hD2) (fun i H4 _ f => ⟨.inl (.inl (f.same _ _ ht23)), .inl (.inl (f.same _ _ ht3))⟩) ?_ ?_⟩⟩
          · rintro i x H4 H4' hi f4 ⟨T1, y1, y2, rfl, hT, rfl, e1, e2⟩
            have e1 : (ns.map V.int)[i]? = some y1 := e1
            have e2 : ((ns.drop 1).map V.int)[i]? = some y2 := e2
            rw [List.getElem?_map] at e1 e2
            obtain ⟨a, ha, rfl⟩ := Option.map_eq_some_iff.mp e1
            obtain ⟨b, hb, rfl⟩ := Option.map_eq_some_iff.mp e2
            have hz : (ns.zip (ns.drop 1))[i]? = some (a, b) := List.getElem?_zip_eq_some.mpr ⟨ha, hb⟩
            have f5 := f4.ext (same_upd (o := .tup [.int a, .int b]) hT)
            refine ⟨T1, _, rfl, .inl (.inl upd_same), rfl, _, _, rfl, _, _, rfl, rfl, rfl, _, rfl, _, rfl, _, _, rfl, rfl, _, f5.at_, ?_, f5.add ?_⟩
            · rw [List.length_map]
              refine take_len_le ?_
              rw [List.length_zip, List.length_drop]
              omega
            · rw [take_add hz, List.map_append]
              rfl
          · intro H4 f4
            rw [List.take_length] at f4
            refine ⟨D2, (ns.zip (ns.drop 1)).map fun p => decide (p.1 < p.2), rfl, by rw [List.map_map]; exact .inl (.inl f4.at_), _, rfl, ?_⟩
            have er : (((ns.zip (ns.drop 1)).map fun p => decide (p.1 < p.2)).all id) = risesB ns := by
              rw [List.all_map]
              rfl
            rw [er]
            have s4 := s2.trans (s3.trans f4.same)
            cases ec : risesB ns with
            | false => exact iteT ⟨_, rfl, fun e' he => qN ec _ e' (s4.trans (same_upd he)) upd_same⟩
            | true =>
              have q := qY ec
              have ht4 := (s3.trans f4.same) _ _ ht2
              refine iteF ?_
              intro x dx nx ndx nex
              refine ⟨x, dx, rfl, upd_same, fun H5 k l kp nk nl hx hk hl => ⟨rfl, ?_⟩⟩
              obtain ⟨s5, hk0, hl0, hN⟩ := new_disk nx ndx kp hx hk hl nk nl
              have sA := s4.trans s5
              have hI5 := hI.more sA
              refine ⟨_, rfl, D.p, CDisk, D.dx, _, _, rfl, hI5.ins, TDisk.cl, TDisk.nK, dkF_k _ _, D.k, _, rfl, .inl hI5.kept.1, fun k2 nk2 => ⟨_, rfl, x, CDisk, dx, _, rfl, same_upd nk2 _ _ hx, TDisk.cl, TDisk.nK, (by show 2 < 1000; decide), ?_⟩⟩
              have hk2x : k2 ≠ x := fun z => by
                rw [z, hx] at nk2
                cases nk2
              have s6 : Same H (upd (upd H5 k2 (.dK (D.es.map entD))) x (.ins CDisk dx (dkF k2 l))) := Same.own (sA.trans (same_upd nk2)) (s4.free nx)
              have hx6 : (upd (upd H5 k2 (.dK (D.es.map entD))) x (.ins CDisk dx (dkF k2 l))) x = some (.ins CDisk dx (dkF k2 l)) := upd_same
              have hk6 : (upd (upd H5 k2 (.dK (D.es.map entD))) x (.ins CDisk dx (dkF k2 l))) k2 = some (.dK (D.es.map entD)) := by
                rw [upd_ne hk2x, upd_same]
              have hlx : l ≠ x := ne_of hl hx (by intro z; cases z)
              have hl6 : (upd (upd H5 k2 (.dK (D.es.map entD))) x (.ins CDisk dx (dkF k2 l))) l = some (.lst []) := by
                rw [upd_ne hlx, upd_ne (ne_of_none hl nk2)]
                exact hl
              have hI6 := hI.more s6
              have ht6 : (upd (upd H5 k2 (.dK (D.es.map entD))) x (.ins CDisk dx (dkF k2 l))) t = some (.tup (ns.map V.int)) := by
                rw [upd_ne (ne_of (s5 _ _ ht4) hx (by intro z; cases z))]
                exact same_upd nk2 _ _ (s5 _ _ ht4)
              have nk2' := sA.free nk2
              have nx' : H x = none := s4.free nx
              have nl' : H l = none := s4.free hl0
              have ep : putF "its_kept" (V.ref k2) (dkF k l) = dkF k2 l := rfl
              rw [ep]
              generalize upd (upd H5 k2 (.dK (D.es.map entD))) x (.ins CDisk dx (dkF k2 l)) = H6 at s6 hx6 hk6 hl6 hI6 ht6
              refine ⟨_, rfl, x, CDisk, dx, _, _, rfl, hx6, TDisk.cl, TDisk.nK, dkF_k _ _, .inr (.inr (.inl ⟨rfl, .inl ⟨_, hk6⟩⟩)), ?_⟩
              refine ⟨_, rfl, t, rfl, ⟨_, .inl (.inl ht6)⟩, fun D3 hD3 => lc_tup (K := K) (xs := ns.map V.int) (fun i H7 => Fill H6 D3 ((picks D.pn (ns.take i)).map fun z => V.ref z.1) H7) (.start hD3) (fun i H7 _ f => .inl (.inl (f.same _ _ ht6))) ?_ ?_⟩
              · intro i x7 H7 hi f7
                rw [List.getElem?_map] at hi
                obtain ⟨n, hn1, rfl⟩ := Option.map_eq_some_iff.mp hi
                have hin := List.all_eq_true.mp eb n (List.mem_of_getElem? hn1)
                unfold inB at hin
                rw [Bool.and_eq_true] at hin
                have h0 := of_decide_eq_true hin.1
                have h1 := of_decide_eq_true hin.2
                have hlt : n.toNat < D.pn.length := by omega
                have hz : D.pn[n.toNat]? = some D.pn[n.toNat] := List.getElem?_eq_getElem hlt
                have hI7 := hI6.more f7.same
                refine ⟨rfl, _, rfl, D.p, CDisk, D.dx, _, _, rfl, hI7.ins, TDisk.cl, TDisk.nP, dkF_p _ _, _, rfl, D.l, _, _, _, rfl, rfl, SqL.of hI7.pend, at_of (j := n.toNat) (by omega) (by rw [List.getElem?_map, hz]; rfl), _, f7.at_, ?_, f7.add ?_⟩
                · rw [List.length_map]
                  have := picks_len D.pn (ns.take i)
                  rw [List.length_take] at this
                  omega
                · rw [picks_add hn1 hz, List.map_append]
                  rfl
              · intro H7 f7
                rw [List.length_map, List.take_length] at f7
                have hI7 := hI6.more f7.same
                have hpl := picks_len D.pn ns
                refine ⟨D3, (picks D.pn ns).map (·.1), (pnE (picks D.pn ns)).map entD, rfl, by rw [List.map_map]; exact SqL.of f7.at_, ?_, fun m nm => ?_⟩
                · have go : ∀ pn : List Pnd, (∀ z ∈ pn, H7 z.1 = some (.tup [.int z.2.1, .ref z.2.2.1])) → Paired (fun p kv => SqT K H7 p [kV kv.1, kv.2]) (pn.map (·.1)) ((pnE pn).map entD) := by
                    intro pn
                    induction pn with
                    | nil => exact fun _ => .nil
                    | cons z pn ih => exact fun h => .cons (.inl (.inl (h z List.mem_cons_self))) (ih fun y hy => h y (List.mem_cons_of_mem _ hy))
                  exact go _ fun z hz => (hI7.prs z (picks_mem hz)).1
                have em : mergeK [] ((pnE (picks D.pn ns)).map entD) = (mrgE [] (pnE (picks D.pn ns))).map entD := mrgE_K (pnE (picks D.pn ns)) []
                have s8 := same_upd (o := .dK (mergeK [] ((pnE (picks D.pn ns)).map entD))) nm
                have hm8 := @upd_same H7 m (.dK (mergeK [] ((pnE (picks D.pn ns)).map entD)))
                have hk8 := s8 _ _ (f7.same _ _ hk6)
                have hx8 := s8 _ _ (f7.same _ _ hx6)
                have hl8 := s8 _ _ (f7.same _ _ hl6)
                have hI8 := hI7.more s8
                have s68 := s6.trans (f7.same.trans s8)
                have hkm : k2 ≠ m := fun z => by
                  have h0 := f7.same _ _ hk6
                  rw [z, nm] at h0
                  cases h0
                generalize upd H7 m (.dK (mergeK [] ((pnE (picks D.pn ns)).map entD))) = H8 at s8 hm8 hk8 hx8 hl8 hI8 s68
                rw [em] at hm8
                have hpl2 : (pnE (picks D.pn ns)).length = (picks D.pn ns).length := List.length_map _
                have hl1 := mrgE_len (pnE (picks D.pn ns)) []
                rw [List.length_nil] at hl1
                have hn2 : ns.length ≤ 300 := by
                  rw [dsz, dszs_ints] at hsz
                  omega
                refine ⟨k2, m, _, _, rfl, rfl, hkm, hk8, hm8, by rw [List.length_map, List.length_map]; omega, ?_⟩
                have ek : mergeK (D.es.map entD) ((mrgE [] (pnE (picks D.pn ns))).map entD) = (mrgE D.es (pnE (picks D.pn ns))).map entD := by
                  rw [mrgE_K, mrg_mrg]
                rw [ek]
                have hl2 := mrgE_len (pnE (picks D.pn ns)) D.es
                have kx : x ≠ k2 := ne_of hx8 hk8 (by intro z; cases z)
                have lk : l ≠ k2 := ne_of hl8 hk8 (by intro z; cases z)
                refine ⟨_, rfl, q _ { p := x, dx := dx, k := k2, l := l, es := mrgE D.es (pnE (picks D.pn ns)), pn := [] } (Same.own s68 nk2') ⟨?_, ⟨upd_same, fun e he => ?_⟩, ?_, fun z hz => (nomatch hz), ?_, Nat.zero_le _, mrgE_nodup _ hI.nd⟩ rfl rfl⟩
                · show upd H8 k2 _ x = _
                  rw [upd_ne kx]
                  exact hx8
                · have hc : H8 e.2.1 = some (.tup (e.2.2.map V.int)) := by
                    rcases mrgE_mem (pnE (picks D.pn ns)) D.es e he with h | h
                    · exact hI8.kept.2 e h
                    · obtain ⟨z, hz, rfl⟩ := List.mem_map.mp h
                      exact (hI8.prs z (picks_mem hz)).2
                  show upd H8 k2 _ e.2.1 = _
                  rw [upd_ne (ne_of hc hk8 (by intro z; cases z))]
                  exact hc
                · show upd H8 k2 _ l = _
                  rw [upd_ne lk]
                  exact hl8
                · show (mrgE D.es (pnE (picks D.pn ns))).length ≤ 500
                  omega
end
end Net
namespace NetR
open PySem PySem.Spec PyProof.Rows L2
section
variable {X : Cx}
def rGetL (K : PySem.W.Frag) : V → V → Hp → VK → Prop := fun x y H Q => ∃ p xs i v, x = .ref p ∧ y = .int (i : Nat) ∧ SqL K H p xs ∧ xs[i]? = some v ∧ Q v H
theorem get_list : PGet X (rGetL X.K) := by
  intro pins s σ H o i ov iv Q I ro ri h
  obtain ⟨p, xs, k, v, rfl, rfl, hq, he, q⟩ := h
  cases ro
  obtain ⟨t, rfl⟩ := ri
  obtain ⟨its, r, pl, hz⟩ := I.list hq
  obtain ⟨w, ew, rw'⟩ := r.get he
  have hl := r.length
  have hn := line63
  have hlt : k < xs.length := (List.getElem?_eq_some_iff.mp he).1
  exact wpAny_getItem_list pl.isList (Int.natCast_nonneg k) (by omega) (by simpa using ew) ⟨v, H, I, rw', q⟩
def rNeE (K : PySem.W.Frag) : R2 := fun x y H Q => ∃ a b xs, x = .ref a ∧ y = .ref b ∧ SqT K H a xs ∧ SqT K H b [] ∧ Q (.bl (!xs.isEmpty)) H
theorem op_neE (hu : X.A.units < cLine) : OpR X (compareOp .NotEq) (rNeE X.K) := by
  intro pins s σ H x y v u Q I rx ry h
  obtain ⟨a, b, xs, rfl, rfl, ha, hb, q⟩ := h
  cases rx
  cases ry
  obtain ⟨its, r1, p1, _⟩ := I.tuple ha
  obtain ⟨its2, r2, p2, _⟩ := I.tuple hb
  cases r2
  have e : ((List.range (min its.toArray.size ([] : List Value).toArray.size)).all (fun _ => true) && its.toArray.size == ([] : List Value).toArray.size) = xs.isEmpty := by
    cases r1 <;> simp
  refine EqBoolInt.of_rcne (SeqAt.RcNeAt.tuples (e := fun _ => true) (items2 := ([] : List Value).toArray) p1 p2 hu (fun j h1 h2 => absurd h2 (by simp))) ?_
  rw [e]
  exact ⟨.bl _, H, I, rfl, q⟩
def rNeLE (K : PySem.W.Frag) : R2 := fun x y H Q => ∃ a b xs, x = .ref a ∧ y = .ref b ∧ SqL K H a xs ∧ SqL K H b [] ∧ Q (.bl (!xs.isEmpty)) H
theorem op_neLE (hu : X.A.units < cLine) : OpR X (compareOp .NotEq) (rNeLE X.K) := by
  intro pins s σ H x y v u Q I rx ry h
  obtain ⟨a, b, xs, rfl, rfl, ha, hb, q⟩ := h
  cases rx
  cases ry
  obtain ⟨its, r1, p1, _⟩ := I.list ha
  obtain ⟨its2, r2, p2, _⟩ := I.list hb
  cases r2
  cases r1 with
  | nil => exact EqBoolInt.of_rcne (SeqAt.RcNeAt.lists (e := fun _ => true) p1.isList p2.isList rfl hu (fun j h1 h2 => absurd h2 (by simp))) ⟨.bl _, H, I, rfl, q⟩
  | cons r rr => exact EqBoolInt.of_rcne (SeqAt.RcNeAt.lists_lengths p1.isList p2.isList (by simp) hu) ⟨.bl _, H, I, rfl, q⟩
def rEqLE (K : PySem.W.Frag) : R2 := fun x y H Q => ∃ a b xs, x = .ref a ∧ y = .ref b ∧ SqL K H a xs ∧ SqL K H b [] ∧ Q (.bl xs.isEmpty) H
theorem op_eqLE (hu : X.A.units < cLine) : OpR X (compareOp .Eq) (rEqLE X.K) := by
  intro pins s σ H x y v u Q I rx ry h
  obtain ⟨a, b, xs, rfl, rfl, ha, hb, q⟩ := h
  cases rx
  cases ry
  obtain ⟨its, r1, p1, _⟩ := I.list ha
  obtain ⟨its2, r2, p2, _⟩ := I.list hb
  cases r2
  cases r1 with
  | nil => exact EqBoolInt.of_rc (SeqAt.RcAt.lists (e := fun _ => true) p1.isList p2.isList rfl hu (fun j h1 h2 => absurd h2 (by simp))) ⟨.bl _, H, I, rfl, q⟩
  | cons r rr => exact EqBoolInt.of_rc (SeqAt.RcAt.lists_lengths p1.isList p2.isList (by simp) hu) ⟨.bl _, H, I, rfl, q⟩
end
def dlt (H : Hp) (b : Addr) : Hp := fun x => if x = b then none else H x
theorem dlt_ne {H : Hp} {b x : Addr} (h : x ≠ b) : dlt H b x = H x := if_neg h
theorem dlt_self {H : Hp} {b : Addr} : dlt H b b = none := if_pos rfl
theorem dlt_same (H : Hp) (b : Addr) : Same (dlt H b) H := fun x o e => by
  by_cases h : x = b
  · rw [h, dlt_self] at e
    cases e
  · rw [dlt_ne h] at e
    exact e
theorem dlt_at {H : Hp} {b x : Addr} {o : HO} (e : H x = some o) (h : x ≠ b) : dlt H b x = some o := by rw [dlt_ne h]; exact e
theorem dlt_some {H : Hp} {b x : Addr} {o : HO} (e : dlt H b x = some o) : x ≠ b := fun h => by
  rw [h, dlt_self] at e
  cases e
theorem dlt_mono {H H' : Hp} {b : Addr} (s : Same H H') : Same (dlt H b) (dlt H' b) := fun x o e => dlt_at (s _ _ (dlt_same H b _ _ e)) (dlt_some e)
theorem dlt_upd {H : Hp} {b : Addr} {o : HO} : dlt (upd H b o) b = dlt H b := by
  funext x
  by_cases h : x = b
  · rw [h, dlt_self, dlt_self]
  · rw [dlt_ne h, dlt_ne h, upd_ne h]
theorem dlt_free {H : Hp} {b x : Addr} (e : H x = none) : dlt H b x = none := by
  by_cases h : x = b
  · rw [h]; exact dlt_self
  · rw [dlt_ne h]; exact e
def BagI (H : Hp) (b : Addr) : Prop := ∃ (x0 x1 : Int) (x2 : Nat) (cl : Addr) (cs : List Int), H b = some (.lst [.int x0, .int x1, .int (x2 : Nat), .ref cl]) ∧ H cl = some (.lst (cs.map V.int)) ∧ cl ≠ b ∧ (∀ c ∈ cs, 0 ≤ c) ∧ cs.length ≤ 63 ∧ 0 ≤ x0 ∧ 0 ≤ x1 ∧ x1 < 2147483647
theorem BagI.same {H H' : Hp} {b : Addr} (h : BagI H b) (s : Same H H') : BagI H' b := by
  obtain ⟨x0, x1, x2, cl, cs, h1, h2, h3⟩ := h
  exact ⟨x0, x1, x2, cl, cs, s _ _ h1, s _ _ h2, h3⟩
def rst (H : Hp) (S : Addr → Bool) : Hp := fun x => if S x = true then none else H x
theorem rst_at {H : Hp} {S : Addr → Bool} {x : Addr} {o : HO} (e : H x = some o) (h : S x = false) : rst H S x = some o := by
  unfold rst
  rw [h]
  exact e
theorem rst_in {H : Hp} {S : Addr → Bool} {x : Addr} {o : HO} (e : rst H S x = some o) : S x = false ∧ H x = some o := by
  unfold rst at e
  cases h : S x with
  | true =>
    rw [h, if_pos rfl] at e
    cases e
  | false =>
    rw [h] at e
    exact ⟨rfl, e⟩
theorem rst_mono {H H' : Hp} {S : Addr → Bool} (s : Same H H') : Same (rst H S) (rst H' S) := fun x o e => rst_at (s _ _ (rst_in e).2) (rst_in e).1
theorem rst_dlt {H : Hp} {S : Addr → Bool} {D : Addr} : rst (dlt H D) S = rst H fun x => decide (x = D) || S x := by
  funext x
  show (if S x = true then none else if x = D then none else H x) = if (decide (x = D) || S x) = true then none else H x
  by_cases h : x = D
  · rw [if_pos h, decide_eq_true h, Bool.true_or, if_pos rfl]
    split <;> rfl
  · rw [if_neg h, decide_eq_false h, Bool.false_or]
theorem dlt_dlt {H : Hp} {a b : Addr} : dlt (dlt H a) b = dlt (dlt H b) a := by
  funext x
  by_cases h : x = a
  · subst h
    rw [dlt_self]
    by_cases h2 : x = b
    · subst h2
      rw [dlt_self]
    · rw [dlt_ne h2, dlt_self]
  · rw [dlt_ne h]
    by_cases h2 : x = b
    · subst h2
      rw [dlt_self, dlt_self]
    · rw [dlt_ne h2, dlt_ne h2, dlt_ne h]
theorem dlt_none {H : Hp} {D : Addr} (h : H D = none) : dlt H D = H := by
  funext x
  by_cases hx : x = D
  · rw [hx, dlt_self, h]
  · rw [dlt_ne hx]
structure SB (b : Addr) (H H' : Hp) : Prop where
  s : Same (dlt H b) (dlt H' b)
  c : ∀ S : Addr → Bool, BagI (rst H S) b → BagI (rst H' S) b
theorem SB.refl (b : Addr) (H : Hp) : SB b H H := ⟨Same.refl _, fun _ h => h⟩
theorem SB.of {b : Addr} {H H' : Hp} (s : Same H H') : SB b H H' := ⟨dlt_mono s, fun _ h => h.same (rst_mono s)⟩
theorem SB.trans {b : Addr} {H H1 H2 : Hp} (s : SB b H H1) (t : SB b H1 H2) : SB b H H2 := ⟨Same.trans s.s t.s, fun D h => t.c D (s.c D h)⟩
theorem SB.bag {b : Addr} {H H' : Hp} (s : SB b H H') (h : BagI H b) : BagI H' b := s.c (fun _ => false) h
theorem SB.dl {b D : Addr} {H H' : Hp} (s : SB b H H') : SB b (dlt H D) (dlt H' D) := by
  refine ⟨?_, fun S h => ?_⟩
  · rw [dlt_dlt, dlt_dlt (H := H')]
    exact dlt_mono s.s
  · rw [rst_dlt] at h ⊢
    exact s.c _ h
theorem SB.own {b l : Addr} {H H' : Hp} {o : HO} (s : SB b H H') (h : H l = none) : SB b H (upd H' l o) := by
  have t := s.dl (D := l)
  rw [dlt_none h, ← dlt_upd (o := o)] at t
  exact t.trans (SB.of (dlt_same _ _))
theorem SB.at_ {b x : Addr} {H H' : Hp} {o : HO} (s : SB b H H') (e : H x = some o) (h : x ≠ b) : H' x = some o := dlt_same H' b _ _ (s.s _ _ (dlt_at e h))
theorem SB.free {b x : Addr} {H H' : Hp} (s : SB b H H') (e : H' x = none) (h : x ≠ b) : H x = none := by
  have := Same.free s.s (l := x) (by rw [dlt_ne h]; exact e)
  rw [dlt_ne h] at this
  exact this
theorem SB.put {b : Addr} {H : Hp} {x0 x1 y0 y1 : Int} {x2 y2 : Nat} {cl : Addr} (h : H b = some (.lst [.int x0, .int x1, .int (x2 : Nat), .ref cl])) (h0 : 0 ≤ y0) (h1 : 0 ≤ y1) (h2 : y1 < 2147483647) : SB b H (upd H b (.lst [.int y0, .int y1, .int (y2 : Nat), .ref cl])) := by
  refine ⟨by rw [dlt_upd]; exact Same.refl _, fun S hB => ?_⟩
  obtain ⟨z0, z1, z2, cl', cs, e1, e2, e3, e4, e5, _⟩ := hB
  obtain ⟨bS, e1⟩ := rst_in e1
  obtain ⟨cS, e2⟩ := rst_in e2
  rw [h] at e1
  injection e1 with e1
  injection e1 with e1
  injection e1 with _ e1
  injection e1 with _ e1
  injection e1 with _ e1
  injection e1 with e1
  injection e1 with e1
  subst e1
  exact ⟨y0, y1, y2, cl, cs, rst_at upd_same bS, rst_at (by rw [upd_ne e3]; exact e2) cS, e3, e4, e5, h0, h1, h2⟩
end NetR
namespace Net
open PySem PySem.Spec PyProof.Rows L2 NetR
theorem Rp.sb {H H' : Hp} {b : Addr} {v : V} {d : PyData} (h : Rp (dlt H b) v d) (s : SB b H H') : Rp (dlt H' b) v d := h.same s.s
theorem RpA.sb {H H' : Hp} {b : Addr} {vs : List V} {ds : List PyData} (h : RpA (dlt H b) vs ds) (s : SB b H H') : RpA (dlt H' b) vs ds := h.same s.s
end Net
namespace Net
open PySem PySem.Spec PyProof.Rows L2 NetR
def sp_lbag (K : PySem.W.Frag) : Sp := fun vs H Q E => ∃ (a : Addr) (ns : List Int), vs = [.ref a] ∧ SqL K H a (ns.map V.int) ∧ ∀ H' b, Same H H' → BagI H' b → H b = none → Q (.ref b) H'
def sp_take : Sp := fun vs H Q E => ∃ b many, vs = [.ref b, .int many] ∧ BagI H b ∧ 0 < many ∧ many < 1073741824 ∧ ∀ H' n, SB b H H' → BagI H' b → 0 ≤ n → n < many → Q (.int n) H'
def sp_some : Sp := fun vs H Q E => ∃ b a xs, vs = [.ref b, .ref a] ∧ BagI H b ∧ a ≠ b ∧ H a = some (.lst xs) ∧ xs ≠ [] ∧ xs.length < 1073741824 ∧ ∀ H' v, SB b H H' → BagI H' b → v ∈ xs → Q v H'
section
variable {P : Program} {w : World} {K : PySem.W.Frag} {mg : Str → Option Value} {base : Heap}
abbrev s__law_take : Stmt := top 45
theorem sc__law_take : FnScope ["bag", "many", "cell", "stirred", "value", "begin", "second"] ["bag", "many"] (defScope s__law_take) := ⟨rfl, rfl, rfl, by decide +kernel, rfl, by decide +kernel, by decide +kernel⟩
theorem ok_take {f : Addr} {fd : FuncData} (F : Fun K "_law_take" "_law_take" s__law_take f fd) (T : Tx mg) : FnOk P w K mg base CX0 1 f fd ["bag", "many"] sp_take := by
  refine F.ok sc__law_take (fun vs H Q E h => ?_) (fun cdv A outer s H vs Q E hr h => ?_)
  · obtain ⟨b, m, rfl, _⟩ := h
    rfl
  · obtain ⟨b, many, rfl, ⟨x0, x1, x2, cl, cs, hb, hc, hne, hcs, hcn, h0, h1, h2⟩, hm0, hm1, q⟩ := h
    refine ⟨_, (pss_cons (ps_if (pt_cmpR op_eq (pe_ix ix_list (pv 0) pe_int (fun _ _ => rfl)) pe_int (nomark _)) (pss_cons (ps_set (i := 2) sc__law_take.nd rfl (Or.inl rfl) (pe_ix ix_list (pe_op op_cat (pe_slice sl_list (pe_ix ix_list (pv 0) pe_int (fun _ _ => rfl)) (po_some (pe_ix ix_list (pv 0) pe_int (fun _ _ => rfl))) po_none) (pe_lst (pa_cons pe_int pa_nil))) pe_int (fun _ _ => rfl)))
      (pss_cons (ps_augS (pv 0) pe_int get_list pe_int ip_add set_list)
      (pss_cons (ps_if (pt_cmpR op_ge (pv 2) (pe_op op_pow pe_int pe_int) (nomark _)) (pss_one (ps_asg (pv 2) (pg_sub (pv 0) pe_int set_list))) pss_nil)
      (pss_cons (ps_set (i := 3) sc__law_take.nd rfl (Or.inl rfl) (pe_op op_add (pe_op op_add (pe_op op_mul (pe_ix ix_list (pv 0) pe_int (fun _ _ => rfl)) pe_int) (pe_op op_mod (pe_callTy call_int1 (by rfl) T.n_int (by decide +kernel) (pa_cons (pv 2) pa_nil)) pe_int)) (pe_op op_mul pe_int (pe_ix ix_list (pv 0) pe_int (fun _ _ => rfl)))))
      (pss_one (ps_asg (pe_op op_mod (pe_callTy call_int1 (by rfl) T.n_int (by decide +kernel) (pa_cons (pv 3) pa_nil)) pe_int) (pg_sub (pv 0) pe_int set_list))))))) pss_nil)
      (pss_cons (ps_if (pt_cmpR op_gt (pe_ix ix_list (pv 0) pe_int (fun _ _ => rfl)) pe_int (nomark _)) (pss_cons (ps_set (i := 4) sc__law_take.nd rfl (Or.inl rfl) (pe_op op_mod (pe_callTy call_int1 (by rfl) T.n_int (by decide +kernel) (pa_cons (pe_ix ix_list (pv 0) pe_int (fun _ _ => rfl)) pa_nil)) (pv 1)))
      (pss_cons (ps_asg (pe_op op_fdiv (pe_callTy call_int1 (by rfl) T.n_int (by decide +kernel) (pa_cons (pe_ix ix_list (pv 0) pe_int (fun _ _ => rfl)) pa_nil)) (pv 1)) (pg_sub (pv 0) pe_int set_list))
      (pss_one (ps_ret (pv 4))))) pss_nil)
      (pss_cons (ps_set (i := 5) sc__law_take.nd rfl (Or.inl rfl) (pe_op op_mod (pe_callTy call_int1 (by rfl) T.n_int (by decide +kernel) (pa_cons (pe_op op_mul (pe_op op_add (pe_ix ix_list (pv 0) pe_int (fun _ _ => rfl)) pe_int) pe_int) pa_nil)) pe_int))
      (pss_cons (ps_set (i := 6) sc__law_take.nd rfl (Or.inl rfl) (pe_op op_mod (pe_callTy call_int1 (by rfl) T.n_int (by decide +kernel) (pa_cons (pe_op op_mul (pe_op op_mod (pe_callTy call_int1 (by rfl) T.n_int (by decide +kernel) (pa_cons (pe_op op_mul (pv 5) (pv 5)) pa_nil)) pe_int) pe_int) pa_nil)) pe_int))
      (pss_one (ps_ret (pe_op op_mod (pe_callTy call_int1 (by rfl) T.n_int (by decide +kernel) (pa_cons (pe_op op_fdiv (pv 6) pe_int) pa_nil)) (pv 1)))))))), ?_⟩
    have hbig := sl_big
    have fin : ∀ (H1 : Hp) (y0 y1 : Int) (y2 : Nat), SB b H H1 → H1 b = some (.lst [.int y0, .int y1, .int (y2 : Nat), .ref cl]) → 0 ≤ y0 → 0 ≤ y1 → y1 < 2147483647 → BagI H1 b := fun H1 y0 y1 y2 s1 e1 a1 a2 a3 => ⟨y0, y1, y2, cl, cs, e1, s1.at_ hc hne, hne, hcs, hcn, a1, a2, a3⟩
    refine ⟨_, rfl, b, _, 0, _, rfl, rfl, .inl (.inl hb), rfl, rfl, _, rfl, ?_⟩
    by_cases c0 : x0 = 0
    · rw [show decide (V.int x0 = V.int 0) = true from decide_eq_true (by rw [c0])]
      refine iteT ?_
      refine ⟨_, rfl, b, _, 3, _, rfl, rfl, .inl (.inl hb), rfl, _, rfl, b, _, 2, _, rfl, rfl, .inl (.inl hb), rfl, _, rfl, ?_⟩
      dsimp only [tNoPart]
      refine ⟨cl, _, rfl, .inl (.inl hc), fun z1 n1 => ⟨(by show 1 ≤ sizeLine; omega), fun z2 n2 => ?_⟩⟩
      rw [cut_drop] at n2 ⊢
      have hz12 : z1 ≠ z2 := fun e => by
        rw [← e, upd_same] at n2
        cases n2
      refine ⟨z1, z2, _, _, rfl, rfl, same_upd n2 _ _ upd_same, upd_same, ?_, fun z3 n3 => ?_⟩
      · rw [List.length_drop, List.length_map]
        show cs.length - x2 + 1 ≤ sizeLine
        omega
      have s1 : Same H (upd (upd (upd H z1 (.lst ((cs.map V.int).drop x2))) z2 (.lst [.int 0])) z3 (.lst ((cs.map V.int).drop x2 ++ [.int 0]))) := (same_upd n1).trans ((same_upd n2).trans (same_upd n3))
      obtain ⟨c, ec, hc0⟩ : ∃ c : Int, ((cs.map V.int).drop x2 ++ [V.int 0])[0]? = some (.int c) ∧ 0 ≤ c := by
        rw [← List.map_drop]
        cases ed : cs.drop x2 with
        | nil => exact ⟨0, rfl, Int.le_refl 0⟩
        | cons c r => exact ⟨c, rfl, hcs c (List.mem_of_mem_drop (by rw [ed]; exact List.mem_cons_self))⟩
      refine ⟨z3, _, 0, .int c, rfl, rfl, .inl (.inl upd_same), atI_nat (j := 0) ec, ?_⟩
      have eb1 := s1 _ _ hb
      have sb1 : SB b H _ := SB.of s1
      generalize upd (upd (upd H z1 (.lst ((cs.map V.int).drop x2))) z2 (.lst [.int 0])) z3 (.lst ((cs.map V.int).drop x2 ++ [.int 0])) = H1 at eb1 sb1
      refine ⟨_, rfl, b, _, 2, _, rfl, rfl, .inl (.inl eb1), rfl, _, _, rfl, rfl, b, _, 2, 2, rfl, rfl, eb1, rfl, ?_⟩
      have eb2 : (upd H1 b (.lst [.int x0, .int x1, .int ((x2 : Int) + 1), .ref cl])) b = some (.lst [.int x0, .int x1, .int ((x2 + 1 : Nat) : Int), .ref cl]) := by rw [upd_same]; rfl
      have sb2 : SB b H (upd H1 b (.lst [.int x0, .int x1, .int ((x2 : Int) + 1), .ref cl])) := sb1.trans (SB.put (y2 := x2 + 1) eb1 h0 h1 h2)
      refine ⟨_, rfl, _, _, rfl, rfl, ⟨by decide, by decide, by decide⟩, _, _, rfl, rfl, _, rfl, ?_⟩
      have eset : ([V.int x0, .int x1, .int (x2 : Nat), .ref cl].set 2 (V.int ((x2 : Int) + 1))) = [.int x0, .int x1, .int ((x2 : Int) + 1), .ref cl] := rfl
      rw [eset]
      generalize upd H1 b (.lst [.int x0, .int x1, .int ((x2 : Int) + 1), .ref cl]) = H2 at eb2 sb2
      cases decide ((10 : Int) ^ ((18 : Int).toNat) ≤ c) with
      | true =>
        refine iteT ⟨_, rfl, _, rfl, b, _, 0, 0, rfl, rfl, eb2, rfl, ?_⟩
        have eb3 : (upd H2 b (.lst ([V.int x0, .int x1, .int ((x2 + 1 : Nat) : Int), .ref cl].set 0 (V.int c)))) b = some (.lst [V.int c, .int x1, .int ((x2 + 1 : Nat) : Int), .ref cl]) := upd_same
        have sb3 : SB b H (upd H2 b (.lst ([V.int x0, .int x1, .int ((x2 + 1 : Nat) : Int), .ref cl].set 0 (V.int c)))) := sb2.trans (SB.put (y2 := x2 + 1) eb2 hc0 h1 h2)
        generalize upd H2 b (.lst ([V.int x0, .int x1, .int ((x2 + 1 : Nat) : Int), .ref cl].set 0 (V.int c))) = H3 at eb3 sb3
        refine ⟨_, rfl, b, _, 1, .int x1, rfl, rfl, .inl (.inl eb3), atI_nat (j := 1) rfl, _, _, rfl, rfl, .inr ⟨by omega, by omega⟩, _, rfl, .inl ⟨_, rfl, _, _, rfl, rfl, (by omega), _, _, rfl, rfl, ?_⟩⟩
        refine ⟨_, rfl, b, _, 2, .int ((x2 + 1 : Nat) : Int), rfl, rfl, .inl (.inl eb3), atI_nat (j := 2) rfl, _, _, rfl, rfl, .inl ⟨by omega, by omega⟩, _, _, rfl, rfl, ?_⟩
        refine ⟨_, rfl, .inl ⟨_, rfl, _, _, rfl, rfl, (by omega), _, rfl, b, _, 1, 1, rfl, rfl, eb3, rfl, ?_⟩⟩
        have p1 : 0 ≤ (x1 * 48271 + c % 2147483647 + 7919 * ((x2 + 1 : Nat) : Int)) % 2147483647 := Int.emod_nonneg _ (by omega)
        have p2 : (x1 * 48271 + c % 2147483647 + 7919 * ((x2 + 1 : Nat) : Int)) % 2147483647 < 2147483647 := Int.emod_lt_of_pos _ (by omega)
        have eb : (upd H3 b (.lst ([V.int c, .int x1, .int ((x2 + 1 : Nat) : Int), .ref cl].set 1 (V.int ((x1 * 48271 + c % 2147483647 + 7919 * ((x2 + 1 : Nat) : Int)) % 2147483647))))) b = some (.lst [V.int c, .int ((x1 * 48271 + c % 2147483647 + 7919 * ((x2 + 1 : Nat) : Int)) % 2147483647), .int ((x2 + 1 : Nat) : Int), .ref cl]) := upd_same
        have sb : SB b H (upd H3 b (.lst ([V.int c, .int x1, .int ((x2 + 1 : Nat) : Int), .ref cl].set 1 (V.int ((x1 * 48271 + c % 2147483647 + 7919 * ((x2 + 1 : Nat) : Int)) % 2147483647))))) := sb3.trans (SB.put (y2 := x2 + 1) eb3 hc0 p1 p2)
        generalize upd H3 b (.lst ([V.int c, .int x1, .int ((x2 + 1 : Nat) : Int), .ref cl].set 1 (V.int ((x1 * 48271 + c % 2147483647 + 7919 * ((x2 + 1 : Nat) : Int)) % 2147483647)))) = H4 at eb sb
        have p0 : 0 ≤ c := hc0
        generalize (x1 * 48271 + c % 2147483647 + 7919 * ((x2 + 1 : Nat) : Int)) % 2147483647 = y1 at eb p1 p2
        generalize x2 + 1 = y2 at eb
        generalize c = y0 at eb p0
        refine ⟨_, rfl, b, _, 0, _, rfl, rfl, .inl (.inl eb), rfl, _, _, rfl, rfl, _, rfl, ?_⟩
        by_cases c1 : 0 < y0
        · rw [show decide (0 < y0) = true from decide_eq_true c1]
          refine iteT ⟨_, rfl, b, _, 0, _, rfl, rfl, .inl (.inl eb), rfl, .inl ⟨_, rfl, _, rfl, _, _, rfl, rfl, hm0, ?_⟩⟩
          refine ⟨_, rfl, b, _, 0, _, rfl, rfl, .inl (.inl eb), rfl, .inl ⟨_, rfl, _, rfl, _, _, rfl, rfl, ⟨hm0, hm1⟩, _, rfl, b, _, 0, 0, rfl, rfl, eb, rfl, _, rfl, ?_⟩⟩
          exact q _ _ (sb.trans (SB.put (y2 := y2) eb (Int.ediv_nonneg p0 (by omega)) p1 p2)) (fin _ (y0 / many) y1 y2 (sb.trans (SB.put (y2 := y2) eb (Int.ediv_nonneg p0 (by omega)) p1 p2)) upd_same (Int.ediv_nonneg p0 (by omega)) p1 p2) (Int.emod_nonneg _ (by omega)) (Int.emod_lt_of_pos _ hm0)
        · rw [show decide (0 < y0) = false from decide_eq_false c1]
          refine iteF ⟨_, rfl, b, _, 1, _, rfl, rfl, .inl (.inl eb), rfl, _, _, rfl, rfl, _, _, rfl, rfl, .inr ⟨by omega, by omega⟩, .inl ⟨_, rfl, _, _, rfl, rfl, (by omega), ?_⟩⟩
          have hbg : 0 ≤ (y1 + 1) * 39373 % 1000000007 ∧ (y1 + 1) * 39373 % 1000000007 < 1000000007 := ⟨Int.emod_nonneg _ (by omega), Int.emod_lt_of_pos _ (by omega)⟩
          refine ⟨_, rfl, _, rfl, _, _, rfl, rfl, .inl ⟨by omega, by omega⟩, .inl ⟨_, rfl, _, _, rfl, rfl, (by omega), _, _, rfl, rfl, .inr ⟨by omega, by omega⟩, .inl ⟨_, rfl, _, _, rfl, rfl, (by omega), ?_⟩⟩⟩
          refine ⟨_, rfl, _, _, rfl, rfl, ⟨by omega, by omega⟩, .inl ⟨_, rfl, _, rfl, _, _, rfl, rfl, hm0, ?_⟩⟩
          exact q _ _ sb (fin _ y0 y1 y2 sb eb p0 p1 p2) (Int.emod_nonneg _ (by omega)) (Int.emod_lt_of_pos _ hm0)
      | false =>
        refine iteF ?_
        have eb3 := eb2
        have sb3 := sb2
        generalize H2 = H3 at eb3 sb3
        refine ⟨_, rfl, b, _, 1, .int x1, rfl, rfl, .inl (.inl eb3), atI_nat (j := 1) rfl, _, _, rfl, rfl, .inr ⟨by omega, by omega⟩, _, rfl, .inl ⟨_, rfl, _, _, rfl, rfl, (by omega), _, _, rfl, rfl, ?_⟩⟩
        refine ⟨_, rfl, b, _, 2, .int ((x2 + 1 : Nat) : Int), rfl, rfl, .inl (.inl eb3), atI_nat (j := 2) rfl, _, _, rfl, rfl, .inl ⟨by omega, by omega⟩, _, _, rfl, rfl, ?_⟩
        refine ⟨_, rfl, .inl ⟨_, rfl, _, _, rfl, rfl, (by omega), _, rfl, b, _, 1, 1, rfl, rfl, eb3, rfl, ?_⟩⟩
        have p1 : 0 ≤ (x1 * 48271 + c % 2147483647 + 7919 * ((x2 + 1 : Nat) : Int)) % 2147483647 := Int.emod_nonneg _ (by omega)
        have p2 : (x1 * 48271 + c % 2147483647 + 7919 * ((x2 + 1 : Nat) : Int)) % 2147483647 < 2147483647 := Int.emod_lt_of_pos _ (by omega)
        have eb : (upd H3 b (.lst ([V.int x0, .int x1, .int ((x2 + 1 : Nat) : Int), .ref cl].set 1 (V.int ((x1 * 48271 + c % 2147483647 + 7919 * ((x2 + 1 : Nat) : Int)) % 2147483647))))) b = some (.lst [V.int x0, .int ((x1 * 48271 + c % 2147483647 + 7919 * ((x2 + 1 : Nat) : Int)) % 2147483647), .int ((x2 + 1 : Nat) : Int), .ref cl]) := upd_same
        have sb : SB b H (upd H3 b (.lst ([V.int x0, .int x1, .int ((x2 + 1 : Nat) : Int), .ref cl].set 1 (V.int ((x1 * 48271 + c % 2147483647 + 7919 * ((x2 + 1 : Nat) : Int)) % 2147483647))))) := sb3.trans (SB.put (y2 := x2 + 1) eb3 h0 p1 p2)
        generalize upd H3 b (.lst ([V.int x0, .int x1, .int ((x2 + 1 : Nat) : Int), .ref cl].set 1 (V.int ((x1 * 48271 + c % 2147483647 + 7919 * ((x2 + 1 : Nat) : Int)) % 2147483647)))) = H4 at eb sb
        have p0 : 0 ≤ x0 := h0
        generalize (x1 * 48271 + c % 2147483647 + 7919 * ((x2 + 1 : Nat) : Int)) % 2147483647 = y1 at eb p1 p2
        generalize x2 + 1 = y2 at eb
        generalize x0 = y0 at eb p0
        refine ⟨_, rfl, b, _, 0, _, rfl, rfl, .inl (.inl eb), rfl, _, _, rfl, rfl, _, rfl, ?_⟩
        by_cases c1 : 0 < y0
        · rw [show decide (0 < y0) = true from decide_eq_true c1]
          refine iteT ⟨_, rfl, b, _, 0, _, rfl, rfl, .inl (.inl eb), rfl, .inl ⟨_, rfl, _, rfl, _, _, rfl, rfl, hm0, ?_⟩⟩
          refine ⟨_, rfl, b, _, 0, _, rfl, rfl, .inl (.inl eb), rfl, .inl ⟨_, rfl, _, rfl, _, _, rfl, rfl, ⟨hm0, hm1⟩, _, rfl, b, _, 0, 0, rfl, rfl, eb, rfl, _, rfl, ?_⟩⟩
          exact q _ _ (sb.trans (SB.put (y2 := y2) eb (Int.ediv_nonneg p0 (by omega)) p1 p2)) (fin _ (y0 / many) y1 y2 (sb.trans (SB.put (y2 := y2) eb (Int.ediv_nonneg p0 (by omega)) p1 p2)) upd_same (Int.ediv_nonneg p0 (by omega)) p1 p2) (Int.emod_nonneg _ (by omega)) (Int.emod_lt_of_pos _ hm0)
        · rw [show decide (0 < y0) = false from decide_eq_false c1]
          refine iteF ⟨_, rfl, b, _, 1, _, rfl, rfl, .inl (.inl eb), rfl, _, _, rfl, rfl, _, _, rfl, rfl, .inr ⟨by omega, by omega⟩, .inl ⟨_, rfl, _, _, rfl, rfl, (by omega), ?_⟩⟩
          have hbg : 0 ≤ (y1 + 1) * 39373 % 1000000007 ∧ (y1 + 1) * 39373 % 1000000007 < 1000000007 := ⟨Int.emod_nonneg _ (by omega), Int.emod_lt_of_pos _ (by omega)⟩
          refine ⟨_, rfl, _, rfl, _, _, rfl, rfl, .inl ⟨by omega, by omega⟩, .inl ⟨_, rfl, _, _, rfl, rfl, (by omega), _, _, rfl, rfl, .inr ⟨by omega, by omega⟩, .inl ⟨_, rfl, _, _, rfl, rfl, (by omega), ?_⟩⟩⟩
          refine ⟨_, rfl, _, _, rfl, rfl, ⟨by omega, by omega⟩, .inl ⟨_, rfl, _, rfl, _, _, rfl, rfl, hm0, ?_⟩⟩
          exact q _ _ sb (fin _ y0 y1 y2 sb eb p0 p1 p2) (Int.emod_nonneg _ (by omega)) (Int.emod_lt_of_pos _ hm0)
    · rw [show decide (V.int x0 = V.int 0) = false from decide_eq_false (fun z => by injection z with z; exact c0 z)]
      refine iteF ?_
      have eb := hb
      have sb := SB.refl b H
      have p0 := h0
      have p1 := h1
      have p2 := h2
      generalize x0 = y0 at eb p0
      generalize x1 = y1 at eb p1 p2
      generalize x2 = y2 at eb
      refine ⟨_, rfl, b, _, 0, _, rfl, rfl, .inl (.inl eb), rfl, _, _, rfl, rfl, _, rfl, ?_⟩
      by_cases c1 : 0 < y0
      · rw [show decide (0 < y0) = true from decide_eq_true c1]
        refine iteT ⟨_, rfl, b, _, 0, _, rfl, rfl, .inl (.inl eb), rfl, .inl ⟨_, rfl, _, rfl, _, _, rfl, rfl, hm0, ?_⟩⟩
        refine ⟨_, rfl, b, _, 0, _, rfl, rfl, .inl (.inl eb), rfl, .inl ⟨_, rfl, _, rfl, _, _, rfl, rfl, ⟨hm0, hm1⟩, _, rfl, b, _, 0, 0, rfl, rfl, eb, rfl, _, rfl, ?_⟩⟩
        exact q _ _ (sb.trans (SB.put (y2 := y2) eb (Int.ediv_nonneg p0 (by omega)) p1 p2)) (fin _ (y0 / many) y1 y2 (sb.trans (SB.put (y2 := y2) eb (Int.ediv_nonneg p0 (by omega)) p1 p2)) upd_same (Int.ediv_nonneg p0 (by omega)) p1 p2) (Int.emod_nonneg _ (by omega)) (Int.emod_lt_of_pos _ hm0)
      · rw [show decide (0 < y0) = false from decide_eq_false c1]
        refine iteF ⟨_, rfl, b, _, 1, _, rfl, rfl, .inl (.inl eb), rfl, _, _, rfl, rfl, _, _, rfl, rfl, .inr ⟨by omega, by omega⟩, .inl ⟨_, rfl, _, _, rfl, rfl, (by omega), ?_⟩⟩
        have hbg : 0 ≤ (y1 + 1) * 39373 % 1000000007 ∧ (y1 + 1) * 39373 % 1000000007 < 1000000007 := ⟨Int.emod_nonneg _ (by omega), Int.emod_lt_of_pos _ (by omega)⟩
        refine ⟨_, rfl, _, rfl, _, _, rfl, rfl, .inl ⟨by omega, by omega⟩, .inl ⟨_, rfl, _, _, rfl, rfl, (by omega), _, _, rfl, rfl, .inr ⟨by omega, by omega⟩, .inl ⟨_, rfl, _, _, rfl, rfl, (by omega), ?_⟩⟩⟩
        refine ⟨_, rfl, _, _, rfl, rfl, ⟨by omega, by omega⟩, .inl ⟨_, rfl, _, rfl, _, _, rfl, rfl, hm0, ?_⟩⟩
        exact q _ _ sb (fin _ y0 y1 y2 sb eb p0 p1 p2) (Int.emod_nonneg _ (by omega)) (Int.emod_lt_of_pos _ hm0)
abbrev s__law_some : Stmt := top 46
theorem sc__law_some : FnScope ["bag", "things"] ["bag", "things"] (defScope s__law_some) := ⟨rfl, rfl, rfl, by decide +kernel, rfl, by decide +kernel, by decide +kernel⟩
theorem ok_some {f f__law_take : Addr} {fd fd1 : FuncData} (F : Fun K "_law_some" "_law_some" s__law_some f fd) (T : Tx mg) (d__law_take : Ok1 P w K mg base CX0 1 "_law_take" ["bag", "many"] sp_take f__law_take fd1) : FnOk P w K mg base CX0 2 f fd ["bag", "things"] sp_some := by
  refine F.ok sc__law_some (fun vs H Q E h => ?_) (fun cdv A outer s H vs Q E hr h => ?_)
  · obtain ⟨b, a, xs, rfl, _⟩ := h
    rfl
  · obtain ⟨b, a, xs, rfl, hB, hne, ha, hx, hxl, q⟩ := h
    refine ⟨_, (pss_one (ps_ret (pe_ix ix_list (pv 1) (pe_call d__law_take.ok (hr.mono (by decide)) rfl d__law_take.g d__law_take.kp d__law_take.b .nil pass0 (pa_cons (pv 0) (pa_cons (pe_callB call_len (by rfl) T.n_len (by decide +kernel) (pa_cons (pv 1) pa_nil)) pa_nil))) (fun _ _ => rfl)))), ?_⟩
    have hpos : 0 < xs.length := List.length_pos_iff.mpr hx
    refine ⟨_, rfl, _, rfl, _, rfl, _, _, rfl, .inl ⟨_, SqL.of ha, rfl⟩, b, _, rfl, hB, by omega, by omega, fun H1 n s1 hB1 n0 n1 => ⟨a, xs, n, ?_⟩⟩
    obtain ⟨k, rfl⟩ := Int.eq_ofNat_of_zero_le n0
    have hk : k < xs.length := by omega
    exact ⟨xs[k], rfl, rfl, .inl (.inl (s1.at_ ha hne)), atI_nat (List.getElem?_eq_getElem hk), q _ _ s1 hB1 (List.getElem_mem hk)⟩
abbrev s__law_bag : Stmt := top 44
theorem sc__law_bag : FnScope ["script", "cell"] ["script"] (defScope s__law_bag) := ⟨rfl, rfl, rfl, by decide +kernel, rfl, by decide +kernel, by decide +kernel⟩
theorem ok_lbag {f : Addr} {fd : FuncData} (F : Fun K "_law_bag" "_law_bag" s__law_bag f fd) (T : Tx mg) : FnOk P w K mg base CX0 1 f fd ["script"] (sp_lbag K) := by
  refine F.ok sc__law_bag (fun vs H Q E h => ?_) (fun cdv A outer s H vs Q E hr h => ?_)
  · obtain ⟨a, ns, rfl, _⟩ := h
    rfl
  · obtain ⟨a, ns, rfl, ha, q⟩ := h
    have hbig := sl_big
    refine ⟨_, (pss_one (ps_ret (pe_lst (pa_cons pe_int (pa_cons pe_int (pa_cons pe_int (pa_cons (pe_lc (own := [("cell", 1)]) (g := gName 1) (tt := tYes) (te := (tCB (fun xs H Q => ∃ i, xs = [.int i] ∧ Q (.int (if i < 0 then -i else i)) H) (tCons (tVar 1) tNil))) rfl sc__law_bag.nd (pi_list (pe_slice sl_list (pv 0) po_none (po_some pe_int))) (blkOk_by (N := ["script", "cell"]) (sc := defScope s__law_bag) (by decide +kernel)) (fun _ _ _ _ _ => pg_name (i := 1) sc__law_bag.nd rfl (Or.inl rfl)) (fun _ _ _ _ _ => pts_nil) (fun _ _ _ _ _ => by exact (pe_callB call_abs (by rfl) T.n_abs (by decide +kernel) (pa_cons (pv 1) pa_nil)))) pa_nil))))))), ?_⟩
    dsimp only [tNoPart]
    refine ⟨_, rfl, _, rfl, a, _, rfl, ha, fun p hp => ?_⟩
    rw [show (some (63 : Int)) = some ((63 : Nat) : Int) from rfl, cut_take, ← List.map_take]
    have s1 := same_upd (o := .lst ((ns.take 63).map V.int)) hp
    have h1 := @upd_same H p (.lst ((ns.take 63).map V.int))
    generalize upd H p (.lst ((ns.take 63).map V.int)) = H1 at s1 h1
    have hln : (ns.take 63).length ≤ 63 := by rw [List.length_take]; exact Nat.min_le_left _ _
    generalize ns.take 63 = ms at h1 hln
    refine ⟨p, rfl, ⟨_, SqL.of h1⟩, fun D hD => lc_list (K := K) (xs := ms.map V.int) (fun i H2 => Fill H1 D (((ms.take i).map fun z => (if z < 0 then -z else z)).map V.int) H2) (.start hD) (fun i H2 _ fl => SqL.of (fl.same _ _ h1)) ?_ ?_⟩
    · intro i x H2 hi fl
      rw [List.getElem?_map] at hi
      obtain ⟨z, hz, rfl⟩ := Option.map_eq_some_iff.mp hi
      refine ⟨rfl, _, rfl, z, rfl, _, fl.at_, ?_, fl.add ?_⟩
      · rw [List.length_map, List.length_map]
        exact take_len_le (by omega)
      · rw [take_add hz, List.map_append, List.map_append]
        rfl
    · intro H2 fl
      rw [List.length_map, List.take_length] at fl
      refine ⟨(by show 4 ≤ sizeLine; omega), fun b hb => ?_⟩
      have s2 := fl.same.trans (same_upd (o := .lst [.int 0, .int 1234567891, .int 0, .ref D]) hb)
      refine q _ b (s1.trans s2) ⟨0, 1234567891, 0, D, ms.map fun z => (if z < 0 then -z else z), upd_same, same_upd hb _ _ fl.at_, fun e => ?_, fun c hc => ?_, by rw [List.length_map]; exact hln, Int.le_refl 0, by decide, by decide⟩ (s1.free (fl.same.free hb))
      · have := fl.at_
        rw [e, hb] at this
        cases this
      · obtain ⟨z, _, rfl⟩ := List.mem_map.mp hc
        show 0 ≤ (if z < 0 then -z else z)
        split <;> omega
end
end Net
namespace NetR
open PySem PySem.Spec PyProof.Rows L2
theorem tuple_mul1 (l : Addr) (items : Array Value) (n : Nat) (dd : Option Addr) (sl : Array (Option Value)) (u : Tok) :
    Meets (Builtin.«tuple.__mul__» ⟨[.ref l, .int 1 u], []⟩) (fun _ R s => s.heap.get? l = some { cls := .type "tuple", dict := dd, data := .seq items n, slots := sl } ∧ R (.ok (.ret (.ref l))) s) :=
  .of_wp fun prog w A R s h => by
    obtain ⟨hp, g, d, tk, os⟩ := s
    obtain ⟨hl, h⟩ := h
    have f1 := AutoSeq1.idx_int
    wp_walk using wpAny_loadPart' hl
    repeat (first
      | (refine wpAny_ite_false (decide_eq_false (by simp)) ?_; wp_walk using wpAny_loadPart' hl)
      | (refine wpAny_ite_true (by simp) ?_; wp_walk using wpAny_loadPart' hl))
    exact ⟨_, rfl, h⟩
theorem tuple_mul0 (l : Addr) (items : Array Value) (n : Nat) (dd : Option Addr) (sl : Array (Option Value)) (u : Tok) (h0 : items.isEmpty = false) :
    Meets (Builtin.«tuple.__mul__» ⟨[.ref l, .int 0 u], []⟩) (fun _ R s => s.heap.get? l = some { cls := .type "tuple", dict := dd, data := .seq items n, slots := sl } ∧
      R (.ok (.ret (Value.ref s.heap.objs.size))) { s with heap := s.heap.push { cls := Value.type "tuple", data := Data.seq #[] }, toks := s.toks }) :=
  .of_wp fun prog w A R s h => by
    obtain ⟨hp, g, d, tk, os⟩ := s
    obtain ⟨hl, h⟩ := h
    have f1 := AutoSeq1.idx_int
    wp_walk using wpAny_loadPart' hl
    repeat (first
      | (refine wpAny_ite_false (decide_eq_false (by simp [h0])) ?_; wp_walk using wpAny_loadPart' hl)
      | (refine wpAny_ite_true (by simp) ?_; wp_walk using wpAny_loadPart' hl))
    exact ⟨_, rfl, h⟩
def rRepTA (K : PySem.W.Frag) : R2 := fun x y H Q => ∃ l k xs, x = .ref l ∧ y = .int k ∧ H l = some (.tup xs) ∧ xs ≠ [] ∧ 0 ≤ k ∧ k ≤ 1000 ∧ xs.length ≤ 1000 ∧ ∀ H' p, Same H H' → H' p = some (.tup (List.replicate k.toNat xs).flatten) → Q (.ref p) H'
theorem op_repTA {X : Cx} : OpR X (binaryOp .Mult) (rRepTA X.K) := by
  intro pins s σ H x y v u Q I rx ry h
  obtain ⟨l, k, xs, rfl, rfl, hT, hne, h1, h2, hz, q⟩ := h
  by_cases hk : 2 ≤ k
  · exact op_repT pins s σ H _ _ v u Q I rx ry ⟨l, k, xs, rfl, rfl, .inl (.inl hT), hne, hk, h2, hz, fun p hp => q _ p (Net.same_upd hp) upd_same⟩
  cases rx
  obtain ⟨t, rfl⟩ := ry
  obtain ⟨its, r, ⟨⟨cls, dd, data, sl⟩, ho, hc, n, hd⟩, hs⟩ := I.tuple (show SqT X.K H l xs from .inl (.inl hT))
  simp only at hc hd
  subst hc hd
  have hi : its.toArray.isEmpty = false := by
    cases r with
    | nil => exact absurd rfl hne
    | cons a b => rfl
  by_cases hk1 : k = 1
  · subst hk1
    refine wpAny_binaryOp_repeat_ref (T := "tuple") (U := "int") (by decide) ⟨_, ho, rfl⟩ (fun s' => typeIs_int s' 1 t) noFill_tuple_mul F.fills_int_mul F.slot_int_rmul repeat_tuple F.slot_int_index.lookup
      (call_meets F.slot_int_rmul (typeIs_int s 1 t) F.entry_int_rmul (F.args_int_rmul_2 _ _) (int_rmul_tuple 1 t l its.toArray n dd sl)
        ⟨ho, rfl, ⟨_, ho, rfl⟩, call_meets F.slot_tuple_mul ⟨_, ho, rfl⟩ F.entry_tuple_mul (F.args_tuple_mul_2 _ _) (tuple_mul1 l its.toArray n dd sl t) ⟨ho, ?_⟩⟩)
    refine ⟨.ref l, H, I, rfl, q H l (.refl H) ?_⟩
    rw [hT]
    simp
  · have hk0 : k = 0 := by omega
    subst hk0
    refine wpAny_binaryOp_repeat_ref (T := "tuple") (U := "int") (by decide) ⟨_, ho, rfl⟩ (fun s' => typeIs_int s' 0 t) noFill_tuple_mul F.fills_int_mul F.slot_int_rmul repeat_tuple F.slot_int_index.lookup
      (call_meets F.slot_int_rmul (typeIs_int s 0 t) F.entry_int_rmul (F.args_int_rmul_2 _ _) (int_rmul_tuple 0 t l its.toArray n dd sl)
        ⟨ho, rfl, ⟨_, ho, rfl⟩, call_meets F.slot_tuple_mul ⟨_, ho, rfl⟩ F.entry_tuple_mul (F.args_tuple_mul_2 _ _) (tuple_mul0 l its.toArray n dd sl t hi) ⟨ho, ?_⟩⟩)
    refine ⟨.ref s.heap.objs.size, _, I.laid (t' := s.toks) (o := .tup []) (fun b ob q => Heap.get?_push_of_some _ q) (Nat.le_refl _) ?_, rfl, q _ _ (Net.same_upd (I.hok.fresh (Nat.le_refl _))) upd_same⟩
    exact ⟨Nat.zero_le _, _, .nil, IsTup.new _ _⟩
end NetR
namespace NetZ
open PySem PySem.Spec PyProof.Rows L2
section
variable {prog : Program} {w : World} {A : Around} {E : Value → Shared → Prop} {s : Shared} {z TI TO T i1 i2 : Addr} {fp1 fp2 : List Addr} {n i : Nat} {P1 P2 : Nat → Value → Prop} {St1 St2 : Nat → Heap → Prop} {f : Bool} {oT : Obj}
theorem item_held {Q : Value → Shared → Prop} (S : ZipSep2 z TI TO i1 i2 fp1 fp2) (D1 : Draws prog w A i1 fp1 n P1 St1) (D2 : Draws prog w A i2 fp2 n P2 St2)
    (hz : IsZipHeld s.heap z TI TO T f) (hT : s.heap.get? T = some oT) (hTI : IsTupOf2 s.heap TI (.ref i1) (.ref i2)) (st1 : St1 i s.heap) (st2 : St2 i s.heap) (hlt : i < n)
    (hQ : ∀ x1 x2 h' tk, P1 i x1 → P2 i x2 → IsZipHeld h' z TI TO T true → St1 (i + 1) h' → St2 (i + 1) h' → IsTupOf2 h' s.heap.objs.size x1 x2 →
      (∀ c o, c ≠ z → c ≠ i1 → c ≠ i2 → s.heap.get? c = some o → h'.get? c = some o) → Q (.ref s.heap.objs.size) { s with heap := h', toks := tk }) :
    wpAny (model prog w) A (Builtin.«zip.__next__» ⟨[.ref z], []⟩) (fun fin s' => ∃ v, fin = .done (.ret v) ∧ Q v s') E s := by
  obtain ⟨hp, g, d, tk0, os⟩ := s
  show wpAny _ _ (field (.ref z) 2 >>= _) _ _ _
  refine wpAny_bind (wpAny_field hz rfl (x := .bool false) rfl ?_)
  show wpAny _ _ (field (.ref z) 3 >>= _) _ _ _
  refine wpAny_bind (wpAny_field hz rfl (x := .ref TI) rfl ?_)
  refine wpAny_bind (wpAny_seqItems hTI rfl ?_)
  show wpAny _ _ (Builtin.SmallTypes.ownedTupleIsFree (.ref z) >>= _) _ _ _
  refine wpAny_bind (wpAny_tupleHeld_zip (s := ⟨hp, g, d, tk0, os⟩) hz hT fun h₁ hz₁ hs₁ => ?_)
  replace hs₁ : Heap.SameBut z hp h₁ := hs₁
  simp only [Bool.false_eq_true, if_false]
  refine wpAny_bind ?_
  rw [← Array.forIn_toList]
  simp only [List.forIn_cons, List.forIn_nil]
  refine wpAny_bind (wpAny_bind (wpAny_holding ?_))
  show wpAny _ _ (Builtin.SmallTypes.nextOf (.ref i1) >>= _) _ _ ⟨h₁, g, d, tk0, os⟩
  refine wpAny_bind (D1.item i ⟨h₁, g, d, tk0, os⟩ _ _ hlt (D1.over st1 hs₁ S.zf1) fun x1 p1 tk1 hx1 sn1 hp1 => wpAny_pure ?_)
  replace hp1 : Heap.SameBut i1 h₁ p1 := hp1
  refine wpAny_pure ?_
  refine wpAny_bind (wpAny_bind (wpAny_holding ?_))
  show wpAny _ _ (Builtin.SmallTypes.nextOf (.ref i2) >>= _) _ _ ⟨p1, g, d, tk1, os⟩
  refine wpAny_bind (D2.item i ⟨p1, g, d, tk1, os⟩ _ _ hlt (D2.over (D2.over st2 hs₁ S.zf2) hp1 S.sep1_2) fun x2 p2 tk2 hx2 sn2 hp2 => wpAny_pure ?_)
  replace hp2 : Heap.SameBut i2 p1 p2 := hp2
  refine wpAny_pure (wpAny_pure ?_)
  show wpAny _ _ (newTuple [x1, x2] >>= _) _ _ _
  refine wpAny_bind (wpAny_newTuple ?_)
  have hsz : p2.objs.size = hp.objs.size := by rw [hp2.1, hp1.1, hs₁.1]
  have hz₃ : IsZipHeld p2 z TI TO T true := hp2.extBut _ _ S.zi2 (hp1.extBut _ _ S.zi1 hz₁)
  have hk : ∀ c o, c ≠ z → c ≠ i1 → c ≠ i2 → hp.get? c = some o → p2.get? c = some o := fun c o c1 c2 c3 e => hp2.extBut _ _ c3 (hp1.extBut _ _ c2 (hs₁.extBut _ _ c1 e))
  refine wpAny_pure ⟨_, rfl, ?_⟩
  show Q (.ref p2.objs.size) ⟨p2.push { cls := .type "tuple", data := .seq #[x1, x2] }, g, d, tk2, os⟩
  have hp' : IsTupOf2 (p2.push { cls := .type "tuple", data := .seq #[x1, x2] }) p2.objs.size x1 x2 := Heap.get?_push_size _ rfl
  rw [hsz] at hp' ⊢
  exact hQ x1 x2 _ tk2 hx1 hx2 (Heap.get?_push_of_some _ hz₃) (D1.frame _ _ _ (D1.over sn1 hp2 S.sep2_1) fun b _ o e => Heap.get?_push_of_some _ e) (D2.frame _ _ _ sn2 fun b _ o e => Heap.get?_push_of_some _ e) hp' fun c o c1 c2 c3 e => Heap.get?_push_of_some _ (hk c o c1 c2 c3 e)
theorem end_held {Q : Fin → Shared → Prop} (S : ZipSep2 z TI TO i1 i2 fp1 fp2) (D1 : Draws prog w A i1 fp1 n P1 St1)
    (hz : IsZipHeld s.heap z TI TO T f) (hT : s.heap.get? T = some oT) (hTI : IsTupOf2 s.heap TI (.ref i1) (.ref i2)) (st1 : St1 n s.heap)
    (hE : ∀ h' e, (∀ c o, c ≠ z → c ≠ i1 → c ≠ i2 → s.heap.get? c = some o → h'.get? c = some o) → (∃ o, h'.get? e = some o ∧ o.cls = .type "StopIteration") → E (.ref e) { s with heap := h' }) :
    wpAny (model prog w) A (Builtin.«zip.__next__» ⟨[.ref z], []⟩) Q E s := by
  obtain ⟨hp, g, d, tk0, os⟩ := s
  show wpAny _ _ (field (.ref z) 2 >>= _) _ _ _
  refine wpAny_bind (wpAny_field hz rfl (x := .bool false) rfl ?_)
  show wpAny _ _ (field (.ref z) 3 >>= _) _ _ _
  refine wpAny_bind (wpAny_field hz rfl (x := .ref TI) rfl ?_)
  refine wpAny_bind (wpAny_seqItems hTI rfl ?_)
  show wpAny _ _ (Builtin.SmallTypes.ownedTupleIsFree (.ref z) >>= _) _ _ _
  refine wpAny_bind (wpAny_tupleHeld_zip (s := ⟨hp, g, d, tk0, os⟩) hz hT fun h₁ hz₁ hs₁ => ?_)
  replace hs₁ : Heap.SameBut z hp h₁ := hs₁
  simp only [Bool.false_eq_true, if_false]
  refine wpAny_bind ?_
  rw [← Array.forIn_toList]
  simp only [List.forIn_cons, List.forIn_nil]
  refine wpAny_bind (wpAny_bind (wpAny_holding ?_))
  show wpAny _ _ (Builtin.SmallTypes.nextOf (.ref i1) >>= _) _ _ ⟨h₁, g, d, tk0, os⟩
  refine wpAny_bind (D1.done ⟨h₁, g, d, tk0, os⟩ _ _ (D1.over st1 hs₁ S.zf1) fun q e hq he => ?_)
  exact hE q e (fun c o c1 c2 _ x => hq _ _ c2 (hs₁.extBut _ _ c1 x)) he
def ZSt (z TI TO i1 i2 : Addr) (St1 St2 : Nat → Heap → Prop) (S : Addr) (i : Nat) (h : Heap) : Prop :=
  IsTupOf2 h TI (.ref i1) (.ref i2) ∧ St1 i h ∧ St2 i h ∧ ((IsZip h z TI TO .none ∧ ∃ a b, IsTupOf2 h TO a b) ∨ ∃ T f oT, IsZipHeld h z TI TO T f ∧ h.get? T = some oT ∧ T ≠ z ∧ T ≠ i1 ∧ T ≠ i2 ∧ T ≠ S)
theorem ZSt.type {S : Addr} (h : ZSt z TI TO i1 i2 St1 St2 S i s.heap) : s.TypeIs (.ref z) "zip" := by
  rcases h.2.2.2 with ⟨hz, _⟩ | ⟨T, f, oT, hz, _⟩
  · exact ⟨_, hz, rfl⟩
  · exact ⟨_, hz, rfl⟩
theorem zip_next {L : Addr} {Q : Option Value → Shared → Prop} (S : ZipSep2 z TI TO i1 i2 fp1 fp2) (D1 : Draws prog w A.in1 i1 fp1 n P1 St1) (D2 : Draws prog w A.in1 i2 fp2 n P2 St2) (hL : L < s.heap.objs.size)
    (st : ZSt z TI TO i1 i2 St1 St2 L i s.heap) (hlt : i < n)
    (hQ : ∀ x1 x2 h' tk, P1 i x1 → P2 i x2 → ZSt z TI TO i1 i2 St1 St2 L (i + 1) h' → IsTupOf2 h' s.heap.objs.size x1 x2 →
      (∀ c o, c ≠ z → c ≠ TO → c ≠ i1 → c ≠ i2 → s.heap.get? c = some o → h'.get? c = some o) → Q (some (.ref s.heap.objs.size)) { s with heap := h', toks := tk }) :
    wpAny (model prog w) A (pyNext (.ref z)) Q E s := by
  obtain ⟨hTI, st1, st2, hz⟩ := st
  have lt : ∀ {c o}, s.heap.get? c = some o → s.heap.objs.size ≠ c := fun e => Nat.ne_of_gt (Heap.lt_size e)
  have n1 : s.heap.objs.size ≠ i1 := let ⟨_, e⟩ := D1.live _ _ st1; lt e
  have n2 : s.heap.objs.size ≠ i2 := let ⟨_, e⟩ := D2.live _ _ st2; lt e
  rcases hz with ⟨hz, a, b, hTO⟩ | ⟨T, f, oT, hz, hT, r1, r2, r3, r4⟩
  · refine wpAny_pyNext_zipD2_item S D1 D2 hz hTI hTO st1 st2 hlt hlt fun x1 x2 h' tk p1 p2 a1 a2 a3 a4 a5 a6 hk => ?_
    exact hQ x1 x2 h' tk p1 p2 ⟨hk _ _ S.TIz S.TITO S.TIi1 S.TIi2 hTI, a3, a4, .inr ⟨_, false, _, a1, a5, lt hz, n1, n2, Nat.ne_of_gt hL⟩⟩ a5 hk
  · have hTy : s.TypeIs (.ref z) "zip" := ⟨_, hz, rfl⟩
    unfold pyNext
    refine wpAny_bind (wpAny_attempt (wpAny_callSpecial?_slot (name := Str.ofString "__next__") hTy F.slot_zip_next
      (wpAny_call_entry F.slot_zip_next hTy F.entry_zip_next
        (item_held (A := A.in1) S D1 D2 hz hT hTI st1 st2 hlt fun x1 x2 h' tk p1 p2 a1 a3 a4 a5 hk => wpAny_pure ?_) (F.args_zip_next_1 _))))
    exact hQ x1 x2 h' tk p1 p2 ⟨hk _ _ S.TIz S.TIi1 S.TIi2 hTI, a3, a4, .inr ⟨T, true, oT, a1, hk _ _ r1 r2 r3 hT, r1, r2, r3, r4⟩⟩ a5 fun c o c1 _ c3 c4 e => hk c o c1 c3 c4 e
theorem zip_stop {L : Addr} {Q : Option Value → Shared → Prop} (S : ZipSep2 z TI TO i1 i2 fp1 fp2) (D1 : Draws prog w A.in1 i1 fp1 n P1 St1) (D2 : Draws prog w A.in1 i2 fp2 n P2 St2)
    (st : ZSt z TI TO i1 i2 St1 St2 L n s.heap)
    (hQ : ∀ h' tk, (∀ c o, c ≠ z → c ≠ TO → c ≠ i1 → c ≠ i2 → s.heap.get? c = some o → h'.get? c = some o) → Q none { s with heap := h', toks := tk }) :
    wpAny (model prog w) A (pyNext (.ref z)) Q E s := by
  obtain ⟨hTI, st1, st2, hz⟩ := st
  rcases hz with ⟨hz, a, b, hTO⟩ | ⟨T, f, oT, hz, hT, r1, r2, r3, r4⟩
  · exact wpAny_pyNext_zipD2_end S D1 D2 hz hTI hTO st1 st2 (Nat.le_refl _) (Nat.le_refl _) (.inl rfl) fun h' tk hk => hQ h' tk hk
  · have hTy : s.TypeIs (.ref z) "zip" := ⟨_, hz, rfl⟩
    unfold pyNext
    refine wpAny_bind (wpAny_attempt (wpAny_callSpecial?_slot (name := Str.ofString "__next__") hTy F.slot_zip_next
      (wpAny_call_entry F.slot_zip_next hTy F.entry_zip_next (end_held (A := A.in1) S D1 hz hT hTI st1 fun h' e hk he => ?_) (F.args_zip_next_1 _))))
    obtain ⟨o, ho, hc⟩ := he
    refine wpAny_bind (wpAny_isInstance (T := "StopIteration") (b := true) ⟨o, ho, hc⟩ isSubtype_stop ?_)
    exact wpAny_pure (hQ h' s.toks fun c o c1 _ c3 c4 e => hk c o c1 c3 c4 e)
end
theorem zip_no_len : typeLookup (.type "zip") "__len__" = pure none := am_miss_of_fast (by decide +kernel)
theorem zip_no_hint : typeLookup (.type "zip") "__length_hint__" = pure none := am_miss_of_fast (by decide +kernel)
theorem zip_hint {prog : Program} {w : World} {A : Around} {E : Value → Shared → Prop} {s : Shared} {r : Addr} {Q : Bool → Shared → Prop} (hT : s.TypeIs (.ref r) "zip") (h : Q true s) : wpAny (model prog w) A (Builtin.List.listLengthHint (.ref r)) Q E s := by
  unfold Builtin.List.listLengthHint
  refine wpAny_bind (wpAny_specialOf hT zip_no_len ?_)
  show wpAny _ _ (specialOf (Value.ref r) (Str.ofString "__length_hint__") >>= _) _ _ _
  refine wpAny_bind (wpAny_specialOf hT zip_no_hint ?_)
  exact wpAny_pure h
section
variable {X : Cx} {pins : List (Addr × Obj)} {σ : L2.St} {z TI TO i1 i2 : Addr} {fp1 fp2 : List Addr} {n : Nat} {P1 P2 : Nat → Value → Prop} {St1 St2 : Nat → Heap → Prop}
theorem ZSt.upd {L : Addr} {i : Nat} {h : Heap} {g : Obj → Obj} {A : Around} {prog : Program} {w : World} (D1 : Draws prog w A i1 fp1 n P1 St1) (D2 : Draws prog w A i2 fp2 n P2 St2) (st : ZSt z TI TO i1 i2 St1 St2 L i h) (h1 : L ∉ fp1) (h2 : L ∉ fp2) (hz : z ≠ L) (hTI : TI ≠ L) (hTO : TO ≠ L) :
    ZSt z TI TO i1 i2 St1 St2 L i (h.update L g) := by
  have k : ∀ b o, b ≠ L → h.get? b = some o → (h.update L g).get? b = some o := fun b o hb e => (Heap.get?_update_other _ _ (Ne.symm hb)).trans e
  obtain ⟨a1, a2, a3, a4⟩ := st
  refine ⟨k _ _ hTI a1, D1.frame _ _ _ a2 fun b hb o e => k b o (fun q => h1 (q ▸ hb)) e, D2.frame _ _ _ a3 fun b hb o e => k b o (fun q => h2 (q ▸ hb)) e, ?_⟩
  rcases a4 with ⟨b1, x, y, b2⟩ | ⟨T, f, oT, b1, b2, b3, b4, b5, b6⟩
  · exact .inl ⟨k _ _ hz b1, x, y, k _ _ hTO b2⟩
  · exact .inr ⟨T, f, oT, k _ _ hz b1, k _ _ b6 b2, b3, b4, b5, b6⟩
def Prs (H : Hp) (xs ys : List V) (ts : List Addr) : Prop := ∀ (j : Nat) (t : Addr), ts[j]? = some t → ∃ x y, xs[j]? = some x ∧ ys[j]? = some y ∧ H t = some (.tup [x, y])
theorem loop {A : Around} {R : Result → Shared → Prop} (S : ZipSep2 z TI TO i1 i2 fp1 fp2) (D1 : Draws X.prog X.w A.in1.in1 i1 fp1 n P1 St1) (D2 : Draws X.prog X.w A.in1.in1 i2 fp2 n P2 St2) {L : Addr} (h1 : L ∉ fp1) (h2 : L ∉ fp2)
    (hch : ∀ b ∈ [z, TI, TO, i1, i2], b < L) {xs ys : List V} (r1 : ∀ j v, P1 j v → ∃ x, xs[j]? = some x ∧ RelV x v) (r2 : ∀ j v, P2 j v → ∃ y, ys[j]? = some y ∧ RelV y v) (hn : n ≤ sizeLine) (res : Value) :
    ∀ (k i : Nat) (s : Shared) (H : Hp) (ts : List Addr), n - i = k → i ≤ n → Inv X pins σ H s → H L = some (.lst (ts.map V.ref)) → ts.length = i → ZSt z TI TO i1 i2 St1 St2 L i s.heap → (∀ b ∈ [z, TI, TO, i1, i2], FpOk X pins H b) → Prs H xs ys ts →
      (∀ H' s' ts', Inv X pins σ H' s' → (∀ b o, b ≠ L → H b = some o → H' b = some o) → H' L = some (.lst (ts'.map V.ref)) → ts'.length = n → Prs H' xs ys ts' → R (.ok (.ret res)) s') →
      codeAny (model X.prog X.w) A (.builtin "list.extend.loop" ⟨[.ref L, .ref z, res], []⟩) R s := by
  have zL : z ≠ L := Nat.ne_of_lt (hch z (by simp))
  have tiL : TI ≠ L := Nat.ne_of_lt (hch TI (by simp))
  have toL : TO ≠ L := Nat.ne_of_lt (hch TO (by simp))
  intro k
  induction k with
  | zero =>
    intro i s H ts hk hi I hL hlen st hfp hp hR
    have hin : i = n := by omega
    subst hin
    refine codeAny_builtin F.entry_extend_loop ?_
    rw [Around.under_plainId F.plain_extend_loop _]
    show wpAny _ A.in1 (pyNext (.ref z) >>= _) _ _ s
    refine wpAny_bind (zip_stop S D1 D2 st fun h' tk hk => ?_)
    exact wpAny_pure (hR H _ ts (I.turnedL (t' := tk) (ch := [z, TI, TO, i1, i2]) (fun b o hb e => hk b o (fun q => hb (by simp [q])) (fun q => hb (by simp [q])) (fun q => hb (by simp [q])) (fun q => hb (by simp [q])) e) hfp) (fun _ _ _ e => e) hL hlen hp)
  | succ k ih =>
    intro i s H ts hk hi I hL hlen st hfp hp hR
    have hlt : i < n := by omega
    obtain ⟨its, m, rv, ho, hzz⟩ := I.lst hL
    have hLs : L < s.heap.objs.size := Heap.lt_size ho
    refine codeAny_builtin F.entry_extend_loop ?_
    rw [Around.under_plainId F.plain_extend_loop _]
    show wpAny _ A.in1 (pyNext (.ref z) >>= _) _ _ s
    refine wpAny_bind (zip_next S D1 D2 hLs st hlt fun x1 x2 h' tk p1 p2 st' hT hk' => ?_)
    obtain ⟨x, ex, rx⟩ := r1 _ _ p1
    obtain ⟨y, ey, ry⟩ := r2 _ _ p2
    have I1 : Inv X pins σ (upd H s.heap.objs.size (.tup [x, y])) { s with heap := h', toks := tk } :=
      I.turnedNew (t' := tk) (ch := [z, TI, TO, i1, i2]) (fun b o hb e => hk' b o (fun q => hb (by simp [q])) (fun q => hb (by simp [q])) (fun q => hb (by simp [q])) (fun q => hb (by simp [q])) e) hfp (Nat.le_refl _)
        ⟨by show 2 ≤ sizeLine; decide, [x1, x2], .cons rx (.cons ry .nil), ⟨_, hT, rfl, _, rfl⟩⟩
    have hTL : L ≠ s.heap.objs.size := Nat.ne_of_lt hLs
    have hL1 : (upd H s.heap.objs.size (.tup [x, y])) L = some (.lst (ts.map V.ref)) := by rw [upd_ne hTL]; exact hL
    have hT1 := @upd_same H s.heap.objs.size (.tup [x, y])
    have hf := I.hok.fresh (Nat.le_refl s.heap.objs.size)
    obtain ⟨its1, m1, rv1, ho1, hz1⟩ := I1.lst hL1
    have hl1 := rv1.length
    rw [List.length_map, hlen] at hl1
    show wpAny _ A.in1 (updateSeq L (·.push (.ref s.heap.objs.size)) >>= _) _ _ _
    refine wpAny_bind ?_
    have I2 := I1.lset (t' := tk) (ys := (ts ++ [s.heap.objs.size]).map V.ref) (its' := its1 ++ [.ref s.heap.objs.size]) (f := fun a => a.push (.ref s.heap.objs.size)) hL1 ho1 (by simp) (by rw [List.map_append]; exact rv1.append (.cons rfl .nil)) (by rw [List.length_map, List.length_append, hlen]; show i + 1 ≤ sizeLine; omega)
    have hb : ∀ b ∈ [z, TI, TO, i1, i2], b ≠ s.heap.objs.size ∧ b ≠ L := fun b hb => ⟨Nat.ne_of_lt (Nat.lt_trans (hch b hb) hLs), Nat.ne_of_lt (hch b hb)⟩
    refine wpAny_updateSeq ho1 rfl (wpAny_pure ⟨plainId_quiet F.plain_extend_loop _, ih (i + 1) _ _ (ts ++ [s.heap.objs.size]) (by omega) hlt I2 upd_same (by rw [List.length_append, hlen]; rfl) (ZSt.upd D1 D2 st' h1 h2 zL tiL toL) (fun b hb' => ?_) (fun j t ht => ?_) fun H' s' ts' I' hk2 a1 a2 a3 => ?_⟩)
      (by rw [List.size_toArray]; omega) (by show (its1.toArray.push _).size ≤ sizeLine + 1; rw [Array.size_push, List.size_toArray]; omega)
    · obtain ⟨c1, c2⟩ := hfp b hb'
      refine ⟨?_, c2⟩
      rw [upd_ne (hb b hb').2, upd_ne (hb b hb').1]
      exact c1
    · by_cases hj : j < ts.length
      · rw [List.getElem?_append_left hj] at ht
        obtain ⟨x', y', e1, e2, e3⟩ := hp j t ht
        refine ⟨x', y', e1, e2, ?_⟩
        rw [upd_ne (fun q => by rw [q, hL] at e3; cases e3), upd_ne (ne_of_none e3 hf)]
        exact e3
      · rw [List.getElem?_append_right (by omega)] at ht
        have hj2 : j - ts.length = 0 := by
          by_cases q : j - ts.length = 0
          · exact q
          · rw [List.getElem?_eq_none (by rw [List.length_singleton]; omega)] at ht
            cases ht
        have hji : j = i := by omega
        subst hji
        rw [hj2] at ht
        cases (Option.some.inj ht)
        refine ⟨x, y, ex, ey, ?_⟩
        rw [upd_ne (Ne.symm hTL)]
        exact hT1
    · refine hR H' s' ts' I' (fun b o hbL e => hk2 b o hbL ?_) a1 a2 a3
      rw [upd_ne hbL, upd_ne (ne_of_none e hf)]
      exact e
theorem call_list {E : Value → Shared → Prop} {Q : VK} {s : Shared} {H : Hp} (hc : X.calm = true) (S : ZipSep2 z TI TO i1 i2 fp1 fp2) (D1 : Draws X.prog X.w X.A.in1.in1.in1 i1 fp1 n P1 St1) (D2 : Draws X.prog X.w X.A.in1.in1.in1 i2 fp2 n P2 St2) (hlt1 : ∀ b ∈ fp1, b < s.heap.objs.size) (hlt2 : ∀ b ∈ fp2, b < s.heap.objs.size)
    (hch : ∀ b ∈ [z, TI, TO, i1, i2], b < s.heap.objs.size) {xs ys : List V} (r1 : ∀ j v, P1 j v → ∃ x, xs[j]? = some x ∧ RelV x v) (r2 : ∀ j v, P2 j v → ∃ y, ys[j]? = some y ∧ RelV y v) (hn : n ≤ sizeLine)
    (I : Inv X pins σ H s) (st : ∀ L, L = s.heap.objs.size → ZSt z TI TO i1 i2 St1 St2 L 0 s.heap) (hfp : ∀ b ∈ [z, TI, TO, i1, i2], FpOk X pins H b)
    (q : ∀ H' p ts, L2.Same H H' → H' p = some (.lst (ts.map V.ref)) → ts.length = n → Prs H' xs ys ts → Q (.ref p) H') :
    wpAny (model X.prog X.w) X.A (call (.type "list") [.ref z]) (EP X pins σ Q) E s := by
  have hf := I.hok.fresh (Nat.le_refl s.heap.objs.size)
  generalize hLe : s.heap.objs.size = L at *
  have h1 : L ∉ fp1 := fun m => Nat.lt_irrefl _ (hlt1 _ m)
  have h2 : L ∉ fp2 := fun m => Nat.lt_irrefl _ (hlt2 _ m)
  have zL : z ≠ L := Nat.ne_of_lt (hch z (by simp))
  have tiL : TI ≠ L := Nat.ne_of_lt (hch TI (by simp))
  have toL : TO ≠ L := Nat.ne_of_lt (hch TO (by simp))
  have st0 := st L rfl
  refine callType_codes (Q₁ := fun obj s₁ => obj = .ref L ∧ s₁ = { s with heap := s.heap.push { cls := .type "list", data := .seq #[] } }) F.called_list (F.typeCall_list_1 _) F.entry_list_init
    (code_list_new _ ⟨by rw [hLe], rfl⟩) fun obj s₁ h₁ => ?_
  obtain ⟨rfl, rfl⟩ := h₁
  have hS : (s.heap.push { cls := .type "list", data := .seq #[] }).get? L = some { cls := .type "list", data := .seq #[] } := by rw [← hLe]; exact Heap.get?_push_size _ rfl
  have kp : ∀ b o, s.heap.get? b = some o → (s.heap.push { cls := .type "list", data := .seq #[] }).get? b = some o := fun b o e => Heap.get?_push_of_some _ e
  have I1 : Inv X pins σ (upd H L (.lst [])) { s with heap := s.heap.push { cls := .type "list", data := .seq #[] } } :=
    I.laid (t' := s.toks) kp (by rw [hLe]; exact Nat.le_refl _) (show ObjOk X.prog X.w _ _ _ (.lst []) from ⟨Nat.zero_le _, [], 0, .nil, hS⟩)
  have st1 : ZSt z TI TO i1 i2 St1 St2 L 0 (s.heap.push { cls := .type "list", data := .seq #[] }) := by
    obtain ⟨a1, a2, a3, a4⟩ := st0
    refine ⟨kp _ _ a1, D1.frame _ _ _ a2 fun b _ o e => kp b o e, D2.frame _ _ _ a3 fun b _ o e => kp b o e, ?_⟩
    rcases a4 with ⟨b1, x, y, b2⟩ | ⟨T, f, oT, b1, b2, b3, b4, b5, b6⟩
    · exact .inl ⟨kp _ _ b1, x, y, kp _ _ b2⟩
    · exact .inr ⟨T, f, oT, kp _ _ b1, kp _ _ b2, b3, b4, b5, b6⟩
  refine ⟨⟨_, hS, rfl⟩, F.args_list_init_2 _ _, ?_⟩
  show wpAny _ _ (do let old ← Builtin.List.listItems (.ref L); Builtin.List.listUpdate (.ref L) (fun _ => #[]); letGo old.toList.reverse; Builtin.List.listExtendWith (.ref L) (.ref z) .none) _ _ _
  refine wpAny_bind ?_
  unfold Builtin.List.listItems
  refine wpAny_bind (wpAny_seqItems hS rfl (wpAny_pure ?_))
  show wpAny _ _ (updateSeq L (fun _ => #[]) >>= fun _ => letGo (#[] : Array Value).toList.reverse >>= fun _ => Builtin.List.listExtendWith (.ref L) (.ref z) .none) _ _ _
  have I2 := I1.lset (t' := s.toks) (its := []) (its' := []) (ys := []) (f := fun _ => #[]) upd_same hS rfl .nil (Nat.zero_le _)
  have st2 := ZSt.upd (g := Obj.mapSeq (fun _ => (#[] : Array Value))) D1 D2 st1 h1 h2 zL tiL toL
  refine wpAny_bind (wpAny_updateSeq hS rfl ?_)
  have hS2 := PySem.IsL.update hS (fun _ => (#[] : Array Value))
  refine wpAny_bind (wpAny_letGo ?_)
  generalize (s.heap.push { cls := .type "list", data := .seq #[] }).update L (Obj.mapSeq (fun _ => (#[] : Array Value))) = g2 at *
  unfold Builtin.List.listExtendWith
  refine wpAny_bind (wpAny_typeOf (T := "zip") (ZSt.type (s := { s with heap := g2 }) st2) ?_)
  have e1 : Builtin.List.listSameRef (.ref L) (.ref z) = false := by simp [Builtin.List.listSameRef, Ne.symm zL]
  have e2 : (Value.type "zip" == Value.type "list") = false := by decide
  have e3 : (Value.type "zip" == Value.type "tuple") = false := by decide
  simp only [e1, e2, e3, Bool.or_false, Bool.false_eq_true, if_false]
  have hit : ∀ {A : Around} {E : Value → Shared → Prop} {Q : Value → Shared → Prop}, Q (.ref z) { s with heap := g2 } → wpAny (model X.prog X.w) A (pyIter (.ref z)) Q E { s with heap := g2 } := fun h => by
    have hT := ZSt.type (s := { s with heap := g2 }) st2
    refine wpAny_pyIter_slot hT F.slot_zip_iter (wpAny_call_entry F.slot_zip_iter hT F.entry_zip_iter ?_ (F.args_zip_iter_1 _))
    show wpAny _ _ (ret (.ref z)) _ _ _
    exact wpAny_pure ⟨_, rfl, "zip", _, hT, F.slot_zip_next.lookup, h⟩
  refine wpAny_bind (hit ?_)
  refine wpAny_bind (wpAny_holding (zip_hint (ZSt.type (s := { s with heap := g2 }) st2) ?_))
  simp only [Bool.true_or, if_true]
  refine wpAny_bind (wpAny_rule ?_)
  refine wpAny_bind ?_
  show wpAny _ _ (updateSeq L (·.push .none) >>= fun _ => updateSeq L (·.pop)) _ _ _
  have I3 := I2.lset (t' := s.toks) (its := []) (its' := [.none]) (ys := [.non]) (f := fun a => a.push .none) upd_same hS2 rfl (.cons rfl .nil) (by show 1 ≤ sizeLine; decide)
  have st3 := ZSt.upd (g := Obj.mapSeq (fun a => a.push .none)) D1 D2 st2 h1 h2 zL tiL toL
  have hS3 := PySem.IsL.update hS2 (fun a => a.push .none)
  refine wpAny_bind (wpAny_updateSeq hS2 rfl ?_)
  have I4 := I3.lset (t' := s.toks) (its := [.none]) (its' := []) (ys := []) (f := fun a => a.pop) upd_same hS3 rfl .nil (Nat.zero_le _)
  have st4 := ZSt.upd (g := Obj.mapSeq (fun a => a.pop)) D1 D2 st3 h1 h2 zL tiL toL
  refine wpAny_updateSeq (hz := by seq_fits) hS3 rfl ?_
  refine wpAny_pure ⟨plainId_quiet F.plain_extend_loop _, loop (A := X.A.in1) S D1 D2 h1 h2 hch r1 r2 hn .none n 0 _ _ [] rfl (Nat.zero_le _) I4 upd_same rfl st4 (fun b hb => ?_) (fun j t ht => by cases ht) fun H' s' ts' I' hk a1 a2 a3 => ?_⟩
  · obtain ⟨c1, c2⟩ := hfp b hb
    refine ⟨?_, c2⟩
    have hbL : b ≠ L := Nat.ne_of_lt (hch b hb)
    rw [upd_ne hbL, upd_ne hbL, upd_ne hbL, upd_ne hbL]
    exact c1
  · refine ⟨rfl, .ref L, H', I', rfl, q H' L ts' (fun b o e => ?_) a1 a2 a3⟩
    have hbL := ne_of_none e hf
    refine hk b o hbL ?_
    rw [upd_ne hbL, upd_ne hbL, upd_ne hbL, upd_ne hbL]
    exact e
end
section
variable {X : Cx}
theorem rel_at {xs : List V} {us : List Value} (r : Vals xs us) {j : Nat} {v : Value} (e : us.toArray[j]? = some v) : ∃ x, xs[j]? = some x ∧ RelV x v := by
  have e' : us[j]? = some v := by simpa using e
  have hl := r.length
  have hj : j < xs.length := by
    have := (List.getElem?_eq_some_iff.mp e').1
    omega
  obtain ⟨u, hu, ru⟩ := r.get (List.getElem?_eq_getElem hj)
  rw [e'] at hu
  cases hu
  exact ⟨_, List.getElem?_eq_getElem hj, ru⟩
def tLZ (K : PySem.W.Frag) (ta : TA) : TE := fun σ H Q => ta σ H fun vs H1 => ∃ a b xs ys, vs = [.ref a, .ref b] ∧ ((SqL K H1 a xs ∧ SqL K H1 b ys) ∨ (SqT K H1 a xs ∧ SqT K H1 b ys)) ∧ xs.length = ys.length ∧ xs.length ≤ sizeLine ∧
  ∀ H' p ts, L2.Same H1 H' → H' p = some (.lst (ts.map V.ref)) → ts.length = xs.length → Prs H' xs ys ts → Q (.ref p) H'
theorem pe_listzip {e e2 : Expr} {ta : TA} {p p2 pos pos2 : Pos} (hc : X.calm = true) (hgl : Gl X "list") (hml : X.mg "list" = none) (hg : Gl X "zip") (hm : X.mg "zip" = none) (ha : PA X [e, e2] ta)
    (hs : starEach [e, e2] X.env = (false, eval e X.env) :: starEach [e2] X.env := by rfl) (hpl : (backTo pos2 (starEach [e2] X.env)).any (·.1) = false := by rfl)
    (hs2 : starEach [Expr.Call (.Name "zip" p2) [e, e2] [] pos2] X.env = (false, eval (.Call (.Name "zip" p2) [e, e2] [] pos2) X.env) :: starEach [] X.env := by rfl) (hpl2 : (backTo pos (starEach [] X.env)).any (·.1) = false := by rfl) :
    PE X (.Call (.Name "list" p) [.Call (.Name "zip" p2) [e, e2] [] pos2] [] pos) (tLZ X.K ta) := by
  refine ⟨fun pins s σ H Q I h => ?_⟩
  refine wpAny_Call_Name_kw (ld_blt I hgl hml (by rfl) (PyProof.Rows.callWith_type1 ?_ hs2 hpl2))
  show wpAny _ _ (spliced ((false, eval (.Call (.Name "zip" p2) [e, e2] [] pos2) X.env) :: backTo pos (starEach [] X.env))) _ _ s
  refine Calls.spliced_cons ?_
  refine Call_ (ld_blt I hg hm PyProof.Rows.boot_zip (PyProof.Rows.callWith_type1 (thn (ha.run pos2 pins s σ H _ I h) fun us s1 ⟨vs, H1, I1, r1, q1⟩ => ?_) hs hpl))
  obtain ⟨a, b, xs, ys, rfl, hab, hlen, hn, q⟩ := q1
  cases r1 with
  | cons r rr =>
  cases rr with
  | cons r' rr =>
  cases rr
  cases r
  cases r'
  have hh := I1.ok.hd hc
  have fresh5 : ∀ c, c ∈ [s1.heap.objs.size + 4, s1.heap.objs.size + 2, s1.heap.objs.size + 3, s1.heap.objs.size, s1.heap.objs.size + 1] → FpOk X pins H1 c := fun c hcm => by
    have e' : c = s1.heap.objs.size + 4 ∨ c = s1.heap.objs.size + 2 ∨ c = s1.heap.objs.size + 3 ∨ c = s1.heap.objs.size ∨ c = s1.heap.objs.size + 1 := by simpa using hcm
    have hle : s1.heap.objs.size ≤ c := by
      rcases e' with z | z | z | z | z <;> (rw [z]; first | exact Nat.le_add_right _ _ | exact Nat.le_refl _)
    exact I1.fpOk hle (I1.hok.fresh hle)
  have ch : ∀ c, c ∈ [s1.heap.objs.size + 4, s1.heap.objs.size + 2, s1.heap.objs.size + 3, s1.heap.objs.size, s1.heap.objs.size + 1] → c < s1.heap.objs.size + 5 := fun c hcm => by
    have e' : c = s1.heap.objs.size + 4 ∨ c = s1.heap.objs.size + 2 ∨ c = s1.heap.objs.size + 3 ∨ c = s1.heap.objs.size ∨ c = s1.heap.objs.size + 1 := by simpa using hcm
    rcases e' with z | z | z | z | z <;> rw [z] <;> omega
  have one : ∀ (c N : Nat) (l : List Addr), c < N → (∀ b ∈ l, b < N) → ∀ b ∈ c :: l, b < N := fun c N l h1 h2 b hb => by
    rcases List.mem_cons.mp hb with e | e
    · rw [e]; exact h1
    · exact h2 b e
  have nil : ∀ N : Nat, ∀ b ∈ ([] : List Addr), b < N := fun N b hb => by cases hb
  rcases hab with ⟨hqa, hqb⟩ | ⟨hqa, hqb⟩
  · obtain ⟨its, rv, p1, _⟩ := I1.list hqa
    obtain ⟨its2, rv2, p2', _⟩ := I1.list hqb
    have la : a < s1.heap.objs.size := p1.lt
    have lb : b < s1.heap.objs.size := p2'.lt
    have l1 := rv.length
    have l2 := rv2.length
    have D1 := Draws.list (prog := X.prog) (w := X.w) (A := X.A.in1.in1.in1) hh s1.heap.objs.size a (Nat.ne_of_lt la) its.toArray
    have D2 := Draws.list (prog := X.prog) (w := X.w) (A := X.A.in1.in1.in1) hh (s1.heap.objs.size + 1) b (Nat.ne_of_lt (Nat.lt_succ_of_lt lb)) its2.toArray
    rw [show its.toArray.size = xs.length by rw [List.size_toArray, l1]] at D1
    rw [show its2.toArray.size = xs.length by rw [List.size_toArray, hlen, l2]] at D2
    refine call_zip_2 p1.isList p2'.isList fun h' hz hTI hTO h1 h2 hsz hk => Calls.spliced_nil ?_
    have I2 : Inv X pins σ H1 { s1 with heap := h' } := I1.kept (t' := s1.toks) hk
    refine call_list hc (zip_sep2 (fp1 := [a]) (fp2 := [b]) (one _ _ _ la (nil _)) (one _ _ _ lb (nil _))) D1 D2 ?_ ?_ ?_ (fun j v e => ?_) (fun j v e => ?_) hn I2 (fun L hL => ⟨hTI, ⟨h1, p1.isList.at fun o e => hk _ o e⟩, ⟨h2, p2'.isList.at fun o e => hk _ o e⟩, .inl ⟨hz, _, _, hTO⟩⟩) fresh5 q
    · exact one _ _ _ (by rw [hsz]; omega) (one _ _ _ (by rw [hsz]; exact Nat.lt_of_lt_of_le la (Nat.le_add_right _ 5)) (nil _))
    · exact one _ _ _ (by rw [hsz]; omega) (one _ _ _ (by rw [hsz]; exact Nat.lt_of_lt_of_le lb (Nat.le_add_right _ 5)) (nil _))
    · rw [hsz]; exact ch
    · exact rel_at rv e
    · exact rel_at rv2 e
  · obtain ⟨its, rv, p1, _⟩ := I1.tuple hqa
    obtain ⟨its2, rv2, p2', _⟩ := I1.tuple hqb
    have la : a < s1.heap.objs.size := by
      obtain ⟨o1, ho1, _⟩ := id p1
      exact Heap.lt_size ho1
    have lb : b < s1.heap.objs.size := by
      obtain ⟨o1, ho1, _⟩ := id p2'
      exact Heap.lt_size ho1
    have l1 := rv.length
    have l2 := rv2.length
    have D1 := Draws.tuple (prog := X.prog) (w := X.w) (A := X.A.in1.in1.in1) hh s1.heap.objs.size a (Nat.ne_of_lt la) its.toArray
    have D2 := Draws.tuple (prog := X.prog) (w := X.w) (A := X.A.in1.in1.in1) hh (s1.heap.objs.size + 1) b (Nat.ne_of_lt (Nat.lt_succ_of_lt lb)) its2.toArray
    rw [show its.toArray.size = xs.length by rw [List.size_toArray, l1]] at D1
    rw [show its2.toArray.size = xs.length by rw [List.size_toArray, hlen, l2]] at D2
    refine RZ.call_zipT (show s1.heap.IsTuple a its.toArray from p1) (show s1.heap.IsTuple b its2.toArray from p2') fun h' hz hTI hTO h1 h2 hsz hk => Calls.spliced_nil ?_
    have I2 : Inv X pins σ H1 { s1 with heap := h' } := I1.kept (t' := s1.toks) hk
    have q1 : h'.IsTuple a its.toArray := Heap.IsTuple.at p1 fun o e => hk _ o e
    have q2 : h'.IsTuple b its2.toArray := Heap.IsTuple.at p2' fun o e => hk _ o e
    refine call_list hc (zip_sep2 (fp1 := [a]) (fp2 := [b]) (one _ _ _ la (nil _)) (one _ _ _ lb (nil _))) D1 D2 ?_ ?_ ?_ (fun j v e => ?_) (fun j v e => ?_) hn I2 (fun L hL => ⟨hTI, ⟨h1, q1⟩, ⟨h2, q2⟩, .inl ⟨hz, _, _, hTO⟩⟩) fresh5 q
    · exact one _ _ _ (by rw [hsz]; omega) (one _ _ _ (by rw [hsz]; exact Nat.lt_of_lt_of_le la (Nat.le_add_right _ 5)) (nil _))
    · exact one _ _ _ (by rw [hsz]; omega) (one _ _ _ (by rw [hsz]; exact Nat.lt_of_lt_of_le lb (Nat.le_add_right _ 5)) (nil _))
    · rw [hsz]; exact ch
    · exact rel_at rv e
    · exact rel_at rv2 e
end
end NetZ
namespace Net
open PySem PySem.Spec PyProof.Rows L2 NetR
mutual
def nodic : PyData → Bool
  | .dict _ => false
  | .list ds => nodics ds
  | .tuple ds => nodics ds
  | _ => true
def nodics : List PyData → Bool
  | [] => true
  | d :: ds => nodic d && nodics ds
end
theorem nodics_app : ∀ ds es : List PyData, nodics (ds ++ es) = (nodics ds && nodics es)
  | [], es => by rw [List.nil_append, nodics, Bool.true_and]
  | d :: ds, es => by rw [List.cons_append, nodics, nodics, nodics_app ds es, Bool.and_assoc]
def sp_alike : Sp := fun vs H Q E => ∃ v u d, vs = [v, u] ∧ Rp H v d ∧ Rp H u d ∧ nodic d = true ∧ dsz d ≤ 1000000 ∧ ∀ H', Same H H' → Q (.bl true) H'
inductive Pr2 (H0 H : Hp) : List V → List PyData → Prop
  | nil : Pr2 H0 H [] []
  | cons {t : Addr} {x y : V} {d : PyData} {ts : List V} {ds : List PyData} : H t = some (.tup [x, y]) → Rp H0 x d → Rp H0 y d → nodic d = true → Pr2 H0 H ts ds → Pr2 H0 H (.ref t :: ts) (d :: ds)
theorem Pr2.tk {H0 H H' : Hp} {vs : List V} {ds : List PyData} (h : Pr2 H0 H vs ds) (s : TK H H') : Pr2 H0 H' vs ds := by
  induction h with
  | nil => exact .nil
  | cons a b c d e ih => exact .cons (s _ _ a) b c d ih
theorem Pr2.app {H0 H : Hp} {vs us : List V} {ds es : List PyData} (h : Pr2 H0 H vs ds) (g : Pr2 H0 H us es) : Pr2 H0 H (vs ++ us) (ds ++ es) := by
  induction h with
  | nil => exact g
  | cons a b c d e ih => exact .cons a b c d ih
theorem Pr2.len {H0 H : Hp} {vs : List V} {ds : List PyData} (h : Pr2 H0 H vs ds) : vs.length = ds.length := by
  induction h with
  | nil => rfl
  | cons a b c d e ih => rw [List.length_cons, List.length_cons, ih]
theorem pr2_of {H0 H : Hp} : ∀ {cs : List PyData} {xs ys : List V} {zs : List Addr}, RpA H0 xs cs → RpA H0 ys cs → nodics cs = true → NetZ.Prs H xs ys zs → zs.length = cs.length → Pr2 H0 H (zs.map V.ref) cs
  | [], _, _, zs, _, _, _, _, hl => by
    cases zs with
    | nil => exact .nil
    | cons _ _ => cases hl
  | c :: cs, _, _, zs, h1, h2, hn, hp, hl => by
    cases h1 with
    | cons a1 b1 =>
      cases h2 with
      | cons a2 b2 =>
        cases zs with
        | nil => cases hl
        | cons z zs =>
          rw [nodics, Bool.and_eq_true] at hn
          obtain ⟨x, y, e1, e2, e3⟩ := hp 0 z rfl
          cases (Option.some.inj e1)
          cases (Option.some.inj e2)
          exact .cons e3 a1 a2 hn.1 (pr2_of b1 b2 hn.2 (fun j t ht => hp (j + 1) t ht) (by simpa using hl))
def WAl (H0 : Hp) (v u : V) (d : PyData) : Nat → L2.St → Hp → Prop := fun m σ H1 => ∃ (p : Addr) (i : Nat) (a b : Option V) (pre ts : List V) (ds : List PyData), σ = [some v, some u, some (.ref p), some (.int i), a, b] ∧ Same H0 H1 ∧ H0 p = none ∧ H1 p = some (.lst (pre ++ ts)) ∧ pre.length = i ∧ Pr2 H0 H1 ts ds ∧ i + dszs ds ≤ dsz d ∧ m = dszs ds
section
variable {P : Program} {w : World} {K : PySem.W.Frag} {mg : Str → Option Value} {base : Heap}
abbrev s__law_alike : Stmt := top 47
theorem sc__law_alike : FnScope ["found", "due", "pairs", "at", "one", "other"] ["found", "due"] (defScope s__law_alike) := ⟨rfl, rfl, rfl, by decide +kernel, rfl, by decide +kernel, by decide +kernel⟩
theorem ok_alike {f : Addr} {fd : FuncData} (F : Fun K "_law_alike" "_law_alike" s__law_alike f fd) (T : Tx mg) : FnOk P w K mg base CX0 1 f fd ["found", "due"] sp_alike := by
  refine F.ok sc__law_alike (fun vs H Q E h => ?_) (fun cdv A outer s H vs Q E hr h => ?_)
  · obtain ⟨v, u, d, rfl, _⟩ := h
    rfl
  · obtain ⟨v, u, d, rfl, hv, hu, hnd, hsz, q⟩ := h
    refine ⟨_, (pss_cons (ps_par (i := 2) (j := 3) (by rfl) sc__law_alike.nd rfl rfl (by decide) rfl rfl (pa_cons (pe_lst (pa_cons (pe_tup (pa_cons (pv 0) (pa_cons (pv 1) pa_nil))) pa_nil)) (pa_cons pe_int pa_nil)) (by rfl))
      (pss_cons (ps_while PassesOwn.never (pt_cmpR op_lt (pv 3) (pe_callB call_len (by rfl) T.n_len (by decide +kernel) (pa_cons (pv 2) pa_nil)) (nomark _)) (pss_cons (ps_asg (pe_ix ix_list (pv 2) (pv 3) (fun _ _ => rfl)) (pg_tup rfl (pgs_cons (pg_name (i := 4) sc__law_alike.nd rfl (Or.inl rfl)) (pgs_cons (pg_name (i := 5) sc__law_alike.nd rfl (Or.inl rfl)) pgs_nil))))
      (pss_cons (ps_aug (i := 3) sc__law_alike.nd rfl (.inl rfl) pe_int ip_add)
      (pss_cons (ps_if (PW.pt (pw_or (pt_cmpR op_ne (pe_callB call_isi (by rfl) T.n_isinstance (by decide +kernel) (pa_cons (pv 4) (pa_cons (pe_bltn (v := .ty "bool") (by rfl) T.n_bool (by decide +kernel) rfl) pa_nil))) (pe_callB call_isi (by rfl) T.n_isinstance (by decide +kernel) (pa_cons (pv 5) (pa_cons (pe_bltn (v := .ty "bool") (by rfl) T.n_bool (by decide +kernel) rfl) pa_nil))) (nomark _)) (pw_or1 (pt_cmpR op_ne (pe_callB call_isi (by rfl) T.n_isinstance (by decide +kernel) (pa_cons (pv 4) (pa_cons (pe_bltn (v := .ty "str") (by rfl) T.n_str (by decide +kernel) rfl) pa_nil))) (pe_callB call_isi (by rfl) T.n_isinstance (by decide +kernel) (pa_cons (pv 5) (pa_cons (pe_bltn (v := .ty "str") (by rfl) T.n_str (by decide +kernel) rfl) pa_nil))) (nomark _))))) (pss_one (ps_ret pe_bl)) pss_nil)
      (pss_cons (ps_if (pt_cmpR op_ne (pe_callB call_isiT (by rfl) T.n_isinstance (by decide +kernel) (pa_cons (pv 4) (pa_cons (pe_tup (pa_cons (pe_bltn (v := .ty "tuple") (by rfl) T.n_tuple (by decide +kernel) rfl) (pa_cons (pe_bltn (v := .ty "list") (by rfl) T.n_list (by decide +kernel) rfl) pa_nil))) pa_nil))) (pe_callB call_isiT (by rfl) T.n_isinstance (by decide +kernel) (pa_cons (pv 5) (pa_cons (pe_tup (pa_cons (pe_bltn (v := .ty "tuple") (by rfl) T.n_tuple (by decide +kernel) rfl) (pa_cons (pe_bltn (v := .ty "list") (by rfl) T.n_list (by decide +kernel) rfl) pa_nil))) pa_nil))) (nomark _)) (pss_one (ps_ret pe_bl)) pss_nil)
      (pss_one (ps_if (pt_val (pe_callB call_isiT (by rfl) T.n_isinstance (by decide +kernel) (pa_cons (pv 4) (pa_cons (pe_tup (pa_cons (pe_bltn (v := .ty "tuple") (by rfl) T.n_tuple (by decide +kernel) rfl) (pa_cons (pe_bltn (v := .ty "list") (by rfl) T.n_list (by decide +kernel) rfl) pa_nil))) pa_nil)))) (pss_cons (ps_if (PW.pt (pw_or (pt_cmpR op_ne (pe_callB call_isi (by rfl) T.n_isinstance (by decide +kernel) (pa_cons (pv 4) (pa_cons (pe_bltn (v := .ty "tuple") (by rfl) T.n_tuple (by decide +kernel) rfl) pa_nil))) (pe_callB call_isi (by rfl) T.n_isinstance (by decide +kernel) (pa_cons (pv 5) (pa_cons (pe_bltn (v := .ty "tuple") (by rfl) T.n_tuple (by decide +kernel) rfl) pa_nil))) (nomark _)) (pw_or1 (pt_cmpR op_ne (pe_callB call_len (by rfl) T.n_len (by decide +kernel) (pa_cons (pv 4) pa_nil)) (pe_callB call_len (by rfl) T.n_len (by decide +kernel) (pa_cons (pv 5) pa_nil)) (nomark _))))) (pss_one (ps_ret pe_bl)) pss_nil)
      (pss_one (ps_expr (pe_bm PySem.F.plainAttrs_list PySem.F.slot_list_extend PySem.F.type_list_extend mt_extend (pv 2) (pa_cons (NetZ.pe_listzip rfl (by rfl) T.n_list (by rfl) T.n_zip (pa_cons (pv 4) (pa_cons (pv 5) pa_nil))) pa_nil))))) (pss_one (ps_if (pt_cmpR op_ne (pv 4) (pv 5) (nomark _)) (pss_one (ps_ret pe_bl)) pss_nil)))))))))
      (pss_one (ps_ret pe_bl)))), ?_⟩
    have hbig := sl_big
    refine ⟨_, rfl, _, rfl, (by show 2 ≤ sizeLine; omega), fun t ht => ⟨(by show 1 ≤ sizeLine; omega), fun p hp => ⟨_, _, rfl, ?_⟩⟩⟩
    have s1 : Same H (upd H t (.tup [v, u])) := same_upd ht
    have np : H p = none := s1.free hp
    have htp : t ≠ p := fun e => by
      rw [e, upd_same] at hp
      cases hp
    refine ⟨WAl H v u d, ⟨_, ⟨p, 0, none, none, [], [.ref t], [d], rfl, Same.own s1 np, np, upd_same, rfl, .cons (by rw [upd_ne htp]; exact upd_same) hv hu hnd .nil, by show 0 + (dsz d + 0) ≤ dsz d; omega, rfl⟩⟩, ?_⟩
    rintro m σ1 H1 ⟨p, i, a, b, pre, ts, ds, rfl, sm, np, hL, hi, hP, hm, rfl⟩
    have hts := hP.len
    refine ⟨_, rfl, _, rfl, _, _, rfl, .inl ⟨_, SqL.of hL, rfl⟩, _, _, rfl, rfl, _, rfl, ?_⟩
    cases hP with
    | nil =>
      rw [show decide ((i : Int) < ((pre ++ ([] : List V)).length : Int)) = false by rw [List.append_nil, hi]; exact decide_eq_false (by omega)]
      exact iteF (q _ sm)
    | @cons t x y d' ts' ds' ht1 hx hy hnd' hP' =>
      have hts' := hP'.len
      rw [show decide ((i : Int) < ((pre ++ V.ref t :: ts').length : Int)) = true by rw [List.length_append, List.length_cons]; exact decide_eq_true (by omega)]
      refine iteT ⟨fun σ' H' => ∃ m', m' < dszs (d' :: ds') ∧ WAl H v u d m' σ' H', fun _ _ h => h, ?_⟩
      have hm2 : i + (dsz d' + dszs ds') ≤ dsz d := hm
      have hpos := dsz_pos d'
      have eg : (pre ++ V.ref t :: ts')[i]? = some (.ref t) := by
        rw [List.getElem?_append_right (by omega), hi, Nat.sub_self]
        rfl
      refine ⟨_, rfl, _, rfl, p, _, _, _, rfl, rfl, SqL.of hL, atI_nat eg, t, _, rfl, .inl (.inl ht1), rfl, _, _, rfl, _, _, rfl, rfl, ?_⟩
      have hx2 := hx.same sm
      have hy2 := hy.same sm
      have ns : ∀ x : V, (!decide (x = x)) = false := fun x => by simp
      refine ⟨_, rfl, _, _, rfl, rfl, x, rfl, x, .ty "bool", _, _, _, rfl, .ty _, hx2.ty, kit_bool d', y, rfl, y, .ty "bool", _, _, _, rfl, .ty _, hy2.ty, kit_bool d', rfl, _, rfl, ?_⟩
      rw [ns]
      refine iteF ⟨x, rfl, x, .ty "str", _, _, _, rfl, .ty _, hx2.ty, kit_str d', y, rfl, y, .ty "str", _, _, _, rfl, .ty _, hy2.ty, kit_str d', rfl, _, rfl, ?_⟩
      rw [ns]
      refine iteF ⟨x, rfl, (by show 2 ≤ sizeLine; omega), fun q1 hq1 => ⟨x, q1, _, _, _, _, rfl, upd_same, cls_tl, (hx2.same (same_upd hq1)).ty, kit_tl d', y, rfl, (by show 2 ≤ sizeLine; omega), fun q2 hq2 => ⟨y, q2, _, _, _, _, rfl, upd_same, cls_tl, ((hy2.same (same_upd hq1)).same (same_upd hq2)).ty, kit_tl d', rfl, _, rfl, ?_⟩⟩⟩
      rw [ns]
      have s5 := (same_upd (o := .tup [.ty "tuple", .ty "list"]) hq1).trans (same_upd (o := .tup [.ty "tuple", .ty "list"]) hq2)
      generalize upd (upd H1 q1 (.tup [.ty "tuple", .ty "list"])) q2 (.tup [.ty "tuple", .ty "list"]) = H2 at s5
      refine iteF ⟨x, rfl, (by show 2 ≤ sizeLine; omega), fun q3 hq3 => ⟨x, q3, _, _, _, _, rfl, upd_same, cls_tl, ((hx2.same s5).same (same_upd hq3)).ty, kit_tl d', _, rfl, ?_⟩⟩
      replace s5 := s5.trans (same_upd (o := .tup [.ty "tuple", .ty "list"]) hq3)
      generalize upd H2 q3 (.tup [.ty "tuple", .ty "list"]) = H3 at s5
      have sm3 := sm.trans s5
      have hL3 := s5 _ _ hL
      have hP3 := hP'.tk (.of s5)
      replace hx2 := hx.same sm3
      replace hy2 := hy.same sm3
      have flat : ∀ (a b : Option V), isTup d' = false → isLst d' = false → x = y → scal x y = true → ∃ m', m' < dszs (d' :: ds') ∧ WAl H v u d m' [some v, some u, some (.ref p), some (.int ((i : Int) + 1)), some x, some y] H3 := fun _ _ _ _ _ _ =>
        ⟨dszs ds', by show dszs ds' < dsz d' + dszs ds'; omega, p, i + 1, _, _, pre ++ [V.ref t], ts', ds', rfl, sm3, np, by rw [List.append_assoc]; exact hL3, by rw [List.length_append, hi]; rfl, hP3, by omega, rfl⟩
      cases d' with
      | tuple cs =>
        obtain ⟨a1, xs1, rfl, ha1, hA1⟩ : ∃ a xs, x = .ref a ∧ H a = some (.tup xs) ∧ RpA H xs cs := by
          cases hx with
          | tup e1 e2 => exact ⟨_, _, rfl, e1, e2⟩
        obtain ⟨a2, xs2, rfl, ha2, hA2⟩ : ∃ a xs, y = .ref a ∧ H a = some (.tup xs) ∧ RpA H xs cs := by
          cases hy with
          | tup e1 e2 => exact ⟨_, _, rfl, e1, e2⟩
        have l1 := hA1.len
        have l2 := hA2.len
        have hcl := dszs_len cs
        have hdl := dszs_len ds'
        have hcs : i + (1 + dszs cs + dszs ds') ≤ dsz d := hm
        have hk' : i + ds'.length + 1 = (pre ++ V.ref t :: ts').length := by
          rw [List.length_append, List.length_cons, hts']
          omega
        have h3a := sm3 _ _ ha1
        have h3b := sm3 _ _ ha2
        refine iteT ⟨_, rfl, .ref a1, .ty "tuple", _, _, _, rfl, .ty _, hx2.ty, kit_tup _, _, rfl, .ref a2, .ty "tuple", _, _, _, rfl, .ty _, hy2.ty, kit_tup _, rfl, _, rfl, ?_⟩
        rw [show (!decide (V.bl (isTup (.tuple cs)) = V.bl (isTup (.tuple cs)))) = false by simp]
        refine iteF ⟨_, rfl, _, _, rfl, .inr ⟨_, .inl (.inl h3a), rfl⟩, _, rfl, _, _, rfl, .inr ⟨_, .inl (.inl h3b), rfl⟩, rfl, _, rfl, ?_⟩
        rw [show (!decide (V.int (xs1.length : Int) = V.int (xs2.length : Int))) = false by rw [l1, l2]; simp]
        refine iteF ⟨_, rfl, .inl ⟨rfl, _, SqL.of hL3⟩, _, rfl, _, rfl, a1, a2, xs1, xs2, rfl, .inr ⟨.inl (.inl h3a), .inl (.inl h3b)⟩, by rw [l1, l2], by omega, fun H4 p4 zs s4 h4 hz4 hp4 => ⟨p, p4, _, _, rfl, rfl, s4 _ _ hL3, h4, ?_, ?_⟩⟩
        · rw [← hk', List.length_map, hz4, l1]
          omega
        refine ⟨dszs (ds' ++ cs), ?_, p, i + 1, _, _, pre ++ [V.ref t], ts' ++ zs.map V.ref, ds' ++ cs, rfl, Same.own (sm3.trans s4) np, np, ?_, ?_, ?_, ?_, rfl⟩
        · rw [dszs_app]
          show dszs ds' + dszs cs < 1 + dszs cs + dszs ds'
          omega
        · rw [upd_same, List.append_assoc, List.append_assoc]
          rfl
        · rw [List.length_append, hi]
          rfl
        · exact ((hP3.tk (.of s4)).app (pr2_of hA1 hA2 hnd' hp4 (by rw [hz4, l1]))).tk (.lst (s4 _ _ hL3))
        · rw [dszs_app]
          omega
      | list cs =>
        obtain ⟨a1, xs1, rfl, ha1, hA1⟩ : ∃ a xs, x = .ref a ∧ H a = some (.lst xs) ∧ RpA H xs cs := by
          cases hx with
          | lst e1 e2 => exact ⟨_, _, rfl, e1, e2⟩
        obtain ⟨a2, xs2, rfl, ha2, hA2⟩ : ∃ a xs, y = .ref a ∧ H a = some (.lst xs) ∧ RpA H xs cs := by
          cases hy with
          | lst e1 e2 => exact ⟨_, _, rfl, e1, e2⟩
        have l1 := hA1.len
        have l2 := hA2.len
        have hcl := dszs_len cs
        have hdl := dszs_len ds'
        have hcs : i + (1 + dszs cs + dszs ds') ≤ dsz d := hm
        have hk' : i + ds'.length + 1 = (pre ++ V.ref t :: ts').length := by
          rw [List.length_append, List.length_cons, hts']
          omega
        have h3a := sm3 _ _ ha1
        have h3b := sm3 _ _ ha2
        refine iteT ⟨_, rfl, .ref a1, .ty "tuple", _, _, _, rfl, .ty _, hx2.ty, kit_tup _, _, rfl, .ref a2, .ty "tuple", _, _, _, rfl, .ty _, hy2.ty, kit_tup _, rfl, _, rfl, ?_⟩
        rw [show (!decide (V.bl (isTup (.list cs)) = V.bl (isTup (.list cs)))) = false by simp]
        refine iteF ⟨_, rfl, _, _, rfl, .inl ⟨_, SqL.of h3a, rfl⟩, _, rfl, _, _, rfl, .inl ⟨_, SqL.of h3b, rfl⟩, rfl, _, rfl, ?_⟩
        rw [show (!decide (V.int (xs1.length : Int) = V.int (xs2.length : Int))) = false by rw [l1, l2]; simp]
        refine iteF ⟨_, rfl, .inl ⟨rfl, _, SqL.of hL3⟩, _, rfl, _, rfl, a1, a2, xs1, xs2, rfl, .inl ⟨SqL.of h3a, SqL.of h3b⟩, by rw [l1, l2], by omega, fun H4 p4 zs s4 h4 hz4 hp4 => ⟨p, p4, _, _, rfl, rfl, s4 _ _ hL3, h4, ?_, ?_⟩⟩
        · rw [← hk', List.length_map, hz4, l1]
          omega
        refine ⟨dszs (ds' ++ cs), ?_, p, i + 1, _, _, pre ++ [V.ref t], ts' ++ zs.map V.ref, ds' ++ cs, rfl, Same.own (sm3.trans s4) np, np, ?_, ?_, ?_, ?_, rfl⟩
        · rw [dszs_app]
          show dszs ds' + dszs cs < 1 + dszs cs + dszs ds'
          omega
        · rw [upd_same, List.append_assoc, List.append_assoc]
          rfl
        · rw [List.length_append, hi]
          rfl
        · exact ((hP3.tk (.of s4)).app (pr2_of hA1 hA2 hnd' hp4 (by rw [hz4, l1]))).tk (.lst (s4 _ _ hL3))
        · rw [dszs_app]
          omega
      | none =>
        cases hx with
        | non =>
        cases hy with
        | non =>
        refine iteF ⟨_, rfl, _, rfl, rfl, _, rfl, ?_⟩
        rw [ns]
        exact iteF (flat none none rfl rfl rfl rfl)
      | bool b0 =>
        cases hx with
        | bl _ =>
        cases hy with
        | bl _ =>
        refine iteF ⟨_, rfl, _, rfl, rfl, _, rfl, ?_⟩
        rw [ns]
        exact iteF (flat none none rfl rfl rfl rfl)
      | int n0 =>
        cases hx with
        | int _ =>
        cases hy with
        | int _ =>
        refine iteF ⟨_, rfl, _, rfl, rfl, _, rfl, ?_⟩
        rw [ns]
        exact iteF (flat none none rfl rfl rfl rfl)
      | str z0 =>
        cases hx with
        | str _ =>
        cases hy with
        | str _ =>
        refine iteF ⟨_, rfl, _, rfl, rfl, _, rfl, ?_⟩
        rw [ns]
        exact iteF (flat none none rfl rfl rfl rfl)
      | dict _ => cases hnd'
end
end Net
namespace Net
open PySem PySem.Spec PyProof.Rows L2 NetR
theorem RpA.mem {H : Hp} : ∀ {ds : List PyData} {vs : List V} {v : V}, RpA H vs ds → v ∈ vs → ∃ d ∈ ds, Rp H v d
  | [], _, _, h, e => by
    cases h
    cases e
  | d :: ds, _, v, h, e => by
    cases h with
    | cons a b =>
      rcases List.mem_cons.mp e with q | q
      · subst q
        exact ⟨d, List.mem_cons_self, a⟩
      · obtain ⟨d', h1, h2⟩ := RpA.mem b q
        exact ⟨d', List.mem_cons_of_mem _ h1, h2⟩
theorem bag_ne {H : Hp} {b p : Addr} {xs : List V} (hB : BagI H b) (h : H p = some (.tup xs)) : p ≠ b := fun e => by
  obtain ⟨_, _, _, _, _, hb, _⟩ := hB
  rw [e, hb] at h
  cases h
theorem bag_fresh {H : Hp} {b p : Addr} (hB : BagI H b) (h : H p = none) : p ≠ b := fun e => by
  obtain ⟨_, _, _, _, _, hb, _⟩ := hB
  rw [e, hb] at h
  cases h
theorem rp_tup {H : Hp} {b p : Addr} {xs : List V} {ds : List PyData} (hB : BagI H b) (h : H p = some (.tup xs)) (hA : RpA (dlt H b) xs ds) : Rp (dlt H b) (.ref p) (.tuple ds) := .tup (dlt_at h (bag_ne hB h)) hA
mutual
def plD : PyData → Bool
  | .int _ => true
  | .str _ => true
  | .tuple ds => plDs ds
  | _ => false
def plDs : List PyData → Bool
  | [] => true
  | d :: ds => plD d && plDs ds
end
theorem doks_all : ∀ {ds : List PyData}, doks ds = true ↔ ∀ d ∈ ds, dok d = true
  | [] => ⟨fun _ d h => (nomatch h), fun _ => rfl⟩
  | d :: ds => by
    rw [doks, Bool.and_eq_true, doks_all (ds := ds), List.forall_mem_cons]
theorem ddep_mem : ∀ {ds : List PyData} {d : PyData}, d ∈ ds → ddep d ≤ ddeps ds
  | d' :: ds, d, h => by
    rw [ddeps]
    rcases List.mem_cons.mp h with e | e
    · rw [e]
      exact Nat.le_max_left _ _
    · exact Nat.le_trans (ddep_mem e) (Nat.le_max_right _ _)
theorem ddeps_le : ∀ {ds : List PyData} {n : Nat}, (∀ d ∈ ds, ddep d ≤ n) → ddeps ds ≤ n
  | [], _, _ => Nat.zero_le _
  | d :: ds, n, h => by
    rw [ddeps]
    exact Nat.max_le.mpr ⟨h d List.mem_cons_self, ddeps_le fun y hy => h y (List.mem_cons_of_mem _ hy)⟩
theorem cut_dsz : ∀ {ds : List PyData} {i : Nat} {di : PyData}, ds[i]? = some di → dszs (ds.take i) + (dsz di + dszs (ds.drop (i + 1))) = dszs ds ∧ dszs (ds.drop i) = dsz di + dszs (ds.drop (i + 1))
  | [], _, _, h => by simp at h
  | d :: ds, 0, di, h => by
    cases (Option.some.inj h)
    exact ⟨by show 0 + (dsz d + dszs ds) = dsz d + dszs ds; omega, rfl⟩
  | d :: ds, i + 1, di, h => by
    obtain ⟨h1, h2⟩ := cut_dsz (ds := ds) (i := i) (di := di) h
    refine ⟨?_, h2⟩
    show dsz d + dszs (ds.take i) + (dsz di + dszs (ds.drop (i + 1))) = dsz d + dszs ds
    omega
theorem plDs_get : ∀ {ds : List PyData} {i : Nat} {d : PyData}, plDs ds = true → ds[i]? = some d → plD d = true
  | [], _, _, _, h => by simp at h
  | d' :: ds, 0, d, h, e => by
    cases (Option.some.inj e)
    rw [plDs, Bool.and_eq_true] at h
    exact h.1
  | d' :: ds, i + 1, d, h, e => by
    rw [plDs, Bool.and_eq_true] at h
    exact plDs_get (i := i) h.2 e
mutual
def dtx : PyData → Bool
  | .str z => decide (z.length ≤ 10)
  | .list ds => dtxs ds
  | .tuple ds => dtxs ds
  | _ => true
def dtxs : List PyData → Bool
  | [] => true
  | d :: ds => dtx d && dtxs ds
end
mutual
theorem enc_short : ∀ d : PyData, dtx d = true → (enc d).length ≤ 13 * dsz d
  | .tuple ds, h => by
    have := encs_short ds h
    rw [enc, dsz, List.length_cons, List.length_cons, List.length_cons]
    omega
  | .str s, h => by
    have h1 : s.length ≤ 10 := of_decide_eq_true h
    have h2 : s.cps.toList.length = s.length := Array.length_toList
    show (encS s).length ≤ 13 * 1
    rw [encS, List.length_cons, List.length_cons, List.length_cons, List.length_map, h2]
    omega
  | .int n, h => by
    show 3 ≤ 13 * 1
    omega
  | .none, _ => Nat.zero_le _
  | .bool _, _ => Nat.zero_le _
  | .list _, _ => Nat.zero_le _
  | .dict _, _ => Nat.zero_le _
theorem encs_short : ∀ ds : List PyData, dtxs ds = true → (encs ds).length ≤ 13 * dszs ds
  | [], _ => Nat.zero_le _
  | d :: ds, h => by
    rw [dtxs, Bool.and_eq_true] at h
    have h1 := enc_short d h.1
    have h2 := encs_short ds h.2
    rw [encs, dszs, List.length_append]
    omega
end
theorem rp_list {H : Hp} {p : PyData → Prop} : ∀ {us : List V}, (∀ u ∈ us, ∃ d, p d ∧ Rp H u d) → ∃ es, RpA H us es ∧ ∀ d ∈ es, p d
  | [], _ => ⟨[], .nil, fun d h => (nomatch h)⟩
  | u :: us, h => by
    obtain ⟨d, h1, h2⟩ := h u List.mem_cons_self
    obtain ⟨es, h3, h4⟩ := rp_list (us := us) fun v hv => h v (List.mem_cons_of_mem _ hv)
    exact ⟨d :: es, .cons h2 h3, fun e he => (List.mem_cons.mp he).elim (fun q => by rw [q]; exact h1) (h4 e)⟩
end Net
namespace Net
open PySem PySem.Spec PyProof.Rows L2 NetR
theorem sum_lt (bs : List Int) : 0 ≤ (wl 1 bs).sum % 65521 ∧ (wl 1 bs).sum % 65521 < 65521 := ⟨Int.emod_nonneg _ (by decide), Int.emod_lt_of_pos _ (by decide)⟩
theorem byteB_iff {n : Int} : byteB n = true ↔ 0 ≤ n ∧ n ≤ 255 := by
  unfold byteB
  simp
theorem page_bytes {bs : List Int} (h : bs.all byteB = true) (hl : bs.length ≤ 61) : (pageOf bs).all byteB = true := by
  have h1 := sum_lt (restOf bs)
  unfold pageOf sumB
  rw [List.all_append, List.all_cons, List.all_cons, List.all_nil]
  have e1 : byteB ((wl 1 (restOf bs)).sum % 65521 / 256) = true := byteB_iff.mpr ⟨by omega, by omega⟩
  have e2 : byteB ((wl 1 (restOf bs)).sum % 65521 % 256) = true := byteB_iff.mpr ⟨by omega, by omega⟩
  rw [e1, e2]
  unfold restOf
  rw [List.all_cons, List.all_append, h]
  have e3 : byteB (bs.length : Int) = true := byteB_iff.mpr ⟨by omega, by omega⟩
  rw [e3]
  simp [byteB]
theorem page_take (bs : List Int) : (pageOf bs).take 2 = sumB (restOf bs) := rfl
theorem page_drop (bs : List Int) : (pageOf bs).drop 2 = restOf bs := rfl
theorem page_g2 (bs : List Int) : gB (pageOf bs) 2 = (bs.length : Int) := rfl
theorem pfD_page {bs : List Int} (hb : bs.all byteB = true) (hl : bs.length = 64) : pfD (.tuple (bs.map .int)) = pfault bs := by
  unfold pfD
  rw [intsOf_t, areBytes_int, hb]
  have e : isTupOf (.tuple (bs.map PyData.int)) 64 = true := by
    show decide ((((bs.map PyData.int).length : Nat) : Int) = 64) = true
    rw [List.length_map, hl]
    rfl
  rw [e]
  rfl
theorem page_ok {bs : List Int} (h : bs.all byteB = true) (hl : bs.length ≤ 61) : pfD (.tuple ((pageOf bs).map .int)) = none := by
  rw [pfD_page (page_bytes h hl) (pageOf_len hl)]
  unfold pfault
  rw [page_take, page_drop, page_g2, if_neg (by simp), if_neg (by omega)]
  have e : (List.range (64 - (3 + (bs.length : Int))).toNat).filter (fun j => !decide (gB (pageOf bs) ((3 + (bs.length : Int)).toNat + j) = 0)) = [] := by
    rw [List.filter_eq_nil_iff]
    intro j hj
    have hj2 := List.mem_range.mp hj
    have e1 : (3 + (bs.length : Int)).toNat + j = bs.length + j + 3 := by omega
    have e2 : gB (pageOf bs) (bs.length + j + 3) = 0 := by
      show (bs ++ List.replicate (61 - bs.length) 0).getD (bs.length + j) 0 = 0
      rw [List.getD_eq_getElem?_getD, List.getElem?_append_right (Nat.le_add_right _ _), Nat.add_sub_cancel_left, List.getElem?_replicate]
      split <;> rfl
    rw [e1, e2]
    simp
  rw [e]
theorem page_body {bs : List Int} (hl : bs.length ≤ 61) : ((pageOf bs).drop 3).take (gB (pageOf bs) 2).toNat = bs := by
  rw [page_g2]
  show (bs ++ List.replicate (61 - bs.length) 0).take (bs.length : Int).toNat = bs
  rw [Int.toNat_natCast, List.take_left]
theorem wl_set : ∀ (l : List Int) (k : Int) (i : Nat) (x old : Int), l[i]? = some old → (wl k (l.take i ++ [x] ++ l.drop (i + 1))).sum = (wl k l).sum + (k + i) * (x - old)
  | [], _, _, _, _, h => by simp at h
  | c :: r, k, 0, x, old, h => by
    cases (Option.some.inj h)
    show k * x + (wl (k + 1) r).sum = k * c + (wl (k + 1) r).sum + (k + (0 : Nat)) * (x - c)
    rw [Int.mul_sub]
    have : (k + ((0 : Nat) : Int)) = k := by omega
    rw [this]
    omega
  | c :: r, k, i + 1, x, old, h => by
    have ih := wl_set r (k + 1) i x old h
    show k * c + (wl (k + 1) (r.take i ++ [x] ++ r.drop (i + 1))).sum = k * c + (wl (k + 1) r).sum + (k + ((i + 1 : Nat) : Int)) * (x - old)
    rw [ih, show k + 1 + (i : Int) = k + ((i + 1 : Nat) : Int) by omega]
    omega
theorem sumB_inj {l m : List Int} (h : sumB l = sumB m) : (wl 1 l).sum % 65521 = (wl 1 m).sum % 65521 := by
  unfold sumB at h
  injection h with h1 h2
  injection h2 with h2 _
  have a := sum_lt l
  have b := sum_lt m
  omega
theorem page_bent {bs : List Int} (h : bs.all byteB = true) (hl : bs.length ≤ 61) {k : Nat} {x old : Int} (ho : (pageOf bs)[k]? = some old) (h0 : 0 ≤ x) (h1 : x ≤ 255) (hne : x ≠ old) :
    pfD (.tuple (((pageOf bs).take k ++ [x] ++ (pageOf bs).drop (k + 1)).map .int)) = some ((0 : Int), ("sum" : Str)) := by
  have hlen := pageOf_len hl
  have hk : k < 64 := by
    have := (List.getElem?_eq_some_iff.mp ho).1
    omega
  have hall := page_bytes h hl
  have hold := all_byte hall old (List.mem_of_getElem? ho)
  rw [pfD_page]
  · unfold pfault
    rw [if_pos]
    match k, ho with
    | 0, ho =>
      intro e
      have e : [x, (wl 1 (restOf bs)).sum % 65521 % 256] = sumB (restOf bs) := e
      unfold sumB at e
      injection e with e _
      have ho : some ((wl 1 (restOf bs)).sum % 65521 / 256) = some old := ho
      injection ho with ho
      omega
    | 1, ho =>
      intro e
      have e : [(wl 1 (restOf bs)).sum % 65521 / 256, x] = sumB (restOf bs) := e
      unfold sumB at e
      injection e with _ e
      injection e with e _
      have ho : some ((wl 1 (restOf bs)).sum % 65521 % 256) = some old := ho
      injection ho with ho
      omega
    | i + 2, ho =>
      intro e
      have ho : (restOf bs)[i]? = some old := ho
      have e : sumB (restOf bs) = sumB ((restOf bs).take i ++ [x] ++ (restOf bs).drop (i + 1)) := e
      have e2 := sumB_inj e
      rw [wl_set _ 1 i x old ho] at e2
      have d1 : (1 + (i : Int)) * (x - old) ≠ 0 := Int.mul_ne_zero (by omega) (by omega)
      have d2 : (1 + (i : Int)) * (x - old) ≤ (1 + (i : Int)) * 255 := Int.mul_le_mul_of_nonneg_left (by omega) (by omega)
      have d3 : (1 + (i : Int)) * (-255) ≤ (1 + (i : Int)) * (x - old) := Int.mul_le_mul_of_nonneg_left (by omega) (by omega)
      generalize (1 + (i : Int)) * (x - old) = D at e2 d1 d2 d3
      omega
  · rw [List.all_append, List.all_append]
    have t1 : ((pageOf bs).take k).all byteB = true := List.all_eq_true.mpr fun y hy => List.all_eq_true.mp hall y (List.mem_of_mem_take hy)
    have t2 : ((pageOf bs).drop (k + 1)).all byteB = true := List.all_eq_true.mpr fun y hy => List.all_eq_true.mp hall y (List.mem_of_mem_drop hy)
    have t3 : byteB x = true := byteB_iff.mpr ⟨h0, h1⟩
    rw [t1, t2, List.all_cons, t3]
    rfl
  · rw [List.length_append, List.length_append, List.length_take, List.length_drop, hlen]
    show min k 64 + 1 + (64 - (k + 1)) = 64
    omega
theorem pfD_len2 {bs : List Int} (h : bs.length ≠ 64) : pfD (.tuple (bs.map .int)) = some ((0 : Int), ("size" : Str)) := by
  unfold pfD
  have e : isTupOf (.tuple (bs.map PyData.int)) 64 = false := by
    show decide ((((bs.map PyData.int).length : Nat) : Int) = 64) = false
    rw [List.length_map]
    exact decide_eq_false (by omega)
  rw [e, Bool.and_false, if_neg Bool.false_ne_true]
theorem pfD_byte {bs : List Int} {x : Int} (hm : x ∈ bs) (hx : byteB x = false) : pfD (.tuple (bs.map .int)) = some ((0 : Int), ("size" : Str)) := by
  unfold pfD
  have e : areBytes (.tuple (bs.map PyData.int)) = false := by
    rw [areBytes_int]
    exact List.all_eq_false.mpr ⟨x, hm, by rw [hx]; exact Bool.false_ne_true⟩
  rw [e, Bool.false_and, if_neg Bool.false_ne_true]
theorem pfD_list (ds : List PyData) : pfD (.list ds) = some ((0 : Int), ("size" : Str)) := rfl
theorem pfD_none : pfD .none = some ((0 : Int), ("size" : Str)) := rfl
end Net
namespace NetR
open PySem PySem.Spec PyProof.Rows L2
abbrev Cl := Value × Option Nat × (Addr → Value → Option Addr → TS)
def endsI (D : Ends) (i : Nat) : Ends := { nx := fun σ' H' => D.nx (σ'.set i none) H', rt := D.rt, bk := fun σ' H' => D.bk (σ'.set i none) H', ct := fun σ' H' => D.ct (σ'.set i none) H' }
def wManyA (K : PySem.W.Frag) (Wout : WX) (D : Ends) : List Cl → WX
  | [] => Wout
  | (c, none, ts) :: r => fun cls d σ H => ∃ b, PySem.W.exmOne K cls c = some b ∧ (b = true → ∀ a, H a = none → ts a cls d D σ H) ∧ (b = false → wManyA K Wout D r cls d σ H)
  | (c, some i, ts) :: r => fun cls d σ H => ∃ b, PySem.W.exmOne K cls c = some b ∧ (b = true → ∀ a, H a = none → ts a cls d (endsI D i) (σ.set i (some (.ref a))) H) ∧ (b = false → wManyA K Wout D r cls d σ H)
inductive HdsA (X : Cx) : List ExceptHandler → List Cl → Prop
  | nil : HdsA X [] []
  | cons {x : Str} {c : Value} {ts : Addr → Value → Option Addr → TS} {b₀ : Stmt} {suite : List Stmt} {np pos' : Pos} {hds : List ExceptHandler} {l : List Cl} (hc : Names X x c)
      (hsu : ∀ (a : Addr) (oe : Obj) (cls : Value) (d : Option Addr) (pn : List (Addr × Obj)), Zc cls d oe → (∃ vs, oe.data = .fields vs) → PSs (X.suite a ((a, oe) :: pn)) (b₀ :: suite) (ts a cls d)) (r : HdsA X hds l) :
      HdsA X (.ExceptHandler (some (.Name x np)) none (b₀ :: suite) pos' :: hds) ((c, none, ts) :: l)
  | as {x n : Str} {i : Nat} {c : Value} {ts : Addr → Value → Option Addr → TS} {b₀ : Stmt} {suite : List Stmt} {np pos' : Pos} {hds : List ExceptHandler} {l : List Cl} (hN : X.N.Nodup) (hi : X.N[i]? = some n) (hln : X.env.kindOf n = some .local) (hc : Names X x c)
      (hsu : ∀ (a : Addr) (oe : Obj) (cls : Value) (d : Option Addr) (pn : List (Addr × Obj)), Zc cls d oe → (∃ vs, oe.data = .fields vs) → PSs (X.suite a ((a, oe) :: pn)) (b₀ :: suite) (ts a cls d)) (r : HdsA X hds l) :
      HdsA X (.ExceptHandler (some (.Name x np)) (some n) (b₀ :: suite) pos' :: hds) ((c, some i, ts) :: l)
section
variable {X : Cx} {body : List Stmt} {h₀ : ExceptHandler} {hds : List ExceptHandler} {l : List Cl} {pos : Pos} {tb : WX → TS} {Wout : WX}
theorem ps_try_manyA (hs : X.stack = X.env :: X.outer) (hf : X.env.frame = some X.env.locals) (tk : Takes X Wout)
    (hb : ∀ (W : WX) (pn : List (Addr × Obj)) (xe : Value → Shared → Prop), Takes (X.tr pn xe) W → PassesOwn (model X.prog X.w) X.A X.env xe → PSs (X.tr pn xe) body (tb W))
    (hh : HdsA X (h₀ :: hds) l) : PS X (.Try body (h₀ :: hds) [] [] pos) (fun D σ H => tb (wManyA X.K Wout D l) D σ H) := by
  refine ⟨fun pins s σ H D I h => ?_⟩
  have ok := I.ok
  have hfr : X.A.frames = some (X.env :: X.outer) := by rw [ok.frames, hs]
  refine wpAny_Try_except ?_
  refine wpAny_mono ((hb (wManyA X.K Wout D l) (X.pn ++ pins) (fun e s₁ => wpAny (model X.prog X.w) X.A (noteFrame e X.env) (fun _ s₂ => wpAny (model X.prog X.w) X.A (setFlight e none) (fun _ s₃ =>
    wpAny (model X.prog X.w) X.A (handleBy e X.env (h₀ :: hds)) (SP X pins D) X.xe s₃) X.xe s₂) X.xe s₁) (fun u s' xx => ?_) PassesOwn.looking).run [] s σ H D (I.toTry _) h) (fun f s1 hsp => ?_) (fun e s1 he => he)
  · -- the catch
    obtain ⟨a, B, sI, pins', σ', H', cls, d, rfl, J', nb, up, sky, na, os, ag, w⟩ := xx
    have J : Inv X pins σ' H' sI := J'.ofTry ok
    have sky' : Sky B (X.env :: X.outer) a (Zc cls d) X.env.locals s'.heap := by rw [← hs]; exact sky
    show wpAny (model X.prog X.w) X.A (noteFrame (.ref a) X.env) _ _ _
    refine Sky.land Zc.steady hfr hf sky' fun h3 fl3 up3 => ?_
    have J3 : Inv X pins σ' H' { s' with heap := h3 } := J.landed nb fl3.1 (up.trans up3) os ag
    obtain ⟨oe3, vs3, he3, hz3, hd3⟩ := fl3.there
    have notFr : ∀ {h : Heap} {o : Obj} {vs : Array Value}, h.FunFrames B (X.env :: X.outer) → h.get? a = some o → o.data = .fields vs → a ∉ frs (X.env :: X.outer) := fun {h o vs} ff e dd hm => by
      obtain ⟨_, o', e', hnf⟩ := ff.mem hm
      rw [e] at e'; cases e'
      exact hnf _ dd
    have nfr := notFr fl3.2.2.1 he3 hd3
    have nL : a ≠ X.env.locals := fun z => nfr (List.mem_filterMap.mpr ⟨X.env, List.mem_cons_self, by rw [hf, z]⟩)
    have nF : a ∉ X.fs := fun hm => by
      obtain ⟨e, he, q⟩ := List.mem_filterMap.mp hm
      exact nfr (List.mem_filterMap.mpr ⟨e, List.mem_cons_of_mem _ he, q⟩)
    have S3 := J3.suite he3 hd3 na nL nF
    have go : ∀ {hds' : List ExceptHandler} {l' : List Cl}, HdsA X hds' l' → wManyA X.K Wout D l' cls d σ' H' →
        wpAny (model X.prog X.w) X.A (handleBy (.ref a) X.env hds') (SP X pins D) X.xe { s' with heap := h3 } := by
      intro hds' l' hk
      induction hk with
      | nil =>
        intro w
        refine wpAny_handleBy_nil ?_
        obtain ⟨k1, k2, k3, oe, vs, T, oT, ts', he, hz, hd, h1, hr⟩ := id fl3
        unfold PySem.passOn
        refine wpAny_bind (wpAny_field he hd h1 ?_)
        rw [if_neg (show ¬ ((Value.ref T == Value.none) = true) from by simp)]
        have fin : wpAny (model X.prog X.w) X.A (setFlight (.ref a) X.env.frame) (fun _ s4 => wpAny (model X.prog X.w) X.A (throw (.ref a) : Sem Flow) (SP X pins D) X.xe s4) X.xe { s' with heap := h3 } := by
          rw [hf]
          refine HandSPX.setFlight_upZ fl3 fun h4 hh4 up4 => wpAny_throw (tk _ _ ?_)
          exact ⟨a, B, sI, pins, σ', H', cls, d, rfl, J, nb, (up.trans up3).trans up4, .inr (.inr (by rw [hs]; exact hh4)), na, os, ag, w⟩
        first
          | exact wpAny_bind (wpAny_pure (wpAny_bind fin))
          | exact wpAny_bind fin
      | @cons x c ts b₀ suite np pos' hds2 l2 hc hsu r ih =>
        intro w
        obtain ⟨b, hb1, hyes, hno⟩ := w
        refine wpAny_handleBy_cons (codeAny_handlers_test ?_) (by intro q; cases q)
        have LT : PySem.W.Looks (model X.prog X.w) h3 (typeOf (.ref a)) cls := fun A Q E s k q => wpAny_typeOf_ref (k _ _ he3) (by rw [hz3.1]; exact q)
        have LM := PySem.W.exm_one (M := model X.prog X.w) (J3.kIn) LT hb1
        have test : ∀ {Q : Value → Shared → Prop} {E : Value → Shared → Prop}, Q c { s' with heap := h3 } → wpAny (model X.prog X.w) (X.A.mark (some (.ref a))) (eval (.Name x np) X.env) Q E { s' with heap := h3 } := fun {Q E} q => by
          obtain ⟨hg, hdbg, hm | ⟨hm, hv, hnn⟩⟩ := hc
          · exact ld_glob (X := X.suite a ((a, oe3) :: (X.pn ++ pins))) S3 hg hm q hdbg
          · exact ld_blt (X := X.suite a ((a, oe3) :: (X.pn ++ pins))) S3 hg hm hv q hnn hdbg
        refine test (LM.here ?_)
        cases b with
        | true =>
          refine codeAny_handlers_suite ?_
          refine HandSPX.lands_againZ fl3 fun h4 fl4 up4 => ?_
          have J4 : Inv X pins σ' H' { s' with heap := h4 } := J.landed nb fl4.1 ((up.trans up3).trans up4) os ag
          obtain ⟨oe4, vs4, he4, hz4, hd4⟩ := fl4.there
          have S4 := J4.suite he4 hd4 na nL nF
          refine wpAny_mono ((hsu a oe4 cls d (X.pn ++ pins) hz4 ⟨_, hd4⟩).run [] _ _ H' _ S4 (hyes rfl a na)) (fun f s6 hsp => ?_) (fun _ _ z => False.elim z)
          cases f with
          | next =>
            obtain ⟨σ6, H6, S6, q6⟩ := hsp
            exact ⟨_, _, S6.unsuite ok, q6⟩
          | brk =>
            obtain ⟨σ6, H6, S6, q6⟩ := hsp
            exact ⟨_, _, S6.unsuite ok, q6⟩
          | cont =>
            obtain ⟨σ6, H6, S6, q6⟩ := hsp
            exact ⟨_, _, S6.unsuite ok, q6⟩
          | ret u =>
            obtain ⟨v6, σ6, H6, S6, r6, q6⟩ := hsp
            exact ⟨_, _, _, S6.unsuite ok, r6, q6⟩
        | false =>
          show wpAny _ X.A (handleBy (.ref a) X.env hds2) _ _ _
          exact ih (hno rfl)
      | @as x n i c ts b₀ suite np pos' hds2 l2 hN hi hln hc hsu r ih =>
        intro w
        obtain ⟨b, hb1, hyes, hno⟩ := w
        have hloc : Loc X.env.scope n := .inl hln
        refine wpAny_handleBy_cons (codeAny_handlers_test ?_) (by intro q; cases q)
        have LT : PySem.W.Looks (model X.prog X.w) h3 (typeOf (.ref a)) cls := fun A Q E s k q => wpAny_typeOf_ref (k _ _ he3) (by rw [hz3.1]; exact q)
        have LM := PySem.W.exm_one (M := model X.prog X.w) (J3.kIn) LT hb1
        have test : ∀ {Q : Value → Shared → Prop} {E : Value → Shared → Prop}, Q c { s' with heap := h3 } → wpAny (model X.prog X.w) (X.A.mark (some (.ref a))) (eval (.Name x np) X.env) Q E { s' with heap := h3 } := fun {Q E} q => by
          obtain ⟨hg, hdbg, hm | ⟨hm, hv, hnn⟩⟩ := hc
          · exact ld_glob (X := X.suite a ((a, oe3) :: (X.pn ++ pins))) S3 hg hm q hdbg
          · exact ld_blt (X := X.suite a ((a, oe3) :: (X.pn ++ pins))) S3 hg hm hv q hnn hdbg
        refine test (LM.here ?_)
        cases b with
        | true =>
          refine codeAny_handlers_suite_as ?_
          refine HandSPX.lands_againZ fl3 fun h4 fl4 up4 => ?_
          have J4 : Inv X pins σ' H' { s' with heap := h4 } := J.landed nb fl4.1 ((up.trans up3).trans up4) os ag
          obtain ⟨oe4, vs4, he4, hz4, hd4⟩ := fl4.there
          have S4 := J4.suite he4 hd4 na nL nF
          refine store_ok (X := X.suite a ((a, oe4) :: (X.pn ++ pins))) (v := .ref a) S4 hN hi hloc rfl (fun s5 S5 => ?_) (.inr hln)
          refine wpAny_mono ((hsu a oe4 cls d (X.pn ++ pins) hz4 ⟨_, hd4⟩).run [] s5 _ H' _ S5 (hyes rfl a na)) (fun f s6 hsp => ?_) (fun _ _ z => False.elim z)
          have end_ : ∀ {σ6 : L2.St} {H6 : Hp} {Q : Shared → Prop}, Inv (X.suite a ((a, oe4) :: (X.pn ++ pins))) [] σ6 H6 s6 → (∀ s7, Inv X pins (σ6.set i none) H6 s7 → Q s7) →
              wpAny (model X.prog X.w) X.A (do bindName X.env n .none; unbindBehindTheSuite X.env n pos') (fun _ s7 => Q s7) X.xe s6 := fun {σ6 H6 Q} S6 hq => gone_ok (S6.unsuite ok) hN hi hln hq
          cases f with
          | next =>
            obtain ⟨σ6, H6, S6, q6⟩ := hsp
            exact end_ S6 fun s7 J7 => ⟨_, _, J7, q6⟩
          | brk =>
            obtain ⟨σ6, H6, S6, q6⟩ := hsp
            exact end_ S6 fun s7 J7 => ⟨_, _, J7, q6⟩
          | cont =>
            obtain ⟨σ6, H6, S6, q6⟩ := hsp
            exact end_ S6 fun s7 J7 => ⟨_, _, J7, q6⟩
          | ret u =>
            obtain ⟨v6, σ6, H6, S6, r6, q6⟩ := hsp
            exact end_ S6 fun s7 J7 => ⟨_, _, _, J7, r6, q6⟩
        | false =>
          show wpAny _ X.A (handleBy (.ref a) X.env hds2) _ _ _
          exact ih (hno rfl)
    exact go hh w
  · cases f with
    | next =>
      obtain ⟨σ', H', J', q⟩ := hsp
      exact wpAny_execs_nil ⟨σ', H', J'.ofTry ok, q⟩
    | brk =>
      obtain ⟨σ', H', J', q⟩ := hsp
      exact ⟨σ', H', J'.ofTry ok, q⟩
    | cont =>
      obtain ⟨σ', H', J', q⟩ := hsp
      exact ⟨σ', H', J'.ofTry ok, q⟩
    | ret u =>
      obtain ⟨v, σ', H', J', r, q⟩ := hsp
      exact ⟨v, σ', H', J'.ofTry ok, r, q⟩
end
end NetR
namespace Net
open PySem PySem.Spec PyProof.Rows L2 NetR LamX
structure TAx (K : PySem.W.Frag) (mg : Str → Option Value) (CN CR CB : Addr) : Prop where
  gN : mg "Nothing" = some (.ref CN)
  gR : mg "Refused" = some (.ref CR)
  gB : mg "BadBytes" = some (.ref CB)
  nn : PySem.W.exmOne K (.ref CN) (.ref CN) = some true
  rn : PySem.W.exmOne K (.ref CR) (.ref CN) = some false
  rr : PySem.W.exmOne K (.ref CR) (.ref CR) = some true
  bn : PySem.W.exmOne K (.ref CB) (.ref CN) = some false
  br : PySem.W.exmOne K (.ref CB) (.ref CR) = some false
  bb : PySem.W.exmOne K (.ref CB) (.ref CB) = some true
  xR : XfC K CR
  xB : XfC K CB
  fR : PySem.W.findIn K (.ref CR) "why" = some none
  fA : PySem.W.findIn K (.ref CB) "at" = some none
  fF : PySem.W.findIn K (.ref CB) "fault" = some none
def HearE (CN CR CB : Addr) (Q : VK) : XK := fun cls d H' => (cls = .ref CN ∧ ∀ H2 p, Same H' H2 → H2 p = some (.tup [.str "nothing"]) → Q (.ref p) H2) ∨
  (cls = .ref CR ∧ ∃ dd z, d = some dd ∧ H' dd = some (.xd [(("why" : Str), .str z)]) ∧ ∀ H2 p, Same H' H2 → H2 p = some (.tup [.str "refused", .str z]) → Q (.ref p) H2) ∨
  (cls = .ref CB ∧ ∃ dd n z, d = some dd ∧ H' dd = some (.xd [(("fault" : Str), .str z), (("at" : Str), .int n)]) ∧ ∀ H2 p, Same H' H2 → H2 p = some (.tup [.str "bytes", .int n, .str z]) → Q (.ref p) H2)
def THear (CN CR CB : Addr) : (XK → Hp → VK → Prop) → Hp → VK → Prop := fun tl H Q => tl (HearE CN CR CB Q) H fun v H' => ([V.str "told", v]).length ≤ sizeLine ∧ ∀ p, H' p = none → Q (.ref p) (upd H' p (.tup [.str "told", v]))
abbrev s__law_heard : Stmt := top 48
theorem sc__law_heard : FnScope ["act", "error"] ["act"] (defScope s__law_heard) := ⟨rfl, rfl, rfl, by decide +kernel, rfl, by decide +kernel, by decide +kernel⟩
theorem heard_gives {X : Cx} {q : Str} {g : Addr} {cdg : Value} {CN CR CB : Addr} (T : TAx X.K X.mg CN CR CB) :
    GivesTo X ["act", "error"] "_law_heard" (defScope s__law_heard) g cdg (defBody s__law_heard) "act" q (THear CN CR CB) := by
  intro f c' s H Q tl act hc h
  have hbig := sl_big
  refine ⟨_, pss_one (ps_try_manyA (X := (cxOf C8.CX0 X.prog X.w X.K X.mg X.base ["act", "error"] "_law_heard" (defScope s__law_heard) g cdg X.A X.stack s H C8.E0).nox) (Wout := fun _ _ _ _ => False)
      (tb := fun W D σ H => ∃ Ech : XK, (∀ cls d σ' H', Ech cls d H' → σ'.length = 2 → W cls d σ' H') ∧ σ[0]? = some (some (.ref f)) ∧ H c' = some (CodeO c' q) ∧ tl Ech H fun v H1 => ([V.str "told", v]).length ≤ sizeLine ∧ ∀ p, H1 p = none → D.rt (.ref p) (upd H1 p (.tup [.str "told", v])))
      rfl rfl L2.takes0 (fun W pn xe tk _ => ?_)
      (.cons ⟨rfl, rfl, .inl T.gN⟩ (fun a oe cls d pn _ _ => pss_one (ps_ret (pe_tup (pa_cons pe_str pa_nil))))
        (.as (i := 1) sc__law_heard.nd rfl rfl ⟨rfl, rfl, .inl T.gR⟩ (fun a oe cls d pn hz hf => pss_one (ps_ret (pe_tup (pa_cons pe_str (pa_cons (pe_xf T.xR T.fR hz hf (pv 1)) pa_nil)))))
          (.as (i := 1) sc__law_heard.nd rfl rfl ⟨rfl, rfl, .inl T.gB⟩ (fun a oe cls d pn hz hf => pss_one (ps_ret (pe_tup (pa_cons pe_str (pa_cons (pe_xf T.xB T.fA hz hf (pv 1)) (pa_cons (pe_xf T.xB T.fF hz hf (pv 1)) pa_nil))))))
            .nil)))), ?_⟩
  · refine ⟨fun pins s' σ H' D I h' => ?_⟩
    obtain ⟨Ech, hW, h1, h2, h3⟩ := h'
    have tk2 : Takes ((cxOf C8.CX0 X.prog X.w X.K X.mg X.base ["act", "error"] "_law_heard" (defScope s__law_heard) g cdg X.A X.stack s H C8.E0).tr pn xe) (fun cls d σ' H' => σ'.length = 2 → W cls d σ' H') := fun u s2 hh => by
      obtain ⟨a, B, sI, pins', σ', H', cls, d, r1, J', r2, r3, r4, r5, r6, r7, w⟩ := hh
      exact tk u s2 ⟨a, B, sI, pins', σ', H', cls, d, r1, J', r2, r3, r4, r5, r6, r7, w J'.len⟩
    exact (pss_one (ps_ret (pe_tup (pa_cons pe_str (pa_cons (act _ pn xe Ech _ _ tk2 hW) pa_nil))))).run pins s' σ H' D I ⟨h1, h2, h3⟩
  · refine ⟨HearE CN CR CB Q, fun cls d σ' H' he => ?_, rfl, hc, h⟩
    rcases he with ⟨rfl, k⟩ | ⟨rfl, dd, z, rfl, hd, k⟩ | ⟨rfl, dd, n, z, rfl, hd, k⟩
    · intro hl
      exact ⟨true, T.nn, fun _ a na => ⟨(by show 1 ≤ sizeLine; omega), fun p hp => k _ p (same_upd hp) upd_same⟩, fun z => nomatch z⟩
    · intro hl
      have e1 : ∀ a, (σ'.set 1 (some (V.ref a)))[1]? = some (some (V.ref a)) := fun a => by rw [List.getElem?_set_self (by omega)]
      exact ⟨false, T.rn, fun z => (nomatch z), fun _ => ⟨true, T.rr, fun _ a na => ⟨_, e1 a, rfl, rfl, dd, _, _, rfl, hd, rfl, (by show 2 ≤ sizeLine; omega), fun p hp => k _ p (same_upd hp) upd_same⟩, fun z => (nomatch z)⟩⟩
    · intro hl
      have e1 : ∀ a, (σ'.set 1 (some (V.ref a)))[1]? = some (some (V.ref a)) := fun a => by rw [List.getElem?_set_self (by omega)]
      exact ⟨false, T.bn, fun z => (nomatch z), fun _ => ⟨false, T.br, fun z => (nomatch z), fun _ => ⟨true, T.bb, fun _ a na => ⟨_, e1 a, rfl, rfl, dd, _, _, rfl, hd, rfl, _, e1 a, rfl, rfl, dd, _, _, rfl, hd, rfl, (by show 3 ≤ sizeLine; omega), fun p hp => k _ p (same_upd hp) upd_same⟩, fun z => (nomatch z)⟩⟩⟩
end Net
namespace NetR
open PySem PySem.Spec PyProof.Rows L2 LamX Net
structure FunC (K : PySem.W.Frag) (x qual : Str) (st : Stmt) (f : Addr) (fd : FuncData) (c : Addr) : Prop where
  ex : ∃ (oc : Value) (od : Option Addr) (kV doc pm : Value) (an : Option Addr) (ct : Value) (osl : Array (Option Value)),
    fd = PySem.W.fnOf x qual (defArgs st) (defBody st) (defScope st) .none kV doc pm an (.ref c) ct ∧ K.lookup f = some ⟨oc, od, .func fd, osl⟩ ∧ PySem.W.codeIn K (.ref c) qual = true
  kp : PySem.W.keepIn K (.ref f) = true
theorem FunC.fn {K : PySem.W.Frag} {x qual : Str} {st : Stmt} {f : Addr} {fd : FuncData} {c : Addr} (F : FunC K x qual st f fd c) : Fun K x qual st f fd := by
  obtain ⟨oc, od, kV, doc, pm, an, ct, osl, rfl, lk, hcd⟩ := F.ex
  exact ⟨⟨oc, od, kV, doc, pm, an, _, ct, osl, rfl, lk, hcd⟩, F.kp⟩
section
variable {P : Program} {w : World} {K : PySem.W.Frag} {mg : Str → Option Value} {base : Heap}
theorem FunC.ok {x qual : Str} {st : Stmt} {f c : Addr} {fd : FuncData} {N ps : List Str} {k : Nat} {sp : Sp} (F : FunC K x qual st f fd c) (S : FnScope N ps (defScope st)) (len : ∀ vs H Q E, sp vs H Q E → vs.length = ps.length)
    (hbody : ∀ (A : Around) (outer : List Env) (s : Shared) (H : Hp) (vs : List V) (Q : VK) (E : XK), Room k (A.deeper (envOfC qual (defScope st) s.heap.objs.size f (.ref c))) → sp vs H Q E →
      ∃ t, PSs (cxOf CX0 P w K mg base N qual (defScope st) f (.ref c) A outer s H E).nox (defBody st) t ∧ t { nx := fun _ H' => Q .non H', rt := Q } (L2.start N vs) H) : FnOk P w K mg base CX0 (k + 1) f fd ps sp := by
  obtain ⟨oc, od, kV, doc, pm, an, ct, osl, rfl, lk, hcd⟩ := F.ex
  refine fn_of lk hcd S len fun A outer s H vs Q E hr hsp => ?_
  obtain ⟨t, h, q⟩ := hbody A outer s H vs Q E hr hsp
  exact ⟨t, h.nox, q⟩
end
section
variable {X : Cx}
theorem pe_heard {fa c Pt CN CR CB : Addr} {fd : FuncData} {k : Nat} {Tt : List (Addr × Str)} {params : Arguments} {body : Expr} {scope : Scope} {t : XK → TE} {p lpos pos : Pos} (FA : Fun X.K "_law_heard" "_law_heard" s__law_heard fa fd) (hg : Gl X "_law_heard") (g : X.mg "_law_heard" = some (.ref fa)) (bi : Binds X.K fd ["act"] []) (TX : TAx X.K X.mg CN CR CB)
    (TB : TabB X.base X.mg c Pt) (hcode : X.env.code = .ref c) (hmT : (Pt, X.env.qual ++ "<lambda>") ∈ Tt) (hu : ∀ p ∈ Tt, p.1 = Pt → p.2 = X.env.qual ++ "<lambda>") (hr : Room (k + 2) X.A) (L : LamS X.env.scope scope) (hdef : defaultsOf params X.env = ([], []))
    (hbind : ∀ (q : Str) (cl : List (Str × Addr)) (pm cv ctv : Value), bindArgs (PySem.W.kla_fn "<lambda>" q params body scope cl pm cv ctv) ⟨[], []⟩ = pure [])
    (hbody : ∀ (A : Around) (outer : List Env) (s : Shared) (H : Hp) (E : XK) (f c' : Addr), Room k (A.deeper (lamEnv X scope s.heap.objs.size f c')) → PE (lamCx X A outer s H E scope f c') body (t E)) :
    PE X (.Call (.Name "_law_heard" p) [.Lambda params body scope lpos] [] pos) (tLam Tt (THear CN CR CB) t) := by
  obtain ⟨oc, od, kV, doc, pm, an, cdv, ct, osl, rfl, lk, hcd⟩ := FA.ex
  exact pe_lamcall (Ng := ["act", "error"]) (a := "act") hg g FA.kp lk hcd bi sc__law_heard rfl (.inl rfl) (heard_gives TX) TB hcode hmT hu hr L hdef hbind hbody
end
end NetR
namespace Net
open PySem PySem.Spec PyProof.Rows L2 NetR LamX
theorem TabS.sb {H H' : Hp} {b : Addr} {P : Addr} {q : Str} (hB : BagI H b) (t : TabS H P q) (s : SB b H H') : TabS H' P q := by
  obtain ⟨ps, h1, h2, h3⟩ := t
  obtain ⟨_, _, _, _, _, hb, _⟩ := hB
  have ne : ∀ {x : Addr} {o : HO}, H x = some o → (∀ l, o ≠ .lst l) → x ≠ b := fun {x o} e n z => by
    rw [z, hb] at e
    exact n _ (Option.some.inj e).symm
  refine ⟨ps, s.at_ h1 (ne h1 fun l z => by cases z), h2, fun pos cv hc => ?_⟩
  obtain ⟨c, e1, e2⟩ := h3 pos cv hc
  exact ⟨c, e1, s.at_ e2 (ne e2 fun l z => by unfold CodeO at z; cases z)⟩
theorem tabs_sb {T : List (Addr × Str)} {H H' : Hp} {b : Addr} (hB : BagI H b) (t : Tabs T H) (s : SB b H H') : Tabs T H' := fun p hp => TabS.sb hB (t p hp) s
theorem ext_bag {H H' : Hp} {b : Addr} (hB : BagI H b) (e : ExtN H H') : BagI H' b := by
  obtain ⟨x0, x1, x2, cl, cs, h1, h2, h3⟩ := hB
  exact ⟨x0, x1, x2, cl, cs, e _ _ h1 (fun l z => by cases z), e _ _ h2 (fun l z => by cases z), h3⟩
theorem ext_rp {H H' : Hp} (e : ExtN H H') {v : V} {d : PyData} (h : Rp H v d) : Rp H' v d := Rp.kp (fun b o h1 h2 => e b o h1 (fun l z => by
  subst z
  rcases h2 with ⟨_, h⟩ | ⟨_, h⟩ | ⟨_, h⟩ <;> cases h)) d v h
theorem ext_dlt {H H' : Hp} {b : Addr} (e : ExtN H H') : ExtN (dlt H b) (dlt H' b) := fun x o h n => dlt_at (e x o (dlt_same H b _ _ h) n) (dlt_some h)
mutual
theorem enc_all : ∀ d : PyData, isDat d = true → dsz d ≤ 60000 → (enc d).all byteB = true
  | .tuple ds, h, hz => by
    rw [isDat] at h
    have hz2 : 1 + dszs ds ≤ 60000 := hz
    have hl := dszs_len ds
    have ih := encs_all ds h (by omega)
    rw [enc, List.all_cons, List.all_cons, List.all_cons, ih]
    rw [show byteB 3 = true from rfl, show byteB ((ds.length : Int) / 256) = true from byteB_iff.mpr ⟨by omega, by omega⟩, show byteB ((ds.length : Int) % 256) = true from byteB_iff.mpr ⟨by omega, by omega⟩]
    rfl
  | .str s, h, _ => by
    have h1 : (decide (s.length ≤ 65535) && s.cps.toList.all fun c => decide (c ∈ cs_SIGNS.cps.toList)) = true := h
    rw [Bool.and_eq_true, List.all_eq_true] at h1
    have h2 : s.length ≤ 65535 := of_decide_eq_true h1.1
    show (encS s).all byteB = true
    rw [encS, List.all_cons, List.all_cons, List.all_cons]
    have h3 : (s.cps.toList.map ixS).all byteB = true := by
      rw [List.all_eq_true]
      intro y hy
      obtain ⟨c, hc, rfl⟩ := List.mem_map.mp hy
      have hm := of_decide_eq_true (h1.2 c hc)
      have hi := List.idxOf_lt_length_of_mem hm
      have hn : cs_SIGNS.cps.toList.length ≤ 100 := by decide +kernel
      unfold ixS
      exact byteB_iff.mpr ⟨by omega, by omega⟩
    rw [h3, show byteB 2 = true from rfl, show byteB ((s.length : Int) / 256) = true from byteB_iff.mpr ⟨by omega, by omega⟩, show byteB ((s.length : Int) % 256) = true from byteB_iff.mpr ⟨by omega, by omega⟩]
    rfl
  | .int n, h, _ => by
    have h1 : (decide (0 ≤ n) && decide (n ≤ 65535)) = true := h
    rw [Bool.and_eq_true, decide_eq_true_eq, decide_eq_true_eq] at h1
    show ([1, n / 256, n % 256] : List Int).all byteB = true
    rw [List.all_cons, List.all_cons, List.all_cons, show byteB 1 = true from rfl, show byteB (n / 256) = true from byteB_iff.mpr ⟨by omega, by omega⟩, show byteB (n % 256) = true from byteB_iff.mpr ⟨by omega, by omega⟩]
    rfl
  | .none, h, _ => by cases h
  | .bool _, h, _ => by cases h
  | .list _, h, _ => by cases h
  | .dict _, h, _ => by cases h
theorem encs_all : ∀ ds : List PyData, isDats ds = true → dszs ds ≤ 60000 → (encs ds).all byteB = true
  | [], _, _ => rfl
  | d :: ds, h, hz => by
    rw [isDats, Bool.and_eq_true] at h
    rw [dszs] at hz
    rw [encs, List.all_append, enc_all d h.1 (by omega), encs_all ds h.2 (by omega)]
    rfl
end
theorem ints_inj {ns ms : List Int} (h : (PyData.tuple (ns.map PyData.int)) = .tuple (ms.map PyData.int)) : ns = ms := by
  have := congrArg intsOf h
  rw [intsOf_t, intsOf_t] at this
  exact this
structure FX (Tt : List (Addr × Str)) (b : Addr) (H H' : Hp) : Prop where
  x : ExtN (dlt H b) (dlt H' b)
  c : ∀ S : Addr → Bool, BagI (rst H S) b → BagI (rst H' S) b
  tab : BagI H b → Tabs Tt H → Tabs Tt H'
theorem FX.bag {Tt : List (Addr × Str)} {b : Addr} {H H' : Hp} (f : FX Tt b H H') (h : BagI H b) : BagI H' b := f.c (fun _ => false) h
theorem FX.refl (Tt : List (Addr × Str)) (b : Addr) (H : Hp) : FX Tt b H H := ⟨ExtN.refl _, fun _ h => h, fun _ h => h⟩
theorem FX.trans {Tt : List (Addr × Str)} {b : Addr} {H H1 H2 : Hp} (a : FX Tt b H H1) (c : FX Tt b H1 H2) : FX Tt b H H2 := ⟨a.x.trans c.x, fun S h => c.c S (a.c S h), fun h t => c.tab (a.bag h) (a.tab h t)⟩
theorem FX.sb {Tt : List (Addr × Str)} {b : Addr} {H H' : Hp} (s : SB b H H') : FX Tt b H H' := ⟨ExtN.of s.s, s.c, fun h t => tabs_sb h t s⟩
theorem FX.of {Tt : List (Addr × Str)} {b : Addr} {H H' : Hp} (s : Same H H') : FX Tt b H H' := .sb (.of s)
theorem FX.ext {Tt : List (Addr × Str)} {b : Addr} {H H' : Hp} (e : ExtN H H') (t : Tabs Tt H') : FX Tt b H H' := ⟨ext_dlt e, fun S h => ext_bag h fun x o e1 n => rst_at (e x o (rst_in e1).2 n) (rst_in e1).1, fun _ _ => t⟩
theorem FX.rp {Tt : List (Addr × Str)} {b : Addr} {H H' : Hp} {v : V} {d : PyData} (f : FX Tt b H H') (h : Rp (dlt H b) v d) : Rp (dlt H' b) v d := ext_rp f.x h
theorem FX.tup {Tt : List (Addr × Str)} {b p : Addr} {H H' : Hp} {xs : List V} (f : FX Tt b H H') (hB : BagI H b) (h : H p = some (.tup xs)) : H' p = some (.tup xs) := dlt_same H' b _ _ (f.x _ _ (dlt_at h (bag_ne hB h)) fun l z => by cases z)
theorem hear_join {Tt : List (Addr × Str)} {CN CR CB : Addr} {t : XK → TE} {σ : L2.St} {H : Hp} {Q : VK} (R : V → Hp → Prop) (hT : Tabs Tt H) (h : ∀ H1, ExtN H H1 → Tabs Tt H1 → ∀ Q' : VK, (∀ x H', R x H' → Q' x H') → t (HearE CN CR CB Q') σ H1 fun v H' => ([V.str "told", v]).length ≤ sizeLine ∧ ∀ p, H' p = none → Q' (.ref p) (upd H' p (.tup [.str "told", v]))) (k : ∀ x H', R x H' → Q x H') :
    tLam Tt (THear CN CR CB) t σ H Q := ⟨hT, fun H1 e t1 => h H1 e t1 Q k⟩
mutual
theorem rp_plain {H : Hp} {b : Addr} (hB : BagI H b) : ∀ (d : PyData) (v : V), plD d = true → Rp H v d → Rp (dlt H b) v d
  | .int n, _, _, h => by
    cases h
    exact .int n
  | .str z, _, _, h => by
    cases h
    exact .str z
  | .tuple ds, _, hp, h => by
    rw [plD] at hp
    cases h with
    | tup e a => exact .tup (dlt_at e (bag_ne hB e)) (rpA_plain hB ds _ hp a)
  | .none, _, hp, _ => by cases hp
  | .bool _, _, hp, _ => by cases hp
  | .list _, _, hp, _ => by cases hp
  | .dict _, _, hp, _ => by cases hp
theorem rpA_plain {H : Hp} {b : Addr} (hB : BagI H b) : ∀ (ds : List PyData) (vs : List V), plDs ds = true → RpA H vs ds → RpA (dlt H b) vs ds
  | [], _, _, h => by
    cases h
    exact .nil
  | d :: ds, _, hp, h => by
    rw [plDs, Bool.and_eq_true] at hp
    cases h with
    | cons a c => exact .cons (rp_plain hB d _ hp.1 a) (rpA_plain hB ds _ hp.2 c)
end
theorem nodics_ints : ∀ ns : List Int, nodics (ns.map PyData.int) = true
  | [] => rfl
  | n :: ns => by
    rw [List.map_cons, nodics, nodics_ints ns]
    rfl
theorem rp_told {H : Hp} {b p : Addr} {z y : Str} {n : Int} (hB : BagI H b) (h : H p = some (.tup [.str z, .int n, .str y])) : Rp (dlt H b) (.ref p) (.tuple [.str z, .int n, .str y]) := rp_tup hB h (.cons (.str _) (.cons (.int _) (.one (.str _))))
theorem rp_two {H : Hp} {b p : Addr} {z y : Str} (hB : BagI H b) (h : H p = some (.tup [.str z, .str y])) : Rp (dlt H b) (.ref p) (.tuple [.str z, .str y]) := rp_tup hB h (.cons (.str _) (.one (.str _)))
theorem cut_last (xs : List V) : cutV xs none (some (-1)) = xs.dropLast := by
  unfold cutV
  rw [HT.sIx_none, List.dropLast_eq_take]
  have e : HT.sIx xs.length xs.length (some (-1)) = xs.length - 1 := by
    unfold HT.sIx
    simp
    omega
  rw [e]
  rfl
theorem FX.own {Tt : List (Addr × Str)} {b l : Addr} {H H' : Hp} {xs ys : List V} (f : FX Tt b H H') (hl : H l = none) (h' : H' l = some (.lst xs)) : FX Tt b H (upd H' l (.lst ys)) := by
  refine ⟨fun y o e n => ?_, fun S hS => ?_, fun hB hT => ?_⟩
  · have hy : y ≠ l := ne_of_none (dlt_same H b _ _ e) hl
    have h1 := f.x y o e n
    exact dlt_at (by rw [upd_ne hy]; exact dlt_same H' b _ _ h1) (dlt_some e)
  · have h1 : BagI (rst H fun x => decide (x = l) || S x) b := by
      refine hS.same fun x o e => ?_
      obtain ⟨e1, e2⟩ := rst_in e
      exact rst_at e2 (by rw [e1, decide_eq_false (ne_of_none e2 hl)]; rfl)
    refine (f.c _ h1).same fun x o e => ?_
    obtain ⟨e1, e2⟩ := rst_in e
    rw [Bool.or_eq_false_iff, decide_eq_false_iff_not] at e1
    exact rst_at (by rw [upd_ne e1.1]; exact e2) e1.2
  · intro p hp
    obtain ⟨ps, h1, h2, h3⟩ := f.tab hB hT p hp
    have ne : ∀ {x : Addr} {o : HO}, H' x = some o → (∀ l, o ≠ .lst l) → x ≠ l := fun {x o} e n z => by
      rw [z, h'] at e
      exact n _ (Option.some.inj e).symm
    refine ⟨ps, by rw [upd_ne (ne h1 fun l z => by cases z)]; exact h1, h2, fun pos cv hc => ?_⟩
    obtain ⟨c, e1, e2⟩ := h3 pos cv hc
    exact ⟨c, e1, by rw [upd_ne (ne e2 fun l z => by unfold CodeO at z; cases z)]; exact e2⟩
theorem FX.lst {Tt : List (Addr × Str)} {b p : Addr} {H H' : Hp} {xs : List V} (f : FX Tt b H H') (hn : p ≠ b) (h : H p = some (.lst xs)) : H' p = some (.lst xs) := dlt_same H' b _ _ (f.x _ _ (dlt_at h hn) fun l z => by cases z)
end Net
namespace Net
open PySem PySem.Spec PyProof.Rows L2 NetR LamX
def putC (M : List Pg) (x : Pg) : List Pg := if (M.any fun e => decide (e.1 = x.1)) = true then M.map fun e => if e.1 = x.1 then x else e else M ++ [x]
def mrgC (M N : List Pg) : List Pg := N.foldl putC M
def dgC (M : List Pg) (k : Int) : Option (List Int) := (M.find? fun e => decide (e.1 = k)).map (·.2)
def deqC (M N : List Pg) : Bool := M.length == N.length && M.all fun e => decide (dgC N e.1 = some e.2)
theorem esC_put (es : List Ent) (x : Ent) : esC (putE es x) = putC (esC es) (x.1, x.2.2) := by
  have ea : ((esC es).any fun e => decide (e.1 = x.1)) = es.any fun e => decide (e.1 = x.1) := by
    unfold esC
    rw [List.any_map]
    rfl
  unfold putC putE
  rw [ea]
  split
  · unfold esC
    rw [List.map_map, List.map_map]
    apply List.map_congr_left
    intro e _
    show ((if e.1 = x.1 then x else e).1, (if e.1 = x.1 then x else e).2.2) = if e.1 = x.1 then (x.1, x.2.2) else (e.1, e.2.2)
    split <;> rfl
  · unfold esC
    rw [List.map_append]
    rfl
theorem esC_mrg : ∀ (more es : List Ent), esC (mrgE es more) = mrgC (esC es) (esC more)
  | [], _ => rfl
  | x :: more, es => by
    show esC (mrgE (putE es x) more) = mrgC (putC (esC es) (x.1, x.2.2)) (esC more)
    rw [esC_mrg more (putE es x), esC_put]
theorem pnC_es (pn : List Pnd) : esC (pnE pn) = pnC pn := by
  unfold esC pnE pnC
  rw [List.map_map]
  rfl
theorem dgC_es (es : List Ent) (k : Int) : (dgetI es k).map (·.2.2) = dgC (esC es) k := by
  unfold dgC esC dgetI
  rw [List.find?_map, Option.map_map]
  rfl
theorem deqI_C (ea eb : List Ent) : deqI ea eb = deqC (esC ea) (esC eb) := by
  unfold deqI deqC
  have e1 : (esC ea).length = ea.length := List.length_map _
  have e2 : (esC eb).length = eb.length := List.length_map _
  rw [e1, e2]
  congr 1
  unfold esC
  rw [List.all_map]
  congr 1
  funext e
  show decide ((dgetI eb e.1).map (·.2.2) = some e.2.2) = decide (dgC (eb.map fun e => (e.1, e.2.2)) e.1 = some e.2.2)
  rw [dgC_es]
  rfl
theorem keys_es (es : List Ent) : (esC es).map (·.1) = es.map (·.1) := by
  unfold esC
  rw [List.map_map]
  rfl
theorem find_nodup : ∀ {M : List Pg} {e : Pg}, (M.map (·.1)).Nodup → e ∈ M → dgC M e.1 = some e.2
  | [], _, _, h => by cases h
  | x :: M, e, hn, h => by
    rw [List.map_cons, List.nodup_cons] at hn
    unfold dgC
    by_cases c : x.1 = e.1
    · rw [List.find?_cons_of_pos (by simpa using c)]
      rcases List.mem_cons.mp h with h | h
      · rw [h]
        rfl
      · exact (hn.1 (by rw [c]; exact List.mem_map.mpr ⟨e, h, rfl⟩)).elim
    · rw [List.find?_cons_of_neg (by simpa using c)]
      rcases List.mem_cons.mp h with h | h
      · exact (c (by rw [h])).elim
      · exact find_nodup hn.2 h
theorem deq_perm {M N : List Pg} (hn : (M.map (·.1)).Nodup) (p : N.Perm M) : deqC M N = true := by
  unfold deqC
  rw [p.length_eq, beq_self_eq_true, Bool.true_and, List.all_eq_true]
  intro e he
  exact decide_eq_true (find_nodup ((p.map (·.1)).nodup_iff.mpr hn) (p.mem_iff.mpr he))
theorem mrgC_nil : ∀ (N M : List Pg), ((M ++ N).map (·.1)).Nodup → mrgC M N = M ++ N
  | [], M, _ => (List.append_nil M).symm
  | x :: N, M, h => by
    have h1 : putC M x = M ++ [x] := by
      unfold putC
      rw [if_neg]
      intro z
      obtain ⟨e, he, e1⟩ := List.any_eq_true.mp z
      have e1 := of_decide_eq_true e1
      rw [List.map_append, List.nodup_append] at h
      exact h.2.2 e.1 (List.mem_map.mpr ⟨e, he, rfl⟩) x.1 (by simp) e1
    show mrgC (putC M x) N = _
    rw [h1, mrgC_nil N (M ++ [x]) (by rw [List.append_assoc]; exact h), List.append_assoc]
    rfl
theorem srt_one {M N B : List Pg} (hn : (B.map (·.1)).Nodup) (p1 : M.Perm B) (p2 : N.Perm B) (s1 : M.Pairwise fun x y => x.1 ≤ y.1) (s2 : N.Pairwise fun x y => x.1 ≤ y.1) : M = N := by
  have up : ∀ {L : List Pg}, L.Perm B → L.Pairwise (fun x y => x.1 ≤ y.1) → L.Pairwise fun x y => x.1 < y.1 := fun {L} p s => by
    have n1 : (L.map (·.1)).Nodup := (p.map (·.1)).nodup_iff.mpr hn
    have n2 : L.Pairwise fun x y => x.1 ≠ y.1 := List.pairwise_map.mp n1
    exact s.imp₂ (fun x y a b => by omega) n2
  exact uniq_srt (fun x y a b => by omega) (up p1 s1) (up p2 s2) (p1.trans p2.symm)
theorem lex_anti : ∀ x y : List Int, HT.lexLt y x = false → HT.lexLt x y = false → x = y
  | [], [], _, _ => rfl
  | [], _ :: _, _, h => by cases h
  | _ :: _, [], h, _ => by cases h
  | a :: x, b :: y, h1, h2 => by
    rw [HT.lexLt_cons] at h1 h2
    by_cases c : a = b
    · subst c
      rw [if_pos rfl] at h1 h2
      rw [lex_anti x y h1 h2]
    · rw [if_neg (fun z => c z.symm)] at h1
      rw [if_neg c] at h2
      have a1 := of_decide_eq_false h1
      have a2 := of_decide_eq_false h2
      omega
def rdC (M N : List Pg) (n : Int) : Option (List Int) := match (N.filter fun z => decide (z.1 = n)).getLast? with
  | some z => some z.2
  | none => dgC M n
theorem rdP_C (es : List Ent) (pn : List Pnd) (n : Int) : (rdP es pn n).map (·.2) = rdC (esC es) (pnC pn) n := by
  have e : pn.reverse.find? (fun z => decide (z.2.1 = n)) = (pn.filter fun z => decide (z.2.1 = n)).getLast? := by
    rw [← List.head?_filter, List.filter_reverse, List.head?_reverse]
  have e2 : ((pnC pn).filter fun z => decide (z.1 = n)).getLast? = ((pn.filter fun z => decide (z.2.1 = n)).getLast?).map fun z => (z.2.1, z.2.2.2) := by
    unfold pnC
    rw [List.filter_map, List.getLast?_map]
    rfl
  unfold rdP rdC
  rw [e, e2]
  cases (pn.filter fun z => decide (z.2.1 = n)).getLast? with
  | some z => rfl
  | none =>
    show ((dgetI es n).map (·.2)).map (·.2) = dgC (esC es) n
    rw [Option.map_map, ← dgC_es]
    rfl
def own5 (p k l kd pl : Addr) : Addr → Bool := fun x => decide (x = p) || decide (x = k) || decide (x = l) || decide (x = kd) || decide (x = pl)
theorem own5_not {p k l kd pl x : Addr} : own5 p k l kd pl x = false ↔ x ≠ p ∧ x ≠ k ∧ x ≠ l ∧ x ≠ kd ∧ x ≠ pl := by
  unfold own5
  simp [and_assoc]
structure JH (Tt : List (Addr × Str)) (C : Addr) (H : Hp) (b kd pl : Addr) (D : Dsk) (kes : List Ent) (lp : List Pnd) : Prop where
  dk : DkI C (dlt H b) D
  kp : DictI (dlt H b) kd kes
  pe : dlt H b pl = some (.lst (lp.map fun z => V.ref z.1))
  prs : ∀ z ∈ lp, dlt H b z.1 = some (.tup [.int z.2.1, .ref z.2.2.1]) ∧ dlt H b z.2.2.1 = some (.tup (z.2.2.2.map V.int))
  ne1 : pl ≠ D.l
  ne2 : kd ≠ D.k
  bag : BagI (rst H (own5 D.p D.k D.l kd pl)) b
  tab : Tabs Tt H
theorem JH.b {Tt : List (Addr × Str)} {C : Addr} {H : Hp} {b kd pl : Addr} {D : Dsk} {kes : List Ent} {lp : List Pnd} (j : JH Tt C H b kd pl D kes lp) : BagI H b := j.bag.same fun x o e => (rst_in e).2
theorem dk_ext {C : Addr} {H H' : Hp} {D : Dsk} (h : DkI C H D) (e : ExtN H H') : DkI C H' D :=
  ⟨e _ _ h.ins (fun l z => by cases z), ⟨e _ _ h.kept.1 (fun l z => by cases z), fun x hx => e _ _ (h.kept.2 x hx) (fun l z => by cases z)⟩, e _ _ h.pend (fun l z => by cases z), fun z hz => ⟨e _ _ (h.prs z hz).1 (fun l z => by cases z), e _ _ (h.prs z hz).2 (fun l z => by cases z)⟩, h.se, h.sp, h.nd⟩
theorem ne_kind {H : Hp} {x y : Addr} {o u : HO} (h1 : H x = some o) (h2 : H y = some u) (n : o ≠ u) : x ≠ y := fun z => by
  rw [z, h2] at h1
  exact n (Option.some.inj h1).symm
theorem dk_dlt {C : Addr} {H : Hp} {b : Addr} {D : Dsk} (hB : BagI H b) (h : DkI C H D) (bl : D.l ≠ b) : DkI C (dlt H b) D := by
  obtain ⟨_, _, _, _, _, hb, _⟩ := id hB
  exact ⟨dlt_at h.ins (ne_kind h.ins hb (fun z => by cases z)), ⟨dlt_at h.kept.1 (ne_kind h.kept.1 hb (fun z => by cases z)), fun e he => dlt_at (h.kept.2 e he) (bag_ne hB (h.kept.2 e he))⟩, dlt_at h.pend bl, fun z hz => ⟨dlt_at (h.prs z hz).1 (bag_ne hB (h.prs z hz).1), dlt_at (h.prs z hz).2 (bag_ne hB (h.prs z hz).2)⟩, h.se, h.sp, h.nd⟩
theorem JH.fx {Tt : List (Addr × Str)} {C : Addr} {H H' : Hp} {b kd pl : Addr} {D : Dsk} {kes : List Ent} {lp : List Pnd} (j : JH Tt C H b kd pl D kes lp) (f : FX Tt b H H') : JH Tt C H' b kd pl D kes lp :=
  ⟨dk_ext j.dk f.x, ⟨f.x _ _ j.kp.1 (fun l z => by cases z), fun x hx => f.x _ _ (j.kp.2 x hx) (fun l z => by cases z)⟩, f.x _ _ j.pe (fun l z => by cases z), fun z hz => ⟨f.x _ _ (j.prs z hz).1 (fun l z => by cases z), f.x _ _ (j.prs z hz).2 (fun l z => by cases z)⟩, j.ne1, j.ne2, f.c _ j.bag, f.tab j.b j.tab⟩
theorem tabs_keep {Tt : List (Addr × Str)} {H H' : Hp} (t : Tabs Tt H) (k : ∀ x o, H x = some o → (∀ l, o ≠ .lst l) → (∀ l, o ≠ .dK l) → (∀ c d l, o ≠ .ins c d l) → H' x = some o) : Tabs Tt H' := fun p hp => by
  obtain ⟨ps, h1, h2, h3⟩ := t p hp
  refine ⟨ps, k _ _ h1 (fun l z => by cases z) (fun l z => by cases z) (fun c d l z => by cases z), h2, fun pos cv hc => ?_⟩
  obtain ⟨c, e1, e2⟩ := h3 pos cv hc
  exact ⟨c, e1, k _ _ e2 (fun l z => by unfold CodeO at z; cases z) (fun l z => by unfold CodeO at z; cases z) (fun c d l z => by unfold CodeO at z; cases z)⟩
theorem JH.write {Tt : List (Addr × Str)} {C : Addr} {H H' : Hp} {b kd pl : Addr} {D : Dsk} {kes : List Ent} {lp pn : List Pnd} (j : JH Tt C H b kd pl D kes lp) (k : ∀ x o, x ≠ D.l → H x = some o → H' x = some o) (h : DkI C H' { D with pn := pn }) : JH Tt C H' b kd pl { D with pn := pn } kes lp := by
  have hl := j.dk.pend
  have bl : D.l ≠ b := dlt_some hl
  have hB' : BagI (rst H' (own5 D.p D.k D.l kd pl)) b := j.bag.same fun x o e => rst_at (k x o (own5_not.mp (rst_in e).1).2.2.1 (rst_in e).2) (rst_in e).1
  have hB : BagI H' b := hB'.same fun x o e => (rst_in e).2
  have kt : ∀ x o, dlt H b x = some o → (∀ l, o ≠ .lst l) → dlt H' b x = some o := fun x o e n => dlt_at (k x o (ne_kind e hl fun z => n _ z) (dlt_same _ b _ _ e)) (dlt_some e)
  refine ⟨⟨dlt_at h.ins (dlt_some j.dk.ins), ⟨dlt_at h.kept.1 (dlt_some j.dk.kept.1), fun e he => dlt_at (h.kept.2 e he) (bag_ne hB (h.kept.2 e he))⟩, dlt_at h.pend bl, fun z hz => ⟨dlt_at (h.prs z hz).1 (bag_ne hB (h.prs z hz).1), dlt_at (h.prs z hz).2 (bag_ne hB (h.prs z hz).2)⟩, h.se, h.sp, h.nd⟩,
    ⟨kt _ _ j.kp.1 (fun l z => by cases z), fun e he => kt _ _ (j.kp.2 e he) (fun l z => by cases z)⟩, dlt_at (k _ _ j.ne1 (dlt_same _ b _ _ j.pe)) (dlt_some j.pe), fun z hz => ⟨kt _ _ (j.prs z hz).1 (fun l z => by cases z), kt _ _ (j.prs z hz).2 (fun l z => by cases z)⟩, j.ne1, j.ne2, hB', tabs_keep j.tab fun x o e n1 _ _ => k x o (ne_kind e (dlt_same _ b _ _ hl) fun z => n1 _ z) e⟩
theorem JH.flush {Tt : List (Addr × Str)} {C l' : Addr} {H H' : Hp} {b kd pl : Addr} {D : Dsk} {kes es' : List Ent} {lp pn' : List Pnd} (j : JH Tt C H b kd pl D kes lp) (k : ∀ x o, x ≠ D.p → x ≠ D.k → H x = some o → H' x = some o) (nl : H l' = none) (h : DkI C H' { D with l := l', es := es', pn := pn' }) : JH Tt C H' b kd pl { D with l := l', es := es', pn := pn' } kes lp := by
  have hp := j.dk.ins
  have hk := j.dk.kept.1
  have bl : l' ≠ b := bag_fresh j.b nl
  have hB' : BagI (rst H' (own5 D.p D.k l' kd pl)) b := j.bag.same fun x o e => by
    obtain ⟨e1, e2⟩ := rst_in e
    obtain ⟨n1, n2, n3, n4, n5⟩ := own5_not.mp e1
    exact rst_at (k x o n1 n2 e2) (own5_not.mpr ⟨n1, n2, ne_of_none e2 nl, n4, n5⟩)
  have hB : BagI H' b := hB'.same fun x o e => (rst_in e).2
  have kt : ∀ x o, dlt H b x = some o → x ≠ D.p → x ≠ D.k → dlt H' b x = some o := fun x o e n1 n2 => dlt_at (k x o n1 n2 (dlt_same _ b _ _ e)) (dlt_some e)
  have tt : ∀ x l, dlt H b x = some (.tup l) → dlt H' b x = some (.tup l) := fun x l e => kt x _ e (ne_kind e hp (fun z => by cases z)) (ne_kind e hk (fun z => by cases z))
  refine ⟨⟨dlt_at h.ins (dlt_some hp), ⟨dlt_at h.kept.1 (dlt_some hk), fun e he => dlt_at (h.kept.2 e he) (bag_ne hB (h.kept.2 e he))⟩, dlt_at h.pend bl, fun z hz => ⟨dlt_at (h.prs z hz).1 (bag_ne hB (h.prs z hz).1), dlt_at (h.prs z hz).2 (bag_ne hB (h.prs z hz).2)⟩, h.se, h.sp, h.nd⟩,
    ⟨kt _ _ j.kp.1 (ne_kind j.kp.1 hp (fun z => by cases z)) j.ne2, fun e he => tt _ _ (j.kp.2 e he)⟩, kt _ _ j.pe (ne_kind j.pe hp (fun z => by cases z)) (ne_kind j.pe hk (fun z => by cases z)), fun z hz => ⟨tt _ _ (j.prs z hz).1, tt _ _ (j.prs z hz).2⟩, ne_of_none (dlt_same _ b _ _ j.pe) nl, j.ne2, hB',
    tabs_keep j.tab fun x o e _ n2 n3 => k x o (ne_kind e (dlt_same _ b _ _ hp) fun z => n3 _ _ _ z) (ne_kind e (dlt_same _ b _ _ hk) fun z => n2 _ z) e⟩
theorem JH.push {Tt : List (Addr × Str)} {C : Addr} {H : Hp} {b kd pl : Addr} {D : Dsk} {kes : List Ent} {lp : List Pnd} {x : Pnd} (j : JH Tt C H b kd pl D kes lp) (h1 : H x.1 = some (.tup [.int x.2.1, .ref x.2.2.1])) (h2 : H x.2.2.1 = some (.tup (x.2.2.2.map V.int))) : JH Tt C (upd H pl (.lst (lp.map (fun z => V.ref z.1) ++ [V.ref x.1]))) b kd pl D kes (lp ++ [x]) := by
  have hl := j.pe
  have bl : pl ≠ b := dlt_some hl
  generalize hH' : upd H pl (.lst (lp.map (fun z => V.ref z.1) ++ [V.ref x.1])) = H'
  have k : ∀ x o, x ≠ pl → H x = some o → H' x = some o := fun y o n e => by rw [← hH', upd_ne n]; exact e
  have hl' : H' pl = some (.lst (lp.map (fun z => V.ref z.1) ++ [V.ref x.1])) := by rw [← hH']; exact upd_same
  have kt : ∀ x o, dlt H b x = some o → x ≠ pl → dlt H' b x = some o := fun x o e n => dlt_at (k x o n (dlt_same _ b _ _ e)) (dlt_some e)
  have tt : ∀ x l, dlt H b x = some (.tup l) → dlt H' b x = some (.tup l) := fun x l e => kt x _ e (ne_kind e hl (fun z => by cases z))
  have hB' : BagI (rst H' (own5 D.p D.k D.l kd pl)) b := j.bag.same fun x o e => rst_at (k x o (own5_not.mp (rst_in e).1).2.2.2.2 (rst_in e).2) (rst_in e).1
  have bt : ∀ {x l}, H x = some (.tup l) → dlt H b x = some (.tup l) := fun {x l} e => dlt_at e (bag_ne j.b e)
  refine ⟨⟨kt _ _ j.dk.ins (ne_kind j.dk.ins hl (fun z => by cases z)), ⟨kt _ _ j.dk.kept.1 (ne_kind j.dk.kept.1 hl (fun z => by cases z)), fun e he => tt _ _ (j.dk.kept.2 e he)⟩, kt _ _ j.dk.pend (Ne.symm j.ne1), fun z hz => ⟨tt _ _ (j.dk.prs z hz).1, tt _ _ (j.dk.prs z hz).2⟩, j.dk.se, j.dk.sp, j.dk.nd⟩,
    ⟨kt _ _ j.kp.1 (ne_kind j.kp.1 hl (fun z => by cases z)), fun e he => tt _ _ (j.kp.2 e he)⟩, dlt_at (by rw [hl', List.map_append]; rfl) bl, fun z hz => ?_, j.ne1, j.ne2, hB', tabs_keep j.tab fun x o e n1 _ _ => k x o (ne_kind e (dlt_same _ b _ _ hl) fun z => n1 _ z) e⟩
  rcases List.mem_append.mp hz with h | h
  · exact ⟨tt _ _ (j.prs z h).1, tt _ _ (j.prs z h).2⟩
  · rw [List.mem_singleton.mp h]
    exact ⟨tt _ _ (bt h1), tt _ _ (bt h2)⟩
theorem JH.put {Tt : List (Addr × Str)} {C : Addr} {H : Hp} {b kd pl : Addr} {D : Dsk} {kes : List Ent} {lp : List Pnd} {x : Ent} (j : JH Tt C H b kd pl D kes lp) (h2 : H x.2.1 = some (.tup (x.2.2.map V.int))) : JH Tt C (upd H kd (.dK ((putE kes x).map entD))) b kd pl D (putE kes x) lp := by
  have hl := j.kp.1
  have bl : kd ≠ b := dlt_some hl
  generalize hH' : upd H kd (.dK ((putE kes x).map entD)) = H'
  have k : ∀ x o, x ≠ kd → H x = some o → H' x = some o := fun y o n e => by rw [← hH', upd_ne n]; exact e
  have hl' : H' kd = some (.dK ((putE kes x).map entD)) := by rw [← hH']; exact upd_same
  have kt : ∀ x o, dlt H b x = some o → x ≠ kd → dlt H' b x = some o := fun x o e n => dlt_at (k x o n (dlt_same _ b _ _ e)) (dlt_some e)
  have tt : ∀ x l, dlt H b x = some (.tup l) → dlt H' b x = some (.tup l) := fun x l e => kt x _ e (ne_kind e hl (fun z => by cases z))
  have hB' : BagI (rst H' (own5 D.p D.k D.l kd pl)) b := j.bag.same fun x o e => rst_at (k x o (own5_not.mp (rst_in e).1).2.2.2.1 (rst_in e).2) (rst_in e).1
  have bt : ∀ {x l}, H x = some (.tup l) → dlt H b x = some (.tup l) := fun {x l} e => dlt_at e (bag_ne j.b e)
  refine ⟨⟨kt _ _ j.dk.ins (ne_kind j.dk.ins hl (fun z => by cases z)), ⟨kt _ _ j.dk.kept.1 (Ne.symm j.ne2), fun e he => tt _ _ (j.dk.kept.2 e he)⟩, kt _ _ j.dk.pend (ne_kind j.dk.pend hl (fun z => by cases z)), fun z hz => ⟨tt _ _ (j.dk.prs z hz).1, tt _ _ (j.dk.prs z hz).2⟩, j.dk.se, j.dk.sp, j.dk.nd⟩,
    ⟨dlt_at hl' bl, fun e he => ?_⟩, kt _ _ j.pe (ne_kind j.pe hl (fun z => by cases z)), fun z hz => ⟨tt _ _ (j.prs z hz).1, tt _ _ (j.prs z hz).2⟩, j.ne1, j.ne2, hB', tabs_keep j.tab fun x o e _ n2 _ => k x o (ne_kind e (dlt_same _ b _ _ hl) fun z => n2 _ z) e⟩
  rcases putE_mem he with h | h
  · exact tt _ _ (j.kp.2 e h)
  · rw [h]
    exact tt _ _ (bt h2)
theorem JH.fresh {Tt : List (Addr × Str)} {C l0 : Addr} {H : Hp} {b kd pl : Addr} {D : Dsk} {kes : List Ent} {lp : List Pnd} (j : JH Tt C H b kd pl D kes lp) (n : H l0 = none) : JH Tt C (upd H l0 (.lst [])) b kd l0 D kes [] := by
  have s := same_upd (o := .lst []) n
  have f := FX.of (Tt := Tt) (b := b) s
  have j2 := j.fx f
  refine ⟨j2.dk, j2.kp, dlt_at upd_same (bag_fresh j.b n), fun z hz => (nomatch hz), fun z => ?_, j.ne2, ?_, j2.tab⟩
  · have := dlt_same _ b _ _ j.dk.pend
    rw [← z, n] at this
    cases this
  · refine j.bag.same fun x o e => ?_
    obtain ⟨e1, e2⟩ := rst_in e
    obtain ⟨n1, n2, n3, n4, n5⟩ := own5_not.mp e1
    exact rst_at (s _ _ e2) (own5_not.mpr ⟨n1, n2, n3, n4, ne_of_none e2 n⟩)
theorem rdC_pn (M : List Pg) (lp : List Pnd) (n : Int) : rdC M (pnC lp) n = match (lp.filter fun z => decide (z.2.1 = n)).getLast? with
    | some z => some z.2.2.2
    | none => dgC M n := by
  have e2 : ((pnC lp).filter fun z => decide (z.1 = n)).getLast? = ((lp.filter fun z => decide (z.2.1 = n)).getLast?).map fun z => (z.2.1, z.2.2.2) := by
    unfold pnC
    rw [List.filter_map, List.getLast?_map]
    rfl
  unfold rdC
  rw [e2]
  cases (lp.filter fun z => decide (z.2.1 = n)).getLast? <;> rfl
theorem rdP_at {C : Addr} {H : Hp} {D : Dsk} {n : Int} {x : Addr × List Int} (h : DkI C H D) (e : rdP D.es D.pn n = some x) : H x.1 = some (.tup (x.2.map V.int)) := by
  unfold rdP at e
  split at e
  · rename_i z hz
    have hm := List.mem_reverse.mp (List.mem_of_find?_eq_some hz)
    cases (Option.some.inj e)
    exact (h.prs z hm).2
  · obtain ⟨y, hy, rfl⟩ := Option.map_eq_some_iff.mp e
    exact h.kept.2 y (List.mem_of_find?_eq_some hy)
def rdD : Option (List Int) → PyData
  | some ns => .tuple (ns.map .int)
  | none => .list [.str "nothing"]
theorem cut_lastL (xs : List V) : cutV xs (some (-1)) none = xs.drop (xs.length - 1) := by
  unfold cutV
  have e : HT.sIx xs.length 0 (some (-1)) = xs.length - 1 := by
    unfold HT.sIx
    simp
    omega
  have e2 : HT.sIx xs.length xs.length none = xs.length := HT.sIx_none ..
  rw [e, e2]
  apply List.take_of_length_le
  rw [List.length_drop]
  omega
theorem plD_pairs : ∀ M : List Pg, plDs (M.map pairD) = true
  | [] => rfl
  | x :: M => by
    have pi : ∀ ns : List Int, plDs (ns.map PyData.int) = true := by
      intro ns
      induction ns with
      | nil => rfl
      | cons n ns ih =>
        rw [List.map_cons, plDs, ih]
        rfl
    rw [List.map_cons, plDs, plD_pairs M, pairD, plD, plDs, plDs, plD, plDs, plD, pi]
    rfl
theorem nodic_pairs : ∀ M : List Pg, nodics (M.map pairD) = true
  | [] => rfl
  | x :: M => by
    show ((true && (nodics (x.2.map PyData.int) && true)) && nodics (M.map pairD)) = true
    rw [nodics_ints, nodic_pairs M]
    rfl
theorem dsz_pairs : ∀ M : List Pg, (∀ x ∈ M, x.2.length = 64) → dszs (M.map pairD) = M.length * 67
  | [], _ => rfl
  | x :: M, h => by
    show 1 + (1 + ((1 + dszs (x.2.map PyData.int)) + 0)) + dszs (M.map pairD) = _
    rw [dsz_pairs M fun y hy => h y (List.mem_cons_of_mem _ hy), dszs_ints, h x List.mem_cons_self, List.length_cons]
    omega
theorem zip_pnd {H : Hp} : ∀ (ps : List (Addr × Int × Addr)) (fs : List Ent), fs.map (fun e => (e.1, e.2.1)) = ps.map (·.2) → (∀ z ∈ ps, H z.1 = some (.tup [.int z.2.1, .ref z.2.2])) → (∀ e ∈ fs, H e.2.1 = some (.tup (e.2.2.map V.int))) →
    ∃ qs : List Pnd, qs.map (fun z => V.ref z.1) = ps.map (fun z => V.ref z.1) ∧ pnE qs = fs ∧ ∀ z ∈ qs, H z.1 = some (.tup [.int z.2.1, .ref z.2.2.1]) ∧ H z.2.2.1 = some (.tup (z.2.2.2.map V.int))
  | [], [], _, _, _ => ⟨[], rfl, rfl, fun z hz => (nomatch hz)⟩
  | [], _ :: _, e, _, _ => by cases e
  | _ :: _, [], e, _, _ => by cases e
  | z :: ps, y :: fs, e, h1, h2 => by
    rw [List.map_cons, List.map_cons] at e
    obtain ⟨e1, e2⟩ := List.cons.inj e
    obtain ⟨qs, q1, q2, q3⟩ := zip_pnd ps fs e2 (fun w hw => h1 w (List.mem_cons_of_mem _ hw)) (fun w hw => h2 w (List.mem_cons_of_mem _ hw))
    have k1 := h1 z List.mem_cons_self
    rw [← e1] at k1
    refine ⟨(z.1, y) :: qs, by rw [List.map_cons, List.map_cons, q1], ?_, fun w hw => ?_⟩
    · show y :: pnE qs = y :: fs
      rw [q2]
    · rcases List.mem_cons.mp hw with rfl | hw
      · exact ⟨k1, h2 y List.mem_cons_self⟩
      · exact q3 w hw
theorem items_pnd {H H' : Hp} {a : Addr} {es : List Ent} {ps0 : List (Addr × Int × Addr)} (h : DictI H a es) (s : Same H H') (hp : (ps0.map (·.2)).Perm (es.map fun e => (e.1, e.2.1))) (hs : (ps0.map (·.2)).Pairwise fun e f => e.1 ≤ f.1) (hz : ∀ z ∈ ps0, H' z.1 = some (.tup [.int z.2.1, .ref z.2.2])) :
    ∃ ps : List Pnd, ps0.map (fun z => V.ref z.1) = ps.map (fun z => V.ref z.1) ∧ (pnC ps).Perm (esC es) ∧ (pnC ps).Pairwise (fun x y => x.1 ≤ y.1) ∧ ∀ z ∈ ps, H' z.1 = some (.tup [.int z.2.1, .ref z.2.2.1]) ∧ H' z.2.2.1 = some (.tup (z.2.2.2.map V.int)) := by
  obtain ⟨fs, pf, ef⟩ := L2.perm_lift (fun e : Ent => (e.1, e.2.1)) hp es rfl
  obtain ⟨qs, q1, q2, q3⟩ := zip_pnd (H := H') ps0 fs ef hz fun e he => s _ _ (h.2 e (pf.mem_iff.mp he))
  refine ⟨qs, q1.symm, ?_, ?_, q3⟩
  · rw [← pnC_es, q2]
    exact pf.map _
  · rw [← pnC_es, q2]
    unfold esC
    rw [List.pairwise_map]
    rw [← ef, List.pairwise_map] at hs
    exact hs
theorem rdC_mem {M N : List Pg} {n : Int} {ns : List Int} (h : rdC M N n = some ns) : ∃ x ∈ M ++ N, x.2 = ns := by
  unfold rdC at h
  split at h
  · rename_i z hz
    exact ⟨z, List.mem_append_right _ (List.mem_filter.mp (List.mem_of_getLast? hz)).1, Option.some.inj h⟩
  · unfold dgC at h
    obtain ⟨y, hy, e⟩ := Option.map_eq_some_iff.mp h
    exact ⟨y, List.mem_append_left _ (List.mem_of_find?_eq_some hy), e⟩
theorem nodic_rd (o : Option (List Int)) : nodic (rdD o) = true := by
  cases o with
  | none => rfl
  | some ns =>
    show nodics (ns.map PyData.int) = true
    exact nodics_ints ns
theorem FX.ownD {Tt : List (Addr × Str)} {b l : Addr} {H H' : Hp} {xs ys : List (Key × V)} (f : FX Tt b H H') (hl : H l = none) (h' : H' l = some (.dK xs)) : FX Tt b H (upd H' l (.dK ys)) := by
  refine ⟨fun y o e n => ?_, fun S hS => ?_, fun hB hT => ?_⟩
  · have hy : y ≠ l := ne_of_none (dlt_same H b _ _ e) hl
    have h1 := f.x y o e n
    exact dlt_at (by rw [upd_ne hy]; exact dlt_same H' b _ _ h1) (dlt_some e)
  · have h1 : BagI (rst H fun x => decide (x = l) || S x) b := by
      refine hS.same fun x o e => ?_
      obtain ⟨e1, e2⟩ := rst_in e
      exact rst_at e2 (by rw [e1, decide_eq_false (ne_of_none e2 hl)]; rfl)
    refine (f.c _ h1).same fun x o e => ?_
    obtain ⟨e1, e2⟩ := rst_in e
    rw [Bool.or_eq_false_iff, decide_eq_false_iff_not] at e1
    exact rst_at (by rw [upd_ne e1.1]; exact e2) e1.2
  · exact tabs_keep (f.tab hB hT) fun x o e _ n2 _ => by
      rw [upd_ne (ne_kind e h' fun z => n2 _ z)]
      exact e
theorem rises_snoc : ∀ (l : List Int) (x : Int), risesB l = true → (∀ y ∈ l, y < x) → risesB (l ++ [x]) = true
  | [], _, _, _ => rfl
  | [a], x, _, h => by
    show (decide (a < x) && true) = true
    rw [decide_eq_true (h a List.mem_cons_self)]
    rfl
  | a :: b :: r, x, h1, h2 => by
    have h1 : (decide (a < b) && risesB (b :: r)) = true := h1
    rw [Bool.and_eq_true] at h1
    show (decide (a < b) && risesB ((b :: r) ++ [x])) = true
    rw [h1.1, rises_snoc (b :: r) x h1.2 fun y hy => h2 y (List.mem_cons_of_mem _ hy)]
    rfl
theorem lots_in : ∀ (n : Nat) (l : List Int), l ∈ lotsOf n → (∀ y ∈ l, 0 ≤ y ∧ y < (n : Int)) ∧ risesB l = true ∧ l.length ≤ n
  | 0, l, h => by
    rw [List.mem_singleton.mp h]
    exact ⟨fun y hy => (nomatch hy), rfl, Nat.le_refl _⟩
  | n + 1, l, h => by
    rw [lotsOf] at h
    rcases List.mem_append.mp h with h | h
    · obtain ⟨h1, h2, h3⟩ := lots_in n l h
      exact ⟨fun y hy => ⟨(h1 y hy).1, by have := (h1 y hy).2; omega⟩, h2, by omega⟩
    · obtain ⟨m, hm, rfl⟩ := List.mem_map.mp h
      obtain ⟨h1, h2, h3⟩ := lots_in n m hm
      refine ⟨fun y hy => ?_, rises_snoc m n h2 fun y hy => (h1 y hy).2, by rw [List.length_append]; show m.length + 1 ≤ n + 1; omega⟩
      rcases List.mem_append.mp hy with hy | hy
      · exact ⟨(h1 y hy).1, by have := (h1 y hy).2; omega⟩
      · rw [List.mem_singleton.mp hy]
        omega
theorem lots_ok {n : Nat} {l : List Int} (h : l ∈ lotsOf n) : lotOk (.tuple (l.map PyData.int)) n = true := by
  obtain ⟨h1, h2, _⟩ := lots_in n l h
  have e : areInts (.tuple (l.map PyData.int)) = true := by
    show (l.map PyData.int).all isInt = true
    rw [List.all_map]
    exact List.all_eq_true.mpr fun _ _ => rfl
  unfold lotOk
  rw [e, intsOf_t, h2, List.all_eq_true.mpr fun y hy => by unfold inB; rw [decide_eq_true (h1 y hy).1, decide_eq_true (h1 y hy).2]; rfl]
  rfl
theorem pnC_picks (pn : List Pnd) (ns : List Int) : pnC (picks pn ns) = ns.filterMap fun n => (pnC pn)[n.toNat]? := by
  unfold pnC picks
  rw [List.map_filterMap]
  congr 1
  funext n
  rw [List.getElem?_map]
theorem rp_lots {H : Hp} : ∀ {L : List (Addr × List Int)}, (∀ z ∈ L, H z.1 = some (.tup (z.2.map V.int))) → RpA H (L.map fun z => V.ref z.1) ((L.map (·.2)).map fun l => PyData.tuple (l.map PyData.int))
  | [], _ => .nil
  | z :: L, h => .cons (.tup (h z List.mem_cons_self) (.ints _)) (rp_lots fun y hy => h y (List.mem_cons_of_mem _ hy))
theorem refs_ne {H : Hp} {b p : Addr} {L : List Addr} (hB : BagI H b) (h : H p = some (.lst (L.map V.ref))) : p ≠ b := fun e => by
  obtain ⟨_, _, _, _, _, hb, _⟩ := hB
  rw [e, hb] at h
  injection h with h
  injection h with h
  cases L with
  | nil => cases h
  | cons x r =>
    injection h with h _
    cases h
theorem nodic_lots : ∀ LL : List (List Int), nodics (LL.map fun l => PyData.tuple (l.map PyData.int)) = true
  | [] => rfl
  | l :: LL => by
    show (nodics (l.map PyData.int) && nodics (LL.map fun l => PyData.tuple (l.map PyData.int))) = true
    rw [nodics_ints, nodic_lots LL]
    rfl
theorem dsz_lots : ∀ LL : List (List Int), (∀ l ∈ LL, l.length ≤ 10) → dszs (LL.map fun l => PyData.tuple (l.map PyData.int)) ≤ 11 * LL.length
  | [], _ => Nat.le_refl _
  | l :: LL, h => by
    have ih := dsz_lots LL fun y hy => h y (List.mem_cons_of_mem _ hy)
    have h1 := h l List.mem_cons_self
    show (1 + dszs (l.map PyData.int)) + dszs (LL.map fun l => PyData.tuple (l.map PyData.int)) ≤ _
    rw [dszs_ints, List.length_cons]
    omega
end Net
namespace NetR
open PySem PySem.Spec PyProof.Rows L2
def rRepS : R2 := fun x y H Q => ∃ z k, x = .str z ∧ y = .int k ∧ 2 ≤ k ∧ k ≤ 1000 ∧ z.length ≤ 1000 ∧ z.length ≠ 0 ∧ (⟨(List.replicate k.toNat z.cps).foldl (· ++ ·) #[]⟩ : Str).length ≤ sizeLine ∧ Q (.str ⟨(List.replicate k.toNat z.cps).foldl (· ++ ·) #[]⟩) H
theorem op_repS {X : Cx} : OpR X (binaryOp .Mult) rRepS := by
  intro pins s σ H x y v u Q I rx ry h
  obtain ⟨z, k, rfl, rfl, h1, h2, h3, h4, h5, q⟩ := h
  obtain ⟨t, rfl⟩ := rx
  obtain ⟨t', rfl⟩ := ry
  have e1 : ¬ k < 1 := by omega
  have e2 : (k == 1 || z.length == 0) = false := by
    rw [Bool.or_eq_false_iff]
    exact ⟨by simpa using (show k ≠ 1 by omega), by simpa using h4⟩
  refine P.mul_str (by rw [decide_eq_false (by omega), decide_eq_false (by omega)]; rfl) (fun _ _ => ?_) (fun _ _ => ?_) ?_
  · have : (9223372036854775 : Int) ≤ (2 ^ 63 - 1) / k := by
      refine Int.le_ediv_of_mul_le (by omega) ?_
      have : (9223372036854775 : Int) * k ≤ 9223372036854775 * 1000 := Int.mul_le_mul_of_nonneg_left h2 (by omega)
      omega
    omega
  · have hm : z.length * k.toNat ≤ 1000 * 1000 := Nat.mul_le_mul h3 (by omega)
    unfold Builtin.Str.tooLong
    have hb := Net.sl_big
    exact decide_eq_false (by omega)
  · rw [if_neg e1, if_neg (by rw [e2]; exact Bool.false_ne_true)]
    refine ⟨?_, ?_⟩
    · exact h5
    · exact ⟨.str _, H, I.tok _, ⟨_, rfl⟩, q⟩
end NetR
namespace Net
open PySem PySem.Spec PyProof.Rows L2 NetR
def zz : Nat → Nat
  | 0 => 1
  | i + 1 => 1 + 3 * zz i
def gd (i : Nat) (d : PyData) : Bool := isDat d && plD d && dok d && (nodic d && dtx d) && decide (dsz d ≤ zz i) && decide (ddep d ≤ i + 1)
theorem zz_mono : ∀ i, zz i ≤ zz (i + 1) := fun i => by rw [zz]; omega
theorem gd_mono {i : Nat} {d : PyData} (h : gd i d = true) : gd (i + 1) d = true := by
  unfold gd at h ⊢
  simp only [Bool.and_eq_true, decide_eq_true_eq] at h ⊢
  have := zz_mono i
  exact ⟨⟨h.1.1, by omega⟩, by omega⟩
theorem gd_tup {i : Nat} {es : List PyData} (h : ∀ d ∈ es, gd i d = true) (hl : es.length ≤ 3) : gd (i + 1) (.tuple es) = true := by
  have hb : isDats es = true ∧ plDs es = true ∧ doks es = true ∧ (nodics es = true ∧ dtxs es = true) ∧ dszs es ≤ es.length * zz i ∧ ddeps es ≤ i + 1 := by
    clear hl
    induction es with
    | nil => exact ⟨rfl, rfl, rfl, ⟨rfl, rfl⟩, Nat.zero_le _, Nat.zero_le _⟩
    | cons d es ih =>
      have h0 := h d List.mem_cons_self
      obtain ⟨a1, a2, a3, a4, a5, a6⟩ := ih fun e he => h e (List.mem_cons_of_mem _ he)
      unfold gd at h0
      simp only [Bool.and_eq_true, decide_eq_true_eq] at h0
      obtain ⟨⟨⟨⟨⟨b1, b2⟩, b3⟩, b4⟩, b5⟩, b6⟩ := h0
      refine ⟨by rw [isDats, b1, a1]; rfl, by rw [plDs, b2, a2]; rfl, by rw [doks, b3, a3]; rfl, ⟨by rw [nodics, b4.1, a4.1]; rfl, by rw [dtxs, b4.2, a4.2]; rfl⟩, ?_, ?_⟩
      · rw [dszs, List.length_cons, Nat.add_mul, Nat.one_mul]
        omega
      · rw [ddeps]
        exact Nat.max_le.mpr ⟨b6, a6⟩
  obtain ⟨a1, a2, a3, a4, a5, a6⟩ := hb
  have e1 : isDat (.tuple es) = true := by rw [isDat]; exact a1
  have e2 : plD (.tuple es) = true := by rw [plD]; exact a2
  have e3 : dok (.tuple es) = true := by rw [dok]; exact a3
  have e4 : nodic (.tuple es) = true := by rw [nodic]; exact a4.1
  have e4b : dtx (.tuple es) = true := by rw [dtx]; exact a4.2
  have e5 : es.length * zz i ≤ 3 * zz i := Nat.mul_le_mul_right _ hl
  unfold gd
  rw [e1, e2, e3, e4, e4b]
  simp only [Bool.true_and, Bool.and_eq_true, decide_eq_true_eq]
  refine ⟨?_, ?_⟩
  · show 1 + dszs es ≤ 1 + 3 * zz i
    omega
  · show 1 + ddeps es ≤ i + 1 + 1
    omega
theorem cut_negN (xs : List V) (k : Nat) (hk : 0 < k) : cutV xs (some (-(k : Int))) none = xs.drop (xs.length - k) := by
  unfold cutV
  have e : HT.sIx xs.length 0 (some (-(k : Int))) = xs.length - k := by
    unfold HT.sIx
    simp [hk]
    omega
  have e2 : HT.sIx xs.length xs.length none = xs.length := HT.sIx_none ..
  rw [e, e2]
  apply List.take_of_length_le
  rw [List.length_drop]
  omega
def sp_ldata : Sp := fun vs H Q E => ∃ b, vs = [.ref b] ∧ BagI H b ∧ ∀ H' v d, SB b H H' → BagI H' b → Rp (dlt H' b) v d → gd 5 d = true → Q v H'
def zs9 : Str := ⟨(List.replicate 9 ("z" : Str).cps).foldl (· ++ ·) #[]⟩
section
variable {P : Program} {w : World} {K : PySem.W.Frag} {mg : Str → Option Value} {base : Heap}
abbrev s__law_data : Stmt := top 49
theorem sc__law_data : FnScope ["bag", "pool", "turn", "one"] ["bag"] (defScope s__law_data) := ⟨rfl, rfl, rfl, by decide +kernel, rfl, by decide +kernel, by decide +kernel⟩
theorem ok_ldata {f f__law_take f__law_some : Addr} {fd fd1 fd2 : FuncData} (F : Fun K "_law_data" "_law_data" s__law_data f fd) (T : Tx mg) (d__law_take : Ok1 P w K mg base CX0 1 "_law_take" ["bag", "many"] sp_take f__law_take fd1)
    (d__law_some : Ok1 P w K mg base CX0 2 "_law_some" ["bag", "things"] sp_some f__law_some fd2) : FnOk P w K mg base CX0 3 f fd ["bag"] sp_ldata := by
  refine F.ok sc__law_data (fun vs H Q E h => ?_) (fun cdv A outer s H vs Q E hr h => ?_)
  · obtain ⟨b, rfl, _⟩ := h
    rfl
  · obtain ⟨b, rfl, hB, q⟩ := h
    refine ⟨_, (pss_cons (ps_set (i := 1) sc__law_data.nd rfl (Or.inr rfl) (pe_lst (pa_cons pe_int (pa_cons pe_int (pa_cons pe_int (pa_cons pe_int (pa_cons pe_int (pa_cons pe_int (pa_cons pe_int (pa_cons pe_str (pa_cons pe_str (pa_cons pe_str (pa_cons (pe_op op_repS pe_str pe_int) (pa_cons pe_str (pa_cons pe_str (pa_cons (pe_tup pa_nil) pa_nil))))))))))))))))
      (pss_cons (ps_for PassesOwn.never rfl (pi_range1 (by rfl) T.n_range (pa_cons (pe_op op_add pe_int (pe_call d__law_take.ok (hr.mono (by decide)) rfl d__law_take.g d__law_take.kp d__law_take.b .nil pass0 (pa_cons (pv 0) (pa_cons pe_int pa_nil)))) pa_nil)) (pg_name (i := 2) sc__law_data.nd rfl (Or.inl rfl)) (pss_one (ps_expr (pe_bm PySem.F.plainAttrs_list PySem.F.slot_list_append PySem.F.type_list_append mt_append (pv 1) (pa_cons (pe_callTy call_tuple_of (by rfl) T.n_tuple (by decide +kernel) (pa_cons (pe_lc (own := [("one", 3)]) (g := gName 3) (tt := tYes) rfl sc__law_data.nd (pi_range1 (by rfl) T.n_range (pa_cons (pe_call d__law_take.ok (hr.mono (by decide)) rfl d__law_take.g d__law_take.kp d__law_take.b .nil pass0 (pa_cons (pv 0) (pa_cons pe_int pa_nil))) pa_nil)) (blkOk_by (N := ["bag", "pool", "turn", "one"]) (sc := defScope s__law_data) (by decide +kernel)) (fun _ _ _ _ _ => pg_name (i := 3) sc__law_data.nd rfl (Or.inl rfl)) (fun _ _ _ _ _ => pts_nil) (fun _ _ _ _ _ => (pe_call d__law_some.ok (hr.mono (by decide)) rfl d__law_some.g d__law_some.kp d__law_some.b .nil pass0 (pa_cons (pv 0) (pa_cons (pe_slice (show SlR _ (rSlL K) from sl_list) (pv 1) (po_some (pe_un un_neg pe_int)) po_none) pa_nil))))) pa_nil)) pa_nil)))))
      (pss_one (ps_ret (pe_call d__law_some.ok (hr.mono (by decide)) rfl d__law_some.g d__law_some.kp d__law_some.b .nil pass0 (pa_cons (pv 0) (pa_cons (pe_op op_cat (pe_slice sl_list (pv 1) po_none (po_some pe_int)) (pe_slice sl_list (pv 1) (po_some (pe_un un_neg pe_int)) po_none)) pa_nil))))))), ?_⟩
    have hbig := sl_big
    refine ⟨_, _, rfl, rfl, by decide, by decide, by decide, by decide, (by rw [sizeLine_eq]; decide +kernel), Nat.zero_le _, fun p3 n3 => ⟨(by show 14 ≤ sizeLine; omega), fun l nl => ?_⟩⟩
    have e3 := same_upd (o := .tup []) n3
    have nb3 := bag_fresh hB n3
    have nbl := bag_fresh (hB.same e3) nl
    have e4 : ∀ o, Same (upd H p3 (.tup [])) (upd (upd H p3 (.tup [])) l o) := fun o => same_upd nl
    have hl4 : (upd (upd H p3 (.tup [])) l (.lst [.int 0, .int 1, .int 7, .int 255, .int 256, .int 300, .int 65535, .str "", .str "a", .str "net x;", .str ⟨(List.replicate ((9 : Int).toNat) ("z" : Str).cps).foldl (· ++ ·) #[]⟩, .str "\n 0<9", .str "on 3", .ref p3])) l = some (.lst [.int 0, .int 1, .int 7, .int 255, .int 256, .int 300, .int 65535, .str "", .str "a", .str "net x;", .str ⟨(List.replicate ((9 : Int).toNat) ("z" : Str).cps).foldl (· ++ ·) #[]⟩, .str "\n 0<9", .str "on 3", .ref p3]) := upd_same
    have nlH : H l = none := (SB.of (b := b) e3).free nl nbl
    have k4 : ∀ o, Same (dlt (upd H p3 (.tup [])) b) (dlt (dlt (upd (upd H p3 (.tup [])) l o) b) l) := fun o x u e => by
      have hxl : x ≠ l := ne_of_none (dlt_same _ b _ _ e) nl
      exact dlt_at (dlt_mono (e4 o) _ _ e) hxl
    have hA0 : RpA (dlt (dlt (upd (upd H p3 (.tup [])) l (.lst [.int 0, .int 1, .int 7, .int 255, .int 256, .int 300, .int 65535, .str "", .str "a", .str "net x;", .str ⟨(List.replicate ((9 : Int).toNat) ("z" : Str).cps).foldl (· ++ ·) #[]⟩, .str "\n 0<9", .str "on 3", .ref p3])) b) l) [.int 0, .int 1, .int 7, .int 255, .int 256, .int 300, .int 65535, .str "", .str "a", .str "net x;", .str ⟨(List.replicate ((9 : Int).toNat) ("z" : Str).cps).foldl (· ++ ·) #[]⟩, .str "\n 0<9", .str "on 3", .ref p3] [.int 0, .int 1, .int 7, .int 255, .int 256, .int 300, .int 65535, .str "", .str "a", .str "net x;", .str ⟨(List.replicate ((9 : Int).toNat) ("z" : Str).cps).foldl (· ++ ·) #[]⟩, .str "\n 0<9", .str "on 3", .tuple []] := by
      have r3 : Rp (dlt (upd H p3 (.tup [])) b) (.ref p3) (.tuple []) := .tup (dlt_at upd_same nb3) .nil
      exact RpA.same (.cons (.int _) (.cons (.int _) (.cons (.int _) (.cons (.int _) (.cons (.int _) (.cons (.int _) (.cons (.int _) (.cons (.str _) (.cons (.str _) (.cons (.str _) (.cons (.str _) (.cons (.str _) (.cons (.str _) (.one r3)))))))))))))) (k4 _)
    have g0 : ∀ d ∈ ([.int 0, .int 1, .int 7, .int 255, .int 256, .int 300, .int 65535, .str "", .str "a", .str "net x;", .str ⟨(List.replicate ((9 : Int).toNat) ("z" : Str).cps).foldl (· ++ ·) #[]⟩, .str "\n 0<9", .str "on 3", .tuple []] : List PyData), gd 0 d = true := by decide +kernel
    have s4 : SB b H (upd (upd H p3 (.tup [])) l (.lst [.int 0, .int 1, .int 7, .int 255, .int 256, .int 300, .int 65535, .str "", .str "a", .str "net x;", .str ⟨(List.replicate ((9 : Int).toNat) ("z" : Str).cps).foldl (· ++ ·) #[]⟩, .str "\n 0<9", .str "on 3", .ref p3])) := SB.of (e3.trans (e4 _))
    have hB4 := hB.same (e3.trans (e4 (.lst [.int 0, .int 1, .int 7, .int 255, .int 256, .int 300, .int 65535, .str "", .str "a", .str "net x;", .str ⟨(List.replicate ((9 : Int).toNat) ("z" : Str).cps).foldl (· ++ ·) #[]⟩, .str "\n 0<9", .str "on 3", .ref p3])))
    have hn0 : ([.int 0, .int 1, .int 7, .int 255, .int 256, .int 300, .int 65535, .str "", .str "a", .str "net x;", .str ⟨(List.replicate ((9 : Int).toNat) ("z" : Str).cps).foldl (· ++ ·) #[]⟩, .str "\n 0<9", .str "on 3", .ref p3] : List V).length = 14 := rfl
    generalize upd (upd H p3 (.tup [])) l (.lst [.int 0, .int 1, .int 7, .int 255, .int 256, .int 300, .int 65535, .str "", .str "a", .str "net x;", .str ⟨(List.replicate ((9 : Int).toNat) ("z" : Str).cps).foldl (· ++ ·) #[]⟩, .str "\n 0<9", .str "on 3", .ref p3]) = H4 at s4 hB4 hl4 hA0 ⊢
    generalize ([.int 0, .int 1, .int 7, .int 255, .int 256, .int 300, .int 65535, .str "", .str "a", .str "net x;", .str ⟨(List.replicate ((9 : Int).toNat) ("z" : Str).cps).foldl (· ++ ·) #[]⟩, .str "\n 0<9", .str "on 3", .ref p3] : List V) = ws0 at hl4 hA0 hn0
    generalize ([.int 0, .int 1, .int 7, .int 255, .int 256, .int 300, .int 65535, .str "", .str "a", .str "net x;", .str ⟨(List.replicate ((9 : Int).toNat) ("z" : Str).cps).foldl (· ++ ·) #[]⟩, .str "\n 0<9", .str "on 3", .tuple []] : List PyData) = es0 at hA0 g0
    refine ⟨_, rfl, b, 5, rfl, hB4, by decide, by decide, fun H5 n s5 hB5 n0 n5 => ⟨_, _, rfl, rfl, ?_⟩⟩
    have hl5 := s5.at_ hl4 nbl
    refine ⟨1 + n, rfl, by omega, by omega, for_range (lo := 0) (n := (1 + n).toNat) (fun i σ H6 => ∃ (ws : List V) (ds : List PyData) (c e : Option V), σ = [some (.ref b), some (.ref l), c, e] ∧ SB b H H6 ∧ BagI H6 b ∧ H6 l = some (.lst ws) ∧ ws.length = 14 + i ∧ RpA (dlt (dlt H6 b) l) ws ds ∧ ∀ d ∈ ds, gd i d = true)
      ⟨ws0, es0, _, _, rfl, s4.trans s5, hB5, hl5, hn0, hA0.same (dlt_mono s5.s), g0⟩ ?_ ?_⟩
    · rintro i σ6 H6 hi ⟨ws, ds, c, e, rfl, s6, hB6, hl6, hwl, hA6, hg6⟩
      have hi5 : i < 5 := by omega
      refine ⟨_, rfl, .inl ⟨rfl, _, SqL.of hl6⟩, _, rfl, b, 4, rfl, hB6, by decide, by decide, fun H7 k s7 hB7 k0 k4' => ⟨k, rfl, by omega, by omega, fun D hD => ?_⟩⟩
      have hl7 := s7.at_ hl6 nbl
      have nDb := bag_fresh hB7 hD
      refine lc_range (lo := 0) (n := k.toNat) (fun j H8 => ∃ us, H8 D = some (.lst us) ∧ (∀ u ∈ us, u ∈ ws) ∧ us.length = j ∧ SB b H7 H8)
        ⟨[], upd_same, fun u hu => (nomatch hu), rfl, SB.of (same_upd hD)⟩ ?_ ?_
      · rintro j H8 hj ⟨us, hD8, hus, hul, s8⟩
        refine ⟨rfl, _, rfl, _, rfl, _, rfl, ?_⟩
        dsimp only [tNoPart]
        have hl8 := s8.at_ hl7 nbl
        refine ⟨_, rfl, l, _, rfl, .inl (.inl hl8), fun z1 m1 => ?_⟩
        rw [show (some (-5 : Int)) = some (-((5 : Nat) : Int)) from rfl, cut_negN _ _ (by decide)]
        have hB8 := s8.bag hB7
        have g1 := same_upd (o := .lst (ws.drop (ws.length - 5))) m1
        refine ⟨b, z1, _, rfl, hB8.same g1, bag_fresh hB8 m1, upd_same, ?_, by rw [List.length_drop]; omega, fun H9 u s9 hB9 hu => ?_⟩
        · intro z
          have := congrArg List.length z
          rw [List.length_drop] at this
          simp at this
          omega
        refine ⟨us, s9.at_ (g1 _ _ hD8) nDb, Nat.lt_of_lt_of_le (by omega) sl_big, us ++ [u], upd_same, fun y hy => ?_, by rw [List.length_append, hul]; rfl, (s8.trans ((SB.of g1).trans s9)).own hD⟩
        rcases List.mem_append.mp hy with h | h
        · exact hus y h
        · rw [List.mem_singleton.mp h]
          exact List.mem_of_mem_drop hu
      · rintro H8 ⟨us, hD8, hus, hul, s8⟩
        have hl8 := s8.at_ hl7 nbl
        have hA8 : RpA (dlt (dlt H8 b) l) ws ds := hA6.same (dlt_mono (s7.trans s8).s)
        refine ⟨D, us, rfl, .inl ⟨SqL.of hD8, fun p hp => ⟨l, _, _, rfl, rfl, same_upd hp _ _ hl8, Nat.lt_of_lt_of_le (by omega) sl_big, ?_⟩⟩⟩
        obtain ⟨es, hes, hge⟩ := rp_list (p := fun d => gd i d = true) fun u hu => by
          obtain ⟨d, h1, h2⟩ := hA8.mem (hus u hu)
          exact ⟨d, hg6 d h1, h2⟩
        have hB8 := s8.bag hB7
        have npb := bag_fresh hB8 hp
        have npl : p ≠ l := fun e => by
          rw [e, hl8] at hp
          cases hp
        have k9 : Same (dlt (dlt H8 b) l) (dlt (dlt (upd (upd H8 p (.tup us)) l (.lst (ws ++ [.ref p]))) b) l) := fun y o e => by
          have y1 := dlt_some e
          have e1 := dlt_same _ l _ _ e
          have y2 := dlt_some e1
          have e2 := dlt_same _ b _ _ e1
          exact dlt_at (dlt_at (by rw [upd_ne y1, upd_ne (ne_of_none e2 hp)]; exact e2) y2) y1
        have hp9 : (dlt (dlt (upd (upd H8 p (.tup us)) l (.lst (ws ++ [.ref p]))) b) l) p = some (.tup us) := dlt_at (dlt_at (by rw [upd_ne npl]; exact upd_same) npb) npl
        have s69 := s6.trans (s7.trans (s8.trans (SB.of (same_upd (o := .tup us) hp))))
        have s10 := s69.own (o := .lst (ws ++ [.ref p])) nlH
        refine ⟨ws ++ [.ref p], ds ++ [.tuple es], _, _, rfl, s10, s10.bag hB, upd_same, by rw [List.length_append, hwl]; rfl, (hA8.same k9).app (.one (.tup hp9 (hes.same k9))), fun d hd => ?_⟩
        rcases List.mem_append.mp hd with h | h
        · exact gd_mono (hg6 d h)
        · rw [List.mem_singleton.mp h]
          refine gd_tup hge ?_
          rw [← hes.len, hul]
          omega
    · rintro σ6 H6 ⟨ws, ds, c, e, rfl, s6, hB6, hl6, hwl, hA6, hg6⟩
      have hn5 : (1 + n).toNat ≤ 5 := by omega
      refine ⟨_, rfl, _, rfl, _, rfl, ?_⟩
      dsimp only [tNoPart]
      refine ⟨l, _, rfl, .inl (.inl hl6), fun z1 m1 => ?_⟩
      rw [show (some (7 : Int)) = some ((7 : Nat) : Int) from rfl, cut_take]
      have g1 := same_upd (o := .lst (ws.take 7)) m1
      have h1 := @upd_same H6 z1 (.lst (ws.take 7))
      generalize upd H6 z1 (.lst (ws.take 7)) = H7 at g1 h1 ⊢
      refine ⟨_, rfl, _, rfl, _, rfl, ?_⟩
      dsimp only [tNoPart]
      refine ⟨l, _, rfl, .inl (.inl (g1 _ _ hl6)), fun z2 m2 => ?_⟩
      rw [show (some (-8 : Int)) = some (-((8 : Nat) : Int)) from rfl, cut_negN _ _ (by decide)]
      have g2 := same_upd (o := .lst (ws.drop (ws.length - 8))) m2
      have h2 := @upd_same H7 z2 (.lst (ws.drop (ws.length - 8)))
      generalize upd H7 z2 (.lst (ws.drop (ws.length - 8))) = H8 at g2 h2 ⊢
      refine ⟨z1, z2, _, _, rfl, rfl, g2 _ _ h1, h2, by rw [List.length_take, List.length_drop]; omega, fun z3 m3 => ?_⟩
      have g3 := same_upd (o := .lst (ws.take 7 ++ ws.drop (ws.length - 8))) m3
      have gA := g1.trans (g2.trans g3)
      have hB9 := hB6.same gA
      refine ⟨b, z3, _, rfl, hB9, bag_fresh (hB6.same (g1.trans g2)) m3, upd_same, ?_, by rw [List.length_append, List.length_take, List.length_drop]; omega, fun H9 v s9 hB9' hv => ?_⟩
      · intro z
        have := congrArg List.length z
        rw [List.length_append, List.length_take, List.length_drop] at this
        simp at this
        omega
      have hm : v ∈ ws := by
        rcases List.mem_append.mp hv with h | h
        · exact List.mem_of_mem_take h
        · exact List.mem_of_mem_drop h
      obtain ⟨d, hd, hx⟩ := hA6.mem hm
      refine q H9 v d (s6.trans ((SB.of gA).trans s9)) hB9' (((hx.same (dlt_same _ _)).same (dlt_mono gA)).same s9.s) ?_
      have up : ∀ m j, gd j d = true → gd (j + m) d = true := fun m => by
        induction m with
        | zero => exact fun j h => h
        | succ m ih => exact fun j h => gd_mono (ih j h)
      have := up (5 - (1 + n).toNat) _ (hg6 d hd)
      rw [show (1 + n).toNat + (5 - (1 + n).toNat) = 5 by omega] at this
      exact this
end
end Net
namespace Net
open PySem PySem.Spec PyProof.Rows L2 NetR
def sp_lbytes : Sp := fun vs H Q E => ∃ v d, vs = [v] ∧ Rp H v d ∧ dok d = true ∧ dsz d ≤ 10000 ∧ (enc d).length ≤ 1000000 ∧ isDat d = true ∧ ∀ H' p, Same H H' → H' p = some (.lst ((enc d).map V.int)) → Q (.ref p) H'
def WLb (H0 : Hp) (v : V) (d : PyData) : Nat → L2.St → Hp → Prop := fun m σ H1 => ∃ f l a b fs vs ds, σ = [some v, some (.str cs_SIGNS), some (.ref l), some (.ref f), a, b] ∧ Same H0 H1 ∧ H0 l = none ∧ f ≠ l ∧ H1 f = some (.lst (fs.map V.int)) ∧ H1 l = some (.lst vs.reverse) ∧ RpA H0 vs ds ∧ isDats ds = true ∧ doks ds = true ∧ fs ++ encs ds = enc d ∧ m = dszs ds ∧ dszs ds ≤ 10000
section
variable {P : Program} {w : World} {K : PySem.W.Frag} {mg : Str → Option Value} {base : Heap}
abbrev s__law_bytes : Stmt := top 50
theorem sc__law_bytes : FnScope ["thing", "signs", "line", "found", "here", "sign"] ["thing"] (defScope s__law_bytes) := ⟨rfl, rfl, rfl, by decide +kernel, rfl, by decide +kernel, by decide +kernel⟩
theorem ok_lbytes {f : Addr} {fd : FuncData} (F : Fun K "_law_bytes" "_law_bytes" s__law_bytes f fd) (T : Tx mg) : FnOk P w K mg base CX0 2 f fd ["thing"] sp_lbytes := by
  refine F.ok sc__law_bytes (fun vs H Q E h => ?_) (fun cdv A outer s H vs Q E hr h => ?_)
  · obtain ⟨v, d, rfl, _⟩ := h
    rfl
  · obtain ⟨v, d, rfl, hv, hok, hsz, hEz, eD, q⟩ := h
    refine ⟨_, (pss_cons (ps_set (i := 1) sc__law_bytes.nd rfl (Or.inr rfl) pe_str)
      (pss_cons (ps_par (i := 2) (j := 3) (by rfl) sc__law_bytes.nd rfl rfl (by decide) rfl rfl (pa_cons (pe_lst (pa_cons (pv 0) pa_nil)) (pa_cons (pe_lst pa_nil) pa_nil)) (by rfl))
      (pss_cons (ps_while PassesOwn.never (pt_cmpR (op_neLE hr.units0) (pv 2) (pe_lst pa_nil) (nomark _)) (pss_cons (ps_set (i := 4) sc__law_bytes.nd rfl (Or.inl rfl) (pe_bm0 PySem.F.plainAttrs_list PySem.F.slot_list_pop PySem.F.type_list_pop mt_pop (pv 2)))
      (pss_one (ps_if (pt_val (pe_callB call_isi (by rfl) T.n_isinstance (by decide +kernel) (pa_cons (pv 4) (pa_cons (pe_bltn (v := .ty "tuple") (by rfl) T.n_tuple (by decide +kernel) rfl) pa_nil)))) (pss_cons (ps_set (i := 3) sc__law_bytes.nd rfl (Or.inl rfl) (pe_op op_cat (pv 3) (pe_lst (pa_cons pe_int (pa_cons (pe_op op_fdiv (pe_callB call_len (by rfl) T.n_len (by decide +kernel) (pa_cons (pv 4) pa_nil)) pe_int) (pa_cons (pe_op op_mod (pe_callB call_len (by rfl) T.n_len (by decide +kernel) (pa_cons (pv 4) pa_nil)) pe_int) pa_nil))))))
      (pss_one (ps_set (i := 2) sc__law_bytes.nd rfl (Or.inl rfl) (pe_op op_cat (pv 2) (pe_callTy call_list_of (by rfl) T.n_list (by decide +kernel) (pa_cons (pe_revT (pv 4)) pa_nil)))))) (pss_one (ps_if (pt_val (pe_callB call_isi (by rfl) T.n_isinstance (by decide +kernel) (pa_cons (pv 4) (pa_cons (pe_bltn (v := .ty "str") (by rfl) T.n_str (by decide +kernel) rfl) pa_nil)))) (pss_one (ps_set (i := 3) sc__law_bytes.nd rfl (Or.inl rfl) (pe_op op_cat (pe_op op_cat (pv 3) (pe_lst (pa_cons pe_int (pa_cons (pe_op op_fdiv (pe_callB call_len (by rfl) T.n_len (by decide +kernel) (pa_cons (pv 4) pa_nil)) pe_int) (pa_cons (pe_op op_mod (pe_callB call_len (by rfl) T.n_len (by decide +kernel) (pa_cons (pv 4) pa_nil)) pe_int) pa_nil))))) (pe_lc (own := [("sign", 5)]) (g := gName 5) (tt := tYes) (te := (tBM K "str" rSidx (tVar 1) (tCons (tVar 5) tNil))) rfl sc__law_bytes.nd (pi_str (pv 4)) (blkOk_by (N := ["thing", "signs", "line", "found", "here", "sign"]) (sc := defScope s__law_bytes) (by decide +kernel)) (fun _ _ _ _ _ => pg_name (i := 5) sc__law_bytes.nd rfl (Or.inl rfl)) (fun _ _ _ _ _ => pts_nil) (fun _ _ _ _ _ => by exact (pe_bm PySem.F.plainAttrs_str PySem.F.slot_str_index PySem.F.type_str_index mt_sindex (pv 1) (pa_cons (pv 5) pa_nil))))))) (pss_one (ps_set (i := 3) sc__law_bytes.nd rfl (Or.inl rfl) (pe_op op_cat (pv 3) (pe_lst (pa_cons pe_int (pa_cons (pe_op op_fdiv (pv 4) pe_int) (pa_cons (pe_op op_mod (pv 4) pe_int) pa_nil)))))))))))))
      (pss_one (ps_ret (pv 3)))))), ?_⟩
    have hbig := sl_big
    have hEl : (enc d).length ≤ 16000000 := by omega
    refine ⟨_, rfl, (by show 1 ≤ sizeLine; omega), fun l hl => ⟨Nat.zero_le _, fun f hf => ⟨_, _, rfl, ?_⟩⟩⟩
    have s1 : Same H (upd H l (.lst [v])) := same_upd hl
    have hl1 := @upd_same H l (.lst [v])
    have hfl : f ≠ l := fun e => by
      rw [e, hl1] at hf
      cases hf
    refine ⟨WLb H v d, ⟨_, ⟨f, l, none, none, [], [v], [d], rfl, s1.trans (same_upd hf), hl, hfl, upd_same, same_upd hf _ _ hl1, .one hv, by rw [isDats, eD]; rfl, by rw [doks, hok]; rfl, by rw [encs, encs, List.append_nil, List.nil_append], rfl, by show dsz d + 0 ≤ 10000; omega⟩⟩, ?_⟩
    rintro m σ1 H1 ⟨f, l, a, b, fs, vs, ds, rfl, sm, nl, hfl, hF, hL, hA, hD, hK, hE, rfl, hm⟩
    refine ⟨_, rfl, Nat.zero_le _, fun e he => ⟨l, e, _, rfl, rfl, SqL.of (same_upd he _ _ hL), SqL.of upd_same, _, rfl, ?_⟩⟩
    have se := same_upd (o := .lst []) he
    replace sm := sm.trans se
    replace hF := se _ _ hF
    replace hL := se _ _ hL
    generalize upd H1 e (.lst []) = H1 at sm hF hL
    cases hA with
    | nil =>
      refine iteF ?_
      have e : fs = enc d := by
        rw [← hE, encs, List.append_nil]
      exact ⟨_, rfl, q _ f sm (by rw [← e]; exact hF)⟩
    | @cons x vs' d' ds' hx hA' =>
      have hne : (!(x :: vs').reverse.isEmpty) = true := by simp
      rw [hne]
      refine iteT ⟨fun σ' H' => ∃ m', m' < dszs (d' :: ds') ∧ WLb H v d m' σ' H', fun _ _ h => h, ?_⟩
      rw [isDats, Bool.and_eq_true] at hD
      rw [doks, Bool.and_eq_true] at hK
      rw [encs] at hE
      have hlen : fs.length + ((enc d').length + (encs ds').length) = (enc d).length := by
        rw [← hE, List.length_append, List.length_append]
      have hm2 : dsz d' + dszs ds' ≤ 10000 := hm
      have hpos := dsz_pos d'
      refine ⟨_, rfl, .inl ⟨rfl, _, SqL.of hL⟩, l, _, x, rfl, rfl, hL, last_rev _ _, ?_⟩
      have sm2 : Same H (upd H1 l (.lst (x :: vs').reverse.dropLast)) := Same.own sm nl
      have hL2 : (upd H1 l (.lst (x :: vs').reverse.dropLast)) l = some (.lst vs'.reverse) := by
        rw [upd_same, drop_rev]
      have hF2 : (upd H1 l (.lst (x :: vs').reverse.dropLast)) f = some (.lst (fs.map V.int)) := by
        rw [upd_ne hfl]
        exact hF
      generalize upd H1 l (.lst (x :: vs').reverse.dropLast) = H2 at sm2 hL2 hF2
      have hx2 := hx.same sm2
      refine ⟨x, rfl, x, .ty "tuple", _, _, _, rfl, .ty _, hx2.ty, kit_tup d', _, rfl, ?_⟩
      have next : ∀ (H3 : Hp) (f' l' : Addr) (a b : Option V) (gs : List Int) (us : List V) (es : List PyData), Same H2 H3 → H l' = none → f' ≠ l' → H3 f' = some (.lst (gs.map V.int)) → H3 l' = some (.lst us.reverse) → RpA H us es → isDats es = true → doks es = true → gs ++ encs es = enc d → dszs es < dsz d' + dszs ds' → ∃ m', m' < dszs (d' :: ds') ∧ WLb H v d m' [some v, some (.str cs_SIGNS), some (.ref l'), some (.ref f'), a, b] H3 :=
        fun H3 f' l' a b gs us es s3 n3 h1 h2 h3 h4 h5 h6 h7 h8 => ⟨dszs es, h8, f', l', a, b, gs, us, es, rfl, sm2.trans s3, n3, h1, h2, h3, h4, h5, h6, h7, rfl, by omega⟩
      cases d' with
      | tuple cs =>
        cases hx with
        | @tup a2 xs _ ha0 hC =>
          have ha := sm2 _ _ ha0
          have hxl := hC.len
          have hcl := dszs_len cs
          have hdl := dszs_len ds'
          have hvl := hA'.len
          have hcs : 1 + dszs cs + dszs ds' ≤ 10000 := hm2
          have hn3 : (enc (.tuple cs)).length = (encs cs).length + 3 := by rw [enc]; rfl
          refine iteT ?_
          refine ⟨_, rfl, _, rfl, _, _, rfl, .inr ⟨_, .inl (.inl ha), rfl⟩, _, _, rfl, rfl, ⟨by decide, by decide⟩, _, rfl, _, _, rfl, .inr ⟨_, .inl (.inl ha), rfl⟩, _, _, rfl, rfl, (by show (0 : Int) < 256; decide), (by show 3 ≤ sizeLine; omega), fun p hp => ?_⟩
          have s3 := same_upd (o := .lst [.int 3, .int ((xs.length : Int) / 256), .int ((xs.length : Int) % 256)]) hp
          have hp3 := @upd_same H2 p (.lst [.int 3, .int ((xs.length : Int) / 256), .int ((xs.length : Int) % 256)])
          generalize upd H2 p (.lst [.int 3, .int ((xs.length : Int) / 256), .int ((xs.length : Int) % 256)]) = H3 at s3 hp3
          have hF3 := s3 _ _ hF2
          have hL3 := s3 _ _ hL2
          refine ⟨f, p, _, _, rfl, rfl, hF3, hp3, ?_, fun f4 hf4 => ?_⟩
          · rw [List.length_map]
            show fs.length + 3 ≤ sizeLine
            omega
          have s4 := same_upd (o := .lst (fs.map V.int ++ [.int 3, .int ((xs.length : Int) / 256), .int ((xs.length : Int) % 256)])) hf4
          have e4 : (fs.map V.int ++ [.int 3, .int ((xs.length : Int) / 256), .int ((xs.length : Int) % 256)]) = (fs ++ [3, (cs.length : Int) / 256, (cs.length : Int) % 256]).map V.int := by
            rw [List.map_append, hxl]
            rfl
          have hF4 := (@upd_same H3 f4 (.lst (fs.map V.int ++ [.int 3, .int ((xs.length : Int) / 256), .int ((xs.length : Int) % 256)]))).trans (congrArg (fun l => some (HO.lst l)) e4)
          have hL4 := s4 _ _ hL3
          replace s4 := s3.trans s4
          generalize upd H3 f4 (.lst (fs.map V.int ++ [.int 3, .int ((xs.length : Int) / 256), .int ((xs.length : Int) % 256)])) = H4 at s4 hF4 hL4
          refine ⟨_, rfl, _, rfl, a2, xs, rfl, .inl (.inl (s4 _ _ ha)), fun r hr2 => ⟨r, _, rfl, .inr (.inl (.inl upd_same)), fun l5 hl5 => ?_⟩⟩
          have s5 := (same_upd (o := .tup xs.reverse) hr2).trans (same_upd (o := .lst xs.reverse) hl5)
          have hl5' := @upd_same (upd H4 r (.tup xs.reverse)) l5 (.lst xs.reverse)
          generalize upd (upd H4 r (.tup xs.reverse)) l5 (.lst xs.reverse) = H5 at s5 hl5'
          refine ⟨l, l5, _, _, rfl, rfl, s5 _ _ hL4, hl5', ?_, fun l6 hl6 => ?_⟩
          · rw [List.length_reverse, List.length_reverse]
            omega
          have s6 := same_upd (o := .lst (vs'.reverse ++ xs.reverse)) hl6
          have sA := s4.trans (s5.trans s6)
          have nA : H l6 = none := (sm2.trans (s4.trans s5)).free hl6
          have hF5 := s5 _ _ hF4
          refine next _ f4 l6 _ _ _ (xs ++ vs') (cs ++ ds') sA nA (ne_of_none hF5 hl6) (s6 _ _ hF5) ?_ (hC.app hA') ?_ ?_ ?_ ?_
          · rw [upd_same, List.reverse_append]
          · rw [isDats_app, hD.2]
            have z := hD.1
            rw [isDat] at z
            rw [z]
            rfl
          · rw [doks_app, hK.2]
            have z := hK.1
            rw [dok] at z
            rw [z]
            rfl
          · rw [← hE, encs_app, List.append_assoc, enc]
            rfl
          · rw [dszs_app]
            show dszs cs + dszs ds' < 1 + dszs cs + dszs ds'
            omega
      | str z =>
        cases hx with
        | str _ =>
        have hz : z.length ≤ 60000 := of_decide_eq_true hK.1
        have hz2 : z.cps.toList.length = z.length := Array.length_toList
        have hn3 : (enc (.str z)).length = z.length + 3 := by
          show (encS z).length = z.length + 3
          rw [encS, List.length_cons, List.length_cons, List.length_cons, List.length_map, hz2]
        have hsg : ∀ c ∈ z.cps.toList, c ∈ cs_SIGNS.cps.toList := by
          have z1 := hD.1
          rw [isDat_leaf rfl] at z1
          have z2 : (decide (z.length ≤ 65535) && z.cps.toList.all fun c => decide (c ∈ cs_SIGNS.cps.toList)) = true := z1
          rw [Bool.and_eq_true, List.all_eq_true] at z2
          exact fun c hc => of_decide_eq_true (z2.2 c hc)
        refine iteF ⟨_, rfl, .str z, .ty "str", _, _, _, rfl, .ty _, hx2.ty, kit_str (.str z), _, rfl, iteT ?_⟩
        refine ⟨_, rfl, _, rfl, .str z, z.length, rfl, ⟨by omega, rfl⟩, _, _, rfl, rfl, ⟨by decide, by decide⟩, _, rfl, .str z, z.length, rfl, ⟨by omega, rfl⟩, _, _, rfl, rfl, (by show (0 : Int) < 256; decide), (by show 3 ≤ sizeLine; omega), fun p hp => ?_⟩
        have s3 := same_upd (o := .lst [.int 2, .int ((z.length : Int) / 256), .int ((z.length : Int) % 256)]) hp
        have hp3 := @upd_same H2 p (.lst [.int 2, .int ((z.length : Int) / 256), .int ((z.length : Int) % 256)])
        generalize upd H2 p (.lst [.int 2, .int ((z.length : Int) / 256), .int ((z.length : Int) % 256)]) = H3 at s3 hp3
        refine ⟨f, p, _, _, rfl, rfl, s3 _ _ hF2, hp3, ?_, fun f4 hf4 => ?_⟩
        · rw [List.length_map]
          show fs.length + 3 ≤ sizeLine
          omega
        have s4 := same_upd (o := .lst (fs.map V.int ++ [.int 2, .int ((z.length : Int) / 256), .int ((z.length : Int) % 256)])) hf4
        have hf4' := @upd_same H3 f4 (.lst (fs.map V.int ++ [.int 2, .int ((z.length : Int) / 256), .int ((z.length : Int) % 256)]))
        replace s4 := s3.trans s4
        generalize upd H3 f4 (.lst (fs.map V.int ++ [.int 2, .int ((z.length : Int) / 256), .int ((z.length : Int) % 256)])) = H4 at s4 hf4'
        refine ⟨_, rfl, z, rfl, fun D hD2 => lc_it walk_str (fun i H5 => Fill H4 D ((z.cps.toList.take i).map fun c => V.int (ixS c)) H5) (.start hD2) (fun _ _ _ _ => True.intro) ?_ ?_⟩
        · rintro i y H5 H5' hi fl ⟨rfl, c, hc, rfl⟩
          have hc2 : z.cps.toList[i]? = some c := by
            rw [Array.getElem?_toList]
            exact hc
          obtain ⟨rest, ho⟩ := occ_sign2 (hsg c (List.mem_of_getElem? hc2))
          refine ⟨rfl, _, rfl, rfl, _, rfl, cs_SIGNS, _, _, rest, rfl, rfl, ho, _, fl.at_, ?_, fl.add ?_⟩
          · rw [List.length_map]
            exact take_len_le (by omega)
          · rw [take_add hc2, List.map_append]
            rfl
        · intro H5 fl
          rw [List.take_of_length_le (by rw [Array.length_toList]; exact Nat.le_refl _)] at fl
          have s5 := s4.trans fl.same
          have e5 : ((fs.map V.int ++ [.int 2, .int ((z.length : Int) / 256), .int ((z.length : Int) % 256)]) ++ (z.cps.toList.map fun c => V.int (ixS c))) = (fs ++ encS z).map V.int := by
            rw [List.append_assoc, List.map_append, encS, List.map_cons, List.map_cons, List.map_cons, List.map_map]
            rfl
          refine ⟨f4, D, _, _, rfl, rfl, fl.same _ _ hf4', fl.at_, ?_, fun f6 hf6 => ?_⟩
          · rw [List.length_append, List.length_map, List.length_map]
            show fs.length + 3 + _ ≤ sizeLine
            omega
          have s6 := same_upd (o := .lst ((fs.map V.int ++ [.int 2, .int ((z.length : Int) / 256), .int ((z.length : Int) % 256)]) ++ (z.cps.toList.map fun c => V.int (ixS c)))) hf6
          have hL5 := s5 _ _ hL2
          refine next _ f6 l _ _ _ vs' ds' (s5.trans s6) nl (Ne.symm (ne_of_none hL5 hf6)) (upd_same.trans (congrArg (fun l => some (HO.lst l)) e5)) (s6 _ _ hL5) hA' hD.2 hK.2 ?_ ?_
          · rw [List.append_assoc]
            exact hE
          · show dszs ds' < 1 + dszs ds'
            omega
      | int n =>
        cases hx with
        | int _ =>
        refine iteF ⟨_, rfl, .int n, .ty "str", _, _, _, rfl, .ty _, hx2.ty, kit_str (.int n), _, rfl, iteF ?_⟩
        refine ⟨_, rfl, _, rfl, _, _, rfl, rfl, ⟨by decide, by decide⟩, _, rfl, _, _, rfl, rfl, (by show (0 : Int) < 256; decide), (by show 3 ≤ sizeLine; omega), fun p hp => ?_⟩
        have s3 := same_upd (o := .lst [.int 1, .int (n / 256), .int (n % 256)]) hp
        have hp3 := @upd_same H2 p (.lst [.int 1, .int (n / 256), .int (n % 256)])
        have hn3 : (enc (.int n)).length = 3 := rfl
        refine ⟨f, p, _, _, rfl, rfl, s3 _ _ hF2, hp3, ?_, fun f4 hf4 => ?_⟩
        · rw [List.length_map]
          show fs.length + 3 ≤ sizeLine
          omega
        have s4 := s3.trans (same_upd (o := .lst (fs.map V.int ++ [.int 1, .int (n / 256), .int (n % 256)])) hf4)
        have hL3 := s3 _ _ hL2
        refine next _ f4 l _ _ (fs ++ [1, n / 256, n % 256]) vs' ds' s4 nl (Ne.symm (ne_of_none hL3 hf4)) (upd_same.trans ?_) (s4 _ _ hL2) hA' hD.2 hK.2 ?_ ?_
        · rw [List.map_append]
          rfl
        · rw [List.append_assoc]
          exact hE
        · show dszs ds' < 1 + dszs ds'
          omega
      | _ => cases hD.1
end
end Net
namespace Net
open PySem PySem.Spec PyProof.Rows L2 NetR
def decH : List Int → List Int
  | [] => []
  | x :: r => (x - 1) :: r
def dpO : List (Nat × List PyData) → List Int
  | [] => [1]
  | f :: O => ((f.1 : Int) - (f.2.length : Int)) :: decH (dpO O)
def popZ : List Int → List Int
  | [] => []
  | x :: r => if x = 0 then popZ r else x :: r
theorem dpO_len : ∀ O : List (Nat × List PyData), (dpO O).length = O.length + 1
  | [] => rfl
  | f :: O => by
    have ih := dpO_len O
    rw [dpO, List.length_cons, List.length_cons]
    cases h : dpO O with
    | nil =>
      rw [h] at ih
      cases ih
    | cons x r =>
      rw [h] at ih
      show r.length + 1 + 1 = _
      rw [← ih]
      rfl
def frO (O : List (Nat × List PyData)) : Prop := ∀ f ∈ O, f.2.length < f.1
theorem popZ_pos {x : Int} {r : List Int} (h : x ≠ 0) : popZ (x :: r) = x :: r := if_neg h
theorem dpO_pop : ∀ {O : List (Nat × List PyData)}, frO O → popZ (dpO O) = dpO O
  | [], _ => rfl
  | f :: O, h => by
    have := h f List.mem_cons_self
    exact popZ_pos (by omega)
theorem pop_close : ∀ (O : List (Nat × List PyData)) (d : PyData), frO O → popZ (decH (dpO O)) = (match (closeD d O).1 with
    | some _ => []
    | none => dpO (closeD d O).2) ∧ frO (closeD d O).2
  | [], d, _ => ⟨rfl, fun f hf => (nomatch hf)⟩
  | (many, ds) :: O, d, h => by
    have h1 : ds.length < many := h _ List.mem_cons_self
    have hO : frO O := fun f hf => h f (List.mem_cons_of_mem _ hf)
    show popZ (((many : Int) - (ds.length : Int) - 1) :: decH (dpO O)) = _ ∧ _
    by_cases c : ds.length + 1 < many
    · have e : closeD d ((many, ds) :: O) = (none, (many, ds ++ [d]) :: O) := if_pos c
      rw [e]
      refine ⟨?_, fun f hf => ?_⟩
      · rw [popZ_pos (by omega)]
        show _ = ((many : Int) - ((ds ++ [d]).length : Int)) :: decH (dpO O)
        rw [List.length_append]
        congr 1
        show (many : Int) - (ds.length : Int) - 1 = (many : Int) - ((ds.length + 1 : Nat) : Int)
        omega
      · rcases List.mem_cons.mp hf with rfl | hf
        · show (ds ++ [d]).length < many
          rw [List.length_append]
          exact c
        · exact hO f hf
    · have e : closeD d ((many, ds) :: O) = closeD (.tuple (ds ++ [d])) O := if_neg c
      rw [e]
      have ih := pop_close O (.tuple (ds ++ [d])) hO
      refine ⟨?_, ih.2⟩
      rw [← ih.1]
      exact if_pos (by omega)
def badS (bs : List Int) (n m : Nat) : List Nat := (List.range (m - n)).filter fun j => decide (55 ≤ gB bs (n + j))
theorem badS_cons {bs : List Int} {n m : Nat} (h : n < m) : badS bs n m = if 55 ≤ gB bs n then 0 :: (badS bs (n + 1) m).map (· + 1) else (badS bs (n + 1) m).map (· + 1) := by
  unfold badS
  obtain ⟨k, hk⟩ : ∃ k, m - n = k + 1 := ⟨m - n - 1, by omega⟩
  have hk2 : m - (n + 1) = k := by omega
  rw [hk, hk2, List.range_succ_eq_map, List.filter_cons]
  have e : ((List.range k).map Nat.succ).filter (fun j => decide (55 ≤ gB bs (n + j))) = ((List.range k).filter fun j => decide (55 ≤ gB bs (n + 1 + j))).map (· + 1) := by
    rw [List.filter_map]
    have e2 : (fun j => decide (55 ≤ gB bs (n + j))) ∘ Nat.succ = fun j => decide (55 ≤ gB bs (n + 1 + j)) := by
      funext j
      show decide (55 ≤ gB bs (n + (j + 1))) = _
      rw [show n + (j + 1) = n + 1 + j by omega]
    rw [e2]
  rw [e]
  show (if decide (55 ≤ gB bs n) = true then _ else _) = _
  by_cases c : 55 ≤ gB bs n
  · rw [decide_eq_true c, if_pos rfl, if_pos c]
  · rw [decide_eq_false c, if_neg Bool.false_ne_true, if_neg c]
theorem rStr_bad : ∀ (k : Nat) (bs : List Int) (n : Nat), n ≤ bs.length → (match badS bs n (min (n + k) bs.length) with
    | j :: _ => rStr bs n k = .bad (n + j) "sign"
    | [] => if bs.length < n + k then rStr bs n k = .bad bs.length "end" else ∃ l, rStr bs n k = .ok l)
  | 0, bs, n, h => by
    have e : badS bs n (min (n + 0) bs.length) = [] := by
      unfold badS
      rw [show min (n + 0) bs.length - n = 0 by omega]
      rfl
    rw [e]
    show if bs.length < n + 0 then _ else _
    rw [if_neg (by omega)]
    exact ⟨[], rfl⟩
  | k + 1, bs, n, h => by
    by_cases hn : bs.length < n + 1
    · have e : badS bs n (min (n + (k + 1)) bs.length) = [] := by
        unfold badS
        rw [show min (n + (k + 1)) bs.length - n = 0 by omega]
        rfl
      rw [e]
      show if bs.length < n + (k + 1) then _ else _
      rw [if_pos (by omega)]
      exact rStr_end hn
    · have ih := rStr_bad k bs (n + 1) (by omega)
      rw [show n + (k + 1) = n + 1 + k by omega]
      rw [badS_cons (by omega)]
      by_cases c : 55 ≤ gB bs n
      · rw [if_pos c]
        exact rStr_sign hn c
      · rw [if_neg c]
        have er := rStr_more (k := k) hn c
        cases hb : badS bs (n + 1) (min (n + 1 + k) bs.length) with
        | nil =>
          rw [hb] at ih
          show if bs.length < n + 1 + k then _ else _
          by_cases c2 : bs.length < n + 1 + k
          · rw [if_pos c2] at ih ⊢
            rw [er, ih]
            rfl
          · rw [if_neg c2] at ih ⊢
            obtain ⟨l, hl⟩ := ih
            exact ⟨gB bs n :: l, by rw [er, hl]; rfl⟩
        | cons j r =>
          rw [hb] at ih
          show rStr bs n (k + 1) = .bad (n + (j + 1)) "sign"
          rw [er, ih, show n + 1 + j = n + (j + 1) by omega]
          rfl
end Net
namespace Net
open PySem PySem.Spec PyProof.Rows L2 NetR
def FltR (H : Hp) (u : V) : Out PyData → Prop
  | .ok _ => u = .non
  | .bad n z => ∃ p, u = .ref p ∧ H p = some (.tup [.int (n : Nat), .str z])
def sp_lfault : Sp := fun vs H Q E => ∃ (t : Addr) (bs : List Int), vs = [.ref t] ∧ H t = some (.tup (bs.map V.int)) ∧ bs.all byteB = true ∧ bs.length ≤ 10000 ∧ ∀ H' u, Same H H' → FltR H' u (rdAll bs) → Q u H'
theorem seq_join {t u : TS} {D : Ends} {σ : L2.St} {H : Hp} (R : L2.St → Hp → Prop) (h : ∀ N : L2.St → Hp → Prop, (∀ σ' H', R σ' H' → N σ' H') → t { D with nx := N } σ H) (k : ∀ σ' H', R σ' H' → u D σ' H') : tSeq t u D σ H := h _ k
def WFl (H0 : Hp) (t : Addr) (bs : List Int) : Nat → L2.St → Hp → Prop := fun m σ H1 => ∃ (n : Nat) (l : Addr) (L : List Int) (c3 c4 c5 c6 : Option V), σ = [some (.ref t), some (.int (n : Nat)), some (.ref l), c3, c4, c5, c6] ∧ Same H0 H1 ∧ H1 l = some (.lst (L.reverse.map V.int)) ∧ n ≤ bs.length ∧
  ((∃ O k, L = dpO O ∧ frO O ∧ O.length ≤ 20 ∧ rRun bs k n O = rdAll bs ∧ bs.length + 1 ≤ k + n ∧ m = bs.length - n + 1) ∨ (∃ d, L = [] ∧ endO bs n d = rdAll bs ∧ m = 0))
def WIn (H0 : Hp) (t : Addr) (n : Nat) (w k : Int) (c5 c6 : Option V) (L0 : List Int) : Nat → L2.St → Hp → Prop := fun m σ H1 => ∃ (l : Addr) (L : List Int), σ = [some (.ref t), some (.int (n : Nat)), some (.ref l), some (.int w), some (.int k), c5, c6] ∧ Same H0 H1 ∧ H1 l = some (.lst (L.reverse.map V.int)) ∧ popZ L = popZ L0 ∧ L.length ≤ 100 ∧ m = L.length
section
variable {P : Program} {w : World} {K : PySem.W.Frag} {mg : Str → Option Value} {base : Heap}
abbrev s__law_fault : Stmt := top 51
theorem sc__law_fault : FnScope ["some", "at", "deep", "word", "many", "bad", "place"] ["some"] (defScope s__law_fault) := ⟨rfl, rfl, rfl, by decide +kernel, rfl, by decide +kernel, by decide +kernel⟩
theorem ok_lfault {f : Addr} {fd : FuncData} (F : Fun K "_law_fault" "_law_fault" s__law_fault f fd) (T : Tx mg) : FnOk P w K mg base CX0 1 f fd ["some"] sp_lfault := by
  refine F.ok sc__law_fault (fun vs H Q E h => ?_) (fun cdv A outer s H vs Q E hr h => ?_)
  · obtain ⟨t, bs, rfl, _⟩ := h
    rfl
  · obtain ⟨t, bs, rfl, ht, hby, hbl, q⟩ := h
    refine ⟨_, (pss_cons (ps_par (i := 1) (j := 2) (by rfl) sc__law_fault.nd rfl rfl (by decide) rfl rfl (pa_cons pe_int (pa_cons (pe_lst (pa_cons pe_int pa_nil)) pa_nil)) (by rfl))
      (pss_cons (ps_while PassesOwn.never (pt_cmpR (op_neLE hr.units0) (pv 2) (pe_lst pa_nil) (nomark _)) (pss_cons (ps_if (pt_cmpR op_ge (pv 1) (pe_callB call_len (by rfl) T.n_len (by decide +kernel) (pa_cons (pv 0) pa_nil)) (nomark _)) (pss_one (ps_ret (pe_tup (pa_cons (pe_callB call_len (by rfl) T.n_len (by decide +kernel) (pa_cons (pv 0) pa_nil)) (pa_cons pe_str pa_nil))))) pss_nil)
      (pss_cons (ps_set (i := 3) sc__law_fault.nd rfl (Or.inl rfl) (pe_ix ix_tup (pv 0) (pv 1) (fun _ _ => rfl)))
      (pss_cons (ps_if (pt_cmpR op_notIn_seq (pv 3) (pe_tup (pa_cons pe_int (pa_cons pe_int (pa_cons pe_int pa_nil)))) (by rfl)) (pss_one (ps_ret (pe_tup (pa_cons (pv 1) (pa_cons pe_str pa_nil))))) pss_nil)
      (pss_cons (ps_if (PW.pt (pw_and (pt_cmpR op_eq (pv 3) pe_int (nomark _)) (pw_and1 (pt_cmpR op_eq (pe_callB call_len (by rfl) T.n_len (by decide +kernel) (pa_cons (pv 2) pa_nil)) pe_int (nomark _))))) (pss_one (ps_ret (pe_tup (pa_cons (pv 1) (pa_cons pe_str pa_nil))))) pss_nil)
      (pss_cons (ps_if (pt_cmpR op_gt (pe_op op_add (pv 1) pe_int) (pe_callB call_len (by rfl) T.n_len (by decide +kernel) (pa_cons (pv 0) pa_nil)) (nomark _)) (pss_one (ps_ret (pe_tup (pa_cons (pe_callB call_len (by rfl) T.n_len (by decide +kernel) (pa_cons (pv 0) pa_nil)) (pa_cons pe_str pa_nil))))) pss_nil)
      (pss_cons (ps_set (i := 4) sc__law_fault.nd rfl (Or.inl rfl) (pe_op op_add (pe_op op_mul (pe_ix ix_tup (pv 0) (pe_op op_add (pv 1) pe_int) (fun _ _ => rfl)) pe_int) (pe_ix ix_tup (pv 0) (pe_op op_add (pv 1) pe_int) (fun _ _ => rfl))))
      (pss_cons (ps_set (i := 1) sc__law_fault.nd rfl (Or.inl rfl) (pe_op op_add (pv 1) pe_int))
      (pss_cons (ps_if (pt_cmpR op_eq (pv 3) pe_int (nomark _)) (pss_cons (ps_setLc (i := 5) (own := [("place", 6)]) (g := gName 6) (tt := (tTest (tOp (rI0 fun i j => .bl (decide (j ≤ i))) (tOp (rIxT K) (tVar 0) (tVar 6)) (tC (.int 55))))) rfl sc__law_fault.nd rfl rfl (sw_true rfl rfl rfl (by decide +kernel)) (pi_range2 (by rfl) T.n_range (pa_cons (pv 1) (pa_cons (pe_callB (call_min2 rfl) (by rfl) T.n_min (by decide +kernel) (pa_cons (pe_op op_add (pv 1) (pv 4)) (pa_cons (pe_callB call_len (by rfl) T.n_len (by decide +kernel) (pa_cons (pv 0) pa_nil)) pa_nil))) pa_nil))) (blkOk_by (N := ["some", "at", "deep", "word", "many", "bad", "place"]) (sc := defScope s__law_fault) (by decide +kernel)) (fun _ _ _ _ _ => pg_name (i := 6) sc__law_fault.nd rfl (Or.inl rfl)) (fun _ _ _ _ _ => by exact pts_one (pt_cmpR op_ge (pe_ix ix_tup (pv 0) (pv 6) (fun _ _ => rfl)) pe_int (nomark _))) (fun _ _ _ _ _ => (pv 6)))
      (pss_cons (ps_if (PW.pt (pw_or (pt_cmpR (op_neLE hr.units0) (pv 5) (pe_lst pa_nil) (nomark _)) (pw_or1 (pt_cmpR op_gt (pe_op op_add (pv 1) (pv 4)) (pe_callB call_len (by rfl) T.n_len (by decide +kernel) (pa_cons (pv 0) pa_nil)) (nomark _))))) (pss_one (ps_ret (pe_ifExp (pt_cmpR (op_neLE hr.units0) (pv 5) (pe_lst pa_nil) (nomark _)) (pe_tup (pa_cons (pe_ix ix_list (pv 5) pe_int (fun _ _ => rfl)) (pa_cons pe_str pa_nil))) (pe_tup (pa_cons (pe_callB call_len (by rfl) T.n_len (by decide +kernel) (pa_cons (pv 0) pa_nil)) (pa_cons pe_str pa_nil)))))) pss_nil)
      (pss_one (ps_set (i := 1) sc__law_fault.nd rfl (Or.inl rfl) (pe_op op_add (pv 1) (pv 4)))))) pss_nil)
      (pss_cons (ps_set (i := 2) sc__law_fault.nd rfl (Or.inl rfl) (pe_op op_cat (pe_slice sl_list (pv 2) po_none (po_some (pe_un un_neg pe_int))) (pe_lst (pa_cons (pe_op op_sub (pe_ix ix_list (pv 2) (pe_un un_neg pe_int) (fun _ _ => rfl)) pe_int) pa_nil))))
      (pss_cons (ps_if (pt_cmpR op_eq (pv 3) pe_int (nomark _)) (pss_one (ps_set (i := 2) sc__law_fault.nd rfl (Or.inl rfl) (pe_op op_cat (pv 2) (pe_lst (pa_cons (pv 4) pa_nil))))) pss_nil)
      (pss_one (ps_while PassesOwn.never (PW.pt (pw_and (pt_cmpR (op_neLE hr.units0) (pv 2) (pe_lst pa_nil) (nomark _)) (pw_and1 (pt_cmpR op_eq (pe_ix ix_list (pv 2) (pe_un un_neg pe_int) (fun _ _ => rfl)) pe_int (nomark _))))) (pss_one (ps_set (i := 2) sc__law_fault.nd rfl (Or.inl rfl) (pe_slice sl_list (pv 2) po_none (po_some (pe_un un_neg pe_int))))))))))))))))))
      (pss_one (ps_ret (pe_ifExp (pt_cmpR op_lt (pv 1) (pe_callB call_len (by rfl) T.n_len (by decide +kernel) (pa_cons (pv 0) pa_nil)) (nomark _)) (pe_tup (pa_cons (pv 1) (pa_cons pe_str pa_nil))) pe_non))))), ?_⟩
    have hbig := sl_big
    refine ⟨(by show 1 ≤ sizeLine; omega), fun l0 hl0 => ⟨_, _, rfl, ?_⟩⟩
    have hb := all_byte hby
    refine ⟨WFl H t bs, ⟨_, ⟨0, l0, [1], none, none, none, none, rfl, same_upd hl0, upd_same, Nat.zero_le _, .inl ⟨[], bs.length + 1, rfl, fun f hf => (nomatch hf), Nat.zero_le _, rfl, by omega, rfl⟩⟩⟩, ?_⟩
    rintro m σ1 H1 ⟨n, l, L, c3, c4, c5, c6, rfl, sm, hl, hn, hcase⟩
    refine ⟨_, rfl, Nat.zero_le _, fun e he => ⟨l, e, _, rfl, rfl, SqL.of (same_upd he _ _ hl), SqL.of upd_same, _, rfl, ?_⟩⟩
    have se := same_upd (o := .lst []) he
    replace sm := sm.trans se
    replace hl := se _ _ hl
    generalize upd H1 e (.lst []) = H1 at sm hl
    have ht1 := sm _ _ ht
    rcases hcase with ⟨O, k, rfl, hfr, hO20, hrun, hk, rfl⟩ | ⟨d, rfl, hend, rfl⟩
    rotate_left
    · -- the end
      refine iteF ⟨_, rfl, _, rfl, _, _, rfl, .inr ⟨_, .inl (.inl ht1), rfl⟩, _, _, rfl, rfl, _, rfl, ?_⟩
      rw [List.length_map]
      unfold endO at hend
      by_cases c : n < bs.length
      · rw [decide_eq_true (show (n : Int) < (bs.length : Int) by omega)]
        rw [if_pos c] at hend
        refine iteT ⟨_, rfl, (by show 2 ≤ sizeLine; omega), fun p hp => q _ _ (sm.trans (same_upd hp)) ?_⟩
        rw [← hend]
        exact ⟨p, rfl, upd_same⟩
      · rw [decide_eq_false (show ¬ (n : Int) < (bs.length : Int) by omega)]
        rw [if_neg c] at hend
        refine iteF (q _ _ sm ?_)
        rw [← hend]
        rfl
    have hne : (!((dpO O).reverse.map V.int).isEmpty) = true := by
      have := dpO_len O
      cases h : dpO O with
      | nil =>
        rw [h] at this
        cases this
      | cons x r => simp
    rw [hne]
    refine iteT ⟨fun σ' H' => ∃ m', m' < bs.length - n + 1 ∧ WFl H t bs m' σ' H', fun _ _ h => h, ?_⟩
    obtain ⟨k, rfl⟩ : ∃ k', k = k' + 1 := ⟨k - 1, by omega⟩
    have hdl := dpO_len O
    refine ⟨_, rfl, _, rfl, _, _, rfl, .inr ⟨_, .inl (.inl ht1), rfl⟩, _, _, rfl, rfl, _, rfl, ?_⟩
    rw [List.length_map]
    by_cases cn : bs.length ≤ n
    · rw [decide_eq_true (show (bs.length : Int) ≤ (n : Int) by omega)]
      have hw : rdAll bs = .bad bs.length "end" := by
        rw [← hrun]
        show (match rStep bs n O with | .bad a z => Out.bad a z | .ok (none, n', O') => rRun bs k n' O' | .ok (some d, n', _) => if n' < bs.length then .bad n' "more" else .ok d) = _
        have e1 : rWord bs n O.length = .bad bs.length "end" := if_pos (by omega)
        unfold rStep
        rw [e1]
      refine iteT ⟨_, rfl, _, _, rfl, .inr ⟨_, .inl (.inl ht1), rfl⟩, (by show 2 ≤ sizeLine; omega), fun p hp => q _ _ (sm.trans (same_upd hp)) ?_⟩
      rw [hw]
      exact ⟨p, rfl, by rw [upd_same, List.length_map]⟩
    rw [decide_eq_false (show ¬ (bs.length : Int) ≤ (n : Int) by omega)]
    have h0 := gB_byte hb n
    refine iteF ⟨_, rfl, _, rfl, t, _, _, _, rfl, rfl, .inl (.inl ht1), at_of (j := n) rfl (gB_get (by omega)), ?_⟩
    refine ⟨_, rfl, (by show 3 ≤ sizeLine; decide), fun p hp => ⟨p, _, rfl, .inr (.inl (.inl upd_same)), rfl, rfl, _, rfl, ?_⟩⟩
    have sp := same_upd (o := .tup [.int 1, .int 2, .int 3]) hp
    replace sm := sm.trans sp
    replace hl := sp _ _ hl
    replace ht1 := sp _ _ ht1
    generalize upd H1 p (.tup [.int 1, .int 2, .int 3]) = H1 at sm hl ht1
    rw [isWord_in]
    cases ew : isWord (gB bs n) with
    | false =>
      have hw : rdAll bs = .bad n "word" := by
        rw [← hrun]
        show (match rStep bs n O with | .bad a z => Out.bad a z | .ok (none, n', O') => rRun bs k n' O' | .ok (some d, n', _) => if n' < bs.length then .bad n' "more" else .ok d) = _
        have e1 : rWord bs n O.length = .bad n "word" := (if_neg (by omega)).trans (if_pos ew)
        unfold rStep
        rw [e1]
      refine iteT ⟨_, rfl, (by show 2 ≤ sizeLine; omega), fun p hp => q _ _ (sm.trans (same_upd hp)) ?_⟩
      rw [hw]
      exact ⟨p, rfl, upd_same⟩
    | true =>
    refine iteF ?_
    have hln : ((dpO O).reverse.map V.int).length = O.length + 1 := by rw [List.length_map, List.length_reverse, hdl]
    have nodeep : ∀ hd : ¬ (gB bs n = 3 ∧ O.length = 20), rWord bs n O.length = .ok (gB bs n) := fun hd => (if_neg (by omega)).trans ((if_neg (by rw [ew]; exact fun z => Bool.noConfusion z)).trans (if_neg hd))
    dsimp only [tNext]
    refine seq_join (t := tIfS _ _ _) (fun σ' H' => σ' = [some (.ref t), some (.int (n : Nat)), some (.ref l), some (.int (gB bs n)), c4, c5, c6] ∧ H' = H1 ∧ ¬ (gB bs n = 3 ∧ O.length = 20)) (fun N kN => ?_) ?_
    · refine ⟨_, rfl, rfl, _, rfl, ?_⟩
      by_cases c3 : gB bs n = 3
      · rw [show decide (V.int (gB bs n) = V.int 3) = true from decide_eq_true (by rw [c3])]
        refine iteT ⟨_, rfl, _, _, rfl, .inl ⟨_, SqL.of hl, rfl⟩, rfl, _, rfl, ?_⟩
        rw [hln]
        by_cases cd : O.length = 20
        · rw [show decide (V.int ((O.length + 1 : Nat) : Int) = V.int 21) = true from decide_eq_true (by rw [cd]; rfl)]
          have hw : rdAll bs = .bad n "deep" := by
            rw [← hrun]
            show (match rStep bs n O with | .bad a z => Out.bad a z | .ok (none, n', O') => rRun bs k n' O' | .ok (some d, n', _) => if n' < bs.length then .bad n' "more" else .ok d) = _
            have e1 : rWord bs n O.length = .bad n "deep" := (if_neg (by omega)).trans ((if_neg (by rw [ew]; exact fun z => Bool.noConfusion z)).trans (if_pos ⟨c3, cd⟩))
            unfold rStep
            rw [e1]
          refine iteT ⟨_, rfl, (by show 2 ≤ sizeLine; omega), fun p hp => q _ _ (sm.trans (same_upd hp)) ?_⟩
          rw [hw]
          exact ⟨p, rfl, upd_same⟩
        · rw [show decide (V.int ((O.length + 1 : Nat) : Int) = V.int 21) = false from decide_eq_false (fun z => by injection z with z; omega)]
          exact iteF (kN _ _ ⟨rfl, rfl, fun z => cd z.2⟩)
      · rw [show decide (V.int (gB bs n) = V.int 3) = false from decide_eq_false (fun z => by injection z with z; exact c3 z)]
        exact iteF (kN _ _ ⟨rfl, rfl, fun z => c3 z.1⟩)
    rintro σ2 H2 ⟨rfl, rfl, hnd⟩
    have ewd := nodeep hnd
    refine ⟨_, rfl, _, _, rfl, rfl, _, rfl, _, _, rfl, .inr ⟨_, .inl (.inl ht1), rfl⟩, _, _, rfl, rfl, _, rfl, ?_⟩
    rw [List.length_map]
    by_cases c3n : bs.length < n + 3
    · rw [decide_eq_true (show (bs.length : Int) < (n : Int) + 3 by omega)]
      have hw : rdAll bs = .bad bs.length "end" := by
        rw [← hrun]
        show (match rStep bs n O with | .bad a z => Out.bad a z | .ok (none, n', O') => rRun bs k n' O' | .ok (some d, n', _) => if n' < bs.length then .bad n' "more" else .ok d) = _
        have e2 : rNum bs (n + 1) = .bad bs.length "end" := if_pos (by omega)
        unfold rStep
        rw [ewd]
        show (match (match rNum bs (n + 1) with | .bad a z => Out.bad a z | .ok k => _ : Out (Option PyData × Nat × List (Nat × List PyData))) with | .bad a z => Out.bad a z | .ok (none, n', O') => rRun bs k n' O' | .ok (some d, n', _) => if n' < bs.length then .bad n' "more" else .ok d) = _
        rw [e2]
      refine iteT ⟨_, rfl, _, _, rfl, .inr ⟨_, .inl (.inl ht1), rfl⟩, (by show 2 ≤ sizeLine; omega), fun p hp => q _ _ (sm.trans (same_upd hp)) ?_⟩
      rw [hw]
      exact ⟨p, rfl, by rw [upd_same, List.length_map]⟩
    rw [decide_eq_false (show ¬ (bs.length : Int) < (n : Int) + 3 by omega)]
    refine iteF ?_
    dsimp only [tNext]
    have h1 := gB_byte hb (n + 1)
    have h2 := gB_byte hb (n + 2)
    have enum : rNum bs (n + 1) = .ok (gB bs (n + 1) * 256 + gB bs (n + 2)) := if_neg (by omega)
    refine seq_join (t := tAsg _ _) (fun σ' H' => σ' = [some (.ref t), some (.int (n : Nat)), some (.ref l), some (.int (gB bs n)), some (.int (gB bs (n + 1) * 256 + gB bs (n + 2))), c5, c6] ∧ H' = H2) (fun N kN => ?_) ?_
    · exact ⟨_, rfl, _, rfl, _, _, rfl, rfl, t, _, _, _, rfl, rfl, .inl (.inl ht1), at_of (j := n + 1) (by omega) (gB_get (by omega)), _, _, rfl, rfl, .inr ⟨by omega, by omega⟩, _, rfl, _, rfl, _, _, rfl, rfl, t, _, _, _, rfl, rfl, .inl (.inl ht1), at_of (j := n + 2) (by omega) (gB_get (by omega)), _, _, rfl, rfl, kN _ _ ⟨rfl, rfl⟩⟩
    rintro σ3 H3 ⟨rfl, rfl⟩
    have hk0 : 0 ≤ gB bs (n + 1) * 256 + gB bs (n + 2) := by omega
    have hk1 : gB bs (n + 1) * 256 + gB bs (n + 2) ≤ 65535 := by omega
    generalize gB bs (n + 1) * 256 + gB bs (n + 2) = kk at enum hk0 hk1
    refine seq_join (t := tAsg _ _) (fun σ' H' => σ' = [some (.ref t), some (.int ((n + 3 : Nat) : Int)), some (.ref l), some (.int (gB bs n)), some (.int kk), c5, c6] ∧ H' = H3) (fun N kN => ?_) ?_
    · exact ⟨_, rfl, _, _, rfl, rfl, kN _ _ ⟨rfl, rfl⟩⟩
    rintro σ4 H4 ⟨rfl, rfl⟩
    refine seq_join (t := tIfS _ _ _) (fun σ' H' => ∃ (n' : Nat) (c5 c6 : Option V), σ' = [some (.ref t), some (.int (n' : Nat)), some (.ref l), some (.int (gB bs n)), some (.int kk), c5, c6] ∧ Same H4 H' ∧ n + 3 ≤ n' ∧ n' ≤ bs.length ∧ ((gB bs n = 2 ∧ n' = n + 3 + kk.toNat ∧ ∃ ls, rStr bs (n + 3) kk.toNat = .ok ls) ∨ (gB bs n ≠ 2 ∧ n' = n + 3))) (fun N kN => ?_) ?_
    · refine ⟨_, rfl, rfl, _, rfl, ?_⟩
      by_cases c2 : gB bs n = 2
      · rw [show decide (V.int (gB bs n) = V.int 2) = true from decide_eq_true (by rw [c2])]
        have hstep : ∀ a z, rStr bs (n + 3) kk.toNat = .bad a z → rdAll bs = .bad a z := fun a z hr => by
          rw [← hrun]
          show (match rStep bs n O with | .bad a z => Out.bad a z | .ok (none, n', O') => rRun bs k n' O' | .ok (some d, n', _) => if n' < bs.length then .bad n' "more" else .ok d) = _
          unfold rStep
          rw [ewd]
          dsimp only
          rw [enum]
          dsimp only
          rw [if_neg (by rw [c2]; omega), if_neg (by rw [c2]; omega), if_pos c2, hr]
        have hbad := rStr_bad kk.toNat bs (n + 3) (by omega)
        have hlen : (bs.map V.int).length = bs.length := List.length_map _
        have emin : (if ((bs.map V.int).length : Int) < ((n + 3 : Nat) : Int) + kk then ((bs.map V.int).length : Int) else ((n + 3 : Nat) : Int) + kk) = ((min (n + 3 + kk.toNat) bs.length : Nat) : Int) := by
          rw [hlen]
          split <;> omega
        refine iteT ⟨_, rfl, _, rfl, _, rfl, _, _, rfl, rfl, _, rfl, _, _, rfl, .inr ⟨_, .inl (.inl ht1), rfl⟩, _, _, rfl, ?_⟩
        rw [emin]
        refine ⟨_, _, rfl, ⟨by omega, by omega, by omega, by omega⟩, ?_⟩
        have hM : (((min (n + 3 + kk.toNat) bs.length : Nat) : Int) - ((n + 3 : Nat) : Int)).toNat = min (n + 3 + kk.toNat) bs.length - (n + 3) := by omega
        refine fun D hD => lc_range (lo := ((n + 3 : Nat) : Int)) (n := (((min (n + 3 + kk.toNat) bs.length : Nat) : Int) - ((n + 3 : Nat) : Int)).toNat) (fun i H' => Fill H4 D (((List.range i).filter fun j => decide (55 ≤ gB bs (n + 3 + j))).map fun j => V.int ((n + 3 + j : Nat) : Int)) H') (.start hD) ?_ ?_
        · intro i H' hi fl
          have hi2 : n + 3 + i < bs.length := by omega
          refine ⟨rfl, _, rfl, _, rfl, t, _, _, _, rfl, rfl, .inl (.inl (fl.same _ _ ht1)), at_of (j := n + 3 + i) (by omega) (gB_get hi2), _, _, rfl, rfl, _, rfl, ?_⟩
          have er : (List.range (i + 1)).filter (fun j => decide (55 ≤ gB bs (n + 3 + j))) = (List.range i).filter (fun j => decide (55 ≤ gB bs (n + 3 + j))) ++ if 55 ≤ gB bs (n + 3 + i) then [i] else [] := by
            rw [List.range_succ, List.filter_append]
            congr 1
            by_cases c : 55 ≤ gB bs (n + 3 + i)
            · rw [if_pos c]
              simp [c]
            · rw [if_neg c]
              simp [c]
          by_cases c : 55 ≤ gB bs (n + 3 + i)
          · rw [decide_eq_true c]
            rw [if_pos c] at er
            refine iteT ⟨_, rfl, _, fl.at_, ?_, fl.add ?_⟩
            · rw [List.length_map]
              have := List.length_filter_le (fun j => decide (55 ≤ gB bs (n + 3 + j))) (List.range i)
              rw [List.length_range] at this
              omega
            · rw [er, List.map_append]
              show _ = _ ++ [V.int ((n + 3 : Nat) + (i : Nat))]
              congr 2
          · rw [decide_eq_false c]
            rw [if_neg c, List.append_nil] at er
            refine iteF ?_
            rw [er]
            exact fl
        intro H' fl
        rw [hM] at fl
        have fl : Fill H4 D ((badS bs (n + 3) (min (n + 3 + kk.toNat) bs.length)).map fun j => V.int ((n + 3 + j : Nat) : Int)) H' := fl
        have ht2 := fl.same _ _ ht1
        have hD2 := fl.at_
        have sF := fl.same
        clear fl
        generalize badS bs (n + 3) (min (n + 3 + kk.toNat) bs.length) = bad at hbad hD2
        refine ⟨_, rfl, Nat.zero_le _, fun e he => ⟨D, e, _, rfl, rfl, SqL.of (same_upd he _ _ hD2), SqL.of upd_same, _, rfl, ?_⟩⟩
        have se := same_upd (o := .lst []) he
        replace sF := sF.trans se
        replace hD2 := se _ _ hD2
        replace ht2 := se _ _ ht2
        generalize upd H' e (.lst []) = H' at sF hD2 ht2
        cases bad with
        | cons j r =>
          have hw := hstep _ _ hbad
          refine iteT (iteT ⟨_, rfl, Nat.zero_le _, fun e2 he2 => ⟨D, e2, _, rfl, rfl, SqL.of (same_upd he2 _ _ hD2), SqL.of upd_same, _, rfl, iteT ⟨_, rfl, D, _, 0, _, rfl, rfl, .inl (.inl (same_upd he2 _ _ hD2)), atI_nat (j := 0) rfl, (by show 2 ≤ sizeLine; omega), fun p hp => q _ _ (sm.trans (sF.trans ((same_upd he2).trans (same_upd hp)))) ?_⟩⟩⟩)
          rw [hw]
          exact ⟨p, rfl, upd_same⟩
        | nil =>
          refine iteF ⟨_, rfl, _, rfl, _, _, rfl, rfl, _, rfl, _, _, rfl, .inr ⟨_, .inl (.inl ht2), rfl⟩, _, _, rfl, rfl, _, rfl, ?_⟩
          rw [List.length_map]
          have hbad : if bs.length < n + 3 + kk.toNat then rStr bs (n + 3) kk.toNat = .bad bs.length "end" else ∃ l, rStr bs (n + 3) kk.toNat = .ok l := hbad
          by_cases co : bs.length < n + 3 + kk.toNat
          · rw [if_pos co] at hbad
            have hw := hstep _ _ hbad
            rw [decide_eq_true (show (bs.length : Int) < ((n + 3 : Nat) : Int) + kk by omega)]
            refine iteT ⟨_, rfl, Nat.zero_le _, fun e2 he2 => ⟨D, e2, _, rfl, rfl, SqL.of (same_upd he2 _ _ hD2), SqL.of upd_same, _, rfl, iteF ⟨_, rfl, _, _, rfl, .inr ⟨_, .inl (.inl (same_upd he2 _ _ ht2)), rfl⟩, (by show 2 ≤ sizeLine; omega), fun p hp => q _ _ (sm.trans (sF.trans ((same_upd he2).trans (same_upd hp)))) ?_⟩⟩⟩
            rw [hw]
            exact ⟨p, rfl, by rw [upd_same, List.length_map]⟩
          · rw [if_neg co] at hbad
            rw [decide_eq_false (show ¬ (bs.length : Int) < ((n + 3 : Nat) : Int) + kk by omega)]
            refine iteF ⟨_, rfl, _, rfl, _, _, rfl, rfl, kN _ _ ⟨n + 3 + kk.toNat, some (.ref D), c6, ?_, sF, by omega, by omega, .inl ⟨c2, rfl, hbad⟩⟩⟩
            have e9 : ((n + 3 : Nat) : Int) + kk = ((n + 3 + kk.toNat : Nat) : Int) := by omega
            show [some (V.ref t), some (.int (((n + 3 : Nat) : Int) + kk)), some (.ref l), some (.int (gB bs n)), some (.int kk), some (.ref D), c6] = _
            rw [e9]
      · rw [show decide (V.int (gB bs n) = V.int 2) = false from decide_eq_false (fun z => by injection z with z; exact c2 z)]
        exact iteF (kN _ _ ⟨n + 3, c5, c6, rfl, .refl _, Nat.le_refl _, by omega, .inr ⟨c2, rfl⟩⟩)
    rintro σ5 H5 ⟨n', c5, c6, rfl, s5, hn3, hn', hw2⟩
    have sm5 := sm.trans s5
    have hl5 := s5 _ _ hl
    obtain ⟨x, r, hxr⟩ : ∃ x r, dpO O = x :: r := by
      cases h : dpO O with
      | nil =>
        rw [h] at hdl
        cases hdl
      | cons x r => exact ⟨x, r, rfl⟩
    have hrl : r.length = O.length := by
      rw [hxr, List.length_cons] at hdl
      omega
    rw [hxr, List.reverse_cons, List.map_append] at hl5
    have hl5 : H5 l = some (.lst (r.reverse.map V.int ++ [.int x])) := hl5
    have edec : decH (dpO O) = (x - 1) :: r := by rw [hxr]; rfl
    refine seq_join (t := tAsg _ _) (fun σ' H' => ∃ l' : Addr, σ' = [some (.ref t), some (.int (n' : Nat)), some (.ref l'), some (.int (gB bs n)), some (.int kk), c5, c6] ∧ Same H5 H' ∧ H' l' = some (.lst ((decH (dpO O)).reverse.map V.int))) (fun N kN => ?_) ?_
    · refine ⟨_, rfl, _, rfl, _, rfl, ?_⟩
      dsimp only [tNoPart]
      refine ⟨l, _, rfl, .inl (.inl hl5), fun z1 m1 => ?_⟩
      rw [cut_last, List.dropLast_concat]
      have g1 := same_upd (o := .lst (r.reverse.map V.int)) m1
      have h1' := @upd_same H5 z1 (.lst (r.reverse.map V.int))
      generalize upd H5 z1 (.lst (r.reverse.map V.int)) = H6 at g1 h1' ⊢
      refine ⟨_, rfl, _, rfl, l, _, -1, .int x, rfl, rfl, .inl (.inl (g1 _ _ hl5)), atI_last _ _, _, _, rfl, rfl, (by show 1 ≤ sizeLine; omega), fun z2 m2 => ?_⟩
      have g2 := same_upd (o := .lst [.int (x - 1)]) m2
      have h2' := @upd_same H6 z2 (.lst [.int (x - 1)])
      generalize upd H6 z2 (.lst [.int (x - 1)]) = H7 at g2 h2' ⊢
      refine ⟨z1, z2, _, _, rfl, rfl, g2 _ _ h1', h2', ?_, fun z3 m3 => kN _ _ ⟨z3, rfl, g1.trans (g2.trans (same_upd m3)), ?_⟩⟩
      · rw [List.length_map, List.length_reverse]
        show r.length + 1 ≤ sizeLine
        omega
      · rw [upd_same, edec, List.reverse_cons, List.map_append]
        rfl
    rintro σ6 H6 ⟨l6, rfl, s6, hl6⟩
    refine seq_join (t := tIfS _ _ _) (fun σ' H' => ∃ (l' : Addr) (L' : List Int), σ' = [some (.ref t), some (.int (n' : Nat)), some (.ref l'), some (.int (gB bs n)), some (.int kk), c5, c6] ∧ Same H6 H' ∧ H' l' = some (.lst (L'.reverse.map V.int)) ∧ L' = (if gB bs n = 3 then kk :: decH (dpO O) else decH (dpO O))) (fun N kN => ?_) ?_
    · refine ⟨_, rfl, rfl, _, rfl, ?_⟩
      by_cases c3 : gB bs n = 3
      · rw [show decide (V.int (gB bs n) = V.int 3) = true from decide_eq_true (by rw [c3])]
        refine iteT ⟨_, rfl, _, rfl, (by show 1 ≤ sizeLine; omega), fun z2 m2 => ?_⟩
        have g2 := same_upd (o := .lst [.int kk]) m2
        have h2' := @upd_same H6 z2 (.lst [.int kk])
        generalize upd H6 z2 (.lst [.int kk]) = H7 at g2 h2' ⊢
        refine ⟨l6, z2, _, _, rfl, rfl, g2 _ _ hl6, h2', ?_, fun z3 m3 => kN _ _ ⟨z3, kk :: decH (dpO O), rfl, g2.trans (same_upd m3), ?_, (if_pos c3).symm⟩⟩
        · rw [List.length_map, List.length_reverse, edec]
          show r.length + 1 + 1 ≤ sizeLine
          omega
        · rw [upd_same, List.reverse_cons, List.map_append]
          rfl
      · rw [show decide (V.int (gB bs n) = V.int 3) = false from decide_eq_false (fun z => by injection z with z; exact c3 z)]
        exact iteF (kN _ _ ⟨l6, _, rfl, .refl _, hl6, (if_neg c3).symm⟩)
    rintro σ7 H7 ⟨l7, L0, rfl, s7, hl7, eL0⟩
    have hL0 : L0.length ≤ 30 := by
      rw [eL0]
      split
      · rw [edec]
        show r.length + 1 + 1 ≤ 30
        omega
      · rw [edec]
        show r.length + 1 ≤ 30
        omega
    have sm7 : Same H H7 := sm5.trans (s6.trans s7)
    refine ⟨WIn H t n' (gB bs n) kk c5 c6 L0, ⟨_, ⟨l7, L0, rfl, sm7, hl7, rfl, by omega, rfl⟩⟩, ?_⟩
    rintro m8 σ8 H8 ⟨l8, L8, rfl, s8, hl8, hp8, hL8, rfl⟩
    refine ⟨_, rfl, Nat.zero_le _, fun e he => ⟨l8, e, _, rfl, rfl, SqL.of (same_upd he _ _ hl8), SqL.of upd_same, _, rfl, ?_⟩⟩
    have se := same_upd (o := .lst []) he
    replace s8 := s8.trans se
    replace hl8 := se _ _ hl8
    generalize upd H8 e (.lst []) = H8 at s8 hl8
    have fin : popZ L8 = L8 → ∃ m', m' < bs.length - n + 1 ∧ WFl H t bs m' [some (.ref t), some (.int (n' : Nat)), some (.ref l8), some (.int (gB bs n)), some (.int kk), c5, c6] H8 := fun hpz => by
      have hL8' : L8 = popZ L0 := by rw [← hp8, hpz]
      have hrun' : (match rStep bs n O with | .bad a z => Out.bad a z | .ok (none, n', O') => rRun bs k n' O' | .ok (some d, n', _) => if n' < bs.length then .bad n' "more" else .ok d) = rdAll bs := hrun
      have clo : ∀ d, rStep bs n O = .ok (closeN d n' O) → popZ L0 = popZ (decH (dpO O)) → ∃ m', m' < bs.length - n + 1 ∧ WFl H t bs m' [some (.ref t), some (.int (n' : Nat)), some (.ref l8), some (.int (gB bs n)), some (.int kk), c5, c6] H8 := fun d hst hpo => by
        obtain ⟨pc1, pc2⟩ := pop_close O d hfr
        rw [hst] at hrun'
        unfold closeN at hrun'
        rw [hpo, pc1] at hL8'
        have hcl := closeD_len O d
        cases ec : (closeD d O).1 with
        | none =>
          rw [ec] at hrun' hL8'
          exact ⟨bs.length - n' + 1, by omega, n', l8, L8, _, _, _, _, rfl, s8, hl8, hn', .inl ⟨(closeD d O).2, k, hL8', pc2, by omega, hrun', by omega, rfl⟩⟩
        | some d' =>
          rw [ec] at hrun' hL8'
          exact ⟨0, by omega, n', l8, L8, _, _, _, _, rfl, s8, hl8, hn', .inr ⟨d', hL8', hrun', rfl⟩⟩
      have est : rStep bs n O = (if gB bs n = 3 ∧ 0 < kk then .ok (none, n + 3, (kk.toNat, []) :: O) else if gB bs n = 1 then .ok (closeN (.int kk) (n + 3) O) else if gB bs n = 2 then (match rStr bs (n + 3) kk.toNat with
        | .bad a z => .bad a z
        | .ok l => .ok (closeN (.str (strV l)) (n + 3 + kk.toNat) O)) else .ok (closeN (.tuple []) (n + 3) O)) := by
        unfold rStep
        rw [ewd]
        dsimp only
        rw [enum]
        all_goals rfl
      rcases hw2 with ⟨c2, rfl, ls, hls⟩ | ⟨c2, rfl⟩
      · rw [if_neg (by omega), if_neg (by omega), if_pos c2, hls] at est
        rw [if_neg (by omega)] at eL0
        exact clo _ est (by rw [eL0])
      · by_cases c3 : gB bs n = 3
        · rw [if_pos c3] at eL0
          by_cases ck : 0 < kk
          · rw [if_pos ⟨c3, ck⟩] at est
            rw [est] at hrun'
            rw [eL0, popZ_pos (by omega)] at hL8'
            have hO : O.length ≠ 20 := fun z => hnd ⟨c3, z⟩
            refine ⟨bs.length - (n + 3) + 1, by omega, n + 3, l8, L8, _, _, _, _, rfl, s8, hl8, hn', .inl ⟨(kk.toNat, []) :: O, k, ?_, fun f hf => ?_, by rw [List.length_cons]; omega, hrun', by omega, rfl⟩⟩
            · rw [hL8']
              show kk :: decH (dpO O) = ((kk.toNat : Int) - ((0 : Nat) : Int)) :: decH (dpO O)
              congr 1
              omega
            · rcases List.mem_cons.mp hf with rfl | hf
              · show 0 < kk.toNat
                omega
              · exact hfr f hf
          · rw [if_neg (fun z => ck z.2), if_neg (by omega), if_neg c2] at est
            refine clo _ est ?_
            rw [eL0]
            exact if_pos (by omega)
        · rw [if_neg c3] at eL0
          have c1 : gB bs n = 1 := by
            unfold isWord at ew
            simp only [Bool.or_eq_true, decide_eq_true_eq] at ew
            omega
          rw [if_neg (fun z => c3 z.1), if_pos c1] at est
          exact clo _ est (by rw [eL0])
    cases L8 with
    | nil => exact iteF (iteF (fin rfl))
    | cons y r8 =>
      have hne8 : (!((y :: r8).reverse.map V.int).isEmpty) = true := by simp
      rw [hne8]
      rw [List.reverse_cons, List.map_append] at hl8
      have hl8 : H8 l8 = some (.lst (r8.reverse.map V.int ++ [.int y])) := hl8
      refine iteT ⟨_, rfl, _, rfl, l8, _, -1, .int y, rfl, rfl, .inl (.inl hl8), atI_last _ _, rfl, _, rfl, ?_⟩
      by_cases cy : y = 0
      · rw [show decide (V.int y = V.int 0) = true from decide_eq_true (by rw [cy])]
        refine iteT ⟨fun σ' H' => ∃ m', m' < (y :: r8).length ∧ WIn H t n' (gB bs n) kk c5 c6 L0 m' σ' H', fun _ _ h => h, ?_⟩
        refine ⟨_, rfl, _, rfl, _, rfl, ?_⟩
        dsimp only [tNoPart]
        refine ⟨l8, _, rfl, .inl (.inl hl8), fun z1 m1 => ?_⟩
        rw [cut_last, List.dropLast_concat]
        refine ⟨r8.length, Nat.lt_succ_self _, z1, r8, rfl, s8.trans (same_upd m1), upd_same, ?_, by rw [List.length_cons] at hL8; omega, rfl⟩
        rw [← hp8]
        exact (if_pos cy).symm
      · rw [show decide (V.int y = V.int 0) = false from decide_eq_false (fun z => by injection z with z; exact cy z)]
        exact iteF (fin (popZ_pos cy))
end
end Net
namespace Net
open PySem PySem.Spec PyProof.Rows L2 NetR
def encO : List (Nat × List PyData) → List Int
  | [] => []
  | f :: O => encO O ++ ([3, (f.1 : Int) / 256, (f.1 : Int) % 256] ++ encs f.2)
def okF : List (Nat × List PyData) → Prop
  | [] => True
  | f :: O => f.2.length < f.1 ∧ f.1 ≤ 65535 ∧ isDats f.2 = true ∧ doks f.2 = true ∧ O.length + 1 + ddeps f.2 ≤ 20 ∧ okF O
theorem ddeps_app : ∀ (ds es : List PyData), ddeps (ds ++ es) = max (ddeps ds) (ddeps es)
  | [], es => by rw [List.nil_append, ddeps, Nat.zero_max]
  | d :: ds, es => by rw [List.cons_append, ddeps, ddeps, ddeps_app ds es, Nat.max_assoc]
def clR (O0 : List (Nat × List PyData)) (d : PyData) (x : Option PyData × List (Nat × List PyData)) : Prop := match x.1 with
  | some d' => isDat d' = true ∧ dok d' = true ∧ ddep d' ≤ 20 ∧ encO O0 ++ enc d = enc d'
  | none => okF x.2 ∧ encO x.2 = encO O0 ++ enc d ∧ x.2.length ≤ 20
theorem close_enc : ∀ (O : List (Nat × List PyData)) (d : PyData), okF O → O.length ≤ 20 → isDat d = true → dok d = true → O.length + ddep d ≤ 20 → clR O d (closeD d O)
  | [], d, _, _, h1, h2, h3 => ⟨h1, h2, by simpa using h3, rfl⟩
  | (m, ds) :: O, d, hO, h20, h1, h2, h3 => by
    obtain ⟨a1, a2, a3, a4, a5, a6⟩ := hO
    have a1 : ds.length < m := a1
    have a5 : O.length + 1 + ddeps ds ≤ 20 := a5
    have h3 : O.length + 1 + ddep d ≤ 20 := h3
    have h20 : O.length + 1 ≤ 20 := h20
    have i1 : isDats (ds ++ [d]) = true := by rw [isDats_app, a3, isDats, h1, isDats]; rfl
    have i2 : doks (ds ++ [d]) = true := by rw [doks_app, a4, doks, h2, doks]; rfl
    have i3 : O.length + 1 + ddeps (ds ++ [d]) ≤ 20 := by
      rw [ddeps_app, ddeps, ddeps]
      omega
    have ie : encs (ds ++ [d]) = encs ds ++ enc d := by rw [encs_app, encs, encs, List.append_nil]
    by_cases c : ds.length + 1 < m
    · have e : closeD d ((m, ds) :: O) = (none, (m, ds ++ [d]) :: O) := if_pos c
      rw [e]
      refine ⟨⟨by rw [List.length_append]; exact c, a2, i1, i2, i3, a6⟩, ?_, h20⟩
      show encO O ++ ([3, (m : Int) / 256, (m : Int) % 256] ++ encs (ds ++ [d])) = encO O ++ ([3, (m : Int) / 256, (m : Int) % 256] ++ encs ds) ++ enc d
      rw [ie]
      simp only [List.append_assoc]
    · have e : closeD d ((m, ds) :: O) = closeD (.tuple (ds ++ [d])) O := if_neg c
      rw [e]
      have ih := close_enc O (.tuple (ds ++ [d])) a6 (by omega) i1 i2 (by show O.length + (1 + ddeps (ds ++ [d])) ≤ 20; omega)
      have hm : ((ds ++ [d]).length : Int) = (m : Int) := by
        rw [List.length_append]
        show ((ds.length + 1 : Nat) : Int) = _
        omega
      have ee : encO ((m, ds) :: O) ++ enc d = encO O ++ enc (.tuple (ds ++ [d])) := by
        show encO O ++ ([3, (m : Int) / 256, (m : Int) % 256] ++ encs ds) ++ enc d = encO O ++ (3 :: ((ds ++ [d]).length : Int) / 256 :: ((ds ++ [d]).length : Int) % 256 :: encs (ds ++ [d]))
        rw [hm, ie]
        simp only [List.append_assoc]
        rfl
      unfold clR at ih ⊢
      rw [ee]
      exact ih
theorem ix_sg : ∀ {b : Int}, 0 ≤ b → b < 55 → ixS (sgC b) = b ∧ sgC b ∈ cs_SIGNS.cps.toList := fun {b} h0 h1 => by
  have all : ∀ j : Fin 55, ixS (sgC ((j.val : Nat) : Int)) = ((j.val : Nat) : Int) ∧ sgC ((j.val : Nat) : Int) ∈ cs_SIGNS.cps.toList := by decide +kernel
  have := all ⟨b.toNat, by omega⟩
  have e : ((b.toNat : Nat) : Int) = b := by omega
  rw [show ((⟨b.toNat, by omega⟩ : Fin 55).val) = b.toNat from rfl, e] at this
  exact this
theorem take_one {bs : List Int} {n : Nat} (h : n < bs.length) : bs.take (n + 1) = bs.take n ++ [gB bs n] := by
  rw [take_add (List.getElem?_eq_getElem h)]
  congr 2
  unfold gB
  rw [List.getD_eq_getElem?_getD, List.getElem?_eq_getElem h]
  rfl
theorem rStr_ok : ∀ (k : Nat) (bs : List Int) (n : Nat) (l : List Int), n ≤ bs.length → rStr bs n k = .ok l → n + k ≤ bs.length ∧ bs.take (n + k) = bs.take n ++ l ∧ (∀ b ∈ l, b < 55 ∧ b ∈ bs) ∧ l.length = k
  | 0, bs, n, l, hn, h => by
    cases h
    exact ⟨hn, by rw [List.append_nil]; rfl, fun b hb => (nomatch hb), rfl⟩
  | k + 1, bs, n, l, hn, h => by
    by_cases c1 : bs.length < n + 1
    · rw [rStr_end c1] at h
      cases h
    by_cases c2 : 55 ≤ gB bs n
    · rw [rStr_sign c1 c2] at h
      cases h
    rw [rStr_more c1 c2] at h
    cases hr : rStr bs (n + 1) k with
    | bad a z =>
      rw [hr] at h
      cases h
    | ok l' =>
      rw [hr] at h
      have h : Out.ok ([gB bs n] ++ l') = Out.ok l := h
      injection h with h
      subst h
      obtain ⟨h1, h2, h3, h4⟩ := rStr_ok k bs (n + 1) l' (by omega) hr
      refine ⟨by omega, ?_, fun b hb => ?_, by rw [List.length_append, h4]; show 1 + k = k + 1; omega⟩
      · rw [show n + (k + 1) = n + 1 + k by omega, h2, take_one (by omega), List.append_assoc]
      · rcases List.mem_append.mp hb with hb | hb
        · rw [List.mem_singleton.mp hb]
          refine ⟨by omega, ?_⟩
          unfold gB
          rw [List.getD_eq_getElem?_getD, List.getElem?_eq_getElem (show n < bs.length by omega)]
          exact List.getElem_mem _
        · exact h3 b hb
theorem strV_enc {l : List Int} (h : ∀ b ∈ l, 0 ≤ b ∧ b < 55) (hl : l.length ≤ 60000) : enc (.str (strV l)) = [2, (l.length : Int) / 256, (l.length : Int) % 256] ++ l ∧ isDat (.str (strV l)) = true ∧ dok (.str (strV l)) = true := by
  have e1 : (strV l).cps.toList = l.map sgC := rfl
  have e2 : (strV l).length = l.length := by
    show (l.map sgC).toArray.size = l.length
    rw [List.size_toArray, List.length_map]
  refine ⟨?_, ?_, ?_⟩
  · show encS (strV l) = _
    rw [encS, e1, e2, List.map_map]
    have : l.map (ixS ∘ sgC) = l := by
      have := List.map_congr_left (f := ixS ∘ sgC) (g := id) fun b hb => (ix_sg (h b hb).1 (h b hb).2).1
      rw [this, List.map_id]
    rw [this]
    rfl
  · rw [isDat_leaf rfl]
    show (decide ((strV l).length ≤ 65535) && (strV l).cps.toList.all fun c => decide (c ∈ cs_SIGNS.cps.toList)) = true
    rw [e2, decide_eq_true (by omega), e1, List.all_map, Bool.true_and]
    exact List.all_eq_true.mpr fun b hb => decide_eq_true (ix_sg (h b hb).1 (h b hb).2).2
  · show decide ((strV l).length ≤ 60000) = true
    rw [e2]
    exact decide_eq_true hl
def stR (bs : List Int) (x : Option PyData × Nat × List (Nat × List PyData)) : Prop := x.2.1 ≤ bs.length ∧ match x.1 with
  | some d => isDat d = true ∧ dok d = true ∧ ddep d ≤ 20 ∧ bs.take x.2.1 = enc d
  | none => okF x.2.2 ∧ bs.take x.2.1 = encO x.2.2 ∧ x.2.2.length ≤ 20
theorem close_st {bs : List Int} {O : List (Nat × List PyData)} {d : PyData} {n n' : Nat} (hO : okF O) (h20 : O.length ≤ 20) (ht : bs.take n = encO O) (hn' : n' ≤ bs.length) (h1 : isDat d = true) (h2 : dok d = true) (h3 : O.length + ddep d ≤ 20) (h4 : bs.take n' = bs.take n ++ enc d) : stR bs (closeN d n' O) := by
  have hc := close_enc O d hO h20 h1 h2 h3
  refine ⟨hn', ?_⟩
  unfold clR at hc
  unfold closeN
  dsimp only
  cases ec : (closeD d O).1 with
  | none =>
    rw [ec] at hc
    exact ⟨hc.1, by rw [h4, ht, hc.2.1], hc.2.2⟩
  | some d' =>
    rw [ec] at hc
    exact ⟨hc.1, hc.2.1, hc.2.2.1, by rw [h4, ht, hc.2.2.2]⟩
theorem step_enc {bs : List Int} {n : Nat} {O : List (Nat × List PyData)} {x : Option PyData × Nat × List (Nat × List PyData)} (hby : bs.all byteB = true) (hl : bs.length ≤ 60000) (hn : n ≤ bs.length) (hO : okF O) (h20 : O.length ≤ 20) (ht : bs.take n = encO O) (h : rStep bs n O = .ok x) : stR bs x := by
  have hb := all_byte hby
  unfold rStep at h
  by_cases c1 : bs.length < n + 1
  · rw [show rWord bs n O.length = .bad bs.length "end" from if_pos c1] at h
    cases h
  cases ew : isWord (gB bs n) with
  | false =>
    rw [show rWord bs n O.length = .bad n "word" from (if_neg c1).trans (if_pos ew)] at h
    cases h
  | true =>
  by_cases cd : gB bs n = 3 ∧ O.length = 20
  · rw [show rWord bs n O.length = .bad n "deep" from (if_neg c1).trans ((if_neg (by rw [ew]; exact fun z => Bool.noConfusion z)).trans (if_pos cd))] at h
    cases h
  rw [show rWord bs n O.length = .ok (gB bs n) from (if_neg c1).trans ((if_neg (by rw [ew]; exact fun z => Bool.noConfusion z)).trans (if_neg cd))] at h
  dsimp only at h
  by_cases c3 : bs.length < n + 1 + 2
  · rw [show rNum bs (n + 1) = .bad bs.length "end" from if_pos c3] at h
    cases h
  have b0 := gB_byte hb n
  have b1 := gB_byte hb (n + 1)
  have b2 := gB_byte hb (n + 2)
  rw [show rNum bs (n + 1) = .ok (gB bs (n + 1) * 256 + gB bs (n + 2)) from if_neg c3] at h
  dsimp only at h
  have t3 : bs.take (n + 3) = bs.take n ++ [gB bs n, gB bs (n + 1), gB bs (n + 2)] := by
    rw [show n + 3 = n + 1 + 1 + 1 by omega, take_one (by omega), take_one (by omega), take_one (by omega)]
    simp
  have d1 : (gB bs (n + 1) * 256 + gB bs (n + 2)) / 256 = gB bs (n + 1) := by omega
  have d2 : (gB bs (n + 1) * 256 + gB bs (n + 2)) % 256 = gB bs (n + 2) := by omega
  by_cases w3 : gB bs n = 3 ∧ 0 < gB bs (n + 1) * 256 + gB bs (n + 2)
  · rw [if_pos w3] at h
    injection h with h
    subst h
    have hk : (((gB bs (n + 1) * 256 + gB bs (n + 2)).toNat : Nat) : Int) = gB bs (n + 1) * 256 + gB bs (n + 2) := by omega
    have hO20 : O.length ≠ 20 := fun z => cd ⟨w3.1, z⟩
    refine ⟨by show n + 3 ≤ _; omega, ⟨by show 0 < _; omega, by show (gB bs (n + 1) * 256 + gB bs (n + 2)).toNat ≤ 65535; omega, rfl, rfl, by show O.length + 1 + 0 ≤ 20; omega, hO⟩, ?_, by show O.length + 1 ≤ 20; omega⟩
    show bs.take (n + 3) = encO O ++ ([3, (((gB bs (n + 1) * 256 + gB bs (n + 2)).toNat : Nat) : Int) / 256, (((gB bs (n + 1) * 256 + gB bs (n + 2)).toNat : Nat) : Int) % 256] ++ [])
    rw [hk, d1, d2, t3, ht, w3.1, List.append_nil]
  rw [if_neg w3] at h
  by_cases w1 : gB bs n = 1
  · rw [if_pos w1] at h
    injection h with h
    subst h
    refine close_st hO h20 ht (by omega) ?_ rfl (by show O.length + 0 ≤ 20; omega) ?_
    · show (decide (0 ≤ gB bs (n + 1) * 256 + gB bs (n + 2)) && decide (gB bs (n + 1) * 256 + gB bs (n + 2) ≤ 65535)) = true
      rw [decide_eq_true (by omega), decide_eq_true (by omega)]
      rfl
    · rw [t3, w1]
      show _ = bs.take n ++ [1, (gB bs (n + 1) * 256 + gB bs (n + 2)) / 256, (gB bs (n + 1) * 256 + gB bs (n + 2)) % 256]
      rw [d1, d2]
  rw [if_neg w1] at h
  by_cases w2 : gB bs n = 2
  · rw [if_pos w2] at h
    cases hs : rStr bs (n + 3) (gB bs (n + 1) * 256 + gB bs (n + 2)).toNat with
    | bad a z =>
      rw [hs] at h
      cases h
    | ok l =>
      rw [hs] at h
      injection h with h
      subst h
      obtain ⟨s1, s2, s3, s4⟩ := rStr_ok _ bs (n + 3) l (by omega) hs
      obtain ⟨e1, e2, e3⟩ := strV_enc (l := l) (fun b hb' => ⟨(hb b (s3 b hb').2).1, (s3 b hb').1⟩) (by omega)
      refine close_st hO h20 ht s1 e2 e3 (by show O.length + 0 ≤ 20; omega) ?_
      have hk : ((l.length : Nat) : Int) = gB bs (n + 1) * 256 + gB bs (n + 2) := by omega
      rw [s2, t3, e1, hk, d1, d2, w2, List.append_assoc]
  rw [if_neg w2] at h
  injection h with h
  subst h
  have w3' : gB bs n = 3 := by
    unfold isWord at ew
    simp only [Bool.or_eq_true, decide_eq_true_eq] at ew
    omega
  have hO20 : O.length ≠ 20 := fun z => cd ⟨w3', z⟩
  have hz : gB bs (n + 1) = 0 ∧ gB bs (n + 2) = 0 := by
    have : ¬ 0 < gB bs (n + 1) * 256 + gB bs (n + 2) := fun z => w3 ⟨w3', z⟩
    omega
  refine close_st hO h20 ht (by omega) rfl rfl (by show O.length + (1 + 0) ≤ 20; omega) ?_
  rw [t3, w3', hz.1, hz.2]
  rfl
theorem run_enc2 : ∀ (k : Nat) {bs : List Int} {n : Nat} {O : List (Nat × List PyData)} {d : PyData}, bs.all byteB = true → bs.length ≤ 60000 → n ≤ bs.length → okF O → O.length ≤ 20 → bs.take n = encO O → rRun bs k n O = .ok d → isDat d = true ∧ dok d = true ∧ ddep d ≤ 20 ∧ enc d = bs
  | 0, _, _, _, _, _, _, _, _, _, _, h => by cases h
  | k + 1, bs, n, O, d, hby, hl, hn, hO, h20, ht, h => by
    have h : (match rStep bs n O with | .bad a z => Out.bad a z | .ok (none, n', O') => rRun bs k n' O' | .ok (some d, n', _) => if n' < bs.length then .bad n' "more" else .ok d) = .ok d := h
    cases hs : rStep bs n O with
    | bad a z =>
      rw [hs] at h
      cases h
    | ok x =>
      have hst := step_enc hby hl hn hO h20 ht hs
      obtain ⟨od, n', O'⟩ := x
      rw [hs] at h
      cases od with
      | none => exact run_enc2 k hby hl hst.1 hst.2.1 hst.2.2.2 hst.2.2.1 h
      | some d' =>
        have h : (if n' < bs.length then Out.bad n' "more" else .ok d') = .ok d := h
        by_cases c : n' < bs.length
        · rw [if_pos c] at h
          cases h
        · rw [if_neg c] at h
          injection h with h
          subst h
          have h1 : n' ≤ bs.length := hst.1
          obtain ⟨g1, g2, g3, g4⟩ := hst.2
          refine ⟨g1, g2, g3, ?_⟩
          have g4 : bs.take n' = enc d' := g4
          rw [← g4, List.take_of_length_le (by omega)]
theorem rd_enc {bs : List Int} {d : PyData} (hby : bs.all byteB = true) (hl : bs.length ≤ 60000) (h : rdAll bs = .ok d) : isDat d = true ∧ dok d = true ∧ ddep d ≤ 20 ∧ enc d = bs :=
  run_enc2 (O := []) _ hby hl (Nat.zero_le _) trivial (Nat.zero_le _) rfl h
mutual
theorem plD_dat : ∀ d : PyData, isDat d = true → plD d = true
  | .tuple ds, h => by
    rw [plD]
    exact plDs_dat ds h
  | .str _, _ => rfl
  | .int _, _ => rfl
  | .none, h => by cases h
  | .bool _, h => by cases h
  | .list _, h => by cases h
  | .dict _, h => by cases h
theorem plDs_dat : ∀ ds : List PyData, isDats ds = true → plDs ds = true
  | [], _ => rfl
  | d :: ds, h => by
    rw [isDats, Bool.and_eq_true] at h
    rw [plDs, plD_dat d h.1, plDs_dat ds h.2]
    rfl
end
end Net
namespace Net
open PySem PySem.Spec PyProof.Rows L2 NetR LamX
def qPR : Str := "_law_packs_right.<locals>.<lambda>"
def nest : Nat → PyData
  | 0 => .tuple []
  | i + 1 => .tuple [nest i]
def deepB : List Int := (List.replicate 20 [3, 0, 1]).flatten ++ [3, 0, 0]
theorem read_deep : rdAll deepB = .bad 60 "deep" := by rfl
theorem nest19 : (isDat (nest 19) && decide (ddep (nest 19) ≤ 20)) = true ∧ isDat (nest 19) = true ∧ dok (nest 19) = true ∧ dsz (nest 19) = 20 ∧ ddep (nest 19) = 20 ∧ (enc (nest 19)).length = 60 ∧ nodic (nest 19) = true ∧ (enc (nest 19)).all byteB = true := by decide +kernel
theorem nest20 : (isDat (nest 20) && decide (ddep (nest 20) ≤ 20)) = false ∧ dok (nest 20) = true ∧ dsz (nest 20) = 21 ∧ (enc (nest 20)).length = 63 := by decide +kernel
def badsR : List PyData := [.none, .bool true, .int (-1), .int 65536, .str "A", .str "'", .list [.int 1], .tuple [.int 1, .list [.int 2]], .dict [], .tuple [.str "a", .none]]
theorem badsR_ok : ∀ d ∈ badsR, (isDat d && decide (ddep d ≤ 20)) = false ∧ dok d = true ∧ dsz d ≤ 10000 ∧ (enc d).length ≤ 1000000 := by decide +kernel
def badsU : List PyData := [.none, .tuple [.int 256], .list [.int 1, .int 0, .int 0], .tuple [.bool true, .int 0, .int 0], .str "a"]
theorem badsU_ok : ∀ d ∈ badsU, areBytes d = false ∧ dsz d ≤ 100001 := by decide +kernel
def sp_right (Tt : List (Addr × Str)) : Sp := fun vs H Q E => ∃ b, vs = [.ref b] ∧ BagI H b ∧ Tabs Tt H ∧ ∀ H', BagI H' b → Tabs Tt H' → Q (.bl true) H'
section
variable {P : Program} {w : World} {K : PySem.W.Frag} {mg : Str → Option Value} {base : Heap} {CR CB CN : Addr}
abbrev s__law_packs_right : Stmt := top 52
theorem sc__law_packs_right : FnScope ["bag", "thing", "some", "turn", "at", "bad", "fault", "told", "deep", "found"] ["bag"] (defScope s__law_packs_right) := ⟨rfl, rfl, rfl, by decide +kernel, rfl, by decide +kernel, by decide +kernel⟩
theorem ok_packs {f c Pt fa f__law_take f__law_some f__law_data f__law_bytes f__law_alike f__law_fault f_packed f_unpacked : Addr} {fd fdA e1 e2 e3 e4 e5 e6 e7 e8 : FuncData} {Tt : List (Addr × Str)} (F : FunC K "_law_packs_right" "_law_packs_right" s__law_packs_right f fd c) (T : Tx mg)
    (FA : Fun K "_law_heard" "_law_heard" s__law_heard fa fdA) (gA : mg "_law_heard" = some (.ref fa)) (bA : Binds K fdA ["act"] []) (TX : TAx K mg CN CR CB) (TB : TabB base mg c Pt) (hmT : (Pt, qPR) ∈ Tt) (hu : ∀ p ∈ Tt, p.1 = Pt → p.2 = qPR)
    (d__law_take : Ok1 P w K mg base CX0 1 "_law_take" ["bag", "many"] sp_take f__law_take e1) (d__law_some : Ok1 P w K mg base CX0 2 "_law_some" ["bag", "things"] sp_some f__law_some e2)
    (d__law_data : Ok1 P w K mg base CX0 3 "_law_data" ["bag"] sp_ldata f__law_data e3) (d__law_bytes : Ok1 P w K mg base CX0 2 "_law_bytes" ["thing"] sp_lbytes f__law_bytes e4)
    (d__law_alike : Ok1 P w K mg base CX0 1 "_law_alike" ["found", "due"] sp_alike f__law_alike e5) (d__law_fault : Ok1 P w K mg base CX0 1 "_law_fault" ["some"] sp_lfault f__law_fault e6)
    (d_packed : Ok1 P w K mg base (L2.CX P w) 5 "packed" ["thing"] (sp_packed CR) f_packed e7) (d_unpacked : Ok1 P w K mg base (L2.CX P w) 7 "unpacked" ["some"] (sp_unpacked CB) f_unpacked e8) :
    FnOk P w K mg base CX0 12 f fd ["bag"] (sp_right Tt) := by
  refine F.ok sc__law_packs_right (fun vs H Q E h => ?_) (fun A outer s H vs Q E hr h => ?_)
  · obtain ⟨b, rfl, _⟩ := h
    rfl
  · obtain ⟨b, rfl, hB, hT, q⟩ := h
    obtain ⟨t_SIGNS, c_SIGNS⟩ := T.c_SIGNS
    refine ⟨_, (pss_cons (ps_set (i := 1) sc__law_packs_right.nd rfl (Or.inl rfl) (pe_call d__law_data.ok (hr.mono (by decide)) rfl d__law_data.g d__law_data.kp d__law_data.b .nil pass0 (pa_cons (pv 0) pa_nil)))
      (pss_cons (ps_set (i := 2) sc__law_packs_right.nd rfl (Or.inl rfl) (pe_callTy call_tuple_of (by rfl) T.n_tuple (by decide +kernel) (pa_cons (pe_call d__law_bytes.ok (hr.mono (by decide)) rfl d__law_bytes.g d__law_bytes.kp d__law_bytes.b .nil pass0 (pa_cons (pv 1) pa_nil)) pa_nil)))
      (pss_cons (ps_if (pt_not (pt_val (pe_call d__law_alike.ok (hr.mono (by decide)) rfl d__law_alike.g d__law_alike.kp d__law_alike.b .nil pass0 (pa_cons (pe_lst (pa_cons (pe_call d_packed.ok (hr.mono (by decide)) rfl d_packed.g d_packed.kp d_packed.b .nil passL (pa_cons (pv 1) pa_nil)) (pa_cons (pe_call d_unpacked.ok (hr.mono (by decide)) rfl d_unpacked.g d_unpacked.kp d_unpacked.b .nil passL (pa_cons (pv 2) pa_nil)) (pa_cons (pe_callB call_len (by rfl) T.n_len (by decide +kernel) (pa_cons (pe_glob (v := .str cs_SIGNS) rfl c_SIGNS ⟨_, rfl⟩) pa_nil)) pa_nil)))) (pa_cons (pe_lst (pa_cons (pv 2) (pa_cons (pv 1) (pa_cons pe_int pa_nil)))) pa_nil))))) (pss_one (ps_ret pe_bl)) pss_nil)
      (pss_cons (ps_for PassesOwn.never rfl (pi_range1 (by rfl) T.n_range (pa_cons pe_int pa_nil)) (pg_name (i := 3) sc__law_packs_right.nd rfl (Or.inl rfl)) (pss_cons (ps_set (i := 4) sc__law_packs_right.nd rfl (Or.inl rfl) (pe_call d__law_take.ok (hr.mono (by decide)) rfl d__law_take.g d__law_take.kp d__law_take.b .nil pass0 (pa_cons (pv 0) (pa_cons (pe_callB call_len (by rfl) T.n_len (by decide +kernel) (pa_cons (pv 2) pa_nil)) pa_nil))))
      (pss_cons (ps_set (i := 5) sc__law_packs_right.nd rfl (Or.inr rfl) (pe_call d__law_some.ok (hr.mono (by decide)) rfl d__law_some.g d__law_some.kp d__law_some.b .nil pass0 (pa_cons (pv 0) (pa_cons (pe_lst (pa_cons (pe_op op_catA (pe_op op_catA (pe_slice sl_tupA (pv 2) po_none (po_some (pv 4))) (pe_tup (pa_cons (pe_call d__law_take.ok (hr.mono (by decide)) rfl d__law_take.g d__law_take.kp d__law_take.b .nil pass0 (pa_cons (pv 0) (pa_cons pe_int pa_nil))) pa_nil))) (pe_slice sl_tupA (pv 2) (po_some (pe_op op_add (pv 4) pe_int)) po_none)) (pa_cons (pe_slice sl_tupA (pv 2) po_none (po_some (pv 4))) (pa_cons (pe_op op_catA (pv 2) (pe_tup (pa_cons (pe_call d__law_take.ok (hr.mono (by decide)) rfl d__law_take.g d__law_take.kp d__law_take.b .nil pass0 (pa_cons (pv 0) (pa_cons pe_int pa_nil))) pa_nil))) (pa_cons (pe_op op_catA (pe_slice sl_tupA (pv 2) po_none (po_some (pv 4))) (pe_slice sl_tupA (pv 2) (po_some (pe_op op_add (pv 4) pe_int)) po_none)) pa_nil))))) pa_nil))))
      (pss_cons (ps_set (i := 6) sc__law_packs_right.nd rfl (Or.inl rfl) (pe_call d__law_fault.ok (hr.mono (by decide)) rfl d__law_fault.g d__law_fault.kp d__law_fault.b .nil pass0 (pa_cons (pv 5) pa_nil)))
      (pss_cons (ps_set (i := 7) sc__law_packs_right.nd rfl (Or.inl rfl) (pe_heard (k := 8) FA rfl gA bA TX TB rfl hmT hu (hr.mono (by decide)) (lamS_by (sc := defScope s__law_packs_right) (by decide +kernel)) rfl (fun _ _ _ _ _ => rfl) (fun A2 outer2 s2 H2 E2 f2 c2 hr2 => (pe_call d_unpacked.ok (hr2.mono (by decide)) rfl d_unpacked.g d_unpacked.kp d_unpacked.b .nil (passes_call (takes_of rfl rfl rfl rfl) (fun _ _ _ _ h => h)) (pa_cons (pv 5) pa_nil)))))
      (pss_one (ps_if (PW.pt (pw_or (PW.pt (pw_and (pt_cmpR op_notN (pv 6) pe_non (nomark _)) (pw_and1 (pt_not (pt_val (pe_call d__law_alike.ok (hr.mono (by decide)) rfl d__law_alike.g d__law_alike.kp d__law_alike.b .nil pass0 (pa_cons (pv 7) (pa_cons (pe_tup (pa_cons pe_str (pa_cons (pe_ix ix_tup (pv 6) pe_int (fun _ _ => rfl)) (pa_cons (pe_ix ix_tup (pv 6) pe_int (fun _ _ => rfl)) pa_nil)))) pa_nil)))))))) (pw_or1 (PW.pt (pw_and (pt_cmpR op_isN (pv 6) pe_non (nomark _)) (pw_and1 (PW.pt (pw_or (pt_cmpR op_ne (pe_ix ix_tup (pv 7) pe_int (fun _ _ => rfl)) pe_str (nomark _)) (pw_or1 (pt_cmpR (op_neTI hr.units) (pe_call d_packed.ok (hr.mono (by decide)) rfl d_packed.g d_packed.kp d_packed.b .nil passL (pa_cons (pe_ix ix_tup (pv 7) pe_int (fun _ _ => rfl)) pa_nil)) (pv 5) (nomark _))))))))))) (pss_one (ps_ret pe_bl)) pss_nil)))))))
      (pss_cons (ps_set (i := 8) sc__law_packs_right.nd rfl (Or.inr rfl) (pe_tup pa_nil))
      (pss_cons (ps_for PassesOwn.never rfl (pi_range1 (by rfl) T.n_range (pa_cons pe_int pa_nil)) (pg_name (i := 3) sc__law_packs_right.nd rfl (Or.inl rfl)) (pss_one (ps_set (i := 8) sc__law_packs_right.nd rfl (Or.inr rfl) (pe_tup (pa_cons (pv 8) pa_nil)))))
      (pss_cons (ps_set (i := 9) sc__law_packs_right.nd rfl (Or.inl rfl) (pe_lst (pa_cons (pe_call d_unpacked.ok (hr.mono (by decide)) rfl d_unpacked.g d_unpacked.kp d_unpacked.b .nil passL (pa_cons (pe_call d_packed.ok (hr.mono (by decide)) rfl d_packed.g d_packed.kp d_packed.b .nil passL (pa_cons (pv 8) pa_nil)) pa_nil)) (pa_cons (pe_heard (k := 8) FA rfl gA bA TX TB rfl hmT hu (hr.mono (by decide)) (lamS_by (sc := defScope s__law_packs_right) (by decide +kernel)) rfl (fun _ _ _ _ _ => rfl) (fun A2 outer2 s2 H2 E2 f2 c2 hr2 => (pe_call d_packed.ok (hr2.mono (by decide)) rfl d_packed.g d_packed.kp d_packed.b .nil (passes_call (takes_of rfl rfl rfl rfl) (fun _ _ _ _ h => h)) (pa_cons (pe_tup (pa_cons (pv 8) pa_nil)) pa_nil)))) pa_nil))))
      (pss_cons (ps_expr (pe_bm PySem.F.plainAttrs_list PySem.F.slot_list_append PySem.F.type_list_append mt_append (pv 9) (pa_cons (pe_heard (k := 8) FA rfl gA bA TX TB rfl hmT hu (hr.mono (by decide)) (lamS_by (sc := defScope s__law_packs_right) (by decide +kernel)) rfl (fun _ _ _ _ _ => rfl) (fun A2 outer2 s2 H2 E2 f2 c2 hr2 => (pe_call d_unpacked.ok (hr2.mono (by decide)) rfl d_unpacked.g d_unpacked.kp d_unpacked.b .nil (passes_call (takes_of rfl rfl rfl rfl) (fun _ _ _ _ h => h)) (pa_cons (pe_op (show OpR _ (binaryOp .Add) (rCatA K) from op_catA) (pe_op (show OpR _ (binaryOp .Mult) (rRepTA K) from op_repTA) (pe_tup (pa_cons pe_int (pa_cons pe_int (pa_cons pe_int pa_nil)))) pe_int) (pe_tup (pa_cons pe_int (pa_cons pe_int (pa_cons pe_int pa_nil))))) pa_nil)))) pa_nil)))
      (pss_cons (ps_if (pt_not (pt_val (pe_call d__law_alike.ok (hr.mono (by decide)) rfl d__law_alike.g d__law_alike.kp d__law_alike.b .nil pass0 (pa_cons (pv 9) (pa_cons (pe_lst (pa_cons (pv 8) (pa_cons (pe_tup (pa_cons pe_str (pa_cons pe_str pa_nil))) (pa_cons (pe_tup (pa_cons pe_str (pa_cons pe_int (pa_cons pe_str pa_nil)))) pa_nil)))) pa_nil))))) (pss_one (ps_ret pe_bl)) pss_nil)
      (pss_cons (ps_for PassesOwn.never rfl (pi_tup (pe_tup (pa_cons pe_non (pa_cons pe_bl (pa_cons (pe_un un_neg pe_int) (pa_cons pe_int (pa_cons pe_str (pa_cons pe_str (pa_cons (pe_lst (pa_cons pe_int pa_nil)) (pa_cons (pe_tup (pa_cons pe_int (pa_cons (pe_lst (pa_cons pe_int pa_nil)) pa_nil))) (pa_cons (pe_disp (pps_cons pe_str pe_int pps_nil) rfl rfl (by simp) (by decide)) (pa_cons (pe_tup (pa_cons pe_str (pa_cons pe_non pa_nil))) pa_nil)))))))))))) (pg_name (i := 5) sc__law_packs_right.nd rfl (Or.inr rfl)) (pss_one (ps_if (pt_not (pt_val (pe_call d__law_alike.ok (hr.mono (by decide)) rfl d__law_alike.g d__law_alike.kp d__law_alike.b .nil pass0 (pa_cons (pe_heard (k := 8) FA rfl gA bA TX TB rfl hmT hu (hr.mono (by decide)) (lamS_by (sc := defScope s__law_packs_right) (by decide +kernel)) rfl (fun _ _ _ _ _ => rfl) (fun A2 outer2 s2 H2 E2 f2 c2 hr2 => (pe_call d_packed.ok (hr2.mono (by decide)) rfl d_packed.g d_packed.kp d_packed.b .nil (passes_call (takes_of rfl rfl rfl rfl) (fun _ _ _ _ h => h)) (pa_cons (pv 5) pa_nil)))) (pa_cons (pe_tup (pa_cons pe_str (pa_cons pe_str pa_nil))) pa_nil))))) (pss_one (ps_ret pe_bl)) pss_nil)))
      (pss_cons (ps_for PassesOwn.never rfl (pi_tup (pe_tup (pa_cons pe_non (pa_cons (pe_tup (pa_cons pe_int pa_nil)) (pa_cons (pe_lst (pa_cons pe_int (pa_cons pe_int (pa_cons pe_int pa_nil)))) (pa_cons (pe_tup (pa_cons pe_bl (pa_cons pe_int (pa_cons pe_int pa_nil)))) (pa_cons pe_str pa_nil))))))) (pg_name (i := 5) sc__law_packs_right.nd rfl (Or.inr rfl)) (pss_one (ps_if (pt_not (pt_val (pe_call d__law_alike.ok (hr.mono (by decide)) rfl d__law_alike.g d__law_alike.kp d__law_alike.b .nil pass0 (pa_cons (pe_heard (k := 8) FA rfl gA bA TX TB rfl hmT hu (hr.mono (by decide)) (lamS_by (sc := defScope s__law_packs_right) (by decide +kernel)) rfl (fun _ _ _ _ _ => rfl) (fun A2 outer2 s2 H2 E2 f2 c2 hr2 => (pe_call d_unpacked.ok (hr2.mono (by decide)) rfl d_unpacked.g d_unpacked.kp d_unpacked.b .nil (passes_call (takes_of rfl rfl rfl rfl) (fun _ _ _ _ h => h)) (pa_cons (pv 5) pa_nil)))) (pa_cons (pe_tup (pa_cons pe_str (pa_cons pe_int (pa_cons pe_str pa_nil)))) pa_nil))))) (pss_one (ps_ret pe_bl)) pss_nil)))
      (pss_one (ps_ret pe_bl))))))))))))), ?_⟩
    have hbig := sl_big
    refine seq_join (t := tAsg _ _) (fun σ' H' => ∃ (v : V) (d : PyData), σ' = [some (.ref b), some v, none, none, none, none, none, none, none, none] ∧ SB b H H' ∧ BagI H' b ∧ Rp (dlt H' b) v d ∧ gd 5 d = true) (fun N kN => ?_) ?_
    · exact ⟨_, rfl, b, rfl, hB, fun H1 v d sb1 hB1 rv hg => kN _ _ ⟨v, d, rfl, sb1, hB1, rv, hg⟩⟩
    rintro σ1 H1 ⟨v, d, rfl, sb1, hB1, rv, hgd⟩
    have hT1 := tabs_sb hB hT sb1
    unfold gd at hgd
    simp only [Bool.and_eq_true, decide_eq_true_eq] at hgd
    obtain ⟨⟨⟨⟨⟨gD, gP⟩, gK⟩, gN, gT⟩, gS⟩, gE⟩ := hgd
    have gS : dsz d ≤ 364 := gS
    have gE : ddep d ≤ 6 := gE
    have hEn : (enc d).length ≤ 4732 := by
      have := enc_short d gT
      omega
    have hEall := enc_all d gD (by omega)
    have hge := (enc_ge d gD).1
    have hps := dsz_pos d
    have gD2 : (isDat d && decide (ddep d ≤ 20)) = true := by rw [gD, decide_eq_true (by omega)]; rfl
    refine seq_join (t := tAsg _ _) (fun σ' H' => ∃ (ps : Addr), σ' = [some (.ref b), some v, some (.ref ps), none, none, none, none, none, none, none] ∧ Same H1 H' ∧ H' ps = some (.tup ((enc d).map V.int))) (fun N kN => ?_) ?_
    · exact ⟨_, rfl, v, d, rfl, rv.same (dlt_same H1 b), gK, by omega, by omega, gD, fun H2 l s2 hl => ⟨l, _, rfl, .inl ⟨SqL.of hl, fun p hp => kN _ _ ⟨p, rfl, s2.trans (same_upd hp), upd_same⟩⟩⟩⟩
    rintro σ2 H2 ⟨ps, rfl, s12, hps2⟩
    have hB2 := hB1.same s12
    have hT2 := tabs_sb hB1 hT1 (SB.of s12)
    have rv2 := rv.same (dlt_mono (b := b) s12)
    have hread : rdAll (enc d) = .ok d := by
      have := read_enc gD (by omega) (by omega) []
      rwa [List.append_nil, if_pos rfl] at this
    refine seq_join (t := tIfS _ _ _) (fun σ' H' => σ' = [some (.ref b), some v, some (.ref ps), none, none, none, none, none, none, none] ∧ Same H2 H') (fun N kN => ?_) ?_
    · refine ⟨_, rfl, v, d, rfl, rv2.same (dlt_same H2 b), gK, by omega, by omega, fun _ H3 p3 s3 h3 => ?_, fun z => by rw [gD2] at z; cases z⟩
      refine ⟨_, rfl, .ref ps, .tuple ((enc d).map .int), rfl, .tup (s3 _ _ hps2) (.ints _), by rw [dsz, dszs_ints]; omega, fun z => (by rw [areBytes_int, hEall] at z; cases z), fun bs _ hbs => ?_⟩
      have hbs2 := ints_inj hbs
      subst hbs2
      rw [hread]
      intro H4 u4 s4 r4 _
      refine ⟨.str cs_SIGNS, _, rfl, ⟨by rw [sgn_len]; omega, rfl⟩, (by show 3 ≤ sizeLine; omega), fun l5 n5 => ?_⟩
      have e55 : ((cs_SIGNS.length : Nat) : Int) = 55 := by rw [sgn_len]; rfl
      rw [e55]
      have g5 := same_upd (o := .lst [.ref p3, u4, .int 55]) n5
      have h5 := @upd_same H4 l5 (.lst [.ref p3, u4, .int 55])
      generalize upd H4 l5 (.lst [.ref p3, u4, .int 55]) = H5 at g5 h5 ⊢
      refine ⟨_, rfl, _, rfl, (by show 3 ≤ sizeLine; omega), fun l6 n6 => ?_⟩
      have g6 := same_upd (o := .lst [.ref ps, v, .int 55]) n6
      have h6 := @upd_same H5 l6 (.lst [.ref ps, v, .int 55])
      generalize upd H5 l6 (.lst [.ref ps, v, .int 55]) = H6 at g6 h6 ⊢
      have sA : Same H2 H6 := s3.trans (s4.trans (g5.trans g6))
      refine ⟨.ref l5, .ref l6, .list [.tuple ((enc d).map .int), d, .int 55], rfl, .lst (g6 _ _ h5) (.cons (.tup ((s4.trans (g5.trans g6)) _ _ h3) (.ints _)) (.cons (r4.same (g5.trans g6)) (.one (.int _)))), .lst h6 (.cons (.tup (sA _ _ hps2) (.ints _)) (.cons ((rv2.same (dlt_same H2 b)).same sA) (.one (.int _)))), ?_, ?_, fun H7 s7 => ⟨_, rfl, iteF (kN _ _ ⟨rfl, sA.trans s7⟩)⟩⟩
      · show (nodics ((enc d).map PyData.int) && (nodic d && (true && true))) = true
        rw [nodics_ints, gN]
        rfl
      · show 1 + ((1 + dszs ((enc d).map PyData.int)) + (dsz d + (1 + 0))) ≤ 1000000
        rw [dszs_ints]
        omega
    rintro σ3 H3 ⟨rfl, s23⟩
    have hB3 := hB2.same s23
    have hT3 := tabs_sb hB2 hT2 (SB.of s23)
    have hps3 := s23 _ _ hps2
    clear hread
    generalize enc d = es at hps3 hEn hEall hge
    refine seq_join (t := tFor _ _ _) (fun σ' H' => ∃ (c3 c4 c5 c6 c7 : Option V), σ' = [some (.ref b), some v, some (.ref ps), c3, c4, c5, c6, c7, none, none] ∧ FX Tt b H3 H') (fun N kN => ?_) ?_
    · refine ⟨8, rfl, by omega, by omega, for_range (lo := 0) (n := (8 : Int).toNat) (fun i σ' H' => ∃ (c3 c4 c5 c6 c7 : Option V), σ' = [some (.ref b), some v, some (.ref ps), c3, c4, c5, c6, c7, none, none] ∧ FX Tt b H3 H') ⟨none, none, none, none, none, rfl, .refl _ _ _⟩ ?_ fun σ' H' h => kN _ _ h⟩
      rintro i σ' H4 hi ⟨c3, c4, c5, c6, c7, rfl, f4⟩
      have hB4 := f4.bag hB3
      have hps4 := f4.tup hB3 hps3
      refine seq_join (t := tAsg _ _) (fun σ' H' => ∃ (k : Nat), σ' = [some (.ref b), some v, some (.ref ps), some (.int (0 + (i : Nat))), some (.int (k : Nat)), c5, c6, c7, none, none] ∧ SB b H4 H' ∧ k < es.length) (fun N' kN' => ?_) ?_
      · refine ⟨_, rfl, _, rfl, _, _, rfl, .inr ⟨_, .inl (.inl hps4), rfl⟩, b, _, rfl, hB4, by rw [List.length_map]; omega, by rw [List.length_map]; omega, fun H5 n s5 hB5 n0 n1 => ?_⟩
        obtain ⟨k, rfl⟩ := Int.eq_ofNat_of_zero_le n0
        rw [List.length_map] at n1
        exact kN' _ _ ⟨k, rfl, s5, by omega⟩
      rintro σ5 H5 ⟨k, rfl, s45, hk⟩
      have hB5 := s45.bag hB4
      have hps5 := s45.at_ hps4 (bag_ne hB4 hps4)
      refine seq_join (t := tAsg _ _) (fun σ' H' => ∃ (pb : Addr) (xs : List Int), σ' = [some (.ref b), some v, some (.ref ps), some (.int (0 + (i : Nat))), some (.int (k : Nat)), some (.ref pb), c6, c7, none, none] ∧ SB b H5 H' ∧ H' pb = some (.tup (xs.map V.int)) ∧ xs.all byteB = true ∧ xs.length ≤ 5000) (fun N' kN' => ?_) ?_
      · refine ⟨_, rfl, _, rfl, _, rfl, _, rfl, ?_⟩
        dsimp only [tNoPart]
        refine sl_new hps5 fun G1 p1 g1 h1 => ?_
        rw [cut_take, ← List.map_take] at h1
        refine ⟨_, rfl, b, 256, rfl, hB5.same g1, by decide, by decide, fun G2 x2 s2 hB2' x0 x1 => ⟨(by show 1 ≤ sizeLine; omega), fun p3 n3 => ?_⟩⟩
        have h1' := s2.at_ h1 (bag_ne (hB5.same g1) h1)
        have hps6 := s2.at_ (g1 _ _ hps5) (bag_ne (hB5.same g1) (g1 _ _ hps5))
        have g3 := same_upd (o := .tup [.int x2]) n3
        have h3 := @upd_same G2 p3 (.tup [.int x2])
        generalize upd G2 p3 (.tup [.int x2]) = G3 at g3 h3 ⊢
        refine cat_new (g3 _ _ h1') h3 (by rw [List.length_map, List.length_take]; show min k es.length + 1 ≤ sizeLine; omega) fun G4 p4 g4 h4 => ?_
        have hps7 := (g3.trans g4) _ _ hps6
        refine ⟨_, rfl, _, rfl, _, _, rfl, rfl, _, rfl, ?_⟩
        dsimp only [tNoPart]
        refine sl_new hps7 fun G5 p5 g5 h5 => ?_
        rw [show ((k : Nat) : Int) + 1 = ((k + 1 : Nat) : Int) by omega, cut_drop, ← List.map_drop] at h5
        refine cat_new (g5 _ _ h4) h5 (by rw [List.length_append, List.length_map, List.length_take, List.length_map, List.length_drop]; show min k es.length + 1 + (es.length - (k + 1)) ≤ sizeLine; omega) fun G6 p6 g6 h6 => ?_
        have h6 : G6 p6 = some (.tup ((es.take k ++ [x2] ++ es.drop (k + 1)).map V.int)) := by
          rw [List.map_append, List.map_append]
          exact h6
        have hps8 := (g5.trans g6) _ _ hps7
        have sG6 : SB b H5 G6 := (SB.of g1).trans (s2.trans (SB.of (g3.trans (g4.trans (g5.trans g6)))))
        have hB6' := sG6.bag hB5
        refine ⟨_, rfl, _, rfl, _, rfl, ?_⟩
        dsimp only [tNoPart]
        refine sl_new hps8 fun G7 p7 g7 h7 => ?_
        rw [cut_take, ← List.map_take] at h7
        have hps9 := g7 _ _ hps8
        refine ⟨_, rfl, _, rfl, b, 256, rfl, hB6'.same g7, by decide, by decide, fun G8 x8 s8 hB8' y0 y1 => ⟨(by show 1 ≤ sizeLine; omega), fun p9 n9 => ?_⟩⟩
        have hps10 := s8.at_ hps9 (bag_ne (hB6'.same g7) hps9)
        have h7' := s8.at_ h7 (bag_ne (hB6'.same g7) h7)
        have h6' := s8.at_ (g7 _ _ h6) (bag_ne (hB6'.same g7) (g7 _ _ h6))
        have g9 := same_upd (o := .tup [.int x8]) n9
        have h9 := @upd_same G8 p9 (.tup [.int x8])
        generalize upd G8 p9 (.tup [.int x8]) = G9 at g9 h9 ⊢
        refine cat_new (g9 _ _ hps10) h9 (by rw [List.length_map]; show es.length + 1 ≤ sizeLine; omega) fun G10 p10 g10 h10 => ?_
        have h10 : G10 p10 = some (.tup ((es ++ [x8]).map V.int)) := by
          rw [List.map_append]
          exact h10
        have hps11 := (g9.trans g10) _ _ hps10
        refine ⟨_, rfl, _, rfl, _, rfl, ?_⟩
        dsimp only [tNoPart]
        refine sl_new hps11 fun G11 p11 g11 h11 => ?_
        rw [cut_take, ← List.map_take] at h11
        refine ⟨_, rfl, _, rfl, _, _, rfl, rfl, _, rfl, ?_⟩
        dsimp only [tNoPart]
        refine sl_new (g11 _ _ hps11) fun G12 p12 g12 h12 => ?_
        rw [show ((k : Nat) : Int) + 1 = ((k + 1 : Nat) : Int) by omega, cut_drop, ← List.map_drop] at h12
        refine cat_new (g12 _ _ h11) h12 (by rw [List.length_map, List.length_take, List.length_map, List.length_drop]; omega) fun G13 p13 g13 h13 => ?_
        rw [← List.map_append] at h13
        refine ⟨(by show 4 ≤ sizeLine; omega), fun l14 n14 => ?_⟩
        have gZ : Same G8 G13 := g9.trans (g10.trans (g11.trans (g12.trans g13)))
        have sG13 : SB b H5 G13 := sG6.trans ((SB.of g7).trans (s8.trans (SB.of gZ)))
        have hB13 := sG13.bag hB5
        have g14 : ∀ o, Same G13 (upd G13 l14 o) := fun o => same_upd n14
        refine ⟨b, l14, _, rfl, hB13.same (g14 _), bag_fresh hB13 n14, upd_same, by simp, (by show 4 < 1073741824; decide), fun G15 v15 s15 hB15 hv => ?_⟩
        have sb := (SB.of (b := b) (g14 _)).trans s15
        have mv : ∀ {t : Addr} {ys : List V}, G13 t = some (.tup ys) → G15 t = some (.tup ys) := fun h => sb.at_ h (bag_ne hB13 h)
        have at_ := fun (l : List Int) (h : ∀ y ∈ l, y ∈ es ∨ y = x2 ∨ y = x8) => (show l.all byteB = true from List.all_eq_true.mpr fun y hy => by
          rcases h y hy with h | rfl | rfl
          · exact List.all_eq_true.mp hEall y h
          · exact byteB_iff.mpr ⟨x0, by omega⟩
          · exact byteB_iff.mpr ⟨y0, by omega⟩)
        simp only [List.mem_cons, List.not_mem_nil, or_false] at hv
        rcases hv with rfl | rfl | rfl | rfl
        · refine kN' _ _ ⟨p6, _, rfl, sG13.trans sb, mv (gZ _ _ h6'), at_ _ fun y hy => ?_, ?_⟩
          · rcases List.mem_append.mp hy with hy | hy
            · rcases List.mem_append.mp hy with hy | hy
              · exact .inl (List.mem_of_mem_take hy)
              · exact .inr (.inl (List.mem_singleton.mp hy))
            · exact .inl (List.mem_of_mem_drop hy)
          · rw [List.length_append, List.length_append, List.length_take, List.length_drop]
            show min k es.length + 1 + (es.length - (k + 1)) ≤ 5000
            omega
        · exact kN' _ _ ⟨p7, _, rfl, sG13.trans sb, mv (gZ _ _ h7'), at_ _ fun y hy => .inl (List.mem_of_mem_take hy), by rw [List.length_take]; omega⟩
        · refine kN' _ _ ⟨p10, _, rfl, sG13.trans sb, mv ((g11.trans (g12.trans g13)) _ _ h10), at_ _ fun y hy => ?_, by rw [List.length_append]; show es.length + 1 ≤ 5000; omega⟩
          rcases List.mem_append.mp hy with hy | hy
          · exact .inl hy
          · exact .inr (.inr (List.mem_singleton.mp hy))
        · refine kN' _ _ ⟨p13, _, rfl, sG13.trans sb, mv h13, at_ _ fun y hy => ?_, by rw [List.length_append, List.length_take, List.length_drop]; omega⟩
          rcases List.mem_append.mp hy with hy | hy
          · exact .inl (List.mem_of_mem_take hy)
          · exact .inl (List.mem_of_mem_drop hy)
      rintro σ6 H6 ⟨pb, xs, rfl, s56, hpb6, hxs, hxl⟩
      have hB6 := s56.bag hB5
      have f6 : FX Tt b H3 H6 := f4.trans (.sb (s45.trans s56))
      refine seq_join (t := tAsg _ _) (fun σ' H' => ∃ (u : V), σ' = [some (.ref b), some v, some (.ref ps), some (.int (0 + (i : Nat))), some (.int (k : Nat)), some (.ref pb), some u, c7, none, none] ∧ Same H6 H' ∧ FltR H' u (rdAll xs)) (fun N' kN' => ?_) ?_
      · exact ⟨_, rfl, pb, xs, rfl, hpb6, hxs, by omega, fun H7 u s7 hf => kN' _ _ ⟨u, rfl, s7, hf⟩⟩
      rintro σ7 H7 ⟨u, rfl, s67, hflt⟩
      have hB7 := hB6.same s67
      have f7 := f6.trans (.of s67)
      have hT7 := f7.tab hB3 hT3
      have hpb7 := s67 _ _ hpb6
      refine seq_join (t := tAsg _ _) (fun σ' H' => ∃ (pt : Addr), σ' = [some (.ref b), some v, some (.ref ps), some (.int (0 + (i : Nat))), some (.int (k : Nat)), some (.ref pb), some u, some (.ref pt), none, none] ∧ FX Tt b H7 H' ∧ (match rdAll xs with
        | .ok d' => ∃ w, H' pt = some (.tup [.str "told", w]) ∧ Rp (dlt H' b) w d'
        | .bad n z => H' pt = some (.tup [.str "bytes", .int (n : Nat), .str z]))) (fun N' kN' => ?_) ?_
      · refine hear_join (fun x H' => ∃ pt, x = .ref pt ∧ FX Tt b H7 H' ∧ (match rdAll xs with
          | .ok d' => ∃ w, H' pt = some (.tup [.str "told", w]) ∧ Rp (dlt H' b) w d'
          | .bad n z => H' pt = some (.tup [.str "bytes", .int (n : Nat), .str z]))) hT7 (fun H8 x8 t8 Q' k' => ?_) ?_
        · have hB8 := ext_bag hB7 x8
          have hpb8 := x8 _ _ hpb7 (fun l z => by cases z)
          refine ⟨_, rfl, .ref pb, .tuple (xs.map .int), rfl, .tup hpb8 (.ints _), by rw [dsz, dszs_ints]; omega, fun z => (by rw [areBytes_int, hxs] at z; cases z), fun bs _ hbs => ?_⟩
          have hbs2 := ints_inj hbs
          subst hbs2
          cases hr : rdAll xs with
          | ok d' =>
            rw [hr] at k'
            intro H9 w9 s9 r9 _
            refine ⟨(by show 2 ≤ sizeLine; omega), fun p hp => ?_⟩
            have s10 := same_upd (o := .tup [.str "told", w9]) hp
            obtain ⟨g1, _, _, _⟩ := rd_enc hxs (by omega) hr
            exact k' _ _ ⟨p, rfl, (FX.ext x8 t8).trans (.of (s9.trans s10)), w9, upd_same, (rp_plain (hB8.same s9) _ _ (plD_dat _ g1) r9).same (dlt_mono s10)⟩
          | bad n z =>
            rw [hr] at k'
            intro H9 e9 s9 h9
            exact .inr (.inr ⟨rfl, e9, _, _, rfl, h9, fun H10 p10 s10 h10 => k' _ _ ⟨p10, rfl, (FX.ext x8 t8).trans (.of (s9.trans s10)), h10⟩⟩)
        rintro x8 H8 ⟨pt, rfl, f8, h8⟩
        exact kN' _ _ ⟨pt, rfl, f8, h8⟩
      rintro σ8 H8 ⟨pt, rfl, f78, hpt⟩
      have hB8 := f78.bag hB7
      have f8 := f7.trans f78
      have hpb8 := f78.tup hB7 hpb7
      cases hr : rdAll xs with
      | bad n z =>
        rw [hr] at hpt hflt
        obtain ⟨pf, rfl, hpf⟩ := hflt
        have hpf8 := f78.tup hB7 hpf
        refine ⟨_, rfl, rfl, _, rfl, ?_⟩
        rw [decide_eq_false (show ¬ V.ref pf = V.non from fun z => by cases z)]
        refine iteT ⟨_, rfl, _, rfl, pf, _, 0, _, rfl, rfl, .inl (.inl hpf8), rfl, _, rfl, pf, _, 1, _, rfl, rfl, .inl (.inl hpf8), rfl, (by show 3 ≤ sizeLine; omega), fun p9 n9 => ?_⟩
        have s9 := same_upd (o := .tup [.str "bytes", .int (n : Nat), .str z]) n9
        have h9 := @upd_same H8 p9 (.tup [.str "bytes", .int (n : Nat), .str z])
        generalize upd H8 p9 (.tup [.str "bytes", .int (n : Nat), .str z]) = H9 at s9 h9 ⊢
        have rt : ∀ {p : Addr}, H9 p = some (.tup [.str "bytes", .int (n : Nat), .str z]) → Rp H9 (.ref p) (.tuple [.str "bytes", .int (n : Nat), .str z]) := fun h => .tup h (.cons (.str _) (.cons (.int _) (.one (.str _))))
        refine ⟨.ref pt, .ref p9, .tuple [.str "bytes", .int (n : Nat), .str z], rfl, rt (s9 _ _ hpt), rt h9, rfl, (by show 4 ≤ 1000000; omega), fun H10 s10 => ⟨_, rfl, ?_⟩⟩
        refine iteF ⟨_, rfl, rfl, _, rfl, ?_⟩
        rw [decide_eq_false (show ¬ V.ref pf = V.non from fun z => by cases z)]
        exact iteF (iteF ⟨_, _, _, _, _, rfl, f8.trans (.of (s9.trans s10))⟩)
      | ok d' =>
        rw [hr] at hpt hflt
        obtain ⟨w8, hpt8, rw8⟩ := hpt
        have hu' : u = .non := hflt
        subst hu'
        obtain ⟨g1, g2, g3, g4⟩ := rd_enc hxs (by omega) hr
        refine ⟨_, rfl, rfl, _, rfl, ?_⟩
        rw [decide_eq_true (show V.non = V.non from rfl)]
        refine iteF ⟨_, rfl, rfl, _, rfl, ?_⟩
        rw [decide_eq_true (show V.non = V.non from rfl)]
        have hdz : dsz d' ≤ 5000 := by
          have := (enc_ge d' g1).1
          rw [g4] at this
          omega
        have g5 : (isDat d' && decide (ddep d' ≤ 20)) = true := by rw [g1, decide_eq_true g3]; rfl
        refine iteT ⟨_, rfl, pt, _, 0, _, rfl, rfl, .inl (.inl hpt8), rfl, rfl, _, rfl, ?_⟩
        rw [decide_eq_true (show V.str "told" = V.str "told" from rfl)]
        refine iteF ⟨_, rfl, pt, _, 1, _, rfl, rfl, .inl (.inl hpt8), rfl, w8, d', rfl, rw8.same (dlt_same H8 b), g2, by omega, by rw [g4]; omega, fun _ H9 p9 s9 h9 => ?_, fun z => (by rw [g5] at z; cases z)⟩
        rw [g4] at h9
        refine ⟨_, rfl, p9, pb, xs, xs, rfl, rfl, .inl (.inl h9), .inl (.inl (s9 _ _ hpb8)), _, rfl, ?_⟩
        rw [decide_eq_true (show xs = xs from rfl)]
        exact iteF ⟨_, _, _, _, _, rfl, f8.trans (.of s9)⟩
    rintro σ4 H4 ⟨c3, c4, c5, c6, c7, rfl, f4⟩
    have hB4 := f4.bag hB3
    have hT4 := f4.tab hB3 hT3
    refine seq_join (t := tAsg _ _) (fun σ' H' => ∃ (pd : Addr), σ' = [some (.ref b), some v, some (.ref ps), c3, c4, c5, c6, c7, some (.ref pd), none] ∧ Same H4 H' ∧ Rp (dlt H' b) (.ref pd) (nest 0)) (fun N kN => ?_) ?_
    · exact ⟨Nat.zero_le _, fun p hp => kN _ _ ⟨p, rfl, same_upd hp, .tup (dlt_at upd_same (bag_fresh hB4 hp)) .nil⟩⟩
    rintro σ5 H5 ⟨pd0, rfl, s45, rd0⟩
    have hB5 := hB4.same s45
    have hT5 := tabs_sb hB4 hT4 (SB.of s45)
    refine seq_join (t := tFor _ _ _) (fun σ' H' => ∃ (pd : Addr) (c3 : Option V), σ' = [some (.ref b), some v, some (.ref ps), c3, c4, c5, c6, c7, some (.ref pd), none] ∧ Same H5 H' ∧ Rp (dlt H' b) (.ref pd) (nest 19)) (fun N kN => ?_) ?_
    · refine ⟨19, rfl, by omega, by omega, for_range (lo := 0) (n := (19 : Int).toNat) (fun i σ' H' => ∃ (pd : Addr) (c3 : Option V), σ' = [some (.ref b), some v, some (.ref ps), c3, c4, c5, c6, c7, some (.ref pd), none] ∧ Same H5 H' ∧ Rp (dlt H' b) (.ref pd) (nest i)) ⟨pd0, c3, rfl, .refl _, rd0⟩ ?_ fun σ' H' h => kN _ _ h⟩
      rintro i σ' H6 hi ⟨pd, c3, rfl, s6, rd6⟩
      refine ⟨_, rfl, (by show 1 ≤ sizeLine; omega), fun p hp => ?_⟩
      have s7 := same_upd (o := .tup [.ref pd]) hp
      exact ⟨p, _, rfl, s6.trans s7, .tup (dlt_at upd_same (bag_fresh (hB5.same s6) hp)) (.one (rd6.same (dlt_mono s7)))⟩
    rintro σ6 H6 ⟨pd, c3, rfl, s56, rd6⟩
    have hB6 := hB5.same s56
    have hT6 := tabs_sb hB5 hT5 (SB.of s56)
    obtain ⟨n1, n2, n3, n4, n5, n6, n7, n8⟩ := nest19
    obtain ⟨m1, m2, m3, m4⟩ := nest20
    refine seq_join (t := tAsg _ _) (fun σ' H' => ∃ (lf : Addr) (u1 x2 : V) (Hb : Hp), σ' = [some (.ref b), some v, some (.ref ps), c3, c4, c5, c6, c7, some (.ref pd), some (.ref lf)] ∧ FX Tt b H6 Hb ∧ Hb lf = none ∧ Same Hb H' ∧ H' lf = some (.lst [u1, x2]) ∧ lf ≠ b ∧ Rp (dlt H' b) u1 (nest 19) ∧ Rp (dlt H' b) x2 (.tuple [.str "refused", .str "data"]) ∧ ∃ a1 a2, u1 = .ref a1 ∧ x2 = .ref a2 ∧ a1 ≠ lf ∧ a2 ≠ lf) (fun N kN => ?_) ?_
    · refine ⟨_, rfl, .ref pd, _, rfl, rd6.same (dlt_same H6 b), n3, by omega, by omega, fun _ H7 p7 s7 h7 => ?_, fun z => (by rw [n1] at z; cases z)⟩
      refine ⟨.ref p7, .tuple ((enc (nest 19)).map .int), rfl, .tup h7 (.ints _), by rw [dsz, dszs_ints]; omega, fun z => (by rw [areBytes_int, n8] at z; cases z), fun bs _ hbs => ?_⟩
      have hbs2 := ints_inj hbs
      subst hbs2
      have hrd : rdAll (enc (nest 19)) = .ok (nest 19) := by
        have := read_enc n2 (by omega) (by omega) []
        rwa [List.append_nil, if_pos rfl] at this
      rw [hrd]
      intro H8 u8 s8 r8 _
      have s68 := s7.trans s8
      have hB8 := hB6.same s68
      have hT8 := tabs_sb hB6 hT6 (SB.of s68)
      refine hear_join (fun x H' => FX Tt b H8 H' ∧ Rp (dlt H' b) x (.tuple [.str "refused", .str "data"])) hT8 (fun H9 x9 t9 Q' k => ?_) ?_
      · have hB9 := ext_bag hB8 x9
        refine ⟨_, rfl, (by show 1 ≤ sizeLine; omega), fun p10 n10 => ?_⟩
        have s10 := same_upd (o := .tup [.ref pd]) n10
        have rd10 : Rp (upd H9 p10 (.tup [.ref pd])) (.ref p10) (nest 20) := .tup upd_same (.one ((ext_rp x9 ((rd6.same (dlt_mono (b := b) s68)).same (dlt_same H8 b))).same s10))
        refine ⟨.ref p10, nest 20, rfl, rd10, m2, by omega, by omega, fun z => (by rw [m1] at z; cases z), fun _ H11 e11 s11 h11 => .inr (.inl ⟨rfl, e11, _, rfl, h11, fun H12 p12 s12 h12 => k _ _ ⟨(FX.ext x9 t9).trans (.of (s10.trans (s11.trans s12))), rp_two (hB9.same (s10.trans (s11.trans s12))) h12⟩⟩)⟩
      rintro x9 H9 ⟨f9, r9⟩
      refine ⟨(by show 2 ≤ sizeLine; omega), fun lf nlf => ?_⟩
      have g := same_upd (o := .lst [u8, x9]) nlf
      have r8' := f9.rp (rp_plain hB8 _ _ (plD_dat _ n2) r8)
      obtain ⟨a1, ea1, ha1⟩ : ∃ a1, u8 = .ref a1 ∧ ∃ o, H9 a1 = some o := by
        cases r8' with
        | tup e _ => exact ⟨_, rfl, _, dlt_same _ b _ _ e⟩
      obtain ⟨a2, ea2, ha2⟩ : ∃ a2, x9 = .ref a2 ∧ ∃ o, H9 a2 = some o := by
        cases r9 with
        | tup e _ => exact ⟨_, rfl, _, dlt_same _ b _ _ e⟩
      obtain ⟨o1, ho1⟩ := ha1
      obtain ⟨o2, ho2⟩ := ha2
      exact kN _ _ ⟨lf, u8, x9, H9, rfl, (FX.of s68).trans f9, nlf, g, upd_same, bag_fresh (f9.bag hB8) nlf, r8'.same (dlt_mono g), r9.same (dlt_mono g), a1, a2, ea1, ea2, ne_of_none ho1 nlf, ne_of_none ho2 nlf⟩
    rintro σ7 H7 ⟨lf, u1, x2, Hb, rfl, f6b, nHb, sb7, hlf, nlf, ru1, rx2, _⟩
    have hBb := f6b.bag hB6
    have hTb := f6b.tab hB6 hT6
    have f67 : FX Tt b H6 H7 := f6b.trans (.of sb7)
    have hB7 := f67.bag hB6
    have hT7 := f67.tab hB6 hT6
    refine seq_join (t := tDrop _) (fun σ' H' => ∃ (x3 : V), σ' = [some (.ref b), some v, some (.ref ps), c3, c4, c5, c6, c7, some (.ref pd), some (.ref lf)] ∧ BagI H' b ∧ Tabs Tt H' ∧ H' lf = some (.lst [u1, x2, x3]) ∧ Rp (dlt H' b) u1 (nest 19) ∧ Rp (dlt H' b) x2 (.tuple [.str "refused", .str "data"]) ∧ Rp (dlt H' b) x3 (.tuple [.str "bytes", .int 60, .str "deep"]) ∧ Rp (dlt H' b) (.ref pd) (nest 19)) (fun N kN => ?_) ?_
    · refine ⟨_, rfl, .inl ⟨rfl, _, SqL.of hlf⟩, ?_⟩
      refine hear_join (fun x H' => FX Tt b H7 H' ∧ Rp (dlt H' b) x (.tuple [.str "bytes", .int 60, .str "deep"])) hT7 (fun H8 x8 t8 Q' k => ?_) ?_
      · have hB8 := ext_bag hB7 x8
        refine ⟨(by show 3 ≤ sizeLine; omega), fun p9 n9 => ?_⟩
        have s9 := same_upd (o := .tup [.int 3, .int 0, .int 1]) n9
        refine ⟨p9, 20, _, rfl, rfl, upd_same, by simp, by omega, by omega, by simp, fun H10 p10 s10 h10 => ⟨(by show 3 ≤ sizeLine; omega), fun p11 n11 => ?_⟩⟩
        have s11 := same_upd (o := .tup [.int 3, .int 0, .int 0]) n11
        refine cat_new (s11 _ _ h10) upd_same (by show 60 + 3 ≤ sizeLine; omega) fun H12 p12 s12 h12 => ?_
        have h12 : H12 p12 = some (.tup (deepB.map V.int)) := h12
        have sA := s9.trans (s10.trans (s11.trans s12))
        refine ⟨.ref p12, .tuple (deepB.map .int), rfl, .tup h12 (.ints _), (by decide), fun z => (by rw [areBytes_int] at z; cases z), fun bs _ hbs => ?_⟩
        have hbs2 := ints_inj hbs
        subst hbs2
        rw [read_deep]
        intro H13 e13 s13 h13
        exact .inr (.inr ⟨rfl, e13, _, _, rfl, h13, fun H14 p14 s14 h14 => k _ _ ⟨(FX.ext x8 t8).trans (.of (sA.trans (s13.trans s14))), rp_told (hB8.same (sA.trans (s13.trans s14))) h14⟩⟩)
      rintro x3 H8 ⟨f8, rx3⟩
      have hlf8 := f8.lst nlf hlf
      have hB8 := f8.bag hB7
      refine ⟨lf, _, _, rfl, rfl, hlf8, (by show 2 < sizeLine; omega), ?_⟩
      have tk : TK (dlt H8 b) (dlt (upd H8 lf (.lst ([u1, x2] ++ [x3]))) b) := fun y ys e => dlt_at (by rw [upd_ne (ne_kind (dlt_same H8 b _ _ e) hlf8 (fun z => by cases z))]; exact dlt_same H8 b _ _ e) (dlt_some e)
      have hT8 := f8.tab hB7 hT7
      have fo := ((FX.of (Tt := Tt) (b := b) sb7).trans f8).own (ys := [u1, x2] ++ [x3]) nHb hlf8
      have rdd := f8.rp (f67.rp rd6)
      exact kN _ _ ⟨x3, rfl, fo.bag hBb, fo.tab hBb hTb, upd_same, Rp.tk tk _ _ (by decide +kernel) (f8.rp ru1), Rp.tk tk _ _ rfl (f8.rp rx2), Rp.tk tk _ _ rfl rx3, Rp.tk tk _ _ (by decide +kernel) rdd⟩
    rintro σ8 H8 ⟨x3, rfl, hB8, hT8, hlf8, ru8, rx8, ry8, rd8⟩
    refine seq_join (t := tIfS _ _ _) (fun σ' H' => σ' = [some (.ref b), some v, some (.ref ps), c3, c4, c5, c6, c7, some (.ref pd), some (.ref lf)] ∧ Same H8 H') (fun N kN => ?_) ?_
    · refine ⟨_, rfl, _, rfl, (by show 2 ≤ sizeLine; omega), fun p1 m1 => ?_⟩
      have g1 := same_upd (o := .tup [.str "refused", .str "data"]) m1
      have r1 : Rp (upd H8 p1 (.tup [.str "refused", .str "data"])) (.ref p1) (.tuple [.str "refused", .str "data"]) := .tup upd_same (.cons (.str _) (.one (.str _)))
      generalize upd H8 p1 (.tup [.str "refused", .str "data"]) = G1 at g1 r1 ⊢
      refine ⟨(by show 3 ≤ sizeLine; omega), fun p2 m2 => ?_⟩
      have g2 := same_upd (o := .tup [.str "bytes", .int 60, .str "deep"]) m2
      have r2 : Rp (upd G1 p2 (.tup [.str "bytes", .int 60, .str "deep"])) (.ref p2) (.tuple [.str "bytes", .int 60, .str "deep"]) := .tup upd_same (.cons (.str _) (.cons (.int _) (.one (.str _))))
      generalize upd G1 p2 (.tup [.str "bytes", .int 60, .str "deep"]) = G2 at g2 r2 ⊢
      refine ⟨(by show 3 ≤ sizeLine; omega), fun l3 m3 => ?_⟩
      have g3 := same_upd (o := .lst [.ref pd, .ref p1, .ref p2]) m3
      have h3 := @upd_same G2 l3 (.lst [.ref pd, .ref p1, .ref p2])
      generalize upd G2 l3 (.lst [.ref pd, .ref p1, .ref p2]) = G3 at g3 h3 ⊢
      have gA := g1.trans (g2.trans g3)
      have toF : ∀ {x : V} {y : PyData}, Rp (dlt H8 b) x y → Rp G3 x y := fun h => (h.same (dlt_same H8 b)).same gA
      exact ⟨.ref lf, .ref l3, .list [nest 19, .tuple [.str "refused", .str "data"], .tuple [.str "bytes", .int 60, .str "deep"]], rfl, .lst (gA _ _ hlf8) (.cons (toF ru8) (.cons (toF rx8) (.one (toF ry8)))), .lst h3 (.cons (toF rd8) (.cons (r1.same (g2.trans g3)) (.one (r2.same g3)))), by decide +kernel, by decide +kernel, fun H9 s9 => ⟨_, rfl, iteF (kN _ _ ⟨rfl, gA.trans s9⟩)⟩⟩
    rintro σ9 H9 ⟨rfl, s89⟩
    have hB9 := hB8.same s89
    have hT9 := tabs_sb hB8 hT8 (SB.of s89)
    clear hlf8 ru8 rx8 ry8 rd8
    refine seq_join (t := tFor _ _ _) (fun σ' H' => ∃ (c5 : Option V), σ' = [some (.ref b), some v, some (.ref ps), c3, c4, c5, c6, c7, some (.ref pd), some (.ref lf)] ∧ FX Tt b H9 H') (fun N kN => ?_) ?_
    · refine ⟨_, rfl, (by show 1 ≤ sizeLine; omega), fun q1 m1 => ?_⟩
      have g1 := same_upd (o := .lst [.int 1]) m1
      have r1 : Rp (dlt (upd H9 q1 (.lst [.int 1])) b) (.ref q1) (.list [.int 1]) := .lst (dlt_at upd_same (bag_fresh hB9 m1)) (.one (.int _))
      generalize upd H9 q1 (.lst [.int 1]) = G1 at g1 r1 ⊢
      have hG1 := hB9.same g1
      refine ⟨(by show 1 ≤ sizeLine; omega), fun q2 m2 => ?_⟩
      have g2 := same_upd (o := .lst [.int 2]) m2
      have r2 : Rp (dlt (upd G1 q2 (.lst [.int 2])) b) (.ref q2) (.list [.int 2]) := .lst (dlt_at upd_same (bag_fresh hG1 m2)) (.one (.int _))
      generalize upd G1 q2 (.lst [.int 2]) = G2 at g2 r2 ⊢
      have hG2 := hG1.same g2
      refine ⟨(by show 2 ≤ sizeLine; omega), fun q3 m3 => ?_⟩
      have g3 := same_upd (o := .tup [.int 1, .ref q2]) m3
      have r3 : Rp (dlt (upd G2 q3 (.tup [.int 1, .ref q2])) b) (.ref q3) (.tuple [.int 1, .list [.int 2]]) := .tup (dlt_at upd_same (bag_fresh hG2 m3)) (.cons (.int _) (.one (r2.same (dlt_mono g3))))
      generalize upd G2 q3 (.tup [.int 1, .ref q2]) = G3 at g3 r3 ⊢
      have hG3 := hG2.same g3
      refine fun q4 m4 => ⟨upd_same, [(.inr "a", .int 1)], rfl, by decide, ?_⟩
      have g4 : Same G3 (upd (upd G3 q4 (.dK [])) q4 (.dK (mergeK [] [(.inr "a", .int 1)]))) := fun x o e => by
        have hn := ne_of_none e m4
        rw [upd_ne hn, upd_ne hn]
        exact e
      have h4 := @upd_same (upd G3 q4 (.dK [])) q4 (.dK (mergeK [] [(.inr "a", .int 1)]))
      generalize upd (upd G3 q4 (.dK [])) q4 (.dK (mergeK [] [(.inr "a", .int 1)])) = G4 at g4 h4 ⊢
      have r4 : Rp (dlt G4 b) (.ref q4) (.dict []) := .dic (dlt_at h4 (bag_fresh hG3 m4))
      have hG4 := hG3.same g4
      refine ⟨(by show 2 ≤ sizeLine; omega), fun q5 m5 => ?_⟩
      have g5 := same_upd (o := .tup [.str "a", .non]) m5
      have r5 : Rp (dlt (upd G4 q5 (.tup [.str "a", .non])) b) (.ref q5) (.tuple [.str "a", .none]) := .tup (dlt_at upd_same (bag_fresh hG4 m5)) (.cons (.str _) (.one .non))
      generalize upd G4 q5 (.tup [.str "a", .non]) = G5 at g5 r5 ⊢
      have hG5 := hG4.same g5
      refine ⟨(by show 10 ≤ sizeLine; omega), fun tb m6 => ?_⟩
      have g6 := same_upd (o := .tup [.non, .bl true, .int (-1), .int 65536, .str "A", .str "'", .ref q1, .ref q3, .ref q4, .ref q5]) m6
      have h6 := @upd_same G5 tb (.tup [.non, .bl true, .int (-1), .int 65536, .str "A", .str "'", .ref q1, .ref q3, .ref q4, .ref q5])
      have hA : RpA (dlt (upd G5 tb (.tup [.non, .bl true, .int (-1), .int 65536, .str "A", .str "'", .ref q1, .ref q3, .ref q4, .ref q5])) b) [.non, .bl true, .int (-1), .int 65536, .str "A", .str "'", .ref q1, .ref q3, .ref q4, .ref q5] badsR :=
        .cons .non (.cons (.bl _) (.cons (.int _) (.cons (.int _) (.cons (.str _) (.cons (.str _) (.cons (r1.same (dlt_mono (g2.trans (g3.trans (g4.trans (g5.trans g6)))))) (.cons (r3.same (dlt_mono (g4.trans (g5.trans g6)))) (.cons (r4.same (dlt_mono (g5.trans g6))) (.one (r5.same (dlt_mono g6)))))))))))
      have sA := g1.trans (g2.trans (g3.trans (g4.trans (g5.trans g6))))
      have hB6 := hG5.same g6
      have hT6 := tabs_sb hB9 hT9 (SB.of sA)
      refine ⟨tb, rfl, ⟨_, .inl (.inl h6)⟩, for_tup (a := tb) (xs := [.non, .bl true, .int (-1), .int 65536, .str "A", .str "'", .ref q1, .ref q3, .ref q4, .ref q5]) (fun i σ' H' => ∃ (c5 : Option V), σ' = [some (.ref b), some v, some (.ref ps), c3, c4, c5, c6, c7, some (.ref pd), some (.ref lf)] ∧ FX Tt b (upd G5 tb (.tup [.non, .bl true, .int (-1), .int 65536, .str "A", .str "'", .ref q1, .ref q3, .ref q4, .ref q5])) H') ⟨c5, rfl, .refl _ _ _⟩ (fun i σ' H' _ hh => ?_) (fun i x σ' H' hx hh => ?_) fun σ' H' hh => ?_⟩
      · obtain ⟨_, _, fi⟩ := hh
        exact .inl (.inl (fi.tup hB6 h6))
      · obtain ⟨c5', rfl, fi⟩ := hh
        obtain ⟨dx, hdx, rx⟩ := RpA.mem hA (List.mem_of_getElem? hx)
        obtain ⟨e1, e2, e3, e4⟩ := badsR_ok dx hdx
        have rx1 := fi.rp rx
        have hBi := fi.bag hB6
        have hTi := fi.tab hB6 hT6
        refine hear_join (fun y H'' => FX Tt b H' H'' ∧ Rp (dlt H'' b) y (.tuple [.str "refused", .str "data"])) hTi (fun J1 x1 t1 Q' k => ?_) ?_
        · have hJ1 := ext_bag hBi x1
          exact ⟨_, rfl, x, dx, rfl, ext_rp x1 (rx1.same (dlt_same H' b)), e2, e3, e4, fun z => (by rw [e1] at z; cases z), fun _ J2 a2 s2 h2 => .inr (.inl ⟨rfl, a2, _, rfl, h2, fun J3 p3 s3 h3 => k _ _ ⟨(FX.ext x1 t1).trans (.of (s2.trans s3)), rp_two (hJ1.same (s2.trans s3)) h3⟩⟩)⟩
        rintro y J ⟨fj, ry⟩
        refine ⟨(by show 2 ≤ sizeLine; omega), fun p7 m7 => ?_⟩
        have g7 := same_upd (o := .tup [.str "refused", .str "data"]) m7
        exact ⟨y, .ref p7, .tuple [.str "refused", .str "data"], rfl, (ry.same (dlt_same J b)).same g7, .tup upd_same (.cons (.str _) (.one (.str _))), rfl, (by decide), fun J8 s8 => ⟨_, rfl, iteF ⟨_, rfl, fi.trans (fj.trans (.of (g7.trans s8)))⟩⟩⟩
      · obtain ⟨c5', rfl, fi⟩ := hh
        exact kN _ _ ⟨_, rfl, (FX.of sA).trans fi⟩
    rintro σ10 H10 ⟨c5', rfl, f9⟩
    have hB10 := f9.bag hB9
    have hT10 := f9.tab hB9 hT9
    refine seq_join (t := tFor _ _ _) (fun σ' H' => ∃ (c5 : Option V), σ' = [some (.ref b), some v, some (.ref ps), c3, c4, c5, c6, c7, some (.ref pd), some (.ref lf)] ∧ FX Tt b H10 H') (fun N kN => ?_) ?_
    · refine ⟨(by show 1 ≤ sizeLine; omega), fun q1 m1 => ?_⟩
      have g1 := same_upd (o := .tup [.int 256]) m1
      have r1 : Rp (dlt (upd H10 q1 (.tup [.int 256])) b) (.ref q1) (.tuple [.int 256]) := .tup (dlt_at upd_same (bag_fresh hB10 m1)) (.one (.int _))
      generalize upd H10 q1 (.tup [.int 256]) = G1 at g1 r1 ⊢
      have hG1 := hB10.same g1
      refine ⟨(by show 3 ≤ sizeLine; omega), fun q2 m2 => ?_⟩
      have g2 := same_upd (o := .lst [.int 1, .int 0, .int 0]) m2
      have r2 : Rp (dlt (upd G1 q2 (.lst [.int 1, .int 0, .int 0])) b) (.ref q2) (.list [.int 1, .int 0, .int 0]) := .lst (dlt_at upd_same (bag_fresh hG1 m2)) (.cons (.int _) (.cons (.int _) (.one (.int _))))
      generalize upd G1 q2 (.lst [.int 1, .int 0, .int 0]) = G2 at g2 r2 ⊢
      have hG2 := hG1.same g2
      refine ⟨(by show 3 ≤ sizeLine; omega), fun q3 m3 => ?_⟩
      have g3 := same_upd (o := .tup [.bl true, .int 0, .int 0]) m3
      have r3 : Rp (dlt (upd G2 q3 (.tup [.bl true, .int 0, .int 0])) b) (.ref q3) (.tuple [.bool true, .int 0, .int 0]) := .tup (dlt_at upd_same (bag_fresh hG2 m3)) (.cons (.bl _) (.cons (.int _) (.one (.int _))))
      generalize upd G2 q3 (.tup [.bl true, .int 0, .int 0]) = G3 at g3 r3 ⊢
      have hG3 := hG2.same g3
      refine ⟨(by show 5 ≤ sizeLine; omega), fun tb m6 => ?_⟩
      have g6 := same_upd (o := .tup [.non, .ref q1, .ref q2, .ref q3, .str "a"]) m6
      have h6 := @upd_same G3 tb (.tup [.non, .ref q1, .ref q2, .ref q3, .str "a"])
      have hA : RpA (dlt (upd G3 tb (.tup [.non, .ref q1, .ref q2, .ref q3, .str "a"])) b) [.non, .ref q1, .ref q2, .ref q3, .str "a"] badsU :=
        .cons .non (.cons (r1.same (dlt_mono (g2.trans (g3.trans g6)))) (.cons (r2.same (dlt_mono (g3.trans g6))) (.cons (r3.same (dlt_mono g6)) (.one (.str _)))))
      have sA := g1.trans (g2.trans (g3.trans g6))
      have hB6 := hG3.same g6
      have hT6 := tabs_sb hB10 hT10 (SB.of sA)
      refine ⟨tb, rfl, ⟨_, .inl (.inl h6)⟩, for_tup (a := tb) (xs := [.non, .ref q1, .ref q2, .ref q3, .str "a"]) (fun i σ' H' => ∃ (c5 : Option V), σ' = [some (.ref b), some v, some (.ref ps), c3, c4, c5, c6, c7, some (.ref pd), some (.ref lf)] ∧ FX Tt b (upd G3 tb (.tup [.non, .ref q1, .ref q2, .ref q3, .str "a"])) H') ⟨c5', rfl, .refl _ _ _⟩ (fun i σ' H' _ hh => ?_) (fun i x σ' H' hx hh => ?_) fun σ' H' hh => ?_⟩
      · obtain ⟨_, _, fi⟩ := hh
        exact .inl (.inl (fi.tup hB6 h6))
      · obtain ⟨c5'', rfl, fi⟩ := hh
        obtain ⟨dx, hdx, rx⟩ := RpA.mem hA (List.mem_of_getElem? hx)
        obtain ⟨e1, e2⟩ := badsU_ok dx hdx
        have rx1 := fi.rp rx
        have hBi := fi.bag hB6
        have hTi := fi.tab hB6 hT6
        refine hear_join (fun y H'' => FX Tt b H' H'' ∧ Rp (dlt H'' b) y (.tuple [.str "bytes", .int 0, .str "bytes"])) hTi (fun J1 x1 t1 Q' k => ?_) ?_
        · have hJ1 := ext_bag hBi x1
          exact ⟨_, rfl, x, dx, rfl, ext_rp x1 (rx1.same (dlt_same H' b)), e2, fun _ J2 a2 s2 h2 => .inr (.inr ⟨rfl, a2, _, _, rfl, h2, fun J3 p3 s3 h3 => k _ _ ⟨(FX.ext x1 t1).trans (.of (s2.trans s3)), rp_told (hJ1.same (s2.trans s3)) h3⟩⟩), fun bs z => (by rw [e1] at z; cases z)⟩
        rintro y J ⟨fj, ry⟩
        refine ⟨(by show 3 ≤ sizeLine; omega), fun p7 m7 => ?_⟩
        have g7 := same_upd (o := .tup [.str "bytes", .int 0, .str "bytes"]) m7
        exact ⟨y, .ref p7, .tuple [.str "bytes", .int 0, .str "bytes"], rfl, (ry.same (dlt_same J b)).same g7, .tup upd_same (.cons (.str _) (.cons (.int _) (.one (.str _)))), rfl, (by decide), fun J8 s8 => ⟨_, rfl, iteF ⟨_, rfl, fi.trans (fj.trans (.of (g7.trans s8)))⟩⟩⟩
      · obtain ⟨c5'', rfl, fi⟩ := hh
        exact kN _ _ ⟨_, rfl, (FX.of sA).trans fi⟩
    rintro σ11 H11 ⟨c5'', rfl, f11⟩
    exact q _ (f11.bag hB10) (f11.tab hB10 hT10)
end
end Net
namespace Net
open PySem PySem.Spec PyProof.Rows L2 NetR LamX
theorem pfD_tr (ds : List PyData) : pfD (.tuple (.bool true :: ds)) = some ((0 : Int), ("size" : Str)) := by
  unfold pfD
  rw [show areBytes (.tuple (.bool true :: ds)) = false from rfl, Bool.false_and, if_neg Bool.false_ne_true]
def oddL (bs : List Int) : List Int := 62 :: (bs ++ List.replicate (61 - bs.length) 0)
def oddR : List Int := 0 :: (List.replicate 60 0 ++ [5])
theorem oddL_ok {bs : List Int} (h : bs.all byteB = true) (hl : bs.length ≤ 61) : (oddL bs).length = 62 ∧ (oddL bs).all byteB = true ∧ pfault (sumB (oddL bs) ++ oddL bs) = some ((2 : Int), ("length" : Str)) := by
  refine ⟨?_, ?_, ?_⟩
  · unfold oddL
    rw [List.length_cons, List.length_append, List.length_replicate]
    omega
  · unfold oddL
    rw [List.all_cons, List.all_append, h, List.all_replicate]
    split <;> rfl
  · unfold pfault
    rw [if_neg (fun z => z rfl), if_pos]
    show (61 : Int) < 62
    decide
theorem oddR_ok : oddR.length = 62 ∧ oddR.all byteB = true ∧ pfault (sumB oddR ++ oddR) = some ((63 : Int), ("rest" : Str)) := by decide +kernel
theorem odd_bytes {os : List Int} (h : os.all byteB = true) : (sumB os ++ os).all byteB = true := by
  have a := sum_lt os
  rw [List.all_append, h]
  unfold sumB
  rw [List.all_cons, List.all_cons, byteB_iff.mpr ⟨by omega, by omega⟩, byteB_iff.mpr ⟨by omega, by omega⟩]
  rfl
def badsS : List PyData := [.none, .tuple [.int 256], .tuple [.int (-1)], .tuple ((List.replicate 62 (0 : Int)).map .int), .list [.int 1], .tuple [.bool true]]
theorem badsS_ok : ∀ d ∈ badsS, (areBytes d && decide ((intsOf d).length ≤ 61)) = false ∧ dsz d ≤ 100001 := by decide +kernel
def qPG : Str := "_law_pages_right.<locals>.<lambda>"
section
variable {P : Program} {w : World} {K : PySem.W.Frag} {mg : Str → Option Value} {base : Heap} {CR CB CN : Addr}
abbrev s__law_pages_right : Stmt := top 53
theorem sc__law_pages_right : FnScope ["bag", "body", "page", "rest", "total", "at", "bad", "odd", "fault", "again", "byte"] ["bag"] (defScope s__law_pages_right) := ⟨rfl, rfl, rfl, by decide +kernel, rfl, by decide +kernel, by decide +kernel⟩
theorem ok_pages {f c Pt fa f__law_take f__law_alike f_sealed f_is_page f_body_of : Addr} {fd fdA e1 e2 e3 e4 e5 : FuncData} {Tt : List (Addr × Str)} (F : FunC K "_law_pages_right" "_law_pages_right" s__law_pages_right f fd c) (T : Tx mg)
    (FA : Fun K "_law_heard" "_law_heard" s__law_heard fa fdA) (gA : mg "_law_heard" = some (.ref fa)) (bA : Binds K fdA ["act"] []) (TX : TAx K mg CN CR CB) (TB : TabB base mg c Pt) (hmT : (Pt, qPG) ∈ Tt) (hu : ∀ p ∈ Tt, p.1 = Pt → p.2 = qPG)
    (d__law_take : Ok1 P w K mg base CX0 1 "_law_take" ["bag", "many"] sp_take f__law_take e1) (d__law_alike : Ok1 P w K mg base CX0 1 "_law_alike" ["found", "due"] sp_alike f__law_alike e2)
    (d_sealed : Ok1 P w K mg base (L2.CX P w) 5 "sealed" ["body"] (sp_sealed CR) f_sealed e3) (d_is_page : Ok1 P w K mg base CX0 6 "is_page" ["thing"] sp_is_page f_is_page e4) (d_body_of : Ok1 P w K mg base (L2.CX P w) 6 "body_of" ["page"] (sp_body_of CB) f_body_of e5) :
    FnOk P w K mg base CX0 12 f fd ["bag"] (sp_right Tt) := by
  refine F.ok sc__law_pages_right (fun vs H Q E h => ?_) (fun A outer s H vs Q E hr h => ?_)
  · obtain ⟨b, rfl, _⟩ := h
    rfl
  · obtain ⟨b, rfl, hB, hT, q⟩ := h
    refine ⟨_, (pss_cons (ps_set (i := 1) sc__law_pages_right.nd rfl (Or.inl rfl) (pe_callTy call_tuple_of (by rfl) T.n_tuple (by decide +kernel) (pa_cons (pe_lc (own := [("again", 9)]) (g := gName 9) (tt := tYes) rfl sc__law_pages_right.nd (pi_range1 (by rfl) T.n_range (pa_cons (pe_call d__law_take.ok (hr.mono (by decide)) rfl d__law_take.g d__law_take.kp d__law_take.b .nil pass0 (pa_cons (pv 0) (pa_cons pe_int pa_nil))) pa_nil)) (blkOk_by (N := ["bag", "body", "page", "rest", "total", "at", "bad", "odd", "fault", "again", "byte"]) (sc := defScope s__law_pages_right) (by decide +kernel)) (fun _ _ _ _ _ => pg_name (i := 9) sc__law_pages_right.nd rfl (Or.inl rfl)) (fun _ _ _ _ _ => pts_nil) (fun _ _ _ _ _ => (pe_call d__law_take.ok (hr.mono (by decide)) rfl d__law_take.g d__law_take.kp d__law_take.b .nil pass0 (pa_cons (pv 0) (pa_cons pe_int pa_nil))))) pa_nil)))
      (pss_cons (ps_par (i := 2) (j := 3) (by rfl) sc__law_pages_right.nd rfl rfl (by decide) rfl rfl (pa_cons (pe_call d_sealed.ok (hr.mono (by decide)) rfl d_sealed.g d_sealed.kp d_sealed.b .nil passL (pa_cons (pv 1) pa_nil)) (pa_cons (pe_op op_catA (pe_op op_catA (pe_tup (pa_cons (pe_callB call_len (by rfl) T.n_len (by decide +kernel) (pa_cons (pv 1) pa_nil)) pa_nil)) (pv 1)) (pe_op op_repTA (pe_tup (pa_cons pe_int pa_nil)) (pe_op op_sub pe_int (pe_callB call_len (by rfl) T.n_len (by decide +kernel) (pa_cons (pv 1) pa_nil))))) pa_nil)) (by rfl))
      (pss_cons (ps_set (i := 4) sc__law_pages_right.nd rfl (Or.inl rfl) (pe_op op_mod (pe_callB (cr_sum rfl) (by rfl) T.n_sum (by decide +kernel) (pa_cons (pe_lc (own := [("at", 5), ("byte", 10)]) (g := (gTup K 2 (gCons (gName 5) (gCons (gName 10) gNil)))) (tt := tYes) rfl sc__law_pages_right.nd (pi_enumT (by rfl) T.n_enumerate (pa_cons (pv 3) pa_nil)) (blkOk_by (N := ["bag", "body", "page", "rest", "total", "at", "bad", "odd", "fault", "again", "byte"]) (sc := defScope s__law_pages_right) (by decide +kernel)) (fun _ _ _ _ _ => by exact pg_tup rfl (pgs_cons (pg_name (i := 5) sc__law_pages_right.nd rfl (Or.inl rfl)) (pgs_cons (pg_name (i := 10) sc__law_pages_right.nd rfl (Or.inl rfl)) pgs_nil))) (fun _ _ _ _ _ => pts_nil) (fun _ _ _ _ _ => (pe_op op_mul (pe_op op_add (pv 5) pe_int) (pv 10)))) pa_nil)) pe_int))
      (pss_cons (ps_if (pt_not (pt_val (pe_call d__law_alike.ok (hr.mono (by decide)) rfl d__law_alike.g d__law_alike.kp d__law_alike.b .nil pass0 (pa_cons (pe_lst (pa_cons (pv 2) (pa_cons (pe_call d_body_of.ok (hr.mono (by decide)) rfl d_body_of.g d_body_of.kp d_body_of.b .nil passL (pa_cons (pv 2) pa_nil)) (pa_cons (pe_call d_is_page.ok (hr.mono (by decide)) rfl d_is_page.g d_is_page.kp d_is_page.b .nil pass0 (pa_cons (pv 2) pa_nil)) pa_nil)))) (pa_cons (pe_lst (pa_cons (pe_op op_catA (pe_tup (pa_cons (pe_callTy call_int1 (by rfl) T.n_int (by decide +kernel) (pa_cons (pe_op op_fdiv (pv 4) pe_int) pa_nil)) (pa_cons (pe_op op_mod (pe_callTy call_int1 (by rfl) T.n_int (by decide +kernel) (pa_cons (pv 4) pa_nil)) pe_int) pa_nil))) (pv 3)) (pa_cons (pv 1) (pa_cons pe_bl pa_nil)))) pa_nil))))) (pss_one (ps_ret pe_bl)) pss_nil)
      (pss_cons (ps_for PassesOwn.never rfl (pi_range1 (by rfl) T.n_range (pa_cons pe_int pa_nil)) (pg_name (i := 5) sc__law_pages_right.nd rfl (Or.inl rfl)) (pss_cons (ps_set (i := 6) sc__law_pages_right.nd rfl (Or.inr rfl) (pe_op op_catA (pe_op op_catA (pe_slice sl_tupA (pv 2) po_none (po_some (pv 5))) (pe_tup (pa_cons (pe_op op_mod (pe_callTy call_int1 (by rfl) T.n_int (by decide +kernel) (pa_cons (pe_op op_add (pe_op op_add (pe_ix ix_tup (pv 2) (pv 5) (fun _ _ => rfl)) pe_int) (pe_call d__law_take.ok (hr.mono (by decide)) rfl d__law_take.g d__law_take.kp d__law_take.b .nil pass0 (pa_cons (pv 0) (pa_cons pe_int pa_nil)))) pa_nil)) pe_int) pa_nil))) (pe_slice sl_tupA (pv 2) (po_some (pe_op op_add (pv 5) pe_int)) po_none)))
      (pss_one (ps_if (PW.pt (pw_or (pt_cmpR op_isnot_bl (pe_call d_is_page.ok (hr.mono (by decide)) rfl d_is_page.g d_is_page.kp d_is_page.b .nil pass0 (pa_cons (pv 6) pa_nil)) pe_bl (nomark _)) (pw_or1 (pt_not (pt_val (pe_call d__law_alike.ok (hr.mono (by decide)) rfl d__law_alike.g d__law_alike.kp d__law_alike.b .nil pass0 (pa_cons (pe_heard (k := 8) FA rfl gA bA TX TB rfl hmT hu (hr.mono (by decide)) (lamS_by (sc := defScope s__law_pages_right) (by decide +kernel)) rfl (fun _ _ _ _ _ => rfl) (fun A2 outer2 s2 H2 E2 f2 c2 hr2 => (pe_call d_body_of.ok (hr2.mono (by decide)) rfl d_body_of.g d_body_of.kp d_body_of.b .nil (passes_call (takes_of rfl rfl rfl rfl) (fun _ _ _ _ h => h)) (pa_cons (pv 6) pa_nil)))) (pa_cons (pe_tup (pa_cons pe_str (pa_cons pe_int (pa_cons pe_str pa_nil)))) pa_nil)))))))) (pss_one (ps_ret pe_bl)) pss_nil))))
      (pss_cons (ps_for PassesOwn.never rfl (pi_tup (pe_tup (pa_cons pe_non (pa_cons (pe_slice sl_tupA (pv 2) (po_some pe_int) po_none) (pa_cons (pe_callTy call_list_of (by rfl) T.n_list (by decide +kernel) (pa_cons (pv 2) pa_nil)) (pa_cons (pe_op op_catA (pv 2) (pe_tup (pa_cons pe_int pa_nil))) (pa_cons (pe_op op_catA (pe_tup (pa_cons pe_bl pa_nil)) (pe_slice sl_tupA (pv 2) (po_some pe_int) po_none)) (pa_cons (pe_op op_catA (pe_slice sl_tupA (pv 2) po_none (po_some (pe_un un_neg pe_int))) (pe_tup (pa_cons pe_int pa_nil))) pa_nil)))))))) (pg_name (i := 6) sc__law_pages_right.nd rfl (Or.inr rfl)) (pss_one (ps_if (pt_not (pt_val (pe_call d__law_alike.ok (hr.mono (by decide)) rfl d__law_alike.g d__law_alike.kp d__law_alike.b .nil pass0 (pa_cons (pe_lst (pa_cons (pe_call d_is_page.ok (hr.mono (by decide)) rfl d_is_page.g d_is_page.kp d_is_page.b .nil pass0 (pa_cons (pv 6) pa_nil)) (pa_cons (pe_heard (k := 8) FA rfl gA bA TX TB rfl hmT hu (hr.mono (by decide)) (lamS_by (sc := defScope s__law_pages_right) (by decide +kernel)) rfl (fun _ _ _ _ _ => rfl) (fun A2 outer2 s2 H2 E2 f2 c2 hr2 => (pe_call d_body_of.ok (hr2.mono (by decide)) rfl d_body_of.g d_body_of.kp d_body_of.b .nil (passes_call (takes_of rfl rfl rfl rfl) (fun _ _ _ _ h => h)) (pa_cons (pv 6) pa_nil)))) pa_nil))) (pa_cons (pe_lst (pa_cons pe_bl (pa_cons (pe_tup (pa_cons pe_str (pa_cons pe_int (pa_cons pe_str pa_nil)))) pa_nil))) pa_nil))))) (pss_one (ps_ret pe_bl)) pss_nil)))
      (pss_cons (ps_for PassesOwn.never rfl (pi_tup (pe_tup (pa_cons (pe_tup (pa_cons (pe_op op_catA (pe_op op_catA (pe_tup (pa_cons pe_int pa_nil)) (pv 1)) (pe_op op_repTA (pe_tup (pa_cons pe_int pa_nil)) (pe_op op_sub pe_int (pe_callB call_len (by rfl) T.n_len (by decide +kernel) (pa_cons (pv 1) pa_nil))))) (pa_cons (pe_tup (pa_cons pe_int (pa_cons pe_str pa_nil))) pa_nil))) (pa_cons (pe_tup (pa_cons (pe_op op_catA (pe_op op_catA (pe_tup (pa_cons pe_int pa_nil)) (pe_op op_repTA (pe_tup (pa_cons pe_int pa_nil)) pe_int)) (pe_tup (pa_cons pe_int pa_nil))) (pa_cons (pe_tup (pa_cons pe_int (pa_cons pe_str pa_nil))) pa_nil))) pa_nil)))) (pg_tup rfl (pgs_cons (pg_name (i := 7) sc__law_pages_right.nd rfl (Or.inl rfl)) (pgs_cons (pg_name (i := 8) sc__law_pages_right.nd rfl (Or.inl rfl)) pgs_nil))) (pss_cons (ps_set (i := 4) sc__law_pages_right.nd rfl (Or.inl rfl) (pe_op op_mod (pe_callB (cr_sum rfl) (by rfl) T.n_sum (by decide +kernel) (pa_cons (pe_lc (own := [("at", 5), ("byte", 10)]) (g := (gTup K 2 (gCons (gName 5) (gCons (gName 10) gNil)))) (tt := tYes) rfl sc__law_pages_right.nd (pi_enumT (by rfl) T.n_enumerate (pa_cons (pv 7) pa_nil)) (blkOk_by (N := ["bag", "body", "page", "rest", "total", "at", "bad", "odd", "fault", "again", "byte"]) (sc := defScope s__law_pages_right) (by decide +kernel)) (fun _ _ _ _ _ => by exact pg_tup rfl (pgs_cons (pg_name (i := 5) sc__law_pages_right.nd rfl (Or.inl rfl)) (pgs_cons (pg_name (i := 10) sc__law_pages_right.nd rfl (Or.inl rfl)) pgs_nil))) (fun _ _ _ _ _ => pts_nil) (fun _ _ _ _ _ => (pe_op op_mul (pe_op op_add (pv 5) pe_int) (pv 10)))) pa_nil)) pe_int))
      (pss_cons (ps_set (i := 6) sc__law_pages_right.nd rfl (Or.inr rfl) (pe_op op_catA (pe_tup (pa_cons (pe_callTy call_int1 (by rfl) T.n_int (by decide +kernel) (pa_cons (pe_op op_fdiv (pv 4) pe_int) pa_nil)) (pa_cons (pe_op op_mod (pe_callTy call_int1 (by rfl) T.n_int (by decide +kernel) (pa_cons (pv 4) pa_nil)) pe_int) pa_nil))) (pv 7)))
      (pss_one (ps_if (pt_not (pt_val (pe_call d__law_alike.ok (hr.mono (by decide)) rfl d__law_alike.g d__law_alike.kp d__law_alike.b .nil pass0 (pa_cons (pe_heard (k := 8) FA rfl gA bA TX TB rfl hmT hu (hr.mono (by decide)) (lamS_by (sc := defScope s__law_pages_right) (by decide +kernel)) rfl (fun _ _ _ _ _ => rfl) (fun A2 outer2 s2 H2 E2 f2 c2 hr2 => (pe_call d_body_of.ok (hr2.mono (by decide)) rfl d_body_of.g d_body_of.kp d_body_of.b .nil (passes_call (takes_of rfl rfl rfl rfl) (fun _ _ _ _ h => h)) (pa_cons (pv 6) pa_nil)))) (pa_cons (pe_tup (pa_cons pe_str (pa_cons (pe_ix ix_tup (pv 8) pe_int (fun _ _ => rfl)) (pa_cons (pe_ix ix_tup (pv 8) pe_int (fun _ _ => rfl)) pa_nil)))) pa_nil))))) (pss_one (ps_ret pe_bl)) pss_nil)))))
      (pss_cons (ps_for PassesOwn.never rfl (pi_tup (pe_tup (pa_cons pe_non (pa_cons (pe_tup (pa_cons pe_int pa_nil)) (pa_cons (pe_tup (pa_cons (pe_un un_neg pe_int) pa_nil)) (pa_cons (pe_op op_repTA (pe_tup (pa_cons pe_int pa_nil)) pe_int) (pa_cons (pe_lst (pa_cons pe_int pa_nil)) (pa_cons (pe_tup (pa_cons pe_bl pa_nil)) pa_nil)))))))) (pg_name (i := 6) sc__law_pages_right.nd rfl (Or.inr rfl)) (pss_one (ps_if (pt_not (pt_val (pe_call d__law_alike.ok (hr.mono (by decide)) rfl d__law_alike.g d__law_alike.kp d__law_alike.b .nil pass0 (pa_cons (pe_heard (k := 8) FA rfl gA bA TX TB rfl hmT hu (hr.mono (by decide)) (lamS_by (sc := defScope s__law_pages_right) (by decide +kernel)) rfl (fun _ _ _ _ _ => rfl) (fun A2 outer2 s2 H2 E2 f2 c2 hr2 => (pe_call d_sealed.ok (hr2.mono (by decide)) rfl d_sealed.g d_sealed.kp d_sealed.b .nil (passes_call (takes_of rfl rfl rfl rfl) (fun _ _ _ _ h => h)) (pa_cons (pv 6) pa_nil)))) (pa_cons (pe_tup (pa_cons pe_str (pa_cons pe_str pa_nil))) pa_nil))))) (pss_one (ps_ret pe_bl)) pss_nil)))
      (pss_one (ps_ret pe_bl)))))))))), ?_⟩
    have hbig := sl_big
    refine seq_join (t := tAsg _ _) (fun σ' H' => ∃ (pb : Addr) (bs : List Int), σ' = [some (.ref b), some (.ref pb), none, none, none, none, none, none, none, none, none] ∧ SB b H H' ∧ H' pb = some (.tup (bs.map V.int)) ∧ bs.all byteB = true ∧ bs.length ≤ 61) (fun N kN => ?_) ?_
    · refine ⟨_, rfl, b, 62, rfl, hB, by decide, by decide, fun H36 k s36 hB36 k0 k1 => ⟨k, rfl, by omega, by omega, fun D hD => ?_⟩⟩
      have nDb := bag_fresh hB36 hD
      refine lc_range (lo := 0) (n := k.toNat) (fun j H8 => ∃ ms : List Int, H8 D = some (.lst (ms.map V.int)) ∧ ms.all byteB = true ∧ ms.length = j ∧ SB b H36 H8)
        ⟨[], upd_same, rfl, rfl, SB.of (same_upd hD)⟩ ?_ ?_
      · rintro j H8 hj ⟨ms, hD8, hms, hml, s8⟩
        refine ⟨rfl, _, rfl, b, 256, rfl, s8.bag hB36, by decide, by decide, fun H9 u s9 hB9 u0 u1 => ?_⟩
        refine ⟨ms.map V.int, s9.at_ hD8 nDb, by rw [List.length_map]; exact Nat.lt_of_lt_of_le (by omega) sl_big, ms ++ [u], by rw [List.map_append]; exact upd_same, ?_, by rw [List.length_append, hml]; rfl, (s8.trans s9).own hD⟩
        rw [List.all_append, hms, List.all_cons, byteB_iff.mpr ⟨u0, by omega⟩]
        rfl
      rintro H37 ⟨bs, hD37, hbs, hbl, s37⟩
      exact ⟨D, bs.map V.int, rfl, .inl ⟨SqL.of hD37, fun pb nb => kN _ _ ⟨pb, bs, rfl, s36.trans (s37.trans (SB.of (same_upd nb))), upd_same, hbs, by omega⟩⟩⟩
    rintro σ1 H1 ⟨pb, bs, rfl, sb1, hpb1, hbs, hbl⟩
    have hB1 := sb1.bag hB
    have hT1 := tabs_sb hB hT sb1
    have hlen := pageOf_len hbl
    have hrl := restOf_len hbl
    have hpgb := page_bytes hbs hbl
    refine seq_join (t := tPar _ _ _) (fun σ' H' => ∃ (pg pr : Addr), σ' = [some (.ref b), some (.ref pb), some (.ref pg), some (.ref pr), none, none, none, none, none, none, none] ∧ Same H1 H' ∧ H' pg = some (.tup ((pageOf bs).map V.int)) ∧ H' pr = some (.tup ((restOf bs).map V.int))) (fun N kN => ?_) ?_
    · refine ⟨_, rfl, .ref pb, .tuple (bs.map .int), rfl, .tup hpb1 (.ints _), by rw [dsz, dszs_ints]; omega, fun z => (by rw [areBytes_int, hbs, intsOf_t, decide_eq_true hbl] at z; cases z), fun bs2 e _ _ H2 pg s2 hpg => ?_⟩
      have e2 := ints_inj e
      subst e2
      have ht := s2 _ _ hpb1
      refine ⟨_, rfl, _, _, rfl, .inr ⟨_, .inl (.inl ht), rfl⟩, (by show 1 ≤ sizeLine; omega), fun p1 hp1 => ⟨_, rfl, ?_⟩⟩
      have s1 := same_upd (o := .tup [.int ((bs.map V.int).length : Int)]) hp1
      refine cat_new upd_same (s1 _ _ ht) ?_ fun H3 p2 s3 hp2 => ?_
      · rw [List.length_map]; show 1 + bs.length ≤ sizeLine; omega
      refine ⟨(by show 1 ≤ sizeLine; omega), fun p3 hp3 => ?_⟩
      have s4 := same_upd (o := .tup [.int 0]) hp3
      have ht3 := (s1.trans (s3.trans s4)) _ _ ht
      refine ⟨_, rfl, _, _, rfl, .inr ⟨_, .inl (.inl ht3), rfl⟩, _, _, rfl, rfl, p3, _, [.int 0], rfl, rfl, upd_same, by simp, ?_, ?_, (by show 1 ≤ 1000; decide), fun H4 p4 s5 hp4 => ?_⟩
      · rw [List.length_map]; omega
      · omega
      have s04 := s1.trans (s3.trans (s4.trans s5))
      refine cat_new (s5 _ _ (s4 _ _ hp2)) hp4 ?_ fun H5 p5 s6 hp5 => ?_
      · rw [List.length_append, List.length_map, rep_flat, List.length_map, List.length_replicate]
        show 1 + bs.length + _ ≤ sizeLine
        omega
      have er : ([V.int ((bs.map V.int).length : Int)] ++ bs.map V.int ++ (List.replicate ((61 : Int) - ((bs.map V.int).length : Int)).toNat [V.int 0]).flatten) = (restOf bs).map V.int := by
        rw [rep_flat, List.length_map, show ((61 : Int) - (bs.length : Int)).toNat = 61 - bs.length by omega]
        unfold restOf
        rw [List.map_cons, List.map_append]
        rfl
      rw [er] at hp5
      exact ⟨_, _, rfl, kN _ _ ⟨pg, p5, rfl, s2.trans (s04.trans s6), (s04.trans s6) _ _ hpg, hp5⟩⟩
    rintro σ2 H2 ⟨pg, pr, rfl, s12, hpg2, hpr2⟩
    have hB2 := hB1.same s12
    have hT2 := tabs_sb hB1 hT1 (SB.of s12)
    have hpb2 := s12 _ _ hpb1
    refine seq_join (t := tAsg _ _) (fun σ' H' => σ' = [some (.ref b), some (.ref pb), some (.ref pg), some (.ref pr), some (.int ((wl 1 (restOf bs)).sum % 65521)), none, none, none, none, none, none] ∧ Same H2 H') (fun N kN => ?_) ?_
    · refine ⟨_, rfl, pr, _, rfl, .inl (.inl hpr2), fun D hD => lc_it (walk_enumT (xs := (restOf bs).map V.int)) (fun i H1 => Fill H2 D ((wl 1 (restOf bs)).take i |>.map V.int) H1) (.start hD) (fun i H1 _ f => .inl (.inl (f.same _ _ hpr2))) ?_ ?_⟩
      · rintro i x H1 H1' hi f ⟨T1, y1, y2, rfl, hT, rfl, e1, e2⟩
        have e1 := Option.some.inj e1
        subst e1
        have e2 : ((restOf bs).map V.int)[i]? = some y2 := e2
        rw [List.getElem?_map] at e2
        obtain ⟨b, hb, rfl⟩ := Option.map_eq_some_iff.mp e2
        have hw := wl_get (restOf bs) 1 i b hb
        have hi2 : i < (restOf bs).length := (List.getElem?_eq_some_iff.mp hb).1
        have f2 := f.ext (same_upd (o := .tup [.int ((i : Nat) : Int), .int b]) hT)
        refine ⟨T1, _, rfl, .inl (.inl upd_same), rfl, _, _, rfl, _, _, rfl, rfl, rfl, _, rfl, _, _, rfl, rfl, _, rfl, _, _, rfl, rfl, .inl ⟨by omega, by omega⟩, _, f2.at_, ?_, f2.add ?_⟩
        · rw [List.length_map]
          exact take_len_le (by rw [wl_len]; omega)
        · rw [take_add hw, List.map_append]
          show _ = _ ++ [V.int ((((i : Nat) : Int) + 1) * b)]
          rw [Int.add_comm 1 ((i : Nat) : Int)]
          rfl
      · intro H6 f
        rw [List.length_map, ← wl_len (restOf bs) 1, List.take_length] at f
        exact ⟨D, wl 1 (restOf bs), rfl, SqL.of f.at_, _, _, rfl, rfl, (by show (0 : Int) < 65521; decide), kN _ _ ⟨rfl, f.same⟩⟩
    rintro σ3 H3 ⟨rfl, s23⟩
    have hB3 := hB2.same s23
    have hT3 := tabs_sb hB2 hT2 (SB.of s23)
    have hpb3 := s23 _ _ hpb2
    have hpg3 := s23 _ _ hpg2
    have hpr3 := s23 _ _ hpr2
    have szp : dsz (.tuple ((pageOf bs).map PyData.int)) ≤ 1000 := by
      rw [dsz, dszs_ints]
      omega
    refine seq_join (t := tIfS _ _ _) (fun σ' H' => σ' = [some (.ref b), some (.ref pb), some (.ref pg), some (.ref pr), some (.int ((wl 1 (restOf bs)).sum % 65521)), none, none, none, none, none, none] ∧ Same H3 H') (fun N kN => ?_) ?_
    · refine ⟨_, rfl, _, rfl, .ref pg, .tuple ((pageOf bs).map .int), rfl, .tup hpg3 (.ints _), by omega, ?_⟩
      rw [page_ok hbs hbl]
      intro H4 p4 s4 h4
      rw [intsOf_t, page_body hbl] at h4
      have hpg4 := s4 _ _ hpg3
      refine ⟨_, rfl, .ref pg, .tuple ((pageOf bs).map .int), rfl, .tup hpg4 (.ints _), by omega, fun H5 s5 => ?_⟩
      rw [page_ok hbs hbl]
      refine ⟨(by show 3 ≤ sizeLine; omega), fun l6 n6 => ?_⟩
      have g6 := same_upd (o := .lst [.ref pg, .ref p4, .bl (none : Option (Int × Str)).isNone]) n6
      have h6 := @upd_same H5 l6 (.lst [.ref pg, .ref p4, .bl (none : Option (Int × Str)).isNone])
      generalize upd H5 l6 (.lst [.ref pg, .ref p4, .bl (none : Option (Int × Str)).isNone]) = H6 at g6 h6 ⊢
      have s36 := s4.trans (s5.trans g6)
      have hpr6 := s36 _ _ hpr3
      have hpb6 := s36 _ _ hpb3
      refine ⟨_, rfl, _, _, rfl, rfl, ⟨by decide, by decide⟩, .inl ⟨_, rfl, _, rfl, .inl ⟨_, rfl, _, _, rfl, rfl, (by show (0 : Int) < 256; decide), (by show 2 ≤ sizeLine; omega), fun p7 n7 => ⟨_, rfl, ?_⟩⟩⟩⟩
      have g7 := same_upd (o := .tup [.int ((wl 1 (restOf bs)).sum % 65521 / 256), .int ((wl 1 (restOf bs)).sum % 65521 % 256)]) n7
      refine cat_new upd_same (g7 _ _ hpr6) (by rw [List.length_map]; show 2 + (restOf bs).length ≤ sizeLine; omega) fun H8 p8 g8 h8 => ?_
      have h8 : H8 p8 = some (.tup ((pageOf bs).map V.int)) := h8
      refine ⟨_, rfl, (by show 3 ≤ sizeLine; omega), fun l9 n9 => ?_⟩
      have g9 := same_upd (o := .lst [.ref p8, .ref pb, .bl true]) n9
      have h9 := @upd_same H8 l9 (.lst [.ref p8, .ref pb, .bl true])
      generalize upd H8 l9 (.lst [.ref p8, .ref pb, .bl true]) = H9 at g9 h9 ⊢
      have s69 := g7.trans (g8.trans g9)
      refine ⟨.ref l6, .ref l9, .list [.tuple ((pageOf bs).map .int), .tuple (bs.map .int), .bool true], rfl, .lst (s69 _ _ h6) (.cons (.tup ((s36.trans s69) _ _ hpg3) (.ints _)) (.cons (.tup ((s5.trans (g6.trans s69)) _ _ h4) (.ints _)) (.one (.bl _)))), .lst h9 (.cons (.tup (g9 _ _ h8) (.ints _)) (.cons (.tup ((s36.trans s69) _ _ hpb3) (.ints _)) (.one (.bl _)))), ?_, ?_, fun H10 s10 => ⟨_, rfl, iteF (kN _ _ ⟨rfl, s36.trans (s69.trans s10)⟩)⟩⟩
      · rw [nodic, nodics, nodics, nodic, nodics_ints, nodic, nodics_ints]
        rfl
      · rw [dsz, dszs, dszs, dsz, dszs_ints, dsz, dszs_ints]
        show 1 + (1 + (pageOf bs).length + (1 + bs.length + (1 + 0))) ≤ 1000000
        omega
    rintro σ4 H4 ⟨rfl, s34⟩
    have hB4 := hB3.same s34
    have hT4 := tabs_sb hB3 hT3 (SB.of s34)
    have hpb4 := s34 _ _ hpb3
    have hpg4 := s34 _ _ hpg3
    have hpr4 := s34 _ _ hpr3
    clear hT hT1 hT2 hT3 hpb1 hpb2 hpb3 hpg2 hpg3 hpr2 hpr3
    generalize hX : (wl 1 (restOf bs)).sum % 65521 = tot
    refine seq_join (t := tFor _ _ _) (fun σ' H' => ∃ (c5 c6 : Option V), σ' = [some (.ref b), some (.ref pb), some (.ref pg), some (.ref pr), some (.int tot), c5, c6, none, none, none, none] ∧ FX Tt b H4 H') (fun N kN => ?_) ?_
    · refine ⟨64, rfl, by omega, by omega, for_range (lo := 0) (n := (64 : Int).toNat) (fun i σ' H' => ∃ (c5 c6 : Option V), σ' = [some (.ref b), some (.ref pb), some (.ref pg), some (.ref pr), some (.int tot), c5, c6, none, none, none, none] ∧ FX Tt b H4 H') ⟨none, none, rfl, .refl _ _ _⟩ ?_ fun σ' H' h => kN _ _ h⟩
      rintro i σ' H5 hi ⟨c5, c6, rfl, f5⟩
      have hi : i < 64 := hi
      have hB5 := f5.bag hB4
      have hpg5 := f5.tup hB4 hpg4
      obtain ⟨old, hold⟩ : ∃ old, (pageOf bs)[i]? = some old := ⟨_, List.getElem?_eq_getElem (by omega)⟩
      have hob := all_byte hpgb old (List.mem_of_getElem? hold)
      have ei : (0 : Int) + ((i : Nat) : Int) = ((i : Nat) : Int) := by omega
      refine seq_join (t := tAsg _ _) (fun σ' H' => ∃ (po : Addr) (ob : List Int), σ' = [some (.ref b), some (.ref pb), some (.ref pg), some (.ref pr), some (.int tot), some (.int (0 + (i : Nat))), some (.ref po), none, none, none, none] ∧ SB b H5 H' ∧ H' po = some (.tup (ob.map V.int)) ∧ ob.length = 64 ∧ pfD (.tuple (ob.map .int)) = some ((0 : Int), ("sum" : Str))) (fun N' kN' => ?_) ?_
      · refine ⟨_, rfl, _, rfl, _, rfl, ?_⟩
        dsimp only [tNoPart]
        refine sl_new hpg5 fun H41 p41 s41 h41 => ?_
        rw [ei, cut_take] at h41
        have hpg41 := s41 _ _ hpg5
        have hB41 := hB5.same s41
        refine ⟨_, rfl, _, rfl, pg, _, 0 + (i : Nat), .int old, rfl, rfl, .inl (.inl hpg41), (by rw [ei]; exact atI_nat (by rw [List.getElem?_map, hold]; rfl)), _, _, rfl, rfl, _, rfl, b, 255, rfl, hB41, by decide, by decide, fun H42 u s42 hB42 u0 u1 => ⟨_, _, rfl, rfl, .inl ⟨_, rfl, _, _, rfl, rfl, (by omega), (by show 1 ≤ sizeLine; omega), fun p43 n43 => ?_⟩⟩⟩
        have h42 := s42.at_ h41 (bag_ne hB41 h41)
        have hpg42 := s42.at_ hpg41 (bag_ne hB41 hpg41)
        have g43 := same_upd (o := .tup [.int ((old + 1 + u) % 256)]) n43
        have h43 := @upd_same H42 p43 (.tup [.int ((old + 1 + u) % 256)])
        generalize upd H42 p43 (.tup [.int ((old + 1 + u) % 256)]) = H43 at g43 h43 ⊢
        refine cat_new (g43 _ _ h42) h43 (by rw [List.length_take, List.length_map]; show min i (pageOf bs).length + 1 ≤ sizeLine; omega) fun H44 p44 s44 h44 => ?_
        have hpg44 := s44 _ _ (g43 _ _ hpg42)
        refine ⟨_, rfl, _, rfl, _, _, rfl, rfl, _, rfl, ?_⟩
        dsimp only [tNoPart]
        refine sl_new hpg44 fun H45 p45 s45 h45 => ?_
        rw [show (0 : Int) + ((i : Nat) : Int) + 1 = ((i + 1 : Nat) : Int) by omega, cut_drop] at h45
        refine cat_new (s45 _ _ h44) h45 (by rw [List.length_append, List.length_take, List.length_map, List.length_drop, List.length_map]; show min i (pageOf bs).length + 1 + ((pageOf bs).length - (i + 1)) ≤ sizeLine; omega) fun H46 p46 s46 h46 => ?_
        have e46 : (((pageOf bs).map V.int).take i ++ [V.int ((old + 1 + u) % 256)] ++ ((pageOf bs).map V.int).drop (i + 1)) = ((pageOf bs).take i ++ [(old + 1 + u) % 256] ++ (pageOf bs).drop (i + 1)).map V.int := by
          rw [List.map_append, List.map_append, List.map_take, List.map_drop]
          rfl
        rw [e46] at h46
        refine kN' _ _ ⟨p46, _, rfl, (SB.of s41).trans (s42.trans (SB.of (g43.trans (s44.trans (s45.trans s46))))), h46, ?_, page_bent hbs hbl hold (x := (old + 1 + u) % 256) (by omega) (by omega) (by omega)⟩
        rw [List.length_append, List.length_append, List.length_take, List.length_drop, hlen]
        show min i 64 + 1 + (64 - (i + 1)) = 64
        omega
      rintro σ6 H6 ⟨po, ob, rfl, s56, hpo6, hol, hbent⟩
      have hB6 := s56.bag hB5
      have f6 := f5.trans (FX.sb (Tt := Tt) s56)
      have hT6 := f6.tab hB4 hT4
      have szo : dsz (.tuple (ob.map PyData.int)) ≤ 1000 := by
        rw [dsz, dszs_ints]
        omega
      refine ⟨_, rfl, .ref po, _, rfl, .tup hpo6 (.ints _), by omega, fun H7 s7 => ?_⟩
      rw [hbent]
      refine ⟨_, _, rfl, rfl, _, rfl, iteF ?_⟩
      have hB7 := hB6.same s7
      have f7 := f6.trans (.of s7)
      have hT7 := f7.tab hB4 hT4
      refine hear_join (fun y H'' => FX Tt b H7 H'' ∧ Rp (dlt H'' b) y (.tuple [.str "bytes", .int 0, .str "sum"])) hT7 (fun J1 x1 t1 Q' k => ?_) ?_
      · have hJ1 := ext_bag hB7 x1
        refine ⟨_, rfl, .ref po, _, rfl, ext_rp x1 (.tup (s7 _ _ hpo6) (.ints _)), by omega, ?_⟩
        rw [hbent]
        exact fun J2 a2 s2 h2 => .inr (.inr ⟨rfl, a2, _, _, rfl, h2, fun J3 p3 s3 h3 => k _ _ ⟨(FX.ext x1 t1).trans (.of (s2.trans s3)), rp_told (hJ1.same (s2.trans s3)) h3⟩⟩)
      rintro y J ⟨fj, ry⟩
      refine ⟨(by show 3 ≤ sizeLine; omega), fun p7 m7 => ?_⟩
      have g7 := same_upd (o := .tup [.str "bytes", .int 0, .str "sum"]) m7
      exact ⟨y, .ref p7, .tuple [.str "bytes", .int 0, .str "sum"], rfl, (ry.same (dlt_same J b)).same g7, .tup upd_same (.cons (.str _) (.cons (.int _) (.one (.str _)))), rfl, (by decide), fun J8 s8 => ⟨_, rfl, iteF ⟨_, _, rfl, f7.trans (fj.trans (.of (g7.trans s8)))⟩⟩⟩
    rintro σ5 H5 ⟨c5, c6, rfl, f5⟩
    have hB5 := f5.bag hB4
    have hT5 := f5.tab hB4 hT4
    have hpb5 := f5.tup hB4 hpb4
    have hpg5 := f5.tup hB4 hpg4
    have hpr5 := f5.tup hB4 hpr4
    clear f5 hpb4 hpg4 hpr4
    refine seq_join (t := tFor _ _ _) (fun σ' H' => ∃ (c6 : Option V), σ' = [some (.ref b), some (.ref pb), some (.ref pg), some (.ref pr), some (.int tot), c5, c6, none, none, none, none] ∧ FX Tt b H5 H') (fun N kN => ?_) ?_
    · refine ⟨_, rfl, _, rfl, ?_⟩
      dsimp only [tNoPart]
      refine sl_new hpg5 fun H47 p47 s47 h47 => ?_
      rw [show (some (1 : Int)) = some ((1 : Nat) : Int) from rfl, cut_drop, ← List.map_drop] at h47
      refine ⟨_, rfl, pg, _, rfl, .inr (SqT.of (s47 _ _ hpg5)), fun p48 n48 => ?_⟩
      have hB47 := hB5.same s47
      have g48 := same_upd (o := .lst ((pageOf bs).map V.int)) n48
      have h48 := @upd_same H47 p48 (.lst ((pageOf bs).map V.int))
      have nb48 := bag_fresh hB47 n48
      generalize upd H47 p48 (.lst ((pageOf bs).map V.int)) = H48 at g48 h48 ⊢
      have hpg48 := g48 _ _ (s47 _ _ hpg5)
      refine ⟨_, rfl, (by show 1 ≤ sizeLine; omega), fun p49 n49 => ?_⟩
      have g49 := same_upd (o := .tup [.int 0]) n49
      have h49 := @upd_same H48 p49 (.tup [.int 0])
      generalize upd H48 p49 (.tup [.int 0]) = H49 at g49 h49 ⊢
      refine cat_new (g49 _ _ hpg48) h49 (by rw [List.length_map]; show (pageOf bs).length + 1 ≤ sizeLine; omega) fun H50 p50 s50 h50 => ?_
      have h50 : H50 p50 = some (.tup ((pageOf bs ++ [0]).map V.int)) := by
        rw [List.map_append]
        exact h50
      have hpg50 := s50 _ _ (g49 _ _ hpg48)
      refine ⟨(by show 1 ≤ sizeLine; omega), fun p51 n51 => ⟨_, rfl, _, rfl, ?_⟩⟩
      have g51 := same_upd (o := .tup [.bl true]) n51
      have h51 := @upd_same H50 p51 (.tup [.bl true])
      generalize upd H50 p51 (.tup [.bl true]) = H51 at g51 h51 ⊢
      dsimp only [tNoPart]
      refine sl_new (g51 _ _ hpg50) fun H52 p52 s52 h52 => ?_
      rw [show (some (1 : Int)) = some ((1 : Nat) : Int) from rfl, cut_drop, ← List.map_drop] at h52
      refine cat_new (s52 _ _ h51) h52 (by rw [List.length_map, List.length_drop]; show 1 + ((pageOf bs).length - 1) ≤ sizeLine; omega) fun H53 p53 s53 h53 => ?_
      have hpg53 := (s52.trans s53) _ _ (g51 _ _ hpg50)
      refine ⟨_, rfl, ?_⟩
      dsimp only [tNoPart]
      refine ⟨_, rfl, _, rfl, ?_⟩
      refine sl_new hpg53 fun H54 p54 s54 h54 => ?_
      rw [cut_last, ← List.map_dropLast] at h54
      refine ⟨(by show 1 ≤ sizeLine; omega), fun p55 n55 => ?_⟩
      have g55 := same_upd (o := .tup [.int 256]) n55
      have h55 := @upd_same H54 p55 (.tup [.int 256])
      generalize upd H54 p55 (.tup [.int 256]) = H55 at g55 h55 ⊢
      refine cat_new (g55 _ _ h54) h55 (by rw [List.length_map, List.length_dropLast]; show (pageOf bs).length - 1 + 1 ≤ sizeLine; omega) fun H56 p56 s56 h56 => ?_
      have h56 : H56 p56 = some (.tup (((pageOf bs).dropLast ++ [256]).map V.int)) := by
        rw [List.map_append]
        exact h56
      refine ⟨(by show 6 ≤ sizeLine; omega), fun tb m6 => ?_⟩
      have g6 := same_upd (o := .tup [.non, .ref p47, .ref p48, .ref p50, .ref p53, .ref p56]) m6
      have h6 := @upd_same H56 tb (.tup [.non, .ref p47, .ref p48, .ref p50, .ref p53, .ref p56])
      generalize upd H56 tb (.tup [.non, .ref p47, .ref p48, .ref p50, .ref p53, .ref p56]) = H6 at g6 h6 ⊢
      have s4850 := g49.trans s50
      have s5053 := g51.trans (s52.trans s53)
      have s536 := s54.trans (g55.trans (s56.trans g6))
      have sA : Same H5 H6 := s47.trans (g48.trans (s4850.trans (s5053.trans s536)))
      have hB6 := hB5.same sA
      have hT6 := tabs_sb hB5 hT5 (SB.of sA)
      have bt : ∀ {G : Hp} {p : Addr} {ns : List Int}, Same G H6 → G p = some (.tup (ns.map V.int)) → Rp (dlt H6 b) (.ref p) (.tuple (ns.map .int)) := fun {G p ns} s h => .tup (dlt_at (s _ _ h) (bag_ne hB6 (s _ _ h))) (.ints _)
      have r48 : Rp (dlt H6 b) (.ref p48) (.list ((pageOf bs).map .int)) := .lst (dlt_at ((s4850.trans (s5053.trans s536)) _ _ h48) nb48) (.ints _)
      have r53 : Rp (dlt H6 b) (.ref p53) (.tuple (.bool true :: ((pageOf bs).drop 1).map .int)) := .tup (dlt_at (s536 _ _ h53) (bag_ne hB6 (s536 _ _ h53))) (.cons (.bl _) (.ints _))
      have hA : RpA (dlt H6 b) [.non, .ref p47, .ref p48, .ref p50, .ref p53, .ref p56] [.none, .tuple (((pageOf bs).drop 1).map .int), .list ((pageOf bs).map .int), .tuple ((pageOf bs ++ [0]).map .int), .tuple (.bool true :: ((pageOf bs).drop 1).map .int), .tuple (((pageOf bs).dropLast ++ [256]).map .int)] :=
        .cons .non (.cons (bt (g48.trans (s4850.trans (s5053.trans s536))) h47) (.cons r48 (.cons (bt (s5053.trans s536) h50) (.cons r53 (.one (bt g6 h56))))))
      have szi : ∀ ns : List Int, ns.length ≤ 100 → dsz (.tuple (ns.map .int)) ≤ 1000 := fun ns h => by
        rw [dsz, dszs_ints]
        omega
      have hAll : ∀ d ∈ ([.none, .tuple (((pageOf bs).drop 1).map .int), .list ((pageOf bs).map .int), .tuple ((pageOf bs ++ [0]).map .int), .tuple (.bool true :: ((pageOf bs).drop 1).map .int), .tuple (((pageOf bs).dropLast ++ [256]).map .int)] : List PyData), pfD d = some ((0 : Int), ("size" : Str)) ∧ dsz d ≤ 1000 := fun d hd => by
        simp only [List.mem_cons, List.not_mem_nil, or_false] at hd
        rcases hd with rfl | rfl | rfl | rfl | rfl | rfl
        · exact ⟨pfD_none, by decide⟩
        · exact ⟨pfD_len2 (by rw [List.length_drop]; omega), szi _ (by rw [List.length_drop]; omega)⟩
        · exact ⟨pfD_list _, by rw [dsz, dszs_ints]; omega⟩
        · exact ⟨pfD_len2 (by rw [List.length_append]; show (pageOf bs).length + 1 ≠ 64; omega), szi _ (by rw [List.length_append]; show (pageOf bs).length + 1 ≤ 100; omega)⟩
        · refine ⟨pfD_tr _, ?_⟩
          rw [dsz, dszs, dszs_ints, List.length_drop]
          show 1 + (1 + ((pageOf bs).length - 1)) ≤ 1000
          omega
        · exact ⟨pfD_byte (x := 256) (by simp) rfl, szi _ (by rw [List.length_append, List.length_dropLast]; show (pageOf bs).length - 1 + 1 ≤ 100; omega)⟩
      refine ⟨tb, rfl, ⟨_, .inl (.inl h6)⟩, for_tup (a := tb) (D := { nx := N, rt := Q }) (xs := [.non, .ref p47, .ref p48, .ref p50, .ref p53, .ref p56]) (fun i σ' H' => ∃ (c6 : Option V), σ' = [some (.ref b), some (.ref pb), some (.ref pg), some (.ref pr), some (.int tot), c5, c6, none, none, none, none] ∧ FX Tt b H6 H') ⟨c6, rfl, .refl _ _ _⟩ (fun i σ' H' _ hh => ?_) (fun i x σ' H' hx hh => ?_) fun σ' H' hh => ?_⟩
      · obtain ⟨_, _, fi⟩ := hh
        exact .inl (.inl (fi.tup hB6 h6))
      · obtain ⟨c6', rfl, fi⟩ := hh
        obtain ⟨dx, hdx, rx⟩ := RpA.mem hA (List.mem_of_getElem? hx)
        obtain ⟨e1, e2⟩ := hAll dx hdx
        have rx1 := fi.rp rx
        have hBi := fi.bag hB6
        have hTi := fi.tab hB6 hT6
        refine ⟨_, rfl, x, dx, rfl, rx1.same (dlt_same H' b), by omega, fun H7 s7 => ?_⟩
        rw [e1]
        have hB7 := hBi.same s7
        have f7 := fi.trans (.of s7)
        have hT7 := f7.tab hB6 hT6
        refine hear_join (fun y H'' => FX Tt b H7 H'' ∧ Rp (dlt H'' b) y (.tuple [.str "bytes", .int 0, .str "size"])) hT7 (fun J1 x1 t1 Q' k => ?_) ?_
        · have hJ1 := ext_bag hB7 x1
          refine ⟨_, rfl, x, dx, rfl, ext_rp x1 ((rx1.same (dlt_mono s7)).same (dlt_same H7 b)), by omega, ?_⟩
          rw [e1]
          exact fun J2 a2 s2 h2 => .inr (.inr ⟨rfl, a2, _, _, rfl, h2, fun J3 p3 s3 h3 => k _ _ ⟨(FX.ext x1 t1).trans (.of (s2.trans s3)), rp_told (hJ1.same (s2.trans s3)) h3⟩⟩)
        rintro y J ⟨fj, ry⟩
        refine ⟨(by show 2 ≤ sizeLine; omega), fun l8 n8 => ?_⟩
        have g8 := same_upd (o := .lst [.bl (some ((0 : Int), ("size" : Str))).isNone, y]) n8
        have h8 := @upd_same J l8 (.lst [.bl (some ((0 : Int), ("size" : Str))).isNone, y])
        generalize upd J l8 (.lst [.bl (some ((0 : Int), ("size" : Str))).isNone, y]) = J8 at g8 h8 ⊢
        refine ⟨(by show 3 ≤ sizeLine; omega), fun p9 n9 => ?_⟩
        have g9 := same_upd (o := .tup [.str "bytes", .int 0, .str "size"]) n9
        have h9 := @upd_same J8 p9 (.tup [.str "bytes", .int 0, .str "size"])
        generalize upd J8 p9 (.tup [.str "bytes", .int 0, .str "size"]) = J9 at g9 h9 ⊢
        refine ⟨(by show 2 ≤ sizeLine; omega), fun l10 n10 => ?_⟩
        have g10 := same_upd (o := .lst [.bl false, .ref p9]) n10
        have h10 := @upd_same J9 l10 (.lst [.bl false, .ref p9])
        generalize upd J9 l10 (.lst [.bl false, .ref p9]) = J10 at g10 h10 ⊢
        have sJ := g8.trans (g9.trans g10)
        exact ⟨.ref l8, .ref l10, .list [.bool false, .tuple [.str "bytes", .int 0, .str "size"]], rfl, .lst ((g9.trans g10) _ _ h8) (.cons (.bl _) (.one ((ry.same (dlt_same J b)).same sJ))), .lst h10 (.cons (.bl _) (.one (.tup (g10 _ _ h9) (.cons (.str _) (.cons (.int _) (.one (.str _))))))), rfl, (by decide), fun J11 s11 => ⟨_, rfl, iteF ⟨_, rfl, f7.trans (fj.trans (.of (sJ.trans s11)))⟩⟩⟩
      · obtain ⟨c6', rfl, fi⟩ := hh
        exact kN _ _ ⟨_, rfl, (FX.of sA).trans fi⟩
    rintro σ6 H6 ⟨c6', rfl, f6⟩
    have hB6 := f6.bag hB5
    have hT6 := f6.tab hB5 hT5
    have hpb6 := f6.tup hB5 hpb5
    have hpg6 := f6.tup hB5 hpg5
    clear hpg6
    refine seq_join (t := tFor _ _ _) (fun σ' H' => ∃ (c4 c6 c7 c8 : Option V), σ' = [some (.ref b), some (.ref pb), some (.ref pg), some (.ref pr), c4, c5, c6, c7, c8, none, none] ∧ FX Tt b H6 H') (fun N kN => ?_) ?_
    · refine ⟨(by show 1 ≤ sizeLine; omega), fun p1 n1 => ⟨_, rfl, ?_⟩⟩
      have g1 := same_upd (o := .tup [.int 62]) n1
      refine cat_new upd_same (g1 _ _ hpb6) (by rw [List.length_map]; show 1 + bs.length ≤ sizeLine; omega) fun H7 p2 g2 h2 => ?_
      refine ⟨(by show 1 ≤ sizeLine; omega), fun p3 n3 => ?_⟩
      have g3 := same_upd (o := .tup [.int 0]) n3
      have hpb7 := (g1.trans (g2.trans g3)) _ _ hpb6
      refine ⟨_, rfl, _, _, rfl, .inr ⟨_, .inl (.inl hpb7), rfl⟩, _, _, rfl, rfl, p3, _, [.int 0], rfl, rfl, upd_same, by simp, ?_, ?_, (by show 1 ≤ 1000; decide), fun H8 p4 g4 h4 => ?_⟩
      · rw [List.length_map]; omega
      · omega
      refine cat_new (g4 _ _ (g3 _ _ h2)) h4 ?_ fun H9 p5 g5 h5 => ?_
      · rw [List.length_append, List.length_map, rep_flat, List.length_map, List.length_replicate]
        show 1 + bs.length + _ ≤ sizeLine
        omega
      have er : ([V.int 62] ++ bs.map V.int ++ (List.replicate ((61 : Int) - ((bs.map V.int).length : Int)).toNat [V.int 0]).flatten) = (oddL bs).map V.int := by
        rw [rep_flat, List.length_map, show ((61 : Int) - (bs.length : Int)).toNat = 61 - bs.length by omega]
        unfold oddL
        rw [List.map_cons, List.map_append]
        rfl
      rw [er] at h5
      refine ⟨(by show 2 ≤ sizeLine; omega), fun p6 n6 => ?_⟩
      have g6 := same_upd (o := .tup [.int 2, .str "length"]) n6
      have h6 := @upd_same H9 p6 (.tup [.int 2, .str "length"])
      generalize upd H9 p6 (.tup [.int 2, .str "length"]) = H10 at g6 h6 ⊢
      refine ⟨(by show 2 ≤ sizeLine; omega), fun r1 n7 => ?_⟩
      have g7 := same_upd (o := .tup [.ref p5, .ref p6]) n7
      have h7 := @upd_same H10 r1 (.tup [.ref p5, .ref p6])
      generalize upd H10 r1 (.tup [.ref p5, .ref p6]) = H11 at g7 h7 ⊢
      refine ⟨(by show 1 ≤ sizeLine; omega), fun p8 n8 => ⟨(by show 1 ≤ sizeLine; omega), fun p9 n9 => ?_⟩⟩
      have g8 := same_upd (o := .tup [.int 0]) n8
      have g9 := same_upd (o := .tup [.int 0]) n9
      refine ⟨p9, _, [.int 0], rfl, rfl, upd_same, by simp, by decide, by decide, (by show 1 ≤ 1000; decide), fun H12 p10 g10 h10 => ?_⟩
      refine cat_new (g10 _ _ (g9 _ _ upd_same)) h10 ?_ fun H13 p11 g11 h11 => ?_
      · rw [rep_flat, List.length_map, List.length_replicate]
        show 1 + 60 ≤ sizeLine
        omega
      refine ⟨(by show 1 ≤ sizeLine; omega), fun p12 n12 => ?_⟩
      have g12 := same_upd (o := .tup [.int 5]) n12
      refine cat_new (g12 _ _ h11) upd_same ?_ fun H14 p13 g13 h13 => ?_
      · rw [List.length_append, rep_flat, List.length_map, List.length_replicate]
        show 1 + 60 + 1 ≤ sizeLine
        omega
      have er2 : ([V.int 0] ++ (List.replicate ((60 : Int)).toNat [V.int 0]).flatten ++ [V.int 5]) = oddR.map V.int := by
        rw [rep_flat]
        rfl
      rw [er2] at h13
      refine ⟨(by show 2 ≤ sizeLine; omega), fun p14 n14 => ?_⟩
      have g14 := same_upd (o := .tup [.int 63, .str "rest"]) n14
      have h14 := @upd_same H14 p14 (.tup [.int 63, .str "rest"])
      generalize upd H14 p14 (.tup [.int 63, .str "rest"]) = H15 at g14 h14 ⊢
      refine ⟨(by show 2 ≤ sizeLine; omega), fun r2 n15 => ?_⟩
      have g15 := same_upd (o := .tup [.ref p13, .ref p14]) n15
      have h15 := @upd_same H15 r2 (.tup [.ref p13, .ref p14])
      generalize upd H15 r2 (.tup [.ref p13, .ref p14]) = H16 at g15 h15 ⊢
      refine ⟨(by show 2 ≤ sizeLine; omega), fun tb n16 => ?_⟩
      have g16 := same_upd (o := .tup [.ref r1, .ref r2]) n16
      have h16 := @upd_same H16 tb (.tup [.ref r1, .ref r2])
      generalize upd H16 tb (.tup [.ref r1, .ref r2]) = H17 at g16 h16 ⊢
      have s14 := g14.trans (g15.trans g16)
      have s12 := g8.trans (g9.trans (g10.trans (g11.trans (g12.trans (g13.trans s14)))))
      have sA := g1.trans (g2.trans (g3.trans (g4.trans (g5.trans (g6.trans (g7.trans s12))))))
      have hB7 := hB6.same sA
      have hT7 := tabs_sb hB6 hT6 (SB.of sA)
      obtain ⟨o1, o2, o3⟩ := oddL_ok hbs hbl
      obtain ⟨q1, q2, q3⟩ := oddR_ok
      have rows : ∀ x ∈ [V.ref r1, V.ref r2], ∃ (r o pf : Addr) (os : List Int) (n : Int) (z : Str), x = .ref r ∧ H17 r = some (.tup [.ref o, .ref pf]) ∧ H17 o = some (.tup (os.map V.int)) ∧ H17 pf = some (.tup [.int n, .str z]) ∧ os.length = 62 ∧ os.all byteB = true ∧ pfault (sumB os ++ os) = some (n, z) := fun x hx => by
        simp only [List.mem_cons, List.not_mem_nil, or_false] at hx
        rcases hx with rfl | rfl
        · exact ⟨r1, p5, p6, oddL bs, 2, "length", rfl, s12 _ _ h7, (g6.trans (g7.trans s12)) _ _ h5, (g7.trans s12) _ _ h6, o1, o2, o3⟩
        · exact ⟨r2, p13, p14, oddR, 63, "rest", rfl, g16 _ _ h15, s14 _ _ h13, (g15.trans g16) _ _ h14, q1, q2, q3⟩
      refine ⟨tb, rfl, ⟨_, .inl (.inl h16)⟩, for_tup (a := tb) (xs := [.ref r1, .ref r2]) (fun i σ' H' => ∃ (c4 c6 c7 c8 : Option V), σ' = [some (.ref b), some (.ref pb), some (.ref pg), some (.ref pr), c4, c5, c6, c7, c8, none, none] ∧ FX Tt b H17 H') ⟨_, c6', none, none, rfl, .refl _ _ _⟩ (fun i σ' H' _ hh => ?_) (fun i x σ' H' hx hh => ?_) fun σ' H' hh => ?_⟩
      · obtain ⟨_, _, _, _, _, fi⟩ := hh
        exact .inl (.inl (fi.tup hB7 h16))
      · obtain ⟨c4, c6, c7, c8, rfl, fi⟩ := hh
        obtain ⟨r, o, pf, os, n, z, rfl, hr0, ho0, hpf0, l62, oby, hpf⟩ := rows x (List.mem_of_getElem? hx)
        have hr1 := fi.tup hB7 hr0
        have ho1 := fi.tup hB7 ho0
        have hpf1 := fi.tup hB7 hpf0
        have hBi := fi.bag hB7
        have hTi := fi.tab hB7 hT7
        refine ⟨r, _, rfl, .inl (.inl hr1), rfl, _, _, rfl, _, _, rfl, rfl, ?_⟩
        refine seq_join (t := tAsg _ _) (fun σ2 H2 => σ2 = [some (.ref b), some (.ref pb), some (.ref pg), some (.ref pr), some (.int ((wl 1 os).sum % 65521)), c5, c6, some (.ref o), some (.ref pf), none, none] ∧ Same H' H2) (fun N' kN' => ?_) ?_
        · refine ⟨_, rfl, o, _, rfl, .inl (.inl ho1), fun D hD => lc_it (walk_enumT (xs := os.map V.int)) (fun i H1 => Fill H' D ((wl 1 os).take i |>.map V.int) H1) (.start hD) (fun i H1 _ f => .inl (.inl (f.same _ _ ho1))) ?_ ?_⟩
          · rintro i x H1 H1' hi f ⟨T1, y1, y2, rfl, hT, rfl, e1, e2⟩
            have e1 := Option.some.inj e1
            subst e1
            have e2 : (os.map V.int)[i]? = some y2 := e2
            rw [List.getElem?_map] at e2
            obtain ⟨b, hb, rfl⟩ := Option.map_eq_some_iff.mp e2
            have hw := wl_get os 1 i b hb
            have hi2 : i < os.length := (List.getElem?_eq_some_iff.mp hb).1
            have f2 := f.ext (same_upd (o := .tup [.int ((i : Nat) : Int), .int b]) hT)
            refine ⟨T1, _, rfl, .inl (.inl upd_same), rfl, _, _, rfl, _, _, rfl, rfl, rfl, _, rfl, _, _, rfl, rfl, _, rfl, _, _, rfl, rfl, .inl ⟨by omega, by omega⟩, _, f2.at_, ?_, f2.add ?_⟩
            · rw [List.length_map]
              exact take_len_le (by rw [wl_len]; omega)
            · rw [take_add hw, List.map_append]
              show _ = _ ++ [V.int ((((i : Nat) : Int) + 1) * b)]
              rw [Int.add_comm 1 ((i : Nat) : Int)]
              rfl
          · intro H6 f
            rw [List.length_map, ← wl_len os 1, List.take_length] at f
            exact ⟨D, wl 1 os, rfl, SqL.of f.at_, _, _, rfl, rfl, (by show (0 : Int) < 65521; decide), kN' _ _ ⟨rfl, f.same⟩⟩
        rintro σ2 H2 ⟨rfl, s2⟩
        have ho2 := s2 _ _ ho1
        refine seq_join (t := tAsg _ _) (fun σ3 H3 => ∃ pbad, σ3 = [some (.ref b), some (.ref pb), some (.ref pg), some (.ref pr), some (.int ((wl 1 os).sum % 65521)), c5, some (.ref pbad), some (.ref o), some (.ref pf), none, none] ∧ Same H2 H3 ∧ H3 pbad = some (.tup ((sumB os ++ os).map V.int))) (fun N' kN' => ?_) ?_
        · refine ⟨_, rfl, _, _, rfl, rfl, ⟨by decide, by decide⟩, .inl ⟨_, rfl, _, rfl, .inl ⟨_, rfl, _, _, rfl, rfl, (by show (0 : Int) < 256; decide), (by show 2 ≤ sizeLine; omega), fun p7 n7 => ⟨_, rfl, ?_⟩⟩⟩⟩
          have g7 := same_upd (o := .tup [.int ((wl 1 os).sum % 65521 / 256), .int ((wl 1 os).sum % 65521 % 256)]) n7
          exact cat_new upd_same (g7 _ _ ho2) (by rw [List.length_map]; show 2 + os.length ≤ sizeLine; omega) fun H8 p8 g8 h8 => kN' _ _ ⟨p8, rfl, g7.trans g8, h8⟩
        rintro σ3 H3 ⟨pbad, rfl, s3, hbad⟩
        have s23 := s2.trans s3
        have hB3 := hBi.same s23
        have hT3 := tabs_sb hBi hTi (SB.of s23)
        have hpf3 := s23 _ _ hpf1
        have lb : (sumB os ++ os).length = 64 := by
          rw [List.length_append, sumB_len, l62]
        have hq := pfD_page (odd_bytes oby) lb
        rw [hpf] at hq
        have szb : dsz (.tuple ((sumB os ++ os).map PyData.int)) ≤ 1000 := by
          rw [dsz, dszs_ints]
          omega
        refine hear_join (fun y H'' => FX Tt b H3 H'' ∧ Rp (dlt H'' b) y (.tuple [.str "bytes", .int n, .str z])) hT3 (fun J1 x1 t1 Q' k => ?_) ?_
        · have hJ1 := ext_bag hB3 x1
          refine ⟨_, rfl, .ref pbad, _, rfl, ext_rp x1 (.tup hbad (.ints _)), by omega, ?_⟩
          rw [hq]
          exact fun J2 a2 s2 h2 => .inr (.inr ⟨rfl, a2, _, _, rfl, h2, fun J3 p3 s3 h3 => k _ _ ⟨(FX.ext x1 t1).trans (.of (s2.trans s3)), rp_told (hJ1.same (s2.trans s3)) h3⟩⟩)
        rintro y J ⟨fj, ry⟩
        have hpfJ := fj.tup hB3 hpf3
        refine ⟨_, rfl, pf, _, 0, _, rfl, rfl, .inl (.inl hpfJ), rfl, _, rfl, pf, _, 1, _, rfl, rfl, .inl (.inl hpfJ), rfl, (by show 3 ≤ sizeLine; omega), fun p7 m7 => ?_⟩
        have g7 := same_upd (o := .tup [.str "bytes", .int n, .str z]) m7
        exact ⟨y, .ref p7, .tuple [.str "bytes", .int n, .str z], rfl, (ry.same (dlt_same J b)).same g7, .tup upd_same (.cons (.str _) (.cons (.int _) (.one (.str _)))), rfl, (by show 4 ≤ 1000000; omega), fun J8 s8 => ⟨_, rfl, iteF ⟨_, _, _, _, rfl, fi.trans ((FX.of s23).trans (fj.trans (.of (g7.trans s8))))⟩⟩⟩
      · obtain ⟨_, _, _, _, rfl, fi⟩ := hh
        exact kN _ _ ⟨_, _, _, _, rfl, (FX.of sA).trans fi⟩
    rintro σ7 H7 ⟨c4, c6, c7, c8, rfl, f7⟩
    have hB7 := f7.bag hB6
    have hT7 := f7.tab hB6 hT6
    refine seq_join (t := tFor _ _ _) (fun σ' H' => ∃ (c6 : Option V), σ' = [some (.ref b), some (.ref pb), some (.ref pg), some (.ref pr), c4, c5, c6, c7, c8, none, none] ∧ FX Tt b H7 H') (fun N kN => ?_) ?_
    · refine ⟨(by show 1 ≤ sizeLine; omega), fun q1 m1 => ?_⟩
      have g1 := same_upd (o := .tup [.int 256]) m1
      have r1 : Rp (dlt (upd H7 q1 (.tup [.int 256])) b) (.ref q1) (.tuple [.int 256]) := .tup (dlt_at upd_same (bag_fresh hB7 m1)) (.one (.int _))
      generalize upd H7 q1 (.tup [.int 256]) = G1 at g1 r1 ⊢
      have hG1 := hB7.same g1
      refine ⟨_, rfl, (by show 1 ≤ sizeLine; omega), fun q2 m2 => ?_⟩
      have g2 := same_upd (o := .tup [.int (-1)]) m2
      have r2 : Rp (dlt (upd G1 q2 (.tup [.int (-1)])) b) (.ref q2) (.tuple [.int (-1)]) := .tup (dlt_at upd_same (bag_fresh hG1 m2)) (.one (.int _))
      generalize upd G1 q2 (.tup [.int (-1)]) = G2 at g2 r2 ⊢
      have hG2 := hG1.same g2
      refine ⟨(by show 1 ≤ sizeLine; omega), fun q3 m3 => ?_⟩
      have g3 := same_upd (o := .tup [.int 0]) m3
      refine ⟨q3, _, [.int 0], rfl, rfl, upd_same, by simp, by decide, by decide, (by show 1 ≤ 1000; decide), fun G4 q4 g4 h4 => ?_⟩
      have g34 := g3.trans g4
      have hG4 := hG2.same g34
      have r4 : Rp (dlt G4 b) (.ref q4) (.tuple ((List.replicate 62 (0 : Int)).map .int)) := .tup (dlt_at (by rw [h4, rep_flat]; rfl) (bag_ne hG4 h4)) (.ints _)
      refine ⟨(by show 1 ≤ sizeLine; omega), fun q5 m5 => ?_⟩
      have g5 := same_upd (o := .lst [.int 1]) m5
      have r5 : Rp (dlt (upd G4 q5 (.lst [.int 1])) b) (.ref q5) (.list [.int 1]) := .lst (dlt_at upd_same (bag_fresh hG4 m5)) (.one (.int _))
      generalize upd G4 q5 (.lst [.int 1]) = G5 at g5 r5 ⊢
      have hG5 := hG4.same g5
      refine ⟨(by show 1 ≤ sizeLine; omega), fun q6 m6 => ?_⟩
      have g6 := same_upd (o := .tup [.bl true]) m6
      have r6 : Rp (dlt (upd G5 q6 (.tup [.bl true])) b) (.ref q6) (.tuple [.bool true]) := .tup (dlt_at upd_same (bag_fresh hG5 m6)) (.one (.bl _))
      generalize upd G5 q6 (.tup [.bl true]) = G6 at g6 r6 ⊢
      have hG6 := hG5.same g6
      refine ⟨(by show 6 ≤ sizeLine; omega), fun tb m7 => ?_⟩
      have g7 := same_upd (o := .tup [.non, .ref q1, .ref q2, .ref q4, .ref q5, .ref q6]) m7
      have h7 := @upd_same G6 tb (.tup [.non, .ref q1, .ref q2, .ref q4, .ref q5, .ref q6])
      generalize upd G6 tb (.tup [.non, .ref q1, .ref q2, .ref q4, .ref q5, .ref q6]) = G7 at g7 h7 ⊢
      have s57 := g5.trans (g6.trans g7)
      have hA : RpA (dlt G7 b) [.non, .ref q1, .ref q2, .ref q4, .ref q5, .ref q6] badsS :=
        .cons .non (.cons (r1.same (dlt_mono (g2.trans (g34.trans s57)))) (.cons (r2.same (dlt_mono (g34.trans s57))) (.cons (r4.same (dlt_mono s57)) (.cons (r5.same (dlt_mono (g6.trans g7))) (.one (r6.same (dlt_mono g7)))))))
      have sA := g1.trans (g2.trans (g34.trans s57))
      have hBB := hG6.same g7
      have hTT := tabs_sb hB7 hT7 (SB.of sA)
      refine ⟨tb, rfl, ⟨_, .inl (.inl h7)⟩, for_tup (a := tb) (xs := [.non, .ref q1, .ref q2, .ref q4, .ref q5, .ref q6]) (fun i σ' H' => ∃ (c6 : Option V), σ' = [some (.ref b), some (.ref pb), some (.ref pg), some (.ref pr), c4, c5, c6, c7, c8, none, none] ∧ FX Tt b G7 H') ⟨c6, rfl, .refl _ _ _⟩ (fun i σ' H' _ hh => ?_) (fun i x σ' H' hx hh => ?_) fun σ' H' hh => ?_⟩
      · obtain ⟨_, _, fi⟩ := hh
        exact .inl (.inl (fi.tup hBB h7))
      · obtain ⟨c6', rfl, fi⟩ := hh
        obtain ⟨dx, hdx, rx⟩ := RpA.mem hA (List.mem_of_getElem? hx)
        obtain ⟨e1, e2⟩ := badsS_ok dx hdx
        have rx1 := fi.rp rx
        have hBi := fi.bag hBB
        have hTi := fi.tab hBB hTT
        refine hear_join (fun y H'' => FX Tt b H' H'' ∧ Rp (dlt H'' b) y (.tuple [.str "refused", .str "body"])) hTi (fun J1 x1 t1 Q' k => ?_) ?_
        · have hJ1 := ext_bag hBi x1
          exact ⟨_, rfl, x, dx, rfl, ext_rp x1 (rx1.same (dlt_same H' b)), e2, fun _ J2 a2 s2 h2 => .inr (.inl ⟨rfl, a2, _, rfl, h2, fun J3 p3 s3 h3 => k _ _ ⟨(FX.ext x1 t1).trans (.of (s2.trans s3)), rp_two (hJ1.same (s2.trans s3)) h3⟩⟩), fun ms z h1 h2 => (by
            subst z
            rw [areBytes_int, h2, intsOf_t, decide_eq_true h1] at e1
            cases e1)⟩
        rintro y J ⟨fj, ry⟩
        refine ⟨(by show 2 ≤ sizeLine; omega), fun p7 m7 => ?_⟩
        have g7 := same_upd (o := .tup [.str "refused", .str "body"]) m7
        exact ⟨y, .ref p7, .tuple [.str "refused", .str "body"], rfl, (ry.same (dlt_same J b)).same g7, .tup upd_same (.cons (.str _) (.one (.str _))), rfl, (by decide), fun J8 s8 => ⟨_, rfl, iteF ⟨_, rfl, fi.trans (fj.trans (.of (g7.trans s8)))⟩⟩⟩
      · obtain ⟨c6', rfl, fi⟩ := hh
        exact kN _ _ ⟨_, rfl, (FX.of sA).trans fi⟩
    rintro σ8 H8 ⟨c6', rfl, f8⟩
    exact q _ (f8.bag hB7) (f8.tab hB7 hT7)
end
end Net
namespace NetR
open PySem PySem.W PySem.Calls PyProof.Rows SrtO HT
section
variable {prog : Program} {w : World} {A : Around} {E : Value → Shared → Prop} {s : Shared}
theorem kind_es {v0 : Value} {vs : List Value} (hm : v0 ∈ vs) (h0 : ITup s.heap v0 []) (hp : ∀ v ∈ vs, ∃ ns, ITup s.heap v ns) : ∃ κ, (κ = oneType' ∨ κ = general') ∧ ∀ (Q : SortKind → Shared → Prop) (E : Value → Shared → Prop), Q κ s → wpAny (model prog w) A (keyKind' vs.toArray) Q E s := by
  have look : ∀ v ∈ vs, ∃ a its, v = .ref a ∧ IsTup s.heap a its := fun v hv => by
    obtain ⟨ns, a, its, e, ht, _⟩ := hp v hv
    exact ⟨a, _, e, ht⟩
  have ty : ∀ v ∈ vs, ∀ (Q' : Value → Shared → Prop) (E : Value → Shared → Prop), Q' (.type "tuple") s → wpAny (model prog w) A (typeOf v) Q' E s := fun v hv Q' E hq => by
    obtain ⟨a, its, rfl, ht⟩ := look v hv
    exact wpAny_typeOf ht.typeIs hq
  let g : Value → Option Value := fun v => match v with
    | .ref a => match s.heap.get? a with
      | some o => match o.data with
        | .seq xs _ => xs[0]?
        | _ => none
      | none => none
    | _ => none
  have g0 : g v0 = none := by
    obtain ⟨a, its, rfl, ⟨o, ho, hc, n, hd⟩, hi⟩ := h0
    show (match s.heap.get? a with
      | some o => match o.data with
        | .seq xs _ => xs[0]?
        | _ => none
      | none => none) = none
    simp only [ho, hd]
    cases hi
    simp_all
  have first : ∀ (Q : Array (Option Value) → Shared → Prop) (E : Value → Shared → Prop), Q (vs.map g).toArray s → wpAny (model prog w) A (vs.toArray.mapM firstOfTuple') Q E s := fun Q E h => by
    rw [List.mapM_toArray, map_eq_pure_bind]
    refine wpAny_bind (map_each (g := g) _ (fun v hv Q' hq => ?_) (wpAny_pure h))
    rw [kas_first_eq]
    refine wpAny_bind (ty v hv _ _ ?_)
    rw [if_neg (by decide)]
    obtain ⟨a, its, rfl, ⟨o, ho, hc, n, hd⟩⟩ := look v hv
    have hq' : Q' its[0]? s := by
      have e : g (.ref a) = its[0]? := by
        show (match s.heap.get? a with
          | some o => match o.data with
            | .seq xs _ => xs[0]?
            | _ => none
          | none => none) = its[0]?
        simp only [ho, hd]
      rw [← e]
      exact hq
    refine wpAny_bind (listItems_at ho hd ?_)
    exact wpAny_pure hq'
  have ea : ((vs.map g).toArray.all fun x => x.isSome) = false := by
    rw [List.all_toArray]
    exact List.all_eq_false.mpr ⟨none, List.mem_map.mpr ⟨v0, hm, g0⟩, Bool.false_ne_true⟩
  cases vs with
  | nil => cases hm
  | cons v1 r =>
  have e1 : ((v1 :: r).map g).toArray[0]? = some (g v1) := by
    rw [List.map_cons]
    simp
  cases c : g v1 with
  | some u =>
    refine ⟨general', .inr rfl, fun Q E h => ?_⟩
    rw [keyKind'_eq]
    refine wpAny_bind (first _ _ ?_)
    rw [if_neg (by rw [ea]; exact Bool.false_ne_true), if_pos (by rw [e1, c]; rfl)]
    exact wpAny_pure h
  | none =>
    refine ⟨oneType', .inl rfl, fun Q E h => ?_⟩
    rw [keyKind'_eq]
    refine wpAny_bind (first _ _ ?_)
    rw [if_neg (by rw [ea]; exact Bool.false_ne_true), if_neg (by rw [e1, c]; exact Bool.false_ne_true)]
    rw [oneTypeOnly'_eq, List.mapM_toArray, map_eq_pure_bind]
    refine wpAny_bind (wpAny_bind (wpAny_bind (kas_mapM (r := Value.type "tuple") _ (fun v hv Q' hq => ty v hv Q' _ hq) (wpAny_pure ?_))))
    have hall : ((List.map (fun _ => Value.type "tuple") (v1 :: r)).toArray.all fun x => x == Value.type "tuple") = true := by
      simp only [List.all_toArray, List.all_map, List.all_eq_true]
      intro _ _
      rfl
    have hz : (List.map (fun _ => Value.type "tuple") (v1 :: r)).toArray[0]? = some (Value.type "tuple") := by simp
    rw [hz]
    simp only [hall, if_true]
    exact wpAny_pure (wpAny_pure h)
theorem gen_lt {x y : Value} {ns ms : List Int} (hx : ITup s.heap x ns) (hy : ITup s.heap y ms) (hu : A.units < cLine) {Q : Bool → Shared → Prop} (h : Q (lexLt ns ms) s) : wpAny (model prog w) A (oneLt' false x y) Q E s := by
  obtain ⟨a, its, rfl, hl, hi⟩ := hx
  obtain ⟨b, its2, rfl, hb, hj⟩ := hy
  rw [oneLt'_eq]
  simp only [if_false, Bool.false_eq_true]
  refine wpAny_bind (show wpAny (model prog w) A (compareOp .Lt (.ref a) (.ref b)) _ _ s from lt_tupInts hl hb hi hj hu ?_)
  exact wpAny_truthy_bool h
theorem is_sortable {a : Addr} {v0 : Value} {vs : List Value} (hu : A.units < cLine) (hm : v0 ∈ vs) (h0 : ITup s.heap v0 []) (hp : ∀ v ∈ vs, ∃ ns, ITup s.heap v ns) (ha : ∀ o, s.heap.get? a = some o → o.cls ≠ .type "tuple") :
    SortableO prog w A s a vs fun v u => lexLt (intsH s.heap v) (intsH s.heap u) := by
  intro h' keep
  have kk : ∀ c o, s.heap.get? c = some o → o.cls = .type "tuple" → h'.get? c = some o := fun c o e z => keep c o (fun q => by subst q; exact ha o e z) e
  obtain ⟨κ, hκ, kq⟩ := kind_es (prog := prog) (w := w) (A := A) (s := { s with heap := h' }) hm (h0.keeps kk) (fun v hv => by
    obtain ⟨ns, x⟩ := hp v hv
    exact ⟨ns, x.keeps kk⟩)
  refine ⟨κ, kq, fun p q hm hm' => ?_⟩
  obtain ⟨ns, x⟩ := hp _ hm
  obtain ⟨ms, y⟩ := hp _ hm'
  show wpAny (model prog w) A (keyLt' κ p.1 q.1) (fun r s' => s' = { s with heap := h' } ∧ r = lexLt (intsH s.heap p.1) (intsH s.heap q.1)) (fun _ _ => False) { s with heap := h' }
  rcases hκ with rfl | rfl
  · rw [keyLt'_oneType]
    exact one_lt (s := { s with heap := h' }) (x.keeps kk) (y.keeps kk) hu ⟨rfl, by rw [x.get, y.get]⟩
  · show wpAny (model prog w) A (oneLt' false p.1 q.1) _ _ _
    exact gen_lt (s := { s with heap := h' }) (x.keeps kk) (y.keeps kk) hu ⟨rfl, by rw [x.get, y.get]⟩
end
end NetR
namespace NetR
open PySem PySem.Spec PyProof.Rows L2
section
variable {P : Program} {w : World} {A : Around} {E : Value → Shared → Prop} {s : Shared}
theorem itup_of {h : Heap} {k : List Int} {b : Addr} (x : IsT P w h k b) : ITup h (.ref b) k := by
  obtain ⟨o, items, n, ho, hc, hd, hi⟩ := x
  exact ⟨b, items.toList, rfl, ⟨o, ho, hc, n, by rw [hd]⟩, ints_of_items hi⟩
theorem sorted_setL {a : Addr} {L : List (Addr × List Int)} {es : Array (Int × Value)} {ep : Nat} {t : SetTable} {Q : Value → Shared → Prop} (R : SetTR P w s.heap a L es ep t) (hh : A.handled = none) (hu : A.units + 64 < cLine)
    (hE : ∃ q ∈ L, q.2 = [])
    (hQ : ∀ s' p (out : Array Value) (c : Nat) (L' : List (Addr × List Int)), (∀ b o, s.heap.get? b = some o → s'.heap.get? b = some o) → s'.gens = s.gens → s'.os = s.os → s.heap.objs.size ≤ p →
      s'.heap.get? p = some (seqObj "list" out c) → out.toList = L'.map (fun q => Value.ref q.1) → L'.Perm L → (L'.map (·.2)).Pairwise (fun x y => HT.lexLt y x = false) → Q (.ref p) s') :
    wpAny (model P w) A (call (.builtin "sorted") [.ref a]) Q E s := by
  obtain ⟨o, ho, hex, hd⟩ := R.ob
  have hsz := R.size
  have hfew := R.few
  refine Calls.call_function_entry kind_sorted plain_sorted entry_sorted (args_sorted1 _) ?_
  unfold Builtin.«sorted»
  refine wpAny_bind (m := checkCount "sorted" 1 1 _) (wpAny_pure ?_)
  refine wpAny_bind (collect_set (A := A.in1) hh ⟨o, ho, hex.1, hd⟩ R.fits (by unfold scanBound; omega) R.tab.ris R.led fun s1 vs k1 hz g1 o1 pm => ?_)
  have hes : es.toList.map (·.2) = L.map fun q => Value.ref q.1 := by
    rw [R.rows]
    unfold rowsOf
    rw [List.map_map] <;> rfl
  rw [hes] at pm
  have ord : ∀ vs : List Value, (∀ v ∈ vs, ∃ q ∈ L, v = Value.ref q.1) → ∃ L1 : List (Addr × List Int), vs = L1.map (fun q => Value.ref q.1) ∧ ∀ q ∈ L1, q ∈ L := by
    intro vs
    induction vs with
    | nil => intro _; exact ⟨[], rfl, fun q hq => (by cases hq)⟩
    | cons v vs ih =>
      intro hv
      obtain ⟨q, hq, e⟩ := hv v List.mem_cons_self
      obtain ⟨L1, e1, hs⟩ := ih fun u hu => hv u (List.mem_cons_of_mem _ hu)
      refine ⟨q :: L1, by rw [List.map_cons, e, e1], fun r hr => ?_⟩
      rcases List.mem_cons.mp hr with z | z
      · rw [z]; exact hq
      · exact hs r z
  have one : ∀ q ∈ L, ∀ r ∈ L, q.1 = r.1 → q = r := fun q hq r hr e => by
    have a1 := R.tup q hq
    have a2 := R.tup r hr
    rw [e] at a1
    have e2 : q.2 = r.2 := a1.inj a2
    exact Prod.ext e e2
  have perm_of : ∀ L1 : List (Addr × List Int), (∀ q ∈ L1, q ∈ L) → (L1.map (fun q => Value.ref q.1)).Perm (L.map fun q => Value.ref q.1) → L1.Perm L := by
    intro L1 hs pm1
    have nL : L.Nodup := nodup_of_map R.nd
    have nref : (L.map fun q => Value.ref q.1).Nodup := by
      refine List.pairwise_map.mpr (List.Pairwise.imp_of_mem (fun {q r} hq hr hne e => ?_) nL)
      injection e with e
      exact hne (one q hq r hr e)
    have n1 : L1.Nodup := nodup_of_map (pm1.nodup_iff.mpr nref)
    refine (List.perm_ext_iff_of_nodup n1 nL).mpr fun q => ⟨hs q, fun hq => ?_⟩
    have hm : Value.ref q.1 ∈ L1.map (fun q => Value.ref q.1) := pm1.mem_iff.mpr (List.mem_map.mpr ⟨q, hq, rfl⟩)
    obtain ⟨r, hr, e⟩ := List.mem_map.mp hm
    injection e with e
    rw [← one r (hs r hr) q hq e]
    exact hr
  have hvl : vs.length < 64 := by rw [pm.length_eq, List.length_map]; exact hfew
  have hvz : vs.length ≤ sizeLine := by rw [sizeLine_eq]; omega
  refine wpAny_bind (wpAny_newList ?_ hvz)
  have hoL : (s1.heap.push (seqObj "list" vs.toArray 0)).get? s1.heap.objs.size = some (seqObj "list" vs.toArray 0) := Heap.get?_push_size _ rfl
  have tk : ∀ q ∈ L, ITup (s1.heap.push (seqObj "list" vs.toArray 0)) (.ref q.1) q.2 := fun q hq => itup_of (P := P) (w := w) (isT_keep (R.tup q hq) fun b u e => Heap.get?_push_of_some _ (k1 b u e))
  have vt : ∀ v ∈ vs, ∃ ns, ITup (s1.heap.push (seqObj "list" vs.toArray 0)) v ns := fun v hv => by
    obtain ⟨q, hq, e⟩ := List.mem_map.mp (pm.mem_iff.mp hv)
    rw [← e]
    exact ⟨q.2, tk q hq⟩
  obtain ⟨q0, hq0, eq0⟩ := hE
  have m0 : Value.ref q0.1 ∈ vs := pm.mem_iff.mpr (List.mem_map.mpr ⟨q0, hq0, rfl⟩)
  have t0 := tk q0 hq0
  rw [eq0] at t0
  refine wpAny_bind (wpAny_holding (wpAny_call_entry (s := { s1 with heap := s1.heap.push (seqObj "list" vs.toArray 0) }) slot_list_sort ⟨_, hoL, rfl⟩ entry_list_sort (SrtO.list_sort_ord (swo_lx (intsH (s1.heap.push (seqObj "list" vs.toArray 0)))) hoL hvz (fun _ => is_sortable (s := { s1 with heap := s1.heap.push (seqObj "list" vs.toArray 0) }) (by show A.units + 1 + 1 < cLine; omega) m0 t0 vt (fun o e c => ?_)) fun out hs hb => ⟨_, rfl, ?_⟩) (args_list_sort _)))
  · have e2 : some o = some (seqObj "list" vs.toArray 0) := e.symm.trans hoL
    cases e2
    exact absurd (Value.type.inj c) (by decide)
  obtain ⟨c, hc⟩ := sortedHeap_at (vs := vs) (out := out.toArray) hoL
  obtain ⟨L', e', hs'⟩ := ord out fun v hv => by
    obtain ⟨q, hq, e⟩ := List.mem_map.mp (pm.mem_iff.mp (hb.perm.mem_iff.mp hv))
    exact ⟨q, hq, e.symm⟩
  have pL : L'.Perm L := perm_of L' hs' (by rw [← e']; exact hb.perm.trans pm)
  have pw : (L'.map (·.2)).Pairwise (fun x y => HT.lexLt y x = false) := by
    have o1' : List.Pairwise (fun x y => HT.lexLt (intsH (s1.heap.push (seqObj "list" vs.toArray 0)) y) (intsH (s1.heap.push (seqObj "list" vs.toArray 0)) x) = false) out := hs
    rw [e', List.pairwise_map] at o1'
    rw [List.pairwise_map]
    refine List.Pairwise.imp_of_mem (fun {x y} hx hy h => ?_) o1'
    rw [(tk x (hs' x hx)).get, (tk y (hs' y hy)).get] at h
    exact h
  refine wpAny_pure ⟨_, rfl, hQ _ s1.heap.objs.size out.toArray c L' (fun b u e => ?_) g1 o1 hz hc (by simpa using e') pL pw⟩
  have q := k1 b u e
  have hlt := Heap.lt_size q
  show (sortedHeap (s1.heap.push (seqObj "list" vs.toArray 0)) s1.heap.objs.size vs out.toArray).get? b = some u
  rw [sortedHeap_old (Nat.ne_of_lt hlt) (by rw [size_push']; exact Nat.lt_succ_of_lt hlt)]
  exact Heap.get?_push_of_some _ q
end
section
variable {X : Cx}
def rSortedSL (K : PySem.W.Frag) (P : Program) (w : World) : List V → Hp → VK → Prop := fun vs H Q => ∃ (a : Addr) (L : List (Addr × List Int)), vs = [V.ref a] ∧ H a = some (SetTO P w a L) ∧ (∀ p ∈ L, H p.1 = some (.tup (p.2.map V.int))) ∧ (∃ q ∈ L, q.2 = []) ∧
  ∀ (L' : List (Addr × List Int)) (p : Addr), L'.Perm L → (L'.map (·.2)).Nodup → L'.length < 64 → (L'.map (·.2)).Pairwise (fun x y => HT.lexLt y x = false) → H p = none → Q (.ref p) (upd H p (.lst (L'.map fun q => V.ref q.1)))
theorem cr_sortedSL (hc : X.calm = true) (hu : X.A.units + 64 < cLine) : CallR X (.builtin "sorted") (rSortedSL X.K X.prog X.w) := by
  intro pins s σ H vs us Q I r h
  obtain ⟨a, L, rfl, ha, hk, hE, q⟩ := h
  have R0 : SetT0 X.prog X.w s.heap a L := (I.hok a _ ha).1
  obtain ⟨es, ep, t, R⟩ := R0.full fun p hp => I.isT (SqT.of (hk p hp))
  rw [Vals.ref1 r]
  refine sorted_setL R (I.ok.hd hc) hu hE fun s' p out c L' k g o hp hg hout pm pw => ?_
  have hfew : L'.length < 64 := by rw [pm.length_eq]; exact R.few
  have hlen : (L'.map fun q => V.ref q.1).length ≤ sizeLine := by rw [List.length_map, sizeLine_eq]; omega
  have hn : H p = none := I.hok.fresh hp
  have hv : Vals (L'.map fun q => V.ref q.1) out.toList := by rw [hout]; exact vals_of_refs L'
  have J : Inv X pins σ (upd H p (.lst (L'.map fun q => V.ref q.1))) { s with heap := s'.heap, gens := s'.gens, drawn := s'.drawn, toks := s'.toks } :=
    I.call (ch := []) (Un.laid k hp hn) (I.hok.laid k hp ⟨hlen, out.toList, c, hv, hg⟩) (by rw [g]; exact I.bare) (fun _ z => nomatch z)
  have e : s' = { s with heap := s'.heap, gens := s'.gens, drawn := s'.drawn, toks := s'.toks } := by
    cases s'
    cases s
    cases o
    rfl
  rw [e]
  exact ⟨.ref p, _, J, rfl, q L' p pm ((pm.map (·.2)).nodup_iff.mpr R.nd) hfew pw hn⟩
end
end NetR
namespace Net
open PySem PySem.Spec PyProof.Rows L2 NetR LamX
theorem JH.puts {Tt : List (Addr × Str)} {C : Addr} {H : Hp} {b kd pl : Addr} {D : Dsk} {kes more : List Ent} {lp : List Pnd} (j : JH Tt C H b kd pl D kes lp) (h2 : ∀ x ∈ more, H x.2.1 = some (.tup (x.2.2.map V.int))) : JH Tt C (upd H kd (.dK ((mrgE kes more).map entD))) b kd pl D (mrgE kes more) lp := by
  have hl := j.kp.1
  have bl : kd ≠ b := dlt_some hl
  generalize hH' : upd H kd (.dK ((mrgE kes more).map entD)) = H'
  have k : ∀ x o, x ≠ kd → H x = some o → H' x = some o := fun y o n e => by rw [← hH', upd_ne n]; exact e
  have hl' : H' kd = some (.dK ((mrgE kes more).map entD)) := by rw [← hH']; exact upd_same
  have kt : ∀ x o, dlt H b x = some o → x ≠ kd → dlt H' b x = some o := fun x o e n => dlt_at (k x o n (dlt_same _ b _ _ e)) (dlt_some e)
  have tt : ∀ x l, dlt H b x = some (.tup l) → dlt H' b x = some (.tup l) := fun x l e => kt x _ e (ne_kind e hl (fun z => by cases z))
  have hB' : BagI (rst H' (own5 D.p D.k D.l kd pl)) b := j.bag.same fun x o e => rst_at (k x o (own5_not.mp (rst_in e).1).2.2.2.1 (rst_in e).2) (rst_in e).1
  have bt : ∀ {x l}, H x = some (.tup l) → dlt H b x = some (.tup l) := fun {x l} e => dlt_at e (bag_ne j.b e)
  refine ⟨⟨kt _ _ j.dk.ins (ne_kind j.dk.ins hl (fun z => by cases z)), ⟨kt _ _ j.dk.kept.1 (Ne.symm j.ne2), fun e he => tt _ _ (j.dk.kept.2 e he)⟩, kt _ _ j.dk.pend (ne_kind j.dk.pend hl (fun z => by cases z)), fun z hz => ⟨tt _ _ (j.dk.prs z hz).1, tt _ _ (j.dk.prs z hz).2⟩, j.dk.se, j.dk.sp, j.dk.nd⟩,
    ⟨dlt_at hl' bl, fun e he => ?_⟩, kt _ _ j.pe (ne_kind j.pe hl (fun z => by cases z)), fun z hz => ⟨tt _ _ (j.prs z hz).1, tt _ _ (j.prs z hz).2⟩, j.ne1, j.ne2, hB', tabs_keep j.tab fun x o e _ n2 _ => k x o (ne_kind e (dlt_same _ b _ _ hl) fun z => n2 _ z) e⟩
  rcases mrgE_mem _ _ _ he with h | h
  · exact tt _ _ (j.kp.2 e h)
  · exact tt _ _ (bt (h2 e h))
theorem paired_app {α β : Type} {F : α → β → Prop} : ∀ {xs xs' : List α} {ys ys' : List β}, Paired F xs ys → Paired F xs' ys' → Paired F (xs ++ xs') (ys ++ ys')
  | [], _, _, _, .nil, h => h
  | _ :: _, _, _, _, .cons r t, h => .cons r (paired_app t h)
theorem pair_pnd {K : PySem.W.Frag} {H : Hp} : ∀ {lp : List Pnd}, (∀ z ∈ lp, H z.1 = some (.tup [.int z.2.1, .ref z.2.2.1])) → Paired (fun (p : Addr) (kv : Key × V) => SqT K H p [kV kv.1, kv.2]) (lp.map (·.1)) ((pnE lp).map entD)
  | [], _ => .nil
  | z :: lp, h => .cons (.inl (.inl (h z List.mem_cons_self))) (pair_pnd fun y hy => h y (List.mem_cons_of_mem _ hy))
theorem pair_same {K : PySem.W.Frag} {H H' : Hp} (s : Same H H') : ∀ {ts : List Addr} {kvs : List (Key × V)}, Paired (fun (t : Addr) (q : Key × V) => H t = some (.tup [kV q.1, q.2])) ts kvs → Paired (fun (p : Addr) (kv : Key × V) => SqT K H' p [kV kv.1, kv.2]) ts kvs
  | _, _, .nil => .nil
  | _, _, .cons r t => .cons (.inl (.inl (s _ _ r))) (pair_same s t)
theorem refs_fst (lp : List Pnd) : (lp.map (·.1)).map V.ref = lp.map fun z => V.ref z.1 := by
  rw [List.map_map]
  rfl
theorem mrgE_K0 (more : List Ent) : mergeK [] (more.map entD) = (mrgE [] more).map entD := mrgE_K more []
theorem dg_put (M : List Pg) (x : Pg) (n : Int) : dgC (putC M x) n = if x.1 = n then some x.2 else dgC M n := by
  unfold putC
  by_cases c : (M.any fun e => decide (e.1 = x.1)) = true
  · rw [if_pos c]
    induction M with
    | nil => cases c
    | cons e M ih =>
      rw [List.map_cons]
      unfold dgC at ih ⊢
      by_cases c1 : e.1 = x.1
      · rw [if_pos c1]
        by_cases c2 : x.1 = n
        · rw [if_pos c2, List.find?_cons_of_pos (by simpa using c2)]
          rfl
        · rw [if_neg c2, List.find?_cons_of_neg (by simpa using c2), List.find?_cons_of_neg (by rw [c1]; simpa using c2)]
          by_cases c3 : (M.any fun e => decide (e.1 = x.1)) = true
          · have := ih c3
            rw [if_neg c2] at this
            exact this
          · have e0 : M.map (fun e => if e.1 = x.1 then x else e) = M := by
              have : ∀ y ∈ M, (if y.1 = x.1 then x else y) = y := fun y hy => if_neg fun z => c3 (List.any_eq_true.mpr ⟨y, hy, decide_eq_true z⟩)
              exact (List.map_congr_left this).trans (List.map_id _)
            rw [e0]
      · rw [if_neg c1]
        rw [List.any_cons, decide_eq_false c1, Bool.false_or] at c
        have := ih c
        by_cases c2 : e.1 = n
        · rw [List.find?_cons_of_pos (by simpa using c2), List.find?_cons_of_pos (by simpa using c2), if_neg (fun z => c1 (by rw [c2, z]))]
        · rw [List.find?_cons_of_neg (by simpa using c2), List.find?_cons_of_neg (by simpa using c2)]
          exact this
  · rw [if_neg c]
    unfold dgC
    rw [List.find?_append]
    by_cases c2 : x.1 = n
    · rw [if_pos c2]
      have e0 : M.find? (fun e => decide (e.1 = n)) = none := by
        rw [List.find?_eq_none]
        intro y hy z
        exact c (List.any_eq_true.mpr ⟨y, hy, decide_eq_true ((of_decide_eq_true z).trans c2.symm)⟩)
      rw [e0, List.find?_cons_of_pos (by simpa using c2)]
      rfl
    · rw [if_neg c2, List.find?_cons_of_neg (by simpa using c2)]
      simp
theorem dg_mrg : ∀ (N M : List Pg) (n : Int), dgC (mrgC M N) n = rdC M N n
  | [], _, _ => rfl
  | x :: N, M, n => by
    show dgC (mrgC (putC M x) N) n = _
    rw [dg_mrg N (putC M x) n]
    unfold rdC
    by_cases c : x.1 = n
    · rw [List.filter_cons_of_pos (by simpa using c)]
      cases h : (N.filter fun z => decide (z.1 = n)).getLast? with
      | none =>
        rw [List.getLast?_eq_none_iff.mp h, dg_put, if_pos c]
        rfl
      | some z =>
        rw [List.getLast?_cons, h]
        rfl
    · rw [List.filter_cons_of_neg (by simpa using c)]
      cases h : (N.filter fun z => decide (z.1 = n)).getLast? with
      | none =>
        show dgC (putC M x) n = dgC M n
        rw [dg_put, if_neg c]
      | some z => rfl
theorem mrgC_app (M N1 N2 : List Pg) : mrgC M (N1 ++ N2) = mrgC (mrgC M N1) N2 := List.foldl_append
theorem esC_both {kes more : List Ent} (hn : ((esC kes).map (·.1)).Nodup) : esC (mrgE [] (kes ++ more)) = mrgC (esC kes) (esC more) := by
  rw [esC_mrg]
  have e : esC (kes ++ more) = esC kes ++ esC more := List.map_append
  rw [e]
  show mrgC [] (esC kes ++ esC more) = _
  rw [mrgC_app, mrgC_nil (esC kes) [] hn, List.nil_append]
theorem putC_nodup {M : List Pg} {x : Pg} (h : (M.map (·.1)).Nodup) : ((putC M x).map (·.1)).Nodup := by
  have := putE_nodup (es := M.map fun e => (e.1, (0 : Addr), e.2)) (x := (x.1, (0 : Addr), x.2)) (by rw [List.map_map]; exact h)
  rw [← keys_es, esC_put] at this
  have e : esC (M.map fun e => (e.1, (0 : Addr), e.2)) = M := by
    unfold esC
    rw [List.map_map]
    exact List.map_id _
  rw [e] at this
  exact this
theorem mrgC_nodup : ∀ (N : List Pg) {M : List Pg}, (M.map (·.1)).Nodup → ((mrgC M N).map (·.1)).Nodup
  | [], _, h => h
  | x :: N, M, h => mrgC_nodup N (M := putC M x) (putC_nodup h)
theorem mrgC_mem : ∀ (N : List Pg) {M : List Pg} {x : Pg}, x ∈ mrgC M N → x ∈ M ++ N
  | [], M, x, h => by rw [List.append_nil]; exact h
  | y :: N, M, x, h => by
    have h := mrgC_mem N (M := putC M y) h
    rcases List.mem_append.mp h with h | h
    · unfold putC at h
      split at h
      · obtain ⟨e, he, e1⟩ := List.mem_map.mp h
        split at e1
        · rw [← e1]
          simp
        · rw [← e1]
          exact List.mem_append_left _ he
      · rcases List.mem_append.mp h with h | h
        · exact List.mem_append_left _ h
        · rw [List.mem_singleton.mp h]
          simp
    · exact List.mem_append_right _ (List.mem_cons_of_mem _ h)
theorem lots_nodup : ∀ n, n ≤ 4 → (lotsOf n).Nodup ∧ (lotsOf n).length = [1, 2, 4, 8, 16].getD n 0 := by decide +kernel
theorem lots_nil : ∀ n, ([] : List Int) ∈ lotsOf n
  | 0 => List.mem_singleton.mpr rfl
  | n + 1 => List.mem_append_left _ (lots_nil n)
theorem lots_sorted {n : Nat} {LL L' : List (List Int)} (hn : n ≤ 4) (p : LL.Perm (lotsOf n)) (s : LL.Pairwise fun x y => HT.lexLt y x = false) (n' : L'.Nodup) (m : ∀ l, l ∈ L' ↔ l ∈ LL) (s' : L'.Pairwise fun x y => HT.lexLt y x = false) : L' = LL :=
  uniq_srt (le := fun x y => HT.lexLt y x = false) (fun x y h1 h2 => lex_anti x y h1 h2) s' s ((List.perm_ext_iff_of_nodup n' (p.nodup_iff.mpr (lots_nodup n hn).1)).mpr m)
theorem lay_lots : ∀ LL : List (List Int), PyData.canLayAll0 (LL.map fun l => PyData.tuple (l.map PyData.int)) = true ∧ PyData.depthAll (LL.map fun l => PyData.tuple (l.map PyData.int)) ≤ 1
  | [] => ⟨rfl, Nat.zero_le _⟩
  | l :: LL => by
    have h := lay_lots LL
    have h1 := lay_ints l
    refine ⟨?_, ?_⟩
    · show (PyData.canLayAll0 (l.map PyData.int) && PyData.canLayAll0 (LL.map fun l => PyData.tuple (l.map PyData.int))) = true
      rw [h.1, h1.1]
      rfl
    · show max (PyData.depthAll (l.map PyData.int) + 1) (PyData.depthAll (LL.map fun l => PyData.tuple (l.map PyData.int))) ≤ 1
      rw [h1.2]
      have := h.2
      omega
theorem shp_lots (LL : List (List Int)) : SeqAt.shaped (.list (LL.map fun l => PyData.tuple (l.map PyData.int))) = true ∧ PyData.eqv (.list (LL.map fun l => PyData.tuple (l.map PyData.int))) (.list (LL.map fun l => PyData.tuple (l.map PyData.int))) = true := by
  have h := lay_lots LL
  refine ⟨?_, SeqAt.eqv_refl _ h.1⟩
  show (PyData.canLayAll0 (LL.map fun l => PyData.tuple (l.map PyData.int)) && decide (PyData.depthAll (LL.map fun l => PyData.tuple (l.map PyData.int)) + 1 ≤ 64)) = true
  rw [h.1, Bool.true_and]
  exact decide_eq_true (by have := h.2; omega)
theorem dp_lots {K : PySem.W.Frag} {H : Hp} : ∀ {L : List (Addr × List Int)}, (∀ z ∈ L, H z.1 = some (.tup (z.2.map V.int))) → DpAll K H (L.map fun z => V.ref z.1) ((L.map (·.2)).map fun l => PyData.tuple (l.map PyData.int))
  | [], _ => .nil
  | z :: L, h => .cons (.tup (.inl (.inl (h z List.mem_cons_self))) (dp_ints _)) (dp_lots fun y hy => h y (List.mem_cons_of_mem _ hy))
theorem picks_in {lp : List Pnd} {ns : List Int} {z : Pnd} (h : z ∈ picks lp ns) : z ∈ lp := by
  unfold picks at h
  obtain ⟨n, _, e⟩ := List.mem_filterMap.mp h
  exact List.mem_of_getElem? e
end Net
namespace Net
open PySem PySem.Spec PyProof.Rows L2 NetR LamX
theorem ifs_join {tt : TT} {ta tb : TS} {D : Ends} {σ : L2.St} {H : Hp} (R : Bool → Hp → Prop) (h : ∀ Q' : Bool → Hp → Prop, (∀ c H', R c H' → Q' c H') → tt σ H Q') (k : ∀ c H', R c H' → if c = true then ta D σ H' else tb D σ H') : tIfS tt ta tb D σ H := h _ k
theorem val_join {te : TE} {σ : L2.St} {H : Hp} {Q : VK} (R : V → Hp → Prop) (h : ∀ Q' : VK, (∀ x H', R x H' → Q' x H') → te σ H Q') (k : ∀ x H', R x H' → Q x H') : te σ H Q := h _ k
end Net
namespace Net
open PySem PySem.Spec PyProof.Rows L2 NetR LamX
theorem entD_app (kes more : List Ent) : kes.map entD ++ more.map entD = (kes ++ more).map entD := List.map_append.symm
theorem both_dict {H G : Hp} {b ld : Addr} {kes more : List Ent} (hb : ld ≠ b) (s : Same H G) (hld : G ld = some (.dK ((mrgE [] (kes ++ more)).map entD))) (h1 : ∀ e ∈ kes, dlt H b e.2.1 = some (.tup (e.2.2.map V.int))) (h2 : ∀ e ∈ more, dlt H b e.2.1 = some (.tup (e.2.2.map V.int))) : DictI (dlt G b) ld (mrgE [] (kes ++ more)) := by
  refine ⟨dlt_at hld hb, fun e he => ?_⟩
  rcases mrgE_mem _ _ _ he with h | h
  · cases h
  rcases List.mem_append.mp h with h | h
  · exact dlt_mono s _ _ (h1 e h)
  · exact dlt_mono s _ _ (h2 e h)
theorem pnE_mem {lp : List Pnd} {e : Ent} (h : e ∈ pnE lp) : ∃ z ∈ lp, z.2 = e := by
  unfold pnE at h
  exact List.mem_map.mp h
theorem dlt_tup {H : Hp} {b p : Addr} {xs : List V} (hB : BagI H b) (h : H p = some (.tup xs)) : dlt H b p = some (.tup xs) := dlt_at h (bag_ne hB h)
end Net
namespace Net
open PySem PySem.Spec PyProof.Rows L2 NetR LamX
def tdD : Option (List Int) → PyData
  | some ns => .tuple [.str "told", .tuple (ns.map .int)]
  | none => .tuple [.str "nothing"]
theorem nodic_td (o : Option (List Int)) : nodic (tdD o) = true := by
  cases o with
  | none => rfl
  | some ns =>
    show (true && (nodics (ns.map PyData.int) && true)) = true
    rw [nodics_ints]
    rfl
end Net
namespace Net
open PySem PySem.Spec PyProof.Rows L2 NetR LamX
theorem ite_join {c : Bool} {ta tb : TE} {σ : L2.St} {H : Hp} {Q : VK} (R : V → Hp → Prop) (hA : c = true → ∀ Q' : VK, (∀ x H', R x H' → Q' x H') → ta σ H Q') (hB : c = false → ∀ Q' : VK, (∀ x H', R x H' → Q' x H') → tb σ H Q') (k : ∀ x H', R x H' → Q x H') : if c = true then ta σ H Q else tb σ H Q := by
  cases c with
  | true => exact hA rfl Q k
  | false => exact hB rfl Q k
end Net
namespace Net
open PySem PySem.Spec PyProof.Rows L2 NetR LamX
theorem FX.but {Tt : List (Addr × Str)} {b l : Addr} {H H1 H' : Hp} {xs : List V} (f : FX Tt b H H1) (hl : H l = none) (h1 : H1 l = some (.lst xs)) (k : ∀ x o, x ≠ l → H1 x = some o → H' x = some o) : FX Tt b H H' := by
  refine ⟨fun y o e n => ?_, fun S hS => ?_, fun hB hT => ?_⟩
  · have hy : y ≠ l := ne_of_none (dlt_same H b _ _ e) hl
    have h2 := f.x y o e n
    exact dlt_at (k _ _ hy (dlt_same H1 b _ _ h2)) (dlt_some e)
  · have h2 : BagI (rst H fun x => decide (x = l) || S x) b := by
      refine hS.same fun x o e => ?_
      obtain ⟨e1, e2⟩ := rst_in e
      exact rst_at e2 (by rw [e1, decide_eq_false (ne_of_none e2 hl)]; rfl)
    refine (f.c _ h2).same fun x o e => ?_
    obtain ⟨e1, e2⟩ := rst_in e
    rw [Bool.or_eq_false_iff, decide_eq_false_iff_not] at e1
    exact rst_at (k _ _ e1.1 e2) e1.2
  · intro p hp
    obtain ⟨ps, g1, g2, g3⟩ := f.tab hB hT p hp
    have ne : ∀ {x : Addr} {o : HO}, H1 x = some o → (∀ l, o ≠ .lst l) → x ≠ l := fun {x o} e n z => by
      rw [z, h1] at e
      exact n _ (Option.some.inj e).symm
    refine ⟨ps, k _ _ (ne g1 fun l z => by cases z) g1, g2, fun pos cv hc => ?_⟩
    obtain ⟨c, e1, e2⟩ := g3 pos cv hc
    exact ⟨c, e1, k _ _ (ne e2 fun l z => by unfold CodeO at z; cases z) e2⟩
def badsL (n : Nat) : List PyData := [.tuple [.int (n : Nat)], .tuple [.int (-1)], .none, .list [.int 0], .tuple [.int 0, .int 0], .tuple [.str "0"], .tuple [.bool true]]
theorem badsL_ok : ∀ n, n ≤ 4 → ∀ d ∈ badsL n, lotOk d n = false ∧ dsz d ≤ 300 := by decide +kernel
end Net
namespace Net
open PySem PySem.Spec PyProof.Rows L2 NetR LamX
def gPg (x : Pg) : Prop := within (.int x.1) 0 65535 = true ∧ pfD (.tuple (x.2.map PyData.int)) = none
def s21 (a b : Addr) (c2 : Option V) (p kd pl : Addr) (c6 c7 c8 c9 c10 c11 c12 c13 c14 c15 c16 c17 c18 : Option V) : L2.St := [some (.ref a), some (.ref b), c2, some (.ref p), some (.ref kd), some (.ref pl), c6, c7, c8, c9, c10, c11, c12, c13, c14, c15, c16, c17, c18, none, none]
def LpI (Tt : List (Addr × Str)) (C a b : Addr) (i : Nat) (σ : L2.St) (H : Hp) : Prop := ∃ (kd pl : Addr) (D : Dsk) (kes : List Ent) (lp : List Pnd) (c2 c6 c7 c8 c9 c10 c11 c12 c13 c14 c15 c16 c17 c18 : Option V),
  σ = s21 a b c2 D.p kd pl c6 c7 c8 c9 c10 c11 c12 c13 c14 c15 c16 c17 c18 ∧ JH Tt C H b kd pl D kes lp ∧ esC kes = esC D.es ∧ pnC lp = pnC D.pn ∧ lp.length ≤ 4 ∧ kes.length ≤ 4 * i ∧ ∀ x ∈ esC kes ++ pnC lp, gPg x
def qLW : Str := "law.<locals>.<lambda>"
def sp_thelaw (K : PySem.W.Frag) (Tt : List (Addr × Str)) : Sp := fun vs H Q E => ∃ (a : Addr) (ns : List Int), vs = [.ref a] ∧ SqL K H a (ns.map V.int) ∧ Tabs Tt H ∧ ∀ H', Q (.bl true) H'
section
variable {P : Program} {w : World} {K : PySem.W.Frag} {mg : Str → Option Value} {base : Heap} {CR CB CN CDisk fI : Addr}
abbrev s_law : Stmt := top 54
theorem sc_law : FnScope ["script", "bag", "turn", "disk", "kept", "pending", "number", "page", "latest", "found", "lots", "lot", "there", "cut", "twin", "equal", "bad", "some", "word", "again", "at"] ["script"] (defScope s_law) := ⟨rfl, rfl, rfl, by decide +kernel, rfl, by decide +kernel, by decide +kernel⟩
theorem ok_thelaw {f c Pt fa f__law_bag f__law_packs_right f__law_pages_right f__law_take f__law_some f__law_alike f_sealed f_disk_of f_all_lots g1 g2 g3 g4 g5 g6 g7 g8 : Addr} {fd fdA e0 e1 e2 e3 e4 e5 e6 e7 e8 e9 e10 e11 e12 e13 e14 e15 e16 e17 : FuncData} {Tt : List (Addr × Str)} (F : FunC K "law" "law" s_law f fd c) (T : Tx mg)
    (FA : Fun K "_law_heard" "_law_heard" s__law_heard fa fdA) (gA : mg "_law_heard" = some (.ref fa)) (bA : Binds K fdA ["act"] []) (TX : TAx K mg CN CR CB) (TB : TabB base mg c Pt) (hmT : (Pt, qLW) ∈ Tt) (hu : ∀ p ∈ Tt, p.1 = Pt → p.2 = qLW)
    (TDisk : TDk K mg CDisk fI) (hds : PySem.W.subIn K (.type "dict") (.ref CDisk) = some false) (hdi : PySem.W.subIn K (.type "int") (.ref CDisk) = some false) (hdn : PySem.W.findIn K (.ref CDisk) "__ne__" = some (some (.builtin "object.__ne__"))) (hdm : PySem.W.mroIn K CDisk (.type "object") = some true)
    (d__law_bag : Ok1 P w K mg base CX0 1 "_law_bag" ["script"] (sp_lbag K) f__law_bag e1) (d__law_packs_right : Ok1 P w K mg base CX0 12 "_law_packs_right" ["bag"] (sp_right Tt) f__law_packs_right e2)
    (d__law_pages_right : Ok1 P w K mg base CX0 12 "_law_pages_right" ["bag"] (sp_right Tt) f__law_pages_right e3)
    (d__law_take : Ok1 P w K mg base CX0 1 "_law_take" ["bag", "many"] sp_take f__law_take e4) (d__law_some : Ok1 P w K mg base CX0 2 "_law_some" ["bag", "things"] sp_some f__law_some e15)
    (d__law_alike : Ok1 P w K mg base CX0 1 "_law_alike" ["found", "due"] sp_alike f__law_alike e16) (d_sealed : Ok1 P w K mg base (L2.CX P w) 5 "sealed" ["body"] (sp_sealed CR) f_sealed e17)
    (d_Disk___init__ : OkM P w K mg base CX0 1 CDisk "__init__" ["self"] (sp_dkinit CDisk) fI e0)
    (d_Disk_copied : OkM P w K mg base CX0 3 CDisk "copied" ["self"] (sp_copied CDisk) g1 e5)
    (d_Disk_write : OkM P w K mg base (L2.CX P w) 7 CDisk "write" ["self", "number", "page"] (sp_write CDisk CR) g2 e6)
    (d_Disk_flush : OkM P w K mg base CX0 1 CDisk "flush" ["self"] (sp_flush CDisk) g3 e7)
    (d_Disk_read : OkM P w K mg base (L2.CX P w) 3 CDisk "read" ["self", "number"] (sp_read CDisk CN) g4 e8)
    (d_Disk_kept : OkM P w K mg base CX0 1 CDisk "kept" ["self"] (sp_kept CDisk) g5 e9)
    (d_Disk_pending : OkM P w K mg base CX0 1 CDisk "pending" ["self"] (sp_pending CDisk) g6 e10)
    (d_Disk_cut : OkM P w K mg base (L2.CX P w) 4 CDisk "cut" ["self", "lot"] (sp_cut CDisk CR) g7 e11)
    (d_Disk___eq__ : OkM P w K mg base CX0 1 CDisk "__eq__" ["self", "other"] (sp_dkeq CDisk) g8 e12)
    (d_disk_of : Ok1 P w K mg base (L2.CX P w) 8 "disk_of" ["pages"] (sp_disk_of CDisk) f_disk_of e13)
    (d_all_lots : Ok1 P w K mg base CX0 1 "all_lots" ["many"] sp_all_lots f_all_lots e14) : FnOk P w K mg base CX0 13 f fd ["script"] (sp_thelaw K Tt) := by
  refine F.ok sc_law (fun vs H Q E h => ?_) (fun A outer s H vs Q E hr h => ?_)
  · obtain ⟨a, ns, rfl, _⟩ := h
    rfl
  · obtain ⟨a, ns, rfl, hS, hT, q⟩ := h
    refine ⟨_, (pss_cons (ps_set (i := 1) sc_law.nd rfl (Or.inr rfl) (pe_call d__law_bag.ok (hr.mono (by decide)) rfl d__law_bag.g d__law_bag.kp d__law_bag.b .nil pass0 (pa_cons (pv 0) pa_nil)))
      (pss_cons (ps_for PassesOwn.never rfl (pi_range1 (by rfl) T.n_range (pa_cons pe_int pa_nil)) (pg_name (i := 2) sc_law.nd rfl (Or.inl rfl)) (pss_one (ps_if (PW.pt (pw_or (pt_not (pt_val (pe_call d__law_packs_right.ok (hr.mono (by decide)) rfl d__law_packs_right.g d__law_packs_right.kp d__law_packs_right.b .nil pass0 (pa_cons (pv 1) pa_nil)))) (pw_or1 (pt_not (pt_val (pe_call d__law_pages_right.ok (hr.mono (by decide)) rfl d__law_pages_right.g d__law_pages_right.kp d__law_pages_right.b .nil pass0 (pa_cons (pv 1) pa_nil))))))) (pss_one (ps_ret pe_bl)) pss_nil)))
      (pss_cons (ps_asg (pe_tup (pa_cons (pe_make0 TDisk.mkr d_Disk___init__.ok (hr.mono (by decide)) rfl TDisk.g d_Disk___init__.b .nil pass0) (pa_cons pe_dnewK (pa_cons (pe_lst pa_nil) pa_nil)))) (pg_tup rfl (pgs_cons (pg_name (i := 3) sc_law.nd rfl (Or.inr rfl)) (pgs_cons (pg_name (i := 4) sc_law.nd rfl (Or.inl rfl)) (pgs_cons (pg_name (i := 5) sc_law.nd rfl (Or.inr rfl)) pgs_nil)))))
      (pss_cons (ps_for PassesOwn.never rfl (pi_range1 (by rfl) T.n_range (pa_cons pe_int pa_nil)) (pg_name (i := 2) sc_law.nd rfl (Or.inl rfl)) (pss_cons (ps_asg (pe_tup (pa_cons (pe_call d__law_some.ok (hr.mono (by decide)) rfl d__law_some.g d__law_some.kp d__law_some.b .nil pass0 (pa_cons (pv 1) (pa_cons (pe_lst (pa_cons pe_int (pa_cons pe_int (pa_cons pe_int (pa_cons pe_int pa_nil))))) pa_nil))) (pa_cons (pe_call d_sealed.ok (hr.mono (by decide)) rfl d_sealed.g d_sealed.kp d_sealed.b .nil passL (pa_cons (pe_callTy call_tuple_of (by rfl) T.n_tuple (by decide +kernel) (pa_cons (pe_lc (own := [("again", 19)]) (g := gName 19) (tt := tYes) rfl sc_law.nd (pi_range1 (by rfl) T.n_range (pa_cons pe_int pa_nil)) (blkOk_by (N := ["script", "bag", "turn", "disk", "kept", "pending", "number", "page", "latest", "found", "lots", "lot", "there", "cut", "twin", "equal", "bad", "some", "word", "again", "at"]) (sc := defScope s_law) (by decide +kernel)) (fun _ _ _ _ _ => pg_name (i := 19) sc_law.nd rfl (Or.inl rfl)) (fun _ _ _ _ _ => pts_nil) (fun _ _ _ _ _ => (pe_call d__law_take.ok (hr.mono (by decide)) rfl d__law_take.g d__law_take.kp d__law_take.b .nil pass0 (pa_cons (pv 1) (pa_cons pe_int pa_nil))))) pa_nil)) pa_nil)) pa_nil))) (pg_tup rfl (pgs_cons (pg_name (i := 6) sc_law.nd rfl (Or.inr rfl)) (pgs_cons (pg_name (i := 7) sc_law.nd rfl (Or.inl rfl)) pgs_nil))))
      (pss_cons (ps_if (PW.pt (pw_or (pt_cmpR op_eq (pe_call d__law_take.ok (hr.mono (by decide)) rfl d__law_take.g d__law_take.kp d__law_take.b .nil pass0 (pa_cons (pv 1) (pa_cons pe_int pa_nil))) pe_int (nomark _)) (pw_or1 (pt_cmpR op_eq (pe_callB call_len (by rfl) T.n_len (by decide +kernel) (pa_cons (pv 5) pa_nil)) pe_int (nomark _))))) (pss_cons (ps_expr (pe_meth0 (pv 3) TDisk.cl d_Disk_flush.m d_Disk_flush.ok (hr.mono (by decide)) d_Disk_flush.b .nil pass0))
      (pss_cons (ps_expr (pe_bm PySem.F.plainAttrs_dict PySem.F.slot_dict_update PySem.F.type_dict_update mt_updD (pv 4) (pa_cons (pe_callTy (call_dictP rfl) (by rfl) T.n_dict (by decide +kernel) (pa_cons (pv 5) pa_nil)) pa_nil)))
      (pss_one (ps_set (i := 5) sc_law.nd rfl (Or.inr rfl) (pe_lst pa_nil))))) (pss_cons (ps_expr (pe_meth (pv 3) TDisk.cl d_Disk_write.m d_Disk_write.ok (hr.mono (by decide)) d_Disk_write.b .nil passL (pa_cons (pv 6) (pa_cons (pv 7) pa_nil))))
      (pss_one (ps_expr (pe_bm PySem.F.plainAttrs_list PySem.F.slot_list_append PySem.F.type_list_append mt_append (pv 5) (pa_cons (pe_tup (pa_cons (pv 6) (pa_cons (pv 7) pa_nil))) pa_nil))))))
      (pss_cons (ps_set (i := 8) sc_law.nd rfl (Or.inl rfl) (pe_callTy (call_dictP rfl) (by rfl) T.n_dict (by decide +kernel) (pa_cons (pe_op op_cat (LiI.pe_listItems rfl (pv 4) (by rfl) T.n_list (by decide +kernel)) (pv 5)) pa_nil)))
      (pss_cons (ps_set (i := 9) sc_law.nd rfl (Or.inl rfl) (pe_lst (pa_cons (pe_meth0 (pv 3) TDisk.cl d_Disk_kept.m d_Disk_kept.ok (hr.mono (by decide)) d_Disk_kept.b .nil pass0) (pa_cons (pe_meth0 (pv 3) TDisk.cl d_Disk_pending.m d_Disk_pending.ok (hr.mono (by decide)) d_Disk_pending.b .nil pass0) (pa_cons (pe_heard (k := 8) FA rfl gA bA TX TB rfl hmT hu (hr.mono (by decide)) (lamS_by (sc := defScope s_law) (by decide +kernel)) rfl (fun _ _ _ _ _ => rfl) (fun A2 outer2 s2 H2 E2 f2 c2 hr2 => (pe_meth (pv 3) TDisk.cl d_Disk_read.m d_Disk_read.ok (hr2.mono (by decide)) d_Disk_read.b .nil (passes_call (takes_of rfl rfl rfl rfl) (fun _ _ _ _ h => h)) (pa_cons (pv 6) pa_nil)))) pa_nil)))))
      (pss_cons (ps_if (pt_not (pt_val (pe_call d__law_alike.ok (hr.mono (by decide)) rfl d__law_alike.g d__law_alike.kp d__law_alike.b .nil pass0 (pa_cons (pv 9) (pa_cons (pe_lst (pa_cons (pe_callTy call_tuple_of (by rfl) T.n_tuple (by decide +kernel) (pa_cons (pe_callB (cr_sortedK rfl) (by rfl) T.n_sorted (by decide +kernel) (pa_cons (pe_bm0 PySem.F.plainAttrs_dict PySem.F.slot_dict_items PySem.F.type_dict_items mt_itemsK (pv 4)) pa_nil)) pa_nil)) (pa_cons (pe_callTy call_tuple_of (by rfl) T.n_tuple (by decide +kernel) (pa_cons (pv 5) pa_nil)) (pa_cons (pe_ifExp (pt_cmp (pc_din (hu_of hr) (pv 6) (pv 8))) (pe_tup (pa_cons pe_str (pa_cons (pe_dget (hu_of hr) (pv 8) (pv 6) (fun _ _ => rfl)) pa_nil))) (pe_tup (pa_cons pe_str pa_nil))) pa_nil)))) pa_nil))))) (pss_one (ps_ret pe_bl)) pss_nil)
      (pss_cons (ps_setLc (i := 10) (own := [("lot", 11)]) (g := gName 11) (tt := tYes) rfl sc_law.nd rfl rfl (sw_true rfl rfl rfl (by decide +kernel)) (pi_list (pe_call d_all_lots.ok (hr.mono (by decide)) rfl d_all_lots.g d_all_lots.kp d_all_lots.b .nil pass0 (pa_cons (pe_callB call_len (by rfl) T.n_len (by decide +kernel) (pa_cons (pv 5) pa_nil)) pa_nil))) (blkOk_by (N := ["script", "bag", "turn", "disk", "kept", "pending", "number", "page", "latest", "found", "lots", "lot", "there", "cut", "twin", "equal", "bad", "some", "word", "again", "at"]) (sc := defScope s_law) (by decide +kernel)) (fun _ _ _ _ _ => pg_name (i := 11) sc_law.nd rfl (Or.inl rfl)) (fun _ _ _ _ _ => pts_nil) (fun _ _ _ _ _ => (pv 11)))
      (pss_cons (ps_if (PW.pt (pw_or (pt_cmpR (op_neD hr.units) (pv 10) (pe_callB (cr_sortedSL rfl hr.units) (by rfl) T.n_sorted (by decide +kernel) (pa_cons (pe_callTy (cr_setOfT rfl hr.units) (by rfl) T.n_set (by decide +kernel) (pa_cons (pv 10) pa_nil)) pa_nil)) (nomark _)) (pw_or1 (pt_cmpR op_ne (pe_callB call_len (by rfl) T.n_len (by decide +kernel) (pa_cons (pv 10) pa_nil)) (pe_ix ix_list (pe_lst (pa_cons pe_int (pa_cons pe_int (pa_cons pe_int (pa_cons pe_int (pa_cons pe_int pa_nil)))))) (pe_callB call_len (by rfl) T.n_len (by decide +kernel) (pa_cons (pv 5) pa_nil)) (fun _ _ => rfl)) (nomark _))))) (pss_one (ps_ret pe_bl)) pss_nil)
      (pss_cons (ps_for PassesOwn.never rfl (pi_list (pv 10)) (pg_name (i := 11) sc_law.nd rfl (Or.inl rfl)) (pss_cons (ps_set (i := 12) sc_law.nd rfl (Or.inl rfl) (pe_callTy (call_dictP rfl) (by rfl) T.n_dict (by decide +kernel) (pa_cons (pe_op op_cat (LiI.pe_listItems rfl (pv 4) (by rfl) T.n_list (by decide +kernel)) (pe_lc (own := [("at", 20)]) (g := gName 20) (tt := tYes) rfl sc_law.nd (pi_tup (pv 11)) (blkOk_by (N := ["script", "bag", "turn", "disk", "kept", "pending", "number", "page", "latest", "found", "lots", "lot", "there", "cut", "twin", "equal", "bad", "some", "word", "again", "at"]) (sc := defScope s_law) (by decide +kernel)) (fun _ _ _ _ _ => pg_name (i := 20) sc_law.nd rfl (Or.inl rfl)) (fun _ _ _ _ _ => pts_nil) (fun _ _ _ _ _ => (pe_ix (show IxR _ (rIxL K) from ix_list) (pv 5) (pv 20) (fun _ _ => rfl))))) pa_nil)))
      (pss_cons (ps_set (i := 13) sc_law.nd rfl (Or.inl rfl) (pe_meth (pv 3) TDisk.cl d_Disk_cut.m d_Disk_cut.ok (hr.mono (by decide)) d_Disk_cut.b .nil passL (pa_cons (pv 11) pa_nil)))
      (pss_one (ps_if (PW.pt (pw_or (pt_not (pt_val (pe_call d__law_alike.ok (hr.mono (by decide)) rfl d__law_alike.g d__law_alike.kp d__law_alike.b .nil pass0 (pa_cons (pe_lst (pa_cons (pe_meth0 (pv 13) TDisk.cl d_Disk_kept.m d_Disk_kept.ok (hr.mono (by decide)) d_Disk_kept.b .nil pass0) (pa_cons (pe_meth0 (pv 13) TDisk.cl d_Disk_pending.m d_Disk_pending.ok (hr.mono (by decide)) d_Disk_pending.b .nil pass0) pa_nil))) (pa_cons (pe_lst (pa_cons (pe_callTy call_tuple_of (by rfl) T.n_tuple (by decide +kernel) (pa_cons (pe_callB (cr_sortedK rfl) (by rfl) T.n_sorted (by decide +kernel) (pa_cons (pe_bm0 PySem.F.plainAttrs_dict PySem.F.slot_dict_items PySem.F.type_dict_items mt_itemsK (pv 12)) pa_nil)) pa_nil)) (pa_cons (pe_tup pa_nil) pa_nil))) pa_nil))))) (pw_or1 (pt_cmpR (op_neO d_Disk___eq__.ok (hr.mono (by decide)) hdn d_Disk___eq__.m.at_ d_Disk___eq__.m.fn d_Disk___eq__.b hdm) (pv 13) (pe_call d_disk_of.ok (hr.mono (by decide)) rfl d_disk_of.g d_disk_of.kp d_disk_of.b .nil passL (pa_cons (pe_callTy call_tuple_of (by rfl) T.n_tuple (by decide +kernel) (pa_cons (pe_callB (cr_sortedK rfl) (by rfl) T.n_sorted (by decide +kernel) (pa_cons (pe_bm0 PySem.F.plainAttrs_dict PySem.F.slot_dict_items PySem.F.type_dict_items mt_itemsK (pv 12)) pa_nil)) pa_nil)) pa_nil)) (nomark _))))) (pss_one (ps_ret pe_bl)) pss_nil)))))
      (pss_cons (ps_set (i := 14) sc_law.nd rfl (Or.inl rfl) (pe_meth0 (pv 3) TDisk.cl d_Disk_copied.m d_Disk_copied.ok (hr.mono (by decide)) d_Disk_copied.b .nil pass0))
      (pss_cons (ps_set (i := 15) sc_law.nd rfl (Or.inl rfl) (pe_cmpR (op_eqO d_Disk___eq__.ok (hr.mono (by decide)) d_Disk___eq__.m.at_ d_Disk___eq__.m.fn d_Disk___eq__.b hds hdi) (pv 14) (pv 3) (nomark _)))
      (pss_cons (ps_expr (pe_meth (pv 14) TDisk.cl d_Disk_write.m d_Disk_write.ok (hr.mono (by decide)) d_Disk_write.b .nil passL (pa_cons pe_int (pa_cons (pv 7) pa_nil))))
      (pss_cons (ps_if (pt_not (pt_val (pe_call d__law_alike.ok (hr.mono (by decide)) rfl d__law_alike.g d__law_alike.kp d__law_alike.b .nil pass0 (pa_cons (pe_lst (pa_cons (pv 15) (pa_cons (pe_cmpR (op_eqO d_Disk___eq__.ok (hr.mono (by decide)) d_Disk___eq__.m.at_ d_Disk___eq__.m.fn d_Disk___eq__.b hds hdi) (pv 14) (pv 3) (nomark _)) (pa_cons (pe_cmpR (op_eqO d_Disk___eq__.ok (hr.mono (by decide)) d_Disk___eq__.m.at_ d_Disk___eq__.m.fn d_Disk___eq__.b hds hdi) (pv 3) pe_int (nomark _)) pa_nil)))) (pa_cons (pe_lst (pa_cons pe_bl (pa_cons pe_bl (pa_cons pe_bl pa_nil)))) pa_nil))))) (pss_one (ps_ret pe_bl)) pss_nil)
      (pss_cons (ps_for PassesOwn.never rfl (pi_tup (pe_tup (pa_cons (pe_tup (pa_cons (pe_callB call_len (by rfl) T.n_len (by decide +kernel) (pa_cons (pv 5) pa_nil)) pa_nil)) (pa_cons (pe_tup (pa_cons (pe_un un_neg pe_int) pa_nil)) (pa_cons pe_non (pa_cons (pe_lst (pa_cons pe_int pa_nil)) (pa_cons (pe_tup (pa_cons pe_int (pa_cons pe_int pa_nil))) (pa_cons (pe_tup (pa_cons pe_str pa_nil)) (pa_cons (pe_tup (pa_cons pe_bl pa_nil)) pa_nil))))))))) (pg_name (i := 16) sc_law.nd rfl (Or.inr rfl)) (pss_one (ps_if (pt_not (pt_val (pe_call d__law_alike.ok (hr.mono (by decide)) rfl d__law_alike.g d__law_alike.kp d__law_alike.b .nil pass0 (pa_cons (pe_heard (k := 8) FA rfl gA bA TX TB rfl hmT hu (hr.mono (by decide)) (lamS_by (sc := defScope s_law) (by decide +kernel)) rfl (fun _ _ _ _ _ => rfl) (fun A2 outer2 s2 H2 E2 f2 c2 hr2 => (pe_meth (pv 3) TDisk.cl d_Disk_cut.m d_Disk_cut.ok (hr2.mono (by decide)) d_Disk_cut.b .nil (passes_call (takes_of rfl rfl rfl rfl) (fun _ _ _ _ h => h)) (pa_cons (pv 16) pa_nil)))) (pa_cons (pe_tup (pa_cons pe_str (pa_cons pe_str pa_nil))) pa_nil))))) (pss_one (ps_ret pe_bl)) pss_nil)))
      (pss_one (ps_for PassesOwn.never rfl (pi_tup (pe_tup (pa_cons (pe_tup (pa_cons (pe_un un_neg pe_int) (pa_cons (pv 7) (pa_cons pe_str pa_nil)))) (pa_cons (pe_tup (pa_cons pe_int (pa_cons (pv 7) (pa_cons pe_str pa_nil)))) (pa_cons (pe_tup (pa_cons pe_bl (pa_cons (pv 7) (pa_cons pe_str pa_nil)))) (pa_cons (pe_tup (pa_cons pe_int (pa_cons pe_non (pa_cons pe_str pa_nil)))) (pa_cons (pe_tup (pa_cons pe_int (pa_cons (pe_slice sl_tupA (pv 7) (po_some pe_int) po_none) (pa_cons pe_str pa_nil)))) pa_nil))))))) (pg_tup rfl (pgs_cons (pg_name (i := 16) sc_law.nd rfl (Or.inr rfl)) (pgs_cons (pg_name (i := 17) sc_law.nd rfl (Or.inr rfl)) (pgs_cons (pg_name (i := 18) sc_law.nd rfl (Or.inl rfl)) pgs_nil)))) (pss_one (ps_if (pt_not (pt_val (pe_call d__law_alike.ok (hr.mono (by decide)) rfl d__law_alike.g d__law_alike.kp d__law_alike.b .nil pass0 (pa_cons (pe_heard (k := 8) FA rfl gA bA TX TB rfl hmT hu (hr.mono (by decide)) (lamS_by (sc := defScope s_law) (by decide +kernel)) rfl (fun _ _ _ _ _ => rfl) (fun A2 outer2 s2 H2 E2 f2 c2 hr2 => (pe_meth (pv 3) TDisk.cl d_Disk_write.m d_Disk_write.ok (hr2.mono (by decide)) d_Disk_write.b .nil (passes_call (takes_of rfl rfl rfl rfl) (fun _ _ _ _ h => h)) (pa_cons (pv 16) (pa_cons (pv 17) pa_nil))))) (pa_cons (pe_tup (pa_cons pe_str (pa_cons (pv 18) pa_nil))) pa_nil))))) (pss_one (ps_ret pe_bl)) pss_nil))))))))))))))))))
      (pss_one (ps_ret (pe_call d__law_alike.ok (hr.mono (by decide)) rfl d__law_alike.g d__law_alike.kp d__law_alike.b .nil pass0 (pa_cons (pe_heard (k := 8) FA rfl gA bA TX TB rfl hmT hu (hr.mono (by decide)) (lamS_by (sc := defScope s_law) (by decide +kernel)) rfl (fun _ _ _ _ _ => rfl) (fun A2 outer2 s2 H2 E2 f2 c2 hr2 => (pe_meth (pv 3) TDisk.cl d_Disk_read.m d_Disk_read.ok (hr2.mono (by decide)) d_Disk_read.b .nil (passes_call (takes_of rfl rfl rfl rfl) (fun _ _ _ _ h => h)) (pa_cons pe_non pa_nil)))) (pa_cons (pe_tup (pa_cons pe_str pa_nil)) pa_nil))))))))), ?_⟩
    have hbig := sl_big
    refine seq_join (t := tAsg _ _) (fun σ' H' => ∃ (b : Addr), σ' = [some (.ref a), some (.ref b), none, none, none, none, none, none, none, none, none, none, none, none, none, none, none, none, none, none, none] ∧ BagI H' b ∧ Tabs Tt H') (fun N kN => ?_) ?_
    · exact ⟨_, rfl, a, ns, rfl, hS, fun H1 b s1 hB1 _ => kN _ _ ⟨b, rfl, hB1, tabs_sb hB1 (fun p hp => (hT p hp).ext fun y o e => s1 y o e) (SB.refl b H1)⟩⟩
    rintro σ1 H1 ⟨b, rfl, hB1, hT1⟩
    refine seq_join (t := tFor _ _ _) (fun σ' H' => ∃ (c2 : Option V), σ' = [some (.ref a), some (.ref b), c2, none, none, none, none, none, none, none, none, none, none, none, none, none, none, none, none, none, none] ∧ BagI H' b ∧ Tabs Tt H') (fun N kN => ?_) ?_
    · refine ⟨3, rfl, by omega, by omega, for_range (lo := 0) (n := (3 : Int).toNat) (fun i σ H => ∃ c2, σ = [some (.ref a), some (.ref b), c2, none, none, none, none, none, none, none, none, none, none, none, none, none, none, none, none, none, none] ∧ BagI H b ∧ Tabs Tt H) ⟨none, rfl, hB1, hT1⟩ ?_ fun σ' H' h => kN _ _ h⟩
      rintro i σ H2 hi ⟨c, rfl, hB2, hT2⟩
      exact ⟨_, rfl, b, rfl, hB2, hT2, fun H3 hB3 hT3 => ⟨_, rfl, iteF ⟨_, rfl, b, rfl, hB3, hT3, fun H4 hB4 hT4 => ⟨_, rfl, iteF ⟨_, rfl, hB4, hT4⟩⟩⟩⟩⟩
    rintro σ2 H0 ⟨c2, rfl, hB, hT⟩
    refine seq_join (t := tAsg _ _) (fun σ' H' => LpI Tt CDisk a b 0 σ' H') (fun N kN => ?_) ?_
    · intro x dx nx ndx nex
      refine ⟨x, dx, rfl, upd_same, fun H1 k l kp nk nl hx hk hl => ⟨rfl, fun kd nkd => ⟨Nat.zero_le _, fun pl npl => ⟨(by show 3 ≤ sizeLine; omega), fun tp ntp => ⟨tp, _, rfl, SqT.of upd_same, rfl, _, _, rfl, _, _, rfl, _, _, rfl, rfl, ?_⟩⟩⟩⟩⟩
      obtain ⟨s1, hk0, hl0, hN⟩ := new_disk nx ndx kp hx hk hl nk nl
      have s2 := same_upd (o := .dK []) nkd
      have s3 := same_upd (o := .lst []) npl
      have s4 := same_upd (o := .tup [.ref x, .ref kd, .ref pl]) ntp
      have j0 : JH Tt CDisk (upd (upd (upd H1 kd (.dK [])) pl (.lst [])) tp (.tup [.ref x, .ref kd, .ref pl])) b kd pl { p := x, dx := dx, k := k, l := l, es := [], pn := [] } [] [] := by
        have sS := s1.trans (s2.trans (s3.trans s4))
        have hkd := (s3.trans s4) _ _ (@upd_same H1 kd (.dK []))
        have hpl := s4 _ _ (@upd_same (upd H1 kd (.dK [])) pl (.lst []))
        have hN' := hN.more (s2.trans (s3.trans s4))
        have nkd' := s1.free nkd
        have npl' := (s1.trans s2).free npl
        refine ⟨dk_dlt (hB.same sS) hN' (bag_fresh hB hl0), ⟨dlt_at hkd (bag_fresh hB nkd'), fun e he => (nomatch he)⟩, dlt_at hpl (bag_fresh hB npl'), fun z hz => (nomatch hz), fun z => ?_, fun z => ?_, hB.same fun y o e => rst_at (sS y o e) (own5_not.mpr ⟨ne_of_none e nx, ne_of_none e hk0, ne_of_none e hl0, ne_of_none e nkd', ne_of_none e npl'⟩), tabs_sb hB hT (SB.of sS)⟩
        · exact ne_of_none (s2 _ _ hl) npl z.symm
        · exact ne_of_none hk nkd z.symm
      exact kN _ _ ⟨kd, pl, _, [], [], c2, none, none, none, none, none, none, none, none, none, none, none, none, none, rfl, j0, rfl, rfl, Nat.zero_le _, Nat.zero_le _, fun x h => (nomatch h)⟩
    rintro σ3 H1 hL0
    refine seq_join (t := tFor _ _ _) (fun σ' H' => LpI Tt CDisk a b 10 σ' H') (fun N kN => ?_) ?_
    · refine ⟨10, rfl, by omega, by omega, for_range (lo := 0) (n := (10 : Int).toNat) (LpI Tt CDisk a b) hL0 ?_ fun σ' H' h => kN _ _ h⟩
      rintro i σ H hi ⟨kd, pl, D, kes, lp, c2, c6, c7, c8, c9, c10, c11, c12, c13, c14, c15, c16, c17, c18, rfl, j, eK, eP, hl4, hk4, hg⟩
      have hi10 : i < 10 := hi
      clear hB hT hB1 hT1 hS hL0
      have hB := j.b
      refine seq_join (t := tAsg _ _) (fun σ' H' => ∃ (n : Int) (us : List Int) (pg : Addr), σ' = s21 a b (some (.int (0 + (i : Nat)))) D.p kd pl (some (.int n)) (some (.ref pg)) c8 c9 c10 c11 c12 c13 c14 c15 c16 c17 c18 ∧ 0 ≤ n ∧ n ≤ 65535 ∧ us.all byteB = true ∧ us.length ≤ 61 ∧ H' pg = some (.tup ((pageOf us).map V.int)) ∧ FX Tt b H H') (fun N kN => ?_) ?_
      · refine ⟨_, rfl, (by show 4 ≤ sizeLine; omega), fun l1 n1 => ?_⟩
        have e1 : ∀ o, Same H (upd H l1 o) := fun o => same_upd n1
        refine ⟨b, l1, _, rfl, hB.same (e1 _), bag_fresh hB n1, upd_same, by simp, (by show 4 < 1073741824; decide), fun H1 v1 s1 hB1 hv1 => ⟨2, rfl, by omega, by omega, fun D0 hD => ?_⟩⟩
        have nDb := bag_fresh hB1 hD
        refine lc_range (lo := 0) (n := (2 : Int).toNat) (fun j H8 => ∃ ms : List Int, H8 D0 = some (.lst (ms.map V.int)) ∧ ms.all byteB = true ∧ ms.length = j ∧ SB b H1 H8)
          ⟨[], upd_same, rfl, rfl, SB.of (same_upd hD)⟩ ?_ ?_
        · rintro j H8 hj ⟨ms, hD8, hms, hml, s8⟩
          have hj : j < 2 := hj
          refine ⟨rfl, _, rfl, b, 256, rfl, s8.bag hB1, by decide, by decide, fun H9 u s9 hB9 u0 u1 => ?_⟩
          refine ⟨ms.map V.int, s9.at_ hD8 nDb, by rw [List.length_map]; exact Nat.lt_of_lt_of_le (by omega) sl_big, ms ++ [u], by rw [List.map_append]; exact upd_same, ?_, by rw [List.length_append, hml]; rfl, (s8.trans s9).own hD⟩
          rw [List.all_append, hms, List.all_cons, byteB_iff.mpr ⟨u0, by omega⟩]
          rfl
        rintro H2 ⟨us, hD2, hus, hul, s2⟩
        have hul : us.length = 2 := hul
        have hB2 := s2.bag hB1
        refine ⟨D0, us.map V.int, rfl, .inl ⟨SqL.of hD2, fun pb nb => ?_⟩⟩
        have g3 := same_upd (o := .tup (us.map V.int)) nb
        have h3 := @upd_same H2 pb (.tup (us.map V.int))
        generalize upd H2 pb (.tup (us.map V.int)) = H3 at g3 h3 ⊢
        refine ⟨.ref pb, .tuple (us.map .int), rfl, .tup h3 (.ints _), by rw [dsz, dszs_ints]; omega, fun z => (by rw [areBytes_int, hus, intsOf_t, decide_eq_true (show us.length ≤ 61 by omega)] at z; cases z), fun us2 e _ _ H4 pg s4 hpg => ?_⟩
        have e2 := ints_inj e
        subst e2
        refine ⟨(by show 2 ≤ sizeLine; omega), fun t5 n5 => ⟨t5, _, rfl, SqT.of upd_same, rfl, _, _, rfl, _, _, rfl, rfl, ?_⟩⟩
        have g5 := same_upd (o := .tup [v1, .ref pg]) n5
        obtain ⟨n, rfl, n0, n1'⟩ : ∃ n : Int, v1 = .int n ∧ 0 ≤ n ∧ n ≤ 65535 := by
          simp only [List.mem_cons, List.not_mem_nil, or_false] at hv1
          rcases hv1 with rfl | rfl | rfl | rfl
          · exact ⟨0, rfl, by omega, by omega⟩
          · exact ⟨1, rfl, by omega, by omega⟩
          · exact ⟨7, rfl, by omega, by omega⟩
          · exact ⟨65535, rfl, by omega, by omega⟩
        exact kN _ _ ⟨n, us, pg, rfl, n0, n1', hus, by omega, g5 _ _ hpg, (FX.of (e1 _)).trans ((FX.sb s1).trans ((FX.sb s2).trans (.of (g3.trans (s4.trans g5)))))⟩
      rintro σ1 H1 ⟨n, us, pg, rfl, n0, n1, hus, hul, hpg1, f1⟩
      have j1 := j.fx f1
      have hpl : (pageOf us).length = 64 := pageOf_len hul
      have hpf : pfD (.tuple ((pageOf us).map PyData.int)) = none := page_ok hus hul
      have hgp : gPg (n, pageOf us) := ⟨by show (decide (0 ≤ n) && decide (n ≤ 65535)) = true; rw [decide_eq_true n0, decide_eq_true n1]; rfl, hpf⟩
      generalize pageOf us = pp at hpg1 hpl hpf hgp
      have le1 : kes.length = D.es.length := by
        have := congrArg List.length eK
        unfold esC at this
        rwa [List.length_map, List.length_map] at this
      have le2 : lp.length = D.pn.length := by
        have := congrArg List.length eP
        unfold pnC at this
        rwa [List.length_map, List.length_map] at this
      refine seq_join (t := tIfS _ _ _) (fun σ' H' => ∃ (pl' : Addr) (D' : Dsk) (kes' : List Ent) (lp' : List Pnd), σ' = s21 a b (some (.int (0 + (i : Nat)))) D'.p kd pl' (some (.int n)) (some (.ref pg)) c8 c9 c10 c11 c12 c13 c14 c15 c16 c17 c18 ∧ JH Tt CDisk H' b kd pl' D' kes' lp' ∧ esC kes' = esC D'.es ∧ pnC lp' = pnC D'.pn ∧ lp'.length ≤ 4 ∧ kes'.length ≤ 4 * (i + 1) ∧ (∀ x ∈ esC kes' ++ pnC lp', gPg x) ∧ H' pg = some (.tup (pp.map V.int))) (fun N kN => ?_) ?_
      · -- the two ways
        refine ifs_join (fun c H2 => JH Tt CDisk H2 b kd pl D kes lp ∧ H2 pg = some (.tup (pp.map V.int)) ∧ (c = false → lp.length < 4)) (fun Q' k => ?_) ?_
        · refine ⟨_, rfl, b, 4, rfl, j1.b, by decide, by decide, fun H2 y s2 hB2 y0 y1 => ?_⟩
          have j2 := j1.fx (.sb (Tt := Tt) s2)
          have hpg2 := s2.at_ hpg1 (bag_ne j1.b hpg1)
          have hpe2 := dlt_same H2 b _ _ j2.pe
          refine ⟨rfl, _, rfl, ?_⟩
          by_cases cy : y = 0
          · rw [decide_eq_true (show V.int y = V.int 0 by rw [cy])]
            exact iteT (k _ _ ⟨j2, hpg2, fun z => by cases z⟩)
          · rw [decide_eq_false (fun z : V.int y = V.int 0 => by injection z with z; exact cy z)]
            refine iteF ⟨_, rfl, _, _, rfl, .inl ⟨_, SqL.of hpe2, rfl⟩, rfl, _, rfl, k _ _ ⟨j2, hpg2, fun z => ?_⟩⟩
            rw [List.length_map] at z
            have z := of_decide_eq_false z
            have : ¬ lp.length = 4 := fun e => z (by rw [e]; rfl)
            omega
        rintro c0 H2 ⟨j2, hpg2, hc0⟩
        have hdk := j2.dk.more (dlt_same H2 b)
        have hpe := dlt_same H2 b _ _ j2.pe
        cases c0 with
        | true =>
          refine iteT ⟨_, rfl, D.p, D.dx, _, rfl, hdk.ins, dkF_no _ _ (by decide) (by decide), D, rfl, hdk, by omega, fun H3 l3 k3 n3 hI3 => ?_⟩
          have j3 := j2.flush k3 n3 hI3
          have hpe3 := dlt_same H3 b _ _ j3.pe
          have hpg3 := k3 _ _ (ne_kind hpg2 hdk.ins (fun z => by cases z)) (ne_kind hpg2 hdk.kept.1 (fun z => by cases z)) hpg2
          have hkd3 := dlt_same H3 b _ _ j3.kp.1
          have hln2 : (pnE lp).length = lp.length := List.length_map _
          refine ⟨_, rfl, .inr (.inr (.inl ⟨rfl, .inl ⟨_, hkd3⟩⟩)), _, rfl, pl, lp.map (·.1), (pnE lp).map entD, rfl, (by rw [refs_fst]; exact SqL.of hpe3), pair_pnd fun z hz => dlt_same H3 b _ _ (j3.prs z hz).1, fun dq ndq => ?_⟩
          rw [mrgE_K0]
          have g4 := same_upd (o := .dK ((mrgE [] (pnE lp)).map entD)) ndq
          have h4 := @upd_same H3 dq (.dK ((mrgE [] (pnE lp)).map entD))
          generalize upd H3 dq (.dK ((mrgE [] (pnE lp)).map entD)) = H4 at g4 h4 ⊢
          have j4 := j3.fx (.of g4)
          have hkd4 := dlt_same H4 b _ _ j4.kp.1
          have hln := mrgE_len (pnE lp) kes
          have hln0 := mrgE_len (pnE lp) []
          refine ⟨kd, dq, _, _, rfl, rfl, ne_of_none hkd3 ndq, hkd4, h4, ?_, ?_⟩
          · rw [List.length_map, List.length_map]
            have hln0 : (mrgE [] (pnE lp)).length ≤ 0 + (pnE lp).length := hln0
            omega
          rw [mrgE_K, mrg_mrg]
          have j5 := j4.puts (more := pnE lp) (fun x hx => by
            unfold pnE at hx
            obtain ⟨z, hz, rfl⟩ := List.mem_map.mp hx
            exact dlt_same H4 b _ _ (j4.prs z hz).2)
          have hpg5 : (upd H4 kd (.dK ((mrgE kes (pnE lp)).map entD))) pg = some (.tup (pp.map V.int)) := by
            rw [upd_ne (ne_kind (g4 _ _ hpg3) hkd4 (fun z => by cases z))]
            exact g4 _ _ hpg3
          generalize upd H4 kd (.dK ((mrgE kes (pnE lp)).map entD)) = H5 at j5 hpg5 ⊢
          refine ⟨Nat.zero_le _, fun l0 n0 => ?_⟩
          refine kN _ _ ⟨l0, { D with l := l3, es := mrgE D.es (pnE D.pn), pn := [] }, mrgE kes (pnE lp), [], rfl, j5.fresh n0, ?_, rfl, Nat.zero_le _, by omega, fun x hx => ?_, ?_⟩
          · show esC (mrgE kes (pnE lp)) = esC (mrgE D.es (pnE D.pn))
            rw [esC_mrg, esC_mrg, eK, pnC_es, pnC_es, eP]
          · rw [show pnC ([] : List Pnd) = [] from rfl, List.append_nil] at hx
            unfold esC at hx
            obtain ⟨e, he, rfl⟩ := List.mem_map.mp hx
            rcases mrgE_mem _ _ _ he with h | h
            · exact hg _ (List.mem_append_left _ (by unfold esC; exact List.mem_map.mpr ⟨e, h, rfl⟩))
            · refine hg _ (List.mem_append_right _ ?_)
              rw [← pnC_es]
              unfold esC
              exact List.mem_map.mpr ⟨e, h, rfl⟩
          · exact same_upd n0 _ _ hpg5
        | false =>
          have hc4 := hc0 rfl
          refine iteF ⟨_, rfl, D.p, D.dx, _, rfl, hdk.ins, dkF_no _ _ (by decide) (by decide), _, rfl, _, rfl, D, .int n, _, .ref pg, .tuple (pp.map .int), rfl, hdk, .int n, .tup hpg2 (.ints _), ?_, by omega, fun z => ?_, fun _ z => ?_, fun n' a ns e1 e2 e3 _ _ H3 t3 k3 hI3 => ?_⟩
          · rw [dsz, dszs_ints]
            omega
          · rw [hgp.1] at z
            cases z
          · rw [hpf] at z
            cases z
          · injection e1 with e1
            injection e2 with e2
            subst e1 e2
            have e3' := e3.symm.trans hpg2
            injection e3' with e3'
            injection e3' with e3'
            have e3' := map_int_inj _ _ e3'
            subst e3'
            have j3 := j2.write k3 hI3
            have hpe3 := dlt_same H3 b _ _ j3.pe
            have hpg3 := k3 _ _ (ne_kind hpg2 hdk.pend (fun z => by cases z)) hpg2
            refine ⟨_, rfl, .inl ⟨rfl, _, SqL.of hpe3⟩, _, rfl, _, rfl, (by show 2 ≤ sizeLine; omega), fun t4 n4 => ?_⟩
            have g4 := same_upd (o := .tup [.int n, .ref pg]) n4
            have h4 := @upd_same H3 t4 (.tup [.int n, .ref pg])
            generalize upd H3 t4 (.tup [.int n, .ref pg]) = H4 at g4 h4 ⊢
            have j4 := j3.fx (.of g4)
            have hpg4 := g4 _ _ hpg3
            refine ⟨pl, _, _, rfl, rfl, g4 _ _ hpe3, by rw [List.length_map]; omega, ?_⟩
            have j5 := j4.push (x := (t4, n, pg, ns)) h4 hpg4
            refine kN _ _ ⟨pl, { D with pn := D.pn ++ [(t3, n, pg, ns)] }, kes, lp ++ [(t4, n, pg, ns)], rfl, j5, eK, ?_, ?_, by omega, fun x hx => ?_, ?_⟩
            · show pnC (lp ++ [(t4, n, pg, ns)]) = pnC (D.pn ++ [(t3, n, pg, ns)])
              unfold pnC at eP ⊢
              rw [List.map_append, List.map_append, eP]
              rfl
            · rw [List.length_append]
              show lp.length + 1 ≤ 4
              omega
            · rcases List.mem_append.mp hx with h | h
              · exact hg x (List.mem_append_left _ h)
              · unfold pnC at h
                rw [List.map_append] at h
                rcases List.mem_append.mp h with h | h
                · exact hg x (List.mem_append_right _ h)
                · rw [List.mem_singleton.mp h]
                  exact hgp
            · rw [upd_ne (ne_kind hpg4 (g4 _ _ hpe3) (fun z => by cases z))]
              exact hpg4
      rintro σ2 H2 ⟨pl, D, kes, lp, rfl, j2, eK, eP, hl4, hk4, hg, hpg2⟩
      clear le1 le2 hpg1 f1 j1 j hB
      have le1 : kes.length = D.es.length := by
        have := congrArg List.length eK
        unfold esC at this
        rwa [List.length_map, List.length_map] at this
      have le2 : lp.length = D.pn.length := by
        have := congrArg List.length eP
        unfold pnC at this
        rwa [List.length_map, List.length_map] at this
      have hnd : ((esC D.es).map (·.1)).Nodup := by
        rw [keys_es]
        exact j2.dk.nd
      have hndk : ((esC kes).map (·.1)).Nodup := by rw [eK]; exact hnd
      have h64 : ∀ x ∈ esC kes ++ pnC lp, x.2.length = 64 := fun x hx => pfD_len (hg x hx).2
      have hLen : lp.length + kes.length ≤ 44 := by omega
      refine seq_join (t := tAsg _ _) (fun σ' H' => ∃ (ld : Addr) (les : List Ent), σ' = s21 a b (some (.int (0 + (i : Nat)))) D.p kd pl (some (.int n)) (some (.ref pg)) (some (.ref ld)) c9 c10 c11 c12 c13 c14 c15 c16 c17 c18 ∧ DictI (dlt H' b) ld les ∧ esC les = mrgC (esC kes) (pnC lp) ∧ Same H2 H') (fun N kN => ?_) ?_
      · have hkd2 := dlt_same H2 b _ _ j2.kp.1
        have hpe2 := dlt_same H2 b _ _ j2.pe
        refine ⟨_, rfl, kd, _, rfl, hkd2, fun H3 p3 ts s3 np3 nts npt hp3 hts => ⟨_, rfl, p3, pl, _, _, rfl, rfl, hp3, s3 _ _ hpe2, ?_, fun p4 np4 => ?_⟩⟩
        · rw [List.length_map, List.length_map, hts.length, List.length_map]
          omega
        have g4 := same_upd (o := .lst (ts.map V.ref ++ lp.map fun z => V.ref z.1)) np4
        have h4 := @upd_same H3 p4 (.lst (ts.map V.ref ++ lp.map fun z => V.ref z.1))
        generalize upd H3 p4 (.lst (ts.map V.ref ++ lp.map fun z => V.ref z.1)) = H4 at g4 h4 ⊢
        have s24 : Same H2 H4 := Same.trans s3 g4
        refine ⟨p4, ts ++ lp.map (·.1), kes.map entD ++ (pnE lp).map entD, rfl, (by rw [List.map_append, refs_fst]; exact SqL.of h4), paired_app (pair_same g4 hts) (pair_pnd fun z hz => s24 _ _ (dlt_same H2 b _ _ (j2.prs z hz).1)), fun ld nld => ?_⟩
        rw [entD_app, mrgE_K0]
        have g5 := same_upd (o := .dK ((mrgE [] (kes ++ pnE lp)).map entD)) nld
        refine kN _ _ ⟨ld, _, rfl, both_dict (bag_fresh (j2.b.same s24) nld) (s24.trans g5) upd_same (fun e he => j2.kp.2 e he) (fun e he => ?_), ?_, s24.trans g5⟩
        · obtain ⟨z, hz, rfl⟩ := pnE_mem he
          exact (j2.prs z hz).2
        · rw [esC_both hndk, pnC_es]
      rintro σ3 H3 ⟨ld, les, rfl, hld, eL, s23⟩
      have j3 := j2.fx (.of (Tt := Tt) (b := b) s23)
      have hpg3 := s23 _ _ hpg2
      have er : rdC (esC kes) (pnC lp) n = (rdP D.es D.pn n).map (·.2) := by rw [rdP_C, eK, eP]
      refine seq_join (t := tAsg _ _) (fun σ' H' => ∃ (tl t7 t8 : Addr) (x9 : V) (M : List Pg), σ' = s21 a b (some (.int (0 + (i : Nat)))) D.p kd pl (some (.int n)) (some (.ref pg)) (some (.ref ld)) (some (.ref tl)) c10 c11 c12 c13 c14 c15 c16 c17 c18 ∧ H' tl = some (.lst [.ref t7, .ref t8, x9]) ∧ tl ≠ b ∧ Rp (dlt H' b) (.ref t7) (.tuple (M.map pairD)) ∧ M.Perm (esC D.es) ∧ M.Pairwise (fun x y => x.1 ≤ y.1) ∧ Rp (dlt H' b) (.ref t8) (.tuple ((pnC D.pn).map pairD)) ∧ Rp (dlt H' b) x9 (tdD (rdC (esC kes) (pnC lp) n)) ∧ FX Tt b H3 H') (fun N kN => ?_) ?_
      · have hdk := j3.dk.more (dlt_same H3 b)
        refine ⟨_, rfl, D.p, D.dx, _, rfl, hdk.ins, dkF_no _ _ (by decide) (by decide), D, rfl, hdk, fun H7 t7 M s7 pM sM rM => ?_⟩
        have j7 := j3.fx (.of (Tt := Tt) (b := b) s7)
        have hdk7 := hdk.more s7
        refine ⟨_, rfl, D.p, D.dx, _, rfl, hdk7.ins, dkF_no _ _ (by decide) (by decide), D, rfl, hdk7, fun H8 t8 s8 r8 => ?_⟩
        have j8 := j7.fx (.of (Tt := Tt) (b := b) s8)
        refine hear_join (fun x H' => FX Tt b H8 H' ∧ Rp (dlt H' b) x (tdD (rdC (esC kes) (pnC lp) n))) j8.tab (fun H9 x9 t9 Q' k => ?_) ?_
        · have j9 := j8.fx (FX.ext x9 t9)
          have hdk9 := j9.dk.more (dlt_same H9 b)
          refine ⟨_, rfl, D.p, D.dx, _, rfl, hdk9.ins, dkF_no _ _ (by decide) (by decide), _, rfl, D, .int n, .int n, rfl, hdk9, .int n, fun z => (by rw [hgp.1] at z; cases z), fun n' en _ H10 s10 => ?_⟩
          injection en with en
          subst en
          rw [er] at k
          cases eR : rdP D.es D.pn n with
          | some x =>
            rw [eR] at k
            refine ⟨(by show 2 ≤ sizeLine; omega), fun p11 n11 => ?_⟩
            have g11 := same_upd (o := .tup [.str "told", .ref x.1]) n11
            refine k _ _ ⟨(FX.ext x9 t9).trans (.of (s10.trans g11)), rp_tup (j9.b.same (s10.trans g11)) upd_same (.cons (.str _) (.one (rp_tup (j9.b.same (s10.trans g11)) ((s10.trans g11) _ _ (rdP_at hdk9 eR)) (.ints _))))⟩
          | none =>
            rw [eR] at k
            exact .inl ⟨rfl, fun H11 p11 s11 h11 => k _ _ ⟨(FX.ext x9 t9).trans (.of (s10.trans s11)), rp_tup (j9.b.same (s10.trans s11)) h11 (.one (.str _))⟩⟩
        rintro x9 H9 ⟨f9, r9⟩
        refine ⟨(by show 3 ≤ sizeLine; omega), fun tl ntl => ?_⟩
        have g := same_upd (o := .lst [.ref t7, .ref t8, x9]) ntl
        have j9 := j8.fx f9
        exact kN _ _ ⟨tl, t7, t8, x9, M, rfl, upd_same, bag_fresh j9.b ntl, (f9.rp ((rp_plain j7.b _ _ (by rw [plD]; exact plD_pairs _) rM).same (dlt_mono s8))).same (dlt_mono g), pM, sM, (f9.rp (rp_plain j8.b _ _ (by rw [plD]; exact plD_pairs _) r8)).same (dlt_mono g), r9.same (dlt_mono g), (FX.of (s7.trans s8)).trans (f9.trans (.of g))⟩
      rintro σ4 H4 ⟨tl, t7, t8, x9, M, rfl, htl, ntl, r7, pM, sM, r8, r9, f34⟩
      have f4 := (FX.of (Tt := Tt) (b := b) s23).trans f34
      have j4 := j2.fx f4
      have hld4 : DictI (dlt H4 b) ld les := ⟨f34.x _ _ hld.1 (fun l z => by cases z), fun e he => f34.x _ _ (hld.2 e he) (fun l z => by cases z)⟩
      have ztd : dsz (tdD (rdC (esC kes) (pnC lp) n)) ≤ 100 := by
        cases eR : rdC (esC kes) (pnC lp) n with
        | none => show 2 ≤ 100; omega
        | some ns =>
          obtain ⟨x, hx, rfl⟩ := rdC_mem eR
          show 1 + (1 + ((1 + dszs (x.2.map PyData.int)) + 0)) ≤ 100
          rw [dszs_ints, h64 x hx]
          omega
      refine seq_join (t := tIfS _ _ _) (fun σ' H' => σ' = s21 a b (some (.int (0 + (i : Nat)))) D.p kd pl (some (.int n)) (some (.ref pg)) (some (.ref ld)) (some (.ref tl)) c10 c11 c12 c13 c14 c15 c16 c17 c18 ∧ Same H4 H') (fun N kN => ?_) ?_
      · have hkd := dlt_same H4 b _ _ j4.kp.1
        have hDI : DictI H4 kd kes := ⟨hkd, fun e he => dlt_same H4 b _ _ (j4.kp.2 e he)⟩
        refine ⟨_, rfl, _, rfl, .inr (.inr (.inl ⟨rfl, .inl ⟨_, hkd⟩⟩)), kd, _, rfl, rfl, hkd, fun v8 nv8 => ?_⟩
        have gv := same_upd (o := L2.DX.itemsO v8 kd) nv8
        refine ⟨v8, kd, kes.map fun e => (e.1, e.2.1), rfl, upd_same, by rw [List.map_map]; exact gv _ _ hkd, by rw [List.length_map]; omega, fun H7' l8 ps0 s7'' nks hp0 hs0 hl8 hz8 => ?_⟩
        have s7' : Same H4 H7' := gv.trans s7''
        obtain ⟨ps, ep0, pp8, so8, hm7⟩ := items_pnd hDI s7' hp0 hs0 hz8
        rw [ep0] at hl8
        refine ⟨l8, _, rfl, .inl ⟨SqL.of hl8, fun t8' nt8 => ?_⟩⟩
        have g8 := same_upd (o := .tup (ps.map fun z => V.ref z.1)) nt8
        have ht8 := @upd_same H7' t8' (.tup (ps.map fun z => V.ref z.1))
        generalize upd H7' t8' (.tup (ps.map fun z => V.ref z.1)) = H8 at g8 ht8 ⊢
        have hm8 : ∀ z ∈ ps, H8 z.1 = some (.tup [.int z.2.1, .ref z.2.2.1]) ∧ H8 z.2.2.1 = some (.tup (z.2.2.2.map V.int)) := fun z hz => ⟨g8 _ _ (hm7 z hz).1, g8 _ _ (hm7 z hz).2⟩
        have s8 : Same H4 H8 := s7'.trans g8
        have j8 := j4.fx (.of s8)
        have hpe8 := dlt_same H8 b _ _ j8.pe
        refine ⟨_, rfl, pl, _, rfl, .inl ⟨SqL.of hpe8, fun t9 n9 => ?_⟩⟩
        have g9 := same_upd (o := .tup (lp.map fun z => V.ref z.1)) n9
        have h9 := @upd_same H8 t9 (.tup (lp.map fun z => V.ref z.1))
        generalize upd H8 t9 (.tup (lp.map fun z => V.ref z.1)) = H9 at g9 h9 ⊢
        have j9 := j8.fx (.of g9)
        have s79 := s8.trans g9
        have hld9 : H9 ld = some (.dK (les.map entD)) := s79 _ _ (dlt_same H4 b _ _ hld4.1)
        have hdg : DGet H9 ld (.int n) ((dgetI les n).map fun e => V.ref e.2.1) := by
          rw [← valV_ent]
          exact DGet.k (k := Sum.inl n) hld9
        have edg : (dgetI les n).map (·.2.2) = rdC (esC kes) (pnC lp) n := by rw [dgC_es, eL, dg_mrg]
        refine ⟨_, rfl, _, rfl, ld, _, rfl, hdg, _, rfl, ?_⟩
        refine ite_join (fun x H' => Same H9 H' ∧ Rp H' x (tdD (rdC (esC kes) (pnC lp) n))) (fun e Q' k => ?_) (fun e Q' k => ?_) ?_
        · cases eg : dgetI les n with
          | none =>
            rw [eg] at e
            cases e
          | some y =>
            rw [eg] at hdg edg
            have hy : H9 y.2.1 = some (.tup (y.2.2.map V.int)) := s79 _ _ (dlt_same H4 b _ _ (hld4.2 y (List.mem_of_find?_eq_some eg)))
            refine ⟨_, rfl, _, rfl, ld, _, rfl, hdg, (by show 2 ≤ sizeLine; omega), fun p hp => k _ _ ⟨same_upd hp, ?_⟩⟩
            rw [← edg]
            exact .tup upd_same (.cons (.str _) (.one (.tup (same_upd hp _ _ hy) (.ints _))))
        · refine ⟨(by show 1 ≤ sizeLine; omega), fun p hp => k _ _ ⟨same_upd hp, ?_⟩⟩
          cases eg : dgetI les n with
          | none =>
            rw [eg] at edg
            rw [← edg]
            exact .tup upd_same (.one (.str _))
          | some y =>
            rw [eg] at e
            cases e
        rintro x11 H11 ⟨g11, r11⟩
        refine ⟨(by show 3 ≤ sizeLine; omega), fun l12 m12 => ?_⟩
        have g12 := same_upd (o := .lst [.ref t8', .ref t9, x11]) m12
        have h12 := @upd_same H11 l12 (.lst [.ref t8', .ref t9, x11])
        generalize upd H11 l12 (.lst [.ref t8', .ref t9, x11]) = H12 at g12 h12 ⊢
        have eM : pnC ps = M := srt_one hnd (by rw [← eK]; exact pp8) pM so8 sM
        have s712 : Same H4 H12 := s79.trans (g11.trans g12)
        have toF : ∀ {x : V} {y : PyData}, Rp (dlt H4 b) x y → Rp H12 x y := fun h => (h.same (dlt_same H4 b)).same s712
        have ra : Rp H12 (.ref t8') (.tuple (M.map pairD)) := by
          rw [← eM]
          exact (Rp.tup ht8 (rp_pending hm8)).same (g9.trans (g11.trans g12))
        have rb : Rp H12 (.ref t9) (.tuple ((pnC D.pn).map pairD)) := by
          rw [← eP]
          exact (Rp.tup h9 (rp_pending fun z hz => ⟨dlt_same H9 b _ _ (j9.prs z hz).1, dlt_same H9 b _ _ (j9.prs z hz).2⟩)).same (g11.trans g12)
        refine ⟨.ref tl, .ref l12, .list [.tuple (M.map pairD), .tuple ((pnC D.pn).map pairD), tdD (rdC (esC kes) (pnC lp) n)], rfl, .lst (s712 _ _ htl) (.cons (toF r7) (.cons (toF r8) (.one (toF r9)))), .lst h12 (.cons ra (.cons rb (.one (r11.same g12)))), ?_, ?_, fun H13 s13 => ⟨_, rfl, iteF (kN _ _ ⟨rfl, s712.trans s13⟩)⟩⟩
        · show (nodics (M.map pairD) && (nodics ((pnC D.pn).map pairD) && (nodic (tdD (rdC (esC kes) (pnC lp) n)) && true))) = true
          rw [nodic_pairs, nodic_pairs, nodic_td]
          rfl
        · show 1 + ((1 + dszs (M.map pairD)) + ((1 + dszs ((pnC D.pn).map pairD)) + (dsz (tdD (rdC (esC kes) (pnC lp) n)) + 0))) ≤ 1000000
          have l1 : M.length = kes.length := by
            rw [pM.length_eq, ← eK]
            exact List.length_map _
          have l2 : (pnC D.pn).length = lp.length := by
            rw [← eP]
            exact List.length_map _
          rw [dsz_pairs M (fun x hx => h64 x (List.mem_append_left _ (by rw [eK]; exact pM.mem_iff.mp hx))), dsz_pairs (pnC D.pn) (fun x hx => h64 x (List.mem_append_right _ (by rw [eP]; exact hx))), l1, l2]
          omega
      rintro σ5 H5 ⟨rfl, s45⟩
      have f5 := f4.trans (.of s45)
      have j5 := j2.fx f5
      clear hld4 hld htl ntl r7 pM sM r8 r9 ztd eL
      refine seq_join (t := tAsg _ _) (fun σ' H' => ∃ (ls : Addr) (L : List (Addr × List Int)), σ' = s21 a b (some (.int (0 + (i : Nat)))) D.p kd pl (some (.int n)) (some (.ref pg)) (some (.ref ld)) (some (.ref tl)) (some (.ref ls)) c11 c12 c13 c14 c15 c16 c17 c18 ∧ H' ls = some (.lst (L.map fun z => V.ref z.1)) ∧ (∀ z ∈ L, H' z.1 = some (.tup (z.2.map V.int))) ∧ (L.map (·.2)).Perm (lotsOf lp.length) ∧ (L.map (·.2)).Pairwise (fun x y => HT.lexLt y x = false) ∧ Same H5 H') (fun N kN => ?_) ?_
      · have hpe5 := dlt_same H5 b _ _ j5.pe
        refine ⟨_, rfl, _, _, rfl, .inl ⟨_, SqL.of hpe5, rfl⟩, (lp.map fun z => V.ref z.1).length, rfl, by rw [List.length_map]; omega, fun H6 p4 L s6 hp4 hm4 pL sL => ?_⟩
        rw [List.length_map] at pL
        have hLl : L.length ≤ 16 := by
          have := pL.length_eq
          rw [List.length_map, (lots_nodup lp.length hl4).2] at this
          have h5 : lp.length = 0 ∨ lp.length = 1 ∨ lp.length = 2 ∨ lp.length = 3 ∨ lp.length = 4 := by omega
          rcases h5 with h | h | h | h | h <;> rw [h] at this <;> simp at this <;> omega
        refine ⟨p4, rfl, ⟨_, SqL.of hp4⟩, fun D1 hD => lc_list (K := K) (a := p4) (xs := L.map fun z => V.ref z.1) (fun m H' => Fill H6 D1 ((L.take m).map fun z => V.ref z.1) H') (.start hD) (fun m H' _ f => SqL.of (f.same _ _ hp4)) ?_ ?_⟩
        · intro m x H' hm fl
          rw [List.getElem?_map] at hm
          obtain ⟨z, hz, rfl⟩ := Option.map_eq_some_iff.mp hm
          refine ⟨rfl, _, rfl, _, fl.at_, by rw [List.length_map, List.length_take]; omega, fl.add ?_⟩
          rw [take_add hz, List.map_append]
          rfl
        · intro H7 fl
          rw [List.length_map, List.take_length] at fl
          exact kN _ _ ⟨D1, L, rfl, fl.at_, fun z hz => fl.same _ _ (hm4 z hz), pL, sL, s6.trans fl.same⟩
      rintro σ6 H6 ⟨ls, L, rfl, hls, hL, pL, sL, s56⟩
      have f6 := f5.trans (.of s56)
      have j6 := j2.fx f6
      have hLl : L.length = [1, 2, 4, 8, 16].getD lp.length 0 := by
        have := pL.length_eq
        rwa [List.length_map, (lots_nodup lp.length hl4).2] at this
      have hL16 : L.length ≤ 16 := by
        have h5 : lp.length = 0 ∨ lp.length = 1 ∨ lp.length = 2 ∨ lp.length = 3 ∨ lp.length = 4 := by omega
        rcases h5 with h | h | h | h | h <;> rw [h] at hLl <;> simp at hLl <;> omega
      refine seq_join (t := tIfS _ _ _) (fun σ' H' => σ' = s21 a b (some (.int (0 + (i : Nat)))) D.p kd pl (some (.int n)) (some (.ref pg)) (some (.ref ld)) (some (.ref tl)) (some (.ref ls)) c11 c12 c13 c14 c15 c16 c17 c18 ∧ Same H6 H') (fun N kN => ?_) ?_
      · refine ⟨_, rfl, _, rfl, ls, L, rfl, SqL.of hls, fun p hp => .inl (.inl (hL p hp)), by omega, fun sa L2 nsa hsub hall => ?_⟩
        have g1 := same_upd (o := SetTO P w sa L2) nsa
        have nil_in : ∃ q ∈ L2, q.2 = [] := by
          obtain ⟨q, hq, e⟩ := List.mem_map.mp (pL.mem_iff.mpr (lots_nil lp.length))
          obtain ⟨q2, hq2, e2⟩ := List.mem_map.mp (hall q hq)
          exact ⟨q2, hq2, by rw [e2, e]⟩
        refine ⟨sa, L2, rfl, upd_same, fun p hp => g1 _ _ (hL p (hsub p hp)), nil_in, fun L' lo pL' nd' l64 s' nlo => ?_⟩
        have g2 := same_upd (o := .lst (L'.map fun q => V.ref q.1)) nlo
        have g12 : Same H6 (upd (upd H6 sa (SetTO P w sa L2)) lo (.lst (L'.map fun q => V.ref q.1))) := g1.trans g2
        have h2 : (upd (upd H6 sa (SetTO P w sa L2)) lo (.lst (L'.map fun q => V.ref q.1))) lo = some (.lst (L'.map fun q => V.ref q.1)) := upd_same
        have eLL : L'.map (·.2) = L.map (·.2) := lots_sorted hl4 pL sL nd' (fun l => ⟨fun h => (by
            obtain ⟨q, hq, rfl⟩ := List.mem_map.mp h
            exact List.mem_map.mpr ⟨q, hsub q (pL'.mem_iff.mp hq), rfl⟩), fun h => (by
            obtain ⟨q, hq, rfl⟩ := List.mem_map.mp h
            obtain ⟨q2, hq2, e2⟩ := List.mem_map.mp (hall q hq)
            exact List.mem_map.mpr ⟨q2, pL'.mem_iff.mpr hq2, e2⟩)⟩) s'
        have hd2 : DpAll K (upd (upd H6 sa (SetTO P w sa L2)) lo (.lst (L'.map fun q => V.ref q.1))) (L'.map fun z => V.ref z.1) ((L.map (·.2)).map fun l => PyData.tuple (l.map PyData.int)) := by
          rw [← eLL]
          exact dp_lots fun z hz => g12 _ _ (hL z (hsub z (pL'.mem_iff.mp hz)))
        obtain ⟨sh, ev⟩ := shp_lots (L.map (·.2))
        refine ⟨_, _, .lst (SqL.of (g12 _ _ hls)) (dp_lots fun z hz => g12 _ _ (hL z hz)), .lst (SqL.of h2) hd2, sh, sh, _, rfl, ?_⟩
        rw [ev]
        have hls8 := g12 _ _ hls
        have j8 := j6.fx (.of (Tt := Tt) (b := b) g12)
        refine iteF ⟨_, rfl, _, _, rfl, .inl ⟨_, SqL.of hls8, rfl⟩, (by show 5 ≤ sizeLine; omega), fun l9 n9 => ?_⟩
        have g9 := same_upd (o := .lst [.int 1, .int 2, .int 4, .int 8, .int 16]) n9
        have h9 := @upd_same (upd (upd H6 sa (SetTO P w sa L2)) lo (.lst (L'.map fun q => V.ref q.1))) l9 (.lst [.int 1, .int 2, .int 4, .int 8, .int 16])
        have j9 := j8.fx (.of (Tt := Tt) (b := b) g9)
        have hpe9 := dlt_same _ b _ _ j9.pe
        have hix : ([V.int 1, .int 2, .int 4, .int 8, .int 16])[lp.length]? = some (.int (L.length : Nat)) := by
          have h5 : lp.length = 0 ∨ lp.length = 1 ∨ lp.length = 2 ∨ lp.length = 3 ∨ lp.length = 4 := by omega
          rcases h5 with h | h | h | h | h <;> rw [h] at hLl ⊢ <;> rw [hLl] <;> rfl
        refine ⟨_, rfl, _, _, rfl, .inl ⟨_, SqL.of hpe9, rfl⟩, l9, _, ((lp.map fun z => V.ref z.1).length : Nat), _, rfl, rfl, SqL.of h9, (by rw [List.length_map]; exact atI_nat hix), ?_⟩
        refine ⟨rfl, _, rfl, ?_⟩
        rw [decide_eq_true (show V.int ((L.map fun z => V.ref z.1).length : Nat) = V.int (L.length : Nat) by rw [List.length_map])]
        exact iteF (kN _ _ ⟨rfl, g12.trans g9⟩)
      rintro σ7 H7 ⟨rfl, s67⟩
      have f7 := f6.trans (.of s67)
      have j7 := j2.fx f7
      have hls7 := s67 _ _ hls
      have hL7 : ∀ z ∈ L, H7 z.1 = some (.tup (z.2.map V.int)) := fun z hz => s67 _ _ (hL z hz)
      have lotL : ∀ z ∈ L, z.2 ∈ lotsOf lp.length := fun z hz => pL.mem_iff.mp (List.mem_map.mpr ⟨z, hz, rfl⟩)
      have nls : ls ≠ b := refs_ne (L := L.map (·.1)) j7.b (by rw [List.map_map]; exact hls7)
      clear hls hL hLl sL
      refine seq_join (t := tFor _ _ _) (fun σ' H' => ∃ (c11 c12 c13 : Option V), σ' = s21 a b (some (.int (0 + (i : Nat)))) D.p kd pl (some (.int n)) (some (.ref pg)) (some (.ref ld)) (some (.ref tl)) (some (.ref ls)) c11 c12 c13 c14 c15 c16 c17 c18 ∧ FX Tt b H7 H') (fun N kN => ?_) ?_
      · refine ⟨_, rfl, ls, rfl, ⟨_, SqL.of hls7⟩, for_list (K := K) (a := ls) (xs := L.map fun z => V.ref z.1) (fun m σ' H' => ∃ (c11 c12 c13 : Option V), σ' = s21 a b (some (.int (0 + (i : Nat)))) D.p kd pl (some (.int n)) (some (.ref pg)) (some (.ref ld)) (some (.ref tl)) (some (.ref ls)) c11 c12 c13 c14 c15 c16 c17 c18 ∧ FX Tt b H7 H') ⟨c11, c12, c13, rfl, .refl _ _ _⟩ (fun m σ' H' _ ⟨_, _, _, _, fi⟩ => SqL.of (fi.lst nls hls7)) ?_ fun σ' H' h => kN _ _ h⟩
        rintro m x σ8 H8 hm ⟨c11, c12, c13, rfl, f78⟩
        rw [List.getElem?_map] at hm
        obtain ⟨z, hz, rfl⟩ := Option.map_eq_some_iff.mp hm
        have hzm := List.mem_of_getElem? hz
        have hz8 := f78.tup j7.b (hL7 z hzm)
        have hlot := lotL z hzm
        have j8 := j7.fx f78
        obtain ⟨zt, zl⟩ := z
        have hz8 : H8 zt = some (.tup (zl.map V.int)) := hz8
        have hlot : zl ∈ lotsOf lp.length := hlot
        obtain ⟨lo1, lo2, lo3⟩ := lots_in lp.length zl hlot
        refine seq_join (t := tAsg _ _) (fun σ' H' => ∃ (ad : Addr) (aes : List Ent), σ' = s21 a b (some (.int (0 + (i : Nat)))) D.p kd pl (some (.int n)) (some (.ref pg)) (some (.ref ld)) (some (.ref tl)) (some (.ref ls)) (some (.ref zt)) (some (.ref ad)) c13 c14 c15 c16 c17 c18 ∧ DictI (dlt H' b) ad aes ∧ esC aes = mrgC (esC kes) (pnC (picks lp zl)) ∧ aes.length ≤ 44 ∧ Same H8 H') (fun N' kN' => ?_) ?_
        · have hkd8 := dlt_same H8 b _ _ j8.kp.1
          have hpe8 := dlt_same H8 b _ _ j8.pe
          refine ⟨_, rfl, kd, _, rfl, hkd8, fun H3 p3 ts s3 np3 nts npt hp3 hts => ⟨_, rfl, zt, rfl, ⟨_, .inl (.inl (s3 _ _ hz8))⟩, fun D1 hD => ?_⟩⟩
          have hpkl : ∀ ys : List Int, (picks lp ys).length ≤ ys.length := fun ys => List.length_filterMap_le _ _
          refine lc_tup (K := K) (a := zt) (xs := zl.map V.int) (fun m H' => Fill H3 D1 ((picks lp (zl.take m)).map fun z => V.ref z.1) H') (.start hD) (fun m H' _ f => .inl (.inl (f.same _ _ (s3 _ _ hz8)))) ?_ ?_
          · intro m x H' hm fl
            rw [List.getElem?_map] at hm
            obtain ⟨k, hk, rfl⟩ := Option.map_eq_some_iff.mp hm
            obtain ⟨k0, k1⟩ := lo1 k (List.mem_of_getElem? hk)
            obtain ⟨kn, rfl⟩ := Int.eq_ofNat_of_zero_le k0
            have k1 : kn < lp.length := by omega
            have hlk : lp[kn]? = some lp[kn] := List.getElem?_eq_getElem k1
            have hpe' := fl.same _ _ (s3 _ _ hpe8)
            refine ⟨rfl, _, rfl, _, rfl, pl, _, ((kn : Nat) : Int), .ref lp[kn].1, rfl, rfl, SqL.of hpe', atI_nat (by rw [List.getElem?_map, hlk]; rfl), _, fl.at_, ?_, fl.add ?_⟩
            · rw [List.length_map]
              have := hpkl (zl.take m)
              rw [List.length_take] at this
              omega
            · have e1 : picks lp (zl.take (m + 1)) = picks lp (zl.take m) ++ [lp[kn]] := by
                unfold picks
                rw [take_add hk, List.filterMap_append, List.filterMap_cons_some (b := lp[kn]) (by exact hlk)]
                rfl
              rw [e1, List.map_append]
              rfl
          · intro H10 fl
            rw [List.length_map, List.take_length] at fl
            have hpk := hpkl zl
            refine ⟨p3, D1, _, _, rfl, rfl, fl.same _ _ hp3, fl.at_, ?_, fun p4 np4 => ?_⟩
            · rw [List.length_map, List.length_map, hts.length, List.length_map]
              omega
            have g4 := same_upd (o := .lst (ts.map V.ref ++ (picks lp zl).map fun z => V.ref z.1)) np4
            have h4 := @upd_same H10 p4 (.lst (ts.map V.ref ++ (picks lp zl).map fun z => V.ref z.1))
            generalize upd H10 p4 (.lst (ts.map V.ref ++ (picks lp zl).map fun z => V.ref z.1)) = H11 at g4 h4 ⊢
            have s811 : Same H8 H11 := Same.trans s3 (fl.same.trans g4)
            refine ⟨p4, ts ++ (picks lp zl).map (·.1), kes.map entD ++ (pnE (picks lp zl)).map entD, rfl, (by rw [List.map_append, refs_fst]; exact SqL.of h4), paired_app (pair_same (fl.same.trans g4) hts) (pair_pnd fun z hz => s811 _ _ (dlt_same H8 b _ _ (j8.prs z (picks_in hz)).1)), fun ad nad => ?_⟩
            rw [entD_app, mrgE_K0]
            have g5 := same_upd (o := .dK ((mrgE [] (kes ++ pnE (picks lp zl))).map entD)) nad
            refine kN' _ _ ⟨ad, _, rfl, both_dict (bag_fresh (j8.b.same s811) nad) (s811.trans g5) upd_same (fun e he => j8.kp.2 e he) (fun e he => ?_), ?_, ?_, s811.trans g5⟩
            · obtain ⟨z, hz, rfl⟩ := pnE_mem he
              exact (j8.prs z (picks_in hz)).2
            · rw [esC_both hndk, pnC_es]
            · have h1 := mrgE_len (kes ++ pnE (picks lp zl)) []
              have h1 : (mrgE [] (kes ++ pnE (picks lp zl))).length ≤ 0 + (kes ++ pnE (picks lp zl)).length := h1
              have h2 : (pnE (picks lp zl)).length = (picks lp zl).length := List.length_map _
              rw [List.length_append] at h1
              omega
        rintro σ9 H9 ⟨ad, aes, rfl, hA9, eA, lA, s89⟩
        have j9 := j8.fx (.of (Tt := Tt) (b := b) s89)
        have hz9 := s89 _ _ hz8
        have hndA : ((esC aes).map (·.1)).Nodup := by
          rw [eA]
          exact mrgC_nodup _ hndk
        have hgA : ∀ x ∈ esC aes, gPg x := fun x hx => by
          rw [eA] at hx
          rcases List.mem_append.mp (mrgC_mem _ hx) with h | h
          · exact hg x (List.mem_append_left _ h)
          · unfold pnC at h
            obtain ⟨z, hz, rfl⟩ := List.mem_map.mp h
            refine hg _ (List.mem_append_right _ ?_)
            unfold pnC
            exact List.mem_map.mpr ⟨z, picks_in hz, rfl⟩
        have h64A : ∀ x ∈ esC aes, x.2.length = 64 := fun x hx => pfD_len (hgA x hx).2
        refine seq_join (t := tAsg _ _) (fun σ' H' => ∃ (D2 : Dsk), σ' = s21 a b (some (.int (0 + (i : Nat)))) D.p kd pl (some (.int n)) (some (.ref pg)) (some (.ref ld)) (some (.ref tl)) (some (.ref ls)) (some (.ref zt)) (some (.ref ad)) (some (.ref D2.p)) c14 c15 c16 c17 c18 ∧ DkI CDisk H' D2 ∧ esC D2.es = esC aes ∧ D2.pn = [] ∧ Same H9 H') (fun N' kN' => ?_) ?_
        · have hdk := j9.dk.more (dlt_same H9 b)
          refine ⟨_, rfl, D.p, D.dx, _, rfl, hdk.ins, dkF_no _ _ (by decide) (by decide), _, rfl, D, .ref zt, .tuple (zl.map .int), rfl, hdk, .tup hz9 (.ints _), ?_, by omega, fun z => ?_, fun _ H10 D2 s10 hI2 e1 e2 => kN' _ _ ⟨D2, rfl, hI2, ?_, e2, s10⟩⟩
          · rw [dsz, dszs_ints]
            omega
          · rw [← le2, lots_ok hlot] at z
            cases z
          · rw [e1, esC_mrg, pnC_es, intsOf_t, eA, eK, pnC_picks, pnC_picks, eP]
        rintro σ10 H10 ⟨D2, rfl, hI2, eD2, eN2, s910⟩
        have j10 := j9.fx (.of (Tt := Tt) (b := b) s910)
        have hA10 : DictI (dlt H10 b) ad aes := DictI.same hA9 (dlt_mono s910)
        refine ifs_join (fun c H' => c = false ∧ Same H10 H') (fun Q' k => ?_) ?_
        · refine ⟨_, rfl, D2.p, D2.dx, _, rfl, hI2.ins, dkF_no _ _ (by decide) (by decide), D2, rfl, hI2, fun H16 t1 M2 s16 pM2 sM2 rM2 => ?_⟩
          have hdk2b := hI2.more s16
          refine ⟨_, rfl, D2.p, D2.dx, _, rfl, hdk2b.ins, dkF_no _ _ (by decide) (by decide), D2, rfl, hdk2b, fun H17 t2 s17 r2 => ?_⟩
          rw [eN2] at r2
          refine ⟨(by show 2 ≤ sizeLine; omega), fun l3 n3 => ?_⟩
          have g3 := same_upd (o := .lst [.ref t1, .ref t2]) n3
          have h3 := @upd_same H17 l3 (.lst [.ref t1, .ref t2])
          generalize upd H17 l3 (.lst [.ref t1, .ref t2]) = H18 at g3 h3 ⊢
          have s1018 : Same H10 H18 := s16.trans (s17.trans g3)
          have hDA : DictI H18 ad aes := ⟨s1018 _ _ (dlt_same H10 b _ _ hA10.1), fun e he => s1018 _ _ (dlt_same H10 b _ _ (hA10.2 e he))⟩
          refine ⟨_, rfl, .inr (.inr (.inl ⟨rfl, .inl ⟨_, hDA.1⟩⟩)), ad, _, rfl, rfl, hDA.1, fun v8 nv8 => ?_⟩
          have gv := same_upd (o := L2.DX.itemsO v8 ad) nv8
          refine ⟨v8, ad, aes.map fun e => (e.1, e.2.1), rfl, upd_same, by rw [List.map_map]; exact gv _ _ hDA.1, by rw [List.length_map]; omega, fun H19 l8 ps0 s8'' nks hp0 hs0 hl8 hz8' => ?_⟩
          have s1819 : Same H18 H19 := gv.trans s8''
          obtain ⟨ps, ep0, pp8, so8, hm8⟩ := items_pnd hDA s1819 hp0 hs0 hz8'
          rw [ep0] at hl8
          refine ⟨l8, _, rfl, .inl ⟨SqL.of hl8, fun t8 nt8 => ?_⟩⟩
          have g8 := same_upd (o := .tup (ps.map fun z => V.ref z.1)) nt8
          have ht8 := @upd_same H19 t8 (.tup (ps.map fun z => V.ref z.1))
          generalize upd H19 t8 (.tup (ps.map fun z => V.ref z.1)) = H20 at g8 ht8 ⊢
          refine ⟨Nat.zero_le _, fun t9 nt9 => ?_⟩
          have g9 := same_upd (o := .tup []) nt9
          have rt9 : Rp (upd H20 t9 (.tup [])) (.ref t9) (.tuple []) := .tup upd_same .nil
          generalize upd H20 t9 (.tup []) = H21 at g9 rt9 ⊢
          refine ⟨(by show 2 ≤ sizeLine; omega), fun d12 n12 => ?_⟩
          have g12 := same_upd (o := .lst [.ref t8, .ref t9]) n12
          have h12 := @upd_same H21 d12 (.lst [.ref t8, .ref t9])
          generalize upd H21 d12 (.lst [.ref t8, .ref t9]) = H22 at g12 h12 ⊢
          have s1022 : Same H10 H22 := s1018.trans (s1819.trans (g8.trans (g9.trans g12)))
          have s1822 : Same H18 H22 := s1819.trans (g8.trans (g9.trans g12))
          have s1922 : Same H19 H22 := g8.trans (g9.trans g12)
          have eM : pnC ps = M2 := srt_one hndA pp8 (by rw [← eD2]; exact pM2) so8 sM2
          have rt8 : Rp H22 (.ref t8) (.tuple (M2.map pairD)) := by
            rw [← eM]
            exact .tup ((g9.trans g12) _ _ ht8) (rp_pending fun z hz => ⟨s1922 _ _ (hm8 z hz).1, s1922 _ _ (hm8 z hz).2⟩)
          refine ⟨.ref l3, .ref d12, .list [.tuple (M2.map pairD), .tuple []], rfl, .lst (s1822 _ _ h3) (.cons (rM2.same (s17.trans (g3.trans s1822))) (.one (r2.same (g3.trans s1822)))), .lst h12 (.cons rt8 (.one (rt9.same g12))), ?_, ?_, fun H23 s23' => ⟨_, rfl, iteF ?_⟩⟩
          · show (nodics (M2.map pairD) && (true && true)) = true
            rw [nodic_pairs]
            rfl
          · show 1 + ((1 + dszs (M2.map pairD)) + (1 + 0)) ≤ 1000000
            have l1 : M2.length = aes.length := by
              rw [pM2.length_eq, eD2]
              exact List.length_map _
            rw [dsz_pairs M2 (fun x hx => h64A x (by rw [← eD2]; exact pM2.mem_iff.mp hx)), l1]
            omega
          have s1023 : Same H10 H23 := s1022.trans s23'
          have hDB : DictI H23 ad aes := ⟨s1023 _ _ (dlt_same H10 b _ _ hA10.1), fun e he => s1023 _ _ (dlt_same H10 b _ _ (hA10.2 e he))⟩
          refine ⟨_, rfl, _, rfl, .inr (.inr (.inl ⟨rfl, .inl ⟨_, hDB.1⟩⟩)), ad, _, rfl, rfl, hDB.1, fun w8 nw8 => ?_⟩
          have gw := same_upd (o := L2.DX.itemsO w8 ad) nw8
          refine ⟨w8, ad, aes.map fun e => (e.1, e.2.1), rfl, upd_same, by rw [List.map_map]; exact gw _ _ hDB.1, by rw [List.length_map]; omega, fun H24 k8 qs0 s8b nkb hq0 hsq hk8 hzq => ?_⟩
          have s2324 : Same H23 H24 := gw.trans s8b
          obtain ⟨qs, eq0, qq8, sq8, hq8⟩ := items_pnd hDB s2324 hq0 hsq hzq
          rw [eq0] at hk8
          refine ⟨k8, _, rfl, .inl ⟨SqL.of hk8, fun u8 nu8 => ?_⟩⟩
          have gu := same_upd (o := .tup (qs.map fun z => V.ref z.1)) nu8
          have hu8 := @upd_same H24 u8 (.tup (qs.map fun z => V.ref z.1))
          generalize upd H24 u8 (.tup (qs.map fun z => V.ref z.1)) = H25 at gu hu8 ⊢
          have hql : (pnC qs).length = qs.length := List.length_map _
          have hal : (esC aes).length = aes.length := List.length_map _
          refine ⟨u8, qs, rfl, hu8, by have := qq8.length_eq; omega, fun z hz => ⟨⟨gu _ _ (hq8 z hz).1, gu _ _ (hq8 z hz).2⟩, hgA (z.2.1, z.2.2.2) (qq8.mem_iff.mp (by unfold pnC; exact List.mem_map.mpr ⟨z, hz, rfl⟩))⟩, fun H26 D3 s26 hI3 e31 e32 => ?_⟩
          have s1026 : Same H10 H26 := s1023.trans (s2324.trans (gu.trans s26))
          have hdk2d := hI2.more s1026
          have edq : (deqI D2.es D3.es && decide (pnC D2.pn = pnC D3.pn)) = true := by
            have e3 : esC D3.es = pnC qs := by
              rw [e31, esC_mrg, pnC_es]
              exact mrgC_nil _ [] ((qq8.map (·.1)).nodup_iff.mpr hndA)
            rw [deqI_C, eD2, e3, deq_perm hndA qq8, eN2, e32]
            rfl
          refine ⟨D2.p, D3.p, D2.dx, D3.dx, _, _, rfl, rfl, hdk2d.ins, hI3.ins, D2, .inr (.inr ⟨D3, rfl, hdk2d, hI3, _, rfl, _, rfl, ?_⟩)⟩
          rw [edq]
          exact k _ _ ⟨rfl, s1026⟩
        rintro c0 H11 ⟨rfl, s1011⟩
        exact iteF ⟨_, _, _, rfl, f78.trans (.of (s89.trans (s910.trans s1011)))⟩
      rintro σ8 H8 ⟨c11, c12, c13, rfl, f78⟩
      have f8 := f7.trans f78
      have j8 := j2.fx f8
      have hpg8 := f78.tup j7.b (f7.tup j2.b hpg2)
      have hpe8 := dlt_same H8 b _ _ j8.pe
      refine seq_join (t := tAsg _ _) (fun σ' H' => ∃ (D4 : Dsk), σ' = s21 a b (some (.int (0 + (i : Nat)))) D.p kd pl (some (.int n)) (some (.ref pg)) (some (.ref ld)) (some (.ref tl)) (some (.ref ls)) c11 c12 c13 (some (.ref D4.p)) c15 c16 c17 c18 ∧ Same H8 H' ∧ DkI CDisk H' D4 ∧ D4.es = D.es ∧ D4.pn = D.pn ∧ H8 D4.l = none) (fun N kN => ?_) ?_
      · have hdk := j8.dk.more (dlt_same H8 b)
        exact ⟨_, rfl, D.p, D.dx, _, rfl, hdk.ins, dkF_no _ _ (by decide) (by decide), D, rfl, hdk, fun H9 D4 s9 _ _ nl hI e1 e2 => kN _ _ ⟨D4, rfl, s9, hI, e1, e2, nl⟩⟩
      rintro σ9 H9 ⟨D4, rfl, s89, hI4, eE4, eP4, nl4⟩
      have j9 := j8.fx (.of (Tt := Tt) (b := b) s89)
      have hdk9 := j9.dk.more (dlt_same H9 b)
      have hpg9 := s89 _ _ hpg8
      refine seq_join (t := tAsg _ _) (fun σ' H' => σ' = s21 a b (some (.int (0 + (i : Nat)))) D.p kd pl (some (.int n)) (some (.ref pg)) (some (.ref ld)) (some (.ref tl)) (some (.ref ls)) c11 c12 c13 (some (.ref D4.p)) (some (.bl true)) c16 c17 c18 ∧ H' = H9) (fun N kN => ?_) ?_
      · refine ⟨_, rfl, _, rfl, D4.p, D4.dx, _, rfl, hI4.ins, .inl ⟨_, rfl, .inl ⟨_, _, hdk9.ins⟩⟩, D4, .inr (.inr ⟨D, rfl, hI4, hdk9, _, rfl, ?_⟩)⟩
        have edq : (deqI D4.es D.es && decide (pnC D4.pn = pnC D.pn)) = true := by
          rw [eE4, eP4, deqI_C, deq_perm hnd (.refl _), decide_eq_true rfl]
          rfl
        rw [edq]
        exact kN _ _ ⟨rfl, rfl⟩
      rintro σ10 H10' ⟨rfl, rfl⟩
      refine seq_join (t := tDrop _) (fun σ' H' => ∃ (x10 : Pnd), σ' = s21 a b (some (.int (0 + (i : Nat)))) D.p kd pl (some (.int n)) (some (.ref pg)) (some (.ref ld)) (some (.ref tl)) (some (.ref ls)) c11 c12 c13 (some (.ref D4.p)) (some (.bl true)) c16 c17 c18 ∧ DkI CDisk H' { D4 with pn := D4.pn ++ [x10] } ∧ ∀ y o, y ≠ D4.l → H10' y = some o → H' y = some o) (fun N kN => ?_) ?_
      · refine ⟨_, rfl, D4.p, D4.dx, _, rfl, hI4.ins, dkF_no _ _ (by decide) (by decide), _, rfl, D4, .int 3, .int 3, .ref pg, .tuple (pp.map .int), rfl, hI4, .int 3, .tup hpg9 (.ints _), ?_, ?_, fun z => absurd z (by decide), fun _ z => ?_, fun n' a' ns e1 e2 e3 _ _ H10 t10 k10 hI10 => kN _ _ ⟨_, rfl, hI10, k10⟩⟩
        · rw [dsz, dszs_ints]
          omega
        · rw [eP4]
          omega
        · rw [hpf] at z
          cases z
      rintro σ10 H10 ⟨x10, rfl, hI10, k10⟩
      have f810 : FX Tt b H8 H10 := (FX.of s89).but nl4 hI4.pend k10
      have j10 := j8.fx f810
      have hdk10 := j10.dk.more (dlt_same H10 b)
      have hpg10 := f810.tup j8.b hpg8
      refine seq_join (t := tIfS _ _ _) (fun σ' H' => σ' = s21 a b (some (.int (0 + (i : Nat)))) D.p kd pl (some (.int n)) (some (.ref pg)) (some (.ref ld)) (some (.ref tl)) (some (.ref ls)) c11 c12 c13 (some (.ref D4.p)) (some (.bl true)) c16 c17 c18 ∧ Same H10 H') (fun N kN => ?_) ?_
      · have edq : (deqI D4.es D.es && decide (pnC (D4.pn ++ [x10]) = pnC D.pn)) = false := by
          rw [decide_eq_false, Bool.and_false]
          intro z
          have z := congrArg List.length z
          unfold pnC at z
          rw [List.length_map, List.length_map, List.length_append, eP4] at z
          have z : D.pn.length + 1 = D.pn.length := z
          omega
        refine ⟨_, rfl, _, rfl, _, rfl, D4.p, D4.dx, _, rfl, hI10.ins, .inl ⟨_, rfl, .inl ⟨_, _, hdk10.ins⟩⟩, { D4 with pn := D4.pn ++ [x10] }, .inr (.inr ⟨D, rfl, hI10, hdk10, false, congrArg V.bl edq, ?_⟩)⟩
        refine ⟨_, rfl, D.p, D.dx, _, rfl, hdk10.ins, .inr ⟨5, rfl⟩, D, .inr (.inl ⟨5, rfl, hdk10, _, rfl, ?_⟩)⟩
        refine ⟨(by show 3 ≤ sizeLine; omega), fun l1 m1 => ?_⟩
        have g1 := same_upd (o := .lst [.bl true, .bl false, .bl false]) m1
        have h1 := @upd_same H10 l1 (.lst [.bl true, .bl false, .bl false])
        generalize upd H10 l1 (.lst [.bl true, .bl false, .bl false]) = G1 at g1 h1 ⊢
        refine ⟨(by show 3 ≤ sizeLine; omega), fun l2 m2 => ?_⟩
        have g2 := same_upd (o := .lst [.bl true, .bl false, .bl false]) m2
        have h2 := @upd_same G1 l2 (.lst [.bl true, .bl false, .bl false])
        generalize upd G1 l2 (.lst [.bl true, .bl false, .bl false]) = G2 at g2 h2 ⊢
        exact ⟨.ref l1, .ref l2, .list [.bool true, .bool false, .bool false], rfl, .lst (g2 _ _ h1) (.cons (.bl _) (.cons (.bl _) (.one (.bl _)))), .lst h2 (.cons (.bl _) (.cons (.bl _) (.one (.bl _)))), rfl, by decide, fun G3 s3 => ⟨_, rfl, iteF (kN _ _ ⟨rfl, g1.trans (g2.trans s3)⟩)⟩⟩
      rintro σ11 H11 ⟨rfl, s1011⟩
      have f811 := f810.trans (.of s1011)
      clear hI10 hdk10 k10
      have j11 := j8.fx f811
      have hpg11 := s1011 _ _ hpg10
      have hpe11 := dlt_same H11 b _ _ j11.pe
      refine seq_join (t := tFor _ _ _) (fun σ' H' => ∃ (c16 : Option V), σ' = s21 a b (some (.int (0 + (i : Nat)))) D.p kd pl (some (.int n)) (some (.ref pg)) (some (.ref ld)) (some (.ref tl)) (some (.ref ls)) c11 c12 c13 (some (.ref D4.p)) (some (.bl true)) c16 c17 c18 ∧ FX Tt b H11 H') (fun N kN => ?_) ?_
      · have hBa := j11.b
        have hTa := j11.tab
        refine ⟨_, rfl, _, _, rfl, .inl ⟨_, SqL.of hpe11, rfl⟩, (by show 1 ≤ sizeLine; omega), fun q1 m1 => ?_⟩
        rw [List.length_map]
        have g1 := same_upd (o := .tup [.int (lp.length : Nat)]) m1
        have r1 : Rp (dlt (upd H11 q1 (.tup [.int (lp.length : Nat)])) b) (.ref q1) (.tuple [.int (lp.length : Nat)]) := .tup (dlt_at upd_same (bag_fresh hBa m1)) (.one (.int _))
        generalize upd H11 q1 (.tup [.int (lp.length : Nat)]) = G1 at g1 r1 ⊢
        have hG1 := hBa.same g1
        refine ⟨_, rfl, (by show 1 ≤ sizeLine; omega), fun q2 m2 => ?_⟩
        have g2 := same_upd (o := .tup [.int (-1)]) m2
        have r2 : Rp (dlt (upd G1 q2 (.tup [.int (-1)])) b) (.ref q2) (.tuple [.int (-1)]) := .tup (dlt_at upd_same (bag_fresh hG1 m2)) (.one (.int _))
        generalize upd G1 q2 (.tup [.int (-1)]) = G2 at g2 r2 ⊢
        have hG2 := hG1.same g2
        refine ⟨(by show 1 ≤ sizeLine; omega), fun q3 m3 => ?_⟩
        have g3 := same_upd (o := .lst [.int 0]) m3
        have r3 : Rp (dlt (upd G2 q3 (.lst [.int 0])) b) (.ref q3) (.list [.int 0]) := .lst (dlt_at upd_same (bag_fresh hG2 m3)) (.one (.int _))
        generalize upd G2 q3 (.lst [.int 0]) = G3 at g3 r3 ⊢
        have hG3 := hG2.same g3
        refine ⟨(by show 2 ≤ sizeLine; omega), fun q4 m4 => ?_⟩
        have g4 := same_upd (o := .tup [.int 0, .int 0]) m4
        have r4 : Rp (dlt (upd G3 q4 (.tup [.int 0, .int 0])) b) (.ref q4) (.tuple [.int 0, .int 0]) := .tup (dlt_at upd_same (bag_fresh hG3 m4)) (.cons (.int _) (.one (.int _)))
        generalize upd G3 q4 (.tup [.int 0, .int 0]) = G4 at g4 r4 ⊢
        have hG4 := hG3.same g4
        refine ⟨(by show 1 ≤ sizeLine; omega), fun q5 m5 => ?_⟩
        have g5 := same_upd (o := .tup [.str "0"]) m5
        have r5 : Rp (dlt (upd G4 q5 (.tup [.str "0"])) b) (.ref q5) (.tuple [.str "0"]) := .tup (dlt_at upd_same (bag_fresh hG4 m5)) (.one (.str _))
        generalize upd G4 q5 (.tup [.str "0"]) = G5 at g5 r5 ⊢
        have hG5 := hG4.same g5
        refine ⟨(by show 1 ≤ sizeLine; omega), fun q6 m6 => ?_⟩
        have g6 := same_upd (o := .tup [.bl true]) m6
        have r6 : Rp (dlt (upd G5 q6 (.tup [.bl true])) b) (.ref q6) (.tuple [.bool true]) := .tup (dlt_at upd_same (bag_fresh hG5 m6)) (.one (.bl _))
        generalize upd G5 q6 (.tup [.bl true]) = G6 at g6 r6 ⊢
        have hG6 := hG5.same g6
        refine ⟨(by show 7 ≤ sizeLine; omega), fun tb m7 => ?_⟩
        have g7 := same_upd (o := .tup [.ref q1, .ref q2, .non, .ref q3, .ref q4, .ref q5, .ref q6]) m7
        have h7 := @upd_same G6 tb (.tup [.ref q1, .ref q2, .non, .ref q3, .ref q4, .ref q5, .ref q6])
        have hA : RpA (dlt (upd G6 tb (.tup [.ref q1, .ref q2, .non, .ref q3, .ref q4, .ref q5, .ref q6])) b) [.ref q1, .ref q2, .non, .ref q3, .ref q4, .ref q5, .ref q6] (badsL lp.length) :=
          .cons (r1.same (dlt_mono (g2.trans (g3.trans (g4.trans (g5.trans (g6.trans g7))))))) (.cons (r2.same (dlt_mono (g3.trans (g4.trans (g5.trans (g6.trans g7)))))) (.cons .non (.cons (r3.same (dlt_mono (g4.trans (g5.trans (g6.trans g7))))) (.cons (r4.same (dlt_mono (g5.trans (g6.trans g7)))) (.cons (r5.same (dlt_mono (g6.trans g7))) (.one (r6.same (dlt_mono g7))))))))
        have sA := g1.trans (g2.trans (g3.trans (g4.trans (g5.trans (g6.trans g7)))))
        have jA := j11.fx (.of (Tt := Tt) (b := b) sA)
        refine ⟨tb, rfl, ⟨_, .inl (.inl h7)⟩, for_tup (a := tb) (xs := [.ref q1, .ref q2, .non, .ref q3, .ref q4, .ref q5, .ref q6]) (fun m σ' H' => ∃ (c16 : Option V), σ' = s21 a b (some (.int (0 + (i : Nat)))) D.p kd pl (some (.int n)) (some (.ref pg)) (some (.ref ld)) (some (.ref tl)) (some (.ref ls)) c11 c12 c13 (some (.ref D4.p)) (some (.bl true)) c16 c17 c18 ∧ FX Tt b (upd G6 tb (.tup [.ref q1, .ref q2, .non, .ref q3, .ref q4, .ref q5, .ref q6])) H') ⟨c16, rfl, .refl _ _ _⟩ (fun m σ' H' _ hh => ?_) (fun m x σ' H' hx hh => ?_) fun σ' H' hh => ?_⟩
        · obtain ⟨_, _, fi⟩ := hh
          exact .inl (.inl (fi.tup jA.b h7))
        · obtain ⟨c16', rfl, fi⟩ := hh
          obtain ⟨dx, hdx, rx⟩ := RpA.mem hA (List.mem_of_getElem? hx)
          obtain ⟨e1, e2⟩ := badsL_ok _ hl4 dx hdx
          have rx1 := fi.rp rx
          have ji := jA.fx fi
          refine hear_join (fun y H'' => FX Tt b H' H'' ∧ Rp (dlt H'' b) y (.tuple [.str "refused", .str "lot"])) ji.tab (fun J1 x1 t1 Q' k => ?_) ?_
          · have jJ := ji.fx (FX.ext x1 t1)
            have hdk := jJ.dk.more (dlt_same J1 b)
            exact ⟨_, rfl, D.p, D.dx, _, rfl, hdk.ins, dkF_no _ _ (by decide) (by decide), _, rfl, D, x, dx, rfl, hdk, ext_rp x1 (rx1.same (dlt_same H' b)), e2, by omega, fun _ J2 a2 s2 h2 => .inr (.inl ⟨rfl, a2, _, rfl, h2, fun J3 p3 s3 h3 => k _ _ ⟨(FX.ext x1 t1).trans (.of (s2.trans s3)), rp_two (jJ.b.same (s2.trans s3)) h3⟩⟩), fun z => (by rw [← le2, e1] at z; cases z)⟩
          rintro y J ⟨fj, ry⟩
          refine ⟨(by show 2 ≤ sizeLine; omega), fun p8 m8 => ?_⟩
          have g8 := same_upd (o := .tup [.str "refused", .str "lot"]) m8
          exact ⟨y, .ref p8, .tuple [.str "refused", .str "lot"], rfl, (ry.same (dlt_same J b)).same g8, .tup upd_same (.cons (.str _) (.one (.str _))), rfl, (by decide), fun J8 s8 => ⟨_, rfl, iteF ⟨_, rfl, fi.trans (fj.trans (.of (g8.trans s8)))⟩⟩⟩
        · obtain ⟨c16', rfl, fi⟩ := hh
          exact kN _ _ ⟨_, rfl, (FX.of sA).trans fi⟩
      rintro σ12 H12 ⟨c16', rfl, f1112⟩
      have f812 := f811.trans f1112
      have j12 := j8.fx f812
      have hpg12 := f1112.tup j11.b hpg11
      clear c16
      refine ⟨_, rfl, _, rfl, (by show 3 ≤ sizeLine; omega), fun t1 m1 => ?_⟩
      have g1 := same_upd (o := .tup [.int (-1), .ref pg, .str "number"]) m1
      have h1 := @upd_same H12 t1 (.tup [.int (-1), .ref pg, .str "number"])
      generalize upd H12 t1 (.tup [.int (-1), .ref pg, .str "number"]) = G1 at g1 h1 ⊢
      refine ⟨_, rfl, (by show 3 ≤ sizeLine; omega), fun t2 m2 => ?_⟩
      have g2 := same_upd (o := .tup [.int 65536, .ref pg, .str "number"]) m2
      have h2 := @upd_same G1 t2 (.tup [.int 65536, .ref pg, .str "number"])
      generalize upd G1 t2 (.tup [.int 65536, .ref pg, .str "number"]) = G2 at g2 h2 ⊢
      refine ⟨_, rfl, (by show 3 ≤ sizeLine; omega), fun t3 m3 => ?_⟩
      have g3 := same_upd (o := .tup [.bl true, .ref pg, .str "number"]) m3
      have h3 := @upd_same G2 t3 (.tup [.bl true, .ref pg, .str "number"])
      generalize upd G2 t3 (.tup [.bl true, .ref pg, .str "number"]) = G3 at g3 h3 ⊢
      refine ⟨(by show 3 ≤ sizeLine; omega), fun t4 m4 => ?_⟩
      have g4 := same_upd (o := .tup [.int 1, .non, .str "page"]) m4
      have h4 := @upd_same G3 t4 (.tup [.int 1, .non, .str "page"])
      generalize upd G3 t4 (.tup [.int 1, .non, .str "page"]) = G4 at g4 h4 ⊢
      have hpg4 := (g1.trans (g2.trans (g3.trans g4))) _ _ hpg12
      refine ⟨_, rfl, _, rfl, ?_⟩
      dsimp only [tNoPart]
      refine sl_new hpg4 fun G5 p5 g5 hp5 => ?_
      rw [show (some (1 : Int)) = some ((1 : Nat) : Int) from rfl, cut_drop, ← List.map_drop] at hp5
      refine ⟨(by show 3 ≤ sizeLine; omega), fun t6 m6 => ?_⟩
      have g6 := same_upd (o := .tup [.int 1, .ref p5, .str "page"]) m6
      have h6 := @upd_same G5 t6 (.tup [.int 1, .ref p5, .str "page"])
      generalize upd G5 t6 (.tup [.int 1, .ref p5, .str "page"]) = G6 at g6 h6 ⊢
      refine ⟨(by show 5 ≤ sizeLine; omega), fun tb m7 => ?_⟩
      have g7 := same_upd (o := .tup [.ref t1, .ref t2, .ref t3, .ref t4, .ref t6]) m7
      have h7 := @upd_same G6 tb (.tup [.ref t1, .ref t2, .ref t3, .ref t4, .ref t6])
      generalize upd G6 tb (.tup [.ref t1, .ref t2, .ref t3, .ref t4, .ref t6]) = G7 at g7 h7 ⊢
      have sA : Same H12 G7 := g1.trans (g2.trans (g3.trans (g4.trans (g5.trans (g6.trans g7)))))
      have jA := j12.fx (.of (Tt := Tt) (b := b) sA)
      have rP : Rp (dlt G7 b) (.ref pg) (.tuple (pp.map .int)) := rp_tup jA.b (sA _ _ hpg12) (.ints _)
      have rQ : Rp (dlt G7 b) (.ref p5) (.tuple ((pp.drop 1).map .int)) := rp_tup jA.b ((g6.trans g7) _ _ hp5) (.ints _)
      have zP : dsz (.tuple (pp.map PyData.int)) ≤ 1000 := by
        rw [dsz, dszs_ints]
        omega
      have zQ : dsz (.tuple ((pp.drop 1).map PyData.int)) ≤ 1000 := by
        rw [dsz, dszs_ints, List.length_drop]
        omega
      have hall : ∀ x ∈ [V.ref t1, .ref t2, .ref t3, .ref t4, .ref t6], ∃ (vb : Addr) (x0 x1 : V) (z : Str) (d0 d1 : PyData), x = .ref vb ∧ G7 vb = some (.tup [x0, x1, .str z]) ∧ Rp (dlt G7 b) x0 d0 ∧ Rp (dlt G7 b) x1 d1 ∧ dsz d1 ≤ 1000 ∧ z.length ≤ 10 ∧ ((within d0 0 65535 = false ∧ z = "number") ∨ (within d0 0 65535 = true ∧ (pfD d1).isNone = false ∧ z = "page")) := by
        intro x hx
        simp only [List.mem_cons, List.not_mem_nil, or_false] at hx
        rcases hx with rfl | rfl | rfl | rfl | rfl
        · exact ⟨t1, _, _, _, .int (-1), _, rfl, (g2.trans (g3.trans (g4.trans (g5.trans (g6.trans g7))))) _ _ h1, .int _, rP, zP, by decide, .inl ⟨rfl, rfl⟩⟩
        · exact ⟨t2, _, _, _, .int 65536, _, rfl, (g3.trans (g4.trans (g5.trans (g6.trans g7)))) _ _ h2, .int _, rP, zP, by decide, .inl ⟨rfl, rfl⟩⟩
        · exact ⟨t3, _, _, _, .bool true, _, rfl, (g4.trans (g5.trans (g6.trans g7))) _ _ h3, .bl _, rP, zP, by decide, .inl ⟨rfl, rfl⟩⟩
        · exact ⟨t4, _, _, _, .int 1, .none, rfl, (g5.trans (g6.trans g7)) _ _ h4, .int _, .non, by decide, by decide, .inr ⟨rfl, rfl, rfl⟩⟩
        · exact ⟨t6, _, _, _, .int 1, _, rfl, g7 _ _ h6, .int _, rQ, zQ, by decide, .inr ⟨rfl, by rw [pfD_len2 (by rw [List.length_drop]; omega)]; rfl, rfl⟩⟩
      refine ⟨tb, rfl, ⟨_, .inl (.inl h7)⟩, for_tup (a := tb) (D := { nx := LpI Tt CDisk a b (i + 1), rt := Q }) (xs := [.ref t1, .ref t2, .ref t3, .ref t4, .ref t6]) (fun m σ' H' => ∃ (c16 c17 c18 : Option V), σ' = s21 a b (some (.int (0 + (i : Nat)))) D.p kd pl (some (.int n)) (some (.ref pg)) (some (.ref ld)) (some (.ref tl)) (some (.ref ls)) c11 c12 c13 (some (.ref D4.p)) (some (.bl true)) c16 c17 c18 ∧ FX Tt b G7 H') ⟨c16', c17, c18, rfl, .refl _ _ _⟩ (fun m σ' H' _ hh => ?_) (fun m x σ' H' hx hh => ?_) fun σ' H' hh => ?_⟩
      · obtain ⟨_, _, _, _, fi⟩ := hh
        exact .inl (.inl (fi.tup jA.b h7))
      · obtain ⟨d16, d17, d18, rfl, fi⟩ := hh
        obtain ⟨vb, x0, x1, z, d0, d1, rfl, hvb, rx0, rx1, hz1, hzl, hbad⟩ := hall x (List.mem_of_getElem? hx)
        have ji := jA.fx fi
        have hvb1 := fi.tup jA.b hvb
        refine ⟨vb, _, rfl, .inl (.inl hvb1), rfl, _, _, rfl, _, _, rfl, _, _, rfl, rfl, ?_⟩
        refine hear_join (fun y H'' => FX Tt b H' H'' ∧ Rp (dlt H'' b) y (.tuple [.str "refused", .str z])) ji.tab (fun J1 y1 u1 Q' k => ?_) ?_
        · have jJ := ji.fx (FX.ext y1 u1)
          have hdk := jJ.dk.more (dlt_same J1 b)
          have rf : ∀ {J2 : Hp} {a2 : Addr}, Same J1 J2 → J2 a2 = some (.xd [(("why" : Str), .str z)]) → HearE CN CR CB Q' (.ref CR) (some a2) J2 := fun {J2 a2} s2 h2 => .inr (.inl ⟨rfl, a2, _, rfl, h2, fun J3 p3 s3 h3 => k _ _ ⟨(FX.ext y1 u1).trans (.of (s2.trans s3)), rp_two (jJ.b.same (s2.trans s3)) h3⟩⟩)
          refine ⟨_, rfl, D.p, D.dx, _, rfl, hdk.ins, dkF_no _ _ (by decide) (by decide), _, rfl, _, rfl, D, x0, d0, x1, d1, rfl, hdk, ext_rp y1 ((fi.rp rx0).same (dlt_same H' b)), ext_rp y1 ((fi.rp rx1).same (dlt_same H' b)), by omega, by omega, fun ew => ?_, fun ew ep => ?_, fun n' a ns e1 e2 e3 ew ep => ?_⟩
          · rcases hbad with ⟨_, rfl⟩ | ⟨e, _, _⟩
            · exact fun H6 e6 s6 h6 => rf s6 h6
            · rw [ew] at e
              cases e
          · rcases hbad with ⟨e, _⟩ | ⟨_, _, rfl⟩
            · rw [ew] at e
              cases e
            · exact fun H6 e6 s6 h6 => rf s6 h6
          · rcases hbad with ⟨e, _⟩ | ⟨_, e, _⟩
            · rw [ew] at e
              cases e
            · rw [ep] at e
              cases e
        rintro y J ⟨fj, ry⟩
        refine ⟨_, rfl, (by show 2 ≤ sizeLine; omega), fun p8 m8 => ?_⟩
        have g8 := same_upd (o := .tup [.str "refused", .str z]) m8
        exact ⟨y, .ref p8, .tuple [.str "refused", .str z], rfl, (ry.same (dlt_same J b)).same g8, .tup upd_same (.cons (.str _) (.one (.str _))), rfl, (by show 3 ≤ 1000000; omega), fun J8 s8 => ⟨_, rfl, iteF ⟨_, _, _, rfl, fi.trans (fj.trans (.of (g8.trans s8)))⟩⟩⟩
      · obtain ⟨d16, d17, d18, rfl, fi⟩ := hh
        have jZ := jA.fx fi
        exact ⟨kd, pl, D, kes, lp, _, _, _, _, _, _, _, _, _, _, _, _, _, _, rfl, jZ, eK, eP, hl4, hk4, hg⟩
    rintro σ4 H4 ⟨kd, pl, D, kes, lp, c2', c6, c7, c8, c9, c10, c11, c12, c13, c14, c15, c16, c17, c18, rfl, j, _, _, _, _, _⟩
    refine hear_join (fun y H'' => FX Tt b H4 H'' ∧ Rp (dlt H'' b) y (.tuple [.str "nothing"])) j.tab (fun J1 y1 u1 Q' k => ?_) ?_
    · have jJ := j.fx (FX.ext y1 u1)
      have hdk := jJ.dk.more (dlt_same J1 b)
      exact ⟨_, rfl, D.p, D.dx, _, rfl, hdk.ins, dkF_no _ _ (by decide) (by decide), D, .non, .none, rfl, hdk, .non, fun _ => .inl ⟨rfl, fun J3 p3 s3 h3 => k _ _ ⟨(FX.ext y1 u1).trans (.of s3), rp_tup (jJ.b.same s3) h3 (.one (.str _))⟩⟩, fun n' en => by cases en⟩
    rintro y J ⟨fj, ry⟩
    refine ⟨(by show 1 ≤ sizeLine; omega), fun p8 m8 => ?_⟩
    have g8 := same_upd (o := .tup [.str "nothing"]) m8
    exact ⟨y, .ref p8, .tuple [.str "nothing"], rfl, (ry.same (dlt_same J b)).same g8, .tup upd_same (.one (.str _)), rfl, (by decide), fun J8 s8 => q _⟩
end
end Net
namespace Net
open PySem PySem.Spec PyProof.Rows L2 NetR LamX
theorem all_mk {l : PySem.W.OpenLaw} {w : World} {K : PySem.W.Frag} {h : Heap} {mg : Str → Option Value} {fa : Addr} (X : K.In h) (G : h.Ns mainGlobals mg) (hfa : mg "law" = some (.ref fa))
    {CRd CDk CR fCR ccCR cdCR NCR CB fCB ccCB cdCB NCB CN f_is_integer f_is_within f_is_string f_are_all f_are_integers f_are_bytes f_is_tuple_of f_two f_is_leaf f_is_data f_packed f_Reader___init__ f_Reader_need f_Reader_number f_Reader_word f_Reader_string f_Reader_closed f_Reader_step f_Reader_whole f_unpacked f_sum_bytes f_sealed f_page_fault f_is_page f_body_of f_Disk___init__ f_Disk_copied f_Disk_write f_Disk_flush f_Disk___eq__ f_Disk_pending f_Disk_kept f_Disk_read f_Disk_cut f_disk_of f_all_lots f__law_take f__law_some f__law_bag f__law_alike f__law_data f__law_bytes f__law_fault f__law_heard f__law_packs_right f__law_pages_right f_law c1 Q1 c2 Q2 c3 Q3 : Addr} {t_MOST_BYTE t_NUMBER t_STRING t_TUPLE t_BASE t_MOST t_MOST_DEEP t_SIZE t_HEAD t_MOST_BODY t_PRIME t_MOST_NUMBER t_SIGNS : Tok} {zS : Str}
    {nmCR qnCR : Str} {bsCR bmCR subCR : List Value} {snCR : List Str} {abCR : Bool} {colCR : Option Bool} {ddCR : Option Addr} {m0CR m1CR m2CR m3CR m5CR : Option Value} {ocCR kVCR dcCR pmCR ctCR clCR cclCR : Value} {odCR anCR cldCR cddCR : Option Addr} {slCR cslCR ccsCR : Array (Option Value)} {vsCR : Array Value} {flCR : Str} {tfCR : Tok}
    {nmCB qnCB : Str} {bsCB bmCB subCB : List Value} {snCB : List Str} {abCB : Bool} {colCB : Option Bool} {ddCB : Option Addr} {m0CB m1CB m2CB m3CB m5CB : Option Value} {ocCB kVCB dcCB pmCB ctCB clCB cclCB : Value} {odCB anCB cldCB cddCB : Option Addr} {slCB cslCB ccsCB : Array (Option Value)} {vsCB : Array Value} {flCB : Str} {tfCB : Tok}
    {oc_is_integer kV_is_integer dc_is_integer pm_is_integer cd_is_integer ct_is_integer : Value} {od_is_integer an_is_integer : Option Addr} {sl_is_integer : Array (Option Value)}
    {oc_is_within kV_is_within dc_is_within pm_is_within cd_is_within ct_is_within : Value} {od_is_within an_is_within : Option Addr} {sl_is_within : Array (Option Value)}
    {oc_is_string kV_is_string dc_is_string pm_is_string cd_is_string ct_is_string : Value} {od_is_string an_is_string : Option Addr} {sl_is_string : Array (Option Value)}
    {oc_are_all kV_are_all dc_are_all pm_are_all cd_are_all ct_are_all : Value} {od_are_all an_are_all : Option Addr} {sl_are_all : Array (Option Value)}
    {oc_are_integers kV_are_integers dc_are_integers pm_are_integers cd_are_integers ct_are_integers : Value} {od_are_integers an_are_integers : Option Addr} {sl_are_integers : Array (Option Value)}
    {oc_are_bytes kV_are_bytes dc_are_bytes pm_are_bytes cd_are_bytes ct_are_bytes : Value} {od_are_bytes an_are_bytes : Option Addr} {sl_are_bytes : Array (Option Value)}
    {oc_is_tuple_of kV_is_tuple_of dc_is_tuple_of pm_is_tuple_of cd_is_tuple_of ct_is_tuple_of : Value} {od_is_tuple_of an_is_tuple_of : Option Addr} {sl_is_tuple_of : Array (Option Value)}
    {oc_two kV_two dc_two pm_two cd_two ct_two : Value} {od_two an_two : Option Addr} {sl_two : Array (Option Value)}
    {oc_is_leaf kV_is_leaf dc_is_leaf pm_is_leaf cd_is_leaf ct_is_leaf : Value} {od_is_leaf an_is_leaf : Option Addr} {sl_is_leaf : Array (Option Value)}
    {oc_is_data kV_is_data dc_is_data pm_is_data cd_is_data ct_is_data : Value} {od_is_data an_is_data : Option Addr} {sl_is_data : Array (Option Value)}
    {oc_packed kV_packed dc_packed pm_packed cd_packed ct_packed : Value} {od_packed an_packed : Option Addr} {sl_packed : Array (Option Value)}
    {oc_Reader___init__ kV_Reader___init__ dc_Reader___init__ pm_Reader___init__ cd_Reader___init__ ct_Reader___init__ : Value} {od_Reader___init__ an_Reader___init__ : Option Addr} {sl_Reader___init__ : Array (Option Value)}
    {oc_Reader_need kV_Reader_need dc_Reader_need pm_Reader_need cd_Reader_need ct_Reader_need : Value} {od_Reader_need an_Reader_need : Option Addr} {sl_Reader_need : Array (Option Value)}
    {oc_Reader_number kV_Reader_number dc_Reader_number pm_Reader_number cd_Reader_number ct_Reader_number : Value} {od_Reader_number an_Reader_number : Option Addr} {sl_Reader_number : Array (Option Value)}
    {oc_Reader_word kV_Reader_word dc_Reader_word pm_Reader_word cd_Reader_word ct_Reader_word : Value} {od_Reader_word an_Reader_word : Option Addr} {sl_Reader_word : Array (Option Value)}
    {oc_Reader_string kV_Reader_string dc_Reader_string pm_Reader_string cd_Reader_string ct_Reader_string : Value} {od_Reader_string an_Reader_string : Option Addr} {sl_Reader_string : Array (Option Value)}
    {oc_Reader_closed kV_Reader_closed dc_Reader_closed pm_Reader_closed cd_Reader_closed ct_Reader_closed : Value} {od_Reader_closed an_Reader_closed : Option Addr} {sl_Reader_closed : Array (Option Value)}
    {oc_Reader_step kV_Reader_step dc_Reader_step pm_Reader_step cd_Reader_step ct_Reader_step : Value} {od_Reader_step an_Reader_step : Option Addr} {sl_Reader_step : Array (Option Value)}
    {oc_Reader_whole kV_Reader_whole dc_Reader_whole pm_Reader_whole cd_Reader_whole ct_Reader_whole : Value} {od_Reader_whole an_Reader_whole : Option Addr} {sl_Reader_whole : Array (Option Value)}
    {oc_unpacked kV_unpacked dc_unpacked pm_unpacked cd_unpacked ct_unpacked : Value} {od_unpacked an_unpacked : Option Addr} {sl_unpacked : Array (Option Value)}
    {oc_sum_bytes kV_sum_bytes dc_sum_bytes pm_sum_bytes cd_sum_bytes ct_sum_bytes : Value} {od_sum_bytes an_sum_bytes : Option Addr} {sl_sum_bytes : Array (Option Value)}
    {oc_sealed kV_sealed dc_sealed pm_sealed cd_sealed ct_sealed : Value} {od_sealed an_sealed : Option Addr} {sl_sealed : Array (Option Value)}
    {oc_page_fault kV_page_fault dc_page_fault pm_page_fault cd_page_fault ct_page_fault : Value} {od_page_fault an_page_fault : Option Addr} {sl_page_fault : Array (Option Value)}
    {oc_is_page kV_is_page dc_is_page pm_is_page cd_is_page ct_is_page : Value} {od_is_page an_is_page : Option Addr} {sl_is_page : Array (Option Value)}
    {oc_body_of kV_body_of dc_body_of pm_body_of cd_body_of ct_body_of : Value} {od_body_of an_body_of : Option Addr} {sl_body_of : Array (Option Value)}
    {oc_Disk___init__ kV_Disk___init__ dc_Disk___init__ pm_Disk___init__ cd_Disk___init__ ct_Disk___init__ : Value} {od_Disk___init__ an_Disk___init__ : Option Addr} {sl_Disk___init__ : Array (Option Value)}
    {oc_Disk_copied kV_Disk_copied dc_Disk_copied pm_Disk_copied cd_Disk_copied ct_Disk_copied : Value} {od_Disk_copied an_Disk_copied : Option Addr} {sl_Disk_copied : Array (Option Value)}
    {oc_Disk_write kV_Disk_write dc_Disk_write pm_Disk_write cd_Disk_write ct_Disk_write : Value} {od_Disk_write an_Disk_write : Option Addr} {sl_Disk_write : Array (Option Value)}
    {oc_Disk_flush kV_Disk_flush dc_Disk_flush pm_Disk_flush cd_Disk_flush ct_Disk_flush : Value} {od_Disk_flush an_Disk_flush : Option Addr} {sl_Disk_flush : Array (Option Value)}
    {oc_Disk___eq__ kV_Disk___eq__ dc_Disk___eq__ pm_Disk___eq__ cd_Disk___eq__ ct_Disk___eq__ : Value} {od_Disk___eq__ an_Disk___eq__ : Option Addr} {sl_Disk___eq__ : Array (Option Value)}
    {oc_Disk_pending kV_Disk_pending dc_Disk_pending pm_Disk_pending cd_Disk_pending ct_Disk_pending : Value} {od_Disk_pending an_Disk_pending : Option Addr} {sl_Disk_pending : Array (Option Value)}
    {oc_Disk_kept kV_Disk_kept dc_Disk_kept pm_Disk_kept cd_Disk_kept ct_Disk_kept : Value} {od_Disk_kept an_Disk_kept : Option Addr} {sl_Disk_kept : Array (Option Value)}
    {oc_Disk_read kV_Disk_read dc_Disk_read pm_Disk_read cd_Disk_read ct_Disk_read : Value} {od_Disk_read an_Disk_read : Option Addr} {sl_Disk_read : Array (Option Value)}
    {oc_Disk_cut kV_Disk_cut dc_Disk_cut pm_Disk_cut cd_Disk_cut ct_Disk_cut : Value} {od_Disk_cut an_Disk_cut : Option Addr} {sl_Disk_cut : Array (Option Value)}
    {oc_disk_of kV_disk_of dc_disk_of pm_disk_of cd_disk_of ct_disk_of : Value} {od_disk_of an_disk_of : Option Addr} {sl_disk_of : Array (Option Value)}
    {oc_all_lots kV_all_lots dc_all_lots pm_all_lots cd_all_lots ct_all_lots : Value} {od_all_lots an_all_lots : Option Addr} {sl_all_lots : Array (Option Value)}
    {oc__law_take kV__law_take dc__law_take pm__law_take cd__law_take ct__law_take : Value} {od__law_take an__law_take : Option Addr} {sl__law_take : Array (Option Value)}
    {oc__law_some kV__law_some dc__law_some pm__law_some cd__law_some ct__law_some : Value} {od__law_some an__law_some : Option Addr} {sl__law_some : Array (Option Value)}
    {oc__law_bag kV__law_bag dc__law_bag pm__law_bag cd__law_bag ct__law_bag : Value} {od__law_bag an__law_bag : Option Addr} {sl__law_bag : Array (Option Value)}
    {oc__law_alike kV__law_alike dc__law_alike pm__law_alike cd__law_alike ct__law_alike : Value} {od__law_alike an__law_alike : Option Addr} {sl__law_alike : Array (Option Value)}
    {oc__law_data kV__law_data dc__law_data pm__law_data cd__law_data ct__law_data : Value} {od__law_data an__law_data : Option Addr} {sl__law_data : Array (Option Value)}
    {oc__law_bytes kV__law_bytes dc__law_bytes pm__law_bytes cd__law_bytes ct__law_bytes : Value} {od__law_bytes an__law_bytes : Option Addr} {sl__law_bytes : Array (Option Value)}
    {oc__law_fault kV__law_fault dc__law_fault pm__law_fault cd__law_fault ct__law_fault : Value} {od__law_fault an__law_fault : Option Addr} {sl__law_fault : Array (Option Value)}
    {oc__law_heard kV__law_heard dc__law_heard pm__law_heard cd__law_heard ct__law_heard : Value} {od__law_heard an__law_heard : Option Addr} {sl__law_heard : Array (Option Value)}
    {oc__law_packs_right kV__law_packs_right dc__law_packs_right pm__law_packs_right ct__law_packs_right : Value} {od__law_packs_right an__law_packs_right : Option Addr} {sl__law_packs_right : Array (Option Value)}
    {oc__law_pages_right kV__law_pages_right dc__law_pages_right pm__law_pages_right ct__law_pages_right : Value} {od__law_pages_right an__law_pages_right : Option Addr} {sl__law_pages_right : Array (Option Value)}
    {oc_law kV_law dc_law pm_law ct_law : Value} {od_law an_law : Option Addr} {sl_law : Array (Option Value)}
    {ovq1 : Value} {dvq1 : Option Addr} {vq1 : Array Value} {svq1 : Array (Option Value)}
    {ovq2 : Value} {dvq2 : Option Addr} {vq2 : Array Value} {svq2 : Array (Option Value)}
    {ovq3 : Value} {dvq3 : Option Addr} {vq3 : Array Value} {svq3 : Array (Option Value)}
    (b_len : PySem.W.nsIn K mainGlobals "len" = some none)
    (b_isinstance : PySem.W.nsIn K mainGlobals "isinstance" = some none)
    (b_all : PySem.W.nsIn K mainGlobals "all" = some none)
    (b_sum : PySem.W.nsIn K mainGlobals "sum" = some none)
    (b_tuple : PySem.W.nsIn K mainGlobals "tuple" = some none)
    (b_list : PySem.W.nsIn K mainGlobals "list" = some none)
    (b_dict : PySem.W.nsIn K mainGlobals "dict" = some none)
    (b_sorted : PySem.W.nsIn K mainGlobals "sorted" = some none)
    (b_enumerate : PySem.W.nsIn K mainGlobals "enumerate" = some none)
    (b_range : PySem.W.nsIn K mainGlobals "range" = some none)
    (b_zip : PySem.W.nsIn K mainGlobals "zip" = some none)
    (b_int : PySem.W.nsIn K mainGlobals "int" = some none)
    (b_bool : PySem.W.nsIn K mainGlobals "bool" = some none)
    (b_str : PySem.W.nsIn K mainGlobals "str" = some none)
    (b_abs : PySem.W.nsIn K mainGlobals "abs" = some none)
    (b_min : PySem.W.nsIn K mainGlobals "min" = some none)
    (b_set : PySem.W.nsIn K mainGlobals "set" = some none)
    (k_MOST_BYTE : PySem.W.nsIn K mainGlobals "MOST_BYTE" = some (some (.int 255 t_MOST_BYTE)))
    (k_NUMBER : PySem.W.nsIn K mainGlobals "NUMBER" = some (some (.int 1 t_NUMBER)))
    (k_STRING : PySem.W.nsIn K mainGlobals "STRING" = some (some (.int 2 t_STRING)))
    (k_TUPLE : PySem.W.nsIn K mainGlobals "TUPLE" = some (some (.int 3 t_TUPLE)))
    (k_BASE : PySem.W.nsIn K mainGlobals "BASE" = some (some (.int 256 t_BASE)))
    (k_MOST : PySem.W.nsIn K mainGlobals "MOST" = some (some (.int 65535 t_MOST)))
    (k_MOST_DEEP : PySem.W.nsIn K mainGlobals "MOST_DEEP" = some (some (.int 20 t_MOST_DEEP)))
    (k_SIZE : PySem.W.nsIn K mainGlobals "SIZE" = some (some (.int 64 t_SIZE)))
    (k_HEAD : PySem.W.nsIn K mainGlobals "HEAD" = some (some (.int 3 t_HEAD)))
    (k_MOST_BODY : PySem.W.nsIn K mainGlobals "MOST_BODY" = some (some (.int 61 t_MOST_BODY)))
    (k_PRIME : PySem.W.nsIn K mainGlobals "PRIME" = some (some (.int 65521 t_PRIME)))
    (k_MOST_NUMBER : PySem.W.nsIn K mainGlobals "MOST_NUMBER" = some (some (.int 65535 t_MOST_NUMBER)))
    (k_SIGNS : PySem.W.nsIn K mainGlobals "SIGNS" = some (some (.str zS t_SIGNS)))
    (e_SIGNS : zS = cs_SIGNS)
    (a_Reader : PySem.W.nsIn K mainGlobals "Reader" = some (some (.ref CRd)))
    (pg_Reader : PySem.W.plainGet K CRd Str.empty = true)
    (hd_Reader : PySem.W.hasDictIn K CRd = true)
    (po_Reader : PySem.W.plainOver K CRd = true)
    (sa_Reader : PySem.W.findIn K (.ref CRd) "__setattr__" = some (some (.builtin "object.__setattr__")))
    (mk_Reader : PySem.W.makesIn K CRd = true)
    (kc_Reader : PySem.W.keepIn K (.ref CRd) = true)
    (a_Disk : PySem.W.nsIn K mainGlobals "Disk" = some (some (.ref CDk)))
    (pg_Disk : PySem.W.plainGet K CDk Str.empty = true)
    (hd_Disk : PySem.W.hasDictIn K CDk = true)
    (po_Disk : PySem.W.plainOver K CDk = true)
    (sa_Disk : PySem.W.findIn K (.ref CDk) "__setattr__" = some (some (.builtin "object.__setattr__")))
    (mk_Disk : PySem.W.makesIn K CDk = true)
    (kc_Disk : PySem.W.keepIn K (.ref CDk) = true)
    (n_its_bytes : PySem.W.findIn K (.ref CRd) "its_bytes" = some none)
    (n_its_at : PySem.W.findIn K (.ref CRd) "its_at" = some none)
    (n_its_open : PySem.W.findIn K (.ref CRd) "its_open" = some none)
    (n_its_kept : PySem.W.findIn K (.ref CDk) "its_kept" = some none)
    (n_its_pending : PySem.W.findIn K (.ref CDk) "its_pending" = some none)
    (q_ha : PySem.W.findIn K (.ref CDk) "__class__" = some (some (.builtin "object.__class__")))
    (q_hn : PySem.W.specialIn K (.builtin "object.__class__") "__get__" = some (some (.builtin "getset_descriptor.__get__")))
    (q_htk : PySem.W.takesIn K (.builtin "object.__class__") = some true)
    (q_hm : PySem.W.mroIn K CDk (.type "object") = some true)
    (q_k1 : PySem.W.kitOne K (.ref CDk) (.ref CDk) = some true)
    (q_k2 : PySem.W.kitOne K (.type "dict") (.ref CDk) = some false)
    (q_k3 : PySem.W.kitOne K (.type "int") (.ref CDk) = some false)
    (hdi : PySem.W.subIn K (.type "int") (.ref CDk) = some false)
    (hdn : PySem.W.findIn K (.ref CDk) "__ne__" = some (some (.builtin "object.__ne__")))
    (hds : PySem.W.subIn K (.type "dict") (.ref CDk) = some false)
    (a_Refused : PySem.W.nsIn K mainGlobals "Refused" = some (some (.ref CR)))
    (x_Refused : K.lookup CR = some (excClassObj nmCR qnCR CR NCR bsCR bmCR true snCR subCR abCR colCR ddCR m0CR m1CR m2CR m3CR m5CR "ValueError.__new__"))
    (r_Refused : PySem.HandSPX.refsVE bmCR = true)
    (sa_Refused : PySem.W.findIn K (.ref CR) "__setattr__" = some (some (.builtin "object.__setattr__")))
    (ex_Refused : PySem.W.subIn K (.ref CR) (.type "BaseException") = some true)
    (ty_Refused : PySem.W.typeIn K (.ref CR) = some (.type "type"))
    (kc_Refused : PySem.W.keepIn K (.ref CR) = true)
    (i_Refused : PySem.W.findIn K (.ref CR) "__init__" = some (some (.ref fCR)))
    (ti_Refused : PySem.W.typeIn K (.ref fCR) = some (.type "function"))
    (l_Refused : K.lookup fCR = some ⟨ocCR, odCR, .func (PySem.W.ksFn "__init__" "Refused.__init__" (defArgs sRF) (defBody sRF) (defScope sRF) .none kVCR dcCR pmCR anCR (.ref cdCR) ctCR ccCR), slCR⟩)
    (c_Refused : PySem.W.codeIn K (.ref cdCR) "Refused.__init__" = true)
    (lc_Refused : K.lookup cdCR = some ⟨cclCR, cddCR, .fields vsCR, ccsCR⟩)
    (v_Refused : vsCR[2]? = some (.str flCR tfCR))
    (fl_Refused : ((l.prog.main.file : Str) == flCR) = true)
    (cel_Refused : K.lookup ccCR = some ⟨clCR, cldCR, .cell (some (.ref CR)), cslCR⟩)
    (slf_Refused : PySem.W.mroIn K CR (.ref CR) = some true)
    (sup_Refused : PySem.W.ks_superIn K CR CR "__init__" = some (some (.builtin "ValueError.__init__")))
    (isV_Refused : PySem.W.subIn K (.ref CR) (.type "ValueError") = some true)
    (ga_Refused : PySem.W.findIn K (.ref CR) "__getattribute__" = some (some (.builtin "BaseException.__getattribute__")))
    (gg_Refused : PySem.W.findIn K (.ref CR) "__getattr__" = some none)
    (hd_Refused : PySem.W.hasDictIn K CR = true)
    (a_BadBytes : PySem.W.nsIn K mainGlobals "BadBytes" = some (some (.ref CB)))
    (x_BadBytes : K.lookup CB = some (excClassObj nmCB qnCB CB NCB bsCB bmCB true snCB subCB abCB colCB ddCB m0CB m1CB m2CB m3CB m5CB "ValueError.__new__"))
    (r_BadBytes : PySem.HandSPX.refsVE bmCB = true)
    (sa_BadBytes : PySem.W.findIn K (.ref CB) "__setattr__" = some (some (.builtin "object.__setattr__")))
    (ex_BadBytes : PySem.W.subIn K (.ref CB) (.type "BaseException") = some true)
    (ty_BadBytes : PySem.W.typeIn K (.ref CB) = some (.type "type"))
    (kc_BadBytes : PySem.W.keepIn K (.ref CB) = true)
    (i_BadBytes : PySem.W.findIn K (.ref CB) "__init__" = some (some (.ref fCB)))
    (ti_BadBytes : PySem.W.typeIn K (.ref fCB) = some (.type "function"))
    (l_BadBytes : K.lookup fCB = some ⟨ocCB, odCB, .func (PySem.W.ksFn "__init__" "BadBytes.__init__" (defArgs sBB) (defBody sBB) (defScope sBB) .none kVCB dcCB pmCB anCB (.ref cdCB) ctCB ccCB), slCB⟩)
    (c_BadBytes : PySem.W.codeIn K (.ref cdCB) "BadBytes.__init__" = true)
    (lc_BadBytes : K.lookup cdCB = some ⟨cclCB, cddCB, .fields vsCB, ccsCB⟩)
    (v_BadBytes : vsCB[2]? = some (.str flCB tfCB))
    (fl_BadBytes : ((l.prog.main.file : Str) == flCB) = true)
    (cel_BadBytes : K.lookup ccCB = some ⟨clCB, cldCB, .cell (some (.ref CB)), cslCB⟩)
    (slf_BadBytes : PySem.W.mroIn K CB (.ref CB) = some true)
    (sup_BadBytes : PySem.W.ks_superIn K CB CB "__init__" = some (some (.builtin "ValueError.__init__")))
    (isV_BadBytes : PySem.W.subIn K (.ref CB) (.type "ValueError") = some true)
    (ga_BadBytes : PySem.W.findIn K (.ref CB) "__getattribute__" = some (some (.builtin "BaseException.__getattribute__")))
    (gg_BadBytes : PySem.W.findIn K (.ref CB) "__getattr__" = some none)
    (hd_BadBytes : PySem.W.hasDictIn K CB = true)
    (n_why : PySem.W.findIn K (.ref CR) "why" = some none)
    (n_at : PySem.W.findIn K (.ref CB) "at" = some none)
    (n_fault : PySem.W.findIn K (.ref CB) "fault" = some none)
    (opq : PySem.W.nsIn K PySem.cStatics "thirdparty.any" = some none)
    (mgS : PySem.W.nsIn K mainGlobals "super" = some none)
    (mgC : (l.prog.main.scope.names.lookup ("super" : Str)).isSome = false)
    (a_Nothing : PySem.W.nsIn K mainGlobals "Nothing" = some (some (.ref CN)))
    (x_Nothing : PySem.W.excIn K CN [.type "ValueError", .type "Exception", .type "BaseException", .type "object"] "ValueError.__new__" = true)
    (k_Nothing : PySem.W.keepIn K (.ref CN) = true)
    (b_Nothing : PySem.W.subIn K (.ref CN) (.type "BaseException") = some true)
    (t_Nothing : PySem.W.typeIn K (.ref CN) = some (.type "type"))
    (m_nn : PySem.W.exmOne K (.ref CN) (.ref CN) = some true)
    (m_rn : PySem.W.exmOne K (.ref CR) (.ref CN) = some false)
    (m_rr : PySem.W.exmOne K (.ref CR) (.ref CR) = some true)
    (m_bn : PySem.W.exmOne K (.ref CB) (.ref CN) = some false)
    (m_br : PySem.W.exmOne K (.ref CB) (.ref CR) = some false)
    (m_bb : PySem.W.exmOne K (.ref CB) (.ref CB) = some true)
    (g_is_integer : PySem.W.nsIn K mainGlobals "is_integer" = some (some (.ref f_is_integer)))
    (l_is_integer : K.lookup f_is_integer = some ⟨oc_is_integer, od_is_integer, .func (PySem.W.fnOf "is_integer" "is_integer" (defArgs s_is_integer) (defBody s_is_integer) (defScope s_is_integer) .none kV_is_integer dc_is_integer pm_is_integer an_is_integer cd_is_integer ct_is_integer), sl_is_integer⟩)
    (c_is_integer : PySem.W.codeIn K cd_is_integer "is_integer" = true)
    (k_is_integer : PySem.W.keepIn K (.ref f_is_integer) = true)
    (g_is_within : PySem.W.nsIn K mainGlobals "is_within" = some (some (.ref f_is_within)))
    (l_is_within : K.lookup f_is_within = some ⟨oc_is_within, od_is_within, .func (PySem.W.fnOf "is_within" "is_within" (defArgs s_is_within) (defBody s_is_within) (defScope s_is_within) .none kV_is_within dc_is_within pm_is_within an_is_within cd_is_within ct_is_within), sl_is_within⟩)
    (c_is_within : PySem.W.codeIn K cd_is_within "is_within" = true)
    (k_is_within : PySem.W.keepIn K (.ref f_is_within) = true)
    (g_is_string : PySem.W.nsIn K mainGlobals "is_string" = some (some (.ref f_is_string)))
    (l_is_string : K.lookup f_is_string = some ⟨oc_is_string, od_is_string, .func (PySem.W.fnOf "is_string" "is_string" (defArgs s_is_string) (defBody s_is_string) (defScope s_is_string) .none kV_is_string dc_is_string pm_is_string an_is_string cd_is_string ct_is_string), sl_is_string⟩)
    (c_is_string : PySem.W.codeIn K cd_is_string "is_string" = true)
    (k_is_string : PySem.W.keepIn K (.ref f_is_string) = true)
    (g_are_all : PySem.W.nsIn K mainGlobals "are_all" = some (some (.ref f_are_all)))
    (l_are_all : K.lookup f_are_all = some ⟨oc_are_all, od_are_all, .func (PySem.W.fnOf "are_all" "are_all" (defArgs s_are_all) (defBody s_are_all) (defScope s_are_all) .none kV_are_all dc_are_all pm_are_all an_are_all cd_are_all ct_are_all), sl_are_all⟩)
    (c_are_all : PySem.W.codeIn K cd_are_all "are_all" = true)
    (k_are_all : PySem.W.keepIn K (.ref f_are_all) = true)
    (g_are_integers : PySem.W.nsIn K mainGlobals "are_integers" = some (some (.ref f_are_integers)))
    (l_are_integers : K.lookup f_are_integers = some ⟨oc_are_integers, od_are_integers, .func (PySem.W.fnOf "are_integers" "are_integers" (defArgs s_are_integers) (defBody s_are_integers) (defScope s_are_integers) .none kV_are_integers dc_are_integers pm_are_integers an_are_integers cd_are_integers ct_are_integers), sl_are_integers⟩)
    (c_are_integers : PySem.W.codeIn K cd_are_integers "are_integers" = true)
    (k_are_integers : PySem.W.keepIn K (.ref f_are_integers) = true)
    (g_are_bytes : PySem.W.nsIn K mainGlobals "are_bytes" = some (some (.ref f_are_bytes)))
    (l_are_bytes : K.lookup f_are_bytes = some ⟨oc_are_bytes, od_are_bytes, .func (PySem.W.fnOf "are_bytes" "are_bytes" (defArgs s_are_bytes) (defBody s_are_bytes) (defScope s_are_bytes) .none kV_are_bytes dc_are_bytes pm_are_bytes an_are_bytes cd_are_bytes ct_are_bytes), sl_are_bytes⟩)
    (c_are_bytes : PySem.W.codeIn K cd_are_bytes "are_bytes" = true)
    (k_are_bytes : PySem.W.keepIn K (.ref f_are_bytes) = true)
    (g_is_tuple_of : PySem.W.nsIn K mainGlobals "is_tuple_of" = some (some (.ref f_is_tuple_of)))
    (l_is_tuple_of : K.lookup f_is_tuple_of = some ⟨oc_is_tuple_of, od_is_tuple_of, .func (PySem.W.fnOf "is_tuple_of" "is_tuple_of" (defArgs s_is_tuple_of) (defBody s_is_tuple_of) (defScope s_is_tuple_of) .none kV_is_tuple_of dc_is_tuple_of pm_is_tuple_of an_is_tuple_of cd_is_tuple_of ct_is_tuple_of), sl_is_tuple_of⟩)
    (c_is_tuple_of : PySem.W.codeIn K cd_is_tuple_of "is_tuple_of" = true)
    (k_is_tuple_of : PySem.W.keepIn K (.ref f_is_tuple_of) = true)
    (g_two : PySem.W.nsIn K mainGlobals "two" = some (some (.ref f_two)))
    (l_two : K.lookup f_two = some ⟨oc_two, od_two, .func (PySem.W.fnOf "two" "two" (defArgs s_two) (defBody s_two) (defScope s_two) .none kV_two dc_two pm_two an_two cd_two ct_two), sl_two⟩)
    (c_two : PySem.W.codeIn K cd_two "two" = true)
    (k_two : PySem.W.keepIn K (.ref f_two) = true)
    (g_is_leaf : PySem.W.nsIn K mainGlobals "is_leaf" = some (some (.ref f_is_leaf)))
    (l_is_leaf : K.lookup f_is_leaf = some ⟨oc_is_leaf, od_is_leaf, .func (PySem.W.fnOf "is_leaf" "is_leaf" (defArgs s_is_leaf) (defBody s_is_leaf) (defScope s_is_leaf) .none kV_is_leaf dc_is_leaf pm_is_leaf an_is_leaf cd_is_leaf ct_is_leaf), sl_is_leaf⟩)
    (c_is_leaf : PySem.W.codeIn K cd_is_leaf "is_leaf" = true)
    (k_is_leaf : PySem.W.keepIn K (.ref f_is_leaf) = true)
    (g_is_data : PySem.W.nsIn K mainGlobals "is_data" = some (some (.ref f_is_data)))
    (l_is_data : K.lookup f_is_data = some ⟨oc_is_data, od_is_data, .func (PySem.W.fnOf "is_data" "is_data" (defArgs s_is_data) (defBody s_is_data) (defScope s_is_data) .none kV_is_data dc_is_data pm_is_data an_is_data cd_is_data ct_is_data), sl_is_data⟩)
    (c_is_data : PySem.W.codeIn K cd_is_data "is_data" = true)
    (k_is_data : PySem.W.keepIn K (.ref f_is_data) = true)
    (g_packed : PySem.W.nsIn K mainGlobals "packed" = some (some (.ref f_packed)))
    (l_packed : K.lookup f_packed = some ⟨oc_packed, od_packed, .func (PySem.W.fnOf "packed" "packed" (defArgs s_packed) (defBody s_packed) (defScope s_packed) .none kV_packed dc_packed pm_packed an_packed cd_packed ct_packed), sl_packed⟩)
    (c_packed : PySem.W.codeIn K cd_packed "packed" = true)
    (k_packed : PySem.W.keepIn K (.ref f_packed) = true)
    (g_Reader___init__ : PySem.W.findIn K (.ref CRd) "__init__" = some (some (.ref f_Reader___init__)))
    (i_Reader___init__ : PySem.W.isFn K (.ref f_Reader___init__) = true)
    (l_Reader___init__ : K.lookup f_Reader___init__ = some ⟨oc_Reader___init__, od_Reader___init__, .func (PySem.W.fnOf "__init__" "Reader.__init__" (defArgs s_Reader___init__) (defBody s_Reader___init__) (defScope s_Reader___init__) .none kV_Reader___init__ dc_Reader___init__ pm_Reader___init__ an_Reader___init__ cd_Reader___init__ ct_Reader___init__), sl_Reader___init__⟩)
    (c_Reader___init__ : PySem.W.codeIn K cd_Reader___init__ "Reader.__init__" = true)
    (k_Reader___init__ : PySem.W.keepIn K (.ref f_Reader___init__) = true)
    (g_Reader_need : PySem.W.findIn K (.ref CRd) "need" = some (some (.ref f_Reader_need)))
    (i_Reader_need : PySem.W.isFn K (.ref f_Reader_need) = true)
    (l_Reader_need : K.lookup f_Reader_need = some ⟨oc_Reader_need, od_Reader_need, .func (PySem.W.fnOf "need" "Reader.need" (defArgs s_Reader_need) (defBody s_Reader_need) (defScope s_Reader_need) .none kV_Reader_need dc_Reader_need pm_Reader_need an_Reader_need cd_Reader_need ct_Reader_need), sl_Reader_need⟩)
    (c_Reader_need : PySem.W.codeIn K cd_Reader_need "Reader.need" = true)
    (k_Reader_need : PySem.W.keepIn K (.ref f_Reader_need) = true)
    (g_Reader_number : PySem.W.findIn K (.ref CRd) "number" = some (some (.ref f_Reader_number)))
    (i_Reader_number : PySem.W.isFn K (.ref f_Reader_number) = true)
    (l_Reader_number : K.lookup f_Reader_number = some ⟨oc_Reader_number, od_Reader_number, .func (PySem.W.fnOf "number" "Reader.number" (defArgs s_Reader_number) (defBody s_Reader_number) (defScope s_Reader_number) .none kV_Reader_number dc_Reader_number pm_Reader_number an_Reader_number cd_Reader_number ct_Reader_number), sl_Reader_number⟩)
    (c_Reader_number : PySem.W.codeIn K cd_Reader_number "Reader.number" = true)
    (k_Reader_number : PySem.W.keepIn K (.ref f_Reader_number) = true)
    (g_Reader_word : PySem.W.findIn K (.ref CRd) "word" = some (some (.ref f_Reader_word)))
    (i_Reader_word : PySem.W.isFn K (.ref f_Reader_word) = true)
    (l_Reader_word : K.lookup f_Reader_word = some ⟨oc_Reader_word, od_Reader_word, .func (PySem.W.fnOf "word" "Reader.word" (defArgs s_Reader_word) (defBody s_Reader_word) (defScope s_Reader_word) .none kV_Reader_word dc_Reader_word pm_Reader_word an_Reader_word cd_Reader_word ct_Reader_word), sl_Reader_word⟩)
    (c_Reader_word : PySem.W.codeIn K cd_Reader_word "Reader.word" = true)
    (k_Reader_word : PySem.W.keepIn K (.ref f_Reader_word) = true)
    (g_Reader_string : PySem.W.findIn K (.ref CRd) "string" = some (some (.ref f_Reader_string)))
    (i_Reader_string : PySem.W.isFn K (.ref f_Reader_string) = true)
    (l_Reader_string : K.lookup f_Reader_string = some ⟨oc_Reader_string, od_Reader_string, .func (PySem.W.fnOf "string" "Reader.string" (defArgs s_Reader_string) (defBody s_Reader_string) (defScope s_Reader_string) .none kV_Reader_string dc_Reader_string pm_Reader_string an_Reader_string cd_Reader_string ct_Reader_string), sl_Reader_string⟩)
    (c_Reader_string : PySem.W.codeIn K cd_Reader_string "Reader.string" = true)
    (k_Reader_string : PySem.W.keepIn K (.ref f_Reader_string) = true)
    (g_Reader_closed : PySem.W.findIn K (.ref CRd) "closed" = some (some (.ref f_Reader_closed)))
    (i_Reader_closed : PySem.W.isFn K (.ref f_Reader_closed) = true)
    (l_Reader_closed : K.lookup f_Reader_closed = some ⟨oc_Reader_closed, od_Reader_closed, .func (PySem.W.fnOf "closed" "Reader.closed" (defArgs s_Reader_closed) (defBody s_Reader_closed) (defScope s_Reader_closed) .none kV_Reader_closed dc_Reader_closed pm_Reader_closed an_Reader_closed cd_Reader_closed ct_Reader_closed), sl_Reader_closed⟩)
    (c_Reader_closed : PySem.W.codeIn K cd_Reader_closed "Reader.closed" = true)
    (k_Reader_closed : PySem.W.keepIn K (.ref f_Reader_closed) = true)
    (g_Reader_step : PySem.W.findIn K (.ref CRd) "step" = some (some (.ref f_Reader_step)))
    (i_Reader_step : PySem.W.isFn K (.ref f_Reader_step) = true)
    (l_Reader_step : K.lookup f_Reader_step = some ⟨oc_Reader_step, od_Reader_step, .func (PySem.W.fnOf "step" "Reader.step" (defArgs s_Reader_step) (defBody s_Reader_step) (defScope s_Reader_step) .none kV_Reader_step dc_Reader_step pm_Reader_step an_Reader_step cd_Reader_step ct_Reader_step), sl_Reader_step⟩)
    (c_Reader_step : PySem.W.codeIn K cd_Reader_step "Reader.step" = true)
    (k_Reader_step : PySem.W.keepIn K (.ref f_Reader_step) = true)
    (g_Reader_whole : PySem.W.findIn K (.ref CRd) "whole" = some (some (.ref f_Reader_whole)))
    (i_Reader_whole : PySem.W.isFn K (.ref f_Reader_whole) = true)
    (l_Reader_whole : K.lookup f_Reader_whole = some ⟨oc_Reader_whole, od_Reader_whole, .func (PySem.W.fnOf "whole" "Reader.whole" (defArgs s_Reader_whole) (defBody s_Reader_whole) (defScope s_Reader_whole) .none kV_Reader_whole dc_Reader_whole pm_Reader_whole an_Reader_whole cd_Reader_whole ct_Reader_whole), sl_Reader_whole⟩)
    (c_Reader_whole : PySem.W.codeIn K cd_Reader_whole "Reader.whole" = true)
    (k_Reader_whole : PySem.W.keepIn K (.ref f_Reader_whole) = true)
    (g_unpacked : PySem.W.nsIn K mainGlobals "unpacked" = some (some (.ref f_unpacked)))
    (l_unpacked : K.lookup f_unpacked = some ⟨oc_unpacked, od_unpacked, .func (PySem.W.fnOf "unpacked" "unpacked" (defArgs s_unpacked) (defBody s_unpacked) (defScope s_unpacked) .none kV_unpacked dc_unpacked pm_unpacked an_unpacked cd_unpacked ct_unpacked), sl_unpacked⟩)
    (c_unpacked : PySem.W.codeIn K cd_unpacked "unpacked" = true)
    (k_unpacked : PySem.W.keepIn K (.ref f_unpacked) = true)
    (g_sum_bytes : PySem.W.nsIn K mainGlobals "sum_bytes" = some (some (.ref f_sum_bytes)))
    (l_sum_bytes : K.lookup f_sum_bytes = some ⟨oc_sum_bytes, od_sum_bytes, .func (PySem.W.fnOf "sum_bytes" "sum_bytes" (defArgs s_sum_bytes) (defBody s_sum_bytes) (defScope s_sum_bytes) .none kV_sum_bytes dc_sum_bytes pm_sum_bytes an_sum_bytes cd_sum_bytes ct_sum_bytes), sl_sum_bytes⟩)
    (c_sum_bytes : PySem.W.codeIn K cd_sum_bytes "sum_bytes" = true)
    (k_sum_bytes : PySem.W.keepIn K (.ref f_sum_bytes) = true)
    (g_sealed : PySem.W.nsIn K mainGlobals "sealed" = some (some (.ref f_sealed)))
    (l_sealed : K.lookup f_sealed = some ⟨oc_sealed, od_sealed, .func (PySem.W.fnOf "sealed" "sealed" (defArgs s_sealed) (defBody s_sealed) (defScope s_sealed) .none kV_sealed dc_sealed pm_sealed an_sealed cd_sealed ct_sealed), sl_sealed⟩)
    (c_sealed : PySem.W.codeIn K cd_sealed "sealed" = true)
    (k_sealed : PySem.W.keepIn K (.ref f_sealed) = true)
    (g_page_fault : PySem.W.nsIn K mainGlobals "page_fault" = some (some (.ref f_page_fault)))
    (l_page_fault : K.lookup f_page_fault = some ⟨oc_page_fault, od_page_fault, .func (PySem.W.fnOf "page_fault" "page_fault" (defArgs s_page_fault) (defBody s_page_fault) (defScope s_page_fault) .none kV_page_fault dc_page_fault pm_page_fault an_page_fault cd_page_fault ct_page_fault), sl_page_fault⟩)
    (c_page_fault : PySem.W.codeIn K cd_page_fault "page_fault" = true)
    (k_page_fault : PySem.W.keepIn K (.ref f_page_fault) = true)
    (g_is_page : PySem.W.nsIn K mainGlobals "is_page" = some (some (.ref f_is_page)))
    (l_is_page : K.lookup f_is_page = some ⟨oc_is_page, od_is_page, .func (PySem.W.fnOf "is_page" "is_page" (defArgs s_is_page) (defBody s_is_page) (defScope s_is_page) .none kV_is_page dc_is_page pm_is_page an_is_page cd_is_page ct_is_page), sl_is_page⟩)
    (c_is_page : PySem.W.codeIn K cd_is_page "is_page" = true)
    (k_is_page : PySem.W.keepIn K (.ref f_is_page) = true)
    (g_body_of : PySem.W.nsIn K mainGlobals "body_of" = some (some (.ref f_body_of)))
    (l_body_of : K.lookup f_body_of = some ⟨oc_body_of, od_body_of, .func (PySem.W.fnOf "body_of" "body_of" (defArgs s_body_of) (defBody s_body_of) (defScope s_body_of) .none kV_body_of dc_body_of pm_body_of an_body_of cd_body_of ct_body_of), sl_body_of⟩)
    (c_body_of : PySem.W.codeIn K cd_body_of "body_of" = true)
    (k_body_of : PySem.W.keepIn K (.ref f_body_of) = true)
    (g_Disk___init__ : PySem.W.findIn K (.ref CDk) "__init__" = some (some (.ref f_Disk___init__)))
    (i_Disk___init__ : PySem.W.isFn K (.ref f_Disk___init__) = true)
    (l_Disk___init__ : K.lookup f_Disk___init__ = some ⟨oc_Disk___init__, od_Disk___init__, .func (PySem.W.fnOf "__init__" "Disk.__init__" (defArgs s_Disk___init__) (defBody s_Disk___init__) (defScope s_Disk___init__) .none kV_Disk___init__ dc_Disk___init__ pm_Disk___init__ an_Disk___init__ cd_Disk___init__ ct_Disk___init__), sl_Disk___init__⟩)
    (c_Disk___init__ : PySem.W.codeIn K cd_Disk___init__ "Disk.__init__" = true)
    (k_Disk___init__ : PySem.W.keepIn K (.ref f_Disk___init__) = true)
    (g_Disk_copied : PySem.W.findIn K (.ref CDk) "copied" = some (some (.ref f_Disk_copied)))
    (i_Disk_copied : PySem.W.isFn K (.ref f_Disk_copied) = true)
    (l_Disk_copied : K.lookup f_Disk_copied = some ⟨oc_Disk_copied, od_Disk_copied, .func (PySem.W.fnOf "copied" "Disk.copied" (defArgs s_Disk_copied) (defBody s_Disk_copied) (defScope s_Disk_copied) .none kV_Disk_copied dc_Disk_copied pm_Disk_copied an_Disk_copied cd_Disk_copied ct_Disk_copied), sl_Disk_copied⟩)
    (c_Disk_copied : PySem.W.codeIn K cd_Disk_copied "Disk.copied" = true)
    (k_Disk_copied : PySem.W.keepIn K (.ref f_Disk_copied) = true)
    (g_Disk_write : PySem.W.findIn K (.ref CDk) "write" = some (some (.ref f_Disk_write)))
    (i_Disk_write : PySem.W.isFn K (.ref f_Disk_write) = true)
    (l_Disk_write : K.lookup f_Disk_write = some ⟨oc_Disk_write, od_Disk_write, .func (PySem.W.fnOf "write" "Disk.write" (defArgs s_Disk_write) (defBody s_Disk_write) (defScope s_Disk_write) .none kV_Disk_write dc_Disk_write pm_Disk_write an_Disk_write cd_Disk_write ct_Disk_write), sl_Disk_write⟩)
    (c_Disk_write : PySem.W.codeIn K cd_Disk_write "Disk.write" = true)
    (k_Disk_write : PySem.W.keepIn K (.ref f_Disk_write) = true)
    (g_Disk_flush : PySem.W.findIn K (.ref CDk) "flush" = some (some (.ref f_Disk_flush)))
    (i_Disk_flush : PySem.W.isFn K (.ref f_Disk_flush) = true)
    (l_Disk_flush : K.lookup f_Disk_flush = some ⟨oc_Disk_flush, od_Disk_flush, .func (PySem.W.fnOf "flush" "Disk.flush" (defArgs s_Disk_flush) (defBody s_Disk_flush) (defScope s_Disk_flush) .none kV_Disk_flush dc_Disk_flush pm_Disk_flush an_Disk_flush cd_Disk_flush ct_Disk_flush), sl_Disk_flush⟩)
    (c_Disk_flush : PySem.W.codeIn K cd_Disk_flush "Disk.flush" = true)
    (k_Disk_flush : PySem.W.keepIn K (.ref f_Disk_flush) = true)
    (g_Disk___eq__ : PySem.W.findIn K (.ref CDk) "__eq__" = some (some (.ref f_Disk___eq__)))
    (i_Disk___eq__ : PySem.W.isFn K (.ref f_Disk___eq__) = true)
    (l_Disk___eq__ : K.lookup f_Disk___eq__ = some ⟨oc_Disk___eq__, od_Disk___eq__, .func (PySem.W.fnOf "__eq__" "Disk.__eq__" (defArgs s_Disk___eq__) (defBody s_Disk___eq__) (defScope s_Disk___eq__) .none kV_Disk___eq__ dc_Disk___eq__ pm_Disk___eq__ an_Disk___eq__ cd_Disk___eq__ ct_Disk___eq__), sl_Disk___eq__⟩)
    (c_Disk___eq__ : PySem.W.codeIn K cd_Disk___eq__ "Disk.__eq__" = true)
    (k_Disk___eq__ : PySem.W.keepIn K (.ref f_Disk___eq__) = true)
    (g_Disk_pending : PySem.W.findIn K (.ref CDk) "pending" = some (some (.ref f_Disk_pending)))
    (i_Disk_pending : PySem.W.isFn K (.ref f_Disk_pending) = true)
    (l_Disk_pending : K.lookup f_Disk_pending = some ⟨oc_Disk_pending, od_Disk_pending, .func (PySem.W.fnOf "pending" "Disk.pending" (defArgs s_Disk_pending) (defBody s_Disk_pending) (defScope s_Disk_pending) .none kV_Disk_pending dc_Disk_pending pm_Disk_pending an_Disk_pending cd_Disk_pending ct_Disk_pending), sl_Disk_pending⟩)
    (c_Disk_pending : PySem.W.codeIn K cd_Disk_pending "Disk.pending" = true)
    (k_Disk_pending : PySem.W.keepIn K (.ref f_Disk_pending) = true)
    (g_Disk_kept : PySem.W.findIn K (.ref CDk) "kept" = some (some (.ref f_Disk_kept)))
    (i_Disk_kept : PySem.W.isFn K (.ref f_Disk_kept) = true)
    (l_Disk_kept : K.lookup f_Disk_kept = some ⟨oc_Disk_kept, od_Disk_kept, .func (PySem.W.fnOf "kept" "Disk.kept" (defArgs s_Disk_kept) (defBody s_Disk_kept) (defScope s_Disk_kept) .none kV_Disk_kept dc_Disk_kept pm_Disk_kept an_Disk_kept cd_Disk_kept ct_Disk_kept), sl_Disk_kept⟩)
    (c_Disk_kept : PySem.W.codeIn K cd_Disk_kept "Disk.kept" = true)
    (k_Disk_kept : PySem.W.keepIn K (.ref f_Disk_kept) = true)
    (g_Disk_read : PySem.W.findIn K (.ref CDk) "read" = some (some (.ref f_Disk_read)))
    (i_Disk_read : PySem.W.isFn K (.ref f_Disk_read) = true)
    (l_Disk_read : K.lookup f_Disk_read = some ⟨oc_Disk_read, od_Disk_read, .func (PySem.W.fnOf "read" "Disk.read" (defArgs s_Disk_read) (defBody s_Disk_read) (defScope s_Disk_read) .none kV_Disk_read dc_Disk_read pm_Disk_read an_Disk_read cd_Disk_read ct_Disk_read), sl_Disk_read⟩)
    (c_Disk_read : PySem.W.codeIn K cd_Disk_read "Disk.read" = true)
    (k_Disk_read : PySem.W.keepIn K (.ref f_Disk_read) = true)
    (g_Disk_cut : PySem.W.findIn K (.ref CDk) "cut" = some (some (.ref f_Disk_cut)))
    (i_Disk_cut : PySem.W.isFn K (.ref f_Disk_cut) = true)
    (l_Disk_cut : K.lookup f_Disk_cut = some ⟨oc_Disk_cut, od_Disk_cut, .func (PySem.W.fnOf "cut" "Disk.cut" (defArgs s_Disk_cut) (defBody s_Disk_cut) (defScope s_Disk_cut) .none kV_Disk_cut dc_Disk_cut pm_Disk_cut an_Disk_cut cd_Disk_cut ct_Disk_cut), sl_Disk_cut⟩)
    (c_Disk_cut : PySem.W.codeIn K cd_Disk_cut "Disk.cut" = true)
    (k_Disk_cut : PySem.W.keepIn K (.ref f_Disk_cut) = true)
    (g_disk_of : PySem.W.nsIn K mainGlobals "disk_of" = some (some (.ref f_disk_of)))
    (l_disk_of : K.lookup f_disk_of = some ⟨oc_disk_of, od_disk_of, .func (PySem.W.fnOf "disk_of" "disk_of" (defArgs s_disk_of) (defBody s_disk_of) (defScope s_disk_of) .none kV_disk_of dc_disk_of pm_disk_of an_disk_of cd_disk_of ct_disk_of), sl_disk_of⟩)
    (c_disk_of : PySem.W.codeIn K cd_disk_of "disk_of" = true)
    (k_disk_of : PySem.W.keepIn K (.ref f_disk_of) = true)
    (g_all_lots : PySem.W.nsIn K mainGlobals "all_lots" = some (some (.ref f_all_lots)))
    (l_all_lots : K.lookup f_all_lots = some ⟨oc_all_lots, od_all_lots, .func (PySem.W.fnOf "all_lots" "all_lots" (defArgs s_all_lots) (defBody s_all_lots) (defScope s_all_lots) .none kV_all_lots dc_all_lots pm_all_lots an_all_lots cd_all_lots ct_all_lots), sl_all_lots⟩)
    (c_all_lots : PySem.W.codeIn K cd_all_lots "all_lots" = true)
    (k_all_lots : PySem.W.keepIn K (.ref f_all_lots) = true)
    (g__law_take : PySem.W.nsIn K mainGlobals "_law_take" = some (some (.ref f__law_take)))
    (l__law_take : K.lookup f__law_take = some ⟨oc__law_take, od__law_take, .func (PySem.W.fnOf "_law_take" "_law_take" (defArgs s__law_take) (defBody s__law_take) (defScope s__law_take) .none kV__law_take dc__law_take pm__law_take an__law_take cd__law_take ct__law_take), sl__law_take⟩)
    (c__law_take : PySem.W.codeIn K cd__law_take "_law_take" = true)
    (k__law_take : PySem.W.keepIn K (.ref f__law_take) = true)
    (g__law_some : PySem.W.nsIn K mainGlobals "_law_some" = some (some (.ref f__law_some)))
    (l__law_some : K.lookup f__law_some = some ⟨oc__law_some, od__law_some, .func (PySem.W.fnOf "_law_some" "_law_some" (defArgs s__law_some) (defBody s__law_some) (defScope s__law_some) .none kV__law_some dc__law_some pm__law_some an__law_some cd__law_some ct__law_some), sl__law_some⟩)
    (c__law_some : PySem.W.codeIn K cd__law_some "_law_some" = true)
    (k__law_some : PySem.W.keepIn K (.ref f__law_some) = true)
    (g__law_bag : PySem.W.nsIn K mainGlobals "_law_bag" = some (some (.ref f__law_bag)))
    (l__law_bag : K.lookup f__law_bag = some ⟨oc__law_bag, od__law_bag, .func (PySem.W.fnOf "_law_bag" "_law_bag" (defArgs s__law_bag) (defBody s__law_bag) (defScope s__law_bag) .none kV__law_bag dc__law_bag pm__law_bag an__law_bag cd__law_bag ct__law_bag), sl__law_bag⟩)
    (c__law_bag : PySem.W.codeIn K cd__law_bag "_law_bag" = true)
    (k__law_bag : PySem.W.keepIn K (.ref f__law_bag) = true)
    (g__law_alike : PySem.W.nsIn K mainGlobals "_law_alike" = some (some (.ref f__law_alike)))
    (l__law_alike : K.lookup f__law_alike = some ⟨oc__law_alike, od__law_alike, .func (PySem.W.fnOf "_law_alike" "_law_alike" (defArgs s__law_alike) (defBody s__law_alike) (defScope s__law_alike) .none kV__law_alike dc__law_alike pm__law_alike an__law_alike cd__law_alike ct__law_alike), sl__law_alike⟩)
    (c__law_alike : PySem.W.codeIn K cd__law_alike "_law_alike" = true)
    (k__law_alike : PySem.W.keepIn K (.ref f__law_alike) = true)
    (g__law_data : PySem.W.nsIn K mainGlobals "_law_data" = some (some (.ref f__law_data)))
    (l__law_data : K.lookup f__law_data = some ⟨oc__law_data, od__law_data, .func (PySem.W.fnOf "_law_data" "_law_data" (defArgs s__law_data) (defBody s__law_data) (defScope s__law_data) .none kV__law_data dc__law_data pm__law_data an__law_data cd__law_data ct__law_data), sl__law_data⟩)
    (c__law_data : PySem.W.codeIn K cd__law_data "_law_data" = true)
    (k__law_data : PySem.W.keepIn K (.ref f__law_data) = true)
    (g__law_bytes : PySem.W.nsIn K mainGlobals "_law_bytes" = some (some (.ref f__law_bytes)))
    (l__law_bytes : K.lookup f__law_bytes = some ⟨oc__law_bytes, od__law_bytes, .func (PySem.W.fnOf "_law_bytes" "_law_bytes" (defArgs s__law_bytes) (defBody s__law_bytes) (defScope s__law_bytes) .none kV__law_bytes dc__law_bytes pm__law_bytes an__law_bytes cd__law_bytes ct__law_bytes), sl__law_bytes⟩)
    (c__law_bytes : PySem.W.codeIn K cd__law_bytes "_law_bytes" = true)
    (k__law_bytes : PySem.W.keepIn K (.ref f__law_bytes) = true)
    (g__law_fault : PySem.W.nsIn K mainGlobals "_law_fault" = some (some (.ref f__law_fault)))
    (l__law_fault : K.lookup f__law_fault = some ⟨oc__law_fault, od__law_fault, .func (PySem.W.fnOf "_law_fault" "_law_fault" (defArgs s__law_fault) (defBody s__law_fault) (defScope s__law_fault) .none kV__law_fault dc__law_fault pm__law_fault an__law_fault cd__law_fault ct__law_fault), sl__law_fault⟩)
    (c__law_fault : PySem.W.codeIn K cd__law_fault "_law_fault" = true)
    (k__law_fault : PySem.W.keepIn K (.ref f__law_fault) = true)
    (g__law_heard : PySem.W.nsIn K mainGlobals "_law_heard" = some (some (.ref f__law_heard)))
    (l__law_heard : K.lookup f__law_heard = some ⟨oc__law_heard, od__law_heard, .func (PySem.W.fnOf "_law_heard" "_law_heard" (defArgs s__law_heard) (defBody s__law_heard) (defScope s__law_heard) .none kV__law_heard dc__law_heard pm__law_heard an__law_heard cd__law_heard ct__law_heard), sl__law_heard⟩)
    (c__law_heard : PySem.W.codeIn K cd__law_heard "_law_heard" = true)
    (k__law_heard : PySem.W.keepIn K (.ref f__law_heard) = true)
    (g__law_packs_right : PySem.W.nsIn K mainGlobals "_law_packs_right" = some (some (.ref f__law_packs_right)))
    (l__law_packs_right : K.lookup f__law_packs_right = some ⟨oc__law_packs_right, od__law_packs_right, .func (PySem.W.fnOf "_law_packs_right" "_law_packs_right" (defArgs s__law_packs_right) (defBody s__law_packs_right) (defScope s__law_packs_right) .none kV__law_packs_right dc__law_packs_right pm__law_packs_right an__law_packs_right (.ref c1) ct__law_packs_right), sl__law_packs_right⟩)
    (c__law_packs_right : PySem.W.codeIn K (.ref c1) "_law_packs_right" = true)
    (k__law_packs_right : PySem.W.keepIn K (.ref f__law_packs_right) = true)
    (g__law_pages_right : PySem.W.nsIn K mainGlobals "_law_pages_right" = some (some (.ref f__law_pages_right)))
    (l__law_pages_right : K.lookup f__law_pages_right = some ⟨oc__law_pages_right, od__law_pages_right, .func (PySem.W.fnOf "_law_pages_right" "_law_pages_right" (defArgs s__law_pages_right) (defBody s__law_pages_right) (defScope s__law_pages_right) .none kV__law_pages_right dc__law_pages_right pm__law_pages_right an__law_pages_right (.ref c2) ct__law_pages_right), sl__law_pages_right⟩)
    (c__law_pages_right : PySem.W.codeIn K (.ref c2) "_law_pages_right" = true)
    (k__law_pages_right : PySem.W.keepIn K (.ref f__law_pages_right) = true)
    (g_law : PySem.W.nsIn K mainGlobals "law" = some (some (.ref f_law)))
    (l_law : K.lookup f_law = some ⟨oc_law, od_law, .func (PySem.W.fnOf "law" "law" (defArgs s_law) (defBody s_law) (defScope s_law) .none kV_law dc_law pm_law an_law (.ref c3) ct_law), sl_law⟩)
    (c_law : PySem.W.codeIn K (.ref c3) "law" = true)
    (k_law : PySem.W.keepIn K (.ref f_law) = true)
    (lk_c1 : K.lookup c1 = some ⟨ovq1, dvq1, .fields vq1, svq1⟩)
    (v_c1 : vq1[11]? = some (.ref Q1))
    (h_c1 : PySem.W.codeHdIn K c1 Q1 = true)
    (e_c1 : h.get? Q1 = some (PySem.W.tabObj #[]))
    (nl_c1 : K.lookup Q1 = none)
    (lk_c2 : K.lookup c2 = some ⟨ovq2, dvq2, .fields vq2, svq2⟩)
    (v_c2 : vq2[11]? = some (.ref Q2))
    (h_c2 : PySem.W.codeHdIn K c2 Q2 = true)
    (e_c2 : h.get? Q2 = some (PySem.W.tabObj #[]))
    (nl_c2 : K.lookup Q2 = none)
    (lk_c3 : K.lookup c3 = some ⟨ovq3, dvq3, .fields vq3, svq3⟩)
    (v_c3 : vq3[11]? = some (.ref Q3))
    (h_c3 : PySem.W.codeHdIn K c3 Q3 = true)
    (e_c3 : h.get? Q3 = some (PySem.W.tabObj #[]))
    (nl_c3 : K.lookup Q3 = none)
    (nQ12 : Q1 ≠ Q2)
    (nQ13 : Q1 ≠ Q3)
    (nQ23 : Q2 ≠ Q3) :
    LawAtS l w K CX0 13 63 "script" mg fa h := by
  have e := hfa.symm.trans (PySem.W.mg_of X G g_law)
  cases e
  have T : Tx mg := by
    subst e_SIGNS
    exact ⟨PySem.W.mg_none_of X G b_len, PySem.W.mg_none_of X G b_isinstance, PySem.W.mg_none_of X G b_all, PySem.W.mg_none_of X G b_sum, PySem.W.mg_none_of X G b_tuple, PySem.W.mg_none_of X G b_list, PySem.W.mg_none_of X G b_dict, PySem.W.mg_none_of X G b_sorted, PySem.W.mg_none_of X G b_enumerate, PySem.W.mg_none_of X G b_range, PySem.W.mg_none_of X G b_zip, PySem.W.mg_none_of X G b_int, PySem.W.mg_none_of X G b_bool, PySem.W.mg_none_of X G b_str, PySem.W.mg_none_of X G b_abs, PySem.W.mg_none_of X G b_min, PySem.W.mg_none_of X G b_set, ⟨_, PySem.W.mg_of X G k_MOST_BYTE⟩, ⟨_, PySem.W.mg_of X G k_SIGNS⟩, ⟨_, PySem.W.mg_of X G k_NUMBER⟩, ⟨_, PySem.W.mg_of X G k_STRING⟩, ⟨_, PySem.W.mg_of X G k_TUPLE⟩, ⟨_, PySem.W.mg_of X G k_BASE⟩, ⟨_, PySem.W.mg_of X G k_MOST⟩, ⟨_, PySem.W.mg_of X G k_MOST_DEEP⟩, ⟨_, PySem.W.mg_of X G k_SIZE⟩, ⟨_, PySem.W.mg_of X G k_HEAD⟩, ⟨_, PySem.W.mg_of X G k_MOST_BODY⟩, ⟨_, PySem.W.mg_of X G k_PRIME⟩, ⟨_, PySem.W.mg_of X G k_MOST_NUMBER⟩⟩
  have xCR : ExTxt l.prog K mg CR fCR ccCR "Refused.__init__" sRF := { oex := { cls := ⟨_, _, _, _, _, _, _, _, _, _, _, _, _, _, _, x_Refused, r_Refused⟩, sa := sa_Refused, exC := ex_Refused, tyC := ty_Refused, kC := kc_Refused }, ini := i_Refused, tyI := ti_Refused, fn := ⟨_, _, _, _, _, _, _, _, _, _, _, _, _, _, _, l_Refused, c_Refused, lc_Refused, v_Refused, fl_Refused⟩, cel := ⟨_, _, _, cel_Refused⟩, slf := slf_Refused, sup := sup_Refused, isV := isV_Refused, opq := opq, mgS := PySem.W.mg_none_of X G mgS, mgC := mgC }
  have xCB : ExTxt l.prog K mg CB fCB ccCB "BadBytes.__init__" sBB := { oex := { cls := ⟨_, _, _, _, _, _, _, _, _, _, _, _, _, _, _, x_BadBytes, r_BadBytes⟩, sa := sa_BadBytes, exC := ex_BadBytes, tyC := ty_BadBytes, kC := kc_BadBytes }, ini := i_BadBytes, tyI := ti_BadBytes, fn := ⟨_, _, _, _, _, _, _, _, _, _, _, _, _, _, _, l_BadBytes, c_BadBytes, lc_BadBytes, v_BadBytes, fl_BadBytes⟩, cel := ⟨_, _, _, cel_BadBytes⟩, slf := slf_BadBytes, sup := sup_BadBytes, isV := isV_BadBytes, opq := opq, mgS := PySem.W.mg_none_of X G mgS, mgC := mgC }
  have TE : Tex l.prog K mg CR fCR ccCR CB fCB ccCB CN := { g_Refused := PySem.W.mg_of X G a_Refused, xRF := xCR, nRF := n_why, g_BadBytes := PySem.W.mg_of X G a_BadBytes, xBB := xCB, nBA := n_at, nBF := n_fault, g_Nothing := PySem.W.mg_of X G a_Nothing, xN := x_Nothing, kN := k_Nothing, bN := b_Nothing, tN := t_Nothing }
  have TX : TAx K mg CN CR CB := { gN := PySem.W.mg_of X G a_Nothing, gR := PySem.W.mg_of X G a_Refused, gB := PySem.W.mg_of X G a_BadBytes, nn := m_nn, rn := m_rn, rr := m_rr, bn := m_bn, br := m_br, bb := m_bb, xR := ⟨ga_Refused, gg_Refused, ex_Refused, hd_Refused⟩, xB := ⟨ga_BadBytes, gg_BadBytes, ex_BadBytes, hd_BadBytes⟩, fR := n_why, fA := n_at, fF := n_fault }
  have TReader : TRd K mg CRd f_Reader___init__ := { cl := ⟨pg_Reader, hd_Reader, po_Reader, sa_Reader⟩, nB := n_its_bytes, nA := n_its_at, nO := n_its_open, g := PySem.W.mg_of X G a_Reader, mkr := ⟨mk_Reader, g_Reader___init__, i_Reader___init__, kc_Reader⟩ }
  have TDisk : TDk K mg CDk f_Disk___init__ := { cl := ⟨pg_Disk, hd_Disk, po_Disk, sa_Disk⟩, nK := n_its_kept, nP := n_its_pending, g := PySem.W.mg_of X G a_Disk, mkr := ⟨mk_Disk, g_Disk___init__, i_Disk___init__, kc_Disk⟩ }
  have TDEq : TDe K CDk := ⟨q_ha, q_hn, q_htk, q_hm, q_k1, q_k2, q_k3⟩
  have hu1 : ∀ p ∈ ([(Q1, qPR), (Q2, qPG), (Q3, qLW)] : List (Addr × Str)), p.1 = Q1 → p.2 = qPR := fun p hp e => by
    simp only [List.mem_cons, List.not_mem_nil, or_false] at hp
    rcases hp with rfl | rfl | rfl
    · rfl
    · exact (nQ12 e.symm).elim
    · exact (nQ13 e.symm).elim
  have hu2 : ∀ p ∈ ([(Q1, qPR), (Q2, qPG), (Q3, qLW)] : List (Addr × Str)), p.1 = Q2 → p.2 = qPG := fun p hp e => by
    simp only [List.mem_cons, List.not_mem_nil, or_false] at hp
    rcases hp with rfl | rfl | rfl
    · exact (nQ12 e).elim
    · rfl
    · exact (nQ23 e.symm).elim
  have hu3 : ∀ p ∈ ([(Q1, qPR), (Q2, qPG), (Q3, qLW)] : List (Addr × Str)), p.1 = Q3 → p.2 = qLW := fun p hp e => by
    simp only [List.mem_cons, List.not_mem_nil, or_false] at hp
    rcases hp with rfl | rfl | rfl
    · exact (nQ13 e).elim
    · exact (nQ23 e).elim
    · rfl
  have F_is_integer := fun_mk (st := s_is_integer) l_is_integer c_is_integer k_is_integer
  have B_is_integer := F_is_integer.binds (ps := ["thing"]) fun _ _ _ _ _ _ us hl => match us, hl with | [_], _ => rfl
  have G_is_integer := PySem.W.mg_of X G g_is_integer
  have F_is_within := fun_mk (st := s_is_within) l_is_within c_is_within k_is_within
  have B_is_within := F_is_within.binds (ps := ["thing", "least", "most"]) fun _ _ _ _ _ _ us hl => match us, hl with | [_, _, _], _ => rfl
  have G_is_within := PySem.W.mg_of X G g_is_within
  have F_is_string := fun_mk (st := s_is_string) l_is_string c_is_string k_is_string
  have B_is_string := F_is_string.binds (ps := ["thing"]) fun _ _ _ _ _ _ us hl => match us, hl with | [_], _ => rfl
  have G_is_string := PySem.W.mg_of X G g_is_string
  have F_are_all := fun_mk (st := s_are_all) l_are_all c_are_all k_are_all
  have B_are_all := F_are_all.binds (ps := ["thing", "fits"]) fun _ _ _ _ _ _ us hl => match us, hl with | [_, _], _ => rfl
  have G_are_all := PySem.W.mg_of X G g_are_all
  have F_are_integers := fun_mk (st := s_are_integers) l_are_integers c_are_integers k_are_integers
  have B_are_integers := F_are_integers.binds (ps := ["thing"]) fun _ _ _ _ _ _ us hl => match us, hl with | [_], _ => rfl
  have G_are_integers := PySem.W.mg_of X G g_are_integers
  have F_are_bytes := fun_mk (st := s_are_bytes) l_are_bytes c_are_bytes k_are_bytes
  have B_are_bytes := F_are_bytes.binds (ps := ["thing"]) fun _ _ _ _ _ _ us hl => match us, hl with | [_], _ => rfl
  have G_are_bytes := PySem.W.mg_of X G g_are_bytes
  have F_is_tuple_of := fun_mk (st := s_is_tuple_of) l_is_tuple_of c_is_tuple_of k_is_tuple_of
  have B_is_tuple_of := F_is_tuple_of.binds (ps := ["thing", "many"]) fun _ _ _ _ _ _ us hl => match us, hl with | [_, _], _ => rfl
  have G_is_tuple_of := PySem.W.mg_of X G g_is_tuple_of
  have F_two := fun_mk (st := s_two) l_two c_two k_two
  have B_two := F_two.binds (ps := ["number"]) fun _ _ _ _ _ _ us hl => match us, hl with | [_], _ => rfl
  have G_two := PySem.W.mg_of X G g_two
  have F_is_leaf := fun_mk (st := s_is_leaf) l_is_leaf c_is_leaf k_is_leaf
  have B_is_leaf := F_is_leaf.binds (ps := ["thing"]) fun _ _ _ _ _ _ us hl => match us, hl with | [_], _ => rfl
  have G_is_leaf := PySem.W.mg_of X G g_is_leaf
  have F_is_data := fun_mk (st := s_is_data) l_is_data c_is_data k_is_data
  have B_is_data := F_is_data.binds (ps := ["thing"]) fun _ _ _ _ _ _ us hl => match us, hl with | [_], _ => rfl
  have G_is_data := PySem.W.mg_of X G g_is_data
  have F_packed := fun_mk (st := s_packed) l_packed c_packed k_packed
  have B_packed := F_packed.binds (ps := ["thing"]) fun _ _ _ _ _ _ us hl => match us, hl with | [_], _ => rfl
  have G_packed := PySem.W.mg_of X G g_packed
  have F_Reader___init__ := fun_mk (st := s_Reader___init__) l_Reader___init__ c_Reader___init__ k_Reader___init__
  have B_Reader___init__ := F_Reader___init__.binds (ps := ["self", "some"]) fun _ _ _ _ _ _ us hl => match us, hl with | [_, _], _ => rfl
  have F_Reader_need := fun_mk (st := s_Reader_need) l_Reader_need c_Reader_need k_Reader_need
  have B_Reader_need := F_Reader_need.binds (ps := ["self", "many"]) fun _ _ _ _ _ _ us hl => match us, hl with | [_, _], _ => rfl
  have F_Reader_number := fun_mk (st := s_Reader_number) l_Reader_number c_Reader_number k_Reader_number
  have B_Reader_number := F_Reader_number.binds (ps := ["self"]) fun _ _ _ _ _ _ us hl => match us, hl with | [_], _ => rfl
  have F_Reader_word := fun_mk (st := s_Reader_word) l_Reader_word c_Reader_word k_Reader_word
  have B_Reader_word := F_Reader_word.binds (ps := ["self"]) fun _ _ _ _ _ _ us hl => match us, hl with | [_], _ => rfl
  have F_Reader_string := fun_mk (st := s_Reader_string) l_Reader_string c_Reader_string k_Reader_string
  have B_Reader_string := F_Reader_string.binds (ps := ["self", "many"]) fun _ _ _ _ _ _ us hl => match us, hl with | [_, _], _ => rfl
  have F_Reader_closed := fun_mk (st := s_Reader_closed) l_Reader_closed c_Reader_closed k_Reader_closed
  have B_Reader_closed := F_Reader_closed.binds (ps := ["self", "thing"]) fun _ _ _ _ _ _ us hl => match us, hl with | [_, _], _ => rfl
  have F_Reader_step := fun_mk (st := s_Reader_step) l_Reader_step c_Reader_step k_Reader_step
  have B_Reader_step := F_Reader_step.binds (ps := ["self"]) fun _ _ _ _ _ _ us hl => match us, hl with | [_], _ => rfl
  have F_Reader_whole := fun_mk (st := s_Reader_whole) l_Reader_whole c_Reader_whole k_Reader_whole
  have B_Reader_whole := F_Reader_whole.binds (ps := ["self"]) fun _ _ _ _ _ _ us hl => match us, hl with | [_], _ => rfl
  have F_unpacked := fun_mk (st := s_unpacked) l_unpacked c_unpacked k_unpacked
  have B_unpacked := F_unpacked.binds (ps := ["some"]) fun _ _ _ _ _ _ us hl => match us, hl with | [_], _ => rfl
  have G_unpacked := PySem.W.mg_of X G g_unpacked
  have F_sum_bytes := fun_mk (st := s_sum_bytes) l_sum_bytes c_sum_bytes k_sum_bytes
  have B_sum_bytes := F_sum_bytes.binds (ps := ["some"]) fun _ _ _ _ _ _ us hl => match us, hl with | [_], _ => rfl
  have G_sum_bytes := PySem.W.mg_of X G g_sum_bytes
  have F_sealed := fun_mk (st := s_sealed) l_sealed c_sealed k_sealed
  have B_sealed := F_sealed.binds (ps := ["body"]) fun _ _ _ _ _ _ us hl => match us, hl with | [_], _ => rfl
  have G_sealed := PySem.W.mg_of X G g_sealed
  have F_page_fault := fun_mk (st := s_page_fault) l_page_fault c_page_fault k_page_fault
  have B_page_fault := F_page_fault.binds (ps := ["thing"]) fun _ _ _ _ _ _ us hl => match us, hl with | [_], _ => rfl
  have G_page_fault := PySem.W.mg_of X G g_page_fault
  have F_is_page := fun_mk (st := s_is_page) l_is_page c_is_page k_is_page
  have B_is_page := F_is_page.binds (ps := ["thing"]) fun _ _ _ _ _ _ us hl => match us, hl with | [_], _ => rfl
  have G_is_page := PySem.W.mg_of X G g_is_page
  have F_body_of := fun_mk (st := s_body_of) l_body_of c_body_of k_body_of
  have B_body_of := F_body_of.binds (ps := ["page"]) fun _ _ _ _ _ _ us hl => match us, hl with | [_], _ => rfl
  have G_body_of := PySem.W.mg_of X G g_body_of
  have F_Disk___init__ := fun_mk (st := s_Disk___init__) l_Disk___init__ c_Disk___init__ k_Disk___init__
  have B_Disk___init__ := F_Disk___init__.binds (ps := ["self"]) fun _ _ _ _ _ _ us hl => match us, hl with | [_], _ => rfl
  have F_Disk_copied := fun_mk (st := s_Disk_copied) l_Disk_copied c_Disk_copied k_Disk_copied
  have B_Disk_copied := F_Disk_copied.binds (ps := ["self"]) fun _ _ _ _ _ _ us hl => match us, hl with | [_], _ => rfl
  have F_Disk_write := fun_mk (st := s_Disk_write) l_Disk_write c_Disk_write k_Disk_write
  have B_Disk_write := F_Disk_write.binds (ps := ["self", "number", "page"]) fun _ _ _ _ _ _ us hl => match us, hl with | [_, _, _], _ => rfl
  have F_Disk_flush := fun_mk (st := s_Disk_flush) l_Disk_flush c_Disk_flush k_Disk_flush
  have B_Disk_flush := F_Disk_flush.binds (ps := ["self"]) fun _ _ _ _ _ _ us hl => match us, hl with | [_], _ => rfl
  have F_Disk___eq__ := fun_mk (st := s_Disk___eq__) l_Disk___eq__ c_Disk___eq__ k_Disk___eq__
  have B_Disk___eq__ := F_Disk___eq__.binds (ps := ["self", "other"]) fun _ _ _ _ _ _ us hl => match us, hl with | [_, _], _ => rfl
  have F_Disk_pending := fun_mk (st := s_Disk_pending) l_Disk_pending c_Disk_pending k_Disk_pending
  have B_Disk_pending := F_Disk_pending.binds (ps := ["self"]) fun _ _ _ _ _ _ us hl => match us, hl with | [_], _ => rfl
  have F_Disk_kept := fun_mk (st := s_Disk_kept) l_Disk_kept c_Disk_kept k_Disk_kept
  have B_Disk_kept := F_Disk_kept.binds (ps := ["self"]) fun _ _ _ _ _ _ us hl => match us, hl with | [_], _ => rfl
  have F_Disk_read := fun_mk (st := s_Disk_read) l_Disk_read c_Disk_read k_Disk_read
  have B_Disk_read := F_Disk_read.binds (ps := ["self", "number"]) fun _ _ _ _ _ _ us hl => match us, hl with | [_, _], _ => rfl
  have F_Disk_cut := fun_mk (st := s_Disk_cut) l_Disk_cut c_Disk_cut k_Disk_cut
  have B_Disk_cut := F_Disk_cut.binds (ps := ["self", "lot"]) fun _ _ _ _ _ _ us hl => match us, hl with | [_, _], _ => rfl
  have F_disk_of := fun_mk (st := s_disk_of) l_disk_of c_disk_of k_disk_of
  have B_disk_of := F_disk_of.binds (ps := ["pages"]) fun _ _ _ _ _ _ us hl => match us, hl with | [_], _ => rfl
  have G_disk_of := PySem.W.mg_of X G g_disk_of
  have F_all_lots := fun_mk (st := s_all_lots) l_all_lots c_all_lots k_all_lots
  have B_all_lots := F_all_lots.binds (ps := ["many"]) fun _ _ _ _ _ _ us hl => match us, hl with | [_], _ => rfl
  have G_all_lots := PySem.W.mg_of X G g_all_lots
  have F__law_take := fun_mk (st := s__law_take) l__law_take c__law_take k__law_take
  have B__law_take := F__law_take.binds (ps := ["bag", "many"]) fun _ _ _ _ _ _ us hl => match us, hl with | [_, _], _ => rfl
  have G__law_take := PySem.W.mg_of X G g__law_take
  have F__law_some := fun_mk (st := s__law_some) l__law_some c__law_some k__law_some
  have B__law_some := F__law_some.binds (ps := ["bag", "things"]) fun _ _ _ _ _ _ us hl => match us, hl with | [_, _], _ => rfl
  have G__law_some := PySem.W.mg_of X G g__law_some
  have F__law_bag := fun_mk (st := s__law_bag) l__law_bag c__law_bag k__law_bag
  have B__law_bag := F__law_bag.binds (ps := ["script"]) fun _ _ _ _ _ _ us hl => match us, hl with | [_], _ => rfl
  have G__law_bag := PySem.W.mg_of X G g__law_bag
  have F__law_alike := fun_mk (st := s__law_alike) l__law_alike c__law_alike k__law_alike
  have B__law_alike := F__law_alike.binds (ps := ["found", "due"]) fun _ _ _ _ _ _ us hl => match us, hl with | [_, _], _ => rfl
  have G__law_alike := PySem.W.mg_of X G g__law_alike
  have F__law_data := fun_mk (st := s__law_data) l__law_data c__law_data k__law_data
  have B__law_data := F__law_data.binds (ps := ["bag"]) fun _ _ _ _ _ _ us hl => match us, hl with | [_], _ => rfl
  have G__law_data := PySem.W.mg_of X G g__law_data
  have F__law_bytes := fun_mk (st := s__law_bytes) l__law_bytes c__law_bytes k__law_bytes
  have B__law_bytes := F__law_bytes.binds (ps := ["thing"]) fun _ _ _ _ _ _ us hl => match us, hl with | [_], _ => rfl
  have G__law_bytes := PySem.W.mg_of X G g__law_bytes
  have F__law_fault := fun_mk (st := s__law_fault) l__law_fault c__law_fault k__law_fault
  have B__law_fault := F__law_fault.binds (ps := ["some"]) fun _ _ _ _ _ _ us hl => match us, hl with | [_], _ => rfl
  have G__law_fault := PySem.W.mg_of X G g__law_fault
  have F__law_heard := fun_mk (st := s__law_heard) l__law_heard c__law_heard k__law_heard
  have B__law_heard := F__law_heard.binds (ps := ["act"]) fun _ _ _ _ _ _ us hl => match us, hl with | [_], _ => rfl
  have G__law_heard := PySem.W.mg_of X G g__law_heard
  have FC__law_packs_right : FunC K "_law_packs_right" "_law_packs_right" s__law_packs_right f__law_packs_right _ c1 := ⟨⟨_, _, _, _, _, _, _, _, rfl, l__law_packs_right, c__law_packs_right⟩, k__law_packs_right⟩
  have F__law_packs_right := FC__law_packs_right.fn
  have B__law_packs_right := F__law_packs_right.binds (ps := ["bag"]) fun _ _ _ _ _ _ us hl => match us, hl with | [_], _ => rfl
  have G__law_packs_right := PySem.W.mg_of X G g__law_packs_right
  have FC__law_pages_right : FunC K "_law_pages_right" "_law_pages_right" s__law_pages_right f__law_pages_right _ c2 := ⟨⟨_, _, _, _, _, _, _, _, rfl, l__law_pages_right, c__law_pages_right⟩, k__law_pages_right⟩
  have F__law_pages_right := FC__law_pages_right.fn
  have B__law_pages_right := F__law_pages_right.binds (ps := ["bag"]) fun _ _ _ _ _ _ us hl => match us, hl with | [_], _ => rfl
  have G__law_pages_right := PySem.W.mg_of X G g__law_pages_right
  have FC_law : FunC K "law" "law" s_law _ _ c3 := ⟨⟨_, _, _, _, _, _, _, _, rfl, l_law, c_law⟩, k_law⟩
  have F_law := FC_law.fn
  have B_law := F_law.binds (ps := ["script"]) fun _ _ _ _ _ _ us hl => match us, hl with | [_], _ => rfl
  have G_law := PySem.W.mg_of X G g_law
  refine ⟨PySem.W.fnOf "law" "law" (defArgs s_law) (defBody s_law) (defScope s_law) .none kV_law dc_law pm_law an_law (.ref c3) ct_law, [(c1, Q1), (c2, Q2), (c3, Q3)], sp_thelaw K [(Q1, qPR), (Q2, qPG), (Q3, qLW)], fun p hp => ?_, fun p hp => ?_, fun p hp => ?_, fun s u => .of_eq rfl, fun H a ns _ _ hH hS => ⟨a, ns, rfl, hS, fun p hp => ?_, fun _ => rfl⟩, fun base hb hn hTB => ?_⟩
  · simp only [List.mem_cons, List.not_mem_nil, or_false] at hp
    rcases hp with rfl | rfl | rfl
    · exact e_c1
    · exact e_c2
    · exact e_c3
  · simp only [List.mem_cons, List.not_mem_nil, or_false] at hp
    rcases hp with rfl | rfl | rfl
    · exact nl_c1
    · exact nl_c2
    · exact nl_c3
  · simp only [List.mem_cons, List.not_mem_nil, or_false] at hp
    rcases hp with rfl | rfl | rfl
    · exact PySem.W.codeHd_of_K X h_c1
    · exact PySem.W.codeHd_of_K X h_c2
    · exact PySem.W.codeHd_of_K X h_c3
  · simp only [List.mem_cons, List.not_mem_nil, or_false] at hp
    rcases hp with rfl | rfl | rfl
    · exact TabS.nil (hH (c1, Q1) (by simp))
    · exact TabS.nil (hH (c2, Q2) (by simp))
    · exact TabS.nil (hH (c3, Q3) (by simp))
  have d_is_integer : Ok1 l.prog w K mg base CX0 1 "is_integer" ["thing"] sp_is_integer f_is_integer _ := ⟨G_is_integer, k_is_integer, B_is_integer, ok_is_integer F_is_integer T⟩
  have d_is_within : Ok1 l.prog w K mg base CX0 2 "is_within" ["thing", "least", "most"] sp_is_within f_is_within _ := ⟨G_is_within, k_is_within, B_is_within, ok_is_within F_is_within T d_is_integer⟩
  have d_is_string : Ok1 l.prog w K mg base CX0 1 "is_string" ["thing"] sp_is_string f_is_string _ := ⟨G_is_string, k_is_string, B_is_string, ok_is_string F_is_string T⟩
  have d_are_all : Ok1 l.prog w K mg base CX0 2 "are_all" ["thing", "fits"] (sp_are_all f_is_integer) f_are_all _ := ⟨G_are_all, k_are_all, B_are_all, ok_are_all F_are_all T d_is_integer⟩
  have d_are_integers : Ok1 l.prog w K mg base CX0 3 "are_integers" ["thing"] sp_are_integers f_are_integers _ := ⟨G_are_integers, k_are_integers, B_are_integers, ok_are_integers F_are_integers T d_is_integer d_are_all⟩
  have d_are_bytes : Ok1 l.prog w K mg base CX0 4 "are_bytes" ["thing"] sp_are_bytes f_are_bytes _ := ⟨G_are_bytes, k_are_bytes, B_are_bytes, ok_are_bytes F_are_bytes T d_are_integers⟩
  have d_is_tuple_of : Ok1 l.prog w K mg base CX0 1 "is_tuple_of" ["thing", "many"] sp_is_tuple_of f_is_tuple_of _ := ⟨G_is_tuple_of, k_is_tuple_of, B_is_tuple_of, ok_is_tuple_of F_is_tuple_of T⟩
  have d_two : Ok1 l.prog w K mg base CX0 1 "two" ["number"] sp_two f_two _ := ⟨G_two, k_two, B_two, ok_two F_two T⟩
  have d_is_leaf : Ok1 l.prog w K mg base CX0 3 "is_leaf" ["thing"] sp_is_leaf f_is_leaf _ := ⟨G_is_leaf, k_is_leaf, B_is_leaf, ok_is_leaf F_is_leaf T d_is_string d_is_within⟩
  have d_is_data : Ok1 l.prog w K mg base CX0 4 "is_data" ["thing"] sp_is_data f_is_data _ := ⟨G_is_data, k_is_data, B_is_data, ok_is_data F_is_data T d_is_leaf⟩
  have d_packed : Ok1 l.prog w K mg base (L2.CX l.prog w) 5 "packed" ["thing"] (sp_packed CR) f_packed _ := ⟨G_packed, k_packed, B_packed, ok_packed F_packed T TE d_is_data d_is_string d_two⟩
  have d_Reader___init__ : OkM l.prog w K mg base CX0 1 CRd "__init__" ["self", "some"] (sp_rdinit CRd) f_Reader___init__ _ := ⟨⟨g_Reader___init__, i_Reader___init__, k_Reader___init__⟩, B_Reader___init__, ok_rdinit F_Reader___init__ TReader⟩
  have d_Reader_need : OkM l.prog w K mg base (L2.CX l.prog w) 3 CRd "need" ["self", "many"] (sp_need CRd CB) f_Reader_need _ := ⟨⟨g_Reader_need, i_Reader_need, k_Reader_need⟩, B_Reader_need, ok_need F_Reader_need T TE TReader⟩
  have d_Reader_number : OkM l.prog w K mg base (L2.CX l.prog w) 4 CRd "number" ["self"] (sp_number CRd CB) f_Reader_number _ := ⟨⟨g_Reader_number, i_Reader_number, k_Reader_number⟩, B_Reader_number, ok_number F_Reader_number T TReader d_Reader_need⟩
  have d_Reader_word : OkM l.prog w K mg base (L2.CX l.prog w) 4 CRd "word" ["self"] (sp_word CRd CB) f_Reader_word _ := ⟨⟨g_Reader_word, i_Reader_word, k_Reader_word⟩, B_Reader_word, ok_word F_Reader_word T TE TReader d_Reader_need⟩
  have d_Reader_string : OkM l.prog w K mg base (L2.CX l.prog w) 4 CRd "string" ["self", "many"] (sp_string CRd CB) f_Reader_string _ := ⟨⟨g_Reader_string, i_Reader_string, k_Reader_string⟩, B_Reader_string, ok_string F_Reader_string T TE TReader d_Reader_need⟩
  have d_Reader_closed : OkM l.prog w K mg base CX0 1 CRd "closed" ["self", "thing"] (sp_closed CRd) f_Reader_closed _ := ⟨⟨g_Reader_closed, i_Reader_closed, k_Reader_closed⟩, B_Reader_closed, ok_closed F_Reader_closed T TReader⟩
  have d_Reader_step : OkM l.prog w K mg base (L2.CX l.prog w) 5 CRd "step" ["self"] (sp_step CRd CB) f_Reader_step _ := ⟨⟨g_Reader_step, i_Reader_step, k_Reader_step⟩, B_Reader_step, ok_step F_Reader_step T TReader d_Reader_word d_Reader_number d_Reader_string d_Reader_closed⟩
  have d_Reader_whole : OkM l.prog w K mg base (L2.CX l.prog w) 6 CRd "whole" ["self"] (sp_whole CRd CB) f_Reader_whole _ := ⟨⟨g_Reader_whole, i_Reader_whole, k_Reader_whole⟩, B_Reader_whole, ok_whole F_Reader_whole T TE TReader d_Reader_step⟩
  have d_unpacked : Ok1 l.prog w K mg base (L2.CX l.prog w) 7 "unpacked" ["some"] (sp_unpacked CB) f_unpacked _ := ⟨G_unpacked, k_unpacked, B_unpacked, ok_unpacked F_unpacked T TE TReader d_are_bytes d_Reader___init__ d_Reader_whole⟩
  have d_sum_bytes : Ok1 l.prog w K mg base CX0 2 "sum_bytes" ["some"] sp_sum_bytes f_sum_bytes _ := ⟨G_sum_bytes, k_sum_bytes, B_sum_bytes, ok_sum_bytes F_sum_bytes T d_two⟩
  have d_sealed : Ok1 l.prog w K mg base (L2.CX l.prog w) 5 "sealed" ["body"] (sp_sealed CR) f_sealed _ := ⟨G_sealed, k_sealed, B_sealed, ok_sealed F_sealed T TE d_are_bytes d_sum_bytes⟩
  have d_page_fault : Ok1 l.prog w K mg base CX0 5 "page_fault" ["thing"] sp_page_fault f_page_fault _ := ⟨G_page_fault, k_page_fault, B_page_fault, ok_page_fault F_page_fault T d_are_bytes d_is_tuple_of d_sum_bytes⟩
  have d_is_page : Ok1 l.prog w K mg base CX0 6 "is_page" ["thing"] sp_is_page f_is_page _ := ⟨G_is_page, k_is_page, B_is_page, ok_is_page F_is_page d_page_fault⟩
  have d_body_of : Ok1 l.prog w K mg base (L2.CX l.prog w) 6 "body_of" ["page"] (sp_body_of CB) f_body_of _ := ⟨G_body_of, k_body_of, B_body_of, ok_body_of F_body_of T TE d_page_fault⟩
  have d_Disk___init__ : OkM l.prog w K mg base CX0 1 CDk "__init__" ["self"] (sp_dkinit CDk) f_Disk___init__ _ := ⟨⟨g_Disk___init__, i_Disk___init__, k_Disk___init__⟩, B_Disk___init__, ok_dkinit F_Disk___init__ TDisk⟩
  have d_Disk_copied : OkM l.prog w K mg base CX0 3 CDk "copied" ["self"] (sp_copied CDk) f_Disk_copied _ := ⟨⟨g_Disk_copied, i_Disk_copied, k_Disk_copied⟩, B_Disk_copied, ok_copied F_Disk_copied T TDisk d_Disk___init__⟩
  have d_Disk_write : OkM l.prog w K mg base (L2.CX l.prog w) 7 CDk "write" ["self", "number", "page"] (sp_write CDk CR) f_Disk_write _ := ⟨⟨g_Disk_write, i_Disk_write, k_Disk_write⟩, B_Disk_write, ok_write F_Disk_write T TE TDisk d_is_within d_is_page⟩
  have d_Disk_flush : OkM l.prog w K mg base CX0 1 CDk "flush" ["self"] (sp_flush CDk) f_Disk_flush _ := ⟨⟨g_Disk_flush, i_Disk_flush, k_Disk_flush⟩, B_Disk_flush, ok_flush F_Disk_flush T TDisk⟩
  have d_Disk___eq__ : OkM l.prog w K mg base CX0 1 CDk "__eq__" ["self", "other"] (sp_dkeq CDk) f_Disk___eq__ _ := ⟨⟨g_Disk___eq__, i_Disk___eq__, k_Disk___eq__⟩, B_Disk___eq__, ok_dkeq F_Disk___eq__ T TDisk TDEq⟩
  have d_Disk_pending : OkM l.prog w K mg base CX0 1 CDk "pending" ["self"] (sp_pending CDk) f_Disk_pending _ := ⟨⟨g_Disk_pending, i_Disk_pending, k_Disk_pending⟩, B_Disk_pending, ok_pending F_Disk_pending T TDisk⟩
  have d_Disk_kept : OkM l.prog w K mg base CX0 1 CDk "kept" ["self"] (sp_kept CDk) f_Disk_kept _ := ⟨⟨g_Disk_kept, i_Disk_kept, k_Disk_kept⟩, B_Disk_kept, ok_kept F_Disk_kept T TDisk⟩
  have d_Disk_read : OkM l.prog w K mg base (L2.CX l.prog w) 3 CDk "read" ["self", "number"] (sp_read CDk CN) f_Disk_read _ := ⟨⟨g_Disk_read, i_Disk_read, k_Disk_read⟩, B_Disk_read, ok_read F_Disk_read T TE TDisk d_is_within⟩
  have d_Disk_cut : OkM l.prog w K mg base (L2.CX l.prog w) 4 CDk "cut" ["self", "lot"] (sp_cut CDk CR) f_Disk_cut _ := ⟨⟨g_Disk_cut, i_Disk_cut, k_Disk_cut⟩, B_Disk_cut, ok_cut F_Disk_cut T TE TDisk d_Disk___init__ d_are_integers⟩
  have d_disk_of : Ok1 l.prog w K mg base (L2.CX l.prog w) 8 "disk_of" ["pages"] (sp_disk_of CDk) f_disk_of _ := ⟨G_disk_of, k_disk_of, B_disk_of, ok_disk_of F_disk_of T TDisk d_Disk___init__ d_Disk_write d_Disk_flush⟩
  have d_all_lots : Ok1 l.prog w K mg base CX0 1 "all_lots" ["many"] sp_all_lots f_all_lots _ := ⟨G_all_lots, k_all_lots, B_all_lots, ok_all_lots F_all_lots T⟩
  have d__law_take : Ok1 l.prog w K mg base CX0 1 "_law_take" ["bag", "many"] sp_take f__law_take _ := ⟨G__law_take, k__law_take, B__law_take, ok_take F__law_take T⟩
  have d__law_some : Ok1 l.prog w K mg base CX0 2 "_law_some" ["bag", "things"] sp_some f__law_some _ := ⟨G__law_some, k__law_some, B__law_some, ok_some F__law_some T d__law_take⟩
  have d__law_bag : Ok1 l.prog w K mg base CX0 1 "_law_bag" ["script"] (sp_lbag K) f__law_bag _ := ⟨G__law_bag, k__law_bag, B__law_bag, ok_lbag F__law_bag T⟩
  have d__law_alike : Ok1 l.prog w K mg base CX0 1 "_law_alike" ["found", "due"] sp_alike f__law_alike _ := ⟨G__law_alike, k__law_alike, B__law_alike, ok_alike F__law_alike T⟩
  have d__law_data : Ok1 l.prog w K mg base CX0 3 "_law_data" ["bag"] sp_ldata f__law_data _ := ⟨G__law_data, k__law_data, B__law_data, ok_ldata F__law_data T d__law_take d__law_some⟩
  have d__law_bytes : Ok1 l.prog w K mg base CX0 2 "_law_bytes" ["thing"] sp_lbytes f__law_bytes _ := ⟨G__law_bytes, k__law_bytes, B__law_bytes, ok_lbytes F__law_bytes T⟩
  have d__law_fault : Ok1 l.prog w K mg base CX0 1 "_law_fault" ["some"] sp_lfault f__law_fault _ := ⟨G__law_fault, k__law_fault, B__law_fault, ok_lfault F__law_fault T⟩
  have d__law_packs_right : Ok1 l.prog w K mg base CX0 12 "_law_packs_right" ["bag"] (sp_right [(Q1, qPR), (Q2, qPG), (Q3, qLW)]) f__law_packs_right _ := ⟨G__law_packs_right, k__law_packs_right, B__law_packs_right, ok_packs FC__law_packs_right T F__law_heard G__law_heard B__law_heard TX (hTB (c1, Q1) (by simp)) (by simp) hu1 d__law_take d__law_some d__law_data d__law_bytes d__law_alike d__law_fault d_packed d_unpacked⟩
  have d__law_pages_right : Ok1 l.prog w K mg base CX0 12 "_law_pages_right" ["bag"] (sp_right [(Q1, qPR), (Q2, qPG), (Q3, qLW)]) f__law_pages_right _ := ⟨G__law_pages_right, k__law_pages_right, B__law_pages_right, ok_pages FC__law_pages_right T F__law_heard G__law_heard B__law_heard TX (hTB (c2, Q2) (by simp)) (by simp) hu2 d__law_take d__law_alike d_sealed d_is_page d_body_of⟩
  exact ok_thelaw FC_law T F__law_heard G__law_heard B__law_heard TX (hTB (c3, Q3) (by simp)) (by simp) hu3 TDisk hds hdi hdn q_hm d__law_bag d__law_packs_right d__law_pages_right d__law_take d__law_some d__law_alike d_sealed d_Disk___init__ d_Disk_copied d_Disk_write d_Disk_flush d_Disk_read d_Disk_kept d_Disk_pending d_Disk_cut d_Disk___eq__ d_disk_of d_all_lots
end Net
open PySem PySem.W PyProof.Rows in
set_option maxRecDepth 100000 in
set_option maxHeartbeats 0 in
theorem PySem.Challenge.cw_worknets_k43_data_packed_into_pages_and_holds : PySem.Challenge.rw_worknets_k43_data_packed_into_pages_and.Holds := by
  w_on; o_law; k_head; (case hw => w_witness2)
  k_fill
  refine LamX.walk_ofTs (l := PySem.Challenge.rw_worknets_k43_data_packed_into_pages_and) (n := 63) (k := 13) (x := "script") (CX := fun _ => L2.CX0) rfl (by decide) rfl ⟨rfl, by decide, by decide⟩ (fun w h Y => PySem.W.km_in_of Y) ?F fun _ _ _ _ _ z => z
  case F =>
    intro w mg fa h Y KX G hmg
    have hT8 := km_tabs_of Y
    refine' Net.all_mk KX G hmg ?b_len ?b_isinstance ?b_all ?b_sum ?b_tuple ?b_list ?b_dict ?b_sorted ?b_enumerate ?b_range ?b_zip ?b_int ?b_bool ?b_str ?b_abs ?b_min ?b_set ?k_MOST_BYTE ?k_NUMBER ?k_STRING ?k_TUPLE ?k_BASE ?k_MOST ?k_MOST_DEEP ?k_SIZE ?k_HEAD ?k_MOST_BODY ?k_PRIME ?k_MOST_NUMBER ?k_SIGNS ?e_SIGNS ?a_Reader ?pg_Reader ?hd_Reader ?po_Reader ?sa_Reader ?mk_Reader ?kc_Reader ?a_Disk ?pg_Disk ?hd_Disk ?po_Disk ?sa_Disk ?mk_Disk ?kc_Disk ?n_its_bytes ?n_its_at ?n_its_open ?n_its_kept ?n_its_pending ?q_ha ?q_hn ?q_htk ?q_hm ?q_k1 ?q_k2 ?q_k3 ?hdi ?hdn ?hds ?a_Refused ?x_Refused ?r_Refused ?sa_Refused ?ex_Refused ?ty_Refused ?kc_Refused ?i_Refused ?ti_Refused ?l_Refused ?c_Refused ?lc_Refused ?v_Refused ?fl_Refused ?cel_Refused ?slf_Refused ?sup_Refused ?isV_Refused ?ga_Refused ?gg_Refused ?hd_Refused ?a_BadBytes ?x_BadBytes ?r_BadBytes ?sa_BadBytes ?ex_BadBytes ?ty_BadBytes ?kc_BadBytes ?i_BadBytes ?ti_BadBytes ?l_BadBytes ?c_BadBytes ?lc_BadBytes ?v_BadBytes ?fl_BadBytes ?cel_BadBytes ?slf_BadBytes ?sup_BadBytes ?isV_BadBytes ?ga_BadBytes ?gg_BadBytes ?hd_BadBytes ?n_why ?n_at ?n_fault ?opq ?mgS ?mgC ?a_Nothing ?x_Nothing ?k_Nothing ?b_Nothing ?t_Nothing ?m_nn ?m_rn ?m_rr ?m_bn ?m_br ?m_bb ?g_is_integer ?l_is_integer ?c_is_integer ?k_is_integer ?g_is_within ?l_is_within ?c_is_within ?k_is_within ?g_is_string ?l_is_string ?c_is_string ?k_is_string ?g_are_all ?l_are_all ?c_are_all ?k_are_all ?g_are_integers ?l_are_integers ?c_are_integers ?k_are_integers ?g_are_bytes ?l_are_bytes ?c_are_bytes ?k_are_bytes ?g_is_tuple_of ?l_is_tuple_of ?c_is_tuple_of ?k_is_tuple_of ?g_two ?l_two ?c_two ?k_two ?g_is_leaf ?l_is_leaf ?c_is_leaf ?k_is_leaf ?g_is_data ?l_is_data ?c_is_data ?k_is_data ?g_packed ?l_packed ?c_packed ?k_packed ?g_Reader___init__ ?i_Reader___init__ ?l_Reader___init__ ?c_Reader___init__ ?k_Reader___init__ ?g_Reader_need ?i_Reader_need ?l_Reader_need ?c_Reader_need ?k_Reader_need ?g_Reader_number ?i_Reader_number ?l_Reader_number ?c_Reader_number ?k_Reader_number ?g_Reader_word ?i_Reader_word ?l_Reader_word ?c_Reader_word ?k_Reader_word ?g_Reader_string ?i_Reader_string ?l_Reader_string ?c_Reader_string ?k_Reader_string ?g_Reader_closed ?i_Reader_closed ?l_Reader_closed ?c_Reader_closed ?k_Reader_closed ?g_Reader_step ?i_Reader_step ?l_Reader_step ?c_Reader_step ?k_Reader_step ?g_Reader_whole ?i_Reader_whole ?l_Reader_whole ?c_Reader_whole ?k_Reader_whole ?g_unpacked ?l_unpacked ?c_unpacked ?k_unpacked ?g_sum_bytes ?l_sum_bytes ?c_sum_bytes ?k_sum_bytes ?g_sealed ?l_sealed ?c_sealed ?k_sealed ?g_page_fault ?l_page_fault ?c_page_fault ?k_page_fault ?g_is_page ?l_is_page ?c_is_page ?k_is_page ?g_body_of ?l_body_of ?c_body_of ?k_body_of ?g_Disk___init__ ?i_Disk___init__ ?l_Disk___init__ ?c_Disk___init__ ?k_Disk___init__ ?g_Disk_copied ?i_Disk_copied ?l_Disk_copied ?c_Disk_copied ?k_Disk_copied ?g_Disk_write ?i_Disk_write ?l_Disk_write ?c_Disk_write ?k_Disk_write ?g_Disk_flush ?i_Disk_flush ?l_Disk_flush ?c_Disk_flush ?k_Disk_flush ?g_Disk___eq__ ?i_Disk___eq__ ?l_Disk___eq__ ?c_Disk___eq__ ?k_Disk___eq__ ?g_Disk_pending ?i_Disk_pending ?l_Disk_pending ?c_Disk_pending ?k_Disk_pending ?g_Disk_kept ?i_Disk_kept ?l_Disk_kept ?c_Disk_kept ?k_Disk_kept ?g_Disk_read ?i_Disk_read ?l_Disk_read ?c_Disk_read ?k_Disk_read ?g_Disk_cut ?i_Disk_cut ?l_Disk_cut ?c_Disk_cut ?k_Disk_cut ?g_disk_of ?l_disk_of ?c_disk_of ?k_disk_of ?g_all_lots ?l_all_lots ?c_all_lots ?k_all_lots ?g__law_take ?l__law_take ?c__law_take ?k__law_take ?g__law_some ?l__law_some ?c__law_some ?k__law_some ?g__law_bag ?l__law_bag ?c__law_bag ?k__law_bag ?g__law_alike ?l__law_alike ?c__law_alike ?k__law_alike ?g__law_data ?l__law_data ?c__law_data ?k__law_data ?g__law_bytes ?l__law_bytes ?c__law_bytes ?k__law_bytes ?g__law_fault ?l__law_fault ?c__law_fault ?k__law_fault ?g__law_heard ?l__law_heard ?c__law_heard ?k__law_heard ?g__law_packs_right ?l__law_packs_right ?c__law_packs_right ?k__law_packs_right ?g__law_pages_right ?l__law_pages_right ?c__law_pages_right ?k__law_pages_right ?g_law ?l_law ?c_law ?k_law ?lk_c1 ?v_c1 ?h_c1 ?e_c1 ?nl_c1 ?lk_c2 ?v_c2 ?h_c2 ?e_c2 ?nl_c2 ?lk_c3 ?v_c3 ?h_c3 ?e_c3 ?nl_c3 ?nQ12 ?nQ13 ?nQ23
    (case b_len => k_is)
    (case b_isinstance => k_is)
    (case b_all => k_is)
    (case b_sum => k_is)
    (case b_tuple => k_is)
    (case b_list => k_is)
    (case b_dict => k_is)
    (case b_sorted => k_is)
    (case b_enumerate => k_is)
    (case b_range => k_is)
    (case b_zip => k_is)
    (case b_int => k_is)
    (case b_bool => k_is)
    (case b_str => k_is)
    (case b_abs => k_is)
    (case b_min => k_is)
    (case b_set => k_is)
    (case k_MOST_BYTE => k_is)
    (case k_NUMBER => k_is)
    (case k_STRING => k_is)
    (case k_TUPLE => k_is)
    (case k_BASE => k_is)
    (case k_MOST => k_is)
    (case k_MOST_DEEP => k_is)
    (case k_SIZE => k_is)
    (case k_HEAD => k_is)
    (case k_MOST_BODY => k_is)
    (case k_PRIME => k_is)
    (case k_MOST_NUMBER => k_is)
    (case k_SIGNS => k_is)
    (case e_SIGNS => kernel_rfl)
    (case a_Reader => k_is)
    (case pg_Reader => k_is)
    (case hd_Reader => k_is)
    (case po_Reader => k_is)
    (case sa_Reader => k_is)
    (case mk_Reader => k_is)
    (case kc_Reader => k_is)
    (case a_Disk => k_is)
    (case pg_Disk => k_is)
    (case hd_Disk => k_is)
    (case po_Disk => k_is)
    (case sa_Disk => k_is)
    (case mk_Disk => k_is)
    (case kc_Disk => k_is)
    (case n_its_bytes => k_is)
    (case n_its_at => k_is)
    (case n_its_open => k_is)
    (case n_its_kept => k_is)
    (case n_its_pending => k_is)
    (case q_ha => k_is)
    (case q_hn => k_is)
    (case q_htk => k_is)
    (case q_hm => k_is)
    (case q_k1 => kernel_rfl)
    (case q_k2 => kernel_rfl)
    (case q_k3 => kernel_rfl)
    (case hdi => k_is)
    (case hdn => k_is)
    (case hds => k_is)
    (case a_Refused => k_is)
    (case x_Refused => k_is)
    (case r_Refused => rfl)
    (case sa_Refused => k_is)
    (case ex_Refused => k_is)
    (case ty_Refused => k_is)
    (case kc_Refused => k_is)
    (case i_Refused => k_is)
    (case ti_Refused => k_is)
    (case l_Refused => k_is)
    (case c_Refused => k_is)
    (case lc_Refused => k_is)
    (case v_Refused => rfl)
    (case fl_Refused => kernel_rfl)
    (case cel_Refused => k_is)
    (case slf_Refused => k_is)
    (case sup_Refused => kernel_rfl)
    (case isV_Refused => k_is)
    (case ga_Refused => k_is)
    (case gg_Refused => k_is)
    (case hd_Refused => k_is)
    (case a_BadBytes => k_is)
    (case x_BadBytes => k_is)
    (case r_BadBytes => rfl)
    (case sa_BadBytes => k_is)
    (case ex_BadBytes => k_is)
    (case ty_BadBytes => k_is)
    (case kc_BadBytes => k_is)
    (case i_BadBytes => k_is)
    (case ti_BadBytes => k_is)
    (case l_BadBytes => k_is)
    (case c_BadBytes => k_is)
    (case lc_BadBytes => k_is)
    (case v_BadBytes => rfl)
    (case fl_BadBytes => kernel_rfl)
    (case cel_BadBytes => k_is)
    (case slf_BadBytes => k_is)
    (case sup_BadBytes => kernel_rfl)
    (case isV_BadBytes => k_is)
    (case ga_BadBytes => k_is)
    (case gg_BadBytes => k_is)
    (case hd_BadBytes => k_is)
    (case n_why => k_is)
    (case n_at => k_is)
    (case n_fault => k_is)
    (case opq => k_is)
    (case mgS => k_is)
    (case mgC => rfl)
    (case a_Nothing => k_is)
    (case x_Nothing => kernel_rfl)
    (case k_Nothing => k_is)
    (case b_Nothing => k_is)
    (case t_Nothing => k_is)
    (case m_nn => kernel_rfl)
    (case m_rn => kernel_rfl)
    (case m_rr => kernel_rfl)
    (case m_bn => kernel_rfl)
    (case m_br => kernel_rfl)
    (case m_bb => kernel_rfl)
    (case g_is_integer => k_is)
    (case l_is_integer => k_is)
    (case c_is_integer => k_is)
    (case k_is_integer => k_is)
    (case g_is_within => k_is)
    (case l_is_within => k_is)
    (case c_is_within => k_is)
    (case k_is_within => k_is)
    (case g_is_string => k_is)
    (case l_is_string => k_is)
    (case c_is_string => k_is)
    (case k_is_string => k_is)
    (case g_are_all => k_is)
    (case l_are_all => k_is)
    (case c_are_all => k_is)
    (case k_are_all => k_is)
    (case g_are_integers => k_is)
    (case l_are_integers => k_is)
    (case c_are_integers => k_is)
    (case k_are_integers => k_is)
    (case g_are_bytes => k_is)
    (case l_are_bytes => k_is)
    (case c_are_bytes => k_is)
    (case k_are_bytes => k_is)
    (case g_is_tuple_of => k_is)
    (case l_is_tuple_of => k_is)
    (case c_is_tuple_of => k_is)
    (case k_is_tuple_of => k_is)
    (case g_two => k_is)
    (case l_two => k_is)
    (case c_two => k_is)
    (case k_two => k_is)
    (case g_is_leaf => k_is)
    (case l_is_leaf => k_is)
    (case c_is_leaf => k_is)
    (case k_is_leaf => k_is)
    (case g_is_data => k_is)
    (case l_is_data => k_is)
    (case c_is_data => k_is)
    (case k_is_data => k_is)
    (case g_packed => k_is)
    (case l_packed => k_is)
    (case c_packed => k_is)
    (case k_packed => k_is)
    (case g_Reader___init__ => k_is)
    (case i_Reader___init__ => k_is)
    (case l_Reader___init__ => k_is)
    (case c_Reader___init__ => k_is)
    (case k_Reader___init__ => k_is)
    (case g_Reader_need => k_is)
    (case i_Reader_need => k_is)
    (case l_Reader_need => k_is)
    (case c_Reader_need => k_is)
    (case k_Reader_need => k_is)
    (case g_Reader_number => k_is)
    (case i_Reader_number => k_is)
    (case l_Reader_number => k_is)
    (case c_Reader_number => k_is)
    (case k_Reader_number => k_is)
    (case g_Reader_word => k_is)
    (case i_Reader_word => k_is)
    (case l_Reader_word => k_is)
    (case c_Reader_word => k_is)
    (case k_Reader_word => k_is)
    (case g_Reader_string => k_is)
    (case i_Reader_string => k_is)
    (case l_Reader_string => k_is)
    (case c_Reader_string => k_is)
    (case k_Reader_string => k_is)
    (case g_Reader_closed => k_is)
    (case i_Reader_closed => k_is)
    (case l_Reader_closed => k_is)
    (case c_Reader_closed => k_is)
    (case k_Reader_closed => k_is)
    (case g_Reader_step => k_is)
    (case i_Reader_step => k_is)
    (case l_Reader_step => k_is)
    (case c_Reader_step => k_is)
    (case k_Reader_step => k_is)
    (case g_Reader_whole => k_is)
    (case i_Reader_whole => k_is)
    (case l_Reader_whole => k_is)
    (case c_Reader_whole => k_is)
    (case k_Reader_whole => k_is)
    (case g_unpacked => k_is)
    (case l_unpacked => k_is)
    (case c_unpacked => k_is)
    (case k_unpacked => k_is)
    (case g_sum_bytes => k_is)
    (case l_sum_bytes => k_is)
    (case c_sum_bytes => k_is)
    (case k_sum_bytes => k_is)
    (case g_sealed => k_is)
    (case l_sealed => k_is)
    (case c_sealed => k_is)
    (case k_sealed => k_is)
    (case g_page_fault => k_is)
    (case l_page_fault => k_is)
    (case c_page_fault => k_is)
    (case k_page_fault => k_is)
    (case g_is_page => k_is)
    (case l_is_page => k_is)
    (case c_is_page => k_is)
    (case k_is_page => k_is)
    (case g_body_of => k_is)
    (case l_body_of => k_is)
    (case c_body_of => k_is)
    (case k_body_of => k_is)
    (case g_Disk___init__ => k_is)
    (case i_Disk___init__ => k_is)
    (case l_Disk___init__ => k_is)
    (case c_Disk___init__ => k_is)
    (case k_Disk___init__ => k_is)
    (case g_Disk_copied => k_is)
    (case i_Disk_copied => k_is)
    (case l_Disk_copied => k_is)
    (case c_Disk_copied => k_is)
    (case k_Disk_copied => k_is)
    (case g_Disk_write => k_is)
    (case i_Disk_write => k_is)
    (case l_Disk_write => k_is)
    (case c_Disk_write => k_is)
    (case k_Disk_write => k_is)
    (case g_Disk_flush => k_is)
    (case i_Disk_flush => k_is)
    (case l_Disk_flush => k_is)
    (case c_Disk_flush => k_is)
    (case k_Disk_flush => k_is)
    (case g_Disk___eq__ => k_is)
    (case i_Disk___eq__ => k_is)
    (case l_Disk___eq__ => k_is)
    (case c_Disk___eq__ => k_is)
    (case k_Disk___eq__ => k_is)
    (case g_Disk_pending => k_is)
    (case i_Disk_pending => k_is)
    (case l_Disk_pending => k_is)
    (case c_Disk_pending => k_is)
    (case k_Disk_pending => k_is)
    (case g_Disk_kept => k_is)
    (case i_Disk_kept => k_is)
    (case l_Disk_kept => k_is)
    (case c_Disk_kept => k_is)
    (case k_Disk_kept => k_is)
    (case g_Disk_read => k_is)
    (case i_Disk_read => k_is)
    (case l_Disk_read => k_is)
    (case c_Disk_read => k_is)
    (case k_Disk_read => k_is)
    (case g_Disk_cut => k_is)
    (case i_Disk_cut => k_is)
    (case l_Disk_cut => k_is)
    (case c_Disk_cut => k_is)
    (case k_Disk_cut => k_is)
    (case g_disk_of => k_is)
    (case l_disk_of => k_is)
    (case c_disk_of => k_is)
    (case k_disk_of => k_is)
    (case g_all_lots => k_is)
    (case l_all_lots => k_is)
    (case c_all_lots => k_is)
    (case k_all_lots => k_is)
    (case g__law_take => k_is)
    (case l__law_take => k_is)
    (case c__law_take => k_is)
    (case k__law_take => k_is)
    (case g__law_some => k_is)
    (case l__law_some => k_is)
    (case c__law_some => k_is)
    (case k__law_some => k_is)
    (case g__law_bag => k_is)
    (case l__law_bag => k_is)
    (case c__law_bag => k_is)
    (case k__law_bag => k_is)
    (case g__law_alike => k_is)
    (case l__law_alike => k_is)
    (case c__law_alike => k_is)
    (case k__law_alike => k_is)
    (case g__law_data => k_is)
    (case l__law_data => k_is)
    (case c__law_data => k_is)
    (case k__law_data => k_is)
    (case g__law_bytes => k_is)
    (case l__law_bytes => k_is)
    (case c__law_bytes => k_is)
    (case k__law_bytes => k_is)
    (case g__law_fault => k_is)
    (case l__law_fault => k_is)
    (case c__law_fault => k_is)
    (case k__law_fault => k_is)
    (case g__law_heard => k_is)
    (case l__law_heard => k_is)
    (case c__law_heard => k_is)
    (case k__law_heard => k_is)
    (case g__law_packs_right => k_is)
    (case l__law_packs_right => k_is)
    (case c__law_packs_right => k_is)
    (case k__law_packs_right => k_is)
    (case g__law_pages_right => k_is)
    (case l__law_pages_right => k_is)
    (case c__law_pages_right => k_is)
    (case k__law_pages_right => k_is)
    (case g_law => k_is)
    (case l_law => k_is)
    (case c_law => k_is)
    (case k_law => k_is)
    (case lk_c1 => k_is)
    (case v_c1 => rfl)
    (case h_c1 => kernel_rfl)
    (case e_c1 => exact hT8 _ (by k_mem))
    (case nl_c1 => kernel_rfl)
    (case lk_c2 => k_is)
    (case v_c2 => rfl)
    (case h_c2 => kernel_rfl)
    (case e_c2 => exact hT8 _ (by k_mem))
    (case nl_c2 => kernel_rfl)
    (case lk_c3 => k_is)
    (case v_c3 => rfl)
    (case h_c3 => kernel_rfl)
    (case e_c3 => exact hT8 _ (by k_mem))
    (case nl_c3 => kernel_rfl)
    (case nQ12 => decide)
    (case nQ13 => decide)
    (case nQ23 => decide)
#print axioms PySem.Challenge.cw_worknets_k43_data_packed_into_pages_and_holds
